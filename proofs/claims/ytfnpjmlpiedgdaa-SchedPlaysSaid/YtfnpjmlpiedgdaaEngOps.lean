/-
  The operations, one lemma each.
-/
import Derived.Laws.ResultCell
import Derived.Test.YtfnpjmlpiedgdaaEngHeap
import Derived.WalkKit
import Derived.WalkLawsBesides
namespace Go.Eng

abbrev Str := List UInt8
abbrev bs (l : Str) : ByteArray := ⟨l.toArray⟩

/-! ### Closed facts on types -/
/-- The type's size in cells and in bytes, and its zero value. -/
def TI (P : Program) (t : TypeId) (size bytes : Nat) (zero : Value) : Prop := (P.info? t).map (fun i => (i.zero, i.size, i.bytes)) = some (some zero, size, bytes)
theorem ti_mk {P : Program} {t : TypeId} {s b : Nat} {z : Value} (h : (P.info? t).map (fun i => (i.zero, i.size, i.bytes)) = some (some z, s, b)) : TI P t s b z := h
theorem TI.parts {P : Program} {t : TypeId} {s b : Nat} {z : Value} (h : TI P t s b z) : ∃ i, P.info? t = some i ∧ i.zero = some z ∧ i.size = s ∧ i.bytes = b := by
  unfold TI at h
  cases hi : P.info? t with
  | none => rw [hi] at h; cases h
  | some i => rw [hi] at h; simp at h; exact ⟨i, rfl, h.1, h.2.1, h.2.2⟩
/-- Field i of the struct type s lies off cells in. -/
def FA (P : Program) (s i off : Nat) : Prop := ∃ fs f inf, P.underlying s = some (.struct fs) ∧ fs[i]? = some f ∧ P.info? f.type = some inf ∧ inf.size ≠ 0 ∧ f.offset = off
/-- A variable of the type is one cell. -/
def NA (P : Program) (t : TypeId) : Prop := ∃ d, P.underlying t = some d ∧ (match d with | .struct _ | .array _ _ => False | _ => True)
/-- A variable of the type is so many cells. -/
def AG (P : Program) (t size : Nat) : Prop := ∃ d i, P.underlying t = some d ∧ (match d with | .struct _ | .array _ _ => True | _ => False) ∧ P.info? t = some i ∧ i.size = size

theorem ag_struct {P : Program} {t s b : Nat} {z : Value} {fs : Array Field} (hu : P.underlying t = some (.struct fs)) (h : TI P t s b z) : AG P t s := let ⟨i, h1, _, h3, _⟩ := h.parts; ⟨_, i, hu, trivial, h1, h3⟩
theorem ag_array {P : Program} {t s b k e : Nat} {z : Value} (hu : P.underlying t = some (.array k e)) (h : TI P t s b z) : AG P t s := let ⟨i, h1, _, h3, _⟩ := h.parts; ⟨_, i, hu, trivial, h1, h3⟩
theorem fa_mk {P : Program} {s i off : Nat} {fs : Array Field} {f : Field} (h1 : P.underlying s = some (.struct fs)) (h2 : fs[i]? = some f) (h3 : f.offset = off) (h4 : (P.info? f.type).map (fun i => !Nat.beq i.size 0) = some true) : FA P s i off := by
  cases hi : P.info? f.type with
  | none => rw [hi] at h4; cases h4
  | some inf =>
    rw [hi] at h4
    refine ⟨fs, f, inf, h1, h2, hi, fun h0 => ?_, h3⟩
    simp [h0] at h4

section
variable {P : Program} {n : Nat} {env : Env} {S : World → Prop} {dst : Option Tmp} {ty : TypeId} {pos : String} {after : Array Edge} {g : Option (Nat × Bool)} {x y z : Operand} {u v : Value}

theorem y_move (hx : env.ev x = some v) : Yv P n ⟨dst, .move x, ty, pos, after, g⟩ env S v := fun a w ha _ => by
  simp [execOp, ha.eval hx]
theorem y_assign (hx : env.ev x = some v) : Yv P n ⟨dst, .assign x, ty, pos, after, g⟩ env S v := fun a w ha _ => by
  simp [execOp, ha.eval hx]

theorem y_pick {b : Bool} (hx : env.ev x = some (.bool b)) (hy : env.ev y = some u) (hz : env.ev z = some v) : Yv P n ⟨dst, .pick x y z, ty, pos, after, g⟩ env S (bif b then u else v) := fun a w ha _ => by
  cases b <;> simp [execOp, ha.eval hx, ha.eval hy, ha.eval hz, asBool]
theorem y_pick_t (hx : env.ev x = some (.bool true)) (hy : env.ev y = some u) : Yv P n ⟨dst, .pick x y z, ty, pos, after, g⟩ env S u := fun a w ha _ => by
  simp [execOp, ha.eval hx, ha.eval hy, asBool]
theorem y_pick_f (hx : env.ev x = some (.bool false)) (hz : env.ev z = some v) : Yv P n ⟨dst, .pick x y z, ty, pos, after, g⟩ env S v := fun a w ha _ => by
  simp [execOp, ha.eval hx, ha.eval hz, asBool]

theorem y_nilCheck {p : Addr} (hx : env.ev x = some (.pointer (some p))) : Yv P n ⟨dst, .nilCheck x, ty, pos, after, g⟩ env S (.pointer (some p)) := fun a w ha _ => by
  simp [execOp, ha.eval hx]

theorem run_fieldAt {s i off : Nat} (hf : FA P s i off) (p : Addr) (w : World) : (Instr.fieldAt s (.pointer (some p)) i).run P w = .ok (.pointer (some (p.add off))) w := by
  obtain ⟨fs, f, inf, h1, h2, h3, h4, rfl⟩ := hf
  simp [Instr.fieldAt, run_underlying h1, h2, Instr.sureAddr, fieldPlace, sizeOf, typeInfo, h3, h4]

theorem y_fieldAddr {s i off b o : Nat} (hf : FA P s i off) (hx : env.ev x = some (.pointer (some ⟨b, o, none⟩))) : Yv P n ⟨dst, .fieldAddr s x i, ty, pos, after, g⟩ env S (.pointer (some ⟨b, o + off, none⟩)) := fun a w ha _ => by
  have := run_fieldAt hf ⟨b, o, none⟩ w
  have e : (⟨b, o, none⟩ : Addr).add off = ⟨b, o + off, none⟩ := by unfold Addr.add; split <;> simp_all
  rw [e] at this
  simp [execOp, ha.eval hx, this]
theorem y_fieldAddr_adr {s i off j : Nat} {q : Option Addr} (hf : FA P s i off) (hx : env.ev x = some (.pointer (some (adr q j)))) : Yv P n ⟨dst, .fieldAddr s x i, ty, pos, after, g⟩ env S (.pointer (some (adr q (j + off)))) := fun a w ha _ => by
  have := run_fieldAt hf (adr q j) w
  rw [adr_add] at this
  simp [execOp, ha.eval hx, this]

theorem run_loadVar_one {t : TypeId} (ht : NA P t) {p : Addr} {w : World} (hc : w.cell? p = some v) : (loadVar t p).run P w = .ok v w := by
  obtain ⟨d, h1, h2⟩ := ht
  cases d <;> simp at h2 <;> simp [loadVar, isAgg, run_underlying h1, hc]

theorem y_load {t : TypeId} {p : Addr} (ht : NA P t) (hx : env.ev x = some (.pointer (some p))) (hc : ∀ w, S w → w.cell? p = some v) : Yv P n ⟨dst, .load t x, ty, pos, after, g⟩ env S v := fun a w ha hw => by
  simp [execOp, ha.eval hx, Instr.loadAt, Instr.sureAddr, run_loadVar_one ht (hc w hw)]

theorem run_loadVar_agg {t size : Nat} (ht : AG P t size) {p : Addr} {w : World} {l : List Value} (hl : l.length = size) (hc : ∀ j u, l[j]? = some u → w.cell? (p.add j) = some u) : (loadVar t p).run P w = .ok (.agg l.toArray) w := by
  obtain ⟨d, i, h1, h2, h3, rfl⟩ := ht
  have := run_loadCells_list (P := P) w p l hc
  rw [hl] at this
  cases d <;> simp at h2 <;> simp [loadVar, isAgg, run_underlying h1, sizeOf, typeInfo, h3, this]

theorem y_loadAgg {t size : Nat} {p : Addr} {l : List Value} (ht : AG P t size) (hx : env.ev x = some (.pointer (some p))) (hl : l.length = size) (hc : ∀ w, S w → ∀ j u, l[j]? = some u → w.cell? (p.add j) = some u) :
    Yv P n ⟨dst, .load t x, ty, pos, after, g⟩ env S (.agg l.toArray) := fun a w ha hw => by
  simp [execOp, ha.eval hx, Instr.loadAt, Instr.sureAddr, run_loadVar_agg ht hl (hc w hw)]

/-! a result that is a named variable -/
theorem wq_retC2 {fn : Func} {R : Ending → World → Prop} {p u : Tmp} {rt size : Nat} {pa : Addr} {l : List Value} {v : Value} (ht : AG P rt size) (hr : fn.results = #[.cell p rt, .tmp u]) (hp : env.find p = some (.pointer (some pa))) (hx : env.find u = some v) (hl : l.length = size)
    (hc : ∀ w, S w → ∀ j c, l[j]? = some c → w.cell? (pa.add j) = some c) (h : ∀ w, S w → R (.returned (.tuple #[.agg l.toArray, v])) w) : WQ n (bodyPost P fn R) .ret env S := fun a w ha hw =>
  ⟨ha.defers, .tuple #[.agg l.toArray, v], by rw [results_cell_tmp hr]; simp [Array.getD_eq_getD_getElem?, ha.get p _ hp, ha.get u v hx, asAddr, run_loadVar_agg ht hl (hc w hw), Result.andThen], h w hw⟩

/-! integers -/
theorem run_int (op : BinOp) (t : TypeId) (k : IntKind) (a b : Int) (hop : match op with | .add | .sub | .mul => True | _ => False) :
    binOp op t (.int k a) (.int k b) = Op.intArith op k a b := by cases op <;> simp at hop <;> simp [binOp]

theorem run_eqGuard_int (op : BinOp) (t : TypeId) (x y : Operand) (k : IntKind) (a b : Int) (w : World) : (eqGuard op t x y (.int k a) (.int k b)).run P w = .ok () w := by
  cases op <;> simp [eqGuard]

variable {k : IntKind} {p q : Int} {t t' : TypeId}

theorem y_add (hx : env.ev x = some (.int .i64 p)) (hy : env.ev y = some (.int .i64 q)) (h : -9223372036854775808 ≤ p + q ∧ p + q ≤ 9223372036854775807) : Yv P n ⟨dst, .binOp .add t x y t', ty, pos, after, g⟩ env S (.int .i64 (p + q)) := fun a w ha _ => by
  simp [execOp, ha.eval hx, ha.eval hy, run_eqGuard_int, run_int, Op.intArith, IntWalk.i64_in _ h]
theorem y_sub (hx : env.ev x = some (.int .i64 p)) (hy : env.ev y = some (.int .i64 q)) (h : -9223372036854775808 ≤ p - q ∧ p - q ≤ 9223372036854775807) : Yv P n ⟨dst, .binOp .sub t x y t', ty, pos, after, g⟩ env S (.int .i64 (p - q)) := fun a w ha _ => by
  simp [execOp, ha.eval hx, ha.eval hy, run_eqGuard_int, run_int, Op.intArith, IntWalk.i64_in _ h]
theorem y_mul (hx : env.ev x = some (.int .i64 p)) (hy : env.ev y = some (.int .i64 q)) (h : -9223372036854775808 ≤ p * q ∧ p * q ≤ 9223372036854775807) : Yv P n ⟨dst, .binOp .mul t x y t', ty, pos, after, g⟩ env S (.int .i64 (p * q)) := fun a w ha _ => by
  simp [execOp, ha.eval hx, ha.eval hy, run_eqGuard_int, run_int, Op.intArith, IntWalk.i64_in _ h]
/-- With the wrap left in. -/
theorem y_addW (hx : env.ev x = some (.int k p)) (hy : env.ev y = some (.int k q)) : Yv P n ⟨dst, .binOp .add t x y t', ty, pos, after, g⟩ env S (.int k (k.wrap (p + q))) := fun a w ha _ => by
  simp [execOp, ha.eval hx, ha.eval hy, run_eqGuard_int, run_int, Op.intArith]
theorem y_subW (hx : env.ev x = some (.int k p)) (hy : env.ev y = some (.int k q)) : Yv P n ⟨dst, .binOp .sub t x y t', ty, pos, after, g⟩ env S (.int k (k.wrap (p - q))) := fun a w ha _ => by
  simp [execOp, ha.eval hx, ha.eval hy, run_eqGuard_int, run_int, Op.intArith]
theorem y_mulW (hx : env.ev x = some (.int k p)) (hy : env.ev y = some (.int k q)) : Yv P n ⟨dst, .binOp .mul t x y t', ty, pos, after, g⟩ env S (.int k (k.wrap (p * q))) := fun a w ha _ => by
  simp [execOp, ha.eval hx, ha.eval hy, run_eqGuard_int, run_int, Op.intArith]
theorem y_quo (hx : env.ev x = some (.int k p)) (hy : env.ev y = some (.int k q)) (h : q ≠ 0) : Yv P n ⟨dst, .binOp .quo t x y t', ty, pos, after, g⟩ env S (.int k (k.wrap (p.tdiv q))) := fun a w ha _ => by
  simp [execOp, ha.eval hx, ha.eval hy, run_eqGuard_int, binOp, Op.intDiv, h]
theorem y_quoN (hx : env.ev x = some (.int .i64 p)) (hy : env.ev y = some (.int .i64 q)) (h : 0 ≤ p ∧ p ≤ 9223372036854775807 ∧ 1 ≤ q) : Yv P n ⟨dst, .binOp .quo t x y t', ty, pos, after, g⟩ env S (.int .i64 (p / q)) := by
  have := y_quo (P := P) (n := n) (S := S) (dst := dst) (ty := ty) (pos := pos) (after := after) (g := g) (t := t) (t' := t') hx hy (by omega)
  rwa [IntWalk.i64_quo p q h] at this
theorem y_rem (hx : env.ev x = some (.int k p)) (hy : env.ev y = some (.int k q)) (h : q ≠ 0) : Yv P n ⟨dst, .binOp .rem t x y t', ty, pos, after, g⟩ env S (.int k (p.tmod q)) := fun a w ha _ => by
  simp [execOp, ha.eval hx, ha.eval hy, run_eqGuard_int, binOp, Op.intDiv, h]
theorem y_lss (hx : env.ev x = some (.int k p)) (hy : env.ev y = some (.int k q)) : Yv P n ⟨dst, .binOp .lss t x y t', ty, pos, after, g⟩ env S (.bool (decide (p < q))) := fun a w ha _ => by
  simp [execOp, ha.eval hx, ha.eval hy, run_eqGuard_int, binOp, Op.intCmp]
theorem y_leq (hx : env.ev x = some (.int k p)) (hy : env.ev y = some (.int k q)) : Yv P n ⟨dst, .binOp .leq t x y t', ty, pos, after, g⟩ env S (.bool (decide (p ≤ q))) := fun a w ha _ => by
  simp [execOp, ha.eval hx, ha.eval hy, run_eqGuard_int, binOp, Op.intCmp]
theorem y_gtr (hx : env.ev x = some (.int k p)) (hy : env.ev y = some (.int k q)) : Yv P n ⟨dst, .binOp .gtr t x y t', ty, pos, after, g⟩ env S (.bool (decide (q < p))) := fun a w ha _ => by
  simp [execOp, ha.eval hx, ha.eval hy, run_eqGuard_int, binOp, Op.intCmp]
theorem y_geq (hx : env.ev x = some (.int k p)) (hy : env.ev y = some (.int k q)) : Yv P n ⟨dst, .binOp .geq t x y t', ty, pos, after, g⟩ env S (.bool (decide (q ≤ p))) := fun a w ha _ => by
  simp [execOp, ha.eval hx, ha.eval hy, run_eqGuard_int, binOp, Op.intCmp]
theorem y_eqlI (hx : env.ev x = some (.int k p)) (hy : env.ev y = some (.int k q)) : Yv P n ⟨dst, .binOp .eql t x y t', ty, pos, after, g⟩ env S (.bool (decide (p = q))) := fun a w ha _ => by
  simp [execOp, ha.eval hx, ha.eval hy, run_eqGuard_int, binOp, Op.intCmp]; rfl
theorem y_neqI (hx : env.ev x = some (.int k p)) (hy : env.ev y = some (.int k q)) : Yv P n ⟨dst, .binOp .neq t x y t', ty, pos, after, g⟩ env S (.bool (!decide (p = q))) := fun a w ha _ => by
  simp [execOp, ha.eval hx, ha.eval hy, run_eqGuard_int, binOp, Op.intCmp]; rfl

/-! bools -/
theorem y_not {b : Bool} (hx : env.ev x = some (.bool b)) : Yv P n ⟨dst, .unOp .not t x, ty, pos, after, g⟩ env S (.bool (!b)) := fun a w ha _ => by
  simp [execOp, ha.eval hx, Op.unary]
theorem y_negI (hx : env.ev x = some (.int k p)) : Yv P n ⟨dst, .unOp .neg t x, ty, pos, after, g⟩ env S (.int k (k.wrap (0 - p))) := fun a w ha _ => by
  simp [execOp, ha.eval hx, Op.unary, Op.intArith]
theorem y_eqlB {b c : Bool} (ht : P.underlying t = some .bool) (hx : env.ev x = some (.bool b)) (hy : env.ev y = some (.bool c)) : Yv P n ⟨dst, .binOp .eql t x y t', ty, pos, after, g⟩ env S (.bool (b == c)) := fun a w ha _ => by
  simp [execOp, ha.eval hx, ha.eval hy, eqGuard, binOp, Op.equal, Op.maxDepth, run_equalIn_bool' (P := P) w _ t b c ht]
theorem y_neqB {b c : Bool} (ht : P.underlying t = some .bool) (hx : env.ev x = some (.bool b)) (hy : env.ev y = some (.bool c)) : Yv P n ⟨dst, .binOp .neq t x y t', ty, pos, after, g⟩ env S (.bool (!(b == c))) := fun a w ha _ => by
  simp [execOp, ha.eval hx, ha.eval hy, eqGuard, binOp, Op.equal, Op.maxDepth, run_equalIn_bool' (P := P) w _ t b c ht]

/-! strings -/
variable {l m : Str}
theorem beq_dec (l m : Str) : (l == m) = decide (l = m) := by by_cases h : l = m <;> simp [h]
theorem bs_toList (l : Str) : (bs l).toList = l := ByteArray.toList_mk l
theorem bs_size (l : Str) : (bs l).size = l.length := by simp [ByteArray.size]
theorem bs_append (l m : Str) : bs l ++ bs m = bs (l ++ m) := by
  apply ByteArray.ext; simp
theorem y_eqlS (hx : env.ev x = some (.string (bs l))) (hy : env.ev y = some (.string (bs m))) : Yv P n ⟨dst, .binOp .eql t x y t', ty, pos, after, g⟩ env S (.bool (decide (l = m))) := fun a w ha _ => by
  simp only [execOp, ha.eval hx, ha.eval hy, eqGuard, binOp_string_eql, bs_toList, beq_dec]
  simp
theorem y_neqS (hx : env.ev x = some (.string (bs l))) (hy : env.ev y = some (.string (bs m))) : Yv P n ⟨dst, .binOp .neq t x y t', ty, pos, after, g⟩ env S (.bool (!decide (l = m))) := fun a w ha _ => by
  simp only [execOp, ha.eval hx, ha.eval hy, eqGuard, binOp_string_neq, bs_toList, beq_dec]
  simp
theorem y_lssS (hx : env.ev x = some (.string (bs l))) (hy : env.ev y = some (.string (bs m))) : Yv P n ⟨dst, .binOp .lss t x y t', ty, pos, after, g⟩ env S (.bool (Op.bytesLess l m)) := fun a w ha _ => by
  simp [execOp, ha.eval hx, ha.eval hy, eqGuard, binOp, Op.stringOp]
theorem y_leqS (hx : env.ev x = some (.string (bs l))) (hy : env.ev y = some (.string (bs m))) : Yv P n ⟨dst, .binOp .leq t x y t', ty, pos, after, g⟩ env S (.bool (Op.bytesLess l m || decide (l = m))) := fun a w ha _ => by
  simp [execOp, ha.eval hx, ha.eval hy, eqGuard, binOp, Op.stringOp, beq_dec]
theorem y_gtrS (hx : env.ev x = some (.string (bs l))) (hy : env.ev y = some (.string (bs m))) : Yv P n ⟨dst, .binOp .gtr t x y t', ty, pos, after, g⟩ env S (.bool (!(Op.bytesLess l m || decide (l = m)))) := fun a w ha _ => by
  simp [execOp, ha.eval hx, ha.eval hy, eqGuard, binOp, Op.stringOp, beq_dec]
theorem y_geqS (hx : env.ev x = some (.string (bs l))) (hy : env.ev y = some (.string (bs m))) : Yv P n ⟨dst, .binOp .geq t x y t', ty, pos, after, g⟩ env S (.bool (!Op.bytesLess l m)) := fun a w ha _ => by
  simp [execOp, ha.eval hx, ha.eval hy, eqGuard, binOp, Op.stringOp]
theorem y_addS (hx : env.ev x = some (.string (bs l))) (hy : env.ev y = some (.string (bs m))) (hlen : l.length + m.length ≤ 9223372036854775807) : Yv P n ⟨dst, .binOp .add t x y t', ty, pos, after, g⟩ env S (.string (bs (l ++ m))) := fun a w ha _ => by
  have h : ¬ ((((bs l).size + (bs m).size : Nat) : Int) > IntKind.i64.max) := by
    rw [bs_size, bs_size]; show ¬ (_ > (9223372036854775807 : Int)); omega
  simp only [execOp, ha.eval hx, ha.eval hy, eqGuard, binOp, Op.stringOp, if_neg h, bs_append]
  simp
theorem y_lenS (ht : P.underlying t = some .string) (hx : env.ev x = some (.string (bs l))) : Yv P n ⟨dst, .call { callee := .builtin .len, args := #[x], argTypes := #[t] }, ty, pos, after, g⟩ env S (.int .i64 (l.length : Nat)) := fun a w ha _ => by
  have := run_len_string (P := P) w t ty (bs l) ht
  rw [bs_size] at this
  simp [execOp, resolve, invoke, builtin, ha.eval hx, this, goInt]
theorem y_lenSl {e : TypeId} {a' : Option Addr} {j c : Nat} (ht : P.underlying t = some (.slice e)) (hx : env.ev x = some (.slice a' j c)) : Yv P n ⟨dst, .call { callee := .builtin .len, args := #[x], argTypes := #[t] }, ty, pos, after, g⟩ env S (.int .i64 (j : Nat)) := fun a w ha _ => by
  simp [execOp, resolve, invoke, builtin, Builtin.len_, run_underlying ht, ha.eval hx, goInt]

theorem y_max (hx : env.ev x = some (.int k p)) (hy : env.ev y = some (.int k q)) {ts : Array TypeId} : Yv P n ⟨dst, .call { callee := .builtin .max, args := #[x, y], argTypes := ts }, ty, pos, after, g⟩ env S (.int k (max p q)) := fun a w ha _ => by
  simp [execOp, resolve, invoke, builtin, Builtin.max_, Builtin.max2, ha.eval hx, ha.eval hy]
  split <;> omega
theorem y_min (hx : env.ev x = some (.int k p)) (hy : env.ev y = some (.int k q)) {ts : Array TypeId} : Yv P n ⟨dst, .call { callee := .builtin .min, args := #[x, y], argTypes := ts }, ty, pos, after, g⟩ env S (.int k (min p q)) := fun a w ha _ => by
  simp [execOp, resolve, invoke, builtin, Builtin.min_, Builtin.min2, ha.eval hx, ha.eval hy]
  split <;> omega

/-! pointers -/
theorem run_equal_nilP {e : TypeId} {o : Option Addr} (ht : P.underlying t = some (.pointer e)) (w : World) : (Op.equal t (.pointer o) (.pointer none)).run P w = .ok o.isNone w := by
  have key : ∀ d, (Op.equalIn (d + 1) t (.pointer o) (.pointer none)).run P w = .ok o.isNone w := fun d => by
    cases o <;> simp [Op.equalIn, run_underlying ht]
  exact key 9999
theorem run_eql_nilP {e : TypeId} {o : Option Addr} (ht : P.underlying t = some (.pointer e)) (w : World) : (binOp .eql t (.pointer o) (.pointer none)).run P w = .ok (.bool o.isNone) w := by
  show ((Op.equal t (.pointer o) (.pointer none)) >>= fun b => Pure.pure (Value.bool b)).run P w = _
  rw [Sem.run_bind, run_equal_nilP ht w]; rfl
theorem run_neq_nilP {e : TypeId} {o : Option Addr} (ht : P.underlying t = some (.pointer e)) (w : World) : (binOp .neq t (.pointer o) (.pointer none)).run P w = .ok (.bool (!o.isNone)) w := by
  show ((Op.equal t (.pointer o) (.pointer none)) >>= fun b => Pure.pure (Value.bool (!b))).run P w = _
  rw [Sem.run_bind, run_equal_nilP ht w]; rfl
theorem run_binOp {op : BinOp} (hx : env.ev x = some u) (hy : env.ev y = some v) {r : Value} (h1 : ∀ w, (eqGuard op t x y u v).run P w = .ok () w) (h2 : ∀ w, S w → (binOp op t u v).run P w = .ok r w) :
    Yv P n ⟨dst, .binOp op t x y t', ty, pos, after, g⟩ env S r := fun a w ha hw => by
  show ((do let v ← (do eqGuard op t x y (a.eval x) (a.eval y); binOp op t (a.eval x) (a.eval y)); Pure.pure (Next.value v) : Sem Next)).run P w = _
  rw [ha.eval hx, ha.eval hy]
  simp only [Sem.run_bind, h1 w, Result.andThen_ok, h2 w hw, Sem.run_pure]
theorem y_eqlP {e : TypeId} {o : Option Addr} (ht : P.underlying t = some (.pointer e)) (hx : env.ev x = some (.pointer o)) (hy : env.ev y = some (.pointer none)) : Yv P n ⟨dst, .binOp .eql t x y t', ty, pos, after, g⟩ env S (.bool o.isNone) :=
  run_binOp hx hy (fun _ => rfl) (fun w _ => run_eql_nilP ht w)
theorem y_neqP {e : TypeId} {o : Option Addr} (ht : P.underlying t = some (.pointer e)) (hx : env.ev x = some (.pointer o)) (hy : env.ev y = some (.pointer none)) : Yv P n ⟨dst, .binOp .neq t x y t', ty, pos, after, g⟩ env S (.bool (!o.isNone)) :=
  run_binOp hx hy (fun _ => rfl) (fun w _ => run_neq_nilP ht w)

/-! parts of values -/
theorem y_extract {vs : List Value} {i : Nat} (hx : env.ev x = some (.tuple vs.toArray)) (hi : vs[i]? = some v) : Yv P n ⟨dst, .extract x i, ty, pos, after, g⟩ env S v := fun a w ha _ => by
  simp [execOp, ha.eval hx, Instr.extract, hi]

/-- The cells of a field of the struct type. -/
theorem y_field {s i off : Nat} {fs : Array Field} {f : Field} {cs : List Value} (h1 : P.underlying s = some (.struct fs)) (h2 : fs[i]? = some f) (h3 : NA P f.type) (hoff : f.offset = off) (hx : env.ev x = some (.agg cs.toArray)) (hv : cs[off]? = some v) :
    Yv P n ⟨dst, .field s x i, ty, pos, after, g⟩ env S v := fun a w ha _ => by
  obtain ⟨d, h4, h5⟩ := h3
  subst hoff
  cases d <;> simp at h5 <;> simp [execOp, ha.eval hx, Instr.field, run_underlying h1, h2, part, isAgg, run_underlying h4, asAgg, hv]
theorem y_fieldAgg {s i size : Nat} {fs : Array Field} {f : Field} {cs : List Value} (h1 : P.underlying s = some (.struct fs)) (h2 : fs[i]? = some f) (h3 : AG P f.type size) (hx : env.ev x = some (.agg cs.toArray)) :
    Yv P n ⟨dst, .field s x i, ty, pos, after, g⟩ env S (.agg ((cs.drop f.offset).take size).toArray) := fun a w ha _ => by
  obtain ⟨d, inf, h4, h5, h6, rfl⟩ := h3
  cases d <;> simp at h5 <;> simp [execOp, ha.eval hx, Instr.field, run_underlying h1, h2, part, isAgg, run_underlying h4, asAgg, sizeOf, typeInfo, h6]

/-! indices -/
theorem y_indexAddr {e : TypeId} {size bytes : Nat} {zero : Value} {o : Option Addr} {j c i : Nat} (ht : P.underlying t = some (.slice e)) (he : TI P e size bytes zero) (hx : env.ev x = some (.slice o j c)) (hy : env.ev y = some (.int k p))
    (hp : p = (i : Int)) (hi : i < j) (ho : ∀ w, S w → o.isSome = true) : Yv P n ⟨dst, .indexAddr t x y, ty, pos, after, g⟩ env S (.pointer (some (adr o (i * size)))) := fun a w ha hw => by
  obtain ⟨inf, h1, _, h2, _⟩ := he.parts
  subst hp h2
  have hos := ho w hw
  cases o with
  | none => cases hos
  | some b =>
    simp [execOp, ha.eval hx, ha.eval hy, Instr.indexAt, asIntOf, run_underlying ht, hi, sizeOf, typeInfo, h1, adr]

theorem y_indexS {i : Nat} {c : UInt8} (ht : P.underlying t = some .string) (hx : env.ev x = some (.string (bs l))) (hy : env.ev y = some (.int k p)) (hp : p = (i : Int)) (hi : l[i]? = some c) :
    Yv P n ⟨dst, .index t x y, ty, pos, after, g⟩ env S (.int .u8 (c.toNat : Int)) := fun a w ha _ => by
  subst hp
  have hlt := (List.getElem?_eq_some_iff.1 hi).1
  have : (bs l)[i]? = some c := by
    rw [ByteArray.getElem?_lt' _ _ (by rw [bs_size]; exact hlt)]
    have := (List.getElem?_eq_some_iff.1 hi).2
    show some ((bs l).data[i]) = _
    simp [this]
  simp [execOp, ha.eval hx, ha.eval hy, Instr.index, asIntOf, run_underlying ht, this]

/-! slices -/
theorem bs_extract (l : Str) (i j : Nat) : (bs l).extract i j = bs ((l.take j).drop i) := by
  apply ByteArray.ext
  rw [ByteArray.data_extract]
  simp [List.drop_take]

theorem run_bounds {isSlice : Bool} {lo hi : Option Value} {len cap i j : Nat} (hlo : match lo with | none => i = 0 | some q => q = .int .i64 (i : Int)) (hhi : match hi with | none => j = len | some q => q = .int .i64 (j : Int)) (hij : i ≤ j) (hj : hi.isSome = true → j ≤ cap) (w : World) :
    (Instr.sliceBounds isSlice len cap lo hi none).run P w = .ok (i, j, cap) w := by
  have hb : ∀ (code : BoundsCode) (m y : Nat), m ≤ y → (Instr.sliceBound (.int .i64 (m : Int)) y code).run P w = .ok m w := fun code m y h => by
    have : (0 : Int) ≤ (m : Int) ∧ (m : Int) ≤ (y : Int) := by omega
    simp [Instr.sliceBound, asIntOf, h]
  unfold Instr.sliceBounds
  cases lo <;> cases hi <;> simp only at hlo hhi <;> subst hlo <;> subst hhi
  · simp
  · simp [hb _ j cap (hj rfl)]
  · simp [hb _ i j hij]
  · simp [hb _ j cap (hj rfl), hb _ i j hij]

theorem ev_opt {lo : Option Operand} {i : Nat} {a : Act} (ha : Sat n env a) (hlo : match lo with | none => i = 0 | some q => ∃ m : Int, env.ev q = some (.int .i64 m) ∧ m = (i : Int)) :
    match lo.map a.eval with | none => i = 0 | some q => q = .int .i64 (i : Int) := by
  cases lo with
  | none => exact hlo
  | some q => obtain ⟨m, hm, rfl⟩ := hlo; exact ha.eval hm
theorem ev_opt' {hi : Option Operand} {j len : Nat} {a : Act} (ha : Sat n env a) (hhi : match hi with | none => j = len | some q => ∃ m : Int, env.ev q = some (.int .i64 m) ∧ m = (j : Int)) :
    match hi.map a.eval with | none => j = len | some q => q = .int .i64 (j : Int) := by
  cases hi with
  | none => exact hhi
  | some q => obtain ⟨m, hm, rfl⟩ := hhi; exact ha.eval hm

theorem y_sliceS {lo hi : Option Operand} {i j : Nat} {r : Str} (ht : P.underlying t = some .string) (hx : env.ev x = some (.string (bs l)))
    (hlo : match lo with | none => i = 0 | some q => ∃ m : Int, env.ev q = some (.int .i64 m) ∧ m = (i : Int)) (hhi : match hi with | none => j = l.length | some q => ∃ m : Int, env.ev q = some (.int .i64 m) ∧ m = (j : Int)) (hij : i ≤ j) (hj : j ≤ l.length)
    (hr : (l.take j).drop i = r) : Yv P n ⟨dst, .slice t x lo hi none, ty, pos, after, g⟩ env S (.string (bs r)) := fun a w ha _ => by
  subst hr
  rw [← bs_extract]
  have h := run_bounds (P := P) (isSlice := false) (len := l.length) (cap := l.length) (ev_opt ha hlo) (ev_opt' ha hhi) hij (fun _ => hj) w
  simp [execOp, ha.eval hx, Instr.sliceAt, Instr.slice, run_underlying ht, bs_size, h]

/-- Where a slice of a slice begins. -/
def cutAt (o : Option Addr) (off cap size : Nat) : Option Addr := if cap = off then o else o.map (·.add (off * size))

theorem y_sliceSl {e : TypeId} {size bytes : Nat} {zero : Value} {lo hi : Option Operand} {o : Option Addr} {len cap i j : Nat} (ht : P.underlying t = some (.slice e)) (he : TI P e size bytes zero) (hx : env.ev x = some (.slice o len cap))
    (hlo : match lo with | none => i = 0 | some q => ∃ m : Int, env.ev q = some (.int .i64 m) ∧ m = (i : Int)) (hhi : match hi with | none => j = len | some q => ∃ m : Int, env.ev q = some (.int .i64 m) ∧ m = (j : Int)) (hij : i ≤ j) (hj : j ≤ cap) :
    Yv P n ⟨dst, .slice t x lo hi none, ty, pos, after, g⟩ env S (.slice (cutAt o i cap size) (j - i) (cap - i)) := fun a w ha _ => by
  obtain ⟨inf, h1, _, h2, _⟩ := he.parts
  subst h2
  have h := run_bounds (P := P) (isSlice := true) (len := len) (cap := cap) (ev_opt ha hlo) (ev_opt' ha hhi) hij (fun _ => hj) w
  simp [execOp, ha.eval hx, Instr.sliceAt, Instr.slice, run_underlying ht, h, sizeOf, typeInfo, h1, cutAt]
end
end Go.Eng
