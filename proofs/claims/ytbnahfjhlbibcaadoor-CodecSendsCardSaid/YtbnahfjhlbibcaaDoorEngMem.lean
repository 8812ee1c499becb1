/-
  The operations that make memory or write into it, and calls.
-/
import Derived.Test.YtbnahfjhlbibcaaDoorEngOps
namespace Go.Eng

def Env.evl (env : Env) : List Operand → Option (List Value)
  | [] => some []
  | x :: r => match env.ev x, Env.evl env r with
    | some v, some vs => some (v :: vs)
    | _, _ => none
def Env.evp (env : Env) : List (Nat × Operand) → Option (List (Nat × Value))
  | [] => some []
  | (i, x) :: r => match env.ev x, Env.evp env r with
    | some v, some vs => some ((i, v) :: vs)
    | _, _ => none

theorem Sat.evl {n : Nat} {env : Env} {a : Act} (ha : Sat n env a) : ∀ {xs : List Operand} {vs : List Value}, env.evl xs = some vs → xs.map a.eval = vs
  | [], vs, h => by simp [Env.evl] at h; simp [h]
  | x :: r, vs, h => by
    simp only [Env.evl] at h
    cases h1 : env.ev x with
    | none => simp [h1] at h
    | some v =>
      cases h2 : env.evl r with
      | none => simp [h1, h2] at h
      | some us =>
        simp only [h1, h2, Option.some.injEq] at h
        subst h
        rw [List.map_cons, ha.eval h1, ha.evl h2]
theorem Sat.evp {n : Nat} {env : Env} {a : Act} (ha : Sat n env a) : ∀ {xs : List (Nat × Operand)} {vs : List (Nat × Value)}, env.evp xs = some vs → xs.map (fun p => (p.1, a.eval p.2)) = vs
  | [], vs, h => by simp [Env.evp] at h; simp [h]
  | (i, x) :: r, vs, h => by
    simp only [Env.evp] at h
    cases h1 : env.ev x with
    | none => simp [h1] at h
    | some v =>
      cases h2 : env.evp r with
      | none => simp [h1, h2] at h
      | some us =>
        simp only [h1, h2, Option.some.injEq] at h
        subst h
        rw [List.map_cons, ha.eval h1, ha.evp h2]

/-- The places of a struct's fields. -/
def PL (P : Program) (t : TypeId) (pl : List (Nat × Nat)) : Prop :=
  ∃ fs, P.underlying t = some (.struct fs) ∧ fs.toList.length = pl.length ∧ ∀ (i : Nat) (f : Field), fs.toList[i]? = some f → ∃ inf, P.info? f.type = some inf ∧ pl[i]? = some (f.offset, inf.size)

/-- Cells in a row overwritten. -/
def setAll : List Value → Nat → List Value → List Value
  | l, _, [] => l
  | l, i, v :: vs => setAll (l.set i v) (i + 1) vs

theorem setAll_length (vs : List Value) : ∀ (l : List Value) (i : Nat), (setAll l i vs).length = l.length := by
  induction vs with
  | nil => intro l i; rfl
  | cons v vs ih => intro l i; rw [setAll, ih]; simp

/-- 'Instr.fill' over lists. -/
def fillL (place : Nat → Option (Nat × Nat)) (l : List Value) : List (Nat × Value) → Option (List Value)
  | [] => some l
  | (i, v) :: rest =>
    match place i with
    | none => none
    | some (off, size) => bif Nat.beq v.cells.toList.length size && Nat.ble (off + size) l.length then fillL place (setAll l off v.cells.toList) rest else none

theorem foldl_setAll : ∀ (vs l : List Value) (off j : Nat), ((vs.zipIdx j).foldl (fun (cs : Array Value) (p : Value × Nat) => cs.setIfInBounds (off + p.2) p.1) l.toArray) = (setAll l (off + j) vs).toArray
  | [], l, off, j => rfl
  | v :: vs, l, off, j => by
    rw [List.zipIdx_cons, List.foldl_cons, setAll]
    have h := foldl_setAll vs (l.set (off + j) v) off (j + 1)
    rw [List.setIfInBounds_toArray]
    exact h

theorem fill_list (place : Nat → Option (Nat × Nat)) : ∀ (parts : List (Nat × Value)) (l r : List Value), fillL place l parts = some r → Instr.fill place l.toArray parts = some r.toArray
  | [], l, r, h => by simp only [fillL, Option.some.injEq] at h; subst h; rfl
  | (i, v) :: rest, l, r, h => by
    simp only [fillL] at h
    unfold Instr.fill
    cases hp : place i with
    | none => rw [hp] at h; cases h
    | some q =>
      obtain ⟨off, size⟩ := q
      simp only [hp] at h ⊢
      cases hb : (Nat.beq v.cells.toList.length size && Nat.ble (off + size) l.length) with
      | false => rw [hb] at h; cases h
      | true =>
        rw [hb] at h
        simp only [Bool.and_eq_true] at hb
        have h1 := Nat.eq_of_beq_eq_true hb.1
        have h2 := Nat.le_of_ble_eq_true hb.2
        have hs : v.cells.size = size := by rw [← h1]; simp
        have hc : ¬ ((decide (v.cells.size ≠ size) || decide (off + v.cells.size > l.toArray.size)) = true) := by simp [hs]; omega
        rw [if_neg hc]
        have hf : (v.cells.zipIdx.foldl (fun (cs : Array Value) (p : Value × Nat) => cs.setIfInBounds (off + p.2) p.1) l.toArray) = (setAll l off v.cells.toList).toArray := by
          rw [← Array.foldl_toList, Array.toList_zipIdx]
          exact foldl_setAll v.cells.toList l off 0
        have := fill_list place rest (setAll l off v.cells.toList) r h
        rw [← hf] at this
        exact this

/-- Zero cells. -/
def zeroL (z : List Value) : Nat → List Value
  | 0 => []
  | n + 1 => z ++ zeroL z n
theorem zeroL_length (z : List Value) : ∀ n, (zeroL z n).length = n * z.length
  | 0 => by simp [zeroL]
  | n + 1 => by rw [zeroL, List.length_append, zeroL_length z n, Nat.add_mul]; omega
theorem zeroL_get (z : List Value) : ∀ (n i : Nat), i < n * z.length → (zeroL z n)[i]? = z[i % z.length]?
  | 0, i, h => by simp at h
  | n + 1, i, h => by
    rw [zeroL]
    by_cases hi : i < z.length
    · rw [List.getElem?_append_left hi, Nat.mod_eq_of_lt hi]
    · rw [List.getElem?_append_right (by omega), zeroL_get z n (i - z.length) (by rw [Nat.add_mul] at h; omega), ← Nat.mod_eq_sub_mod (by omega)]
theorem zeroCells_list (z : List Value) (n : Nat) : Builtin.zeroCells z.toArray n = (zeroL z n).toArray := by
  apply Array.ext'
  apply List.ext_getElem?
  intro i
  by_cases hi : i < n * z.length
  · have hz : 0 < z.length := by
      rcases Nat.eq_zero_or_pos z.length with h | h
      · rw [h] at hi; simp at hi
      · exact h
    have hm : i % z.length < z.length := Nat.mod_lt _ hz
    rw [zeroL_get z n i hi]
    simp [Builtin.zeroCells, hi, List.getElem?_eq_getElem hm]
  · rw [List.getElem?_eq_none (by simp [Builtin.zeroCells]; omega), List.getElem?_eq_none (by simp [zeroL_length]; omega)]

theorem pl_mk {P : Program} {t : TypeId} {fs : Array Field} {pl : List (Nat × Nat)} (h1 : P.underlying t = some (.struct fs)) (h2 : (fs.toList.map fun f => (P.info? f.type).map fun inf => (f.offset, inf.size)) = pl.map some) : PL P t pl := by
  refine ⟨fs, h1, by simpa using congrArg List.length h2, fun i f hf => ?_⟩
  have h3 := congrArg (fun l => l[i]?) h2
  simp only [List.getElem?_map, hf, Option.map_some] at h3
  cases hp : pl[i]? with
  | none => rw [hp] at h3; cases h3
  | some q =>
    rw [hp] at h3
    simp only [Option.map_some, Option.some.injEq] at h3
    cases hi : P.info? f.type with
    | none => rw [hi] at h3; cases h3
    | some inf => rw [hi] at h3; exact ⟨inf, rfl, by simpa using h3.symm⟩

theorem mapM_places {P : Program} (w : World) : ∀ (fs : List Field) (pl : List (Nat × Nat)), fs.length = pl.length → (∀ (i : Nat) (f : Field), fs[i]? = some f → ∃ inf, P.info? f.type = some inf ∧ pl[i]? = some (f.offset, inf.size)) →
    (fs.mapM fun f => do Pure.pure (f.offset, ← sizeOf f.type) : Sem (List (Nat × Nat))).run P w = .ok pl w
  | [], [], _, _ => by simp
  | f :: fs, p :: pl, hl, h => by
    obtain ⟨inf, h1, h2⟩ := h 0 f rfl
    simp only [List.getElem?_cons_zero, Option.some.injEq] at h2
    subst h2
    have ih := mapM_places (P := P) w fs pl (by simpa using hl) (fun i g hg => by simpa using h (i + 1) g (by simpa using hg))
    rw [List.mapM_cons]
    simp only [Sem.run_bind, sizeOf, typeInfo, run_program, Result.andThen_ok, h1, Sem.run_pure]
    simp only [sizeOf, typeInfo] at ih
    rw [ih]
    simp

section
variable {P : Program} {n : Nat} {env : Env} {dst : Option Tmp} {ty : TypeId} {pos : String} {after : Array Edge} {g : Option (Nat × Bool)} {x y z : Operand} {u v : Value} {t e : TypeId}

theorem y_build {S : World → Prop} {parts : List (Nat × Operand)} {vals : List (Nat × Value)} {zero : Value} {size bytes : Nat} {pl : List (Nat × Nat)} {cs : List Value} (hz : TI P t size bytes zero) (hpl : PL P t pl)
    (hp : env.evp parts = some vals) {zl : List Value} (hzl : zero.cells = zl.toArray) (hf : fillL (fun i : Nat => pl[i]?) zl vals = some cs) : Yv P n ⟨dst, .build t parts.toArray, ty, pos, after, g⟩ env S (.agg cs.toArray) := fun a w ha _ => by
  obtain ⟨inf, h1, h2, _, _⟩ := hz.parts
  obtain ⟨fs, h3, h4, h5⟩ := hpl
  have hm := mapM_places (P := P) w fs.toList pl h4 h5
  have he := ha.evp hp
  show ((Functor.map Next.value (Instr.build t (parts.toArray.map fun (i, x) => (i, a.eval x)))) : Sem Next).run P w = _
  have hmap : (parts.toArray.map fun (i, x) => (i, a.eval x)) = vals.toArray := by rw [← he]; simp
  have hm' : (fs.mapM fun f => do Pure.pure (f.offset, ← sizeOf f.type) : Sem (Array (Nat × Nat))).run P w = .ok pl.toArray w := by
    obtain ⟨fl⟩ := fs
    rw [List.mapM_toArray]
    simp only [Sem.run_map, hm, Result.andThen_ok]
  rw [hmap]
  simp only [Sem.run_map, Instr.build, Sem.run_bind, zeroValue, typeInfo, run_program, Result.andThen_ok, h1, Sem.run_pure, h2, run_underlying h3, hm']
  have hg : (fun i : Nat => pl.toArray[i]?) = (fun i : Nat => pl[i]?) := by funext i; simp
  simp only [hg, hzl, fill_list _ _ _ _ hf, Result.andThen_ok, Sem.run_pure]


/-! ### New blocks -/

variable {w0 : World} {O : Nat → Prop} {As post : List Atom}

/-- A value's cells. -/
def cellsL (v : Value) : List Value := v.cells.toList

theorem yw_box {l : List Value} (hx : env.ev x = some v) (hv : v.cells = l.toArray) :
    Yw P n ⟨dst, .box e x, ty, pos, after, g⟩ env (Hp w0 O As) (Rx (fun _ : Nat => True) (fun b => .pointer (some ⟨b, 0, none⟩)) (fun b => Hp w0 O (blk b (.cells l.toArray e (0, 0)) :: As))) := fun a w ha hw => by
  refine ⟨.pointer (some ⟨w.heap.size, 0, none⟩), w.alloc (.cells l.toArray e (0, 0)), ?_, w.heap.size, trivial, rfl, hw.alloc _⟩
  simp [execOp, ha.eval hx, Instr.box, newVar, newRow, hv]

theorem yw_alloc {size bytes : Nat} {zero : Value} {l : List Value} (hz : TI P e size bytes zero) (hv : zero.cells = l.toArray) :
    Yw P n ⟨dst, .alloc e, ty, pos, after, g⟩ env (Hp w0 O As) (Rx (fun _ : Nat => True) (fun b => .pointer (some ⟨b, 0, none⟩)) (fun b => Hp w0 O (blk b (.cells l.toArray e (0, 0)) :: As))) := fun a w _ hw => by
  obtain ⟨inf, h1, h2, _, _⟩ := hz.parts
  refine ⟨.pointer (some ⟨w.heap.size, 0, none⟩), w.alloc (.cells l.toArray e (0, 0)), ?_, w.heap.size, trivial, rfl, hw.alloc _⟩
  simp [execOp, Instr.alloc, zeroValue, typeInfo, h1, h2, newVar, newRow, hv]

theorem yw_buildSlice {size bytes len : Nat} {zero : Value} {parts : List (Nat × Operand)} {vals : List (Nat × Value)} {cs : List Value} (ht : P.underlying t = some (.slice e)) (hz : TI P e size bytes zero) (hlen : Nat.ble (len * size) 16777216 = true) (hpos : Nat.ble 1 (len * size) = true)
    (hp : env.evp parts = some vals) {zl : List Value} (hzl : zero.cells = zl.toArray) (hf : fillL (fun i => some (i * size, size)) (zeroL zl len) vals = some cs) (hzs : Nat.beq zl.length size = true) (hcl : cs.length = len * size) :
    Yw P n ⟨dst, .buildSlice t len parts.toArray, ty, pos, after, g⟩ env (Hp w0 O As) (Rx (fun _ : Nat => True) (fun b => .slice (some ⟨b, 0, none⟩) len len) (fun b => Hp w0 O (slc e size (some ⟨b, 0, none⟩) len len cs :: As))) := fun a w ha hw => by
  obtain ⟨inf, h1, h2, h3, _⟩ := hz.parts
  subst h3
  have he := ha.evp hp
  have hmap : (parts.toArray.map fun (i, x) => (i, a.eval x)) = vals.toArray := by rw [← he]; simp
  have hl1 : ¬ (len * inf.size > 2 ^ 24) := by have := Nat.le_of_ble_eq_true hlen; omega
  have hl2 : ¬ (len * inf.size = 0) := by have := Nat.le_of_ble_eq_true hpos; omega
  refine ⟨.slice (some ⟨w.heap.size, 0, none⟩) len len, w.alloc (.cells cs.toArray e (0, 0)), ?_, w.heap.size, trivial, rfl, ?_⟩
  · show ((Functor.map Next.value (Instr.buildSlice t len (parts.toArray.map fun (i, x) => (i, a.eval x)))) : Sem Next).run P w = _
    rw [hmap]
    have hzc : ((Array.range (len * inf.size)).map (zero.cells[· % zero.cells.size]!)) = (zeroL zl len).toArray := by rw [← zeroCells_list, ← hzl, Builtin.zeroCells, hzl, List.size_toArray, Nat.eq_of_beq_eq_true hzs]
    simp only [Sem.run_map, Instr.buildSlice, Sem.run_bind, run_underlying ht, Result.andThen_ok, sizeOf, typeInfo, run_program, h1, Sem.run_pure, zeroValue, h2, if_neg hl1, if_neg hl2, Sem.run_ite, hzc, fill_list _ _ _ _ hf, newRow, run_newObj]
    rfl
  · exact (hw.alloc (.cells cs.toArray e (0, 0))).conv (Bs := [slc e inf.size (some ⟨w.heap.size, 0, none⟩) len len cs]) fun h hh => ⟨h, [], ⟨hcl, .inr ⟨w.heap.size, 0, cs, rfl, hh, Nat.le_refl _, by omega, by rw [List.drop_zero, ← hcl, List.take_length]⟩⟩, rfl, by simp⟩

/-! ### Stores -/

theorem run_storeVar_one {size bytes : Nat} {zero : Value} (hz : TI P t size bytes zero) (hs : size = 1) (hv : v.cells = #[v]) (hone : v.oneCell' = true) {p : Addr} {w : World} {old : Value} (hc : w.cell? p = some old) (hfr : w.frozen? p = false) :
    (storeVar t p v).run P w = .ok () (w.setCell p v) := by
  obtain ⟨inf, h1, _, h3, _⟩ := hz.parts
  have ha : p.add 0 = p := by simp [Addr.add]
  have h1' : inf.size = 1 := by omega
  simp [storeVar, hv, sizeOf, typeInfo, h1, h1', storeCells, ha, run_store P w p v .plain hone, hc, hfr]

theorem frozen_of_heap {w : World} {b i : Nat} {c : Array Value} {e : TypeId} (h : w.heap[b]? = some (.cells c e (0, 0))) : w.frozen? ⟨b, i, none⟩ = false := by
  simp [World.frozen?, h]

theorem yu_store (pre : List Atom) {b i size bytes : Nat} {zero : Value} {l l' : List Value} (hz : TI P t size bytes zero) (hs : size = 1) (hx : env.ev x = some (.pointer (some ⟨b, i, none⟩))) (hy : env.ev y = some v)
    (hv : v.cells = #[v]) (hone : v.oneCell' = true) (hi : Nat.blt i l.length = true) (hl : l.set i v = l') :
    Yu P n ⟨none, .store t x y, ty, pos, after, g⟩ env (Hp w0 O (pre ++ blk b (.cells l.toArray e (0, 0)) :: post)) (Hp w0 O (pre ++ blk b (.cells l'.toArray e (0, 0)) :: post)) := fun a w ha hw => by
  have hp := hw.pick pre
  have hb := hp.blk_heap
  have hlt : i < l.length := Nat.le_of_ble_eq_true hi
  have hc : w.cell? ⟨b, i, none⟩ = some l[i] := cell_of_heap hb (by simp [hlt])
  have hr := run_storeVar_one (P := P) hz hs hv hone hc (frozen_of_heap hb)
  refine ⟨w.setCell ⟨b, i, none⟩ v, ?_, ?_⟩
  · simp [execOp, ha.eval hx, ha.eval hy, Instr.storeAt, Instr.sureAddr, hr]
  · rw [← hl]; exact (hp.setCell v).perm List.perm_middle.symm

/-- A store through an address in a slice's row. -/
theorem Hp.set_slc (pre : List Atom) {sz : Nat} {o : Option Addr} {k cap j : Nat} {cs : List Value} {w : World} (h : Hp w0 O (pre ++ slc e sz o k cap cs :: post) w) (hj : j < cs.length) (v : Value) :
    w.cell? (adr o j) = some cs[j] ∧ w.frozen? (adr o j) = false ∧ Hp w0 O (pre ++ slc e sz o k cap (cs.set j v) :: post) (w.setCell (adr o j) v) := by
  have hc : w.cell? (adr o j) = some cs[j] := ((h.seen pre).mono fun _ => slc_rsl).cell (by simp [hj])
  obtain ⟨hh, ⟨h1, h2, ha, ho, rfl⟩, hf⟩ := h.pick pre
  obtain ⟨hl, ha⟩ := ha
  rcases ha with ⟨_, rfl, _, _⟩ | ⟨b, off, l, rfl, rfl, hk, hcap, ht⟩
  · rw [Nat.zero_mul] at hl; omega
  · rw [adr_some] at hc ⊢
    have hb : w.heap[b]? = some (.cells l.toArray e (0, 0)) := hf.here (b, _) (by simp)
    refine ⟨hc, frozen_of_heap hb, ?_⟩
    have hp : Hp w0 O (blk b (.cells l.toArray e (0, 0)) :: (pre ++ post)) w := ⟨_, ⟨[(b, .cells l.toArray e (0, 0))], h2, rfl, ho, rfl⟩, hf⟩
    have hlist : ((l.set (off + j) v).drop off).take (k * sz) = cs.set j v := by
      rw [← ht, ← List.take_set, List.drop_set, if_neg (by omega), Nat.add_sub_cancel_left]
    have hq := (hp.setCell (i := off + j) v).conv (Bs := [slc e sz (some ⟨b, off, none⟩) k cap (cs.set j v)]) fun g hg => ⟨g, [], ⟨by simp [hl], .inr ⟨b, off, l.set (off + j) v, rfl, hg, hk, by simpa using hcap, hlist⟩⟩, rfl, by simp⟩
    exact Hp.perm (As := slc e sz (some ⟨b, off, none⟩) k cap (cs.set j v) :: (pre ++ post)) hq List.perm_middle.symm

theorem yu_storeSl (pre : List Atom) {j size bytes sz k cap : Nat} {zero : Value} {o : Option Addr} {cs : List Value} (hz : TI P t size bytes zero) (hs : size = 1) (hx : env.ev x = some (.pointer (some (adr o j)))) (hy : env.ev y = some v)
    (hv : v.cells = #[v]) (hone : v.oneCell' = true) (hj : j < cs.length) :
    Yu P n ⟨none, .store t x y, ty, pos, after, g⟩ env (Hp w0 O (pre ++ slc e sz o k cap cs :: post)) (Hp w0 O (pre ++ slc e sz o k cap (cs.set j v) :: post)) := fun a w ha hw => by
  obtain ⟨hc, hfr, hnew⟩ := Hp.set_slc pre hw hj v
  have hr := run_storeVar_one (P := P) hz hs hv hone hc hfr
  exact ⟨_, by simp [execOp, ha.eval hx, ha.eval hy, Instr.storeAt, Instr.sureAddr, hr], hnew⟩

theorem run_storeCells_blk {b i : Nat} : ∀ (vs : List Value) (l : List Value) (j : Nat) (w : World), Hp w0 O (blk b (.cells l.toArray e (0, 0)) :: post) w → i + j + vs.length ≤ l.length → (∀ v ∈ vs, v.oneCell' = true) →
    ∃ w', (storeCells ⟨b, i, none⟩ vs j).run P w = .ok () w' ∧ Hp w0 O (blk b (.cells (setAll l (i + j) vs).toArray e (0, 0)) :: post) w'
  | [], l, j, w, h, _, _ => ⟨w, by simp [storeCells], h⟩
  | v :: vs, l, j, w, h, hl, h1 => by
    have hb := h.blk_heap
    have hadd : (⟨b, i, none⟩ : Addr).add j = ⟨b, i + j, none⟩ := by unfold Addr.add; split <;> simp_all
    have hlt : i + j < l.length := by simp at hl; omega
    have hc : w.cell? ⟨b, i + j, none⟩ = some l[i + j] := cell_of_heap hb (by simp [hlt])
    obtain ⟨w', hr, hw'⟩ := run_storeCells_blk (b := b) (i := i) vs (l.set (i + j) v) (j + 1) _ (h.setCell v) (by simp at hl ⊢; omega) (fun u hu => h1 u (by simp [hu]))
    refine ⟨w', ?_, by rw [setAll]; exact hw'⟩
    rw [storeCells, hadd]
    simp [run_store P w _ v .plain (h1 v (by simp)), hc, frozen_of_heap hb, hr]

/-- A struct is stored whole. -/
theorem yu_storeAgg (pre : List Atom) {b i size bytes : Nat} {zero : Value} {l l' vs : List Value} (hz : TI P t size bytes zero) (hx : env.ev x = some (.pointer (some ⟨b, i, none⟩))) (hy : env.ev y = some (.agg vs.toArray))
    (hlen : vs.length = size) (hone : ∀ v ∈ vs, v.oneCell' = true) (hi : Nat.ble (i + vs.length) l.length = true) (hl : setAll l i vs = l') :
    Yu P n ⟨none, .store t x y, ty, pos, after, g⟩ env (Hp w0 O (pre ++ blk b (.cells l.toArray e (0, 0)) :: post)) (Hp w0 O (pre ++ blk b (.cells l'.toArray e (0, 0)) :: post)) := fun a w ha hw => by
  obtain ⟨inf, h1, _, h3, _⟩ := hz.parts
  obtain ⟨w', hr, hw'⟩ := run_storeCells_blk (P := P) (i := i) vs l 0 w (hw.pick pre) (Nat.le_of_ble_eq_true hi) hone
  refine ⟨w', ?_, by rw [← hl]; exact Hp.perm hw' List.perm_middle.symm⟩
  have hs : ((Value.agg vs.toArray).cells.size ≠ inf.size) = False := by simp [Value.cells, hlen, h3]
  simp [execOp, ha.eval hx, ha.eval hy, Instr.storeAt, Instr.sureAddr, storeVar, sizeOf, typeInfo, h1, Value.cells, hlen, h3, hr]

theorem run_storeCells_slc (pre : List Atom) {sz : Nat} {o : Option Addr} {k cap i : Nat} : ∀ (vs : List Value) (cs : List Value) (j : Nat) (w : World), Hp w0 O (pre ++ slc e sz o k cap cs :: post) w → i + j + vs.length ≤ cs.length → (∀ v ∈ vs, v.oneCell' = true) →
    ∃ w', (storeCells (adr o i) vs j).run P w = .ok () w' ∧ Hp w0 O (pre ++ slc e sz o k cap (setAll cs (i + j) vs) :: post) w'
  | [], cs, j, w, h, _, _ => ⟨w, by simp [storeCells], h⟩
  | v :: vs, cs, j, w, h, hl, h1 => by
    have hlt : i + j < cs.length := by simp at hl; omega
    obtain ⟨hc, hfr, hnew⟩ := Hp.set_slc pre h hlt v
    obtain ⟨w', hr, hw'⟩ := run_storeCells_slc pre (i := i) vs (cs.set (i + j) v) (j + 1) _ hnew (by simp at hl ⊢; omega) (fun u hu => h1 u (by simp [hu]))
    refine ⟨w', ?_, by rw [setAll]; exact hw'⟩
    rw [storeCells, adr_add]
    simp [run_store P w _ v .plain (h1 v (by simp)), hc, hfr, hr]

/-- A struct is stored whole, into a slice's row. -/
theorem yu_storeAggSl (pre : List Atom) {i size bytes sz k cap : Nat} {zero : Value} {o : Option Addr} {cs vs : List Value} (hz : TI P t size bytes zero) (hx : env.ev x = some (.pointer (some (adr o i)))) (hy : env.ev y = some (.agg vs.toArray))
    (hlen : vs.length = size) (hone : ∀ v ∈ vs, v.oneCell' = true) (hi : i + vs.length ≤ cs.length) :
    Yu P n ⟨none, .store t x y, ty, pos, after, g⟩ env (Hp w0 O (pre ++ slc e sz o k cap cs :: post)) (Hp w0 O (pre ++ slc e sz o k cap (setAll cs i vs) :: post)) := fun a w ha hw => by
  obtain ⟨inf, h1, _, h3, _⟩ := hz.parts
  obtain ⟨w', hr, hw'⟩ := run_storeCells_slc (P := P) pre (i := i) vs cs 0 w hw hi hone
  refine ⟨w', ?_, hw'⟩
  have hs : ((Value.agg vs.toArray).cells.size ≠ inf.size) = False := by simp [Value.cells, hlen, h3]
  simp [execOp, ha.eval hx, ha.eval hy, Instr.storeAt, Instr.sureAddr, storeVar, sizeOf, typeInfo, h1, Value.cells, hlen, h3, hr]

/-! ### append -/

/-- The appended values can be read: m elements, the cells news. -/
def Src (P : Program) (size : Nat) (x : Value) (m : Nat) (news : List Value) (w : World) : Prop :=
  (Builtin.lenOf x).run P w = .ok m w ∧ (Builtin.firstCells size m x).run P w = .ok news.toArray w

theorem Src.slice {a : Option Addr} {m sz c : Nat} {news : List Value} {w : World} (h : Seen (rsl a m sz news) w) : Src P sz (.slice a m c) m news w := by
  refine ⟨rfl, ?_⟩
  have hc := fun j u => h.cell (j := j) (u := u)
  obtain ⟨g, ⟨hl, hs⟩, _⟩ := h
  cases a with
  | none =>
    rcases hs with ⟨rfl, _⟩ | ⟨_, _, _, _, _, h, _⟩
    · rw [Nat.zero_mul] at hl
      rw [List.eq_nil_of_length_eq_zero hl]; simp [Builtin.firstCells]
    · cases h
  | some b => exact run_firstCells_some w sz m b m c news hl (fun j u hj => hc j u hj)

theorem Src.str {s : ByteArray} {w : World} : Src P 1 (.string s) s.size (s.data.toList.map fun b => .int .u8 b.toNat) w := by
  refine ⟨rfl, ?_⟩
  have h : s.extract 0 s.size = s := by apply ByteArray.ext; rw [ByteArray.data_extract]; exact Array.extract_size
  simp only [Builtin.firstCells, h, Sem.run_pure]
  congr 1
  apply Array.ext'; simp

theorem run_append_put {u : TypeId} {i : TypeInfo} {uo : TypeDesc} (ht : P.underlying t = some (.slice e)) (hu : P.underlying u = some uo) (hni : (∃ e', uo = .slice e') ∨ uo = .string) (hi : P.info? e = some i)
    {o : Option Addr} {k cap m : Nat} {x : Value} {news : List Value} {w : World} (hs : Src P i.size x m news w) (hroom : k + m ≤ cap) :
    (Builtin.append_ #[t, u] ty #[.slice o k cap, x]).run P w = ((match o with | some a => storeCells (a.add (k * i.size)) news | none => Pure.pure () : Sem Unit).run P w).andThen fun _ w' => .ok (.slice o (k + m) cap) w' := by
  obtain ⟨h1, h2⟩ := hs
  rcases hni with ⟨e', rfl⟩ | rfl <;> cases o <;> simp [Builtin.append_, run_underlying ht, run_underlying hu, sizeOf, typeInfo, hi, h1, hroom, h2]

theorem run_append_new {u : TypeId} {i : TypeInfo} {uo : TypeDesc} {zv : Value} (ht : P.underlying t = some (.slice e)) (hu : P.underlying u = some uo) (hni : (∃ e', uo = .slice e') ∨ uo = .string) (hi : P.info? e = some i) (hz : i.zero = some zv)
    {o : Option Addr} {k cap m c : Nat} {x : Value} {olds news : List Value} {w : World} (hso : Src P i.size (.slice o k c) k olds w.drew) (hs : Src P i.size x m news w) (hs' : Src P i.size x m news w.drew) (hroom : cap < k + m)
    (hb : (k + m) * i.bytes ≤ 140737488355328) (h63 : k + m ≤ maxLen) :
    (Builtin.append_ #[t, u] ty #[.slice o k cap, x]).run P w =
      .ok (.slice (some ⟨w.heap.size, 0, none⟩) (k + m) (grownCap w (k + m) cap e)) (w.drew.alloc (.cells (olds ++ news ++ (Builtin.zeroCells zv.cells (grownCap w (k + m) cap e - (k + m))).toList).toArray e)) := by
  obtain ⟨h1, _⟩ := hs
  obtain ⟨h1', h2⟩ := hs'
  have h3 : (Builtin.firstCells i.size k (.slice o k cap)).run P w.drew = .ok olds.toArray w.drew := by
    have := hso.2
    cases o <;> simpa [Builtin.firstCells] using this
  have hn : ¬ (k + m ≤ cap) := by omega
  have hmx : k + m ≤ 9223372036854775807 := by simp only [maxLen] at h63; omega
  have h63' : ¬ (9223372036854775807 < ((k : Int) + (m : Int))) := by omega
  have hfit := growslice_fits (need := k + m) (old := cap) (bytes := i.bytes) (by omega) hb
  have h48' : ¬ (281474976710656 < Builtin.nextslicecap (k + m) cap * i.bytes) := by omega
  have harr : ∀ zc : Array Value, (olds ++ news ++ zc.toList).toArray = olds.toArray ++ news.toArray ++ zc := fun zc => by apply Array.ext'; simp
  rw [harr]
  rcases hni with ⟨e', rfl⟩ | rfl <;> simp [Builtin.append_, run_underlying ht, run_underlying hu, sizeOf, typeInfo, zeroValue, hi, hz, h1, hn, h63', h48', Question.forced, h2, h3, newRow, grownCap] <;> (congr 2; apply Array.ext'; simp)

theorem yw_append (pre : List Atom) {u : TypeId} {uo : TypeDesc} {size bytes k cap m : Nat} {zero : Value} {o : Option Addr} {cs news : List Value} (ht : P.underlying t = some (.slice e)) (hu : P.underlying u = some uo) (hni : (∃ e', uo = .slice e') ∨ uo = .string) (he : TI P e size bytes zero) (hzs : zero.cells.size = size)
    (hx : env.ev x = some (.slice o k cap)) (hy : env.ev y = some v) (hsrc : ∀ w, Hp w0 O (pre ++ slc e size o k cap cs :: post) w → Src P size v m news w)
    (hb : (k + m) * bytes ≤ 140737488355328) (h63 : k + m ≤ maxLen) (hone : ∀ v ∈ news, v.oneCell' = true) (hnl : news.length = m * size) :
    Yw P n ⟨dst, .call { callee := .builtin .append, args := #[x, y], argTypes := #[t, u] }, ty, pos, after, g⟩ env (Hp w0 O (pre ++ slc e size o k cap cs :: post))
      (Rx (fun p : Option Addr × Nat => k + m ≤ p.2 ∧ (p.1 = none ↔ o = none ∧ m = 0)) (fun p => .slice p.1 (k + m) p.2) (fun p => Hp w0 O (pre ++ slc e size p.1 (k + m) p.2 (cs ++ news) :: post))) := fun a w ha hw => by
  obtain ⟨inf, h1, h2, h3, h4⟩ := he.parts
  subst h3 h4
  have hs := hsrc w hw
  have hcl : cs.length = k * inf.size := by
    obtain ⟨_, h, _⟩ := ((hw.pick pre).seen [])
    exact h.1
  have hnone : o = none → k = 0 := fun h0 => by
    obtain ⟨_, h, _⟩ := ((hw.pick pre).seen [])
    rcases h.2 with ⟨_, a, _, _⟩ | ⟨_, _, _, h, _⟩
    · exact a
    · rw [h0] at h; cases h
  have hex : ∀ (r : Value) (w' : World), (Builtin.append_ #[t, u] ty #[.slice o k cap, v]).run P w = .ok r w' → (execOp a.eval ⟨dst, .call { callee := .builtin .append, args := #[x, y], argTypes := #[t, u] }, ty, pos, after, g⟩).run P w = .ok (.value r) w' := fun r w' h => by
    simp [execOp, resolve, invoke, builtin, ha.eval hx, ha.eval hy, h]
  by_cases hroom : k + m ≤ cap
  · have hr := run_append_put (P := P) (ty := ty) (o := o) (cap := cap) ht hu hni h1 hs hroom
    cases o with
    | none =>
      have h0 : k = 0 ∧ cap = 0 := by
        obtain ⟨_, h, _⟩ := ((hw.pick pre).seen [])
        rcases h.2 with ⟨_, a, b, _⟩ | ⟨_, _, _, h, _⟩
        · exact ⟨a, b⟩
        · cases h
      obtain ⟨rfl, rfl⟩ := h0
      obtain rfl : m = 0 := by omega
      rw [Nat.zero_mul] at hnl
      obtain rfl := List.eq_nil_of_length_eq_zero hnl
      simp only [Sem.run_pure, Result.andThen_ok] at hr
      exact ⟨_, w, hex _ _ hr, (none, 0), ⟨by omega, by simp⟩, rfl, by simpa using hw⟩
    | some b0 =>
      obtain ⟨hh, ⟨g1, g2, hA, ho, rfl⟩, hf⟩ := hw.pick pre
      obtain ⟨_, hA⟩ := hA
      rcases hA with ⟨h, _⟩ | ⟨b, off, l, hb0, rfl, hk, hcap, htk⟩
      · cases h
      · obtain rfl := Option.some.inj hb0
        have hp : Hp w0 O (blk b (.cells l.toArray e (0, 0)) :: (pre ++ post)) w := ⟨_, ⟨[(b, .cells l.toArray e (0, 0))], g2, rfl, ho, rfl⟩, hf⟩
        have hadd : (⟨b, off, none⟩ : Addr).add (k * inf.size) = ⟨b, off + k * inf.size, none⟩ := by unfold Addr.add; split <;> simp_all
        have hle : off + k * inf.size + news.length ≤ l.length := by
          rw [hnl]
          have : (k + m) * inf.size ≤ cap * inf.size := Nat.mul_le_mul_right _ hroom
          rw [Nat.add_mul] at this
          omega
        obtain ⟨w', hst, hw'⟩ := run_storeCells_blk (P := P) (i := off + k * inf.size) news l 0 w hp (by simpa using hle) hone
        simp only [hadd, hst, Result.andThen_ok] at hr
        refine ⟨_, w', hex _ _ hr, (some ⟨b, off, none⟩, cap), ⟨hroom, by simp⟩, rfl, ?_⟩
        have key : ∀ (vs l : List Value) (i : Nat), i + vs.length ≤ l.length → setAll l i vs = l.take i ++ vs ++ l.drop (i + vs.length) := by
          intro vs
          induction vs with
          | nil => intro l i hi; simp [setAll]
          | cons v vs ih =>
            intro l i hi
            simp only [List.length_cons] at hi
            rw [setAll, ih _ _ (by simp; omega)]
            rw [List.take_set, List.drop_set, if_pos (by omega), List.length_cons]
            have h1 : (l.take (i + 1)).set i v = l.take i ++ [v] := by
              rw [List.take_succ_eq_append_getElem (by omega), List.set_append, if_neg (by simp; omega)]
              simp [Nat.min_eq_left (show i ≤ l.length by omega)]
            rw [h1, show i + 1 + vs.length = i + (vs.length + 1) by omega]
            simp
        have hlist : ((setAll l (off + k * inf.size) news).drop off).take ((k + m) * inf.size) = cs ++ news := by
          rw [key _ _ _ hle, ← htk, Nat.add_mul, ← hnl]
          have e1 : (l.take (off + k * inf.size)).drop off = (l.drop off).take (k * inf.size) := by rw [List.drop_take, Nat.add_sub_cancel_left]
          have hlt : off ≤ (l.take (off + k * inf.size)).length := by simp; omega
          rw [List.append_assoc, List.drop_append_of_le_length hlt, e1]
          have hlen : ((l.drop off).take (k * inf.size)).length = k * inf.size := by simp; omega
          rw [← List.append_assoc, List.take_append_of_le_length (by simp; omega)]
          rw [List.take_of_length_le (by simp; exact Nat.min_le_left _ _)]
        have hq := hw'.conv (Bs := [slc e inf.size (some ⟨b, off, none⟩) (k + m) cap (cs ++ news)]) fun g hg => ⟨g, [], ⟨by rw [List.length_append, hcl, hnl, Nat.add_mul], .inr ⟨b, off, _, rfl, hg, hroom, by rw [Nat.add_zero, setAll_length]; exact hcap, hlist⟩⟩, rfl, by simp⟩
        exact Hp.perm (As := slc e inf.size (some ⟨b, off, none⟩) (k + m) cap (cs ++ news) :: (pre ++ post)) hq List.perm_middle.symm
  · have hwd : Hp w0 O (pre ++ slc e inf.size o k cap cs :: post) w.drew := Hp.drawless _ _ _ w hw
    have hso : Src P inf.size (.slice o k cap) k cs w.drew := Src.slice ((hwd.seen pre).mono fun _ => slc_rsl)
    have hr := run_append_new (P := P) (ty := ty) (o := o) (k := k) (cap := cap) (m := m) (x := v) ht hu hni h1 h2 hso hs (hsrc _ hwd) (by omega) hb h63
    have hge := grownCap_ge w (k + m) cap e
    refine ⟨_, _, hex _ _ hr, (some ⟨w.heap.size, 0, none⟩, grownCap w (k + m) cap e), ⟨hge, ⟨fun h => (by cases h), fun h => absurd (hnone h.1) (by omega)⟩⟩, rfl, ?_⟩
    have h5 := (hwd.pick pre).drop.alloc (.cells (cs ++ news ++ (Builtin.zeroCells zero.cells (grownCap w (k + m) cap e - (k + m))).toList).toArray e)
    have hq := h5.conv (Bs := [slc e inf.size (some ⟨w.heap.size, 0, none⟩) (k + m) (grownCap w (k + m) cap e) (cs ++ news)]) fun g hg => ⟨g, [], ⟨by rw [List.length_append, hcl, hnl, Nat.add_mul], .inr ⟨w.heap.size, 0, _, rfl, hg, hge, ?_, ?_⟩⟩, rfl, by simp⟩
    · exact Hp.perm (As := slc e inf.size (some ⟨w.heap.size, 0, none⟩) (k + m) (grownCap w (k + m) cap e) (cs ++ news) :: (pre ++ post)) hq List.perm_middle.symm
    · simp only [List.length_append, hcl, hnl, Array.length_toList, size_zeroCells, hzs, Nat.zero_add]
      rw [← Nat.add_mul, ← Nat.add_mul]
      exact Nat.mul_le_mul_right _ (by omega)
    · rw [List.drop_zero, List.take_append_of_le_length (by simp only [List.length_append, hcl, hnl, Nat.add_mul]; omega), List.take_of_length_le (by simp only [List.length_append, hcl, hnl, Nat.add_mul]; omega)]

/-! ### Calls -/

/-- Function f is one with a body. -/
def FN (P : Program) (f : FuncId) : Prop := ∃ fn, P.funcs[f]? = some fn ∧ (fn.name == "runtime.NumGoroutine") = false ∧ fn.body.isNone = false

theorem run_callFunc {f : FuncId} (hf : FN P f) (args : Array Value) (w : World) : (callFunc f args).run P w = .ok (.enter f args) w := by
  obtain ⟨fn, h1, h2, h3⟩ := hf
  simp only [callFunc, Sem.run_bind, run_program, Result.andThen_ok, h1, h2, h3, Bool.false_eq_true, if_false, Sem.run_pure]

theorem run_call {S : World → Prop} {f : FuncId} {fst cap vals : List Value} {args : List Operand} {ts : Array TypeId} {c : Operand} (hf : FN P f) (hc : env.ev c = some (.func (.func f) fst.toArray cap.toArray)) (ha : env.evl args = some vals) :
    ∀ a w, Sat n env a → S w → (execOp a.eval ⟨dst, .call { callee := .value c, args := args.toArray, argTypes := ts }, ty, pos, after, g⟩).run P w = .ok (.enter f (fst ++ vals ++ cap).toArray) w := fun a w hs _ => by
  have he := hs.evl ha
  have hm : args.toArray.map a.eval = vals.toArray := by rw [← he]; simp
  show ((do let d ← resolve a.eval { callee := .value c, args := args.toArray, argTypes := ts } ty; invoke d.target d.args : Sem Next)).run P w = _
  simp only [resolve, hs.eval hc, hm, Deferred.ofValue, Sem.run_bind, Sem.run_pure, Result.andThen_ok, invoke, run_callFunc hf]
  simp

/-- A call by its contract, Fs set aside. -/
theorem yc_spec (Fs : List Atom) {As' : List Atom} {f : FuncId} {fst cap vals : List Value} {args : List Operand} {ts : Array TypeId} {c : Operand} {α : Type} {Rs Bs : List Atom} {p : α → Prop} {v : α → Value} {A : α → List Atom} {aa : Array Value} (hf : FN P f)
    (hs : Ctr P f aa Rs Bs p v A) (hc : env.ev c = some (.func (.func f) fst.toArray cap.toArray)) (ha : env.evl args = some vals) (haa : aa = (fst ++ vals ++ cap).toArray)
    (hper : As'.Perm (Bs ++ Fs)) (hr : ∀ A ∈ Rs, Ro w0 O A ∨ ∃ F ∈ Fs, ∀ h, F h → A h) :
    Yc P n ⟨dst, .call { callee := .value c, args := args.toArray, argTypes := ts }, ty, pos, after, g⟩ env (Hp w0 O As') (Rx p v (fun x => Hp w0 O (A x ++ Fs))) := fun a w hsat hw => by
  refine ⟨f, _, run_call (S := Hp w0 O As') hf hc ha a w hsat hw, ?_⟩
  rw [← haa]
  refine (spec_calls hs hr (hw.perm hper)).mono ?_
  rintro e w' ⟨x, hp, he, hw'⟩
  exact ⟨v x, he, x, hp, rfl, hw'⟩

/-- A call that hands back one value and leaves what is owned as it is: it may stand in a region that draws its order. -/
theorem yq_spec (Fs : List Atom) {As' : List Atom} {f : FuncId} {fst cap vals : List Value} {args : List Operand} {ts : Array TypeId} {c : Operand} {α : Type} {Rs Bs : List Atom} {p : α → Prop} {v : α → Value} {v0 : Value} {A : α → List Atom} {aa : Array Value} (hf : FN P f)
    (hs : Ctr P f aa Rs Bs p v A) (hc : env.ev c = some (.func (.func f) fst.toArray cap.toArray)) (ha : env.evl args = some vals) (haa : aa = (fst ++ vals ++ cap).toArray)
    (hper : As'.Perm (Bs ++ Fs)) (hr : ∀ A ∈ Rs, Ro w0 O A ∨ ∃ F ∈ Fs, ∀ h, F h → A h) (hv : ∀ x, p x → v x = v0) (hA : ∀ x w, p x → Hp w0 O (A x ++ Fs) w → Hp w0 O As' w) :
    Yq P n ⟨dst, .call { callee := .value c, args := args.toArray, argTypes := ts }, ty, pos, after, g⟩ env (Hp w0 O As') v0 := fun a w hsat hw => by
  refine ⟨f, _, run_call (S := Hp w0 O As') hf hc ha a w hsat hw, ?_⟩
  rw [← haa]
  refine (spec_calls hs hr (hw.perm hper)).mono ?_
  rintro e w' ⟨x, hp, he, hw'⟩
  exact ⟨by rw [he, hv x hp], hA x w' hp hw'⟩
end
end Go.Eng
namespace Go.Eng
/-! ### Lists as rows of cells -/
theorem row_get {α : Type} {f : α → Value} {xs : List α} {k : Nat} {x : α} (h : xs[k]? = some x) : (xs.map f)[k * 1]? = some (f x) := by simp [h]

theorem rows_get {α : Type} {f : α → List Value} {sz : Nat} (hf : ∀ x, (f x).length = sz) : ∀ {xs : List α} {k : Nat} {x : α} {j : Nat} {u : Value}, xs[k]? = some x → (f x)[j]? = some u → (xs.flatMap f)[k * sz + j]? = some u
  | y :: ys, 0, x, j, u, h, hj => by
    obtain rfl : y = x := by simpa using h
    rw [List.flatMap_cons, Nat.zero_mul, Nat.zero_add, List.getElem?_append_left (List.getElem?_eq_some_iff.1 hj).1]
    exact hj
  | y :: ys, k + 1, x, j, u, h, hj => by
    rw [List.flatMap_cons, List.getElem?_append_right (by rw [hf, Nat.add_mul]; omega), hf, show (k + 1) * sz + j - sz = k * sz + j by rw [Nat.add_mul]; omega]
    exact rows_get hf (by simpa using h) hj

theorem rows_length {α : Type} {f : α → List Value} {sz : Nat} (hf : ∀ x, (f x).length = sz) : ∀ (xs : List α), (xs.flatMap f).length = xs.length * sz
  | [] => by simp
  | x :: xs => by rw [List.flatMap_cons, List.length_append, hf, rows_length hf xs, List.length_cons, Nat.add_mul]; omega

theorem setAll_app : ∀ (vs l m r : List Value), m.length = vs.length → setAll (l ++ m ++ r) l.length vs = l ++ vs ++ r
  | [], l, m, r, h => by
    obtain rfl := List.eq_nil_of_length_eq_zero h
    rfl
  | v :: vs, l, [], r, h => by simp at h
  | v :: vs, l, u :: m, r, h => by
    have h1 : (l ++ u :: m ++ r).set l.length v = (l ++ [v]) ++ m ++ r := by simp
    rw [setAll, h1]
    have := setAll_app vs (l ++ [v]) m r (by simpa using h)
    simp only [List.length_append, List.length_cons, List.length_nil, Nat.zero_add] at this
    rw [this]; simp
theorem rows_set {α : Type} {f : α → List Value} {sz : Nat} (hf : ∀ x, (f x).length = sz) {xs : List α} {i : Nat} (x : α) (h : i < xs.length) : setAll (xs.flatMap f) (i * sz) (f x) = (xs.set i x).flatMap f := by
  have e : xs = xs.take i ++ xs[i] :: xs.drop (i + 1) := by rw [← List.drop_eq_getElem_cons h, List.take_append_drop]
  have e2 : xs.set i x = xs.take i ++ x :: xs.drop (i + 1) := by rw [List.set_eq_take_append_cons_drop, if_pos h]
  have hl : ((xs.take i).flatMap f).length = i * sz := by rw [rows_length hf, List.length_take]; congr 1; omega
  rw [e2]
  conv => lhs; rw [e]
  rw [List.flatMap_append, List.flatMap_cons, List.flatMap_append, List.flatMap_cons, ← hl, ← List.append_assoc, setAll_app _ _ _ _ (by rw [hf, hf]), List.append_assoc]

theorem rows_succ {α : Type} {f : α → List Value} {xs : List α} {k : Nat} {x : α} (h : xs[k]? = some x) : (xs.take k).flatMap f ++ f x = (xs.take (k + 1)).flatMap f := by
  rw [List.take_add_one, h]; simp

/-- A whole element of a row, through an owned slice. -/
theorem agg_own (pre : List Atom) {w0 : World} {O : Nat → Prop} {e sz : Nat} {a : Option Addr} {k cap : Nat} {cs : List Value} {post : List Atom} {j : Nat} {l : List Value} (hl : ∀ i u, l[i]? = some u → cs[j + i]? = some u) :
    ∀ w, Hp w0 O (pre ++ slc e sz a k cap cs :: post) w → ∀ i u, l[i]? = some u → w.cell? ((adr a j).add i) = some u := fun _ h i u hu => by
  rw [adr_add]; exact ((h.seen pre).mono fun _ => slc_rsl).cell (hl i u hu)
theorem agg_ro {w0 : World} {O : Nat → Prop} {a : Option Addr} {k sz : Nat} {cs : List Value} {As : List Atom} {j : Nat} {l : List Value} (hr : Ro w0 O (rsl a k sz cs)) (hl : ∀ i u, l[i]? = some u → cs[j + i]? = some u) :
    ∀ w, Hp w0 O As w → ∀ i u, l[i]? = some u → w.cell? ((adr a j).add i) = some u := fun _ h i u hu => by
  rw [adr_add]; exact (hr.seen h).cell (hl i u hu)
/-- A struct in a block of its own, or a part of one. -/
theorem cells_blk (pre : List Atom) {w0 : World} {O : Nat → Prop} {b i : Nat} {l r : List Value} {e : TypeId} {fr : Nat × Nat} {post : List Atom} (hl : (l.drop i).take r.length = r) :
    ∀ w, Hp w0 O (pre ++ blk b (.cells l.toArray e fr) :: post) w → ∀ j u, r[j]? = some u → w.cell? ((⟨b, i, none⟩ : Addr).add j) = some u := fun _ h j u hu => by
  have e1 : (⟨b, i, none⟩ : Addr).add j = ⟨b, i + j, none⟩ := by unfold Addr.add; split <;> simp_all
  rw [e1]
  refine cell_of_heap (h.seen pre).blk ?_
  rw [← hl, List.getElem?_take] at hu
  split at hu
  · rw [List.getElem?_drop] at hu; exact hu
  · cases hu

theorem Seen.cells {b i : Nat} {l r : List Value} {e : TypeId} {fr : Nat × Nat} {w : World} (h : Seen (Eng.blk b (.cells l.toArray e fr)) w) (hl : (l.drop i).take r.length = r) : ∀ j u, r[j]? = some u → w.cell? ((⟨b, i, none⟩ : Addr).add j) = some u := fun j u hu => by
  have e1 : (⟨b, i, none⟩ : Addr).add j = ⟨b, i + j, none⟩ := by unfold Addr.add; split <;> simp_all
  rw [e1]
  refine cell_of_heap h.blk ?_
  rw [← hl, List.getElem?_take] at hu
  split at hu
  · rw [List.getElem?_drop] at hu; exact hu
  · cases hu

theorem slc_cut {e sz : Nat} {o : Option Addr} {k cap : Nat} {cs : List Value} {h : HL} (i : Nat) (hs : slc e sz o k cap cs h) (hi : i ≤ k) : slc e sz (cutAt o i cap sz) (k - i) (cap - i) (cs.drop (i * sz)) h := by
  obtain ⟨hl, hs⟩ := hs
  refine ⟨by rw [List.length_drop, hl, Nat.sub_mul], ?_⟩
  rcases hs with ⟨rfl, rfl, rfl, rfl⟩ | ⟨b, off, l, rfl, rfl, hk, hcap, ht⟩
  · exact .inl ⟨by simp [cutAt], by omega, by omega, rfl⟩
  · right
    have hm : (k - i) * sz = k * sz - i * sz := Nat.sub_mul ..
    have hm2 : (cap - i) * sz = cap * sz - i * sz := Nat.sub_mul ..
    have hle : i * sz ≤ k * sz := Nat.mul_le_mul_right _ hi
    have hle2 : k * sz ≤ cap * sz := Nat.mul_le_mul_right _ hk
    by_cases hc : cap = i
    · subst hc
      refine ⟨b, off, l, by simp [cutAt], rfl, by omega, by omega, ?_⟩
      have : k = cap := by omega
      subst this
      rw [Nat.sub_self, Nat.zero_mul, List.take_zero, List.drop_of_length_le (by omega)]
    · refine ⟨b, off + i * sz, l, ?_, rfl, by omega, by omega, ?_⟩
      · rw [cutAt, if_neg hc]; unfold Addr.add; simp only [Option.map_some]; split <;> simp_all
      · rw [← ht, hm, List.drop_take, List.drop_drop]

/-- The first elements of a slice. -/
theorem slc_take {e sz : Nat} {o : Option Addr} {k cap : Nat} {cs : List Value} {h : HL} (j : Nat) (hs : slc e sz o k cap cs h) (hj : j ≤ k) : slc e sz (cutAt o 0 cap sz) j cap (cs.take (j * sz)) h := by
  obtain ⟨hl, hs⟩ := hs
  have hle : j * sz ≤ k * sz := Nat.mul_le_mul_right _ hj
  refine ⟨by rw [List.length_take, hl]; omega, ?_⟩
  rcases hs with ⟨rfl, rfl, rfl, rfl⟩ | ⟨b, off, l, rfl, rfl, hk, hcap, ht⟩
  · exact .inl ⟨by simp [cutAt], by omega, rfl, rfl⟩
  · refine .inr ⟨b, off, l, ?_, rfl, by omega, hcap, ?_⟩
    · unfold cutAt; split
      · rfl
      · simp [Addr.add]
    · rw [← ht, List.take_take, Nat.min_eq_left hle]

/-! ### Structs compared; arrays -/
section
variable {P : Program} {n : Nat} {env : Env} {S : World → Prop} {dst : Option Tmp} {ty : TypeId} {pos : String} {after : Array Edge} {g : Option (Nat × Bool)} {x y : Operand} {t t' : TypeId}

/-- Two structs of a type compared: the answer. -/
def EQ (P : Program) (t : TypeId) (l m : List Value) (b : Bool) : Prop := P.eqGuardType P.depth t = false ∧ ∀ w, (Op.equal t (.agg l.toArray) (.agg m.toArray)).run P w = .ok b w

theorem y_eqlAgg {l m : List Value} {b : Bool} (h : EQ P t l m b) (hx : env.ev x = some (.agg l.toArray)) (hy : env.ev y = some (.agg m.toArray)) : Yv P n ⟨dst, .binOp .eql t x y t', ty, pos, after, g⟩ env S (.bool b) :=
  run_binOp hx hy (fun w => run_eqGuard_agg w .eql t x y l.toArray m.toArray h.1) (fun w _ => by
    show ((Op.equal t (.agg l.toArray) (.agg m.toArray)) >>= fun b => Pure.pure (Value.bool b)).run P w = _
    rw [Sem.run_bind, h.2 w]; rfl)
theorem y_neqAgg {l m : List Value} {b : Bool} (h : EQ P t l m b) (hx : env.ev x = some (.agg l.toArray)) (hy : env.ev y = some (.agg m.toArray)) : Yv P n ⟨dst, .binOp .neq t x y t', ty, pos, after, g⟩ env S (.bool (!b)) :=
  run_binOp hx hy (fun w => run_eqGuard_agg w .neq t x y l.toArray m.toArray h.1) (fun w _ => by
    show ((Op.equal t (.agg l.toArray) (.agg m.toArray)) >>= fun b => Pure.pure (Value.bool (!b))).run P w = _
    rw [Sem.run_bind, h.2 w]; rfl)

theorem y_indexAddrArr {e size bytes len b o i : Nat} {zero : Value} {k : IntKind} {p : Int} (ht : P.underlying t = some (.array len e)) (he : TI P e size bytes zero) (hx : env.ev x = some (.pointer (some ⟨b, o, none⟩))) (hy : env.ev y = some (.int k p))
    (hp : p = (i : Int)) (hi : i < len) : Yv P n ⟨dst, .indexAddr t x y, ty, pos, after, g⟩ env S (.pointer (some ⟨b, o + i * size, none⟩)) := fun a w ha _ => by
  obtain ⟨inf, h1, _, h2, _⟩ := he.parts
  subst hp h2
  have e1 : (⟨b, o, none⟩ : Addr).add (i * inf.size) = ⟨b, o + i * inf.size, none⟩ := by unfold Addr.add; split <;> simp_all
  simp [execOp, ha.eval hx, ha.eval hy, Instr.indexAt, asIntOf, run_underlying ht, hi, sizeOf, typeInfo, h1, Instr.sureAddr, e1]

/-- Two values of a type compared, at a depth of at least k. -/
def CEQ (P : Program) (k : Nat) (t : TypeId) (u v : Value) (b : Bool) : Prop := ∀ d w, (Op.equalIn (d + k) t u v).run P w = .ok b w
def FEQ (P : Program) (k : Nat) (l m : List Value) (fs : List Field) (b : Bool) : Prop := ∀ d w, (Op.eqFields (d + k) l.toArray m.toArray fs).run P w = .ok b w

theorem ceq_int {k : Nat} {kd kd' : IntKind} {a b : Int} (h : P.underlying t = some (.int kd')) : CEQ P (k + 1) t (.int kd a) (.int kd b) (decide (a = b)) := fun d w => by
  rw [show d + (k + 1) = (d + k) + 1 from rfl, run_equalIn_int w (d + k) t kd kd' a b h]; rfl
theorem ceq_bool {k : Nat} {a b : Bool} (h : P.underlying t = some .bool) : CEQ P (k + 1) t (.bool a) (.bool b) (decide (a = b)) := fun d w => by
  rw [show d + (k + 1) = (d + k) + 1 from rfl, run_equalIn_bool' w (d + k) t a b h]; cases a <;> cases b <;> rfl
theorem ceq_str {k : Nat} {a b : Str} (h : P.underlying t = some .string) : CEQ P (k + 1) t (.string (bs a)) (.string (bs b)) (decide (a = b)) := fun d w => by
  rw [show d + (k + 1) = (d + k) + 1 from rfl, run_equalIn_string w (d + k) t (bs a) (bs b) h, bs_toList, bs_toList, beq_dec]
theorem feq_nil {k : Nat} {l m : List Value} : FEQ P k l m [] true := fun d w => by simp [Op.eqFields]
theorem feq_step {k : Nat} {l m : List Value} {f : Field} {fs : List Field} {u v : Value} {b1 b2 : Bool} (hn : f.name ≠ "_") (hu : ∀ w, (part f.type l.toArray f.offset).run P w = .ok u w) (hv : ∀ w, (part f.type m.toArray f.offset).run P w = .ok v w)
    (hc : CEQ P k f.type u v b1) (hr : FEQ P k l m fs b2) : FEQ P k l m (f :: fs) (b1 && b2) := fun d w => by
  simp only [Op.eqFields, if_pos hn, Sem.run_bind, hu w, hv w, hc d w, Result.andThen_ok, Sem.run_ite, hr d w, Sem.run_pure]
  cases b1 <;> simp
theorem run_part_one {l : List Value} {off : Nat} {u : Value} (ht : NA P t) (hu : l[off]? = some u) (w : World) : (part t l.toArray off).run P w = .ok u w := by
  obtain ⟨ds, h1, h2⟩ := ht
  cases ds <;> simp at h2 <;> simp [part, isAgg, run_underlying h1, hu]
theorem run_part_agg {l r : List Value} {off size : Nat} (ht : AG P t size) (hu : (l.drop off).take size = r) (w : World) : (part t l.toArray off).run P w = .ok (.agg r.toArray) w := by
  obtain ⟨ds, i, h1, h2, h3, rfl⟩ := ht
  subst hu
  cases ds <;> simp at h2 <;> simp [part, isAgg, run_underlying h1, sizeOf, typeInfo, h3]
theorem feq_one {k : Nat} {l m : List Value} {f : Field} {fs : List Field} {u v : Value} {b1 b2 : Bool} (hn : f.name ≠ "_") (ht : NA P f.type) (hu : l[f.offset]? = some u) (hv : m[f.offset]? = some v)
    (hc : CEQ P k f.type u v b1) (hr : FEQ P k l m fs b2) : FEQ P k l m (f :: fs) (b1 && b2) := feq_step hn (run_part_one ht hu) (run_part_one ht hv) hc hr
theorem feq_agg {k size : Nat} {l m lu mv : List Value} {f : Field} {fs : List Field} {b1 b2 : Bool} (hn : f.name ≠ "_") (ht : AG P f.type size) (hu : (l.drop f.offset).take size = lu) (hv : (m.drop f.offset).take size = mv)
    (hc : CEQ P k f.type (.agg lu.toArray) (.agg mv.toArray) b1) (hr : FEQ P k l m fs b2) : FEQ P k l m (f :: fs) (b1 && b2) := feq_step hn (run_part_agg ht hu) (run_part_agg ht hv) hc hr
theorem ceq_struct {k : Nat} {l m : List Value} {fs : Array Field} {b : Bool} (hu : P.underlying t = some (.struct fs)) (hs : P.stoodInHeld t = false) (h : FEQ P k l m fs.toList b) : CEQ P (k + 1) t (.agg l.toArray) (.agg m.toArray) b := fun d w => by
  have hf : P.fieldsOf t = fs := by simp [Program.fieldsOf, hu]
  rw [show d + (k + 1) = (d + k) + 1 from rfl, run_equalIn_agg w (d + k) t l.toArray m.toArray (by rw [hf]; exact hu) hs, hf]
  exact h d w
theorem eq_of {k : Nat} {l m : List Value} {b b' : Bool} (hg : P.eqGuardType P.depth t = false) (hk : Nat.ble k 10000 = true) (h : CEQ P k t (.agg l.toArray) (.agg m.toArray) b') (hb : b' = b) : EQ P t l m b := ⟨hg, fun w => by
  have hle := Nat.le_of_ble_eq_true hk
  have key : ∀ N, k ≤ N → (Op.equalIn N t (.agg l.toArray) (.agg m.toArray)).run P w = .ok b w := fun N hN => by
    have := h (N - k) w
    rw [Nat.sub_add_cancel hN] at this
    rw [this, hb]
  exact key 10000 hle⟩
end

/-- A contract as a call from the start: nothing that was there has turned. -/
theorem Ctr.below {P : Program} {f : FuncId} {args : Array Value} {Rs : List Atom} {α : Type} {p : α → Prop} {v : α → Value} {A : α → List Atom} (h : Ctr P f args Rs [] p v A) {w : World} (hR : ∀ A ∈ Rs, Ro w (fun _ => False) A) {u : Value} (hv : ∀ x, p x → v x = u) :
    Calls P f args w fun e w' => e = .returned u ∧ Go.RowKit.Below w.heap.size w w' :=
  (h w (fun _ => False) hR Hp.start).mono fun _ _ ⟨x, hp, he, hw'⟩ => ⟨by rw [he, hv x hp], hw'.below (fun _ h => h)⟩
end Go.Eng
