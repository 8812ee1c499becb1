/-
  More on slices: made, copied into, cleared, grown by zeros, held against nil; and calls of the library's functions that have no body.
-/
import Derived.Test.YtbnahfjhlbibcaaDoorEngEx
import Derived.Lib.Bytealg
import Derived.Lib.IndexLaws
import Derived.Lib.Overlaps
import Derived.Laws.MakeOwn
import Derived.Lib.AppendZerosOnto
namespace Go.Eng

section
variable {P : Program} {n : Nat} {env : Env} {S : World → Prop} {dst : Option Tmp} {ty : TypeId} {pos : String} {after : Array Edge} {g : Option (Nat × Bool)} {x y z : Operand} {u v : Value} {t e : TypeId} {w0 : World} {O : Nat → Prop} {As post : List Atom}

/-! ### Functions without a body -/
theorem y_extern {f : FuncId} {fn : Func} {ee : Array Value → Sem Value} {vals : List Value} {args : List Operand} {ts : Array TypeId} {c : Operand} (hf : P.funcs[f]? = some fn) (hname : (fn.name == "runtime.NumGoroutine") = false)
    (hb : fn.body.isNone = true) (hn : Extern.findNext fn = none) (he : Extern.find fn = some ee)
    (hc : env.ev c = some (.func (.func f) #[] #[])) (ha : env.evl args = some vals) (hr : ∀ w, S w → (ee vals.toArray).run P w = .ok v w) :
    Yv P n ⟨dst, .call { callee := .value c, args := args.toArray, argTypes := ts }, ty, pos, after, g⟩ env S v := fun a w hs hw => by
  have hev := hs.evl ha
  have hm : args.toArray.map a.eval = vals.toArray := by rw [← hev]; simp
  show ((do let d ← resolve a.eval { callee := .value c, args := args.toArray, argTypes := ts } ty; invoke d.target d.args : Sem Next)).run P w = _
  simp only [resolve, hs.eval hc, hm, Deferred.ofValue, Sem.run_bind, Sem.run_pure, Result.andThen_ok, invoke]
  have := run_callFunc_extern hf hname hb hn he vals.toArray w
  simp [this, hr w hw]

/-! ### Slices against nil; capacities -/
theorem run_equal_nilSl {e : TypeId} {o : Option Addr} {j c : Nat} (ht : P.underlying t = some (.slice e)) (w : World) : (Op.equal t (.slice o j c) (.slice none 0 0)).run P w = .ok o.isNone w := by
  have key : ∀ d, (Op.equalIn (d + 1) t (.slice o j c) (.slice none 0 0)).run P w = .ok o.isNone w := fun d => by
    cases o <;> simp [Op.equalIn, run_underlying ht]
  exact key 9999
theorem y_eqlSl {e : TypeId} {o : Option Addr} {j c : Nat} {t' : TypeId} (ht : P.underlying t = some (.slice e)) (hx : env.ev x = some (.slice o j c)) (hy : env.ev y = some (.slice none 0 0)) : Yv P n ⟨dst, .binOp .eql t x y t', ty, pos, after, g⟩ env S (.bool o.isNone) :=
  run_binOp hx hy (fun _ => rfl) (fun w _ => by
    show ((Op.equal t (.slice o j c) (.slice none 0 0)) >>= fun b => Pure.pure (Value.bool b)).run P w = _
    rw [Sem.run_bind, run_equal_nilSl ht w]; rfl)
theorem y_neqSl {e : TypeId} {o : Option Addr} {j c : Nat} {t' : TypeId} (ht : P.underlying t = some (.slice e)) (hx : env.ev x = some (.slice o j c)) (hy : env.ev y = some (.slice none 0 0)) : Yv P n ⟨dst, .binOp .neq t x y t', ty, pos, after, g⟩ env S (.bool (!o.isNone)) :=
  run_binOp hx hy (fun _ => rfl) (fun w _ => by
    show ((Op.equal t (.slice o j c) (.slice none 0 0)) >>= fun b => Pure.pure (Value.bool (!b))).run P w = _
    rw [Sem.run_bind, run_equal_nilSl ht w]; rfl)
theorem y_capSl {e : TypeId} {a' : Option Addr} {j c : Nat} (ht : P.underlying t = some (.slice e)) (hx : env.ev x = some (.slice a' j c)) : Yv P n ⟨dst, .call { callee := .builtin .cap, args := #[x], argTypes := #[t] }, ty, pos, after, g⟩ env S (.int .i64 (c : Nat)) := fun a w ha _ => by
  simp [execOp, resolve, invoke, builtin, Builtin.cap_, run_underlying ht, ha.eval hx, goInt]

/-! ### New slices -/
theorem madeCells_list (z : List Value) (m : Nat) : madeCells z.toArray (m * z.length) = (zeroL z m).toArray := by
  rw [← zeroCells_list, madeCells, Builtin.zeroCells, List.size_toArray]

theorem yw_makeSlice {k size bytes : Nat} {zero : Value} {zl : List Value} {p : Int} (ht : P.underlying t = some (.slice e)) (hz : TI P e size bytes zero) (hzc : zero.cells = zl.toArray) (hzl : zl.length = size)
    (hx : env.ev x = some (.int .i64 p)) (hy : env.ev y = some (.int .i64 p)) (hp : p = (k : Int)) (hb : bytes * k ≤ 140737488355328) (h63 : k ≤ 9223372036854775807) :
    Yw P n ⟨dst, .makeSlice t x y, ty, pos, after, g⟩ env (Hp w0 O As) (Rx (fun _ : Nat => True) (fun b => .slice (some ⟨b, 0, none⟩) k k) (fun b => Hp w0 O (slc e size (some ⟨b, 0, none⟩) k k (zeroL zl k) :: As))) := fun a w ha hw => by
  obtain ⟨inf, h1, h2, h3, h4⟩ := hz.parts
  subst hp h3 h4
  have hbz : (inf.bytes : Int) * (k : Int) ≤ 281474976710656 := by
    rw [← Int.natCast_mul]; omega
  have hr := run_make (P := P) w t e inf zero ht h1 h2 .i64 .i64 k k (by omega) (Int.le_refl _) hbz (by omega)
  simp only [Int.toNat_natCast] at hr
  rw [hzc, ← hzl, madeCells_list] at hr
  refine ⟨.slice (some ⟨w.heap.size, 0, none⟩) k k, w.alloc (.cells (zeroL zl k).toArray e (0, 0)), by simp [execOp, ha.eval hx, ha.eval hy, hr], w.heap.size, trivial, rfl, ?_⟩
  exact (hw.alloc (.cells (zeroL zl k).toArray e (0, 0))).conv (Bs := [slc e inf.size (some ⟨w.heap.size, 0, none⟩) k k (zeroL zl k)]) fun h hh =>
      ⟨h, [], ⟨by rw [zeroL_length, hzl], .inr ⟨w.heap.size, 0, zeroL zl k, rfl, hh, Nat.le_refl _, by rw [zeroL_length, hzl]; omega, by rw [List.drop_zero, List.take_of_length_le (by rw [zeroL_length, hzl]; exact Nat.le_refl _)]⟩⟩, rfl, by simp⟩

theorem yw_buildSlice0 {size bytes : Nat} {zero : Value} (ht : P.underlying t = some (.slice e)) (hz : TI P e size bytes zero) :
    Yw P n ⟨dst, .buildSlice t 0 #[], ty, pos, after, g⟩ env (Hp w0 O As) (Rx (fun _ : Nat => True) (fun b => .slice (some ⟨b, 0, none⟩) 0 0) (fun b => Hp w0 O (slc e size (some ⟨b, 0, none⟩) 0 0 [] :: As))) := fun a w ha hw => by
  obtain ⟨inf, h1, h2, h3, _⟩ := hz.parts
  refine ⟨.slice (some ⟨w.heap.size, 0, none⟩) 0 0, w.alloc (.cells #[] e (0, 0)), ?_, w.heap.size, trivial, rfl, ?_⟩
  · show ((Functor.map Next.value (Instr.buildSlice t 0 ((#[] : Array (Nat × Operand)).map fun (i, x) => (i, a.eval x)))) : Sem Next).run P w = _
    simp [Instr.buildSlice, run_underlying ht, sizeOf, typeInfo, h1, newRow, Instr.fill, Array.range_zero']
  · exact (hw.alloc (.cells #[] e (0, 0))).conv (Bs := [slc e size (some ⟨w.heap.size, 0, none⟩) 0 0 []]) fun h hh =>
      ⟨h, [], ⟨by simp, .inr ⟨w.heap.size, 0, [], rfl, hh, Nat.le_refl _, by simp, by simp⟩⟩, rfl, by simp⟩

/-- A slice grown by zeros, where there is no room: what it was stays. -/
theorem yw_appendZ {u : TypeId} {size bytes k cap m : Nat} {kn : IntKind} {zero : Value} {zl olds : List Value} {o : Option Addr} {p : Int} (ht : P.underlying t = some (.slice e)) (hu : P.underlying u = some (.int kn)) (he : TI P e size bytes zero) (hzc : zero.cells = zl.toArray) (hzl : zl.length = size) (hsz : 0 < size)
    (hx : env.ev x = some (.slice o k cap)) (hy : env.ev y = some (.int .i64 p)) (hp : p = (m : Int)) (hm : 0 < m) (hold : ∀ w, Hp w0 O As w → (Builtin.firstCells size k (.slice o k cap)).run P w = .ok olds.toArray w) (hol : olds.length = k * size)
    (hgrow : cap < k + m) (hb : (k + m) * bytes ≤ 140737488355328) (h63 : k + m ≤ maxLen) :
    Yw P n ⟨dst, .call { callee := .builtin .append, args := #[x, y], argTypes := #[t, u] }, ty, pos, after, g⟩ env (Hp w0 O As)
      (Rx (fun p : Nat × Nat => k + m ≤ p.2) (fun p => .slice (some ⟨p.1, 0, none⟩) (k + m) p.2) (fun p => Hp w0 O (slc e size (some ⟨p.1, 0, none⟩) (k + m) p.2 (olds ++ zeroL zl m) :: As))) := fun a w ha hw => by
  obtain ⟨inf, h1, h2, h3, h4⟩ := he.parts
  subst hp h3 h4
  have hwd : Hp w0 O As w.drew := Hp.drawless _ _ _ w hw
  have hfit := growslice_fits (need := k + m) (old := cap) (bytes := inf.bytes) (by omega) hb
  have hmb : m * inf.bytes ≤ 281474976710656 := by
    have : m * inf.bytes ≤ (k + m) * inf.bytes := Nat.mul_le_mul_right _ (by omega)
    omega
  have hr := Lib.run_append_grow_zeros (P := P) w t u ty e inf zero .i64 kn ht hu h1 h2 o k cap olds (hold _ hwd) m hm hsz hgrow (by simp only [maxLen] at h63; omega) hmb (by omega)
  have hge := grownCap_ge w (k + m) cap e
  rw [hzc, zeroCells_list, zeroCells_list] at hr
  have hcells : olds.toArray ++ (zeroL zl m).toArray ++ (zeroL zl (grownCap w (k + m) cap e - (k + m))).toArray = (olds ++ zeroL zl m ++ zeroL zl (grownCap w (k + m) cap e - (k + m))).toArray := by simp
  rw [hcells] at hr
  refine ⟨.slice (some ⟨w.heap.size, 0, none⟩) (k + m) (grownCap w (k + m) cap e), w.drew.alloc (.cells (olds ++ zeroL zl m ++ zeroL zl (grownCap w (k + m) cap e - (k + m))).toArray e (0, 0)), by simp [execOp, resolve, invoke, builtin, ha.eval hx, ha.eval hy, hr], (w.heap.size, grownCap w (k + m) cap e), hge, rfl, ?_⟩
  have hle : (k + m) * inf.size ≤ grownCap w (k + m) cap e * inf.size := Nat.mul_le_mul_right _ hge
  have hl : (olds ++ zeroL zl m).length = (k + m) * inf.size := by rw [List.length_append, hol, zeroL_length, hzl, Nat.add_mul]
  exact (hwd.alloc (.cells _ e (0, 0))).conv (Bs := [slc e inf.size (some ⟨w.heap.size, 0, none⟩) (k + m) (grownCap w (k + m) cap e) (olds ++ zeroL zl m)]) fun h hh =>
      ⟨h, [], ⟨hl, .inr ⟨w.heap.size, 0, _, rfl, hh, hge, by rw [List.length_append, hl, zeroL_length, hzl, ← Nat.add_mul, Nat.zero_add]; exact Nat.mul_le_mul_right _ (by omega), by rw [List.drop_zero, ← hl, List.take_left']; rfl⟩⟩, rfl, by simp⟩

/-! ### Copies -/
/-- What is copied can be read: m elements, the cells news; the first j of them too. -/
def SrcN (P : Program) (size : Nat) (x : Value) (m : Nat) (news : List Value) (w : World) : Prop :=
  (Builtin.lenOf x).run P w = .ok m w ∧ news.length = m * size ∧ ∀ j, j ≤ m → (Builtin.firstCells size j x).run P w = .ok (news.take (j * size)).toArray w
theorem SrcN.slice {a : Option Addr} {m sz c : Nat} {news : List Value} {w : World} (h : Seen (rsl a m sz news) w) : SrcN P sz (.slice a m c) m news w := by
  refine ⟨rfl, h.choose_spec.1.1, fun j hj => ?_⟩
  have hc := fun j u => h.cell (j := j) (u := u)
  obtain ⟨g, ⟨hl, hs⟩, _⟩ := h
  cases a with
  | none =>
    rcases hs with ⟨rfl, _⟩ | ⟨_, _, _, _, _, h, _⟩
    · rw [Nat.zero_mul] at hl
      rw [List.eq_nil_of_length_eq_zero hl]; simp [Builtin.firstCells]
    · cases h
  | some b =>
    have hle : j * sz ≤ m * sz := Nat.mul_le_mul_right _ hj
    refine run_firstCells_some w sz j b m c (news.take (j * sz)) (by rw [List.length_take, hl]; omega) (fun i u hi => hc i u ?_)
    rw [List.getElem?_take] at hi
    split at hi
    · exact hi
    · cases hi

theorem yw_copy (pre : List Atom) {u : TypeId} {size bytes k cap i dl dc m : Nat} {zero : Value} {o : Option Addr} {cs news : List Value} {ts : TypeId} (ht : P.underlying t = some (.slice e)) (he : TI P e size bytes zero)
    (hx : env.ev x = some (.slice (cutAt o i cap size) dl dc)) (hy : env.ev y = some v) (hdl : i + dl ≤ k) (hsrc : ∀ w, Hp w0 O (pre ++ slc u size o k cap cs :: post) w → SrcN P size v m news w) (hone : ∀ v ∈ news.take (min m dl * size), v.oneCell' = true) :
    Yw P n ⟨dst, .call { callee := .builtin .copy, args := #[x, y], argTypes := #[t, ts] }, ty, pos, after, g⟩ env (Hp w0 O (pre ++ slc u size o k cap cs :: post))
      (Rx (fun _ : Unit => True) (fun _ => .int .i64 ((min m dl : Nat) : Int)) (fun _ => Hp w0 O (pre ++ slc u size o k cap (setAll cs (i * size) (news.take (min m dl * size))) :: post))) := fun a w ha hw => by
  obtain ⟨inf, h1, _, h3, _⟩ := he.parts
  subst h3
  obtain ⟨hs1, hs2, hs3⟩ := hsrc w hw
  have hs4 := hs3 (min m dl) (Nat.min_le_left _ _)
  have hkc := hw.slc_le pre
  have hcl : cs.length = k * inf.size := by
    obtain ⟨_, h, _⟩ := hw.seen pre
    exact h.1
  have hnl : (news.take (min m dl * inf.size)).length = min m dl * inf.size := by
    rw [List.length_take, hs2]
    exact Nat.min_eq_left (Nat.mul_le_mul_right _ (Nat.min_le_left _ _))
  have hex : ∀ w', ((match cutAt o i cap inf.size with | some a => storeCells a (news.take (min m dl * inf.size)) | none => Pure.pure () : Sem Unit).run P w = .ok () w') →
      (execOp a.eval ⟨dst, .call { callee := .builtin .copy, args := #[x, y], argTypes := #[t, ts] }, ty, pos, after, g⟩).run P w = .ok (.value (.int .i64 ((min m dl : Nat) : Int))) w' := fun w' h => by
    have : (Builtin.copy_ #[t, ts] ty #[.slice (cutAt o i cap inf.size) dl dc, v]).run P w = .ok (.int .i64 ((min m dl : Nat) : Int)) w' := by
      have hs4' : (Builtin.firstCells inf.size (Nat.min m dl) v).run P w = .ok (news.take (min m dl * inf.size)).toArray w := hs4
      cases hc : cutAt o i cap inf.size with
      | none => rw [hc] at h; simp only [Sem.run_pure] at h; cases h; simp [Builtin.copy_, run_underlying ht, hs1, sizeOf, typeInfo, h1, hs4', goInt]
      | some b => rw [hc] at h; simp only at h; simp [Builtin.copy_, run_underlying ht, hs1, sizeOf, typeInfo, h1, hs4', h, goInt]
    simp [execOp, resolve, invoke, builtin, ha.eval hx, ha.eval hy, this]
  by_cases h0 : min m dl = 0
  · have hnil : news.take (min m dl * inf.size) = [] := by rw [h0, Nat.zero_mul, List.take_zero]
    refine ⟨_, w, hex w ?_, (), trivial, rfl, by rw [hnil]; exact hw⟩
    rw [hnil]
    cases cutAt o i cap inf.size <;> simp [storeCells]
  · have hic : ¬ cap = i := by omega
    have hos : o.isSome = true := hw.slc_isSome pre (by omega)
    have hle : i * inf.size + (news.take (min m dl * inf.size)).length ≤ cs.length := by
      rw [hnl, hcl, ← Nat.add_mul]
      exact Nat.mul_le_mul_right _ (by omega)
    obtain ⟨w', hr, hw'⟩ := run_storeCells_slc (P := P) pre (i := i * inf.size) (news.take (min m dl * inf.size)) cs 0 w hw (by simpa using hle) hone
    refine ⟨_, w', hex w' ?_, (), trivial, rfl, hw'⟩
    cases o with
    | none => cases hos
    | some b =>
      simp only [cutAt, if_neg hic, Option.map_some]
      exact hr

/-- clear of the end of a slice. -/
theorem yu_clearSl (pre : List Atom) {u : TypeId} {size bytes k cap i dl dc : Nat} {zero : Value} {zl : List Value} {o : Option Addr} {cs : List Value} {Q : Exit → Act → World → Prop} {ops : Array Oper} {rest : List Oper} (ht : P.underlying t = some (.slice e)) (he : TI P e size bytes zero) (hzc : zero.cells = zl.toArray) (hzl : zl.length = size) (hone : ∀ v ∈ zl, v.oneCell' = true)
    (hx : env.ev x = some (.slice (cutAt o i cap size) dl dc)) (hdl : i + dl ≤ k)
    (h : WL P n ops Q rest env (Hp w0 O (pre ++ slc u size o k cap (setAll cs (i * size) (zeroL zl dl)) :: post))) :
    WL P n ops Q (⟨none, .call { callee := .builtin .clear, args := #[x], argTypes := #[t] }, ty, pos, after, none⟩ :: rest) env (Hp w0 O (pre ++ slc u size o k cap cs :: post)) := fun a w ha hw => wpList_step fun K' hK' => by
  rw [if_pos (by rfl)]
  unfold Oper.wp
  obtain ⟨inf, h1, h2, h3, _⟩ := he.parts
  subst h3
  have hkc := hw.slc_le pre
  have hcl : cs.length = k * inf.size := by
    obtain ⟨_, h, _⟩ := hw.seen pre
    exact h.1
  have hz1 : ∀ v ∈ zeroL zl dl, v.oneCell' = true := by
    intro v hv
    have key : ∀ m, v ∈ zeroL zl m → v.oneCell' = true := by
      intro m
      induction m with
      | zero => intro h; cases h
      | succ m ih =>
        intro h
        rcases List.mem_append.1 h with h | h
        · exact hone v h
        · exact ih h
    exact key dl hv
  obtain ⟨w', hr, hw'⟩ : ∃ w', (Builtin.clear_ #[t] ty #[.slice (cutAt o i cap inf.size) dl dc]).run P w = .ok (.tuple #[]) w' ∧ Hp w0 O (pre ++ slc u inf.size o k cap (setAll cs (i * inf.size) (zeroL zl dl)) :: post) w' := by
    by_cases h0 : dl = 0
    · subst h0
      refine ⟨w, ?_, hw⟩
      cases cutAt o i cap inf.size <;> simp [Builtin.clear_, run_underlying ht]
    · have hic : ¬ cap = i := by omega
      have hos : o.isSome = true := hw.slc_isSome pre (by omega)
      have hle : i * inf.size + (zeroL zl dl).length ≤ cs.length := by
        rw [zeroL_length, hzl, hcl, ← Nat.add_mul]
        exact Nat.mul_le_mul_right _ (by omega)
      obtain ⟨w', hr, hw'⟩ := run_storeCells_slc (P := P) pre (i := i * inf.size) (zeroL zl dl) cs 0 w hw (by simpa using hle) hz1
      refine ⟨w', ?_, hw'⟩
      cases o with
      | none => cases hos
      | some b =>
        simp only [cutAt, if_neg hic, Option.map_some]
        obtain ⟨q, rfl⟩ : ∃ q, dl = q + 1 := ⟨dl - 1, by omega⟩
        have hr' : (storeCells (b.add (i * inf.size)) (zeroL zl (q + 1))).run P w = .ok () w' := hr
        simp [Builtin.clear_, run_underlying ht, zeroValue, typeInfo, h1, h2, hzc, zeroCells_list, hr']
  have : (execOp a.eval ⟨none, .call { callee := .builtin .clear, args := #[x], argTypes := #[t] }, ty, pos, after, none⟩).run P w = .ok (.value (.tuple #[])) w' := by
    simp [execOp, resolve, invoke, builtin, ha.eval hx, hr]
  rw [this]
  exact hK' _ _ (h _ w' ha hw')
end
end Go.Eng
namespace Go.Eng
section
variable {P : Program} {n : Nat} {env : Env} {S : World → Prop} {dst : Option Tmp} {ty : TypeId} {pos : String} {after : Array Edge} {g : Option (Nat × Bool)}
theorem byte_back (c : UInt8) : ((c.toNat : Int)).toNat.toUInt8 = c := by simp
theorem y_idxB {f : FuncId} {fn : Func} {l : Str} {ch : UInt8} {args : List Operand} {ts : Array TypeId} {c : Operand} (hf : P.funcs[f]? = some fn) (hname : (fn.name == "runtime.NumGoroutine") = false)
    (hb : fn.body.isNone = true) (hn : Extern.findNext fn = none) (he : Extern.find fn = some Extern.BytealgIndexByte.indexByte)
    (hc : env.ev c = some (.func (.func f) #[] #[])) (ha : env.evl args = some [.string (bs l), .int .u8 (ch.toNat : Int)]) :
    Yv P n ⟨dst, .call { callee := .value c, args := args.toArray, argTypes := ts }, ty, pos, after, g⟩ env S (.int .i64 (Lib.indexByte l ch)) :=
  y_extern hf hname hb hn he hc ha fun w _ => by
    have := Lib.run_indexByteString (P := P) (bs l) (ch.toNat : Int) w
    rw [byte_back] at this
    exact this
theorem y_cntB {f : FuncId} {fn : Func} {l : Str} {ch : UInt8} {args : List Operand} {ts : Array TypeId} {c : Operand} (hf : P.funcs[f]? = some fn) (hname : (fn.name == "runtime.NumGoroutine") = false)
    (hb : fn.body.isNone = true) (hn : Extern.findNext fn = none) (he : Extern.find fn = some Extern.BytealgCount.count)
    (hc : env.ev c = some (.func (.func f) #[] #[])) (ha : env.evl args = some [.string (bs l), .int .u8 (ch.toNat : Int)]) :
    Yv P n ⟨dst, .call { callee := .value c, args := args.toArray, argTypes := ts }, ty, pos, after, g⟩ env S (.int .i64 ((l.count ch : Nat) : Int)) :=
  y_extern hf hname hb hn he hc ha fun w _ => by
    have := Lib.run_countString (P := P) (bs l) (ch.toNat : Int) w
    rw [byte_back] at this
    exact this
theorem zeroL_one (z : Value) (k : Nat) : zeroL [z] k = List.replicate k z := by
  induction k with
  | zero => rfl
  | succ k ih => rw [zeroL, ih, List.replicate_succ]; rfl
theorem fill_next (z v : Value) (l : List Value) (k : Nat) : (l ++ List.replicate (k + 1) z).set l.length v = (l ++ [v]) ++ List.replicate k z := by
  rw [List.set_append_right _ _ (Nat.le_refl _), Nat.sub_self, List.replicate_succ, List.set_cons_zero, List.append_assoc]; rfl
theorem y_indexD {x y : Operand} {t : TypeId} {l : Str} {k : IntKind} {p : Int} {i : Nat} (ht : P.underlying t = some .string) (hx : env.ev x = some (.string (bs l))) (hy : env.ev y = some (.int k p)) (hp : p = (i : Int)) (hi : i < l.length) :
    Yv P n ⟨dst, .index t x y, ty, pos, after, g⟩ env S (.int .u8 ((l.getD i 0).toNat : Int)) := by
  have e : l[i]? = some (l.getD i 0) := by rw [List.getD_eq_getElem?_getD, List.getElem?_eq_getElem hi]; rfl
  exact y_indexS ht hx hy hp e
theorem getD_of {l : Str} {i : Nat} {c : UInt8} (h : l[i]? = some c) : l.getD i 0 = c := by rw [List.getD_eq_getElem?_getD, h]; rfl
theorem y_makeFunc {fn : Fn} {fo co : List Operand} {fs cs : List Value} (hf : env.evl fo = some fs) (hc : env.evl co = some cs) : Yv P n ⟨dst, .makeFunc fn fo.toArray co.toArray, ty, pos, after, g⟩ env S (.func fn fs.toArray cs.toArray) := fun a w ha _ => by
  have h1 := ha.evl hf
  have h2 := ha.evl hc
  have e1 : fo.toArray.map a.eval = fs.toArray := by rw [← h1]; simp
  have e2 : co.toArray.map a.eval = cs.toArray := by rw [← h2]; simp
  show ((Functor.map Next.value (Instr.makeFunc fn (fo.toArray.map a.eval) (co.toArray.map a.eval))) : Sem Next).run P w = _
  rw [e1, e2]; rfl
/-- A slice with room, made longer: what stands behind it is whatever it is. -/
theorem slc_ext {e sz : Nat} {o : Option Addr} {k cap : Nat} {cs : List Value} {h : HL} (j : Nat) (hs : slc e sz o k cap cs h) (hkj : k ≤ j) (hj : j ≤ cap) : ∃ t : List Value, t.length = (j - k) * sz ∧ slc e sz (cutAt o 0 cap sz) j cap (cs ++ t) h := by
  obtain ⟨hl, hs⟩ := hs
  have hm : (j - k) * sz = j * sz - k * sz := Nat.sub_mul ..
  have hle : k * sz ≤ j * sz := Nat.mul_le_mul_right _ hkj
  have hle2 : j * sz ≤ cap * sz := Nat.mul_le_mul_right _ hj
  rcases hs with ⟨rfl, rfl, rfl, rfl⟩ | ⟨b, off, l, rfl, rfl, hk, hcap, ht⟩
  · obtain rfl : j = 0 := by omega
    exact ⟨[], by simp, by simp [hl], .inl ⟨rfl, rfl, rfl, rfl⟩⟩
  · refine ⟨((l.drop off).drop (k * sz)).take ((j - k) * sz), ?_, ?_, .inr ⟨b, off, l, ?_, rfl, hj, hcap, ?_⟩⟩
    · rw [List.length_take, List.length_drop, List.length_drop]; omega
    · rw [List.length_append, hl, List.length_take, List.length_drop, List.length_drop]; omega
    · unfold cutAt; split
      · rfl
      · simp [Addr.add]
    · rw [← ht, ← List.take_add]; congr 1; omega

theorem Hp.ext {w0 : World} {O : Nat → Prop} {As : List Atom} {e sz : Nat} {o : Option Addr} {k cap : Nat} {cs : List Value} {w : World} (j : Nat) (hw : Hp w0 O (slc e sz o k cap cs :: As) w) (hkj : k ≤ j) (hj : j ≤ cap) : ∃ t : {t : List Value // t.length = (j - k) * sz}, Hp w0 O (slc e sz (cutAt o 0 cap sz) j cap (cs ++ t.1) :: As) w := by
  obtain ⟨hh, ⟨h1, h2, hA, ho, rfl⟩, hf⟩ := hw
  obtain ⟨t, ht, hs⟩ := slc_ext j hA hkj hj
  exact ⟨⟨t, ht⟩, _, ⟨h1, h2, hs, ho, rfl⟩, hf⟩

theorem ins_cells (X Y t F : List Value) (h : t.length = F.length) : setAll (setAll (X ++ Y ++ t) (X.length + F.length) Y) X.length F = X ++ F ++ Y := by
  have e1 : X ++ Y ++ t = (X ++ (Y ++ t).take F.length) ++ (Y ++ t).drop F.length ++ [] := by rw [List.append_nil, List.append_assoc, List.append_assoc, List.take_append_drop]
  have hl : (X ++ (Y ++ t).take F.length).length = X.length + F.length := by rw [List.length_append, List.length_take, List.length_append]; omega
  have hd : ((Y ++ t).drop F.length).length = Y.length := by rw [List.length_drop, List.length_append]; omega
  rw [e1, ← hl, setAll_app _ _ _ _ hd, List.append_nil, setAll_app _ _ _ _ (by rw [List.length_take, List.length_append]; omega)]
theorem ins_new (X Y Z F : List Value) (h : Z.length = F.length + Y.length) : setAll (setAll (X ++ Z) X.length F) (X.length + F.length) Y = X ++ F ++ Y := by
  have e1 : X ++ Z = X ++ Z.take F.length ++ Z.drop F.length := by rw [List.append_assoc, List.take_append_drop]
  have e2 : (X ++ F).length = X.length + F.length := List.length_append
  rw [e1, setAll_app _ _ _ _ (by rw [List.length_take]; omega), ← e2]
  have := setAll_app Y (X ++ F) (Z.drop F.length) [] (by rw [List.length_drop]; omega)
  rw [List.append_nil, List.append_nil] at this
  exact this

/-- Two slices in blocks of their own do not overlap. -/
theorem run_overlaps_slc {tS tR : TypeId} (ht : P.underlying tS = some (.slice ty)) {sz bytes : Nat} {zero : Value} (hz : TI P ty sz bytes zero) {w0 : World} {O : Nat → Prop} {pre mid post : List Atom} {e1 e2 s1 s2 : Nat} {a b : Option Addr} {k1 c1 k2 c2 : Nat} {cs1 cs2 : List Value} {w : World}
    (h : Hp w0 O (pre ++ slc e1 s1 a k1 c1 cs1 :: (mid ++ slc e2 s2 b k2 c2 cs2 :: post)) w) (h1 : 0 < k1) (h2 : 0 < k2 * s2) (i : Nat) (la ca lb cb : Nat) :
    (Extern.SlicesOverlaps.overlaps #[tS, tS] #[tR] #[.slice a la ca, .slice (cutAt b i c2 s2) lb cb]).run P w = .ok (.bool false) w := by
  obtain ⟨inf, i1, _, i3, _⟩ := hz.parts
  have hsz : ∀ w, (Go.sizeOf ty).run P w = .ok sz w := fun w => by simp [sizeOf, typeInfo, i1, i3]
  obtain ⟨g, ⟨g1, g2, hA, ho, rfl⟩, hf⟩ := h.pick pre
  obtain ⟨g3, g4, ho3, ho4, rfl⟩ := own_append.1 ho
  obtain ⟨g5, g6, ho5, ⟨g7, g8, hB, ho8, rfl⟩, rfl⟩ := own_append.1 ho4
  rcases hA.2 with ⟨_, h0, _, _⟩ | ⟨b1, off1, l1, rfl, rfl, _, hcap1, _⟩
  · omega
  · rcases hB.2 with ⟨_, rfl, _, _⟩ | ⟨b2, off2, l2, rfl, rfl, hk2, hcap2, _⟩
    · simp at h2
    · have hh1 : w.heap[b1]? = some (.cells l1.toArray e1 (0, 0)) := hf.here (b1, _) (by simp)
      have hh2 : w.heap[b2]? = some (.cells l2.toArray e2 (0, 0)) := hf.here (b2, _) (by simp)
      have hne : b1 ≠ b2 := fun e => by
        subst e
        have := hf.nodup
        simp at this
      have hl2 : l2.length ≠ 0 := by
        have : k2 * s2 ≤ c2 * s2 := Nat.mul_le_mul_right _ hk2
        omega
      have hb : ∃ off', cutAt (some ⟨b2, off2, none⟩) i c2 s2 = some ⟨b2, off', none⟩ := by
        unfold cutAt
        split
        · exact ⟨off2, rfl⟩
        · unfold Addr.add; simp only [Option.map_some]; split
          · exact ⟨_, rfl⟩
          · exact ⟨_, rfl⟩
      obtain ⟨off', hb⟩ := hb
      rw [hb]
      have hs1 : w.shape? b1 = some (e1, l1.length) := by simp [World.shape?, hh1]
      have hs2 : w.shape? b2 = some (e2, l2.length) := by simp [World.shape?, hh2]
      exact Lib.run_overlaps_apart w tS tR ty ht sz hsz ⟨b1, off1, none⟩ ⟨b2, off', none⟩ la ca lb cb hne e1 e2 l1.length l2.length hs1 hs2 hl2 (frozen_of_heap hh1) (frozen_of_heap hh1)
end
end Go.Eng
