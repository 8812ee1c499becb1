/-
  Texts that are built: a strings.Builder that a walk owns.
-/
import Derived.Test.YtbnahfjhlbibcaaDoorEngSl
import Derived.Test.YtbnahfjhlbibcaaDoorEngConv
import Derived.Test.YtbnahfjhlbibcaaDoorEngEx
import Derived.Lib.Builder
import Derived.Lib.UnsafeStr
namespace Go.Eng

/-- A buffer that begins where its block begins, and has room where it is one. -/
def okB (a : Option Addr) (cap : Nat) : Prop := (∀ g off, a = some ⟨g, off, none⟩ → off = 0) ∧ (a.isSome = true → 0 < cap)
theorem okB_nil : okB none 0 := ⟨fun _ _ h => (by cases h), fun h => (by cases h)⟩

section
variable {P : Program} {n : Nat} {env : Env} {S : World → Prop} {dst : Option Tmp} {ty : TypeId} {pos : String} {after : Array Edge} {g : Option (Nat × Bool)} {x y z : Operand} {u v : Value} {t e : TypeId} {w0 : World} {O : Nat → Prop} {As post : List Atom}

theorem append_okB {u : TypeId} {uo : TypeDesc} {size bytes k cap m : Nat} {zero : Value} {o : Option Addr} {cs news : List Value} (ht : P.underlying t = some (.slice e)) (hu : P.underlying u = some uo) (hni : (∃ e', uo = .slice e') ∨ uo = .string) (he : TI P e size bytes zero)
    {w : World} (hcs : Seen (rsl o k size cs) w) (hsrc : Src P size v m news w) (hsrc' : Src P size v m news w.drew) (hb : (k + m) * bytes ≤ 140737488355328) (h63 : k + m ≤ maxLen) (hok : okB o cap)
    {o' : Option Addr} {cap' : Nat} {w' : World} (hr : (Builtin.append_ #[t, u] ty #[.slice o k cap, v]).run P w = .ok (.slice o' (k + m) cap') w') : okB o' cap' := by
  obtain ⟨inf, h1, h2, h3, h4⟩ := he.parts
  subst h3 h4
  by_cases hroom : k + m ≤ cap
  · rw [run_append_put (P := P) (ty := ty) (o := o) (cap := cap) ht hu hni h1 hsrc hroom] at hr
    have key : ∀ r : Result Unit, r.andThen (fun _ w' => Result.ok (Value.slice o (k + m) cap) w') = Result.ok (Value.slice o' (k + m) cap') w' → o = o' ∧ cap = cap' := fun r hr => by
      cases r with
      | ok a w2 =>
        simp only [Result.andThen_ok, Result.ok.injEq, Value.slice.injEq] at hr
        exact ⟨hr.1.1, hr.1.2.2⟩
      | halt => simp [Result.andThen] at hr
    obtain ⟨rfl, rfl⟩ := key _ hr
    exact hok
  · have hcs' : Seen (rsl o k inf.size cs) w.drew := hcs
    rw [run_append_new (P := P) (ty := ty) (o := o) (k := k) (cap := cap) (m := m) (x := v) (c := cap) ht hu hni h1 h2 (Src.slice hcs') hsrc hsrc' (by omega) hb h63] at hr
    simp only [Result.ok.injEq, Value.slice.injEq] at hr
    obtain ⟨⟨rfl, _, rfl⟩, _⟩ := hr
    have hge := grownCap_ge w (k + m) cap e
    refine ⟨fun g off h => ?_, fun _ => by omega⟩
    simp only [Option.some.injEq, Addr.mk.injEq] at h
    omega

/-- A string is appended to bytes that begin where their block begins. -/
theorem yw_appendS (pre : List Atom) {u : TypeId} {bytes k cap : Nat} {zero : Value} {o : Option Addr} {cs : List Value} {l : Str} (ht : P.underlying t = some (.slice e)) (hu : P.underlying u = some .string) (he : TI P e 1 bytes zero) (hzs : zero.cells.size = 1)
    (hx : env.ev x = some (.slice o k cap)) (hy : env.ev y = some (.string (bs l))) (hok : okB o cap) (hb : (k + l.length) * bytes ≤ 140737488355328) (h63 : k + l.length ≤ maxLen) :
    Yw P n ⟨dst, .call { callee := .builtin .append, args := #[x, y], argTypes := #[t, u] }, ty, pos, after, g⟩ env (Hp w0 O (pre ++ slc e 1 o k cap cs :: post))
      (Rx (fun p : Option Addr × Nat => okB p.1 p.2) (fun p => .slice p.1 (k + l.length) p.2) (fun p => Hp w0 O (pre ++ slc e 1 p.1 (k + l.length) p.2 (cs ++ byC l) :: post))) := fun a w ha hw => by
  have hsz : (bs l).size = l.length := by simp [ByteArray.size]
  have hsrc : ∀ w, Src P 1 (.string (bs l)) l.length (byC l) w := fun w => by
    have := Src.str (P := P) (s := bs l) (w := w)
    rw [hsz] at this
    simpa [byC] using this
  obtain ⟨v, w', hr, p, hp, rfl, hw'⟩ := yw_append (P := P) (n := n) (dst := dst) (ty := ty) (pos := pos) (after := after) (g := g) (w0 := w0) (O := O) (post := post) pre (cs := cs) (news := byC l) (v := .string (bs l)) (m := l.length) ht hu (.inr rfl) he hzs hx hy (fun w _ => hsrc w) hb h63 (by simp [byC, Value.oneCell']) (by simp) a w ha hw
  refine ⟨_, w', hr, p, ?_, rfl, hw'⟩
  have hr2 : (Builtin.append_ #[t, u] ty #[.slice o k cap, .string (bs l)]).run P w = .ok (.slice p.1 (k + l.length) p.2) w' := by
    simp only [execOp, resolve, invoke, builtin] at hr
    simp [ha.eval hx, ha.eval hy] at hr
    generalize hg : (Builtin.append_ #[t, u] ty #[.slice o k cap, .string (bs l)]).run P w = r at hr
    cases r with
    | ok a w2 =>
      simp only [Result.andThen_ok, Result.ok.injEq, Next.value.injEq] at hr
      obtain ⟨rfl, rfl⟩ := hr
      rfl
    | _ => simp [Result.andThen] at hr
  exact append_okB ht hu (.inr rfl) he ((hw.seen pre).mono fun _ => slc_rsl) (hsrc w) (hsrc _) hb h63 hok hr2

/-! ### Addresses that go through unsafe -/
theorem y_toUnsafe {s d tt tb : TypeId} {size bytes b i k : Nat} {zero : Value} {fr : Nat × Nat} {c : Array Value} (hs : P.underlying s = some (.pointer tt)) (hd : P.underlying d = some .unsafePointer) (ht : TI P tt size bytes zero) (hsz : Nat.beq size 0 = false) (hx : env.ev x = some (.pointer (some ⟨b, i, none⟩)))
    (hc : c.size = k) (hi : i < k) (hS : ∀ w, S w → w.heap[b]? = some (.cells c tb fr)) : Yv P n ⟨dst, .convert s d x, ty, pos, after, g⟩ env S (.pointer (some ⟨b, i, none⟩)) := fun a w ha hw => by
  obtain ⟨inf, h1, _, h3, _⟩ := ht.parts
  have hsh : w.shape? b = some (tb, k) := by simp [World.shape?, hS w hw, hc]
  have key := Lib.run_to_unsafe (P := P) w ⟨b, i, none⟩ hs hd h1 (by rw [h3]; intro e; subst e; cases hsz) hsh hi
  show ((do let v ← convert s d (a.eval x); Pure.pure (Next.value v) : Sem Next)).run P w = _
  rw [ha.eval hx]
  simp only [Sem.run_bind, key, Result.andThen_ok, Sem.run_pure]
theorem y_fromUnsafe {s d tt tb : TypeId} {size bytes b i k : Nat} {zero : Value} {fr : Nat × Nat} {c : Array Value} (hs : P.underlying s = some .unsafePointer) (hd : P.underlying d = some (.pointer tt)) (ht : TI P tt size bytes zero) (hx : env.ev x = some (.pointer (some ⟨b, i, none⟩)))
    (hc : c.size = k) (hlies : liesAt P P.depth tb (k / P.cellsOf tb) i tt 1 = true) (hS : ∀ w, S w → w.heap[b]? = some (.cells c tb fr)) : Yv P n ⟨dst, .convert s d x, ty, pos, after, g⟩ env S (.pointer (some ⟨b, i, none⟩)) := fun a w ha hw => by
  obtain ⟨inf, h1, _, h3, _⟩ := ht.parts
  have hsh : w.shape? b = some (tb, k) := by simp [World.shape?, hS w hw, hc]
  have key := Lib.run_from_unsafe (P := P) w ⟨b, i, none⟩ hs hd h1 hsh hlies
  show ((do let v ← convert s d (a.eval x); Pure.pure (Next.value v) : Sem Next)).run P w = _
  rw [ha.eval hx]
  simp only [Sem.run_bind, key, Result.andThen_ok, Sem.run_pure]
theorem y_noEsc {f : FuncId} {fn : Func} {args : List Operand} {ts : Array TypeId} {c : Operand} (hf : P.funcs[f]? = some fn) (hname : (fn.name == "runtime.NumGoroutine") = false)
    (hb : fn.body.isNone = true) (hn : Extern.findNext fn = none) (he : Extern.find fn = some Extern.AbiNoEscape.same)
    (hc : env.ev c = some (.func (.func f) #[] #[])) (ha : env.evl args = some [v]) :
    Yv P n ⟨dst, .call { callee := .value c, args := args.toArray, argTypes := ts }, ty, pos, after, g⟩ env S v :=
  y_extern hf hname hb hn he hc ha fun w _ => Lib.run_noEscape w v
theorem y_neqPsame {te : TypeId} {size bytes : Nat} {zero : Value} {a : Addr} {t' : TypeId} (ht : P.underlying t = some (.pointer te)) (he : TI P te size bytes zero) (hx : env.ev x = some (.pointer (some a))) (hy : env.ev y = some (.pointer (some a))) :
    Yv P n ⟨dst, .binOp .neq t x y t', ty, pos, after, g⟩ env S (.bool false) := by
  obtain ⟨inf, h1, _⟩ := he.parts
  exact run_binOp hx hy (fun _ => rfl) (fun w _ => Lib.run_neq_ptr_same w a ht h1)
theorem y_sliceData {ts : Array TypeId} {a : Option Addr} {k cap : Nat} (hx : env.ev x = some (.slice a k cap)) (hok : okB a cap) :
    Yv P n ⟨dst, .call { callee := .builtin .unsafeSliceData, args := #[x], argTypes := ts }, ty, pos, after, g⟩ env S (.pointer a) := fun a0 w ha _ => by
  have key : (Builtin.unsafeSliceData_ ts ty #[.slice a k cap]).run P w = .ok (.pointer a) w := by
    cases a with
    | none => exact Lib.run_unsafeSliceData_nil w ts ty k cap
    | some a => exact Lib.run_unsafeSliceData_row w ts ty a k cap (by have := hok.2 rfl; omega)
  simp [execOp, resolve, invoke, builtin, ha.eval hx, key]
theorem hp_freeze {e : TypeId} {k cap m j : Nat} {cs : List Value} {b off : Nat} {w : World} (hw : Hp w0 O (slc e 1 (some ⟨b, off, none⟩) k cap cs :: post) w) : Hp w0 O post (w.freeze ⟨b, j, none⟩ m) := by
  obtain ⟨h, ⟨h1, h2, hA, ho, rfl⟩, hf⟩ := hw
  obtain ⟨_, hA⟩ := hA
  rcases hA with ⟨h, _⟩ | ⟨b2, off2, l, hb, rfl, _, _, _⟩
  · cases h
  · simp only [Option.some.injEq, Addr.mk.injEq] at hb
    obtain ⟨rfl, _, _⟩ := hb
    have hp : Hp w0 O (blk b (.cells l.toArray e (0, 0)) :: post) w := ⟨_, ⟨[(b, .cells l.toArray e (0, 0))], h2, rfl, ho, rfl⟩, hf⟩
    by_cases hm : m = 0
    · subst hm; exact hp.drop
    · have hfz : (w.freeze ⟨b, j, none⟩ m).heap[b]? = some (.cells l.toArray e (j, j + m)) := by
        simp [World.freeze, hm, Array.getElem?_modify, hp.blk_heap]
      refine (hp.turn (w' := w.freeze ⟨b, j, none⟩ m) hfz (by simp [World.freeze, hm]) (fun q hq => ?_) ?_ ?_ ?_).drop
      · simp only [World.freeze, if_neg hm, Array.getElem?_modify]
        rw [if_neg (fun e => hq e.symm)]
      · simp [World.freeze, hm]
      · simp [World.freeze, hm]
      · simp [World.freeze, hm]
theorem yw_unsafeString (pre : List Atom) {pt it e : TypeId} {a : Option Addr} {cap : Nat} {l : Str} (hp : P.underlying pt = some (.pointer e)) (hc : P.cellsOf e = 1) (hx : env.ev x = some (.pointer a)) (hy : env.ev y = some (.int .i64 (l.length : Nat))) (hok : okB a cap) (h63 : l.length ≤ 9223372036854775807) :
    Yw P n ⟨dst, .call { callee := .builtin .unsafeString, args := #[x, y], argTypes := #[pt, it] }, ty, pos, after, g⟩ env (Hp w0 O (pre ++ slc e 1 a l.length cap (byC l) :: post)) (Rx (fun _ : Unit => True) (fun _ => .string (bs l)) (fun _ => Hp w0 O (pre ++ post))) := fun a0 w ha hw => by
  have hp1 := hw.pick pre
  have fin : ∀ w', (Builtin.unsafeString_ #[pt, it] ty #[.pointer a, .int .i64 (l.length : Nat)]).run P w = .ok (.string (bs l)) w' → Hp w0 O (pre ++ post) w' →
      ∃ v w', (execOp a0.eval ⟨dst, .call { callee := .builtin .unsafeString, args := #[x, y], argTypes := #[pt, it] }, ty, pos, after, g⟩).run P w = .ok (.value v) w' ∧ Rx (fun _ : Unit => True) (fun _ => Value.string (bs l)) (fun _ => Hp w0 O (pre ++ post)) v w' := fun w' h1 h2 =>
    ⟨_, w', by simp [execOp, resolve, invoke, builtin, ha.eval hx, ha.eval hy, h1], (), trivial, rfl, h2⟩
  by_cases h0 : l = []
  · subst h0
    exact fin w (Lib.run_unsafeString_none w pt it ty a) hp1.drop
  · obtain ⟨g1, hA, hs⟩ := hp1.seen []
    rcases hA.2 with ⟨_, hk, _⟩ | ⟨b, off, cur, rfl, rfl, hk, hcap, htk⟩
    · exact absurd (List.eq_nil_of_length_eq_zero hk) h0
    · obtain rfl := hok.1 b off rfl
      have hb := hs (b, .cells cur.toArray e (0, 0)) (by simp)
      simp only at hb
      refine fin _ (Lib.run_unsafeString_row w pt it ty e hp hc b cur.length (by simp [World.shape?, hb]) l h0 (by omega) (by omega) (fun j x hj => ?_)) (hp_freeze hp1)
      have := (hp1.seen []).slcCell (j := j) (u := .int .u8 (x.toNat : Nat)) (by simp [byC, hj])
      rw [adr_some, Nat.zero_add] at this
      have ea : (⟨b, 0, none⟩ : Addr).add j = ⟨b, j, none⟩ := by unfold Addr.add; split <;> simp_all
      rw [ea]; exact this
end
theorem ex_open {α : Type} {f : α → List Atom} {w0 : World} {O : Nat → Prop} {As : List Atom} : ∀ w, Hp w0 O ((fun h => ∃ x, Own (f x) h) :: As) w → ∃ x, Hp w0 O (f x ++ As) w := fun w h => by
  obtain ⟨g, ⟨h1, h2, ⟨oc, ha⟩, ho, rfl⟩, hf⟩ := h
  exact ⟨oc, h1 ++ h2, own_append.2 ⟨h1, h2, ha, ho, rfl⟩, hf⟩
theorem ex_shut {α : Type} {f : α → List Atom} {w0 : World} {O : Nat → Prop} {As : List Atom} {w : World} (x : α) (h : Hp w0 O (f x ++ As) w) : Hp w0 O ((fun h => ∃ x, Own (f x) h) :: As) w := by
  obtain ⟨g, ho, hf⟩ := h
  obtain ⟨h1, h2, h1o, h2o, rfl⟩ := own_append.1 ho
  exact ⟨_, ⟨h1, h2, ⟨x, h1o⟩, h2o, rfl⟩, hf⟩
section
variable {T e : TypeId} {w0 : World} {O : Nat → Prop} {As : List Atom} {b : Nat} {s : Str}
/-- A strings.Builder that holds s: its own address or nil, and its buffer. -/
abbrev bldAs (T e : TypeId) (b : Nat) (s : Str) (x : Option Addr × Nat × Bool) : List Atom := [blk b (.cells #[.pointer (if x.2.2 = true then some ⟨b, 0, none⟩ else none), .slice x.1 s.length x.2.1] T (0, 0)), slc e 1 x.1 s.length x.2.1 (byC s)]
def bldA (T e : TypeId) (b : Nat) (s : Str) : Atom := fun h => ∃ x : {x : Option Addr × Nat × Bool // okB x.1 x.2.1}, Own (bldAs T e b s x.1) h
theorem bld_open : ∀ w, Hp w0 O (bldA T e b s :: As) w → ∃ x : {x : Option Addr × Nat × Bool // okB x.1 x.2.1}, Hp w0 O (bldAs T e b s x.1 ++ As) w := ex_open (f := fun x : {x : Option Addr × Nat × Bool // okB x.1 x.2.1} => bldAs T e b s x.1)
theorem bld_shut {w : World} {x : Option Addr × Nat × Bool} (hok : okB x.1 x.2.1) (h : Hp w0 O (bldAs T e b s x ++ As) w) : Hp w0 O (bldA T e b s :: As) w := ex_shut (f := fun x : {x : Option Addr × Nat × Bool // okB x.1 x.2.1} => bldAs T e b s x.1) ⟨x, hok⟩ h
theorem bld_new {w : World} (h : Hp w0 O (blk b (.cells #[.pointer none, .slice none 0 0] T (0, 0)) :: As) w) : Hp w0 O (bldA T e b [] :: As) w :=
  bld_shut (x := (none, 0, false)) okB_nil (Hp.addNil [_] _ h)
end
end Go.Eng
