/-
  Conversions of bytes and of numbers; interfaces against nil.
-/
import Derived.Test.YtfnpjmlpiedgdaaEngMem
import Derived.Laws.BytesArg
namespace Go.Eng

/-- The cells of bytes. -/
abbrev byC (l : Str) : List Value := l.map fun b => Value.int .u8 (b.toNat : Nat)
theorem byC_len (l : Str) : (byC l).length = l.length := by simp

section
variable {P : Program} {n : Nat} {env : Env} {S : World → Prop} {dst : Option Tmp} {ty : TypeId} {pos : String} {after : Array Edge} {g : Option (Nat × Bool)} {x y : Operand} {t t' : TypeId}

theorem y_convBytes {s d e : TypeId} {a : Option Addr} {k cap : Nat} {l : Str} (hs : P.underlying s = some (.slice e)) (he : P.underlying e = some (.int .u8)) (hd : P.underlying d = some .string) (hx : env.ev x = some (.slice a k cap))
    (hseen : ∀ w, S w → Seen (rsl a k 1 (byC l)) w) : Yv P n ⟨dst, .convert s d x, ty, pos, after, g⟩ env S (.string (bs l)) := fun a0 w ha hw => by
  have key : (convert s d (.slice a k cap)).run P w = .ok (.string (bs l)) w := by
    have hS := hseen w hw
    have hS2 := hS
    obtain ⟨h, ⟨hl, hc⟩, hh⟩ := hS
    have hlen : l.length = k := by simpa using hl
    rcases hc with ⟨rfl, _⟩ | ⟨b, off, c, e2, fr, rfl, rfl, hcc⟩
    · obtain rfl := List.eq_nil_of_length_eq_zero hlen
      cases a with
      | none => exact run_convert_bytes_nil w s e hs he 0 cap d hd
      | some a =>
        rw [run_convert_bytes_string w s d e _ 0 cap hs he hd]
        simp [Conv.bytesToString, loadCells, loadCellsFrom]
        rfl
    · have := run_convert_bytes_arg w s e hs he b off k cap (l.map fun b => ((b.toNat : Nat) : Int)) (by simpa using hlen) (fun i hi => by
        have := hS2.cell (j := i) (u := .int .u8 ((l[i]'(by omega)).toNat : Nat)) (by simp [hlen, hi])
        rw [adr_some] at this
        rw [this]
        simp [List.getD, hlen, hi]) d hd
      rw [this]
      have e : (l.map fun b => ((b.toNat : Nat) : Int)).map (fun n => UInt8.ofNat n.toNat) = l := by
        rw [List.map_map]; conv => rhs; rw [← List.map_id l]
        exact List.map_congr_left fun b _ => by simp
      simp only [strOfNums, e]
  show ((do let v ← convert s d (a0.eval x); Pure.pure (Next.value v) : Sem Next)).run P w = _
  rw [ha.eval hx]
  simp only [Sem.run_bind, key, Result.andThen_ok, Sem.run_pure]
theorem y_convInt {s d : TypeId} {k ks kd : IntKind} {p q : Int} (hs : P.underlying s = some (.int ks)) (hd : P.underlying d = some (.int kd)) (hx : env.ev x = some (.int k p)) (hq : kd.wrap p = q) :
    Yv P n ⟨dst, .convert s d x, ty, pos, after, g⟩ env S (.int kd q) := fun a0 w ha hw => by
  subst hq
  show ((do let v ← convert s d (a0.eval x); Pure.pure (Next.value v) : Sem Next)).run P w = _
  rw [ha.eval hx]
  simp [convert, run_underlying hs, run_underlying hd, Conv.intToInt]

/-- An operation that only yields, among those that are put in every order. -/
theorem yw_of {o : Oper} {u : Value} (h : Yv P n o env S u) : Yw P n o env S (Rx (fun _ : Unit => True) (fun _ => u) (fun _ => S)) := fun a w ha hw => ⟨u, w, h a w ha hw, (), trivial, rfl, hw⟩
theorem y_remE {k : IntKind} {p q r : Int} (hx : env.ev x = some (.int k p)) (hy : env.ev y = some (.int k q)) (h : q ≠ 0) (hr : p.tmod q = r) : Yv P n ⟨dst, .binOp .rem t x y t', ty, pos, after, g⟩ env S (.int k r) := hr ▸ y_rem hx hy h
theorem y_quoE {k : IntKind} {p q r : Int} (hx : env.ev x = some (.int k p)) (hy : env.ev y = some (.int k q)) (h : q ≠ 0) (hr : k.wrap (p.tdiv q) = r) : Yv P n ⟨dst, .binOp .quo t x y t', ty, pos, after, g⟩ env S (.int k r) := hr ▸ y_quo hx hy h
theorem y_subE {k : IntKind} {p q r : Int} (hx : env.ev x = some (.int k p)) (hy : env.ev y = some (.int k q)) (hr : k.wrap (p - q) = r) : Yv P n ⟨dst, .binOp .sub t x y t', ty, pos, after, g⟩ env S (.int k r) := hr ▸ y_subW hx hy
theorem y_negE {k : IntKind} {p r : Int} (hx : env.ev x = some (.int k p)) (hr : k.wrap (0 - p) = r) : Yv P n ⟨dst, .unOp .neg t x, ty, pos, after, g⟩ env S (.int k r) := hr ▸ y_negI hx

/-- Is an interface's value nil? -/
def nilI : Value → Bool
  | .nilIface => true
  | _ => false
theorem run_equal_if {ms : TypeDesc} {u : Value} (hms : ∃ m, ms = .interface m) (ht : P.underlying t = some ms) (hu : u = .nilIface ∨ ∃ a b, u = .iface a b) (w : World) : (Op.equal t u .nilIface).run P w = .ok (nilI u) w := by
  obtain ⟨m, rfl⟩ := hms
  have key : ∀ d, (Op.equalIn (d + 1) t u .nilIface).run P w = .ok (nilI u) w := fun d => by
    rcases hu with rfl | ⟨a, b, rfl⟩ <;> simp [Op.equalIn, run_underlying ht, nilI]
  exact key 9999
theorem y_eqlIf {ms : TypeDesc} {u : Value} (ht : P.underlying t = some ms) (hms : ∃ m, ms = .interface m) (hx : env.ev x = some u) (hy : env.ev y = some .nilIface) (hyc : ∃ c, y = .const c) (hu : u = .nilIface ∨ ∃ a b, u = .iface a b) : Yv P n ⟨dst, .binOp .eql t x y t', ty, pos, after, g⟩ env S (.bool (nilI u)) :=
  run_binOp hx hy (fun _ => by obtain ⟨c, rfl⟩ := hyc; rcases hu with rfl | ⟨a, b, rfl⟩ <;> simp [eqGuard]) (fun w _ => by
    rcases hu with rfl | ⟨a, b, rfl⟩
    · show ((Op.equal t .nilIface .nilIface) >>= fun b => Pure.pure (Value.bool b)).run P w = _
      rw [Sem.run_bind, run_equal_if hms ht (.inl rfl) w]; rfl
    · show ((Op.equal t (.iface a b) .nilIface) >>= fun b => Pure.pure (Value.bool b)).run P w = _
      rw [Sem.run_bind, run_equal_if hms ht (.inr ⟨a, b, rfl⟩) w]; rfl)
theorem y_neqIf {ms : TypeDesc} {u : Value} (ht : P.underlying t = some ms) (hms : ∃ m, ms = .interface m) (hx : env.ev x = some u) (hy : env.ev y = some .nilIface) (hyc : ∃ c, y = .const c) (hu : u = .nilIface ∨ ∃ a b, u = .iface a b) : Yv P n ⟨dst, .binOp .neq t x y t', ty, pos, after, g⟩ env S (.bool (!nilI u)) :=
  run_binOp hx hy (fun _ => by obtain ⟨c, rfl⟩ := hyc; rcases hu with rfl | ⟨a, b, rfl⟩ <;> simp [eqGuard]) (fun w _ => by
    rcases hu with rfl | ⟨a, b, rfl⟩
    · show ((Op.equal t .nilIface .nilIface) >>= fun b => Pure.pure (Value.bool (!b))).run P w = _
      rw [Sem.run_bind, run_equal_if hms ht (.inl rfl) w]; rfl
    · show ((Op.equal t (.iface a b) .nilIface) >>= fun b => Pure.pure (Value.bool (!b))).run P w = _
      rw [Sem.run_bind, run_equal_if hms ht (.inr ⟨a, b, rfl⟩) w]; rfl)
end
end Go.Eng
