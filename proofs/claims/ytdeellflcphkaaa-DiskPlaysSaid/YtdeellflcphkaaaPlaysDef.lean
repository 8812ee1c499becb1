/-
  What the law asks, and how the two disks answer it.
-/
import Derived.Test.YtdeellflcphkaaaRefLaw2
import Derived.Test.YtdeellflcphkaaaWalkO
import Derived.Test.YtdeellflcphkaaaEngLift
namespace Go.Proofs.Ytdeellflcphkaaa
open Go.Eng


structure Opx where
  ask : Int
  nm : Str
  to : Str
  dt : Str
  n : Int
  kp : Sl Int
abbrev encO (x : Opx) : List Value := [vI x.ask, vS x.nm, vS x.to, vS x.dt, vI x.n, .slice x.kp.a x.kp.xs.length x.kp.cap]
abbrev agO (x : Opx) : Value := .agg (encO x).toArray
theorem encO_len (x : Opx) : (encO x).length = 6 := rfl
def fewO (x : Opx) : Bool := ((decide ((x.nm.length : Int) ≤ 100) && decide ((x.to.length : Int) ≤ 100)) && decide ((x.dt.length : Int) ≤ 3000)) && decide ((x.kp.xs.length : Int) ≤ 50)
theorem fewO_spec {x : Opx} (h : fewO x = true) : x.nm.length ≤ 100 ∧ x.to.length ≤ 100 ∧ x.dt.length ≤ 3000 ∧ x.kp.xs.length ≤ 50 := by
  simp only [fewO, Bool.and_eq_true, decide_eq_true_eq] at h
  omega
theorem lay_len (d : Dk) (s : Str) (f : Fi) : (d.lay s f).m.length ≤ d.m.length + 1 := by
  show (mput d.m s f).length ≤ _
  rw [mput_len]
  split <;> omega
theorem take_len (d : Dk) (s : Str) : (d.take s).m.length ≤ d.m.length := (mdel_sub d.m s).length_le
theorem append_len (d : Dk) (s data : Str) : (d.append s data).1.m.length ≤ d.m.length + 1 := by
  rw [Dk.append]
  split
  · split
    · simp
    · have := lay_len d.act s ⟨(d.get s).data ++ d.dat data, (d.get s).firm⟩
      rw [act_m] at this; exact this
  · simp
theorem sync_len (d : Dk) (s : Str) : (d.sync s).1.m.length ≤ d.m.length + 1 := by
  rw [Dk.sync]
  split
  · split
    · simp [act_m]
    · have := lay_len d.act s ⟨(d.find s).1.data, ((d.find s).1.data.length : Nat)⟩
      rw [act_m] at this; exact this
  · simp
theorem remove_len (d : Dk) (s : Str) : (d.remove s).1.m.length ≤ d.m.length + 1 := by
  rw [Dk.remove]
  split
  · split
    · simp [act_m]
    · have := take_len d.act s
      rw [act_m] at this; simp only; omega
  · simp
theorem rename_len (d : Dk) (p q : Str) : (d.rename p q).1.m.length ≤ d.m.length + 1 := by
  rw [Dk.rename]
  split
  · split
    · simp
    · split
      · split
        · simp [act_m]
        · have h1 := lay_len (d.act.take p) q (d.find p).1
          have h2 := take_len d.act p
          rw [act_m] at h2; simp only; omega
      · simp
  · simp
theorem files_mlen (d : Dk) : d.files.length = d.m.length := by rw [files_len, names_len]
theorem crash_len {d : Dk} (h : d.good) (ks : List Int) : (d.crash ks).m.length = d.m.length := by
  have h1 := congrArg Rk.l (crash_ref h ks).1
  have h2 := congrArg List.length h1
  have h3 : (d.crash ks).ref.l.length = (d.crash ks).m.length := files_mlen _
  have h4 : (d.ref.crash ks).l.length = d.m.length := by
    show (hitL d.files ks).1.length = _
    rw [hitL_len, files_mlen]
  rw [← h3, h2, h4]
theorem ref_fine {d : Dk} (h : d.good) (hl : d.m.length ≤ 1000) : d.ref.fine := ⟨by show d.files.length ≤ 1000; rw [files_mlen]; exact hl, h.a0, h.a1⟩
theorem ref_firm {d : Dk} (h : d.good) : ∀ x ∈ d.ref.l, (0 ≤ x.firm ∧ x.firm ≤ (x.data.length : Nat)) ∧ x.data.length ≤ 1000000000 := fun x hx => by
  have hm := (mem_files h.keyed x).1 hx
  have hf := h.fm _ (mem_of_mget hm)
  have hg := h.ok.g x.name
  have e : d.get x.name = ⟨x.data, x.firm⟩ := by rw [Dk.get, hm]; rfl
  rw [e] at hg
  have := h.s1
  have := h.l1
  simp only at hg
  exact ⟨hf, by omega⟩
theorem ref_size {d : Dk} (h : d.good) : sizeL d.ref.l = d.size := by rw [h.sz]; exact size_files h.keyed
section
variable {b : Nat} {d : Dk}
theorem rapp_at (hg : d.good) (hl : d.m.length ≤ 1000) {s data : Str} (hd : data.length ≤ 3000) : Ctr Try.prog 20 #[ptr b, vS s, vS data] [] [rkA b d.ref] (fun _ : Unit => True) (fun _ => vI (d.append s data).2) (fun _ => [rkA b (d.append s data).1.ref]) := by
  have h := rappend_c b d.ref s data (ref_fine hg hl) (by rw [ref_size hg]; have := hg.s1; have := hg.l1; omega)
  rw [append_ref hg] at h; exact h
theorem rsyn_at (hg : d.good) (hl : d.m.length ≤ 1000) {s : Str} : Ctr Try.prog 21 #[ptr b, vS s] [] [rkA b d.ref] (fun _ : Unit => True) (fun _ => vI (d.sync s).2) (fun _ => [rkA b (d.sync s).1.ref]) := by
  have h := rsync_c b d.ref s (ref_fine hg hl)
  rw [sync_ref hg] at h; exact h
theorem rren_at (hg : d.good) (hl : d.m.length ≤ 1000) {p q : Str} : Ctr Try.prog 22 #[ptr b, vS p, vS q] [] [rkA b d.ref] (fun _ : Unit => True) (fun _ => vI (d.rename p q).2) (fun _ => [rkA b (d.rename p q).1.ref]) := by
  have h := rrename_c b d.ref p q (ref_fine hg hl)
  rw [rename_ref hg] at h; exact h
theorem rrem_at (hg : d.good) (hl : d.m.length ≤ 1000) {s : Str} : Ctr Try.prog 24 #[ptr b, vS s] [] [rkA b d.ref] (fun _ : Unit => True) (fun _ => vI (d.remove s).2) (fun _ => [rkA b (d.remove s).1.ref]) := by
  have h := rremove_c b d.ref s (ref_fine hg hl)
  rw [remove_ref hg] at h; exact h
theorem rarm_at {n : Int} : Ctr Try.prog 25 #[ptr b, vI n] [] [rkA b d.ref] (fun _ : Unit => True) (fun _ => .tuple #[]) (fun _ => [rkA b ({ d with armed := max n 0 } : Dk).ref]) := rarm_c b d.ref n
theorem rcra_at (hg : d.good) (hl : d.m.length ≤ 1000) {ks : List Int} {ko : Option Addr} {kc : Nat} : Ctr Try.prog 26 #[ptr b, .slice ko ks.length kc] [rsl ko ks.length 1 (ks.map vI)] [rkA b d.ref] (fun _ : Unit => True) (fun _ => .tuple #[]) (fun _ => [rkA b (d.crash ks).ref]) := by
  have h := rcrash_c b d.ref (ref_fine hg hl) (fun x hx => (ref_firm hg x hx).1) (fun x hx => (ref_firm hg x hx).2) ks ko kc
  rw [← (crash_ref hg ks).1] at h; exact h
theorem rrea_at (hg : d.good) (hl : d.m.length ≤ 1000) {s : Str} : Ctr Try.prog 27 #[ptr b, vS s] [] [rkA b d.ref] (fun _ : Unit => True) (fun _ => .tuple #[vS (d.find s).1.data, vI (d.find s).2]) (fun _ => [rkA b d.ref]) := by
  have h := rread_c b d.ref s (ref_fine hg hl).1
  rw [read_ref hg] at h; exact h
theorem rnam_at (hg : d.good) (hl : d.m.length ≤ 1000) : Ctr Try.prog 28 #[ptr b] [] [rkA b d.ref] (fun _ : Option Addr × Nat => True) (fun x => .slice x.1 d.names.length x.2) (fun x => [rkA b d.ref, slc 9 1 x.1 d.names.length x.2 (d.names.map vS)]) := by
  have h := rnames_c b d.ref (ref_fine hg hl).1
  have e1 : d.ref.l.length = d.names.length := files_len d
  have e2 : d.ref.l.map (·.name) = d.names := files_names d
  rw [e1, e2] at h; exact h
theorem rsiz_at (hg : d.good) (hl : d.m.length ≤ 1000) : Ctr Try.prog 30 #[ptr b] [] [rkA b d.ref] (fun _ : Unit => True) (fun _ => vI d.size) (fun _ => [rkA b d.ref]) := by
  have h := rsize_c b d.ref (ref_fine hg hl).1 (by rw [ref_size hg]; have := hg.s1; have := hg.l1; omega)
  rw [ref_size hg] at h; exact h
end
end Go.Proofs.Ytdeellflcphkaaa
