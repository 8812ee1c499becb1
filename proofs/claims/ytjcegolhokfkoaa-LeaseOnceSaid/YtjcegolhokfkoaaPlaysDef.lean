/-
  Calls of tables; bounds; the reference's contracts by the table's.
-/
import Derived.Test.YtjcegolhokfkoaaRefLaw
import Derived.Test.YtjcegolhokfkoaaWalkO
namespace Go.Proofs.Ytjcegolhokfkoaa
open Go.Eng


structure Op where
  ask : Int
  job : Jb
  worker : Str
  epoch : Int
  now : Int
abbrev encO (x : Op) : List Value := [vI x.ask, vS x.job.key, vI x.job.rank, vI x.job.since, vS x.worker, vI x.epoch, vI x.now]
theorem encO_len (x : Op) : (encO x).length = 7 := rfl
/-- What holds of a table behind i calls. -/
structure Tb.In (t : Tb) (n : Int) (i : Nat) : Prop where
  good : t.good
  ttl : t.ttl = n
  lo : 0 ≤ t.epoch
  hi : t.epoch ≤ i
  len : t.m.length ≤ i
theorem Tb.In.ok {t : Tb} {n : Int} {i : Nat} (h : t.In n i) (h1 : 1 ≤ n) (h2 : n ≤ 1000000) (hi : i ≤ 1000) : t.ok := by
  obtain ⟨_, a, b, c, d⟩ := h
  refine ⟨?_, ?_, ?_, ?_⟩ <;> omega
theorem Tb.In.fits {t : Tb} {n : Int} {i : Nat} (h : t.In n i) (hi : i ≤ 1000) : t.fits := ⟨by have := h.len; omega, h.good.len⟩
theorem Tb.In.rok {t : Tb} {n : Int} {i : Nat} (h : t.In n i) (h1 : 1 ≤ n) (h2 : n ≤ 1000000) (hi : i ≤ 1000) : t.ref.ok := by
  obtain ⟨_, a, b, c, d⟩ := h
  refine ⟨?_, ?_, ?_, ?_, ?_⟩ <;> simp only [Tb.ref, Tb.srt_len] <;> omega
theorem in_new (n : Int) : (⟨n, 0, []⟩ : Tb).In n 0 := ⟨⟨keyed1_nil, by simp, by simp, by simp⟩, rfl, by simp, by simp, by simp⟩
theorem ref_new (n : Int) : (⟨n, 0, []⟩ : Tb).ref = ⟨[], n, 0⟩ := by simp [Tb.ref, srt_nil]
theorem Tb.In.up {t : Tb} {n : Int} {i : Nat} (h : t.In n i) : t.In n (i + 1) := ⟨h.good, h.ttl, h.lo, by have := h.hi; omega, by have := h.len; omega⟩
theorem in_grant {t : Tb} {n : Int} {i : Nat} (h : t.In n i) (j : Jb) (w : Str) (now : Int) (hl : j.key.length ≤ maxLen) : (t.grant j w now).1.In n (i + 1) := by
  have hg := (ref_grant h.good j w now hl).2
  obtain ⟨_, a, b, c, d⟩ := h
  refine ⟨hg, ?_, ?_, ?_, ?_⟩ <;> unfold Tb.grant <;> split <;> (try split) <;> (try split) <;> (try simp only) <;> (try rw [mput_len]) <;> (try split) <;> omega
theorem in_renew {t : Tb} {n : Int} {i : Nat} (h : t.In n i) (k : Str) (e now : Int) : (t.renew k e now).1.In n (i + 1) := by
  have hg := (ref_renew h.good k e now).2
  obtain ⟨_, a, b, c, d⟩ := h
  refine ⟨hg, ?_, ?_, ?_, ?_⟩ <;> unfold Tb.renew <;> split <;> (try split) <;> (try split) <;> (try simp only) <;> (try rw [mput_len]) <;> (try split) <;> omega
theorem in_finish {t : Tb} {n : Int} {i : Nat} (h : t.In n i) (k : Str) (e : Int) : (t.finish k e).1.In n (i + 1) := by
  have hg := (ref_finish h.good k e).2
  obtain ⟨_, a, b, c, d⟩ := h
  have hd := (mdel_sub t.m k).length_le
  refine ⟨hg, ?_, ?_, ?_, ?_⟩ <;> unfold Tb.finish <;> split <;> (try simp only) <;> omega
theorem in_take {t : Tb} {n : Int} {i : Nat} (h : t.In n i) (p : Ls → Bool) : (t.take p).1.In n (i + 1) := by
  have hg := take_good h.good p
  obtain ⟨_, a, b, c, d⟩ := h
  have hd := take_len t p
  refine ⟨hg, ?_, ?_, ?_, ?_⟩ <;> first | (show t.ttl = n; omega) | (show 0 ≤ t.epoch; omega) | (show t.epoch ≤ ((i + 1 : Nat) : Int); omega) | omega

section
variable {rb : Nat} {t : Tb} {n : Int} {i : Nat}
theorem xgrant (h : t.In n i) (h1 : 1 ≤ n) (h2 : n ≤ 1000000) (hi : i ≤ 1000) (j : Jb) (w : Str) (now : Int) (hl : j.key.length ≤ maxLen) :
    Ctr Try.prog 14 #[ptr rb, agJ j, vS w, vI now] [] [rtA rb t.ref] (fun _ : Unit => True) (fun _ => .tuple #[agL (t.grant j w now).2.1, vI (t.grant j w now).2.2]) (fun _ => [rtA rb (t.grant j w now).1.ref]) := by
  have := rgrant_c rb t.ref j w now (h.rok h1 h2 hi); rw [(ref_grant h.good j w now hl).1] at this; exact this
theorem xrenew (h : t.In n i) (h1 : 1 ≤ n) (h2 : n ≤ 1000000) (hi : i ≤ 1000) (k : Str) (e now : Int) :
    Ctr Try.prog 15 #[ptr rb, vS k, vI e, vI now] [] [rtA rb t.ref] (fun _ : Unit => True) (fun _ => vI (t.renew k e now).2) (fun _ => [rtA rb (t.renew k e now).1.ref]) := by
  have := rrenew_c rb t.ref k e now (h.rok h1 h2 hi); rw [(ref_renew h.good k e now).1] at this; exact this
theorem xfinish (h : t.In n i) (h1 : 1 ≤ n) (h2 : n ≤ 1000000) (hi : i ≤ 1000) (k : Str) (e : Int) :
    Ctr Try.prog 17 #[ptr rb, vS k, vI e] [] [rtA rb t.ref] (fun _ : Unit => True) (fun _ => vI (t.finish k e).2) (fun _ => [rtA rb (t.finish k e).1.ref]) := by
  have := rfinish_c rb t.ref k e (h.rok h1 h2 hi); rw [(ref_finish h.good k e).1] at this; exact this
abbrev isOver (now : Int) : Ls → Bool := fun x => decide (x.upto < now)
abbrev isOf (wk : Str) : Ls → Bool := fun x => decide (x.worker = wk)
theorem xexpire (h : t.In n i) (h1 : 1 ≤ n) (h2 : n ≤ 1000000) (hi : i ≤ 1000) (now : Int) :
    Ctr Try.prog 19 #[ptr rb, vI now] [] [rtA rb t.ref] (fun _ : Option Addr × Nat => True) (fun x => .slice x.1 (t.take (isOver now)).2.length x.2) (fun x => [rtA rb (t.take (isOver now)).1.ref, slc 28 3 x.1 (t.take (isOver now)).2.length x.2 ((t.take (isOver now)).2.flatMap encJ)]) := by
  have := rexpire_c rb t.ref now (h.rok h1 h2 hi); rw [rp_now, ref_take h.good] at this; exact this
theorem xdrop (h : t.In n i) (h1 : 1 ≤ n) (h2 : n ≤ 1000000) (hi : i ≤ 1000) (wk : Str) :
    Ctr Try.prog 21 #[ptr rb, vS wk] [] [rtA rb t.ref] (fun _ : Option Addr × Nat => True) (fun x => .slice x.1 (t.take (isOf wk)).2.length x.2) (fun x => [rtA rb (t.take (isOf wk)).1.ref, slc 28 3 x.1 (t.take (isOf wk)).2.length x.2 ((t.take (isOf wk)).2.flatMap encJ)]) := by
  by_cases hw : wk = []
  · subst hw
    have hn : t.take (isOf []) = (t, []) := take_noone h.good
    rw [hn]
    exact rdrop_none rb t.ref
  · have := rdrop_c rb t.ref wk (h.rok h1 h2 hi) hw; rw [rp_wk hw, ref_take h.good] at this; exact this
end
end Go.Proofs.Ytjcegolhokfkoaa
