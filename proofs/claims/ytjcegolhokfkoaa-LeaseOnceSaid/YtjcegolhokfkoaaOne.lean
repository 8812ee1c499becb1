/-
  Tables of one lease.
-/
import Derived.Test.YtjcegolhokfkoaaWalkN
namespace Go.Proofs.Ytjcegolhokfkoaa
open Go.Eng


theorem srt_nil (a e : Int) : (⟨a, e, []⟩ : Tb).srt = [] := by simp [Tb.srt, srtK]
theorem srt_one (a e : Int) (k : Str) (x : Ls) : (⟨a, e, [(k, x)]⟩ : Tb).srt = [x] := by simp [Tb.srt, srtK, mget]
theorem take_none (a e : Int) (p : Ls → Bool) : (⟨a, e, []⟩ : Tb).take p = (⟨a, e, []⟩, []) := by simp [Tb.take, srt_nil, delAll]
theorem take_hit (a e : Int) (k : Str) (x : Ls) (p : Ls → Bool) (hk : x.job.key = k) (hp : p x = true) : (⟨a, e, [(k, x)]⟩ : Tb).take p = (⟨a, e, []⟩, [x.job]) := by simp [Tb.take, srt_one, delAll, hp, hk, mdel]
theorem take_miss (a e : Int) (k : Str) (x : Ls) (p : Ls → Bool) (hp : p x = false) : (⟨a, e, [(k, x)]⟩ : Tb).take p = (⟨a, e, [(k, x)]⟩, []) := by simp [Tb.take, srt_one, delAll, hp]
theorem grant_none (a e : Int) (j : Jb) (w : Str) (now : Int) (hw : nameE w = 0) (ht : timeB now = true) : (⟨a, e, []⟩ : Tb).grant j w now = (⟨a, e + 1, [(j.key, ⟨j, w, e + 1, now + a⟩)]⟩, ⟨j, w, e + 1, now + a⟩, 0) := by
  simp [Tb.grant, mget, mput, Tb.lease, hw, ht]
theorem renew_hit (a e : Int) (k : Str) (x : Ls) (now : Int) (ht : timeB now = true) (hu : now ≤ x.upto) : (⟨a, e, [(k, x)]⟩ : Tb).renew k x.epoch now = (⟨a, e, [(k, { x with upto := now + a })]⟩, 0) := by
  have : ¬ x.upto < now := by omega
  simp [Tb.renew, Tb.find, mget, mput, ht, this]
theorem renew_late (a e : Int) (k : Str) (x : Ls) (now : Int) (ht : timeB now = true) (hu : x.upto < now) : (⟨a, e, [(k, x)]⟩ : Tb).renew k x.epoch now = (⟨a, e, [(k, x)]⟩, 44) := by
  simp [Tb.renew, Tb.find, mget, ht, hu]
theorem finish_hit (a e : Int) (k : Str) (x : Ls) : (⟨a, e, [(k, x)]⟩ : Tb).finish k x.epoch = (⟨a, e, []⟩, 0) := by simp [Tb.finish, Tb.find, mget, mdel]
theorem finish_stale (a e : Int) (k : Str) (x : Ls) (n : Int) (h : x.epoch ≠ n) : (⟨a, e, [(k, x)]⟩ : Tb).finish k n = (⟨a, e, [(k, x)]⟩, 44) := by simp [Tb.finish, Tb.find, mget, h]
theorem finish_none (a e : Int) (k : Str) (n : Int) : (⟨a, e, []⟩ : Tb).finish k n = (⟨a, e, []⟩, 17) := by simp [Tb.finish, Tb.find, mget]
theorem fits_none (a e : Int) : (⟨a, e, []⟩ : Tb).fits := ⟨by simp, by simp⟩
theorem fits_one (a e : Int) (k : Str) (x : Ls) (hk : k.length ≤ maxLen) : (⟨a, e, [(k, x)]⟩ : Tb).fits := ⟨by simp, by simpa using hk⟩

section
variable {b : Nat} {t t' : Tb}
theorem grant_at {j : Jb} {w : Str} {now : Int} {x : Ls} {e : Int} (ht : t.ok) (h : t.grant j w now = (t', x, e)) :
    Ctr Try.prog 9 #[ptr b, agJ j, vS w, vI now] [] [tbA b t] (fun _ : Unit => True) (fun _ => .tuple #[agL x, vI e]) (fun _ => [tbA b t']) := by have := grant_c b t j w now ht; rw [h] at this; exact this
theorem renew_at {key : Str} {epoch now e : Int} (ht : t.ok) (h : t.renew key epoch now = (t', e)) :
    Ctr Try.prog 11 #[ptr b, vS key, vI epoch, vI now] [] [tbA b t] (fun _ : Unit => True) (fun _ => vI e) (fun _ => [tbA b t']) := by have := renew_c b t key epoch now ht; rw [h] at this; exact this
theorem finish_at {key : Str} {epoch e : Int} (h : t.finish key epoch = (t', e)) :
    Ctr Try.prog 16 #[ptr b, vS key, vI epoch] [] [tbA b t] (fun _ : Unit => True) (fun _ => vI e) (fun _ => [tbA b t']) := by have := finish_c b t key epoch; rw [h] at this; exact this
theorem expire_at {now : Int} {l : List Jb} (ht : t.fits) (h : t.take (fun x => decide (x.upto < now)) = (t', l)) :
    Ctr Try.prog 10 #[ptr b, vI now] [] [tbA b t] (fun _ : Option Addr × Nat => True) (fun x => .slice x.1 l.length x.2) (fun x => [tbA b t', slc 28 3 x.1 l.length x.2 (l.flatMap encJ)]) := by have := expire_c b t ht now; rw [h] at this; exact this
theorem list_at {l : List Ls} (ht : t.fits) (h : t.srt = l) :
    Ctr Try.prog 12 #[ptr b] [] [tbA b t] (fun _ : Option Addr × Nat => True) (fun x => .slice x.1 l.length x.2) (fun x => [tbA b t, slc 30 6 x.1 l.length x.2 (l.flatMap encL)]) := by
  have := list_c b t ht; rw [h] at this; rw [show t.m.length = l.length by rw [← h, Tb.srt_len]] at this; exact this
end
abbrev k0 : Jb := ⟨[107], 0, 0⟩
end Go.Proofs.Ytjcegolhokfkoaa
