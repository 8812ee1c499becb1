/-
  The queue's contracts, by what it has.
-/
import Derived.Test.YtblhphnnnihkmaaWalkE

namespace Go.Proofs.Ytblhphnnnihkmaa
open Go.Eng

theorem IsMin.uniq {α : Type} {R : List (It α)} {r m : It α} (h : IsMin r R) (h' : IsMin m R) (hd : R.Pairwise fun x y => x.no ≠ y.no) : r = m := by
  have h1 := h.2 m h'.1
  have h2 := h'.2 r h.1
  rw [It.not_iff] at h1 h2
  have he : r.no = m.no := by omega
  obtain ⟨i, hi⟩ := List.mem_iff_getElem?.1 h.1
  obtain ⟨j, hj⟩ := List.mem_iff_getElem?.1 h'.1
  have hil := (List.getElem?_eq_some_iff.1 hi).1
  have hjl := (List.getElem?_eq_some_iff.1 hj).1
  rw [List.getElem?_eq_getElem hil] at hi
  rw [List.getElem?_eq_getElem hjl] at hj
  rw [List.pairwise_iff_getElem] at hd
  rcases Nat.lt_trichotomy i j with hl | rfl | hl
  · have := hd i j hil hjl hl
    rw [Option.some.inj hi, Option.some.inj hj] at this
    exact absurd he this
  · exact (Option.some.inj hi).symm.trans (Option.some.inj hj)
  · have := hd j i hjl hil hl
    rw [Option.some.inj hi, Option.some.inj hj] at this
    exact absurd he.symm this

theorem push_ok_i (b : Nat) (age n : Int) (R : List (It Int)) (v : Int) (rank tm : Int) (ha : 0 ≤ age ∧ age ≤ 1000000) (hn : 0 ≤ n ∧ n ≤ 1000000) (hr : 0 ≤ rank ∧ rank ≤ 9) (ht : 0 ≤ tm ∧ tm ≤ 1000000000) (hl : R.length ≤ 1000000) :
    Ctr Try.prog 11 #[ptr b, vI v, vI rank, vI tm] [] [qA 50 58 vI b age n R] (fun _ : Unit => True) (fun _ => vI 0) (fun _ => [qA 50 58 vI b age (n + 1) (R ++ [(⟨v, rank, tm, tm + age * rank, n + 1⟩ : It Int)])]) :=
  Ctr.open fun x hx => (push_raw_i b age n x.1 x.2 v rank tm ha hn hr ht (by rw [hx.1.length_eq]; exact hl) hx.2).post (fun _ => ()) fun y hy => ⟨trivial, rfl, fun _ _ _ h => exA_shut y ⟨hy.1.trans (hx.1.append_right _), hy.2⟩ h⟩
theorem push_no_i (b : Nat) (age n : Int) (R : List (It Int)) (v : Int) (rank tm : Int) (hb : rank < 0 ∨ 9 < rank ∨ tm < 0 ∨ 1000000000 < tm) :
    Ctr Try.prog 11 #[ptr b, vI v, vI rank, vI tm] [] [qA 50 58 vI b age n R] (fun _ : Unit => True) (fun _ => vI 1) (fun _ => [qA 50 58 vI b age n R]) :=
  Ctr.open fun x hx => (push_bad_i b age n x.1 x.2 v rank tm hb).post (fun _ => ()) fun _ _ => ⟨trivial, rfl, fun _ _ _ h => exA_shut x hx h⟩
theorem len_ok_i (b : Nat) (age n : Int) (R : List (It Int)) : Ctr Try.prog 17 #[ptr b] [] [qA 50 58 vI b age n R] (fun _ : Unit => True) (fun _ => vI R.length) (fun _ => [qA 50 58 vI b age n R]) :=
  Ctr.open fun x hx => (len_raw_i b age n x.1 x.2).post (fun _ => ()) fun _ _ => ⟨trivial, by rw [hx.1.length_eq], fun _ _ _ h => exA_shut x hx h⟩
theorem peek_ok_i (b : Nat) (age n : Int) (R : List (It Int)) (hne : R ≠ []) : Ctr Try.prog 15 #[ptr b] [] [qA 50 58 vI b age n R] (fun r : It Int => IsMin r R) (fun r => .tuple #[vI r.v, vI r.rank, vI r.tm, .bool true]) (fun _ => [qA 50 58 vI b age n R]) :=
  Ctr.open fun x hx => by
    have hl := hx.1.length_eq
    have hp := List.length_pos_iff.2 hne
    have hr : x.1[0]? = some (x.1[0]'(by omega)) := List.getElem?_eq_getElem _
    exact (peek_raw_i b age n x.1 x.2 _ hr).post (fun _ => _) fun _ _ => ⟨hx.2.isMin hr hx.1, rfl, fun _ _ _ h => exA_shut x hx h⟩
theorem peek_em_i (b : Nat) (age n : Int) : Ctr Try.prog 15 #[ptr b] [] [qA 50 58 vI b age n []] (fun _ : Unit => True) (fun _ => .tuple #[vI 0, vI 0, vI 0, .bool false]) (fun _ => [qA 50 58 vI b age n []]) :=
  Ctr.open fun x hx => by
    obtain ⟨H, oc⟩ := x
    obtain rfl : H = [] := List.Perm.eq_nil hx.1
    exact (peek_no_i b age n oc).post (fun _ => ()) fun _ _ => ⟨trivial, rfl, fun _ _ _ h => exA_shut ([], oc) hx h⟩
theorem pop_em_i (b : Nat) (age n : Int) : Ctr Try.prog 13 #[ptr b] [] [qA 50 58 vI b age n []] (fun _ : Unit => True) (fun _ => .tuple #[vI 0, .bool false]) (fun _ => [qA 50 58 vI b age n []]) :=
  Ctr.open fun x hx => by
    obtain ⟨H, oc⟩ := x
    obtain rfl : H = [] := List.Perm.eq_nil hx.1
    exact (pop_no_i b age n oc).post (fun _ => ()) fun _ _ => ⟨trivial, rfl, fun _ _ _ h => exA_shut ([], oc) hx h⟩
theorem pop_ok_i (b : Nat) (age n : Int) (R : List (It Int)) (hne : R ≠ []) (hl : R.length ≤ 1000000) (hd : R.Pairwise fun x y => x.no ≠ y.no) : Ctr Try.prog 13 #[ptr b] [] [qA 50 58 vI b age n R] (fun r : It Int => IsMin r R) (fun r => .tuple #[vI r.v, .bool true]) (fun r => [qA 50 58 vI b age n (rest R r)]) :=
  Ctr.open fun x hx => by
    have he := hx.1.length_eq
    have hp := List.length_pos_iff.2 hne
    obtain ⟨k, hk⟩ : ∃ k, x.1.length = k + 1 := ⟨x.1.length - 1, by omega⟩
    have hr : x.1[0]? = some (x.1[0]'(by omega)) := List.getElem?_eq_getElem _
    have ha : x.1[k]? = some (x.1[k]'(by omega)) := List.getElem?_eq_getElem _
    exact (pop_raw_i b age n x.1 x.2 k _ _ hk hr ha hx.2 (by omega)).post (fun _ => _) fun y hy => ⟨hx.2.isMin hr hx.1, rfl, fun _ _ _ h => exA_shut y ⟨rest_perm (hy.1.trans hx.1) hd, hy.2⟩ h⟩

theorem push_ok_s (b : Nat) (age n : Int) (R : List (It Str)) (v : Str) (rank tm : Int) (ha : 0 ≤ age ∧ age ≤ 1000000) (hn : 0 ≤ n ∧ n ≤ 1000000) (hr : 0 ≤ rank ∧ rank ≤ 9) (ht : 0 ≤ tm ∧ tm ≤ 1000000000) (hl : R.length ≤ 1000000) :
    Ctr Try.prog 19 #[ptr b, vS v, vI rank, vI tm] [] [qA 64 66 vS b age n R] (fun _ : Unit => True) (fun _ => vI 0) (fun _ => [qA 64 66 vS b age (n + 1) (R ++ [(⟨v, rank, tm, tm + age * rank, n + 1⟩ : It Str)])]) :=
  Ctr.open fun x hx => (push_raw_s b age n x.1 x.2 v rank tm ha hn hr ht (by rw [hx.1.length_eq]; exact hl) hx.2).post (fun _ => ()) fun y hy => ⟨trivial, rfl, fun _ _ _ h => exA_shut y ⟨hy.1.trans (hx.1.append_right _), hy.2⟩ h⟩
theorem push_no_s (b : Nat) (age n : Int) (R : List (It Str)) (v : Str) (rank tm : Int) (hb : rank < 0 ∨ 9 < rank ∨ tm < 0 ∨ 1000000000 < tm) :
    Ctr Try.prog 19 #[ptr b, vS v, vI rank, vI tm] [] [qA 64 66 vS b age n R] (fun _ : Unit => True) (fun _ => vI 1) (fun _ => [qA 64 66 vS b age n R]) :=
  Ctr.open fun x hx => (push_bad_s b age n x.1 x.2 v rank tm hb).post (fun _ => ()) fun _ _ => ⟨trivial, rfl, fun _ _ _ h => exA_shut x hx h⟩
theorem len_ok_s (b : Nat) (age n : Int) (R : List (It Str)) : Ctr Try.prog 29 #[ptr b] [] [qA 64 66 vS b age n R] (fun _ : Unit => True) (fun _ => vI R.length) (fun _ => [qA 64 66 vS b age n R]) :=
  Ctr.open fun x hx => (len_raw_s b age n x.1 x.2).post (fun _ => ()) fun _ _ => ⟨trivial, by rw [hx.1.length_eq], fun _ _ _ h => exA_shut x hx h⟩
theorem peek_ok_s (b : Nat) (age n : Int) (R : List (It Str)) (hne : R ≠ []) : Ctr Try.prog 27 #[ptr b] [] [qA 64 66 vS b age n R] (fun r : It Str => IsMin r R) (fun r => .tuple #[vS r.v, vI r.rank, vI r.tm, .bool true]) (fun _ => [qA 64 66 vS b age n R]) :=
  Ctr.open fun x hx => by
    have hl := hx.1.length_eq
    have hp := List.length_pos_iff.2 hne
    have hr : x.1[0]? = some (x.1[0]'(by omega)) := List.getElem?_eq_getElem _
    exact (peek_raw_s b age n x.1 x.2 _ hr).post (fun _ => _) fun _ _ => ⟨hx.2.isMin hr hx.1, rfl, fun _ _ _ h => exA_shut x hx h⟩
theorem peek_em_s (b : Nat) (age n : Int) : Ctr Try.prog 27 #[ptr b] [] [qA 64 66 vS b age n []] (fun _ : Unit => True) (fun _ => .tuple #[vS [], vI 0, vI 0, .bool false]) (fun _ => [qA 64 66 vS b age n []]) :=
  Ctr.open fun x hx => by
    obtain ⟨H, oc⟩ := x
    obtain rfl : H = [] := List.Perm.eq_nil hx.1
    exact (peek_no_s b age n oc).post (fun _ => ()) fun _ _ => ⟨trivial, rfl, fun _ _ _ h => exA_shut ([], oc) hx h⟩
theorem pop_em_s (b : Nat) (age n : Int) : Ctr Try.prog 20 #[ptr b] [] [qA 64 66 vS b age n []] (fun _ : Unit => True) (fun _ => .tuple #[vS [], .bool false]) (fun _ => [qA 64 66 vS b age n []]) :=
  Ctr.open fun x hx => by
    obtain ⟨H, oc⟩ := x
    obtain rfl : H = [] := List.Perm.eq_nil hx.1
    exact (pop_no_s b age n oc).post (fun _ => ()) fun _ _ => ⟨trivial, rfl, fun _ _ _ h => exA_shut ([], oc) hx h⟩
theorem pop_ok_s (b : Nat) (age n : Int) (R : List (It Str)) (hne : R ≠ []) (hl : R.length ≤ 1000000) (hd : R.Pairwise fun x y => x.no ≠ y.no) : Ctr Try.prog 20 #[ptr b] [] [qA 64 66 vS b age n R] (fun r : It Str => IsMin r R) (fun r => .tuple #[vS r.v, .bool true]) (fun r => [qA 64 66 vS b age n (rest R r)]) :=
  Ctr.open fun x hx => by
    have he := hx.1.length_eq
    have hp := List.length_pos_iff.2 hne
    obtain ⟨k, hk⟩ : ∃ k, x.1.length = k + 1 := ⟨x.1.length - 1, by omega⟩
    have hr : x.1[0]? = some (x.1[0]'(by omega)) := List.getElem?_eq_getElem _
    have ha : x.1[k]? = some (x.1[k]'(by omega)) := List.getElem?_eq_getElem _
    exact (pop_raw_s b age n x.1 x.2 k _ _ hk hr ha hx.2 (by omega)).post (fun _ => _) fun y hy => ⟨hx.2.isMin hr hx.1, rfl, fun _ _ _ h => exA_shut y ⟨rest_perm (hy.1.trans hx.1) hd, hy.2⟩ h⟩
end Go.Proofs.Ytblhphnnnihkmaa
