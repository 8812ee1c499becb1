/-
  Walks: the reference's leases that are over, or of a worker.
-/
import Derived.Test.YtjcegolhokfkoaaWalkM
namespace Go.Proofs.Ytjcegolhokfkoaa
open Go.Eng

set_option maxHeartbeats 1000000 in
theorem rexpire_c (b : Nat) (r : Rt) (now : Int) (hr : r.ok) :
    Ctr Try.prog 19 #[ptr b, vI now] [] [rtA b r] (fun _ : Option Addr × Nat => True) (fun x => .slice x.1 (r.take (rp now [])).2.length x.2) (fun x => [rtA b (r.take (rp now [])).1, slc 28 3 x.1 (r.take (rp now [])).2.length x.2 ((r.take (rp now [])).2.flatMap encJ)]) := by
  refine spec_start (n := 8) [(0, ptr b), (1, vI now)] Try.func19 rfl rfl ⟨rfl, rfl, trivial⟩ rfl ?_
  intro w0 K hR
  refine wc_seq ?_
  refine wc_region ?_
  refine wl_y rfl (y_assign rfl) ?_
  refine wl_nil ?_
  refine wq_then ?_
  refine wc_seq ?_
  refine wc_region ?_
  refine wl_y rfl (y_move rfl) ?_
  refine wl_y rfl (y_move rfl) ?_
  refine wl_c (fun _ _ => want_none) rfl (yc_spec (fst := []) (cap := []) _ FN33 (rtake_c b r now [] hr) rfl rfl rfl (by (repeat (first | exact pt_nil | apply pt0 | apply pt1 | apply pt2 | apply pt3 | apply pt4 | apply pt5 | apply pt6 | apply pt7 | apply pt8 | apply pt9 | apply pt10 | apply pt11 | apply pt12 | apply pt13 | apply pt14 | apply pt15 | apply pt16 | apply pt17))) (by (repeat (first | exact ro_nil | exact ro_rest (by assumption) | refine ro_cons (by first | exact .inl (by assumption) | exact ro_f0 (fun _ h => h) | exact ro_f0 (fun _ => slc_rsl) | exact ro_f1 (fun _ h => h) | exact ro_f1 (fun _ => slc_rsl) | exact ro_f2 (fun _ h => h) | exact ro_f2 (fun _ => slc_rsl) | exact ro_f3 (fun _ h => h) | exact ro_f3 (fun _ => slc_rsl) | exact ro_f4 (fun _ h => h) | exact ro_f4 (fun _ => slc_rsl) | exact ro_f5 (fun _ h => h) | exact ro_f5 (fun _ => slc_rsl) | exact ro_f6 (fun _ h => h) | exact ro_f6 (fun _ => slc_rsl)) ?_)))) (wl_ex fun x7 hx7 => ?_)
  refine wl_y rfl (y_assign rfl) ?_
  refine wl_nil ?_
  refine wq_then ?_
  refine wc_ret ?_
  refine wq_ret1 rfl rfl (fun w hw => ?_)
  exact ⟨x7, trivial, rfl, hw⟩

set_option maxHeartbeats 1000000 in
theorem rdrop_none (b : Nat) (r : Rt) :
    Ctr Try.prog 21 #[ptr b, vS []] [] [rtA b r] (fun _ : Option Addr × Nat => True) (fun x => .slice x.1 ([] : List Jb).length x.2) (fun x => [rtA b r, slc 28 3 x.1 ([] : List Jb).length x.2 (([] : List Jb).flatMap encJ)]) := by
  refine spec_start (n := 10) [(0, ptr b), (1, vS [])] Try.func21 rfl rfl ⟨rfl, rfl, trivial⟩ rfl ?_
  intro w0 K hR
  refine wc_seq ?_
  refine wc_region ?_
  refine wl_y rfl (y_assign rfl) ?_
  refine wl_nil ?_
  refine wq_then ?_
  refine wc_seq ?_
  refine wc_seq ?_
  refine wc_region ?_
  refine wl_y rfl (y_move rfl) ?_
  refine wl_y rfl (y_eqlS rfl rfl) ?_
  refine wl_nil ?_
  refine wq_then ?_
  refine wc_known 6 true rfl (rfl) ?_
  refine wc_cond_true rfl ?_
  refine wc_seq ?_
  refine wc_region ?_
  refine wl_y rfl (y_assign rfl) ?_
  refine wl_nil ?_
  refine wq_then ?_
  refine wc_ret ?_
  refine wq_then_ret ?_
  refine wq_ret1 rfl rfl (fun w hw => ?_)
  exact ⟨(none, 0), trivial, rfl, Hp.addNil [_] [] hw⟩

set_option maxHeartbeats 1000000 in
theorem rdrop_c (b : Nat) (r : Rt) (wk : Str) (hr : r.ok) (hwk : wk ≠ []) :
    Ctr Try.prog 21 #[ptr b, vS wk] [] [rtA b r] (fun _ : Option Addr × Nat => True) (fun x => .slice x.1 (r.take (rp 0 wk)).2.length x.2) (fun x => [rtA b (r.take (rp 0 wk)).1, slc 28 3 x.1 (r.take (rp 0 wk)).2.length x.2 ((r.take (rp 0 wk)).2.flatMap encJ)]) := by
  refine spec_start (n := 10) [(0, ptr b), (1, vS wk)] Try.func21 rfl rfl ⟨rfl, rfl, trivial⟩ rfl ?_
  intro w0 K hR
  refine wc_seq ?_
  refine wc_region ?_
  refine wl_y rfl (y_assign rfl) ?_
  refine wl_nil ?_
  refine wq_then ?_
  refine wc_seq ?_
  refine wc_seq ?_
  refine wc_region ?_
  refine wl_y rfl (y_move rfl) ?_
  refine wl_y rfl (y_eqlS rfl rfl) ?_
  refine wl_nil ?_
  refine wq_then ?_
  refine wc_known 6 false rfl (decide_eq_false hwk) ?_
  refine wc_cond_false rfl ?_
  refine wc_skip ?_
  refine wq_then ?_
  refine wc_seq ?_
  refine wc_region ?_
  refine wl_y rfl (y_move rfl) ?_
  refine wl_y rfl (y_move rfl) ?_
  refine wl_c (fun _ _ => want_none) rfl (yc_spec (fst := []) (cap := []) _ FN33 (rtake_c b r 0 wk hr) rfl rfl rfl (by (repeat (first | exact pt_nil | apply pt0 | apply pt1 | apply pt2 | apply pt3 | apply pt4 | apply pt5 | apply pt6 | apply pt7 | apply pt8 | apply pt9 | apply pt10 | apply pt11 | apply pt12 | apply pt13 | apply pt14 | apply pt15 | apply pt16 | apply pt17))) (by (repeat (first | exact ro_nil | exact ro_rest (by assumption) | refine ro_cons (by first | exact .inl (by assumption) | exact ro_f0 (fun _ h => h) | exact ro_f0 (fun _ => slc_rsl) | exact ro_f1 (fun _ h => h) | exact ro_f1 (fun _ => slc_rsl) | exact ro_f2 (fun _ h => h) | exact ro_f2 (fun _ => slc_rsl) | exact ro_f3 (fun _ h => h) | exact ro_f3 (fun _ => slc_rsl) | exact ro_f4 (fun _ h => h) | exact ro_f4 (fun _ => slc_rsl) | exact ro_f5 (fun _ h => h) | exact ro_f5 (fun _ => slc_rsl) | exact ro_f6 (fun _ h => h) | exact ro_f6 (fun _ => slc_rsl)) ?_)))) (wl_ex fun x9 hx9 => ?_)
  refine wl_y rfl (y_assign rfl) ?_
  refine wl_nil ?_
  refine wq_then ?_
  refine wc_ret ?_
  refine wq_ret1 rfl rfl (fun w hw => ?_)
  exact ⟨x9, trivial, rfl, hw⟩

end Go.Proofs.Ytjcegolhokfkoaa
