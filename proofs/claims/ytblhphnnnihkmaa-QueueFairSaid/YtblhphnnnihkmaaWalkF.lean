/-
  Walks: the examples; a nil queue.
-/
import Derived.Test.YtblhphnnnihkmaaAbs

namespace Go.Proofs.Ytblhphnnnihkmaa
open Go.Eng

set_option maxHeartbeats 1000000 in
theorem awake_spec  :
    Ctr Try.prog 10 #[] [] [] (fun _ : Unit => True) (fun _ => .bool true) (fun _ => []) := by
  refine spec_start (n := 59) [] Try.func10 rfl rfl trivial rfl ?_
  intro w0 K hR
  refine wc_seq ?_
  refine wc_region ?_
  refine wl_y rfl (y_assign rfl) ?_
  refine wl_nil ?_
  refine wq_then ?_
  refine wc_seq ?_
  refine wc_region ?_
  refine wl_c (fun _ _ => want_none) rfl (yc_spec (fst := []) (cap := []) _ FN18 (new_s_ok 10 (by decide) (by decide)) rfl rfl rfl (by simp) (by (repeat (first | exact pt_nil | apply pt0 | apply pt1 | apply pt2 | apply pt3 | apply pt4 | apply pt5 | apply pt6 | apply pt7 | apply pt8 | apply pt9 | apply pt10 | apply pt11 | apply pt12 | apply pt13 | apply pt14 | apply pt15 | apply pt16 | apply pt17)))) (wl_ex fun x10 hx10 => ?_)
  refine wl_world (S' := Hp w0 K [qA 64 66 vS x10 10 (0) ([])]) (fun w hw => hw) ?_
  refine wl_y rfl (y_move rfl) ?_
  refine wl_y rfl (y_extract rfl rfl) ?_
  refine wl_y rfl (y_extract rfl rfl) ?_
  refine wl_y rfl (y_assign rfl) ?_
  refine wl_y rfl (y_assign rfl) ?_
  refine wl_nil ?_
  refine wq_then ?_
  refine wc_seq ?_
  refine wc_seq ?_
  refine wc_region ?_
  refine wl_y rfl (y_move rfl) ?_
  refine wl_y rfl (y_neqI rfl rfl) ?_
  refine wl_y rfl (y_move rfl) ?_
  refine wl_known 15 false rfl (rfl) ?_
  refine wl_yg rfl rfl rfl (y_move rfl) ?_
  refine wl_yg rfl rfl rfl (y_eqlP Try.underlying51 rfl rfl) ?_
  refine wl_y rfl (y_pick_f rfl rfl) ?_
  refine wl_nil ?_
  refine wq_then ?_
  refine wc_known 18 false rfl (rfl) ?_
  refine wc_cond_false rfl ?_
  refine wc_skip ?_
  refine wq_then ?_
  refine wc_seq ?_
  refine wc_region ?_
  refine wl_y rfl (y_move rfl) ?_
  refine wl_c (fun _ _ => want_none) rfl (yc_spec (fst := []) (cap := []) _ FN19 (push_ok_s x10 10 0 [] [97] 1 0 (by decide) (by decide) (by decide) (by decide) (by decide)) rfl rfl rfl (by simp) (by (repeat (first | exact pt_nil | apply pt0 | apply pt1 | apply pt2 | apply pt3 | apply pt4 | apply pt5 | apply pt6 | apply pt7 | apply pt8 | apply pt9 | apply pt10 | apply pt11 | apply pt12 | apply pt13 | apply pt14 | apply pt15 | apply pt16 | apply pt17)))) (wl_ex fun x20 hx20 => ?_)
  refine wl_world (S' := Hp w0 K [qA 64 66 vS x10 10 (0 + 1) ([(⟨[97], 1, 0, 0 + 10 * 1, 0 + 1⟩ : It Str)])]) (fun w hw => hw) ?_
  refine wl_nil ?_
  refine wq_then ?_
  refine wc_seq ?_
  refine wc_region ?_
  refine wl_y rfl (y_move rfl) ?_
  refine wl_c (fun _ _ => want_none) rfl (yc_spec (fst := []) (cap := []) _ FN19 (push_ok_s x10 10 (0 + 1) [(⟨[97], 1, 0, 0 + 10 * 1, 0 + 1⟩ : It Str)] [98] 0 5 (by decide) (by decide) (by decide) (by decide) (by decide)) rfl rfl rfl (by simp) (by (repeat (first | exact pt_nil | apply pt0 | apply pt1 | apply pt2 | apply pt3 | apply pt4 | apply pt5 | apply pt6 | apply pt7 | apply pt8 | apply pt9 | apply pt10 | apply pt11 | apply pt12 | apply pt13 | apply pt14 | apply pt15 | apply pt16 | apply pt17)))) (wl_ex fun x22 hx22 => ?_)
  refine wl_world (S' := Hp w0 K [qA 64 66 vS x10 10 (0 + 1 + 1) ([(⟨[97], 1, 0, 0 + 10 * 1, 0 + 1⟩ : It Str), (⟨[98], 0, 5, 5 + 10 * 0, 0 + 1 + 1⟩ : It Str)])]) (fun w hw => hw) ?_
  refine wl_nil ?_
  refine wq_then ?_
  refine wc_seq ?_
  refine wc_region ?_
  refine wl_y rfl (y_move rfl) ?_
  refine wl_c (fun _ _ => want_none) rfl (yc_spec (fst := []) (cap := []) _ FN19 (push_ok_s x10 10 (0 + 1 + 1) [(⟨[97], 1, 0, 0 + 10 * 1, 0 + 1⟩ : It Str), (⟨[98], 0, 5, 5 + 10 * 0, 0 + 1 + 1⟩ : It Str)] [99] 0 11 (by decide) (by decide) (by decide) (by decide) (by decide)) rfl rfl rfl (by simp) (by (repeat (first | exact pt_nil | apply pt0 | apply pt1 | apply pt2 | apply pt3 | apply pt4 | apply pt5 | apply pt6 | apply pt7 | apply pt8 | apply pt9 | apply pt10 | apply pt11 | apply pt12 | apply pt13 | apply pt14 | apply pt15 | apply pt16 | apply pt17)))) (wl_ex fun x24 hx24 => ?_)
  refine wl_world (S' := Hp w0 K [qA 64 66 vS x10 10 (0 + 1 + 1 + 1) ([(⟨[97], 1, 0, 0 + 10 * 1, 0 + 1⟩ : It Str), (⟨[98], 0, 5, 5 + 10 * 0, 0 + 1 + 1⟩ : It Str), (⟨[99], 0, 11, 11 + 10 * 0, 0 + 1 + 1 + 1⟩ : It Str)])]) (fun w hw => hw) ?_
  refine wl_nil ?_
  refine wq_then ?_
  refine wc_seq ?_
  refine wc_region ?_
  refine wl_y rfl (y_move rfl) ?_
  refine wl_c (fun _ _ => want_none) rfl (yc_spec (fst := []) (cap := []) _ FN20 (pop_ok_s x10 10 (0 + 1 + 1 + 1) [(⟨[97], 1, 0, 0 + 10 * 1, 0 + 1⟩ : It Str), (⟨[98], 0, 5, 5 + 10 * 0, 0 + 1 + 1⟩ : It Str), (⟨[99], 0, 11, 11 + 10 * 0, 0 + 1 + 1 + 1⟩ : It Str)] (by simp) (by decide) (by decide)) rfl rfl rfl (by simp) (by (repeat (first | exact pt_nil | apply pt0 | apply pt1 | apply pt2 | apply pt3 | apply pt4 | apply pt5 | apply pt6 | apply pt7 | apply pt8 | apply pt9 | apply pt10 | apply pt11 | apply pt12 | apply pt13 | apply pt14 | apply pt15 | apply pt16 | apply pt17)))) (wl_ex fun x27 hx27 => ?_)
  obtain rfl : x27 = (⟨[98], 0, 5, 5 + 10 * 0, 0 + 1 + 1⟩ : It Str) := hx27.uniq (m := (⟨[98], 0, 5, 5 + 10 * 0, 0 + 1 + 1⟩ : It Str)) ⟨by simp, by decide⟩ (by decide)
  refine wl_world (S' := Hp w0 K [qA 64 66 vS x10 10 (0 + 1 + 1 + 1) ([(⟨[97], 1, 0, 0 + 10 * 1, 0 + 1⟩ : It Str), (⟨[99], 0, 11, 11 + 10 * 0, 0 + 1 + 1 + 1⟩ : It Str)])]) (fun w hw => hw) ?_
  refine wl_y rfl (y_move rfl) ?_
  refine wl_y rfl (y_extract rfl rfl) ?_
  refine wl_y rfl (y_extract rfl rfl) ?_
  refine wl_y rfl (y_assign rfl) ?_
  refine wl_y rfl (y_assign rfl) ?_
  refine wl_nil ?_
  refine wq_then ?_
  refine wc_seq ?_
  refine wc_region ?_
  refine wl_y rfl (y_move rfl) ?_
  refine wl_c (fun _ _ => want_none) rfl (yc_spec (fst := []) (cap := []) _ FN20 (pop_ok_s x10 10 (0 + 1 + 1 + 1) [(⟨[97], 1, 0, 0 + 10 * 1, 0 + 1⟩ : It Str), (⟨[99], 0, 11, 11 + 10 * 0, 0 + 1 + 1 + 1⟩ : It Str)] (by simp) (by decide) (by decide)) rfl rfl rfl (by simp) (by (repeat (first | exact pt_nil | apply pt0 | apply pt1 | apply pt2 | apply pt3 | apply pt4 | apply pt5 | apply pt6 | apply pt7 | apply pt8 | apply pt9 | apply pt10 | apply pt11 | apply pt12 | apply pt13 | apply pt14 | apply pt15 | apply pt16 | apply pt17)))) (wl_ex fun x32 hx32 => ?_)
  obtain rfl : x32 = (⟨[97], 1, 0, 0 + 10 * 1, 0 + 1⟩ : It Str) := hx32.uniq (m := (⟨[97], 1, 0, 0 + 10 * 1, 0 + 1⟩ : It Str)) ⟨by simp, by decide⟩ (by decide)
  refine wl_world (S' := Hp w0 K [qA 64 66 vS x10 10 (0 + 1 + 1 + 1) ([(⟨[99], 0, 11, 11 + 10 * 0, 0 + 1 + 1 + 1⟩ : It Str)])]) (fun w hw => hw) ?_
  refine wl_y rfl (y_move rfl) ?_
  refine wl_y rfl (y_extract rfl rfl) ?_
  refine wl_y rfl (y_extract rfl rfl) ?_
  refine wl_y rfl (y_assign rfl) ?_
  refine wl_y rfl (y_assign rfl) ?_
  refine wl_nil ?_
  refine wq_then ?_
  refine wc_seq ?_
  refine wc_region ?_
  refine wl_y rfl (y_move rfl) ?_
  refine wl_c (fun _ _ => want_none) rfl (yc_spec (fst := []) (cap := []) _ FN20 (pop_ok_s x10 10 (0 + 1 + 1 + 1) [(⟨[99], 0, 11, 11 + 10 * 0, 0 + 1 + 1 + 1⟩ : It Str)] (by simp) (by decide) (by decide)) rfl rfl rfl (by simp) (by (repeat (first | exact pt_nil | apply pt0 | apply pt1 | apply pt2 | apply pt3 | apply pt4 | apply pt5 | apply pt6 | apply pt7 | apply pt8 | apply pt9 | apply pt10 | apply pt11 | apply pt12 | apply pt13 | apply pt14 | apply pt15 | apply pt16 | apply pt17)))) (wl_ex fun x37 hx37 => ?_)
  obtain rfl : x37 = (⟨[99], 0, 11, 11 + 10 * 0, 0 + 1 + 1 + 1⟩ : It Str) := hx37.uniq (m := (⟨[99], 0, 11, 11 + 10 * 0, 0 + 1 + 1 + 1⟩ : It Str)) ⟨by simp, by decide⟩ (by decide)
  refine wl_world (S' := Hp w0 K [qA 64 66 vS x10 10 (0 + 1 + 1 + 1) ([])]) (fun w hw => hw) ?_
  refine wl_y rfl (y_move rfl) ?_
  refine wl_y rfl (y_extract rfl rfl) ?_
  refine wl_y rfl (y_extract rfl rfl) ?_
  refine wl_y rfl (y_assign rfl) ?_
  refine wl_y rfl (y_assign rfl) ?_
  refine wl_nil ?_
  refine wq_then ?_
  refine wc_seq ?_
  refine wc_region ?_
  refine wl_y rfl (y_move rfl) ?_
  refine wl_y rfl (y_move rfl) ?_
  refine wl_known 41 true rfl (rfl) ?_
  refine wl_yg rfl rfl rfl (y_move rfl) ?_
  refine wl_y rfl (y_pick_t rfl rfl) ?_
  refine wl_y rfl (y_move rfl) ?_
  refine wl_known 44 true rfl (rfl) ?_
  refine wl_yg rfl rfl rfl (y_move rfl) ?_
  refine wl_y rfl (y_pick_t rfl rfl) ?_
  refine wl_y rfl (y_move rfl) ?_
  refine wl_known 47 true rfl (rfl) ?_
  refine wl_yg rfl rfl rfl (y_move rfl) ?_
  refine wl_yg rfl rfl rfl (y_eqlS rfl rfl) ?_
  refine wl_y rfl (y_pick_t rfl rfl) ?_
  refine wl_y rfl (y_move rfl) ?_
  refine wl_known 51 true rfl (by decide) ?_
  refine wl_yg rfl rfl rfl (y_move rfl) ?_
  refine wl_yg rfl rfl rfl (y_eqlS rfl rfl) ?_
  refine wl_y rfl (y_pick_t rfl rfl) ?_
  refine wl_y rfl (y_move rfl) ?_
  refine wl_known 55 true rfl (by decide) ?_
  refine wl_yg rfl rfl rfl (y_move rfl) ?_
  refine wl_yg rfl rfl rfl (y_eqlS rfl rfl) ?_
  refine wl_y rfl (y_pick_t rfl rfl) ?_
  refine wl_y rfl (y_assign rfl) ?_
  refine wl_nil ?_
  refine wq_then ?_
  refine wc_ret ?_
  refine wq_ret1 rfl rfl (fun w hw => ?_)
  exact ⟨(), trivial, by simp, hw.bare⟩

set_option maxHeartbeats 1000000 in
theorem nil_spec (rank tm : Int) :
    Ctr Try.prog 6 #[vI rank, vI tm] [] [] (fun _ : Unit => True) (fun _ => .bool true) (fun _ => []) := by
  refine spec_start (n := 61) [(0, vI rank), (1, vI tm)] Try.func6 rfl rfl ⟨rfl, rfl, trivial⟩ rfl ?_
  intro w0 K hR
  refine wc_seq ?_
  refine wc_region ?_
  refine wl_y rfl (y_assign rfl) ?_
  refine wl_nil ?_
  refine wq_then ?_
  refine wc_seq ?_
  refine wc_region ?_
  refine wl_y rfl (y_assign rfl) ?_
  refine wl_nil ?_
  refine wq_then ?_
  refine wc_seq ?_
  refine wc_region ?_
  refine wl_y rfl (y_move rfl) ?_
  refine wl_c (fun _ _ => want_none) rfl (yc_spec (fst := []) (cap := []) _ FN13 pop_nil_i rfl rfl rfl (by simp) (by (repeat (first | exact pt_nil | apply pt0 | apply pt1 | apply pt2 | apply pt3 | apply pt4 | apply pt5 | apply pt6 | apply pt7 | apply pt8 | apply pt9 | apply pt10 | apply pt11 | apply pt12 | apply pt13 | apply pt14 | apply pt15 | apply pt16 | apply pt17)))) (wl_ex fun x14 hx14 => ?_)
  refine wl_y rfl (y_move rfl) ?_
  refine wl_y rfl (y_extract rfl rfl) ?_
  refine wl_y rfl (y_extract rfl rfl) ?_
  refine wl_y rfl (y_assign rfl) ?_
  refine wl_y rfl (y_assign rfl) ?_
  refine wl_nil ?_
  refine wq_then ?_
  refine wc_seq ?_
  refine wc_region ?_
  refine wl_y rfl (y_move rfl) ?_
  refine wl_c (fun _ _ => want_none) rfl (yc_spec (fst := []) (cap := []) _ FN15 peek_nil_i rfl rfl rfl (by simp) (by (repeat (first | exact pt_nil | apply pt0 | apply pt1 | apply pt2 | apply pt3 | apply pt4 | apply pt5 | apply pt6 | apply pt7 | apply pt8 | apply pt9 | apply pt10 | apply pt11 | apply pt12 | apply pt13 | apply pt14 | apply pt15 | apply pt16 | apply pt17)))) (wl_ex fun x19 hx19 => ?_)
  refine wl_y rfl (y_move rfl) ?_
  refine wl_y rfl (y_extract rfl rfl) ?_
  refine wl_y rfl (y_extract rfl rfl) ?_
  refine wl_y rfl (y_extract rfl rfl) ?_
  refine wl_y rfl (y_extract rfl rfl) ?_
  refine wl_y rfl (y_assign rfl) ?_
  refine wl_y rfl (y_assign rfl) ?_
  refine wl_y rfl (y_assign rfl) ?_
  refine wl_y rfl (y_assign rfl) ?_
  refine wl_nil ?_
  refine wq_then ?_
  refine wc_seq ?_
  refine wc_region ?_
  refine wl_y rfl (y_move rfl) ?_
  refine wl_y rfl (y_eqlI rfl rfl) ?_
  refine wl_y rfl (y_move rfl) ?_
  refine wl_known 26 true rfl (rfl) ?_
  refine wl_yg rfl rfl rfl (y_move rfl) ?_
  refine wl_yg rfl rfl rfl (y_not rfl) ?_
  refine wl_y rfl (y_pick_t rfl rfl) ?_
  refine wl_y rfl (y_move rfl) ?_
  refine wl_known 30 true rfl (rfl) ?_
  refine wl_yg rfl rfl rfl (y_move rfl) ?_
  refine wl_yg rfl rfl rfl (y_eqlI rfl rfl) ?_
  refine wl_y rfl (y_pick_t rfl rfl) ?_
  refine wl_y rfl (y_move rfl) ?_
  refine wl_known 34 true rfl (rfl) ?_
  refine wl_yg rfl rfl rfl (y_move rfl) ?_
  refine wl_yg rfl rfl rfl (y_eqlI rfl rfl) ?_
  refine wl_y rfl (y_pick_t rfl rfl) ?_
  refine wl_y rfl (y_move rfl) ?_
  refine wl_known 38 true rfl (rfl) ?_
  refine wl_yg rfl rfl rfl (y_move rfl) ?_
  refine wl_yg rfl rfl rfl (y_eqlI rfl rfl) ?_
  refine wl_y rfl (y_pick_t rfl rfl) ?_
  refine wl_y rfl (y_move rfl) ?_
  refine wl_known 42 true rfl (rfl) ?_
  refine wl_yg rfl rfl rfl (y_move rfl) ?_
  refine wl_yg rfl rfl rfl (y_not rfl) ?_
  refine wl_y rfl (y_pick_t rfl rfl) ?_
  refine wl_y rfl (y_move rfl) ?_
  refine wl_known 46 true rfl (rfl) ?_
  refine wl_yg rfl rfl rfl (y_move rfl) ?_
  refine wl_c (want_some rfl rfl) rfl (yc_spec (fst := []) (cap := []) _ FN17 len_nil_i rfl rfl rfl (by simp) (by (repeat (first | exact pt_nil | apply pt0 | apply pt1 | apply pt2 | apply pt3 | apply pt4 | apply pt5 | apply pt6 | apply pt7 | apply pt8 | apply pt9 | apply pt10 | apply pt11 | apply pt12 | apply pt13 | apply pt14 | apply pt15 | apply pt16 | apply pt17)))) (wl_ex fun x48 hx48 => ?_)
  refine wl_yg rfl rfl rfl (y_eqlI rfl rfl) ?_
  refine wl_y rfl (y_pick_t rfl rfl) ?_
  refine wl_y rfl (y_move rfl) ?_
  refine wl_known 51 true rfl (rfl) ?_
  refine wl_yg rfl rfl rfl (y_move rfl) ?_
  refine wl_yg rfl rfl rfl (y_move rfl) ?_
  refine wl_yg rfl rfl rfl (y_move rfl) ?_
  refine wl_c (want_some rfl rfl) rfl (yc_spec (fst := []) (cap := []) _ FN11 (push_nil_i 1 rank tm) rfl rfl rfl (by simp) (by (repeat (first | exact pt_nil | apply pt0 | apply pt1 | apply pt2 | apply pt3 | apply pt4 | apply pt5 | apply pt6 | apply pt7 | apply pt8 | apply pt9 | apply pt10 | apply pt11 | apply pt12 | apply pt13 | apply pt14 | apply pt15 | apply pt16 | apply pt17)))) (wl_ex fun x55 hx55 => ?_)
  refine wl_yg rfl rfl rfl (y_eqlI rfl rfl) ?_
  refine wl_y rfl (y_pick_t rfl rfl) ?_
  refine wl_y rfl (y_move rfl) ?_
  refine wl_known 58 true rfl (rfl) ?_
  refine wl_c (want_some rfl rfl) rfl (yc_spec (fst := []) (cap := []) _ FN10 awake_spec rfl rfl rfl (by simp) (by (repeat (first | exact pt_nil | apply pt0 | apply pt1 | apply pt2 | apply pt3 | apply pt4 | apply pt5 | apply pt6 | apply pt7 | apply pt8 | apply pt9 | apply pt10 | apply pt11 | apply pt12 | apply pt13 | apply pt14 | apply pt15 | apply pt16 | apply pt17)))) (wl_ex fun x59 hx59 => ?_)
  refine wl_y rfl (y_pick_t rfl rfl) ?_
  refine wl_y rfl (y_assign rfl) ?_
  refine wl_nil ?_
  refine wq_then ?_
  refine wc_ret ?_
  refine wq_ret1 rfl rfl (fun w hw => ?_)
  exact ⟨(), trivial, rfl, hw.bare⟩

end Go.Proofs.Ytblhphnnnihkmaa
