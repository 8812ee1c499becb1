/-
  Walks: law QueuePlays.
-/
import Derived.Test.YtblhphnnnihkmaaWalkF
import Derived.Test.YtblhphnnnihkmaaRefAbs
import Derived.Test.YtblhphnnnihkmaaRankLaw
namespace Go.Proofs.Ytblhphnnnihkmaa
open Go.Eng

set_option maxHeartbeats 1000000 in
theorem plays_lo (w : Int) (hw : w < 1) (oo : Option Addr) (cc : Nat) (ops : List (Bool × Int × Int)) :
    Ctr Try.prog 3 #[vI w, .slice oo ops.length cc] [rsl oo ops.length 3 (ops.flatMap encOp)] [] (fun _ : Unit => True) (fun _ => .bool true) (fun _ => []) := by
  refine spec_start (n := 140) [(0, vI w), (1, .slice oo ops.length cc)] Try.func3 rfl rfl ⟨rfl, rfl, trivial⟩ rfl ?_
  intro w0 K hR
  refine wc_seq ?_
  refine wc_region ?_
  refine wl_y rfl (y_assign rfl) ?_
  refine wl_nil ?_
  refine wq_then ?_
  refine wc_seq ?_
  refine wc_region ?_
  refine wl_y rfl (y_move rfl) ?_
  refine wl_c (fun _ _ => want_none) rfl (yc_spec (fst := []) (cap := []) _ FN8 (new_i_lo w hw) rfl rfl rfl (by simp) (by (repeat (first | exact pt_nil | apply pt0 | apply pt1 | apply pt2 | apply pt3 | apply pt4 | apply pt5 | apply pt6 | apply pt7 | apply pt8 | apply pt9 | apply pt10 | apply pt11 | apply pt12 | apply pt13 | apply pt14 | apply pt15 | apply pt16 | apply pt17)))) (wl_ex fun x25 hx25 => ?_)
  refine wl_y rfl (y_move rfl) ?_
  refine wl_y rfl (y_extract rfl rfl) ?_
  refine wl_y rfl (y_extract rfl rfl) ?_
  refine wl_y rfl (y_assign rfl) ?_
  refine wl_y rfl (y_assign rfl) ?_
  refine wl_nil ?_
  refine wq_then ?_
  refine wc_seq ?_
  refine wc_region ?_
  refine wl_y rfl (y_move rfl) ?_
  refine wl_c (fun _ _ => want_none) rfl (yc_spec (fst := []) (cap := []) _ FN9 (rnew_lo w hw) rfl rfl rfl (by simp) (by (repeat (first | exact pt_nil | apply pt0 | apply pt1 | apply pt2 | apply pt3 | apply pt4 | apply pt5 | apply pt6 | apply pt7 | apply pt8 | apply pt9 | apply pt10 | apply pt11 | apply pt12 | apply pt13 | apply pt14 | apply pt15 | apply pt16 | apply pt17)))) (wl_ex fun x30 hx30 => ?_)
  refine wl_y rfl (y_move rfl) ?_
  refine wl_y rfl (y_extract rfl rfl) ?_
  refine wl_y rfl (y_extract rfl rfl) ?_
  refine wl_y rfl (y_assign rfl) ?_
  refine wl_y rfl (y_assign rfl) ?_
  refine wl_nil ?_
  refine wq_then ?_
  refine wc_seq ?_
  refine wc_seq ?_
  refine wc_region ?_
  refine wl_y rfl (y_move rfl) ?_
  refine wl_y rfl (y_move rfl) ?_
  refine wl_y rfl (y_neqI rfl rfl) ?_
  refine wl_y rfl (y_move rfl) ?_
  refine wl_known 36 false rfl (rfl) ?_
  refine wl_yg rfl rfl rfl (y_move rfl) ?_
  refine wl_yg rfl rfl rfl (y_eqlP Try.underlying23 rfl rfl) ?_
  refine wl_yg rfl rfl rfl (y_move rfl) ?_
  refine wl_yg rfl rfl rfl (y_eqlP Try.underlying27 rfl rfl) ?_
  refine wl_yg rfl rfl rfl (y_neqB Try.underlying4 rfl rfl) ?_
  refine wl_y rfl (y_pick_f rfl rfl) ?_
  refine wl_nil ?_
  refine wq_then ?_
  refine wc_known 42 false rfl (rfl) ?_
  refine wc_cond_false rfl ?_
  refine wc_skip ?_
  refine wq_then ?_
  refine wc_seq ?_
  refine wc_seq ?_
  refine wc_region ?_
  refine wl_y rfl (y_move rfl) ?_
  refine wl_y rfl (y_eqlP Try.underlying27 rfl rfl) ?_
  refine wl_nil ?_
  refine wq_then ?_
  refine wc_known 44 true rfl (rfl) ?_
  refine wc_cond_true rfl ?_
  refine wc_seq ?_
  refine wc_region ?_
  refine wl_c (fun _ _ => want_none) rfl (yc_spec (fst := []) (cap := []) _ FN10 awake_spec rfl rfl rfl (by simp) (by (repeat (first | exact pt_nil | apply pt0 | apply pt1 | apply pt2 | apply pt3 | apply pt4 | apply pt5 | apply pt6 | apply pt7 | apply pt8 | apply pt9 | apply pt10 | apply pt11 | apply pt12 | apply pt13 | apply pt14 | apply pt15 | apply pt16 | apply pt17)))) (wl_ex fun x45 hx45 => ?_)
  refine wl_y rfl (y_assign rfl) ?_
  refine wl_nil ?_
  refine wq_then ?_
  refine wc_ret ?_
  refine wq_then_ret ?_
  refine wq_ret1 rfl rfl (fun w hw => ?_)
  exact ⟨(), trivial, rfl, hw.bare⟩

set_option maxHeartbeats 1000000 in
theorem plays_hi (w : Int) (hw : 1000000 < w) (oo : Option Addr) (cc : Nat) (ops : List (Bool × Int × Int)) :
    Ctr Try.prog 3 #[vI w, .slice oo ops.length cc] [rsl oo ops.length 3 (ops.flatMap encOp)] [] (fun _ : Unit => True) (fun _ => .bool true) (fun _ => []) := by
  refine spec_start (n := 140) [(0, vI w), (1, .slice oo ops.length cc)] Try.func3 rfl rfl ⟨rfl, rfl, trivial⟩ rfl ?_
  intro w0 K hR
  refine wc_seq ?_
  refine wc_region ?_
  refine wl_y rfl (y_assign rfl) ?_
  refine wl_nil ?_
  refine wq_then ?_
  refine wc_seq ?_
  refine wc_region ?_
  refine wl_y rfl (y_move rfl) ?_
  refine wl_c (fun _ _ => want_none) rfl (yc_spec (fst := []) (cap := []) _ FN8 (new_i_hi w hw) rfl rfl rfl (by simp) (by (repeat (first | exact pt_nil | apply pt0 | apply pt1 | apply pt2 | apply pt3 | apply pt4 | apply pt5 | apply pt6 | apply pt7 | apply pt8 | apply pt9 | apply pt10 | apply pt11 | apply pt12 | apply pt13 | apply pt14 | apply pt15 | apply pt16 | apply pt17)))) (wl_ex fun x25 hx25 => ?_)
  refine wl_y rfl (y_move rfl) ?_
  refine wl_y rfl (y_extract rfl rfl) ?_
  refine wl_y rfl (y_extract rfl rfl) ?_
  refine wl_y rfl (y_assign rfl) ?_
  refine wl_y rfl (y_assign rfl) ?_
  refine wl_nil ?_
  refine wq_then ?_
  refine wc_seq ?_
  refine wc_region ?_
  refine wl_y rfl (y_move rfl) ?_
  refine wl_c (fun _ _ => want_none) rfl (yc_spec (fst := []) (cap := []) _ FN9 (rnew_hi w hw) rfl rfl rfl (by simp) (by (repeat (first | exact pt_nil | apply pt0 | apply pt1 | apply pt2 | apply pt3 | apply pt4 | apply pt5 | apply pt6 | apply pt7 | apply pt8 | apply pt9 | apply pt10 | apply pt11 | apply pt12 | apply pt13 | apply pt14 | apply pt15 | apply pt16 | apply pt17)))) (wl_ex fun x30 hx30 => ?_)
  refine wl_y rfl (y_move rfl) ?_
  refine wl_y rfl (y_extract rfl rfl) ?_
  refine wl_y rfl (y_extract rfl rfl) ?_
  refine wl_y rfl (y_assign rfl) ?_
  refine wl_y rfl (y_assign rfl) ?_
  refine wl_nil ?_
  refine wq_then ?_
  refine wc_seq ?_
  refine wc_seq ?_
  refine wc_region ?_
  refine wl_y rfl (y_move rfl) ?_
  refine wl_y rfl (y_move rfl) ?_
  refine wl_y rfl (y_neqI rfl rfl) ?_
  refine wl_y rfl (y_move rfl) ?_
  refine wl_known 36 false rfl (rfl) ?_
  refine wl_yg rfl rfl rfl (y_move rfl) ?_
  refine wl_yg rfl rfl rfl (y_eqlP Try.underlying23 rfl rfl) ?_
  refine wl_yg rfl rfl rfl (y_move rfl) ?_
  refine wl_yg rfl rfl rfl (y_eqlP Try.underlying27 rfl rfl) ?_
  refine wl_yg rfl rfl rfl (y_neqB Try.underlying4 rfl rfl) ?_
  refine wl_y rfl (y_pick_f rfl rfl) ?_
  refine wl_nil ?_
  refine wq_then ?_
  refine wc_known 42 false rfl (rfl) ?_
  refine wc_cond_false rfl ?_
  refine wc_skip ?_
  refine wq_then ?_
  refine wc_seq ?_
  refine wc_seq ?_
  refine wc_region ?_
  refine wl_y rfl (y_move rfl) ?_
  refine wl_y rfl (y_eqlP Try.underlying27 rfl rfl) ?_
  refine wl_nil ?_
  refine wq_then ?_
  refine wc_known 44 true rfl (rfl) ?_
  refine wc_cond_true rfl ?_
  refine wc_seq ?_
  refine wc_region ?_
  refine wl_c (fun _ _ => want_none) rfl (yc_spec (fst := []) (cap := []) _ FN10 awake_spec rfl rfl rfl (by simp) (by (repeat (first | exact pt_nil | apply pt0 | apply pt1 | apply pt2 | apply pt3 | apply pt4 | apply pt5 | apply pt6 | apply pt7 | apply pt8 | apply pt9 | apply pt10 | apply pt11 | apply pt12 | apply pt13 | apply pt14 | apply pt15 | apply pt16 | apply pt17)))) (wl_ex fun x45 hx45 => ?_)
  refine wl_y rfl (y_assign rfl) ?_
  refine wl_nil ?_
  refine wq_then ?_
  refine wc_ret ?_
  refine wq_then_ret ?_
  refine wq_ret1 rfl rfl (fun w hw => ?_)
  exact ⟨(), trivial, rfl, hw.bare⟩

set_option maxHeartbeats 1000000 in
theorem plays_ok (age : Int) (h1 : 1 ≤ age) (h2 : age ≤ 1000000) (oo : Option Addr) (cc : Nat) (ops : List (Bool × Int × Int)) :
    Ctr Try.prog 3 #[vI age, .slice oo ops.length cc] [rsl oo ops.length 3 (ops.flatMap encOp)] [] (fun _ : Unit => True) (fun _ => .bool true) (fun _ => []) := by
  refine spec_start (n := 140) [(0, vI age), (1, .slice oo ops.length cc)] Try.func3 rfl rfl ⟨rfl, rfl, trivial⟩ rfl ?_
  intro w0 K hR
  have hA := hR _ (List.mem_cons_self ..)
  refine wc_seq ?_
  refine wc_region ?_
  refine wl_y rfl (y_assign rfl) ?_
  refine wl_nil ?_
  refine wq_then ?_
  refine wc_seq ?_
  refine wc_region ?_
  refine wl_y rfl (y_move rfl) ?_
  refine wl_c (fun _ _ => want_none) rfl (yc_spec (fst := []) (cap := []) _ FN8 (new_i_ok age h1 h2) rfl rfl rfl (by simp) (by (repeat (first | exact pt_nil | apply pt0 | apply pt1 | apply pt2 | apply pt3 | apply pt4 | apply pt5 | apply pt6 | apply pt7 | apply pt8 | apply pt9 | apply pt10 | apply pt11 | apply pt12 | apply pt13 | apply pt14 | apply pt15 | apply pt16 | apply pt17)))) (wl_ex fun x25 hx25 => ?_)
  refine wl_y rfl (y_move rfl) ?_
  refine wl_y rfl (y_extract rfl rfl) ?_
  refine wl_y rfl (y_extract rfl rfl) ?_
  refine wl_y rfl (y_assign rfl) ?_
  refine wl_y rfl (y_assign rfl) ?_
  refine wl_nil ?_
  refine wq_then ?_
  refine wc_seq ?_
  refine wc_region ?_
  refine wl_y rfl (y_move rfl) ?_
  refine wl_c (fun _ _ => want_none) rfl (yc_spec (fst := []) (cap := []) _ FN9 (rnew_ok age h1 h2) rfl rfl rfl (by simp) (by (repeat (first | exact pt_nil | apply pt0 | apply pt1 | apply pt2 | apply pt3 | apply pt4 | apply pt5 | apply pt6 | apply pt7 | apply pt8 | apply pt9 | apply pt10 | apply pt11 | apply pt12 | apply pt13 | apply pt14 | apply pt15 | apply pt16 | apply pt17)))) (wl_ex fun x30 hx30 => ?_)
  refine wl_world (S' := Hp w0 K [refA x30 age ([]), qA 50 58 vI x25 age (0) ([])]) (fun w hw => hw.sub (by (repeat (first | exact pt_nil | apply pt0 | apply pt1 | apply pt2 | apply pt3 | apply pt4 | apply pt5 | apply pt6 | apply pt7 | apply pt8 | apply pt9 | apply pt10 | apply pt11 | apply pt12 | apply pt13 | apply pt14 | apply pt15 | apply pt16 | apply pt17)))) ?_
  refine wl_y rfl (y_move rfl) ?_
  refine wl_y rfl (y_extract rfl rfl) ?_
  refine wl_y rfl (y_extract rfl rfl) ?_
  refine wl_y rfl (y_assign rfl) ?_
  refine wl_y rfl (y_assign rfl) ?_
  refine wl_nil ?_
  refine wq_then ?_
  refine wc_seq ?_
  refine wc_seq ?_
  refine wc_region ?_
  refine wl_y rfl (y_move rfl) ?_
  refine wl_y rfl (y_move rfl) ?_
  refine wl_y rfl (y_neqI rfl rfl) ?_
  refine wl_y rfl (y_move rfl) ?_
  refine wl_known 36 false rfl (rfl) ?_
  refine wl_yg rfl rfl rfl (y_move rfl) ?_
  refine wl_yg rfl rfl rfl (y_eqlP Try.underlying23 rfl rfl) ?_
  refine wl_yg rfl rfl rfl (y_move rfl) ?_
  refine wl_yg rfl rfl rfl (y_eqlP Try.underlying27 rfl rfl) ?_
  refine wl_yg rfl rfl rfl (y_neqB Try.underlying4 rfl rfl) ?_
  refine wl_y rfl (y_pick_f rfl rfl) ?_
  refine wl_nil ?_
  refine wq_then ?_
  refine wc_known 42 false rfl (rfl) ?_
  refine wc_cond_false rfl ?_
  refine wc_skip ?_
  refine wq_then ?_
  refine wc_seq ?_
  refine wc_seq ?_
  refine wc_region ?_
  refine wl_y rfl (y_move rfl) ?_
  refine wl_y rfl (y_eqlP Try.underlying27 rfl rfl) ?_
  refine wl_nil ?_
  refine wq_then ?_
  refine wc_known 44 false rfl (rfl) ?_
  refine wc_cond_false rfl ?_
  refine wc_skip ?_
  refine wq_then ?_
  refine wc_seq ?_
  refine wc_seq ?_
  refine wc_region ?_
  refine wl_y rfl (y_assign rfl) ?_
  refine wl_nil ?_
  refine wq_then ?_
  refine wc_block ?_
  refine wc_loop (α := Nat × Int × List (It Int)) (fun y => y.1 ≤ ops.length ∧ y.1 ≤ 300 ∧ 0 ≤ y.2.1 ∧ y.2.1 ≤ y.1 ∧ QOk age y.2.1 y.2.2 ∧ y.2.2.length ≤ y.1) [(1, _), (5, _), (7, _)] (fun y => [(9, vI y.1)]) (fun y => Hp w0 K [refA x30 age (y.2.2), qA 50 58 vI x25 age (y.2.1) (y.2.2)]) (fun y => ops.length - y.1) (0, 0, []) ?_ ⟨rfl, rfl, rfl, rfl, trivial⟩ ?_ ?_
  · exact ⟨Nat.zero_le _, Nat.zero_le _, by decide, by decide, ⟨by simp, List.Pairwise.nil⟩, by simp⟩
  · exact fun w hw => hw
  · rintro ⟨k, m, R⟩ ⟨hk, hk2, hm0, hm1, hQ, hRl⟩; simp only at hk hk2 hm0 hm1 hQ hRl
    refine wc_world (S' := Hp w0 K [refA x30 age (R), qA 50 58 vI x25 age (m) (R)]) (fun w hw => hw) ?_
    refine wc_seq ?_
    refine wc_seq ?_
    refine wc_region ?_
    refine wl_y rfl (y_move rfl) ?_
    refine wl_y rfl (y_move rfl) ?_
    refine wl_y rfl (y_lenSl Try.underlying22 rfl) ?_
    refine wl_y rfl (y_lss rfl rfl) ?_
    refine wl_y rfl (y_move rfl) ?_
    refine wl_case 50 rfl (fun hg50 => ?_) (fun hg50 => ?_)
    ·
      simp at hg50
      refine wl_yg rfl rfl rfl (y_move rfl) ?_
      refine wl_yg rfl rfl rfl (y_lss rfl rfl) ?_
      refine wl_y rfl (y_pick_t rfl rfl) ?_
      refine wl_nil ?_
      refine wq_then ?_
      refine wc_cond rfl (fun hc53 => ?_) (fun hc53 => ?_)
      ·
        simp at hc53
        refine wc_skip ?_
        refine wq_then ?_
        refine wc_seq ?_
        refine wc_block ?_
        refine wc_seq ?_
        refine wc_region ?_
        obtain ⟨x, hx⟩ : ∃ x, ops[k]? = some x := ⟨_, List.getElem?_eq_getElem (by omega)⟩
        refine wl_y rfl (y_move rfl) ?_
        refine wl_y rfl (y_move rfl) ?_
        refine wl_y rfl (y_indexAddr Try.underlying22 T32 rfl rfl rfl (by omega) (fun _ _ => hA.isSome (by omega))) ?_
        refine wl_y rfl (y_loadAgg (l := encOp x) AG32 rfl rfl (agg_ro hA (fun i u h => rows_get encOp_len hx h))) ?_
        refine wl_w (fun _ _ => want_none) rfl (yw_alloc T32 rfl) (wl_ex fun b10 _ => ?_)
        first | refine wl_u (yu_storeAgg [] (l' := [_, _, _]) T32 rfl rfl rfl (by simp [Value.oneCell', encOp]) rfl rfl) ?_ | refine wl_u (yu_storeAgg [_] (l' := [_, _, _]) T32 rfl rfl rfl (by simp [Value.oneCell', encOp]) rfl rfl) ?_ | refine wl_u (yu_storeAgg [_, _] (l' := [_, _, _]) T32 rfl rfl rfl (by simp [Value.oneCell', encOp]) rfl rfl) ?_ | refine wl_u (yu_storeAgg [_, _, _] (l' := [_, _, _]) T32 rfl rfl rfl (by simp [Value.oneCell', encOp]) rfl rfl) ?_
        refine wl_nil ?_
        refine wq_then ?_
        refine wc_seq (wc_cut (α := Int × List (It Int)) (fun y => 0 ≤ y.1 ∧ y.1 ≤ k + 1 ∧ QOk age y.1 y.2 ∧ y.2.length ≤ k + 1) [(1, _), (5, _), (7, _), (9, _)] (fun y => []) (fun y => Hp w0 K [refA x30 age (y.2), qA 50 58 vI x25 age (y.1) (y.2)]) ⟨rfl, rfl, rfl, rfl, trivial⟩ ?_ ?_)
        ·
          refine wc_seq ?_
          refine wc_region ?_
          refine wl_y rfl (y_fieldAddr F32_0 rfl) ?_
          refine wl_y rfl (y_load NA4 rfl (by first | exact cell_blk [] rfl | exact cell_blk [_] rfl | exact cell_blk [_, _] rfl | exact cell_blk [_, _, _] rfl)) ?_
          refine wl_nil ?_
          refine wq_then ?_
          refine wc_cond rfl (fun hc61 => ?_) (fun hc61 => ?_)
          ·
            refine wc_seq ?_
            refine wc_mix (.q 0 0 (.q 1 0 (.q 2 0 (.q 3 0 (.q 4 0 (.q 5 0 (.q 6 0 (.q 8 0 (.q 9 0 (.q 10 0 (.q 11 0 (.q 12 0 (.q 13 0 (.q 14 0 (.w 7 2 (.w 15 2 (.q 16 0 .nil) .nil) .nil))))))))))))))) (Sees [blk b10 (.cells [.bool x.1, vI x.2.1, vI x.2.2].toArray 32 (0, 0))]) MO (by kernel_rfl) (Hp.drawless _ _ _) (fun w hw => by refine ⟨?_, trivial⟩ <;> first | exact hw.seen [] | exact hw.seen [_] | exact hw.seen [_, _] | exact hw.seen [_, _, _] | exact hw.seen [_, _, _, _] | exact hw.seen [_, _, _, _, _]) ?_
            by_cases hv : (0 ≤ x.2.1 ∧ x.2.1 ≤ 9) ∧ 0 ≤ x.2.2 ∧ x.2.2 ≤ 1000000000
            ·
              refine wm_g rfl rfl (y_move rfl) ?_
              refine wm_g rfl rfl (y_move rfl) ?_
              refine wm_g rfl rfl (y_add rfl rfl (by omega)) ?_
              refine wm_g rfl rfl (y_fieldAddr F32_1 rfl) ?_
              refine wm_g rfl rfl (y_load NA3 rfl (fun w hw => by first | exact cell_of_heap hw.1.blk rfl)) ?_
              refine wm_g rfl rfl (y_fieldAddr F32_2 rfl) ?_
              refine wm_g rfl rfl (y_load NA3 rfl (fun w hw => by first | exact cell_of_heap hw.1.blk rfl)) ?_
              refine wm_g rfl rfl (y_move rfl) ?_
              refine wm_g rfl rfl (y_move rfl) ?_
              refine wm_g rfl rfl (y_add rfl rfl (by omega)) ?_
              refine wm_g rfl rfl (y_fieldAddr F32_1 rfl) ?_
              refine wm_g rfl rfl (y_load NA3 rfl (fun w hw => by first | exact cell_of_heap hw.1.blk rfl)) ?_
              refine wm_g rfl rfl (y_fieldAddr F32_2 rfl) ?_
              refine wm_g rfl rfl (y_load NA3 rfl (fun w hw => by first | exact cell_of_heap hw.1.blk rfl)) ?_
              refine wm_c rfl rfl ?hC (yc_spec (fst := []) (cap := []) _ FN11 (push_ok_i x25 age m R (k + 1) x.2.1 x.2.2 ⟨by omega, h2⟩ (by omega) hv.1 hv.2 (by omega)) rfl rfl rfl (by simp) (by (repeat (first | exact pt_nil | apply pt0 | apply pt1 | apply pt2 | apply pt3 | apply pt4 | apply pt5 | apply pt6 | apply pt7 | apply pt8 | apply pt9 | apply pt10 | apply pt11 | apply pt12 | apply pt13 | apply pt14 | apply pt15 | apply pt16 | apply pt17)))) (wm_ex fun x69 hx69 => ?_)
              case hC => exact (fun _ _ h => by obtain ⟨_, _, _, hw⟩ := h; exact (by refine ⟨?_, trivial⟩ <;> first | exact hw.seen [] | exact hw.seen [_] | exact hw.seen [_, _] | exact hw.seen [_, _, _] | exact hw.seen [_, _, _, _] | exact hw.seen [_, _, _, _, _]))
              refine wm_c rfl rfl ?hC (yc_spec (fst := []) (cap := []) _ FN12 (rpush_ok x30 age m R (k + 1) x.2.1 x.2.2 hv.1 hv.2 (by omega)) rfl rfl rfl (by simp) (by (repeat (first | exact pt_nil | apply pt0 | apply pt1 | apply pt2 | apply pt3 | apply pt4 | apply pt5 | apply pt6 | apply pt7 | apply pt8 | apply pt9 | apply pt10 | apply pt11 | apply pt12 | apply pt13 | apply pt14 | apply pt15 | apply pt16 | apply pt17)))) (wm_ex fun x77 hx77 => ?_)
              case hC => exact (fun _ _ h => by obtain ⟨_, _, _, hw⟩ := h; exact (by refine ⟨?_, trivial⟩ <;> first | exact hw.seen [] | exact hw.seen [_] | exact hw.seen [_, _] | exact hw.seen [_, _, _] | exact hw.seen [_, _, _, _] | exact hw.seen [_, _, _, _, _]))
              refine wm_g rfl rfl (y_neqI rfl rfl) ?_
              refine wm_nil ?_
              refine all_wq ?_
              refine wq_then ?_
              refine wc_known 78 false rfl (rfl) ?_
              refine wc_cond_false rfl ?_
              refine wc_skip ?_
              exact wq_cut (m + 1, R ++ [(⟨k + 1, x.2.1, x.2.2, x.2.2 + age * x.2.1, m + 1⟩ : It Int)]) ⟨by simp only; omega, by simp only; omega, hQ.push hv.1 hv.2, by simp; omega⟩ ⟨rfl, rfl, rfl, rfl, trivial⟩ (fun w hw => hw.sub (by (repeat (first | exact pt_nil | apply pt0 | apply pt1 | apply pt2 | apply pt3 | apply pt4 | apply pt5 | apply pt6 | apply pt7 | apply pt8 | apply pt9 | apply pt10 | apply pt11 | apply pt12 | apply pt13 | apply pt14 | apply pt15 | apply pt16 | apply pt17))))
            ·
              refine wm_g rfl rfl (y_move rfl) ?_
              refine wm_g rfl rfl (y_move rfl) ?_
              refine wm_g rfl rfl (y_add rfl rfl (by omega)) ?_
              refine wm_g rfl rfl (y_fieldAddr F32_1 rfl) ?_
              refine wm_g rfl rfl (y_load NA3 rfl (fun w hw => by first | exact cell_of_heap hw.1.blk rfl)) ?_
              refine wm_g rfl rfl (y_fieldAddr F32_2 rfl) ?_
              refine wm_g rfl rfl (y_load NA3 rfl (fun w hw => by first | exact cell_of_heap hw.1.blk rfl)) ?_
              refine wm_g rfl rfl (y_move rfl) ?_
              refine wm_g rfl rfl (y_move rfl) ?_
              refine wm_g rfl rfl (y_add rfl rfl (by omega)) ?_
              refine wm_g rfl rfl (y_fieldAddr F32_1 rfl) ?_
              refine wm_g rfl rfl (y_load NA3 rfl (fun w hw => by first | exact cell_of_heap hw.1.blk rfl)) ?_
              refine wm_g rfl rfl (y_fieldAddr F32_2 rfl) ?_
              refine wm_g rfl rfl (y_load NA3 rfl (fun w hw => by first | exact cell_of_heap hw.1.blk rfl)) ?_
              refine wm_c rfl rfl ?hC (yc_spec (fst := []) (cap := []) _ FN11 (push_no_i x25 age m R (k + 1) x.2.1 x.2.2 (by omega)) rfl rfl rfl (by simp) (by (repeat (first | exact pt_nil | apply pt0 | apply pt1 | apply pt2 | apply pt3 | apply pt4 | apply pt5 | apply pt6 | apply pt7 | apply pt8 | apply pt9 | apply pt10 | apply pt11 | apply pt12 | apply pt13 | apply pt14 | apply pt15 | apply pt16 | apply pt17)))) (wm_ex fun x69 hx69 => ?_)
              case hC => exact (fun _ _ h => by obtain ⟨_, _, _, hw⟩ := h; exact (by refine ⟨?_, trivial⟩ <;> first | exact hw.seen [] | exact hw.seen [_] | exact hw.seen [_, _] | exact hw.seen [_, _, _] | exact hw.seen [_, _, _, _] | exact hw.seen [_, _, _, _, _]))
              refine wm_c rfl rfl ?hC (yc_spec (fst := []) (cap := []) _ FN12 (rpush_no x30 age R (k + 1) x.2.1 x.2.2 (by omega)) rfl rfl rfl (by simp) (by (repeat (first | exact pt_nil | apply pt0 | apply pt1 | apply pt2 | apply pt3 | apply pt4 | apply pt5 | apply pt6 | apply pt7 | apply pt8 | apply pt9 | apply pt10 | apply pt11 | apply pt12 | apply pt13 | apply pt14 | apply pt15 | apply pt16 | apply pt17)))) (wm_ex fun x77 hx77 => ?_)
              case hC => exact (fun _ _ h => by obtain ⟨_, _, _, hw⟩ := h; exact (by refine ⟨?_, trivial⟩ <;> first | exact hw.seen [] | exact hw.seen [_] | exact hw.seen [_, _] | exact hw.seen [_, _, _] | exact hw.seen [_, _, _, _] | exact hw.seen [_, _, _, _, _]))
              refine wm_g rfl rfl (y_neqI rfl rfl) ?_
              refine wm_nil ?_
              refine all_wq ?_
              refine wq_then ?_
              refine wc_known 78 false rfl (rfl) ?_
              refine wc_cond_false rfl ?_
              refine wc_skip ?_
              exact wq_cut (m, R) ⟨hm0, by simp only; omega, hQ, by simp only; omega⟩ ⟨rfl, rfl, rfl, rfl, trivial⟩ (fun w hw => hw.sub (by (repeat (first | exact pt_nil | apply pt0 | apply pt1 | apply pt2 | apply pt3 | apply pt4 | apply pt5 | apply pt6 | apply pt7 | apply pt8 | apply pt9 | apply pt10 | apply pt11 | apply pt12 | apply pt13 | apply pt14 | apply pt15 | apply pt16 | apply pt17))))
          ·
            refine wc_seq ?_
            refine wc_region ?_
            by_cases hne : R = []
            ·
              subst hne
              refine wl_y rfl (y_move rfl) ?_
              refine wl_c (fun _ _ => want_none) rfl (yc_spec (fst := []) (cap := []) _ FN13 (pop_em_i x25 age m) rfl rfl rfl (by simp) (by (repeat (first | exact pt_nil | apply pt0 | apply pt1 | apply pt2 | apply pt3 | apply pt4 | apply pt5 | apply pt6 | apply pt7 | apply pt8 | apply pt9 | apply pt10 | apply pt11 | apply pt12 | apply pt13 | apply pt14 | apply pt15 | apply pt16 | apply pt17)))) (wl_ex fun x81 hx81 => ?_)
              refine wl_y rfl (y_move rfl) ?_
              refine wl_y rfl (y_extract rfl rfl) ?_
              refine wl_y rfl (y_extract rfl rfl) ?_
              refine wl_y rfl (y_assign rfl) ?_
              refine wl_y rfl (y_assign rfl) ?_
              refine wl_nil ?_
              refine wq_then ?_
              refine wc_seq ?_
              refine wc_region ?_
              refine wl_y rfl (y_move rfl) ?_
              refine wl_c (fun _ _ => want_none) rfl (yc_spec (fst := []) (cap := []) _ FN14 (rpop_em x30 age) rfl rfl rfl (by simp) (by (repeat (first | exact pt_nil | apply pt0 | apply pt1 | apply pt2 | apply pt3 | apply pt4 | apply pt5 | apply pt6 | apply pt7 | apply pt8 | apply pt9 | apply pt10 | apply pt11 | apply pt12 | apply pt13 | apply pt14 | apply pt15 | apply pt16 | apply pt17)))) (wl_ex fun x86 hx86 => ?_)
              refine wl_y rfl (y_move rfl) ?_
              refine wl_y rfl (y_extract rfl rfl) ?_
              refine wl_y rfl (y_extract rfl rfl) ?_
              refine wl_y rfl (y_assign rfl) ?_
              refine wl_y rfl (y_assign rfl) ?_
              refine wl_nil ?_
              refine wq_then ?_
              refine wc_seq ?_
              refine wc_region ?_
              refine wl_y rfl (y_move rfl) ?_
              refine wl_y rfl (y_move rfl) ?_
              refine wl_y rfl (y_neqI rfl rfl) ?_
              refine wl_y rfl (y_move rfl) ?_
              refine wl_known 92 false rfl (by simp) ?_
              refine wl_yg rfl rfl rfl (y_move rfl) ?_
              refine wl_yg rfl rfl rfl (y_move rfl) ?_
              refine wl_yg rfl rfl rfl (y_neqB Try.underlying4 rfl rfl) ?_
              refine wl_y rfl (y_pick_f rfl rfl) ?_
              refine wl_nil ?_
              refine wq_then ?_
              refine wc_known 96 false rfl (by simp) ?_
              refine wc_cond_false rfl ?_
              refine wc_skip ?_
              exact wq_cut (m, []) ⟨hm0, by simp only; omega, hQ, by simp⟩ ⟨rfl, rfl, rfl, rfl, trivial⟩ (fun w hw => hw.sub (by (repeat (first | exact pt_nil | apply pt0 | apply pt1 | apply pt2 | apply pt3 | apply pt4 | apply pt5 | apply pt6 | apply pt7 | apply pt8 | apply pt9 | apply pt10 | apply pt11 | apply pt12 | apply pt13 | apply pt14 | apply pt15 | apply pt16 | apply pt17))))
            ·
              refine wl_y rfl (y_move rfl) ?_
              refine wl_c (fun _ _ => want_none) rfl (yc_spec (fst := []) (cap := []) _ FN13 (pop_ok_i x25 age m R hne (by omega) hQ.dist) rfl rfl rfl (by simp) (by (repeat (first | exact pt_nil | apply pt0 | apply pt1 | apply pt2 | apply pt3 | apply pt4 | apply pt5 | apply pt6 | apply pt7 | apply pt8 | apply pt9 | apply pt10 | apply pt11 | apply pt12 | apply pt13 | apply pt14 | apply pt15 | apply pt16 | apply pt17)))) (wl_ex fun x81 hx81 => ?_)
              refine wl_y rfl (y_move rfl) ?_
              refine wl_y rfl (y_extract rfl rfl) ?_
              refine wl_y rfl (y_extract rfl rfl) ?_
              refine wl_y rfl (y_assign rfl) ?_
              refine wl_y rfl (y_assign rfl) ?_
              refine wl_nil ?_
              refine wq_then ?_
              refine wc_seq ?_
              refine wc_region ?_
              refine wl_y rfl (y_move rfl) ?_
              refine wl_c (fun _ _ => want_none) rfl (yc_spec (fst := []) (cap := []) _ FN14 (rpop_ok x30 age m R ⟨by omega, h2⟩ (by omega) hQ hne) rfl rfl rfl (by simp) (by (repeat (first | exact pt_nil | apply pt0 | apply pt1 | apply pt2 | apply pt3 | apply pt4 | apply pt5 | apply pt6 | apply pt7 | apply pt8 | apply pt9 | apply pt10 | apply pt11 | apply pt12 | apply pt13 | apply pt14 | apply pt15 | apply pt16 | apply pt17)))) (wl_ex fun x86 hx86 => ?_)
              obtain rfl : x86 = x81 := hx86.uniq hx81 hQ.dist
              refine wl_y rfl (y_move rfl) ?_
              refine wl_y rfl (y_extract rfl rfl) ?_
              refine wl_y rfl (y_extract rfl rfl) ?_
              refine wl_y rfl (y_assign rfl) ?_
              refine wl_y rfl (y_assign rfl) ?_
              refine wl_nil ?_
              refine wq_then ?_
              refine wc_seq ?_
              refine wc_region ?_
              refine wl_y rfl (y_move rfl) ?_
              refine wl_y rfl (y_move rfl) ?_
              refine wl_y rfl (y_neqI rfl rfl) ?_
              refine wl_y rfl (y_move rfl) ?_
              refine wl_known 92 false rfl (by simp) ?_
              refine wl_yg rfl rfl rfl (y_move rfl) ?_
              refine wl_yg rfl rfl rfl (y_move rfl) ?_
              refine wl_yg rfl rfl rfl (y_neqB Try.underlying4 rfl rfl) ?_
              refine wl_y rfl (y_pick_f rfl rfl) ?_
              refine wl_nil ?_
              refine wq_then ?_
              refine wc_known 96 false rfl (by simp) ?_
              refine wc_cond_false rfl ?_
              refine wc_skip ?_
              exact wq_cut (m, rest R x86) ⟨hm0, by simp only; omega, hQ.rest _, by have := rest_length hx86.1; simp only; omega⟩ ⟨rfl, rfl, rfl, rfl, trivial⟩ (fun w hw => hw.sub (by (repeat (first | exact pt_nil | apply pt0 | apply pt1 | apply pt2 | apply pt3 | apply pt4 | apply pt5 | apply pt6 | apply pt7 | apply pt8 | apply pt9 | apply pt10 | apply pt11 | apply pt12 | apply pt13 | apply pt14 | apply pt15 | apply pt16 | apply pt17))))
        · clear hQ hRl hm0 hm1
          rintro ⟨m, R⟩ ⟨hm0, hm1, hQ, hRl⟩; simp only at hm0 hm1 hQ hRl
          refine wc_world (S' := Hp w0 K [refA x30 age (R), qA 50 58 vI x25 age (m) (R)]) (fun w hw => hw) ?_
          refine all_wc ?_
          refine wc_seq ?_
          refine wc_region ?_
          by_cases hne : R = []
          ·
            subst hne
            refine wl_y rfl (y_move rfl) ?_
            refine wl_c (fun _ _ => want_none) rfl (yc_spec (fst := []) (cap := []) _ FN15 (peek_em_i x25 age m) rfl rfl rfl (by simp) (by (repeat (first | exact pt_nil | apply pt0 | apply pt1 | apply pt2 | apply pt3 | apply pt4 | apply pt5 | apply pt6 | apply pt7 | apply pt8 | apply pt9 | apply pt10 | apply pt11 | apply pt12 | apply pt13 | apply pt14 | apply pt15 | apply pt16 | apply pt17)))) (wl_ex fun x99 hx99 => ?_)
            refine wl_y rfl (y_move rfl) ?_
            refine wl_y rfl (y_extract rfl rfl) ?_
            refine wl_y rfl (y_extract rfl rfl) ?_
            refine wl_y rfl (y_extract rfl rfl) ?_
            refine wl_y rfl (y_extract rfl rfl) ?_
            refine wl_y rfl (y_assign rfl) ?_
            refine wl_y rfl (y_assign rfl) ?_
            refine wl_y rfl (y_assign rfl) ?_
            refine wl_y rfl (y_assign rfl) ?_
            refine wl_nil ?_
            refine wq_then ?_
            refine wc_seq ?_
            refine wc_region ?_
            refine wl_y rfl (y_move rfl) ?_
            refine wl_c (fun _ _ => want_none) rfl (yc_spec (fst := []) (cap := []) _ FN16 (rpeek_em x30 age) rfl rfl rfl (by simp) (by (repeat (first | exact pt_nil | apply pt0 | apply pt1 | apply pt2 | apply pt3 | apply pt4 | apply pt5 | apply pt6 | apply pt7 | apply pt8 | apply pt9 | apply pt10 | apply pt11 | apply pt12 | apply pt13 | apply pt14 | apply pt15 | apply pt16 | apply pt17)))) (wl_ex fun x106 hx106 => ?_)
            refine wl_y rfl (y_move rfl) ?_
            refine wl_y rfl (y_extract rfl rfl) ?_
            refine wl_y rfl (y_extract rfl rfl) ?_
            refine wl_y rfl (y_extract rfl rfl) ?_
            refine wl_y rfl (y_extract rfl rfl) ?_
            refine wl_y rfl (y_assign rfl) ?_
            refine wl_y rfl (y_assign rfl) ?_
            refine wl_y rfl (y_assign rfl) ?_
            refine wl_y rfl (y_assign rfl) ?_
            refine wl_exS exA_open (fun oc => ?_)
            refine wl_nil ?_
            refine wq_then ?_
            refine wc_seq ?_
            refine wc_quiet MO (by kernel_rfl) (Hp.drawless _ _ _) ?_
            refine wt_y rfl (y_move rfl) ?_
            refine wt_y rfl (y_move rfl) ?_
            refine wt_y rfl (y_neqI rfl rfl) ?_
            refine wt_y rfl (y_move rfl) ?_
            refine wt_known 114 false rfl (by simp) ?_
            refine wt_yg rfl rfl rfl (y_move rfl) ?_
            refine wt_yg rfl rfl rfl (y_move rfl) ?_
            refine wt_yg rfl rfl rfl (y_neqI rfl rfl) ?_
            refine wt_y rfl (y_pick_f rfl rfl) ?_
            refine wt_y rfl (y_move rfl) ?_
            refine wt_known 119 false rfl (by simp) ?_
            refine wt_yg rfl rfl rfl (y_move rfl) ?_
            refine wt_yg rfl rfl rfl (y_move rfl) ?_
            refine wt_yg rfl rfl rfl (y_neqI rfl rfl) ?_
            refine wt_y rfl (y_pick_f rfl rfl) ?_
            refine wt_y rfl (y_move rfl) ?_
            refine wt_known 124 false rfl (by simp) ?_
            refine wt_yg rfl rfl rfl (y_move rfl) ?_
            refine wt_yg rfl rfl rfl (y_move rfl) ?_
            refine wt_yg rfl rfl rfl (y_neqB Try.underlying4 rfl rfl) ?_
            refine wt_y rfl (y_pick_f rfl rfl) ?_
            refine wt_y rfl (y_move rfl) ?_
            refine wt_known 129 false rfl (by simp) ?_
            refine wt_yg rfl rfl rfl (y_move rfl) ?_
            refine wt_c (want_some rfl rfl) rfl (yq_spec (fst := []) (cap := []) _ FN17 (len_ok_i x25 age m []) rfl rfl rfl (by simp) (by (repeat (first | exact pt_nil | apply pt0 | apply pt1 | apply pt2 | apply pt3 | apply pt4 | apply pt5 | apply pt6 | apply pt7 | apply pt8 | apply pt9 | apply pt10 | apply pt11 | apply pt12 | apply pt13 | apply pt14 | apply pt15 | apply pt16 | apply pt17))) (fun _ _ => rfl) (fun _ _ _ h => h.sub (by (repeat (first | exact pt_nil | apply pt0 | apply pt1 | apply pt2 | apply pt3 | apply pt4 | apply pt5 | apply pt6 | apply pt7 | apply pt8 | apply pt9 | apply pt10 | apply pt11 | apply pt12 | apply pt13 | apply pt14 | apply pt15 | apply pt16 | apply pt17))))) ?_
            refine wt_yg rfl rfl rfl (y_move rfl) ?_
            refine wt_yg rfl rfl rfl (y_nilCheck rfl) ?_
            refine wt_yg rfl rfl rfl (y_fieldAddr F41_1 rfl) ?_
            refine wt_yg rfl rfl rfl (y_load NA39 rfl (by first | exact cell_blk [] rfl | exact cell_blk [_] rfl | exact cell_blk [_, _] rfl | exact cell_blk [_, _, _] rfl)) ?_
            refine wt_yg rfl rfl rfl (y_lenSl Try.underlying39 rfl) ?_
            refine wt_yg rfl rfl rfl (y_neqI rfl rfl) ?_
            refine wt_y rfl (y_pick_f rfl rfl) ?_
            refine wt_nil ?_
            refine wq_then ?_
            refine wc_known 138 false rfl (by simp) ?_
            refine wc_cond_false rfl ?_
            refine wc_skip ?_
            refine wq_block_normal ?_
            refine wq_then ?_
            refine wc_region ?_
            refine wl_y rfl (y_move rfl) ?_
            refine wl_y rfl (y_add rfl rfl (by omega)) ?_
            refine wl_y rfl (y_assign rfl) ?_
            refine wl_nil ?_
            exact wq_round (k + 1, m, []) (by simp only; omega) ⟨by simp only; omega, by simp only; omega, hm0, by simp only; omega, hQ, by simp⟩ ⟨rfl, rfl, rfl, rfl, trivial⟩ (fun w hw => exA_shut oc.1 trivial (hw.sub (by (repeat (first | exact pt_nil | apply pt0 | apply pt1 | apply pt2 | apply pt3 | apply pt4 | apply pt5 | apply pt6 | apply pt7 | apply pt8 | apply pt9 | apply pt10 | apply pt11 | apply pt12 | apply pt13 | apply pt14 | apply pt15 | apply pt16 | apply pt17)))))
          ·
            refine wl_y rfl (y_move rfl) ?_
            refine wl_c (fun _ _ => want_none) rfl (yc_spec (fst := []) (cap := []) _ FN15 (peek_ok_i x25 age m R hne) rfl rfl rfl (by simp) (by (repeat (first | exact pt_nil | apply pt0 | apply pt1 | apply pt2 | apply pt3 | apply pt4 | apply pt5 | apply pt6 | apply pt7 | apply pt8 | apply pt9 | apply pt10 | apply pt11 | apply pt12 | apply pt13 | apply pt14 | apply pt15 | apply pt16 | apply pt17)))) (wl_ex fun x99 hx99 => ?_)
            refine wl_y rfl (y_move rfl) ?_
            refine wl_y rfl (y_extract rfl rfl) ?_
            refine wl_y rfl (y_extract rfl rfl) ?_
            refine wl_y rfl (y_extract rfl rfl) ?_
            refine wl_y rfl (y_extract rfl rfl) ?_
            refine wl_y rfl (y_assign rfl) ?_
            refine wl_y rfl (y_assign rfl) ?_
            refine wl_y rfl (y_assign rfl) ?_
            refine wl_y rfl (y_assign rfl) ?_
            refine wl_nil ?_
            refine wq_then ?_
            refine wc_seq ?_
            refine wc_region ?_
            refine wl_y rfl (y_move rfl) ?_
            refine wl_c (fun _ _ => want_none) rfl (yc_spec (fst := []) (cap := []) _ FN16 (rpeek_ok x30 age m R ⟨by omega, h2⟩ (by omega) hQ hne) rfl rfl rfl (by simp) (by (repeat (first | exact pt_nil | apply pt0 | apply pt1 | apply pt2 | apply pt3 | apply pt4 | apply pt5 | apply pt6 | apply pt7 | apply pt8 | apply pt9 | apply pt10 | apply pt11 | apply pt12 | apply pt13 | apply pt14 | apply pt15 | apply pt16 | apply pt17)))) (wl_ex fun x106 hx106 => ?_)
            obtain rfl : x106 = x99 := hx106.uniq hx99 hQ.dist
            refine wl_y rfl (y_move rfl) ?_
            refine wl_y rfl (y_extract rfl rfl) ?_
            refine wl_y rfl (y_extract rfl rfl) ?_
            refine wl_y rfl (y_extract rfl rfl) ?_
            refine wl_y rfl (y_extract rfl rfl) ?_
            refine wl_y rfl (y_assign rfl) ?_
            refine wl_y rfl (y_assign rfl) ?_
            refine wl_y rfl (y_assign rfl) ?_
            refine wl_y rfl (y_assign rfl) ?_
            refine wl_exS exA_open (fun oc => ?_)
            refine wl_nil ?_
            refine wq_then ?_
            refine wc_seq ?_
            refine wc_quiet MO (by kernel_rfl) (Hp.drawless _ _ _) ?_
            refine wt_y rfl (y_move rfl) ?_
            refine wt_y rfl (y_move rfl) ?_
            refine wt_y rfl (y_neqI rfl rfl) ?_
            refine wt_y rfl (y_move rfl) ?_
            refine wt_known 114 false rfl (by simp) ?_
            refine wt_yg rfl rfl rfl (y_move rfl) ?_
            refine wt_yg rfl rfl rfl (y_move rfl) ?_
            refine wt_yg rfl rfl rfl (y_neqI rfl rfl) ?_
            refine wt_y rfl (y_pick_f rfl rfl) ?_
            refine wt_y rfl (y_move rfl) ?_
            refine wt_known 119 false rfl (by simp) ?_
            refine wt_yg rfl rfl rfl (y_move rfl) ?_
            refine wt_yg rfl rfl rfl (y_move rfl) ?_
            refine wt_yg rfl rfl rfl (y_neqI rfl rfl) ?_
            refine wt_y rfl (y_pick_f rfl rfl) ?_
            refine wt_y rfl (y_move rfl) ?_
            refine wt_known 124 false rfl (by simp) ?_
            refine wt_yg rfl rfl rfl (y_move rfl) ?_
            refine wt_yg rfl rfl rfl (y_move rfl) ?_
            refine wt_yg rfl rfl rfl (y_neqB Try.underlying4 rfl rfl) ?_
            refine wt_y rfl (y_pick_f rfl rfl) ?_
            refine wt_y rfl (y_move rfl) ?_
            refine wt_known 129 false rfl (by simp) ?_
            refine wt_yg rfl rfl rfl (y_move rfl) ?_
            refine wt_c (want_some rfl rfl) rfl (yq_spec (fst := []) (cap := []) _ FN17 (len_ok_i x25 age m R) rfl rfl rfl (by simp) (by (repeat (first | exact pt_nil | apply pt0 | apply pt1 | apply pt2 | apply pt3 | apply pt4 | apply pt5 | apply pt6 | apply pt7 | apply pt8 | apply pt9 | apply pt10 | apply pt11 | apply pt12 | apply pt13 | apply pt14 | apply pt15 | apply pt16 | apply pt17))) (fun _ _ => rfl) (fun _ _ _ h => h.sub (by (repeat (first | exact pt_nil | apply pt0 | apply pt1 | apply pt2 | apply pt3 | apply pt4 | apply pt5 | apply pt6 | apply pt7 | apply pt8 | apply pt9 | apply pt10 | apply pt11 | apply pt12 | apply pt13 | apply pt14 | apply pt15 | apply pt16 | apply pt17))))) ?_
            refine wt_yg rfl rfl rfl (y_move rfl) ?_
            refine wt_yg rfl rfl rfl (y_nilCheck rfl) ?_
            refine wt_yg rfl rfl rfl (y_fieldAddr F41_1 rfl) ?_
            refine wt_yg rfl rfl rfl (y_load NA39 rfl (by first | exact cell_blk [] rfl | exact cell_blk [_] rfl | exact cell_blk [_, _] rfl | exact cell_blk [_, _, _] rfl)) ?_
            refine wt_yg rfl rfl rfl (y_lenSl Try.underlying39 rfl) ?_
            refine wt_yg rfl rfl rfl (y_neqI rfl rfl) ?_
            refine wt_y rfl (y_pick_f rfl rfl) ?_
            refine wt_nil ?_
            refine wq_then ?_
            refine wc_known 138 false rfl (by simp) ?_
            refine wc_cond_false rfl ?_
            refine wc_skip ?_
            refine wq_block_normal ?_
            refine wq_then ?_
            refine wc_region ?_
            refine wl_y rfl (y_move rfl) ?_
            refine wl_y rfl (y_add rfl rfl (by omega)) ?_
            refine wl_y rfl (y_assign rfl) ?_
            refine wl_nil ?_
            exact wq_round (k + 1, m, R) (by simp only; omega) ⟨by simp only; omega, by simp only; omega, hm0, by simp only; omega, hQ, by simp only; omega⟩ ⟨rfl, rfl, rfl, rfl, trivial⟩ (fun w hw => exA_shut oc.1 trivial (hw.sub (by (repeat (first | exact pt_nil | apply pt0 | apply pt1 | apply pt2 | apply pt3 | apply pt4 | apply pt5 | apply pt6 | apply pt7 | apply pt8 | apply pt9 | apply pt10 | apply pt11 | apply pt12 | apply pt13 | apply pt14 | apply pt15 | apply pt16 | apply pt17)))))
      ·
        simp at hc53
        refine wc_exit ?_
        refine wq_then_exit (wq_then_exit (wq_block_exit ?_))
        refine wq_then ?_
        refine wc_seq ?_
        refine wc_region ?_
        refine wl_c (fun _ _ => want_none) rfl (yc_spec (fst := []) (cap := []) _ FN10 awake_spec rfl rfl rfl (by simp) (by (repeat (first | exact pt_nil | apply pt0 | apply pt1 | apply pt2 | apply pt3 | apply pt4 | apply pt5 | apply pt6 | apply pt7 | apply pt8 | apply pt9 | apply pt10 | apply pt11 | apply pt12 | apply pt13 | apply pt14 | apply pt15 | apply pt16 | apply pt17)))) (wl_ex fun x139 hx139 => ?_)
        refine wl_y rfl (y_assign rfl) ?_
        refine wl_nil ?_
        refine wq_then ?_
        refine wc_ret ?_
        refine wq_ret1 rfl rfl (fun w hw => ?_)
        exact ⟨(), trivial, rfl, hw.bare⟩
    ·
      simp at hg50
      refine wl_sk rfl rfl rfl rfl ?_
      refine wl_sk rfl rfl rfl rfl ?_
      refine wl_y rfl (y_pick_f rfl rfl) ?_
      refine wl_nil ?_
      refine wq_then ?_
      refine wc_cond_false rfl ?_
      refine wc_exit ?_
      refine wq_then_exit (wq_then_exit (wq_block_exit ?_))
      refine wq_then ?_
      refine wc_seq ?_
      refine wc_region ?_
      refine wl_c (fun _ _ => want_none) rfl (yc_spec (fst := []) (cap := []) _ FN10 awake_spec rfl rfl rfl (by simp) (by (repeat (first | exact pt_nil | apply pt0 | apply pt1 | apply pt2 | apply pt3 | apply pt4 | apply pt5 | apply pt6 | apply pt7 | apply pt8 | apply pt9 | apply pt10 | apply pt11 | apply pt12 | apply pt13 | apply pt14 | apply pt15 | apply pt16 | apply pt17)))) (wl_ex fun x139 hx139 => ?_)
      refine wl_y rfl (y_assign rfl) ?_
      refine wl_nil ?_
      refine wq_then ?_
      refine wc_ret ?_
      refine wq_ret1 rfl rfl (fun w hw => ?_)
      exact ⟨(), trivial, rfl, hw.bare⟩

theorem plays_all (w : Int) (oo : Option Addr) (cc : Nat) (ops : List (Bool × Int × Int)) : Ctr Try.prog 3 #[vI w, .slice oo ops.length cc] [rsl oo ops.length 3 (ops.flatMap encOp)] [] (fun _ : Unit => True) (fun _ => .bool true) (fun _ => []) := by
  rcases Int.lt_or_le w 1 with h | h
  · exact plays_lo w h oo cc ops
  rcases Int.lt_or_le 1000000 w with h' | h'
  · exact plays_hi w h' oo cc ops
  exact plays_ok w (by omega) h' oo cc ops
end Go.Proofs.Ytblhphnnnihkmaa
