/-
  Walks: law QueueFair.
-/
import Derived.Test.YtblhphnnnihkmaaWalkF
import Derived.Test.YtblhphnnnihkmaaOnceLaw
namespace Go.Proofs.Ytblhphnnnihkmaa
open Go.Eng

set_option maxHeartbeats 1000000 in
theorem fair_lo (w : Int) (hw : w < 1) (oo : Option Addr) (cc : Nat) (ops : List (Bool × Int × Int)) :
    Ctr Try.prog 5 #[vI w, .slice oo ops.length cc] [rsl oo ops.length 3 (ops.flatMap encOp)] [] (fun _ : Unit => True) (fun _ => .bool true) (fun _ => []) := by
  refine spec_start (n := 108) [(0, vI w), (1, .slice oo ops.length cc)] Try.func5 rfl rfl ⟨rfl, rfl, trivial⟩ rfl ?_
  intro w0 K hR
  refine wc_seq ?_
  refine wc_region ?_
  refine wl_y rfl (y_assign rfl) ?_
  refine wl_nil ?_
  refine wq_then ?_
  refine wc_seq ?_
  refine wc_seq ?_
  refine wc_region ?_
  refine wl_y rfl (y_move rfl) ?_
  refine wl_y rfl (y_lss rfl rfl) ?_
  refine wl_y rfl (y_move rfl) ?_
  refine wl_known 19 true rfl (by simp; omega) ?_
  refine wl_sk rfl rfl rfl rfl ?_
  refine wl_sk rfl rfl rfl rfl ?_
  refine wl_y rfl (y_pick_t rfl rfl) ?_
  refine wl_nil ?_
  refine wq_then ?_
  refine wc_cond_true rfl ?_
  refine wc_seq ?_
  refine wc_region ?_
  refine wl_c (fun _ _ => want_none) rfl (yc_spec (fst := []) (cap := []) _ FN10 awake_spec rfl rfl rfl (by simp) (by (repeat (first | exact pt_nil | apply pt0 | apply pt1 | apply pt2 | apply pt3 | apply pt4 | apply pt5 | apply pt6 | apply pt7 | apply pt8 | apply pt9 | apply pt10 | apply pt11 | apply pt12 | apply pt13 | apply pt14 | apply pt15 | apply pt16 | apply pt17)))) (wl_ex fun x23 hx23 => ?_)
  refine wl_y rfl (y_assign rfl) ?_
  refine wl_nil ?_
  refine wq_then ?_
  refine wc_ret ?_
  refine wq_then_ret ?_
  refine wq_ret1 rfl rfl (fun w hw => ?_)
  exact ⟨(), trivial, rfl, hw.bare⟩

set_option maxHeartbeats 1000000 in
theorem fair_hi (w : Int) (hw : 1000 < w) (oo : Option Addr) (cc : Nat) (ops : List (Bool × Int × Int)) :
    Ctr Try.prog 5 #[vI w, .slice oo ops.length cc] [rsl oo ops.length 3 (ops.flatMap encOp)] [] (fun _ : Unit => True) (fun _ => .bool true) (fun _ => []) := by
  refine spec_start (n := 108) [(0, vI w), (1, .slice oo ops.length cc)] Try.func5 rfl rfl ⟨rfl, rfl, trivial⟩ rfl ?_
  intro w0 K hR
  refine wc_seq ?_
  refine wc_region ?_
  refine wl_y rfl (y_assign rfl) ?_
  refine wl_nil ?_
  refine wq_then ?_
  refine wc_seq ?_
  refine wc_seq ?_
  refine wc_region ?_
  refine wl_y rfl (y_move rfl) ?_
  refine wl_y rfl (y_lss rfl rfl) ?_
  refine wl_y rfl (y_move rfl) ?_
  refine wl_known 19 false rfl (by simp; omega) ?_
  refine wl_yg rfl rfl rfl (y_move rfl) ?_
  refine wl_yg rfl rfl rfl (y_gtr rfl rfl) ?_
  refine wl_y rfl (y_pick_f rfl rfl) ?_
  refine wl_nil ?_
  refine wq_then ?_
  refine wc_known 22 true rfl (by simp; omega) ?_
  refine wc_cond_true rfl ?_
  refine wc_seq ?_
  refine wc_region ?_
  refine wl_c (fun _ _ => want_none) rfl (yc_spec (fst := []) (cap := []) _ FN10 awake_spec rfl rfl rfl (by simp) (by (repeat (first | exact pt_nil | apply pt0 | apply pt1 | apply pt2 | apply pt3 | apply pt4 | apply pt5 | apply pt6 | apply pt7 | apply pt8 | apply pt9 | apply pt10 | apply pt11 | apply pt12 | apply pt13 | apply pt14 | apply pt15 | apply pt16 | apply pt17)))) (wl_ex fun x23 hx23 => ?_)
  refine wl_y rfl (y_assign rfl) ?_
  refine wl_nil ?_
  refine wq_then ?_
  refine wc_ret ?_
  refine wq_then_ret ?_
  refine wq_ret1 rfl rfl (fun w hw => ?_)
  exact ⟨(), trivial, rfl, hw.bare⟩

set_option maxHeartbeats 1000000 in
theorem fair_ok (age : Int) (h1 : 1 ≤ age) (h2 : age ≤ 1000) (oo : Option Addr) (cc : Nat) (ops : List (Bool × Int × Int)) :
    Ctr Try.prog 5 #[vI age, .slice oo ops.length cc] [rsl oo ops.length 3 (ops.flatMap encOp)] [] (fun _ : Unit => True) (fun _ => .bool true) (fun _ => []) := by
  refine spec_start (n := 108) [(0, vI age), (1, .slice oo ops.length cc)] Try.func5 rfl rfl ⟨rfl, rfl, trivial⟩ rfl ?_
  intro w0 K hR
  have hA := hR _ (List.mem_cons_self ..)
  refine wc_seq ?_
  refine wc_region ?_
  refine wl_y rfl (y_assign rfl) ?_
  refine wl_nil ?_
  refine wq_then ?_
  refine wc_seq ?_
  refine wc_seq ?_
  refine wc_region ?_
  refine wl_y rfl (y_move rfl) ?_
  refine wl_y rfl (y_lss rfl rfl) ?_
  refine wl_y rfl (y_move rfl) ?_
  refine wl_known 19 false rfl (by simp; omega) ?_
  refine wl_yg rfl rfl rfl (y_move rfl) ?_
  refine wl_yg rfl rfl rfl (y_gtr rfl rfl) ?_
  refine wl_y rfl (y_pick_f rfl rfl) ?_
  refine wl_nil ?_
  refine wq_then ?_
  refine wc_known 22 false rfl (by simp; omega) ?_
  refine wc_cond_false rfl ?_
  refine wc_skip ?_
  refine wq_then ?_
  refine wc_seq ?_
  refine wc_region ?_
  refine wl_y rfl (y_move rfl) ?_
  refine wl_c (fun _ _ => want_none) rfl (yc_spec (fst := []) (cap := []) _ FN8 (new_i_ok age h1 (by omega)) rfl rfl rfl (by simp) (by (repeat (first | exact pt_nil | apply pt0 | apply pt1 | apply pt2 | apply pt3 | apply pt4 | apply pt5 | apply pt6 | apply pt7 | apply pt8 | apply pt9 | apply pt10 | apply pt11 | apply pt12 | apply pt13 | apply pt14 | apply pt15 | apply pt16 | apply pt17)))) (wl_ex fun x26 hx26 => ?_)
  refine wl_y rfl (y_move rfl) ?_
  refine wl_y rfl (y_extract rfl rfl) ?_
  refine wl_y rfl (y_extract rfl rfl) ?_
  refine wl_y rfl (y_assign rfl) ?_
  refine wl_y rfl (y_assign rfl) ?_
  refine wl_nil ?_
  refine wq_then ?_
  refine wc_seq ?_
  refine wc_seq ?_
  refine wc_region ?_
  refine wl_y rfl (y_move rfl) ?_
  refine wl_y rfl (y_neqI rfl rfl) ?_
  refine wl_y rfl (y_move rfl) ?_
  refine wl_known 31 false rfl (rfl) ?_
  refine wl_yg rfl rfl rfl (y_move rfl) ?_
  refine wl_yg rfl rfl rfl (y_eqlP Try.underlying23 rfl rfl) ?_
  refine wl_y rfl (y_pick_f rfl rfl) ?_
  refine wl_nil ?_
  refine wq_then ?_
  refine wc_known 34 false rfl (rfl) ?_
  refine wc_cond_false rfl ?_
  refine wc_skip ?_
  refine wq_then ?_
  refine wc_seq ?_
  refine wc_region ?_
  refine wl_y rfl (y_assign rfl) ?_
  refine wl_nil ?_
  refine wq_then ?_
  refine wc_seq ?_
  refine wc_region ?_
  refine wl_w (fun _ _ => want_none) rfl (yw_makeMap (ek := vI) (ev := vI)) (wl_ex fun b35 _ => ?_)
  refine wl_y rfl (y_assign rfl) ?_
  refine wl_nil ?_
  refine wq_then ?_
  refine wc_seq ?_
  refine wc_seq ?_
  refine wc_region ?_
  refine wl_y rfl (y_assign rfl) ?_
  refine wl_nil ?_
  refine wq_then ?_
  refine wc_block ?_
  refine wc_loop (α := Nat × Int × Int × List (It Int) × List (Int × Int)) (fun y => y.1 ≤ ops.length ∧ y.1 ≤ 300 ∧ 0 ≤ y.2.1 ∧ y.2.1 ≤ y.1 ∧ (0 ≤ y.2.2.1 ∧ y.2.2.1 ≤ 10000 * y.1) ∧ y.2.2.2.1.length ≤ y.1 ∧ QO age y.2.1 y.1 y.2.2.2.1 ∧ WhenM y.2.2.2.2 y.2.2.2.1) [(0, _), (1, _), (5, _), (8, _)] (fun y => [(9, vI y.1), (7, vI y.2.2.1)]) (fun y => Hp w0 K [qA 50 58 vI x26 age (y.2.1) (y.2.2.2.1), mapA vI vI b35 (y.2.2.2.2)]) (fun y => ops.length - y.1) (0, 0, 0, [], []) ?_ ⟨rfl, rfl, rfl, rfl, rfl, rfl, trivial⟩ ?_ ?_
  · exact ⟨Nat.zero_le _, Nat.zero_le _, by decide, by decide, by decide, by simp, ⟨⟨by simp, List.Pairwise.nil⟩, by simp, by simp⟩, fun i t => by simp [mget]⟩
  · exact fun w hw => hw.sub (by (repeat (first | exact pt_nil | apply pt0 | apply pt1 | apply pt2 | apply pt3 | apply pt4 | apply pt5 | apply pt6 | apply pt7 | apply pt8 | apply pt9 | apply pt10 | apply pt11 | apply pt12 | apply pt13 | apply pt14 | apply pt15 | apply pt16 | apply pt17)))
  · rintro ⟨k, m, tm, R, M⟩ ⟨hk, hk2, hm0, hm1, ht, hRl, hQ, hI⟩; simp only at hk hk2 hm0 hm1 ht hRl hQ hI
    refine wc_world (S' := Hp w0 K [qA 50 58 vI x26 age (m) (R), mapA vI vI b35 (M)]) (fun w hw => hw) ?_
    refine wc_same 7 (vI tm) rfl rfl ?_
    refine wc_seq ?_
    refine wc_seq ?_
    refine wc_region ?_
    refine wl_y rfl (y_move rfl) ?_
    refine wl_y rfl (y_move rfl) ?_
    refine wl_y rfl (y_lenSl Try.underlying22 rfl) ?_
    refine wl_y rfl (y_lss rfl rfl) ?_
    refine wl_y rfl (y_move rfl) ?_
    refine wl_case 40 rfl (fun hg40 => ?_) (fun hg40 => ?_)
    ·
      simp at hg40
      refine wl_yg rfl rfl rfl (y_move rfl) ?_
      refine wl_yg rfl rfl rfl (y_lss rfl rfl) ?_
      refine wl_y rfl (y_pick_t rfl rfl) ?_
      refine wl_nil ?_
      refine wq_then ?_
      refine wc_cond rfl (fun hc43 => ?_) (fun hc43 => ?_)
      ·
        simp at hc43
        refine wc_skip ?_
        refine wq_then ?_
        refine wc_seq ?_
        refine wc_block ?_
        refine wc_seq ?_
        refine wc_region ?_
        obtain ⟨x, hx⟩ : ∃ x, ops[k]? = some x := ⟨_, List.getElem?_eq_getElem (by omega)⟩
        ·
          refine wl_y rfl (y_move rfl) ?_
          refine wl_y rfl (y_move rfl) ?_
          refine wl_y rfl (y_indexAddr Try.underlying22 T32 rfl rfl rfl (by omega) (fun _ _ => hA.isSome (by omega))) ?_
          refine wl_y rfl (y_loadAgg (l := encOp x) AG32 rfl rfl (agg_ro hA (fun i u h => rows_get encOp_len hx h))) ?_
          refine wl_w (fun _ _ => want_none) rfl (yw_alloc T32 rfl) (wl_ex fun b10 _ => ?_)
          first | refine wl_u (yu_storeAgg [] (l' := [_, _, _]) T32 rfl rfl rfl (by simp [Value.oneCell', encOp]) rfl rfl) ?_ | refine wl_u (yu_storeAgg [_] (l' := [_, _, _]) T32 rfl rfl rfl (by simp [Value.oneCell', encOp]) rfl rfl) ?_ | refine wl_u (yu_storeAgg [_, _] (l' := [_, _, _]) T32 rfl rfl rfl (by simp [Value.oneCell', encOp]) rfl rfl) ?_ | refine wl_u (yu_storeAgg [_, _, _] (l' := [_, _, _]) T32 rfl rfl rfl (by simp [Value.oneCell', encOp]) rfl rfl) ?_
          refine wl_nil ?_
          refine wq_then ?_
          refine wc_seq ?_
          refine wc_seq ?_
          refine wc_region ?_
          refine wl_y rfl (y_fieldAddr F32_2 rfl) ?_
          refine wl_y rfl (y_load NA3 rfl (by first | exact cell_blk [] rfl | exact cell_blk [_] rfl | exact cell_blk [_, _] rfl | exact cell_blk [_, _, _] rfl)) ?_
          refine wl_y rfl (y_lss rfl rfl) ?_
          refine wl_y rfl (y_move rfl) ?_
          refine wl_case 53 rfl (fun hg53 => ?_) (fun hg53 => ?_)
          ·
            simp at hg53
            refine wl_sk rfl rfl rfl rfl ?_
            refine wl_sk rfl rfl rfl rfl ?_
            refine wl_sk rfl rfl rfl rfl ?_
            refine wl_y rfl (y_pick_t rfl rfl) ?_
            refine wl_nil ?_
            refine wq_then ?_
            refine wc_cond_true rfl ?_
            refine wc_seq ?_
            refine wc_region ?_
            refine wl_c (fun _ _ => want_none) rfl (yc_spec (fst := []) (cap := []) _ FN10 awake_spec rfl rfl rfl (by simp) (by (repeat (first | exact pt_nil | apply pt0 | apply pt1 | apply pt2 | apply pt3 | apply pt4 | apply pt5 | apply pt6 | apply pt7 | apply pt8 | apply pt9 | apply pt10 | apply pt11 | apply pt12 | apply pt13 | apply pt14 | apply pt15 | apply pt16 | apply pt17)))) (wl_ex fun x58 hx58 => ?_)
            refine wl_y rfl (y_assign rfl) ?_
            refine wl_nil ?_
            refine wq_then ?_
            refine wc_ret ?_
            refine wq_then_ret (wq_block_ret (wq_then_ret (wq_then_ret (wq_block_ret (wq_then_ret ?_)))))
            refine wq_ret1 rfl rfl (fun w hw => ?_)
            exact ⟨(), trivial, rfl, hw.bare⟩
          ·
            simp at hg53
            refine wl_yg rfl rfl rfl (y_fieldAddr F32_2 rfl) ?_
            refine wl_yg rfl rfl rfl (y_load NA3 rfl (by first | exact cell_blk [] rfl | exact cell_blk [_] rfl | exact cell_blk [_, _] rfl | exact cell_blk [_, _, _] rfl)) ?_
            refine wl_yg rfl rfl rfl (y_gtr rfl rfl) ?_
            refine wl_y rfl (y_pick_f rfl rfl) ?_
            refine wl_nil ?_
            refine wq_then ?_
            refine wc_cond rfl (fun hc57 => ?_) (fun hc57 => ?_)
            ·
              simp at hc57
              refine wc_seq ?_
              refine wc_region ?_
              refine wl_c (fun _ _ => want_none) rfl (yc_spec (fst := []) (cap := []) _ FN10 awake_spec rfl rfl rfl (by simp) (by (repeat (first | exact pt_nil | apply pt0 | apply pt1 | apply pt2 | apply pt3 | apply pt4 | apply pt5 | apply pt6 | apply pt7 | apply pt8 | apply pt9 | apply pt10 | apply pt11 | apply pt12 | apply pt13 | apply pt14 | apply pt15 | apply pt16 | apply pt17)))) (wl_ex fun x58 hx58 => ?_)
              refine wl_y rfl (y_assign rfl) ?_
              refine wl_nil ?_
              refine wq_then ?_
              refine wc_ret ?_
              refine wq_then_ret (wq_block_ret (wq_then_ret (wq_then_ret (wq_block_ret (wq_then_ret ?_)))))
              refine wq_ret1 rfl rfl (fun w hw => ?_)
              exact ⟨(), trivial, rfl, hw.bare⟩
            ·
              simp at hc57
              refine wc_skip ?_
              refine wq_then ?_
              refine wc_seq ?_
              refine wc_region ?_
              refine wl_y rfl (y_move rfl) ?_
              refine wl_y rfl (y_fieldAddr F32_2 rfl) ?_
              refine wl_y rfl (y_load NA3 rfl (by first | exact cell_blk [] rfl | exact cell_blk [_] rfl | exact cell_blk [_, _] rfl | exact cell_blk [_, _, _] rfl)) ?_
              refine wl_y rfl (y_add rfl rfl (by omega)) ?_
              refine wl_y rfl (y_assign rfl) ?_
              refine wl_nil ?_
              refine wq_then ?_
              refine wc_seq ?_
              refine wc_seq ?_
              refine wc_region ?_
              refine wl_y rfl (y_fieldAddr F32_0 rfl) ?_
              refine wl_y rfl (y_load NA4 rfl (by first | exact cell_blk [] rfl | exact cell_blk [_] rfl | exact cell_blk [_, _] rfl | exact cell_blk [_, _, _] rfl)) ?_
              refine wl_nil ?_
              refine wq_then ?_
              refine wc_cond rfl (fun hc64 => ?_) (fun hc64 => ?_)
              ·
                refine wc_seq ?_
                refine wc_seq ?_
                refine wc_region ?_
                by_cases hv : 0 ≤ x.2.1 ∧ x.2.1 ≤ 9
                ·
                  refine wl_y rfl (y_move rfl) ?_
                  refine wl_y rfl (y_move rfl) ?_
                  refine wl_y rfl (y_fieldAddr F32_1 rfl) ?_
                  refine wl_y rfl (y_load NA3 rfl (by first | exact cell_blk [] rfl | exact cell_blk [_] rfl | exact cell_blk [_, _] rfl | exact cell_blk [_, _, _] rfl)) ?_
                  refine wl_y rfl (y_move rfl) ?_
                  refine wl_c (fun _ _ => want_none) rfl (yc_spec (fst := []) (cap := []) _ FN11 (push_ok_i x26 age m R k x.2.1 (tm + x.2.2) ⟨by omega, by omega⟩ (by omega) hv ⟨by omega, by omega⟩ (by omega)) rfl rfl rfl (by simp) (by (repeat (first | exact pt_nil | apply pt0 | apply pt1 | apply pt2 | apply pt3 | apply pt4 | apply pt5 | apply pt6 | apply pt7 | apply pt8 | apply pt9 | apply pt10 | apply pt11 | apply pt12 | apply pt13 | apply pt14 | apply pt15 | apply pt16 | apply pt17)))) (wl_ex fun x70 hx70 => ?_)
                  refine wl_y rfl (y_eqlI rfl rfl) ?_
                  refine wl_nil ?_
                  refine wq_then ?_
                  refine wc_known 71 true rfl (rfl) ?_
                  refine wc_cond_true rfl ?_
                  refine wc_region ?_
                  refine wl_y rfl (y_move rfl) ?_
                  refine wl_y rfl (y_move rfl) ?_
                  refine wl_y rfl (y_move rfl) ?_
                  first | refine wl_u (yu_mapUpdate [] Try.underlying44 (keyE_int Try.underlying3) rfl rfl rfl) ?_ | refine wl_u (yu_mapUpdate [_] Try.underlying44 (keyE_int Try.underlying3) rfl rfl rfl) ?_ | refine wl_u (yu_mapUpdate [_, _] Try.underlying44 (keyE_int Try.underlying3) rfl rfl rfl) ?_ | refine wl_u (yu_mapUpdate [_, _, _] Try.underlying44 (keyE_int Try.underlying3) rfl rfl rfl) ?_
                  refine wl_nil ?_
                  refine wq_then ?_
                  refine wc_exit ?_
                  refine wq_then_exit (wq_block_exit ?_)
                  refine wq_then ?_
                  refine wc_region ?_
                  refine wl_y rfl (y_move rfl) ?_
                  refine wl_y rfl (y_add rfl rfl (by omega)) ?_
                  refine wl_y rfl (y_assign rfl) ?_
                  refine wl_nil ?_
                  exact wq_round (k + 1, m + 1, tm + x.2.2, R ++ [(⟨k, x.2.1, tm + x.2.2, tm + x.2.2 + age * x.2.1, m + 1⟩ : It Int)], mput M k (tm + x.2.2)) (by simp only; omega) ⟨by simp only; omega, by simp only; omega, by simp only; omega, by simp only; omega, by simp only; omega, by first | (simp only; omega) | (simp; omega), hQ.push hv ⟨by omega, by omega⟩, hI.push (⟨k, x.2.1, tm + x.2.2, tm + x.2.2 + age * x.2.1, m + 1⟩ : It Int) (fun y hy => by have := hQ.low y hy; simp only; omega)⟩ ⟨rfl, rfl, rfl, rfl, rfl, rfl, trivial⟩ (fun w hw => hw.sub (by (repeat (first | exact pt_nil | apply pt0 | apply pt1 | apply pt2 | apply pt3 | apply pt4 | apply pt5 | apply pt6 | apply pt7 | apply pt8 | apply pt9 | apply pt10 | apply pt11 | apply pt12 | apply pt13 | apply pt14 | apply pt15 | apply pt16 | apply pt17))))
                ·
                  refine wl_y rfl (y_move rfl) ?_
                  refine wl_y rfl (y_move rfl) ?_
                  refine wl_y rfl (y_fieldAddr F32_1 rfl) ?_
                  refine wl_y rfl (y_load NA3 rfl (by first | exact cell_blk [] rfl | exact cell_blk [_] rfl | exact cell_blk [_, _] rfl | exact cell_blk [_, _, _] rfl)) ?_
                  refine wl_y rfl (y_move rfl) ?_
                  refine wl_c (fun _ _ => want_none) rfl (yc_spec (fst := []) (cap := []) _ FN11 (push_no_i x26 age m R k x.2.1 (tm + x.2.2) (by omega)) rfl rfl rfl (by simp) (by (repeat (first | exact pt_nil | apply pt0 | apply pt1 | apply pt2 | apply pt3 | apply pt4 | apply pt5 | apply pt6 | apply pt7 | apply pt8 | apply pt9 | apply pt10 | apply pt11 | apply pt12 | apply pt13 | apply pt14 | apply pt15 | apply pt16 | apply pt17)))) (wl_ex fun x70 hx70 => ?_)
                  refine wl_y rfl (y_eqlI rfl rfl) ?_
                  refine wl_nil ?_
                  refine wq_then ?_
                  refine wc_known 71 false rfl (rfl) ?_
                  refine wc_cond_false rfl ?_
                  refine wc_skip ?_
                  refine wq_then ?_
                  refine wc_exit ?_
                  refine wq_then_exit (wq_block_exit ?_)
                  refine wq_then ?_
                  refine wc_region ?_
                  refine wl_y rfl (y_move rfl) ?_
                  refine wl_y rfl (y_add rfl rfl (by omega)) ?_
                  refine wl_y rfl (y_assign rfl) ?_
                  refine wl_nil ?_
                  exact wq_round (k + 1, m, tm + x.2.2, R, M) (by simp only; omega) ⟨by simp only; omega, by simp only; omega, by simp only; omega, by simp only; omega, by simp only; omega, by first | (simp only; omega) | (simp; omega), hQ.more, hI⟩ ⟨rfl, rfl, rfl, rfl, rfl, rfl, trivial⟩ (fun w hw => hw.sub (by (repeat (first | exact pt_nil | apply pt0 | apply pt1 | apply pt2 | apply pt3 | apply pt4 | apply pt5 | apply pt6 | apply pt7 | apply pt8 | apply pt9 | apply pt10 | apply pt11 | apply pt12 | apply pt13 | apply pt14 | apply pt15 | apply pt16 | apply pt17))))
              ·
                refine wc_skip ?_
                refine wq_then ?_
                refine wc_seq ?_
                refine wc_region ?_
                by_cases hne : R = []
                ·
                  subst hne
                  obtain rfl := hI.nil
                  refine wl_y rfl (y_move rfl) ?_
                  refine wl_c (fun _ _ => want_none) rfl (yc_spec (fst := []) (cap := []) _ FN13 (pop_em_i x26 age m) rfl rfl rfl (by simp) (by (repeat (first | exact pt_nil | apply pt0 | apply pt1 | apply pt2 | apply pt3 | apply pt4 | apply pt5 | apply pt6 | apply pt7 | apply pt8 | apply pt9 | apply pt10 | apply pt11 | apply pt12 | apply pt13 | apply pt14 | apply pt15 | apply pt16 | apply pt17)))) (wl_ex fun x77 hx77 => ?_)
                  refine wl_y rfl (y_move rfl) ?_
                  refine wl_y rfl (y_extract rfl rfl) ?_
                  refine wl_y rfl (y_extract rfl rfl) ?_
                  refine wl_y rfl (y_assign rfl) ?_
                  refine wl_y rfl (y_assign rfl) ?_
                  refine wl_nil ?_
                  refine wq_then ?_
                  refine wc_seq ?_
                  refine wc_seq ?_
                  refine wc_region ?_
                  refine wl_y rfl (y_move rfl) ?_
                  refine wl_y rfl (y_not rfl) ?_
                  refine wl_nil ?_
                  refine wq_then ?_
                  refine wc_known 81 true rfl (rfl) ?_
                  refine wc_cond_true rfl ?_
                  refine wc_seq ?_
                  refine wc_seq ?_
                  refine wc_region ?_
                  refine wl_y rfl (y_move rfl) ?_
                  refine wl_y rfl (y_lenMap Try.underlying44 rfl (by first | exact fun w hw => hw.seen [] | exact fun w hw => hw.seen [_] | exact fun w hw => hw.seen [_, _] | exact fun w hw => hw.seen [_, _, _] | exact fun w hw => Seen.rngMap (hw.seen []) | exact fun w hw => Seen.rngMap (hw.seen [_]) | exact fun w hw => Seen.rngMap (hw.seen [_, _]) | exact fun w hw => Seen.rngMap (hw.seen [_, _, _]))) ?_
                  refine wl_y rfl (y_gtr rfl rfl) ?_
                  refine wl_nil ?_
                  refine wq_then ?_
                  refine wc_known 84 false rfl (rfl) ?_
                  refine wc_cond_false rfl ?_
                  refine wc_skip ?_
                  refine wq_then ?_
                  refine wc_exit ?_
                  refine wq_then_exit (wq_block_exit ?_)
                  refine wq_then ?_
                  refine wc_region ?_
                  refine wl_y rfl (y_move rfl) ?_
                  refine wl_y rfl (y_add rfl rfl (by omega)) ?_
                  refine wl_y rfl (y_assign rfl) ?_
                  refine wl_nil ?_
                  exact wq_round (k + 1, m, tm + x.2.2, [], []) (by simp only; omega) ⟨by simp only; omega, by simp only; omega, by simp only; omega, by simp only; omega, by simp only; omega, by first | (simp only; omega) | (simp; omega), hQ.more, hI⟩ ⟨rfl, rfl, rfl, rfl, rfl, rfl, trivial⟩ (fun w hw => hw.sub (by (repeat (first | exact pt_nil | apply pt0 | apply pt1 | apply pt2 | apply pt3 | apply pt4 | apply pt5 | apply pt6 | apply pt7 | apply pt8 | apply pt9 | apply pt10 | apply pt11 | apply pt12 | apply pt13 | apply pt14 | apply pt15 | apply pt16 | apply pt17))))
                ·
                  refine wl_y rfl (y_move rfl) ?_
                  refine wl_c (fun _ _ => want_none) rfl (yc_spec (fst := []) (cap := []) _ FN13 (pop_ok_i x26 age m R hne (by omega) hQ.ok.dist) rfl rfl rfl (by simp) (by (repeat (first | exact pt_nil | apply pt0 | apply pt1 | apply pt2 | apply pt3 | apply pt4 | apply pt5 | apply pt6 | apply pt7 | apply pt8 | apply pt9 | apply pt10 | apply pt11 | apply pt12 | apply pt13 | apply pt14 | apply pt15 | apply pt16 | apply pt17)))) (wl_ex fun x77 hx77 => ?_)
                  obtain ⟨q1, q2, q3, q4, q5, q6⟩ := hQ.ok.all _ hx77.1
                  have hlen := rest_len1 hx77.1 hQ.ok.dist
                  have hin := (hI x77.v x77.tm).2 ⟨x77, hx77.1, rfl, rfl⟩
                  refine wl_have (p := Keyed1 M) (fun w hw => Hp.keyed [_, _] hw) (fun hKM => ?_)
                  refine wl_y rfl (y_move rfl) ?_
                  refine wl_y rfl (y_extract rfl rfl) ?_
                  refine wl_y rfl (y_extract rfl rfl) ?_
                  refine wl_y rfl (y_assign rfl) ?_
                  refine wl_y rfl (y_assign rfl) ?_
                  refine wl_nil ?_
                  refine wq_then ?_
                  refine wc_seq ?_
                  refine wc_seq ?_
                  refine wc_region ?_
                  refine wl_y rfl (y_move rfl) ?_
                  refine wl_y rfl (y_not rfl) ?_
                  refine wl_nil ?_
                  refine wq_then ?_
                  refine wc_known 81 false rfl (rfl) ?_
                  refine wc_cond_false rfl ?_
                  refine wc_skip ?_
                  refine wq_then ?_
                  refine wc_seq ?_
                  refine wc_region ?_
                  refine wl_y rfl (y_move rfl) ?_
                  refine wl_y rfl (y_move rfl) ?_
                  refine wl_y rfl (y_lookup Try.underlying44 (keyE_int Try.underlying3) T3 rfl rfl (by first | exact fun w hw => hw.seen [] | exact fun w hw => hw.seen [_] | exact fun w hw => hw.seen [_, _] | exact fun w hw => hw.seen [_, _, _] | exact fun w hw => Seen.rngMap (hw.seen []) | exact fun w hw => Seen.rngMap (hw.seen [_]) | exact fun w hw => Seen.rngMap (hw.seen [_, _]) | exact fun w hw => Seen.rngMap (hw.seen [_, _, _]))) ?_
                  refine wl_same 88 (.tuple #[vI x77.tm, .bool true]) rfl (by rw [hin]; rfl) ?_
                  refine wl_y rfl (y_move rfl) ?_
                  refine wl_y rfl (y_extract rfl rfl) ?_
                  refine wl_y rfl (y_extract rfl rfl) ?_
                  refine wl_y rfl (y_assign rfl) ?_
                  refine wl_y rfl (y_assign rfl) ?_
                  refine wl_nil ?_
                  refine wq_then ?_
                  refine wc_seq ?_
                  refine wc_seq ?_
                  refine wc_region ?_
                  refine wl_y rfl (y_move rfl) ?_
                  refine wl_y rfl (y_not rfl) ?_
                  refine wl_nil ?_
                  refine wq_then ?_
                  refine wc_known 92 false rfl (rfl) ?_
                  refine wc_cond_false rfl ?_
                  refine wc_skip ?_
                  refine wq_then ?_
                  refine wc_seq ?_
                  refine wc_region ?_
                  refine wl_y rfl (y_move rfl) ?_
                  refine wl_y rfl (y_move rfl) ?_
                  first | refine yu_delete [] Try.underlying44 (keyE_int Try.underlying3) rfl rfl ?_ | refine yu_delete [_] Try.underlying44 (keyE_int Try.underlying3) rfl rfl ?_ | refine yu_delete [_, _] Try.underlying44 (keyE_int Try.underlying3) rfl rfl ?_ | refine yu_delete [_, _, _] Try.underlying44 (keyE_int Try.underlying3) rfl rfl ?_
                  refine wl_nil ?_
                  refine wq_then ?_
                  refine wc_seq ?_
                  refine wc_region ?_
                  refine wl_y rfl (y_move rfl) ?_
                  first | refine wl_w (fun _ _ => want_none) rfl (yw_range [] Try.underlying44 rfl) (wl_ex fun b96 _ => ?_) | refine wl_w (fun _ _ => want_none) rfl (yw_range [_] Try.underlying44 rfl) (wl_ex fun b96 _ => ?_) | refine wl_w (fun _ _ => want_none) rfl (yw_range [_, _] Try.underlying44 rfl) (wl_ex fun b96 _ => ?_) | refine wl_w (fun _ _ => want_none) rfl (yw_range [_, _, _] Try.underlying44 rfl) (wl_ex fun b96 _ => ?_)
                  refine wl_nil ?_
                  refine wq_then ?_
                  refine wc_block ?_
                  refine wc_loop (α := List Int) (fun dn => True) [(0, _), (1, _), (5, _), (7, _), (8, _), (9, _), (13, _), (96, _)] (fun dn => []) (fun dn => Hp w0 K [rngA vI vI b35 b96 (mdel M x77.v) (dn), qA 50 58 vI x26 age m (rest R x77), blk b10 (.cells [.bool x.1, vI x.2.1, vI x.2.2].toArray 32 (0, 0))]) (fun dn => leftM (mdel M x77.v) dn) [] ?_ ⟨rfl, rfl, rfl, rfl, rfl, rfl, rfl, rfl, trivial⟩ ?_ ?_
                  · trivial
                  · exact fun w hw => hw.sub (by (repeat (first | exact pt_nil | apply pt0 | apply pt1 | apply pt2 | apply pt3 | apply pt4 | apply pt5 | apply pt6 | apply pt7 | apply pt8 | apply pt9 | apply pt10 | apply pt11 | apply pt12 | apply pt13 | apply pt14 | apply pt15 | apply pt16 | apply pt17)))
                  · intro dn _
                    refine wc_seq ?_
                    refine wc_region ?_
                    first | refine wl_w (fun _ _ => want_none) rfl (yw_next [] rfl) (wl_ex fun x97 hx97 => ?_) | refine wl_w (fun _ _ => want_none) rfl (yw_next [_] rfl) (wl_ex fun x97 hx97 => ?_) | refine wl_w (fun _ _ => want_none) rfl (yw_next [_, _] rfl) (wl_ex fun x97 hx97 => ?_) | refine wl_w (fun _ _ => want_none) rfl (yw_next [_, _, _] rfl) (wl_ex fun x97 hx97 => ?_)
                    rcases x97 with _ | q97
                    ·
                      refine wl_y rfl (y_extract rfl rfl) ?_
                      refine wl_nil ?_
                      refine wq_then ?_
                      refine wc_seq ?_
                      refine wc_known 98 false rfl (rfl) ?_
                      refine wc_cond_false rfl ?_
                      refine wc_exit ?_
                      refine wq_then_exit (wq_then_exit (wq_block_exit ?_))
                      refine wq_block_normal ?_
                      refine wq_then ?_
                      refine wc_region ?_
                      refine wl_y rfl (y_move rfl) ?_
                      refine wl_y rfl (y_add rfl rfl (by omega)) ?_
                      refine wl_y rfl (y_assign rfl) ?_
                      refine wl_nil ?_
                      exact wq_round (k + 1, m, tm + x.2.2, rest R x77, mdel M x77.v) (by simp only; omega) ⟨by simp only; omega, by simp only; omega, by simp only; omega, by simp only; omega, by simp only; omega, by first | (simp only; omega) | (simp; omega), (hQ.rest _).more, hI.pop hKM hQ hx77.1⟩ ⟨rfl, rfl, rfl, rfl, rfl, rfl, trivial⟩ (fun w hw => (Hp.rngEnd hw).sub (by (repeat (first | exact pt_nil | apply pt0 | apply pt1 | apply pt2 | apply pt3 | apply pt4 | apply pt5 | apply pt6 | apply pt7 | apply pt8 | apply pt9 | apply pt10 | apply pt11 | apply pt12 | apply pt13 | apply pt14 | apply pt15 | apply pt16 | apply pt17))))
                    ·
                      refine wl_y rfl (y_extract rfl rfl) ?_
                      refine wl_nil ?_
                      refine wq_then ?_
                      refine wc_seq ?_
                      refine wc_known 98 true rfl (rfl) ?_
                      refine wc_cond_true rfl ?_
                      refine wc_skip ?_
                      refine wq_then ?_
                      refine wc_block ?_
                      refine wc_seq ?_
                      refine wc_region ?_
                      obtain ⟨y, hy, hyv, hyt⟩ := ((hI.pop hKM hQ hx77.1) q97.1 q97.2).1 (mget_of_mem (hKM.del _) hx97.1)
                      have hfair := (fair hQ.ok h1 hx77 (mem_rest.1 hy).1).1
                      obtain ⟨_, _, hy3, hy4, _⟩ := hQ.ok.all y (mem_rest.1 hy).1
                      refine wl_y rfl (y_entry rfl (mget_of_mem (k := q97.1) (v := q97.2) (hKM.del x77.v) hx97.1) (by first | exact fun w hw => hw.seen [] | exact fun w hw => hw.seen [_] | exact fun w hw => hw.seen [_, _] | exact fun w hw => hw.seen [_, _, _])) ?_
                      refine wl_y rfl (y_extract rfl rfl) ?_
                      refine wl_y rfl (y_assign rfl) ?_
                      refine wl_nil ?_
                      refine wq_then ?_
                      refine wc_seq ?_
                      refine wc_region ?_
                      refine wl_y rfl (y_move rfl) ?_
                      refine wl_y rfl (y_move rfl) ?_
                      refine wl_y rfl (y_move rfl) ?_
                      refine wl_y rfl (y_mul rfl rfl (by omega)) ?_
                      refine wl_y rfl (y_add rfl rfl (by omega)) ?_
                      refine wl_y rfl (y_gtr rfl rfl) ?_
                      refine wl_nil ?_
                      refine wq_then ?_
                      refine wc_known 106 false rfl (by simp; omega) ?_
                      refine wc_cond_false rfl ?_
                      refine wc_skip ?_
                      refine wq_block_normal ?_
                      exact wq_round (q97.1 :: dn) (leftM_lt hx97) trivial ⟨rfl, rfl, rfl, rfl, rfl, rfl, rfl, rfl, trivial⟩ (fun w hw => hw)
      ·
        simp at hc43
        refine wc_exit ?_
        refine wq_then_exit (wq_then_exit (wq_block_exit ?_))
        refine wq_then ?_
        refine wc_seq ?_
        refine wc_region ?_
        refine wl_c (fun _ _ => want_none) rfl (yc_spec (fst := []) (cap := []) _ FN10 awake_spec rfl rfl rfl (by simp) (by (repeat (first | exact pt_nil | apply pt0 | apply pt1 | apply pt2 | apply pt3 | apply pt4 | apply pt5 | apply pt6 | apply pt7 | apply pt8 | apply pt9 | apply pt10 | apply pt11 | apply pt12 | apply pt13 | apply pt14 | apply pt15 | apply pt16 | apply pt17)))) (wl_ex fun x107 hx107 => ?_)
        refine wl_y rfl (y_assign rfl) ?_
        refine wl_nil ?_
        refine wq_then ?_
        refine wc_ret ?_
        refine wq_ret1 rfl rfl (fun w hw => ?_)
        exact ⟨(), trivial, rfl, hw.bare⟩
    ·
      simp at hg40
      refine wl_sk rfl rfl rfl rfl ?_
      refine wl_sk rfl rfl rfl rfl ?_
      refine wl_y rfl (y_pick_f rfl rfl) ?_
      refine wl_nil ?_
      refine wq_then ?_
      refine wc_cond_false rfl ?_
      refine wc_exit ?_
      refine wq_then_exit (wq_then_exit (wq_block_exit ?_))
      refine wq_then ?_
      refine wc_seq ?_
      refine wc_region ?_
      refine wl_c (fun _ _ => want_none) rfl (yc_spec (fst := []) (cap := []) _ FN10 awake_spec rfl rfl rfl (by simp) (by (repeat (first | exact pt_nil | apply pt0 | apply pt1 | apply pt2 | apply pt3 | apply pt4 | apply pt5 | apply pt6 | apply pt7 | apply pt8 | apply pt9 | apply pt10 | apply pt11 | apply pt12 | apply pt13 | apply pt14 | apply pt15 | apply pt16 | apply pt17)))) (wl_ex fun x107 hx107 => ?_)
      refine wl_y rfl (y_assign rfl) ?_
      refine wl_nil ?_
      refine wq_then ?_
      refine wc_ret ?_
      refine wq_ret1 rfl rfl (fun w hw => ?_)
      exact ⟨(), trivial, rfl, hw.bare⟩

theorem fair_all (w : Int) (oo : Option Addr) (cc : Nat) (ops : List (Bool × Int × Int)) : Ctr Try.prog 5 #[vI w, .slice oo ops.length cc] [rsl oo ops.length 3 (ops.flatMap encOp)] [] (fun _ : Unit => True) (fun _ => .bool true) (fun _ => []) := by
  rcases Int.lt_or_le w 1 with h | h
  · exact fair_lo w h oo cc ops
  rcases Int.lt_or_le 1000 w with h' | h'
  · exact fair_hi w h' oo cc ops
  exact fair_ok w (by omega) h' oo cc ops
end Go.Proofs.Ytblhphnnnihkmaa
