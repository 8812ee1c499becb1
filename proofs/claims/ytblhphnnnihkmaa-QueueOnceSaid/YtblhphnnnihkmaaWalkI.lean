/-
  Walks: law QueueOnce.
-/
import Derived.Test.YtblhphnnnihkmaaWalkF
import Derived.Test.YtblhphnnnihkmaaOnceLaw
namespace Go.Proofs.Ytblhphnnnihkmaa
open Go.Eng

set_option maxHeartbeats 1000000 in
theorem once_lo (w : Int) (hw : w < 1) (oo : Option Addr) (cc : Nat) (ops : List (Bool × Int × Int)) :
    Ctr Try.prog 4 #[vI w, .slice oo ops.length cc] [rsl oo ops.length 3 (ops.flatMap encOp)] [] (fun _ : Unit => True) (fun _ => .bool true) (fun _ => []) := by
  refine spec_start (n := 136) [(0, vI w), (1, .slice oo ops.length cc)] Try.func4 rfl rfl ⟨rfl, rfl, trivial⟩ rfl ?_
  intro w0 K hR
  refine wc_seq ?_
  refine wc_region ?_
  refine wl_y rfl (y_assign rfl) ?_
  refine wl_nil ?_
  refine wq_then ?_
  refine wc_seq ?_
  refine wc_region ?_
  refine wl_y rfl (y_move rfl) ?_
  refine wl_c (fun _ _ => want_none) rfl (yc_spec (fst := []) (cap := []) _ FN8 (new_i_lo w hw) rfl rfl rfl (by simp) (by (repeat (first | exact pt_nil | apply pt0 | apply pt1 | apply pt2 | apply pt3 | apply pt4 | apply pt5 | apply pt6 | apply pt7 | apply pt8 | apply pt9 | apply pt10 | apply pt11 | apply pt12 | apply pt13 | apply pt14 | apply pt15 | apply pt16 | apply pt17)))) (wl_ex fun x23 hx23 => ?_)
  refine wl_y rfl (y_move rfl) ?_
  refine wl_y rfl (y_extract rfl rfl) ?_
  refine wl_y rfl (y_extract rfl rfl) ?_
  refine wl_y rfl (y_assign rfl) ?_
  refine wl_y rfl (y_assign rfl) ?_
  refine wl_nil ?_
  refine wq_then ?_
  refine wc_seq ?_
  refine wc_seq ?_
  refine wc_region ?_
  refine wl_y rfl (y_move rfl) ?_
  refine wl_y rfl (y_neqI rfl rfl) ?_
  refine wl_nil ?_
  refine wq_then ?_
  refine wc_known 27 true rfl (rfl) ?_
  refine wc_cond_true rfl ?_
  refine wc_seq ?_
  refine wc_region ?_
  refine wl_y rfl (y_move rfl) ?_
  refine wl_y rfl (y_eqlI rfl rfl) ?_
  refine wl_y rfl (y_move rfl) ?_
  refine wl_known 30 true rfl (rfl) ?_
  refine wl_yg rfl rfl rfl (y_move rfl) ?_
  refine wl_yg rfl rfl rfl (y_eqlP Try.underlying23 rfl rfl) ?_
  refine wl_y rfl (y_pick_t rfl rfl) ?_
  refine wl_y rfl (y_move rfl) ?_
  refine wl_known 34 true rfl (rfl) ?_
  refine wl_c (want_some rfl rfl) rfl (yc_spec (fst := []) (cap := []) _ FN10 awake_spec rfl rfl rfl (by simp) (by (repeat (first | exact pt_nil | apply pt0 | apply pt1 | apply pt2 | apply pt3 | apply pt4 | apply pt5 | apply pt6 | apply pt7 | apply pt8 | apply pt9 | apply pt10 | apply pt11 | apply pt12 | apply pt13 | apply pt14 | apply pt15 | apply pt16 | apply pt17)))) (wl_ex fun x35 hx35 => ?_)
  refine wl_y rfl (y_pick_t rfl rfl) ?_
  refine wl_y rfl (y_assign rfl) ?_
  refine wl_nil ?_
  refine wq_then ?_
  refine wc_ret ?_
  refine wq_then_ret ?_
  refine wq_ret1 rfl rfl (fun w hw => ?_)
  exact ⟨(), trivial, rfl, hw.bare⟩

set_option maxHeartbeats 1000000 in
theorem once_hi (w : Int) (hw : 1000000 < w) (oo : Option Addr) (cc : Nat) (ops : List (Bool × Int × Int)) :
    Ctr Try.prog 4 #[vI w, .slice oo ops.length cc] [rsl oo ops.length 3 (ops.flatMap encOp)] [] (fun _ : Unit => True) (fun _ => .bool true) (fun _ => []) := by
  refine spec_start (n := 136) [(0, vI w), (1, .slice oo ops.length cc)] Try.func4 rfl rfl ⟨rfl, rfl, trivial⟩ rfl ?_
  intro w0 K hR
  refine wc_seq ?_
  refine wc_region ?_
  refine wl_y rfl (y_assign rfl) ?_
  refine wl_nil ?_
  refine wq_then ?_
  refine wc_seq ?_
  refine wc_region ?_
  refine wl_y rfl (y_move rfl) ?_
  refine wl_c (fun _ _ => want_none) rfl (yc_spec (fst := []) (cap := []) _ FN8 (new_i_hi w hw) rfl rfl rfl (by simp) (by (repeat (first | exact pt_nil | apply pt0 | apply pt1 | apply pt2 | apply pt3 | apply pt4 | apply pt5 | apply pt6 | apply pt7 | apply pt8 | apply pt9 | apply pt10 | apply pt11 | apply pt12 | apply pt13 | apply pt14 | apply pt15 | apply pt16 | apply pt17)))) (wl_ex fun x23 hx23 => ?_)
  refine wl_y rfl (y_move rfl) ?_
  refine wl_y rfl (y_extract rfl rfl) ?_
  refine wl_y rfl (y_extract rfl rfl) ?_
  refine wl_y rfl (y_assign rfl) ?_
  refine wl_y rfl (y_assign rfl) ?_
  refine wl_nil ?_
  refine wq_then ?_
  refine wc_seq ?_
  refine wc_seq ?_
  refine wc_region ?_
  refine wl_y rfl (y_move rfl) ?_
  refine wl_y rfl (y_neqI rfl rfl) ?_
  refine wl_nil ?_
  refine wq_then ?_
  refine wc_known 27 true rfl (rfl) ?_
  refine wc_cond_true rfl ?_
  refine wc_seq ?_
  refine wc_region ?_
  refine wl_y rfl (y_move rfl) ?_
  refine wl_y rfl (y_eqlI rfl rfl) ?_
  refine wl_y rfl (y_move rfl) ?_
  refine wl_known 30 true rfl (rfl) ?_
  refine wl_yg rfl rfl rfl (y_move rfl) ?_
  refine wl_yg rfl rfl rfl (y_eqlP Try.underlying23 rfl rfl) ?_
  refine wl_y rfl (y_pick_t rfl rfl) ?_
  refine wl_y rfl (y_move rfl) ?_
  refine wl_known 34 true rfl (rfl) ?_
  refine wl_c (want_some rfl rfl) rfl (yc_spec (fst := []) (cap := []) _ FN10 awake_spec rfl rfl rfl (by simp) (by (repeat (first | exact pt_nil | apply pt0 | apply pt1 | apply pt2 | apply pt3 | apply pt4 | apply pt5 | apply pt6 | apply pt7 | apply pt8 | apply pt9 | apply pt10 | apply pt11 | apply pt12 | apply pt13 | apply pt14 | apply pt15 | apply pt16 | apply pt17)))) (wl_ex fun x35 hx35 => ?_)
  refine wl_y rfl (y_pick_t rfl rfl) ?_
  refine wl_y rfl (y_assign rfl) ?_
  refine wl_nil ?_
  refine wq_then ?_
  refine wc_ret ?_
  refine wq_then_ret ?_
  refine wq_ret1 rfl rfl (fun w hw => ?_)
  exact ⟨(), trivial, rfl, hw.bare⟩

set_option maxHeartbeats 1000000 in
theorem once_ok (age : Int) (h1 : 1 ≤ age) (h2 : age ≤ 1000000) (oo : Option Addr) (cc : Nat) (ops : List (Bool × Int × Int)) :
    Ctr Try.prog 4 #[vI age, .slice oo ops.length cc] [rsl oo ops.length 3 (ops.flatMap encOp)] [] (fun _ : Unit => True) (fun _ => .bool true) (fun _ => []) := by
  refine spec_start (n := 136) [(0, vI age), (1, .slice oo ops.length cc)] Try.func4 rfl rfl ⟨rfl, rfl, trivial⟩ rfl ?_
  intro w0 K hR
  have hA := hR _ (List.mem_cons_self ..)
  refine wc_seq ?_
  refine wc_region ?_
  refine wl_y rfl (y_assign rfl) ?_
  refine wl_nil ?_
  refine wq_then ?_
  refine wc_seq ?_
  refine wc_region ?_
  refine wl_y rfl (y_move rfl) ?_
  refine wl_c (fun _ _ => want_none) rfl (yc_spec (fst := []) (cap := []) _ FN8 (new_i_ok age h1 h2) rfl rfl rfl (by simp) (by (repeat (first | exact pt_nil | apply pt0 | apply pt1 | apply pt2 | apply pt3 | apply pt4 | apply pt5 | apply pt6 | apply pt7 | apply pt8 | apply pt9 | apply pt10 | apply pt11 | apply pt12 | apply pt13 | apply pt14 | apply pt15 | apply pt16 | apply pt17)))) (wl_ex fun x23 hx23 => ?_)
  refine wl_y rfl (y_move rfl) ?_
  refine wl_y rfl (y_extract rfl rfl) ?_
  refine wl_y rfl (y_extract rfl rfl) ?_
  refine wl_y rfl (y_assign rfl) ?_
  refine wl_y rfl (y_assign rfl) ?_
  refine wl_nil ?_
  refine wq_then ?_
  refine wc_seq ?_
  refine wc_seq ?_
  refine wc_region ?_
  refine wl_y rfl (y_move rfl) ?_
  refine wl_y rfl (y_neqI rfl rfl) ?_
  refine wl_nil ?_
  refine wq_then ?_
  refine wc_known 27 false rfl (rfl) ?_
  refine wc_cond_false rfl ?_
  refine wc_skip ?_
  refine wq_then ?_
  refine wc_seq ?_
  refine wc_region ?_
  refine wl_w (fun _ _ => want_none) rfl (yw_makeMap (ek := vI) (ev := vB)) (wl_ex fun b37 _ => ?_)
  refine wl_y rfl (y_assign rfl) ?_
  refine wl_nil ?_
  refine wq_then ?_
  refine wc_seq (wc_cut (α := Int × List (It Int) × List (Int × Bool)) (fun y => (∃ k, k ≤ 300 ∧ QO age y.1 k y.2.1) ∧ InM y.2.2 y.2.1 ∧ y.2.1.length ≤ 300) [(0, _), (1, _), (5, _), (7, _)] (fun y => []) (fun y => Hp w0 K [qA 50 58 vI x23 age (y.1) (y.2.1), mapA vI vB b37 (y.2.2)]) ⟨rfl, rfl, rfl, rfl, trivial⟩ ?_ ?_)
  ·
    refine wc_seq ?_
    refine wc_region ?_
    refine wl_y rfl (y_assign rfl) ?_
    refine wl_nil ?_
    refine wq_then ?_
    refine wc_block ?_
    refine wc_loop (α := Nat × Int × List (It Int) × List (Int × Bool)) (fun y => y.1 ≤ ops.length ∧ y.1 ≤ 300 ∧ 0 ≤ y.2.1 ∧ y.2.1 ≤ y.1 ∧ y.2.2.1.length ≤ y.1 ∧ QO age y.2.1 y.1 y.2.2.1 ∧ InM y.2.2.2 y.2.2.1) [(0, _), (1, _), (5, _), (7, _)] (fun y => [(8, vI y.1)]) (fun y => Hp w0 K [qA 50 58 vI x23 age (y.2.1) (y.2.2.1), mapA vI vB b37 (y.2.2.2)]) (fun y => ops.length - y.1) (0, 0, [], []) ?_ ⟨rfl, rfl, rfl, rfl, rfl, trivial⟩ ?_ ?_
    · exact ⟨Nat.zero_le _, Nat.zero_le _, by decide, by decide, by simp, ⟨⟨by simp, List.Pairwise.nil⟩, by simp, by simp⟩, fun i => by simp [mget]⟩
    · exact fun w hw => hw.sub (by (repeat (first | exact pt_nil | apply pt0 | apply pt1 | apply pt2 | apply pt3 | apply pt4 | apply pt5 | apply pt6 | apply pt7 | apply pt8 | apply pt9 | apply pt10 | apply pt11 | apply pt12 | apply pt13 | apply pt14 | apply pt15 | apply pt16 | apply pt17)))
    · rintro ⟨k, m, R, M⟩ ⟨hk, hk2, hm0, hm1, hRl, hQ, hI⟩; simp only at hk hk2 hm0 hm1 hRl hQ hI
      refine wc_world (S' := Hp w0 K [qA 50 58 vI x23 age (m) (R), mapA vI vB b37 (M)]) (fun w hw => hw) ?_
      refine wc_seq ?_
      refine wc_seq ?_
      refine wc_region ?_
      refine wl_y rfl (y_move rfl) ?_
      refine wl_y rfl (y_move rfl) ?_
      refine wl_y rfl (y_lenSl Try.underlying22 rfl) ?_
      refine wl_y rfl (y_lss rfl rfl) ?_
      refine wl_y rfl (y_move rfl) ?_
      refine wl_case 42 rfl (fun hg42 => ?_) (fun hg42 => ?_)
      ·
        simp at hg42
        refine wl_yg rfl rfl rfl (y_move rfl) ?_
        refine wl_yg rfl rfl rfl (y_lss rfl rfl) ?_
        refine wl_y rfl (y_pick_t rfl rfl) ?_
        refine wl_nil ?_
        refine wq_then ?_
        refine wc_cond rfl (fun hc45 => ?_) (fun hc45 => ?_)
        ·
          simp at hc45
          refine wc_skip ?_
          refine wq_then ?_
          refine wc_seq ?_
          refine wc_block ?_
          refine wc_seq ?_
          refine wc_mix (.q 0 0 (.q 1 0 (.q 2 0 (.q 3 0 (.q 4 0 (.q 5 0 (.q 6 1 (.q 7 0 (.q 8 0 (.q 9 0 (.q 10 0 (.q 11 1 (.w 12 2 (.q 13 0 .nil) .nil))))))))))))) (fun _ => True) MO (by kernel_rfl) (Hp.drawless _ _ _) (fun _ _ => trivial) ?_
          obtain ⟨x, hx⟩ : ∃ x, ops[k]? = some x := ⟨_, List.getElem?_eq_getElem (by omega)⟩
          by_cases hv : (0 ≤ x.2.1 ∧ x.2.1 ≤ 9) ∧ 0 ≤ x.2.2 ∧ x.2.2 ≤ 1000000000
          ·
            refine wm_g rfl rfl (y_move rfl) ?_
            refine wm_g rfl rfl (y_move rfl) ?_
            refine wm_g rfl rfl (y_move rfl) ?_
            refine wm_g rfl rfl (y_move rfl) ?_
            refine wm_g rfl rfl (y_indexAddr Try.underlying22 T32 rfl rfl rfl (by omega) (fun _ _ => hA.isSome (by omega))) ?_
            refine wm_g rfl rfl (y_fieldAddr_adr F32_1 rfl) ?_
            refine wm_l rfl rfl (y_load NA3 rfl (cell_ro hA (rows_get encOp_len hx rfl))) ?_
            refine wm_g rfl rfl (y_move rfl) ?_
            refine wm_g rfl rfl (y_move rfl) ?_
            refine wm_g rfl rfl (y_indexAddr Try.underlying22 T32 rfl rfl rfl (by omega) (fun _ _ => hA.isSome (by omega))) ?_
            refine wm_g rfl rfl (y_fieldAddr_adr F32_2 rfl) ?_
            refine wm_l rfl rfl (y_load NA3 rfl (cell_ro hA (rows_get encOp_len hx rfl))) ?_
            refine wm_c rfl rfl (fun _ _ _ => trivial) (yc_spec (fst := []) (cap := []) _ FN11 (push_ok_i x23 age m R k x.2.1 x.2.2 ⟨by omega, h2⟩ (by omega) hv.1 hv.2 (by omega)) rfl rfl rfl (by simp) (by (repeat (first | exact pt_nil | apply pt0 | apply pt1 | apply pt2 | apply pt3 | apply pt4 | apply pt5 | apply pt6 | apply pt7 | apply pt8 | apply pt9 | apply pt10 | apply pt11 | apply pt12 | apply pt13 | apply pt14 | apply pt15 | apply pt16 | apply pt17)))) (wm_ex fun x60 hx60 => ?_)
            refine wm_g rfl rfl (y_eqlI rfl rfl) ?_
            refine wm_nil ?_
            refine all_wq ?_
            refine wq_then ?_
            refine wc_known 61 true rfl (rfl) ?_
            refine wc_cond_true rfl ?_
            refine wc_region ?_
            refine wl_y rfl (y_move rfl) ?_
            refine wl_y rfl (y_move rfl) ?_
            first | refine wl_u (yu_mapUpdate [] Try.underlying43 (keyE_int Try.underlying3) rfl rfl rfl) ?_ | refine wl_u (yu_mapUpdate [_] Try.underlying43 (keyE_int Try.underlying3) rfl rfl rfl) ?_ | refine wl_u (yu_mapUpdate [_, _] Try.underlying43 (keyE_int Try.underlying3) rfl rfl rfl) ?_ | refine wl_u (yu_mapUpdate [_, _, _] Try.underlying43 (keyE_int Try.underlying3) rfl rfl rfl) ?_
            refine wl_nil ?_
            refine wq_block_normal ?_
            refine wq_then ?_
            refine wc_region ?_
            refine wl_y rfl (y_move rfl) ?_
            refine wl_y rfl (y_add rfl rfl (by omega)) ?_
            refine wl_y rfl (y_assign rfl) ?_
            refine wl_nil ?_
            exact wq_round (k + 1, m + 1, R ++ [(⟨k, x.2.1, x.2.2, x.2.2 + age * x.2.1, m + 1⟩ : It Int)], mput M k true) (by simp only; omega) ⟨by simp only; omega, by simp only; omega, by simp only; omega, by simp only; omega, by simp; omega, hQ.push hv.1 hv.2, hI.push (⟨k, x.2.1, x.2.2, x.2.2 + age * x.2.1, m + 1⟩ : It Int)⟩ ⟨rfl, rfl, rfl, rfl, rfl, trivial⟩ (fun w hw => hw.sub (by (repeat (first | exact pt_nil | apply pt0 | apply pt1 | apply pt2 | apply pt3 | apply pt4 | apply pt5 | apply pt6 | apply pt7 | apply pt8 | apply pt9 | apply pt10 | apply pt11 | apply pt12 | apply pt13 | apply pt14 | apply pt15 | apply pt16 | apply pt17))))
          ·
            refine wm_g rfl rfl (y_move rfl) ?_
            refine wm_g rfl rfl (y_move rfl) ?_
            refine wm_g rfl rfl (y_move rfl) ?_
            refine wm_g rfl rfl (y_move rfl) ?_
            refine wm_g rfl rfl (y_indexAddr Try.underlying22 T32 rfl rfl rfl (by omega) (fun _ _ => hA.isSome (by omega))) ?_
            refine wm_g rfl rfl (y_fieldAddr_adr F32_1 rfl) ?_
            refine wm_l rfl rfl (y_load NA3 rfl (cell_ro hA (rows_get encOp_len hx rfl))) ?_
            refine wm_g rfl rfl (y_move rfl) ?_
            refine wm_g rfl rfl (y_move rfl) ?_
            refine wm_g rfl rfl (y_indexAddr Try.underlying22 T32 rfl rfl rfl (by omega) (fun _ _ => hA.isSome (by omega))) ?_
            refine wm_g rfl rfl (y_fieldAddr_adr F32_2 rfl) ?_
            refine wm_l rfl rfl (y_load NA3 rfl (cell_ro hA (rows_get encOp_len hx rfl))) ?_
            refine wm_c rfl rfl (fun _ _ _ => trivial) (yc_spec (fst := []) (cap := []) _ FN11 (push_no_i x23 age m R k x.2.1 x.2.2 (by omega)) rfl rfl rfl (by simp) (by (repeat (first | exact pt_nil | apply pt0 | apply pt1 | apply pt2 | apply pt3 | apply pt4 | apply pt5 | apply pt6 | apply pt7 | apply pt8 | apply pt9 | apply pt10 | apply pt11 | apply pt12 | apply pt13 | apply pt14 | apply pt15 | apply pt16 | apply pt17)))) (wm_ex fun x60 hx60 => ?_)
            refine wm_g rfl rfl (y_eqlI rfl rfl) ?_
            refine wm_nil ?_
            refine all_wq ?_
            refine wq_then ?_
            refine wc_known 61 false rfl (rfl) ?_
            refine wc_cond_false rfl ?_
            refine wc_skip ?_
            refine wq_block_normal ?_
            refine wq_then ?_
            refine wc_region ?_
            refine wl_y rfl (y_move rfl) ?_
            refine wl_y rfl (y_add rfl rfl (by omega)) ?_
            refine wl_y rfl (y_assign rfl) ?_
            refine wl_nil ?_
            exact wq_round (k + 1, m, R, M) (by simp only; omega) ⟨by simp only; omega, by simp only; omega, hm0, by simp only; omega, by simp only; omega, hQ.more, hI⟩ ⟨rfl, rfl, rfl, rfl, rfl, trivial⟩ (fun w hw => hw.sub (by (repeat (first | exact pt_nil | apply pt0 | apply pt1 | apply pt2 | apply pt3 | apply pt4 | apply pt5 | apply pt6 | apply pt7 | apply pt8 | apply pt9 | apply pt10 | apply pt11 | apply pt12 | apply pt13 | apply pt14 | apply pt15 | apply pt16 | apply pt17))))
        ·
          simp at hc45
          refine wc_exit ?_
          refine wq_then_exit (wq_then_exit (wq_block_exit ?_))
          exact wq_cut (m, R, M) ⟨⟨k, hk2, hQ⟩, hI, by simp only; omega⟩ ⟨rfl, rfl, rfl, rfl, trivial⟩ (fun w hw => hw)
      ·
        simp at hg42
        refine wl_sk rfl rfl rfl rfl ?_
        refine wl_sk rfl rfl rfl rfl ?_
        refine wl_y rfl (y_pick_f rfl rfl) ?_
        refine wl_nil ?_
        refine wq_then ?_
        refine wc_cond_false rfl ?_
        refine wc_exit ?_
        refine wq_then_exit (wq_then_exit (wq_block_exit ?_))
        exact wq_cut (m, R, M) ⟨⟨k, hk2, hQ⟩, hI, by simp only; omega⟩ ⟨rfl, rfl, rfl, rfl, trivial⟩ (fun w hw => hw)
  · rintro ⟨m, R, M⟩ ⟨⟨k, hk, hQ⟩, hI, hRl⟩; simp only at hk hQ hI hRl
    refine wc_world (S' := Hp w0 K [qA 50 58 vI x23 age (m) (R), mapA vI vB b37 (M)]) (fun w hw => hw) ?_
    refine all_wc ?_
    refine wc_seq ?_
    refine wc_region ?_
    refine wl_y rfl (y_assign rfl) ?_
    refine wl_nil ?_
    refine wq_then ?_
    refine wc_seq (wc_cut (α := List (Int × Bool)) (fun M => InM M []) [(1, _), (5, _), (7, _)] (fun M => []) (fun M => Hp w0 K [qA 50 58 vI x23 age (m) ([]), mapA vI vB b37 (M)]) ⟨rfl, rfl, rfl, trivial⟩ ?_ ?_)
    ·
      refine wc_block ?_
      refine wc_loop (α := Int × List (It Int) × List (Int × Bool)) (fun y => QO age m k y.2.1 ∧ InM y.2.2 y.2.1 ∧ y.2.1.length ≤ 300 ∧ ∀ a ∈ y.2.1, y.1 ≤ a.turn) [(0, _), (1, _), (5, _), (7, _)] (fun y => [(9, vI y.1)]) (fun y => Hp w0 K [qA 50 58 vI x23 age (m) (y.2.1), mapA vI vB b37 (y.2.2)]) (fun y => y.2.1.length) (0, R, M) ?_ ⟨rfl, rfl, rfl, rfl, rfl, trivial⟩ ?_ ?_
      · exact ⟨hQ, hI, hRl, fun a ha => by obtain ⟨a1, a2, a3, a4, a5, a6⟩ := hQ.ok.all a ha; have m1 : 0 ≤ age * a.rank := Int.mul_nonneg (by omega) a1; simp only; omega⟩
      · exact fun w hw => hw
      · clear hQ hI hRl
        rintro ⟨l9, R, M⟩ ⟨hQ, hI, hRl, hL⟩; simp only at hQ hI hRl hL
        refine wc_world (S' := Hp w0 K [qA 50 58 vI x23 age (m) (R), mapA vI vB b37 (M)]) (fun w hw => hw) ?_
        refine wc_seq ?_
        refine wc_seq ?_
        refine wc_region ?_
        refine wl_y rfl (y_move rfl) ?_
        refine wl_c (fun _ _ => want_none) rfl (yc_spec (fst := []) (cap := []) _ FN17 (len_ok_i x23 age m R) rfl rfl rfl (by simp) (by (repeat (first | exact pt_nil | apply pt0 | apply pt1 | apply pt2 | apply pt3 | apply pt4 | apply pt5 | apply pt6 | apply pt7 | apply pt8 | apply pt9 | apply pt10 | apply pt11 | apply pt12 | apply pt13 | apply pt14 | apply pt15 | apply pt16 | apply pt17)))) (wl_ex fun x65 hx65 => ?_)
        refine wl_y rfl (y_gtr rfl rfl) ?_
        refine wl_nil ?_
        refine wq_then ?_
        refine wc_cond rfl (fun hc66 => ?_) (fun hc66 => ?_)
        ·
          simp at hc66
          refine wc_skip ?_
          refine wq_then ?_
          refine wc_block ?_
          refine wc_seq ?_
          refine wc_region ?_
          have hne : R ≠ [] := fun h => by subst h; simp at hc66
          refine wl_y rfl (y_move rfl) ?_
          refine wl_c (fun _ _ => want_none) rfl (yc_spec (fst := []) (cap := []) _ FN17 (len_ok_i x23 age m R) rfl rfl rfl (by simp) (by (repeat (first | exact pt_nil | apply pt0 | apply pt1 | apply pt2 | apply pt3 | apply pt4 | apply pt5 | apply pt6 | apply pt7 | apply pt8 | apply pt9 | apply pt10 | apply pt11 | apply pt12 | apply pt13 | apply pt14 | apply pt15 | apply pt16 | apply pt17)))) (wl_ex fun x68 hx68 => ?_)
          refine wl_y rfl (y_assign rfl) ?_
          refine wl_nil ?_
          refine wq_then ?_
          refine wc_seq ?_
          refine wc_region ?_
          refine wl_y rfl (y_move rfl) ?_
          refine wl_c (fun _ _ => want_none) rfl (yc_spec (fst := []) (cap := []) _ FN15 (peek_ok_i x23 age m R hne) rfl rfl rfl (by simp) (by (repeat (first | exact pt_nil | apply pt0 | apply pt1 | apply pt2 | apply pt3 | apply pt4 | apply pt5 | apply pt6 | apply pt7 | apply pt8 | apply pt9 | apply pt10 | apply pt11 | apply pt12 | apply pt13 | apply pt14 | apply pt15 | apply pt16 | apply pt17)))) (wl_ex fun x71 hx71 => ?_)
          refine wl_y rfl (y_move rfl) ?_
          refine wl_y rfl (y_extract rfl rfl) ?_
          refine wl_y rfl (y_extract rfl rfl) ?_
          refine wl_y rfl (y_extract rfl rfl) ?_
          refine wl_y rfl (y_extract rfl rfl) ?_
          refine wl_y rfl (y_assign rfl) ?_
          refine wl_y rfl (y_assign rfl) ?_
          refine wl_y rfl (y_assign rfl) ?_
          refine wl_y rfl (y_assign rfl) ?_
          refine wl_nil ?_
          refine wq_then ?_
          refine wc_seq ?_
          refine wc_region ?_
          refine wl_y rfl (y_move rfl) ?_
          refine wl_c (fun _ _ => want_none) rfl (yc_spec (fst := []) (cap := []) _ FN13 (pop_ok_i x23 age m R hne (by omega) hQ.ok.dist) rfl rfl rfl (by simp) (by (repeat (first | exact pt_nil | apply pt0 | apply pt1 | apply pt2 | apply pt3 | apply pt4 | apply pt5 | apply pt6 | apply pt7 | apply pt8 | apply pt9 | apply pt10 | apply pt11 | apply pt12 | apply pt13 | apply pt14 | apply pt15 | apply pt16 | apply pt17)))) (wl_ex fun x78 hx78 => ?_)
          obtain rfl : x78 = x71 := hx78.uniq hx71 hQ.ok.dist
          have hlen := rest_len1 hx78.1 hQ.ok.dist
          obtain ⟨q1, q2, q3, q4, q5, q6⟩ := hQ.ok.all _ hx78.1
          have hlow := hL _ hx78.1
          have m1 : 0 ≤ age * x78.rank := Int.mul_nonneg (by omega) q1
          have m2 : age * x78.rank ≤ 1000000 * 9 := Int.mul_le_mul h2 q2 q1 (by omega)
          have hin := (hI x78.v).2 ⟨x78, hx78.1, rfl⟩
          refine wl_y rfl (y_move rfl) ?_
          refine wl_y rfl (y_extract rfl rfl) ?_
          refine wl_y rfl (y_extract rfl rfl) ?_
          refine wl_y rfl (y_assign rfl) ?_
          refine wl_y rfl (y_assign rfl) ?_
          refine wl_nil ?_
          refine wq_then ?_
          refine wc_seq ?_
          refine wc_region ?_
          refine wl_y rfl (y_move rfl) ?_
          refine wl_y rfl (y_move rfl) ?_
          refine wl_y rfl (y_move rfl) ?_
          refine wl_y rfl (y_mul rfl rfl (by omega)) ?_
          refine wl_y rfl (y_add rfl rfl (by omega)) ?_
          refine wl_same 85 (vI x78.turn) rfl (by rw [q5]) ?_
          refine wl_y rfl (y_assign rfl) ?_
          refine wl_nil ?_
          refine wq_then ?_
          refine wc_seq ?_
          refine wc_seq ?_
          refine wc_region ?_
          refine wl_y rfl (y_move rfl) ?_
          refine wl_y rfl (y_not rfl) ?_
          refine wl_y rfl (y_move rfl) ?_
          refine wl_known 88 false rfl (rfl) ?_
          refine wl_yg rfl rfl rfl (y_move rfl) ?_
          refine wl_yg rfl rfl rfl (y_not rfl) ?_
          refine wl_y rfl (y_pick_f rfl rfl) ?_
          refine wl_y rfl (y_move rfl) ?_
          refine wl_known 92 false rfl (rfl) ?_
          refine wl_yg rfl rfl rfl (y_move rfl) ?_
          refine wl_yg rfl rfl rfl (y_move rfl) ?_
          refine wl_yg rfl rfl rfl (y_lookup Try.underlying43 (keyE_int Try.underlying3) T4 rfl rfl (by first | exact fun w hw => hw.seen [] | exact fun w hw => hw.seen [_] | exact fun w hw => hw.seen [_, _] | exact fun w hw => hw.seen [_, _, _] | exact fun w hw => Seen.rngMap (hw.seen []) | exact fun w hw => Seen.rngMap (hw.seen [_]) | exact fun w hw => Seen.rngMap (hw.seen [_, _]) | exact fun w hw => Seen.rngMap (hw.seen [_, _, _]))) ?_
          refine wl_same 95 (.bool true) rfl (by rw [hin]; rfl) ?_
          refine wl_yg rfl rfl rfl (y_not rfl) ?_
          refine wl_y rfl (y_pick_f rfl rfl) ?_
          refine wl_y rfl (y_move rfl) ?_
          refine wl_known 98 false rfl (rfl) ?_
          refine wl_yg rfl rfl rfl (y_move rfl) ?_
          refine wl_yg rfl rfl rfl (y_move rfl) ?_
          refine wl_yg rfl rfl rfl (y_lss rfl rfl) ?_
          refine wl_y rfl (y_pick_f rfl rfl) ?_
          refine wl_y rfl (y_move rfl) ?_
          refine wl_known 103 false rfl (by simp; omega) ?_
          refine wl_yg rfl rfl rfl (y_move rfl) ?_
          refine wl_c (want_some rfl rfl) rfl (yc_spec (fst := []) (cap := []) _ FN17 (len_ok_i x23 age m (rest R x78)) rfl rfl rfl (by simp) (by (repeat (first | exact pt_nil | apply pt0 | apply pt1 | apply pt2 | apply pt3 | apply pt4 | apply pt5 | apply pt6 | apply pt7 | apply pt8 | apply pt9 | apply pt10 | apply pt11 | apply pt12 | apply pt13 | apply pt14 | apply pt15 | apply pt16 | apply pt17)))) (wl_ex fun x105 hx105 => ?_)
          refine wl_yg rfl rfl rfl (y_move rfl) ?_
          refine wl_yg rfl rfl rfl (y_sub rfl rfl (by omega)) ?_
          refine wl_yg rfl rfl rfl (y_neqI rfl rfl) ?_
          refine wl_y rfl (y_pick_f rfl rfl) ?_
          refine wl_nil ?_
          refine wq_then ?_
          refine wc_known 109 false rfl (by simp; omega) ?_
          refine wc_cond_false rfl ?_
          refine wc_skip ?_
          refine wq_then ?_
          refine wc_seq ?_
          refine wc_region ?_
          refine wl_y rfl (y_move rfl) ?_
          refine wl_y rfl (y_move rfl) ?_
          first | refine wl_u (yu_mapUpdate [] Try.underlying43 (keyE_int Try.underlying3) rfl rfl rfl) ?_ | refine wl_u (yu_mapUpdate [_] Try.underlying43 (keyE_int Try.underlying3) rfl rfl rfl) ?_ | refine wl_u (yu_mapUpdate [_, _] Try.underlying43 (keyE_int Try.underlying3) rfl rfl rfl) ?_ | refine wl_u (yu_mapUpdate [_, _, _] Try.underlying43 (keyE_int Try.underlying3) rfl rfl rfl) ?_
          refine wl_nil ?_
          refine wq_then ?_
          refine wc_region ?_
          refine wl_y rfl (y_move rfl) ?_
          refine wl_y rfl (y_assign rfl) ?_
          refine wl_nil ?_
          refine wq_block_normal ?_
          exact wq_round (x78.turn, rest R x78, mput M x78.v false) (by simp only; omega) ⟨hQ.rest _, hI.pop hQ hx78.1, by simp only; omega, fun a ha => (fair hQ.ok h1 hx78 (mem_rest.1 ha).1).2⟩ ⟨rfl, rfl, rfl, rfl, rfl, trivial⟩ (fun w hw => hw.sub (by (repeat (first | exact pt_nil | apply pt0 | apply pt1 | apply pt2 | apply pt3 | apply pt4 | apply pt5 | apply pt6 | apply pt7 | apply pt8 | apply pt9 | apply pt10 | apply pt11 | apply pt12 | apply pt13 | apply pt14 | apply pt15 | apply pt16 | apply pt17))))
        ·
          simp at hc66
          refine wc_exit ?_
          refine wq_then_exit (wq_then_exit (wq_block_exit ?_))
          obtain rfl : R = [] := by simpa using hc66
          exact wq_cut M hI ⟨rfl, rfl, rfl, trivial⟩ (fun w hw => hw)
    · clear hQ hI hRl
      intro M hI
      refine all_wc ?_
      refine wc_seq ?_
      refine wc_seq ?_
      refine wc_region ?_
      refine wl_y rfl (y_assign rfl) ?_
      refine wl_nil ?_
      refine wq_then ?_
      refine wc_block ?_
      refine wc_loop (α := Nat) (fun y => y ≤ ops.length) [(1, _), (5, _), (7, _)] (fun y => [(18, vI y)]) (fun y => Hp w0 K [qA 50 58 vI x23 age (m) ([]), mapA vI vB b37 (M)]) (fun y => ops.length - y) 0 ?_ ⟨rfl, rfl, rfl, rfl, trivial⟩ ?_ ?_
      · exact Nat.zero_le _
      · exact fun w hw => hw
      · intro k5 hk5
        refine wc_seq ?_
        refine wc_seq ?_
        refine wc_region ?_
        refine wl_y rfl (y_move rfl) ?_
        refine wl_y rfl (y_move rfl) ?_
        refine wl_y rfl (y_lenSl Try.underlying22 rfl) ?_
        refine wl_y rfl (y_lss rfl rfl) ?_
        refine wl_y rfl (y_move rfl) ?_
        refine wl_case 117 rfl (fun hg117 => ?_) (fun hg117 => ?_)
        ·
          simp at hg117
          refine wl_yg rfl rfl rfl (y_move rfl) ?_
          refine wl_yg rfl rfl rfl (y_lss rfl rfl) ?_
          refine wl_y rfl (y_pick_t rfl rfl) ?_
          refine wl_nil ?_
          refine wq_then ?_
          refine wc_cond rfl (fun hc120 => ?_) (fun hc120 => ?_)
          ·
            simp at hc120
            refine wc_skip ?_
            refine wq_then ?_
            refine wc_seq ?_
            refine wc_block ?_
            refine wc_seq ?_
            refine wc_region ?_
            refine wl_y rfl (y_move rfl) ?_
            refine wl_y rfl (y_move rfl) ?_
            refine wl_y rfl (y_lookup Try.underlying43 (keyE_int Try.underlying3) T4 rfl rfl (by first | exact fun w hw => hw.seen [] | exact fun w hw => hw.seen [_] | exact fun w hw => hw.seen [_, _] | exact fun w hw => hw.seen [_, _, _] | exact fun w hw => Seen.rngMap (hw.seen []) | exact fun w hw => Seen.rngMap (hw.seen [_]) | exact fun w hw => Seen.rngMap (hw.seen [_, _]) | exact fun w hw => Seen.rngMap (hw.seen [_, _, _]))) ?_
            refine wl_same 125 (.bool false) rfl (by rw [lookB, hI.off]) ?_
            refine wl_nil ?_
            refine wq_then ?_
            refine wc_known 125 false rfl (rfl) ?_
            refine wc_cond_false rfl ?_
            refine wc_skip ?_
            refine wq_block_normal ?_
            refine wq_then ?_
            refine wc_region ?_
            refine wl_y rfl (y_move rfl) ?_
            refine wl_y rfl (y_add rfl rfl (by omega)) ?_
            refine wl_y rfl (y_assign rfl) ?_
            refine wl_nil ?_
            exact wq_round (k5 + 1) (by omega) (by omega) ⟨rfl, rfl, rfl, rfl, trivial⟩ (fun w hw => hw)
          ·
            simp at hc120
            refine wc_exit ?_
            refine wq_then_exit (wq_then_exit (wq_block_exit ?_))
            refine wq_then ?_
            refine wc_seq ?_
            refine wc_region ?_
            refine wl_y rfl (y_move rfl) ?_
            refine wl_c (fun _ _ => want_none) rfl (yc_spec (fst := []) (cap := []) _ FN13 (pop_em_i x23 age m) rfl rfl rfl (by simp) (by (repeat (first | exact pt_nil | apply pt0 | apply pt1 | apply pt2 | apply pt3 | apply pt4 | apply pt5 | apply pt6 | apply pt7 | apply pt8 | apply pt9 | apply pt10 | apply pt11 | apply pt12 | apply pt13 | apply pt14 | apply pt15 | apply pt16 | apply pt17)))) (wl_ex fun x128 hx128 => ?_)
            refine wl_y rfl (y_move rfl) ?_
            refine wl_y rfl (y_extract rfl rfl) ?_
            refine wl_y rfl (y_extract rfl rfl) ?_
            refine wl_y rfl (y_assign rfl) ?_
            refine wl_y rfl (y_assign rfl) ?_
            refine wl_nil ?_
            refine wq_then ?_
            refine wc_seq ?_
            refine wc_region ?_
            refine wl_y rfl (y_move rfl) ?_
            refine wl_y rfl (y_not rfl) ?_
            refine wl_y rfl (y_move rfl) ?_
            refine wl_known 133 true rfl (rfl) ?_
            refine wl_c (want_some rfl rfl) rfl (yc_spec (fst := []) (cap := []) _ FN10 awake_spec rfl rfl rfl (by simp) (by (repeat (first | exact pt_nil | apply pt0 | apply pt1 | apply pt2 | apply pt3 | apply pt4 | apply pt5 | apply pt6 | apply pt7 | apply pt8 | apply pt9 | apply pt10 | apply pt11 | apply pt12 | apply pt13 | apply pt14 | apply pt15 | apply pt16 | apply pt17)))) (wl_ex fun x134 hx134 => ?_)
            refine wl_y rfl (y_pick_t rfl rfl) ?_
            refine wl_y rfl (y_assign rfl) ?_
            refine wl_nil ?_
            refine wq_then ?_
            refine wc_ret ?_
            refine wq_ret1 rfl rfl (fun w hw => ?_)
            exact ⟨(), trivial, rfl, hw.bare⟩
        ·
          simp at hg117
          refine wl_sk rfl rfl rfl rfl ?_
          refine wl_sk rfl rfl rfl rfl ?_
          refine wl_y rfl (y_pick_f rfl rfl) ?_
          refine wl_nil ?_
          refine wq_then ?_
          refine wc_cond_false rfl ?_
          refine wc_exit ?_
          refine wq_then_exit (wq_then_exit (wq_block_exit ?_))
          refine wq_then ?_
          refine wc_seq ?_
          refine wc_region ?_
          refine wl_y rfl (y_move rfl) ?_
          refine wl_c (fun _ _ => want_none) rfl (yc_spec (fst := []) (cap := []) _ FN13 (pop_em_i x23 age m) rfl rfl rfl (by simp) (by (repeat (first | exact pt_nil | apply pt0 | apply pt1 | apply pt2 | apply pt3 | apply pt4 | apply pt5 | apply pt6 | apply pt7 | apply pt8 | apply pt9 | apply pt10 | apply pt11 | apply pt12 | apply pt13 | apply pt14 | apply pt15 | apply pt16 | apply pt17)))) (wl_ex fun x128 hx128 => ?_)
          refine wl_y rfl (y_move rfl) ?_
          refine wl_y rfl (y_extract rfl rfl) ?_
          refine wl_y rfl (y_extract rfl rfl) ?_
          refine wl_y rfl (y_assign rfl) ?_
          refine wl_y rfl (y_assign rfl) ?_
          refine wl_nil ?_
          refine wq_then ?_
          refine wc_seq ?_
          refine wc_region ?_
          refine wl_y rfl (y_move rfl) ?_
          refine wl_y rfl (y_not rfl) ?_
          refine wl_y rfl (y_move rfl) ?_
          refine wl_known 133 true rfl (rfl) ?_
          refine wl_c (want_some rfl rfl) rfl (yc_spec (fst := []) (cap := []) _ FN10 awake_spec rfl rfl rfl (by simp) (by (repeat (first | exact pt_nil | apply pt0 | apply pt1 | apply pt2 | apply pt3 | apply pt4 | apply pt5 | apply pt6 | apply pt7 | apply pt8 | apply pt9 | apply pt10 | apply pt11 | apply pt12 | apply pt13 | apply pt14 | apply pt15 | apply pt16 | apply pt17)))) (wl_ex fun x134 hx134 => ?_)
          refine wl_y rfl (y_pick_t rfl rfl) ?_
          refine wl_y rfl (y_assign rfl) ?_
          refine wl_nil ?_
          refine wq_then ?_
          refine wc_ret ?_
          refine wq_ret1 rfl rfl (fun w hw => ?_)
          exact ⟨(), trivial, rfl, hw.bare⟩

theorem once_all (w : Int) (oo : Option Addr) (cc : Nat) (ops : List (Bool × Int × Int)) : Ctr Try.prog 4 #[vI w, .slice oo ops.length cc] [rsl oo ops.length 3 (ops.flatMap encOp)] [] (fun _ : Unit => True) (fun _ => .bool true) (fun _ => []) := by
  rcases Int.lt_or_le w 1 with h | h
  · exact once_lo w h oo cc ops
  rcases Int.lt_or_le 1000000 w with h' | h'
  · exact once_hi w h' oo cc ops
  exact once_ok w (by omega) h' oo cc ops
end Go.Proofs.Ytblhphnnnihkmaa
