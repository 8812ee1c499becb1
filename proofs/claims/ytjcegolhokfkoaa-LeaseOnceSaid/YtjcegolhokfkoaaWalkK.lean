/-
  Walks: the reference's leases are renewed.
-/
import Derived.Test.YtjcegolhokfkoaaWalkJ
namespace Go.Proofs.Ytjcegolhokfkoaa
open Go.Eng

set_option maxHeartbeats 1000000 in
theorem rrenew_c (b : Nat) (r : Rt) (key : Str) (epoch now : Int) (hr : r.ok) :
    Ctr Try.prog 15 #[ptr b, vS key, vI epoch, vI now] [] [rtA b r] (fun _ : Unit => True) (fun _ => vI (r.renew key epoch now).2) (fun _ => [rtA b (r.renew key epoch now).1]) := by
  refine spec_start (n := 57) [(0, ptr b), (1, vS key), (2, vI epoch), (3, vI now)] Try.func15 rfl rfl ⟨rfl, rfl, rfl, rfl, trivial⟩ rfl ?_
  intro w0 K hR
  obtain ⟨h1, h2, h3, h4, h5⟩ := id hr
  refine wc_ex rt_open (fun oc => ?_)
  refine wc_seq ?_
  refine wc_region ?_
  refine wl_y rfl (y_assign rfl) ?_
  refine wl_nil ?_
  refine wq_then ?_
  refine wc_seq ?_
  refine wc_seq ?_
  refine wc_region ?_
  refine wl_y rfl (y_move rfl) ?_
  refine wl_q (fun _ _ => want_none) rfl (yq_spec (fst := []) (cap := []) _ FN31 (rtime_c now) rfl rfl rfl (by (repeat (first | exact pt_nil | apply pt0 | apply pt1 | apply pt2 | apply pt3 | apply pt4 | apply pt5 | apply pt6 | apply pt7 | apply pt8 | apply pt9 | apply pt10 | apply pt11 | apply pt12 | apply pt13 | apply pt14 | apply pt15 | apply pt16 | apply pt17))) (by (repeat (first | exact ro_nil | exact ro_rest (by assumption) | refine ro_cons (by first | exact .inl (by assumption) | exact ro_f0 (fun _ h => h) | exact ro_f0 (fun _ => slc_rsl) | exact ro_f1 (fun _ h => h) | exact ro_f1 (fun _ => slc_rsl) | exact ro_f2 (fun _ h => h) | exact ro_f2 (fun _ => slc_rsl) | exact ro_f3 (fun _ h => h) | exact ro_f3 (fun _ => slc_rsl) | exact ro_f4 (fun _ h => h) | exact ro_f4 (fun _ => slc_rsl) | exact ro_f5 (fun _ h => h) | exact ro_f5 (fun _ => slc_rsl) | exact ro_f6 (fun _ h => h) | exact ro_f6 (fun _ => slc_rsl)) ?_))) (fun _ _ => rfl) (fun _ _ _ h => h.sub (by (repeat (first | exact pt_nil | apply pt0 | apply pt1 | apply pt2 | apply pt3 | apply pt4 | apply pt5 | apply pt6 | apply pt7 | apply pt8 | apply pt9 | apply pt10 | apply pt11 | apply pt12 | apply pt13 | apply pt14 | apply pt15 | apply pt16 | apply pt17))))) ?_
  refine wl_y rfl (y_not rfl) ?_
  refine wl_nil ?_
  refine wq_then ?_
  refine wc_cond rfl (fun hc13 => ?_) (fun hc13 => ?_)
  ·
    simp at hc13
    refine wc_seq ?_
    refine wc_region ?_
    refine wl_y rfl (y_assign rfl) ?_
    refine wl_nil ?_
    refine wq_then ?_
    refine wc_ret ?_
    refine wq_then_ret ?_
    refine wq_ret1 rfl rfl (fun w hw => ?_)
    exact ⟨(), trivial, by simp only [Rt.renew, hc13, Bool.false_eq_true, if_false], by simp only [Rt.renew, hc13, Bool.false_eq_true, if_false]; exact rt_shut oc hw⟩
  ·
    simp at hc13
    have htb : 0 ≤ now ∧ now ≤ 1000000000 := by simpa [timeB] using hc13
    refine wc_skip ?_
    refine wq_then ?_
    refine wc_seq ?_
    refine wc_region ?_
    refine wl_y rfl (y_move rfl) ?_
    refine wl_y rfl (y_move rfl) ?_
    refine wl_q (fun _ _ => want_none) rfl (yq_spec (fst := []) (cap := []) _ FN32 (at_c b r oc key h5) rfl rfl rfl (by (repeat (first | exact pt_nil | apply pt0 | apply pt1 | apply pt2 | apply pt3 | apply pt4 | apply pt5 | apply pt6 | apply pt7 | apply pt8 | apply pt9 | apply pt10 | apply pt11 | apply pt12 | apply pt13 | apply pt14 | apply pt15 | apply pt16 | apply pt17))) (by (repeat (first | exact ro_nil | exact ro_rest (by assumption) | refine ro_cons (by first | exact .inl (by assumption) | exact ro_f0 (fun _ h => h) | exact ro_f0 (fun _ => slc_rsl) | exact ro_f1 (fun _ h => h) | exact ro_f1 (fun _ => slc_rsl) | exact ro_f2 (fun _ h => h) | exact ro_f2 (fun _ => slc_rsl) | exact ro_f3 (fun _ h => h) | exact ro_f3 (fun _ => slc_rsl) | exact ro_f4 (fun _ h => h) | exact ro_f4 (fun _ => slc_rsl) | exact ro_f5 (fun _ h => h) | exact ro_f5 (fun _ => slc_rsl) | exact ro_f6 (fun _ h => h) | exact ro_f6 (fun _ => slc_rsl)) ?_))) (fun _ _ => rfl) (fun _ _ _ h => h.sub (by (repeat (first | exact pt_nil | apply pt0 | apply pt1 | apply pt2 | apply pt3 | apply pt4 | apply pt5 | apply pt6 | apply pt7 | apply pt8 | apply pt9 | apply pt10 | apply pt11 | apply pt12 | apply pt13 | apply pt14 | apply pt15 | apply pt16 | apply pt17))))) ?_
    refine wl_y rfl (y_move rfl) ?_
    refine wl_y rfl (y_extract rfl rfl) ?_
    refine wl_y rfl (y_extract rfl rfl) ?_
    refine wl_y rfl (y_assign rfl) ?_
    refine wl_y rfl (y_assign rfl) ?_
    refine wl_nil ?_
    refine wq_then ?_
    refine wc_seq ?_
    refine wc_seq ?_
    refine wc_region ?_
    refine wl_y rfl (y_move rfl) ?_
    refine wl_y rfl (y_not rfl) ?_
    refine wl_nil ?_
    refine wq_then ?_
    refine wc_cond rfl (fun hc21 => ?_) (fun hc21 => ?_)
    ·
      simp at hc21
      refine wc_seq ?_
      refine wc_region ?_
      refine wl_y rfl (y_assign rfl) ?_
      refine wl_nil ?_
      refine wq_then ?_
      refine wc_ret ?_
      refine wq_then_ret ?_
      refine wq_ret1 rfl rfl (fun w hw => ?_)
      exact ⟨(), trivial, by simp only [Rt.renew, hc13, if_true, hc21, Bool.false_eq_true, if_false], by simp only [Rt.renew, hc13, if_true, hc21, Bool.false_eq_true, if_false]; exact rt_shut oc hw⟩
    ·
      simp at hc21
      obtain ⟨x, hx, hxk⟩ := has_get hc21
      have hgx : r.get key = x := by simp [Rt.get, hx]
      have hil := (List.getElem?_eq_some_iff.1 hx).1
      refine wc_skip ?_
      refine wq_then ?_
      refine wc_seq ?_
      refine wc_seq ?_
      refine wc_region ?_
      refine wl_y rfl (y_move rfl) ?_
      refine wl_y rfl (y_nilCheck rfl) ?_
      refine wl_y rfl (y_fieldAddr F50_0 rfl) ?_
      refine wl_y rfl (y_load NA36 rfl (by first | exact cell_blk [] rfl | exact cell_blk [_] rfl | exact cell_blk [_, _] rfl | exact cell_blk [_, _, _] rfl | exact cellR_blk (by assumption) rfl)) ?_
      refine wl_y rfl (y_move rfl) ?_
      refine wl_y rfl (y_indexAddr Try.underlying36 T30 rfl rfl rfl (by omega) (by first | assumption | exact fun _ _ => rfl | exact fun w hw => hw.slc_isSome [] (by omega) | exact fun w hw => hw.slc_isSome [_] (by omega) | exact fun w hw => hw.slc_isSome [_, _] (by omega) | exact fun w hw => hw.slc_isSome [_, _, _] (by omega))) ?_
      refine wl_y rfl (y_fieldAddr_adr F30_2 rfl) ?_
      refine wl_y rfl (y_load NA3 rfl (by first | exact cell_own [] (rows_get encL_len hx rfl) | exact cell_own [_] (rows_get encL_len hx rfl) | exact cell_own [_, _] (rows_get encL_len hx rfl) | exact cell_own [_, _, _] (rows_get encL_len hx rfl))) ?_
      refine wl_y rfl (y_move rfl) ?_
      refine wl_y rfl (y_neqI rfl rfl) ?_
      refine wl_y rfl (y_move rfl) ?_
      apply wl_or 11 43 [(0, _), (3, _), (9, _)] (t := 32) rfl ⟨rfl, rfl, rfl, trivial⟩
      · intro hg32 hM43
        refine wl_sk rfl rfl rfl rfl ?_
        refine wl_sk rfl rfl rfl rfl ?_
        refine wl_sk rfl rfl rfl rfl ?_
        refine wl_sk rfl rfl rfl rfl ?_
        refine wl_sk rfl rfl rfl rfl ?_
        refine wl_sk rfl rfl rfl rfl ?_
        refine wl_sk rfl rfl rfl rfl ?_
        refine wl_sk rfl rfl rfl rfl ?_
        refine wl_sk rfl rfl rfl rfl ?_
        refine wl_sk rfl rfl rfl rfl ?_
        refine wl_y rfl (y_pick_t rfl rfl) ?_
        exact wl_weaken hM43 ⟨rfl, rfl, rfl, rfl, trivial⟩
      · intro hg32 hM43
        try (simp at hg32)
        refine wl_yg rfl rfl rfl (y_move rfl) ?_
        refine wl_yg rfl rfl rfl (y_nilCheck rfl) ?_
        refine wl_yg rfl rfl rfl (y_fieldAddr F50_0 rfl) ?_
        refine wl_yg rfl rfl rfl (y_load NA36 rfl (by first | exact cell_blk [] rfl | exact cell_blk [_] rfl | exact cell_blk [_, _] rfl | exact cell_blk [_, _, _] rfl | exact cellR_blk (by assumption) rfl)) ?_
        refine wl_yg rfl rfl rfl (y_move rfl) ?_
        refine wl_yg rfl rfl rfl (y_indexAddr Try.underlying36 T30 rfl rfl rfl (by omega) (by first | assumption | exact fun _ _ => rfl | exact fun w hw => hw.slc_isSome [] (by omega) | exact fun w hw => hw.slc_isSome [_] (by omega) | exact fun w hw => hw.slc_isSome [_, _] (by omega) | exact fun w hw => hw.slc_isSome [_, _, _] (by omega))) ?_
        refine wl_yg rfl rfl rfl (y_fieldAddr_adr F30_3 rfl) ?_
        refine wl_yg rfl rfl rfl (y_load NA3 rfl (by first | exact cell_own [] (rows_get encL_len hx rfl) | exact cell_own [_] (rows_get encL_len hx rfl) | exact cell_own [_, _] (rows_get encL_len hx rfl) | exact cell_own [_, _, _] (rows_get encL_len hx rfl))) ?_
        refine wl_yg rfl rfl rfl (y_move rfl) ?_
        refine wl_yg rfl rfl rfl (y_lss rfl rfl) ?_
        refine wl_y rfl (y_pick_f rfl rfl) ?_
        exact wl_weaken hM43 ⟨rfl, rfl, rfl, rfl, trivial⟩
      ·
        refine wl_nil ?_
        refine wq_then ?_
        refine wc_cond rfl (fun hc43 => ?_) (fun hc43 => ?_)
        ·
          refine wc_seq ?_
          refine wc_region ?_
          refine wl_y rfl (y_assign rfl) ?_
          refine wl_nil ?_
          refine wq_then ?_
          refine wc_ret ?_
          refine wq_then_ret ?_
          refine wq_ret1 rfl rfl (fun w hw => ?_)
          have e : r.renew key epoch now = (r, 44) := by
            simp only [Rt.renew, hc13, hc21, if_true, hgx]
            rw [if_neg (by simp at hc43 ⊢; omega)]
          rw [e]; exact ⟨(), trivial, rfl, rt_shut oc hw⟩
        ·
          refine wc_skip ?_
          refine wq_then ?_
          refine wc_seq ?_
          refine wc_mix (.q 0 0 (.q 1 0 (.q 2 0 (.q 3 0 (.q 4 0 (.q 5 0 (.q 6 0 (.q 7 0 (.q 8 0 (.q 9 0 (.q 10 0 (.q 11 0 (.q 12 0 (.w 13 2 .nil .nil)))))))))))))) (Sees [blk b (.cells (rtCells r oc).toArray 50 (0, 0))]) MO (by kernel_rfl) (Hp.drawless _ _ _) (fun w hw => by refine ⟨?_, trivial⟩ <;> first | exact hw.seen [] | exact hw.seen [_] | exact hw.seen [_, _] | exact hw.seen [_, _, _] | exact hw.seen [_, _, _, _] | exact hw.seen [_, _, _, _, _]) ?_
          refine wm_have (p := oc.1.isSome = true) (fun w hw => hw.slc_isSome [_] (by omega)) (fun hos => ?_)
          refine wm_g rfl rfl (y_move rfl) ?_
          refine wm_g rfl rfl (y_nilCheck rfl) ?_
          refine wm_g rfl rfl (y_fieldAddr F50_0 rfl) ?_
          refine wm_g rfl rfl (y_load NA36 rfl (fun w hw => by first | exact cell_of_heap hw.1.blk rfl)) ?_
          refine wm_g rfl rfl (y_move rfl) ?_
          refine wm_g rfl rfl (y_move rfl) ?_
          refine wm_g rfl rfl (y_move rfl) ?_
          refine wm_g rfl rfl (y_nilCheck rfl) ?_
          refine wm_g rfl rfl (y_fieldAddr F50_1 rfl) ?_
          refine wm_g rfl rfl (y_load NA3 rfl (fun w hw => by first | exact cell_of_heap hw.1.blk rfl)) ?_
          refine wm_g rfl rfl (y_add rfl rfl (by omega)) ?_
          refine wm_g rfl rfl (y_indexAddr Try.underlying36 T30 rfl rfl rfl (by omega) (fun _ _ => hos)) ?_
          refine wm_g rfl rfl (y_fieldAddr_adr F30_3 rfl) ?_
          refine wm_u rfl (fun _ hw => by refine ⟨?_, trivial⟩ <;> first | exact hw.seen [] | exact hw.seen [_] | exact hw.seen [_, _] | exact hw.seen [_, _, _] | exact hw.seen [_, _, _, _] | exact hw.seen [_, _, _, _, _]) (yu_storeSl [_] (e := 30) T3 rfl rfl rfl rfl rfl (by simp [rows_length encL_len]; omega)) ?_
          refine wm_nil ?_
          refine all_wq ?_
          refine wq_then ?_
          refine wc_seq ?_
          refine wc_region ?_
          refine wl_y rfl (y_assign rfl) ?_
          refine wl_nil ?_
          refine wq_then ?_
          refine wc_ret ?_
          refine wq_ret1 rfl rfl (fun w hw => ?_)
          have e : r.renew key epoch now = ({ r with l := r.l.set (r.at key) { x with upto := now + r.ttl } }, 0) := by
            simp only [Rt.renew, hc13, hc21, if_true, hgx]
            rw [if_pos (by simp at hc43 ⊢; omega)]
          have e2 := rows_setOne encL_len (j := 5) (x' := { x with upto := now + r.ttl }) (v := vI (now + r.ttl)) hx (by omega) rfl
          rw [e2] at hw
          rw [e]; exact ⟨(), trivial, rfl, rt_shut oc (by simp only [rtAs, rtCells, List.length_set]; exact hw)⟩

end Go.Proofs.Ytjcegolhokfkoaa
