/-
  Walks: a packet is taken.
-/
import Derived.Test.YtodcciahagefnaaWalkA

namespace Go.Proofs.Ytodcciahagefnaa
open Go.Eng

theorem acked_came (s : LE) (a : Int) : (s.acked a).came = s.came := by unfold LE.acked; split <;> rfl
theorem acked_window (s : LE) (a : Int) : (s.acked a).window = s.window := by unfold LE.acked; split <;> rfl
set_option maxHeartbeats 1000000 in
theorem take_spec (b : Nat) (s : LE) (p : Pk) (hs : s.ok) (hp : -9223372036854775808 ≤ p.ack ∧ p.ack ≤ 9223372036854775807) :
    Ctr Try.prog 10 #[ptr b, vP p] [] [endA b s] (fun _ : Unit => True) (fun _ => .tuple #[vS (s.take p).2.1, .bool (s.take p).2.2]) (fun _ => [endA b (s.take p).1]) := by
  refine spec_start (n := 63) [(0, ptr b), (1, vP p)] Try.func10 rfl rfl ⟨rfl, rfl, trivial⟩ rfl ?_
  intro w0 K hR
  obtain ⟨h1, h2, h3, h4⟩ := hs
  refine wc_ex end_open (fun oc => ?_)
  obtain ⟨o, cap⟩ := oc
  refine wc_seq ?_
  refine wc_region ?_
  refine wl_have (p := s.opens.length ≤ cap) (fun w hw => hw.slc_le [_]) (fun hcap => ?_)
  refine wl_w (fun _ _ => want_none) rfl (yw_box rfl rfl) (wl_ex fun b3 _ => ?_)
  refine wl_y rfl (y_assign rfl) ?_
  refine wl_y rfl (y_assign rfl) ?_
  refine wl_nil ?_
  refine wq_then ?_
  refine wc_seq ?_
  refine wc_seq ?_
  refine wc_region ?_
  refine wl_y rfl (y_move rfl) ?_
  refine wl_y rfl (y_eqlP Try.underlying23 rfl rfl) ?_
  refine wl_nil ?_
  refine wq_then ?_
  refine wc_known 8 false rfl (rfl) ?_
  refine wc_cond_false rfl ?_
  refine wc_skip ?_
  refine wq_then ?_
  refine wc_seq (wc_cut (α := Option Addr × Nat) (fun x => True) [(0, _), (3, _)] (fun x => []) (fun x => Hp w0 K (blk b3 (.cells (encP p).toArray 32 (0, 0)) :: endAs b (s.acked p.ack) x)) ⟨rfl, rfl, trivial⟩ ?_ ?_)
  ·
    refine wc_seq ?_
    refine wc_quiet MO (by kernel_rfl) (Hp.drawless _ _ _) ?_
    refine wt_y rfl (y_fieldAddr F32_1 rfl) ?_
    refine wt_y rfl (y_load NA3 rfl (by first | exact cell_blk [] rfl | exact cell_blk [_] rfl | exact cell_blk [_, _] rfl)) ?_
    refine wt_y rfl (y_move rfl) ?_
    refine wt_y rfl (y_nilCheck rfl) ?_
    refine wt_y rfl (y_fieldAddr F55_2 rfl) ?_
    refine wt_y rfl (y_load NA3 rfl (by first | exact cell_blk [] rfl | exact cell_blk [_] rfl | exact cell_blk [_, _] rfl)) ?_
    refine wt_y rfl (y_subW rfl rfl) ?_
    refine wt_y rfl (y_assign rfl) ?_
    refine wt_nil ?_
    refine wq_then ?_
    refine wc_seq ?_
    refine wc_quiet MO (by kernel_rfl) (Hp.drawless _ _ _) ?_
    refine wt_y rfl (y_fieldAddr F32_1 rfl) ?_
    refine wt_y rfl (y_load NA3 rfl (by first | exact cell_blk [] rfl | exact cell_blk [_] rfl | exact cell_blk [_, _] rfl)) ?_
    refine wt_y rfl (y_move rfl) ?_
    refine wt_y rfl (y_nilCheck rfl) ?_
    refine wt_y rfl (y_fieldAddr F55_2 rfl) ?_
    refine wt_y rfl (y_load NA3 rfl (by first | exact cell_blk [] rfl | exact cell_blk [_] rfl | exact cell_blk [_, _] rfl)) ?_
    refine wt_y rfl (y_gtr rfl rfl) ?_
    refine wt_y rfl (y_move rfl) ?_
    refine wt_case 23 rfl (fun hg23 => ?_) (fun hg23 => ?_)
    ·
      simp at hg23
      refine wt_yg rfl rfl rfl (y_move rfl) ?_
      refine wt_yg rfl rfl rfl (y_move rfl) ?_
      refine wt_yg rfl rfl rfl (y_nilCheck rfl) ?_
      refine wt_yg rfl rfl rfl (y_fieldAddr F55_1 rfl) ?_
      refine wt_yg rfl rfl rfl (y_load NA45 rfl (by first | exact cell_blk [] rfl | exact cell_blk [_] rfl | exact cell_blk [_, _] rfl)) ?_
      refine wt_yg rfl rfl rfl (y_lenSl Try.underlying45 rfl) ?_
      refine wt_yg rfl rfl rfl (y_leq rfl rfl) ?_
      refine wt_y rfl (y_pick_t rfl rfl) ?_
      refine wt_nil ?_
      refine wq_then ?_
      refine wc_cond rfl (fun hc31 => ?_) (fun hc31 => ?_)
      ·
        first | replace hc31 := of_decide_eq_true hc31 | replace hc31 := of_decide_eq_false hc31
        rw [IntWalk.i64_in (p.ack - s.known) (by omega)] at hc31
        have hwr : IntKind.i64.wrap (p.ack - ↑s.known) = ((p.ack - s.known).toNat : Int) := by rw [IntWalk.i64_in (p.ack - s.known) (by omega)]; omega
        have hin : (p.ack - s.known).toNat ≤ s.opens.length := by omega
        refine wc_mix (.q 0 0 (.q 1 0 (.q 2 0 (.q 3 0 (.q 4 0 (.q 5 1 (.q 6 0 (.q 7 0 (.q 8 0 (.q 9 0 (.q 10 0 (.q 11 0 (.w 12 2 (.q 13 0 (.q 14 0 (.w 15 2 .nil .nil))) .nil))))))))))))) (Seen (blk b3 (.cells (encP p).toArray 32 (0, 0)))) MO (by kernel_rfl) (Hp.drawless _ _ _) (fun w hw => by first | exact hw.seen [] | exact hw.seen [_] | exact hw.seen [_, _] | exact hw.seen [_, _, _] | exact hw.seen [_, _, _, _]) ?_
        refine wm_g rfl rfl (y_move rfl) ?_
        refine wm_g rfl rfl (y_move rfl) ?_
        refine wm_g rfl rfl (y_move rfl) ?_
        refine wm_g rfl rfl (y_nilCheck rfl) ?_
        refine wm_g rfl rfl (y_fieldAddr F55_1 rfl) ?_
        refine wm_l rfl rfl (y_load NA45 rfl (by first | exact cell_blk [] rfl | exact cell_blk [_] rfl | exact cell_blk [_, _] rfl)) ?_
        refine wm_g rfl rfl (y_move rfl) ?_
        refine wm_g rfl rfl (y_sliceSl Try.underlying45 T9 rfl ⟨_, rfl, hwr⟩ rfl hin (by omega)) ?_
        refine wm_g rfl rfl (y_fieldAddr F32_1 rfl) ?_
        refine wm_g rfl rfl (y_load NA3 rfl (fun w hw => cell_of_heap hw.blk rfl)) ?_
        refine wm_g rfl rfl (y_nilCheck rfl) ?_
        refine wm_g rfl rfl (y_fieldAddr F55_1 rfl) ?_
        first | refine wm_u rfl (fun _ hw => by first | exact hw.seen [] | exact hw.seen [_] | exact hw.seen [_, _] | exact hw.seen [_, _, _] | exact hw.seen [_, _, _, _] | exact hw.seen [_, _, _, _, _]) (yu_store [] (l' := [_, _, _, _]) T45 rfl rfl rfl rfl rfl rfl rfl) ?_ | refine wm_u rfl (fun _ hw => by first | exact hw.seen [] | exact hw.seen [_] | exact hw.seen [_, _] | exact hw.seen [_, _, _] | exact hw.seen [_, _, _, _] | exact hw.seen [_, _, _, _, _]) (yu_store [_] (l' := [_, _, _, _]) T45 rfl rfl rfl rfl rfl rfl rfl) ?_ | refine wm_u rfl (fun _ hw => by first | exact hw.seen [] | exact hw.seen [_] | exact hw.seen [_, _] | exact hw.seen [_, _, _] | exact hw.seen [_, _, _, _] | exact hw.seen [_, _, _, _, _]) (yu_store [_, _] (l' := [_, _, _, _]) T45 rfl rfl rfl rfl rfl rfl rfl) ?_
        refine wm_g rfl rfl (y_nilCheck rfl) ?_
        refine wm_g rfl rfl (y_fieldAddr F55_2 rfl) ?_
        first | refine wm_u rfl (fun _ hw => by first | exact hw.seen [] | exact hw.seen [_] | exact hw.seen [_, _] | exact hw.seen [_, _, _] | exact hw.seen [_, _, _, _] | exact hw.seen [_, _, _, _, _]) (yu_store [] (l' := [_, _, _, _]) T3 rfl rfl rfl rfl rfl rfl rfl) ?_ | refine wm_u rfl (fun _ hw => by first | exact hw.seen [] | exact hw.seen [_] | exact hw.seen [_, _] | exact hw.seen [_, _, _] | exact hw.seen [_, _, _, _] | exact hw.seen [_, _, _, _, _]) (yu_store [_] (l' := [_, _, _, _]) T3 rfl rfl rfl rfl rfl rfl rfl) ?_ | refine wm_u rfl (fun _ hw => by first | exact hw.seen [] | exact hw.seen [_] | exact hw.seen [_, _] | exact hw.seen [_, _, _] | exact hw.seen [_, _, _, _] | exact hw.seen [_, _, _, _, _]) (yu_store [_, _] (l' := [_, _, _, _]) T3 rfl rfl rfl rfl rfl rfl rfl) ?_
        refine wm_nil ?_
        refine all_wq ?_
        exact wq_cut (cutAt o (p.ack - s.known).toNat cap 1, cap - (p.ack - s.known).toNat) trivial ⟨rfl, rfl, trivial⟩ (fun w hw => end_acked hg23 hc31 rfl hw)
      ·
        first | replace hc31 := of_decide_eq_true hc31 | replace hc31 := of_decide_eq_false hc31
        rw [IntWalk.i64_in (p.ack - s.known) (by omega)] at hc31
        refine wc_skip ?_
        exact wq_cut (o, cap) trivial ⟨rfl, rfl, trivial⟩ (fun w hw => by rw [show s.acked p.ack = s from if_neg (by omega)]; exact hw)
    ·
      simp at hg23
      refine wt_sk rfl rfl rfl rfl ?_
      refine wt_sk rfl rfl rfl rfl ?_
      refine wt_sk rfl rfl rfl rfl ?_
      refine wt_sk rfl rfl rfl rfl ?_
      refine wt_sk rfl rfl rfl rfl ?_
      refine wt_sk rfl rfl rfl rfl ?_
      refine wt_sk rfl rfl rfl rfl ?_
      refine wt_y rfl (y_pick_f rfl rfl) ?_
      refine wt_nil ?_
      refine wq_then ?_
      refine wc_cond_false rfl ?_
      refine wc_skip ?_
      exact wq_cut (o, cap) trivial ⟨rfl, rfl, trivial⟩ (fun w hw => by rw [show s.acked p.ack = s from if_neg (by omega)]; exact hw)
  · intro oc _; have hcm := acked_came s p.ack
    refine all_wc ?_
    refine wc_seq ?_
    refine wc_seq ?_
    refine wc_quiet MO (by kernel_rfl) (Hp.drawless _ _ _) ?_
    refine wt_y rfl (y_fieldAddr F32_0 rfl) ?_
    refine wt_y rfl (y_load NA3 rfl (by first | exact cell_blk [] rfl | exact cell_blk [_] rfl | exact cell_blk [_, _] rfl)) ?_
    refine wt_y rfl (y_move rfl) ?_
    refine wt_y rfl (y_nilCheck rfl) ?_
    refine wt_y rfl (y_fieldAddr F55_3 rfl) ?_
    refine wt_y rfl (y_load NA3 rfl (by first | exact cell_blk [] rfl | exact cell_blk [_] rfl | exact cell_blk [_, _] rfl)) ?_
    refine wt_y rfl (y_add rfl rfl (by omega)) ?_
    refine wt_y rfl (y_neqI rfl rfl) ?_
    refine wt_nil ?_
    refine wq_then ?_
    refine wc_cond rfl (fun hc53 => ?_) (fun hc53 => ?_)
    ·
      simp at hc53
      refine wc_seq ?_
      refine wc_region ?_
      refine wl_y rfl (y_assign rfl) ?_
      refine wl_y rfl (y_assign rfl) ?_
      refine wl_nil ?_
      refine wq_then ?_
      refine wc_ret ?_
      refine wq_then_ret ?_
      refine wq_ret2 rfl rfl rfl (fun w hw => ?_)
      obtain ⟨o', cap'⟩ := oc
      rw [show s.take p = ((s.acked p.ack), [], false) from if_neg hc53]
      exact ⟨(), trivial, rfl, end_shut (o', cap') hw.drop⟩
    ·
      simp at hc53
      refine wc_skip ?_
      refine wq_then ?_
      refine wc_seq ?_
      refine wc_region ?_
      refine wl_y rfl (y_move rfl) ?_
      refine wl_y rfl (y_nilCheck rfl) ?_
      refine wl_y rfl (y_fieldAddr F55_3 rfl) ?_
      refine wl_y rfl (y_load NA3 rfl (by first | exact cell_blk [] rfl | exact cell_blk [_] rfl | exact cell_blk [_, _] rfl)) ?_
      refine wl_y rfl (y_add rfl rfl (by omega)) ?_
      refine wl_y rfl (y_nilCheck rfl) ?_
      refine wl_y rfl (y_fieldAddr F55_3 rfl) ?_
      first | refine wl_u (yu_store [] (l' := [_, _, _, _]) T3 rfl rfl rfl rfl rfl rfl rfl) ?_ | refine wl_u (yu_store [_] (l' := [_, _, _, _]) T3 rfl rfl rfl rfl rfl rfl rfl) ?_ | refine wl_u (yu_store [_, _] (l' := [_, _, _, _]) T3 rfl rfl rfl rfl rfl rfl rfl) ?_
      refine wl_nil ?_
      refine wq_then ?_
      refine wc_seq ?_
      refine wc_region ?_
      refine wl_y rfl (y_fieldAddr F32_2 rfl) ?_
      refine wl_y rfl (y_load NA9 rfl (by first | exact cell_blk [] rfl | exact cell_blk [_] rfl | exact cell_blk [_, _] rfl)) ?_
      refine wl_y rfl (y_assign rfl) ?_
      refine wl_y rfl (y_assign rfl) ?_
      refine wl_nil ?_
      refine wq_then ?_
      refine wc_ret ?_
      refine wq_ret2 rfl rfl rfl (fun w hw => ?_)
      obtain ⟨o', cap'⟩ := oc
      rw [show s.take p = ({ s.acked p.ack with came := (s.acked p.ack).came + 1 }, p.data, true) from if_pos hc53]
      exact ⟨(), trivial, rfl, end_shut (o', cap') (by simpa [endAs, endCells] using hw.drop)⟩

theorem racked_came (s : RE) (a : Int) : (s.acked a).came = s.came := by unfold RE.acked; split <;> rfl
set_option maxHeartbeats 1000000 in
theorem rtake_spec (b : Nat) (s : RE) (p : Pk) (hs : s.ok) :
    Ctr Try.prog 11 #[ptr b, vP p] [] [refA b s] (fun _ : Unit => True) (fun _ => .tuple #[vS (s.take p).2.1, .bool (s.take p).2.2]) (fun _ => [refA b (s.take p).1]) := by
  refine spec_start (n := 39) [(0, ptr b), (1, vP p)] Try.func11 rfl rfl ⟨rfl, rfl, trivial⟩ rfl ?_
  intro w0 K hR
  obtain ⟨h1, h2, h3, h4⟩ := id hs
  refine wc_ex ref_open (fun oc => ?_)
  obtain ⟨o, cap⟩ := oc
  refine wc_seq ?_
  refine wc_region ?_
  refine wl_w (fun _ _ => want_none) rfl (yw_box rfl rfl) (wl_ex fun b3 _ => ?_)
  refine wl_y rfl (y_assign rfl) ?_
  refine wl_y rfl (y_assign rfl) ?_
  refine wl_nil ?_
  refine wq_then ?_
  refine wc_seq (wc_cut (α := Unit) (fun x => True) [(0, _), (3, _)] (fun x => []) (fun x => Hp w0 K (blk b3 (.cells (encP p).toArray 32 (0, 0)) :: refAs b (s.acked p.ack) (o, cap))) ⟨rfl, rfl, trivial⟩ ?_ ?_)
  ·
    refine wc_seq ?_
    refine wc_quiet MO (by kernel_rfl) (Hp.drawless _ _ _) ?_
    refine wt_y rfl (y_fieldAddr F32_1 rfl) ?_
    refine wt_y rfl (y_load NA3 rfl (by first | exact cell_blk [] rfl | exact cell_blk [_] rfl | exact cell_blk [_, _] rfl)) ?_
    refine wt_y rfl (y_move rfl) ?_
    refine wt_y rfl (y_nilCheck rfl) ?_
    refine wt_y rfl (y_fieldAddr F57_1 rfl) ?_
    refine wt_y rfl (y_load NA45 rfl (by first | exact cell_blk [] rfl | exact cell_blk [_] rfl | exact cell_blk [_, _] rfl)) ?_
    refine wt_y rfl (y_lenSl Try.underlying45 rfl) ?_
    refine wt_y rfl (y_leq rfl rfl) ?_
    refine wt_nil ?_
    refine wq_then ?_
    refine wc_cond rfl (fun hc13 => ?_) (fun hc13 => ?_)
    ·
      simp at hc13
      refine wc_mix (.q 0 0 (.q 1 0 (.q 2 0 (.q 3 0 (.q 4 1 (.q 5 0 (.q 6 1 (.q 7 0 (.q 8 0 (.q 9 0 (.w 10 2 .nil .nil))))))))))) (fun _ => True) MO (by kernel_rfl) (Hp.drawless _ _ _) (fun _ _ => trivial) ?_
      refine wm_g rfl rfl (y_move rfl) ?_
      refine wm_g rfl rfl (y_move rfl) ?_
      refine wm_g rfl rfl (y_nilCheck rfl) ?_
      refine wm_g rfl rfl (y_fieldAddr F57_2 rfl) ?_
      refine wm_l rfl rfl (y_load NA3 rfl (by first | exact cell_blk [] rfl | exact cell_blk [_] rfl | exact cell_blk [_, _] rfl)) ?_
      refine wm_g rfl rfl (y_fieldAddr F32_1 rfl) ?_
      refine wm_l rfl rfl (y_load NA3 rfl (by first | exact cell_blk [] rfl | exact cell_blk [_] rfl | exact cell_blk [_, _] rfl)) ?_
      refine wm_g rfl rfl (y_max rfl rfl) ?_
      refine wm_g rfl rfl (y_nilCheck rfl) ?_
      refine wm_g rfl rfl (y_fieldAddr F57_2 rfl) ?_
      first | refine wm_u rfl (fun _ _ => trivial) (yu_store [] (l' := [_, _, _, _]) T3 rfl rfl rfl rfl rfl rfl rfl) ?_ | refine wm_u rfl (fun _ _ => trivial) (yu_store [_] (l' := [_, _, _, _]) T3 rfl rfl rfl rfl rfl rfl rfl) ?_ | refine wm_u rfl (fun _ _ => trivial) (yu_store [_, _] (l' := [_, _, _, _]) T3 rfl rfl rfl rfl rfl rfl rfl) ?_
      refine wm_nil ?_
      refine all_wq ?_
      exact wq_cut () trivial ⟨rfl, rfl, trivial⟩ (fun w hw => by rw [show s.acked p.ack = { s with known := max s.known p.ack.toNat } from if_pos hc13]; simp only [refAs, refCells, show ((max s.known p.ack.toNat : Nat) : Int) = max (s.known : Int) p.ack by omega]; exact hw)
    ·
      simp at hc13
      refine wc_skip ?_
      exact wq_cut () trivial ⟨rfl, rfl, trivial⟩ (fun w hw => by rw [show s.acked p.ack = s from if_neg (by omega)]; exact hw)
  · intro _ _; have hcm := racked_came s p.ack
    refine all_wc ?_
    refine wc_seq ?_
    refine wc_seq ?_
    refine wc_quiet MO (by kernel_rfl) (Hp.drawless _ _ _) ?_
    refine wt_y rfl (y_fieldAddr F32_0 rfl) ?_
    refine wt_y rfl (y_load NA3 rfl (by first | exact cell_blk [] rfl | exact cell_blk [_] rfl | exact cell_blk [_, _] rfl)) ?_
    refine wt_y rfl (y_move rfl) ?_
    refine wt_y rfl (y_nilCheck rfl) ?_
    refine wt_y rfl (y_fieldAddr F57_3 rfl) ?_
    refine wt_y rfl (y_load NA3 rfl (by first | exact cell_blk [] rfl | exact cell_blk [_] rfl | exact cell_blk [_, _] rfl)) ?_
    refine wt_y rfl (y_add rfl rfl (by omega)) ?_
    refine wt_y rfl (y_neqI rfl rfl) ?_
    refine wt_nil ?_
    refine wq_then ?_
    refine wc_cond rfl (fun hc31 => ?_) (fun hc31 => ?_)
    ·
      simp at hc31
      refine wc_seq ?_
      refine wc_region ?_
      refine wl_y rfl (y_assign rfl) ?_
      refine wl_y rfl (y_assign rfl) ?_
      refine wl_nil ?_
      refine wq_then ?_
      refine wc_ret ?_
      refine wq_then_ret ?_
      refine wq_ret2 rfl rfl rfl (fun w hw => ?_)
      rw [show s.take p = ((s.acked p.ack), [], false) from if_neg hc31]
      exact ⟨(), trivial, rfl, ref_shut (s := s.acked p.ack) (o, cap) hw.drop⟩
    ·
      simp at hc31
      refine wc_skip ?_
      refine wq_then ?_
      refine wc_seq ?_
      refine wc_region ?_
      refine wl_y rfl (y_move rfl) ?_
      refine wl_y rfl (y_fieldAddr F32_0 rfl) ?_
      refine wl_y rfl (y_load NA3 rfl (by first | exact cell_blk [] rfl | exact cell_blk [_] rfl | exact cell_blk [_, _] rfl)) ?_
      refine wl_y rfl (y_nilCheck rfl) ?_
      refine wl_y rfl (y_fieldAddr F57_3 rfl) ?_
      first | refine wl_u (yu_store [] (l' := [_, _, _, _]) T3 rfl rfl rfl rfl rfl rfl rfl) ?_ | refine wl_u (yu_store [_] (l' := [_, _, _, _]) T3 rfl rfl rfl rfl rfl rfl rfl) ?_ | refine wl_u (yu_store [_, _] (l' := [_, _, _, _]) T3 rfl rfl rfl rfl rfl rfl rfl) ?_
      refine wl_nil ?_
      refine wq_then ?_
      refine wc_seq ?_
      refine wc_region ?_
      refine wl_y rfl (y_fieldAddr F32_2 rfl) ?_
      refine wl_y rfl (y_load NA9 rfl (by first | exact cell_blk [] rfl | exact cell_blk [_] rfl | exact cell_blk [_, _] rfl)) ?_
      refine wl_y rfl (y_assign rfl) ?_
      refine wl_y rfl (y_assign rfl) ?_
      refine wl_nil ?_
      refine wq_then ?_
      refine wc_ret ?_
      refine wq_ret2 rfl rfl rfl (fun w hw => ?_)
      rw [show s.take p = ({ s.acked p.ack with came := (s.acked p.ack).came + 1 }, p.data, true) from if_pos hc31]
      exact ⟨(), trivial, rfl, ref_shut (s := { s.acked p.ack with came := (s.acked p.ack).came + 1 }) (o, cap) (by rw [hc31] at hw; simpa [refAs, refCells] using hw.drop)⟩

set_option maxHeartbeats 1000000 in
theorem out_spec (b : Nat) (s : LE) (hs : s.ok) :
    Ctr Try.prog 15 #[ptr b] [] [endA b s] (fun _ : Option Addr × Nat => True) (fun x => .slice x.1 s.out.length x.2) (fun x => [endA b s, pksA x.1 x.2 s.out]) := by
  refine spec_start (n := 48) [(0, ptr b)] Try.func15 rfl rfl ⟨rfl, trivial⟩ rfl ?_
  intro w0 K hR
  obtain ⟨h1, h2, h3, h4⟩ := hs
  refine wc_ex end_open (fun oc => ?_)
  obtain ⟨o, cap⟩ := oc
  refine wc_seq ?_
  refine wc_region ?_
  refine wl_y rfl (y_assign rfl) ?_
  refine wl_nil ?_
  refine wq_then ?_
  refine wc_seq ?_
  refine wc_seq ?_
  refine wc_region ?_
  refine wl_y rfl (y_move rfl) ?_
  refine wl_y rfl (y_eqlP Try.underlying23 rfl rfl) ?_
  refine wl_nil ?_
  refine wq_then ?_
  refine wc_known 7 false rfl (rfl) ?_
  refine wc_cond_false rfl ?_
  refine wc_skip ?_
  refine wq_then ?_
  refine wc_seq ?_
  refine wc_seq ?_
  refine wc_region ?_
  refine wl_y rfl (y_move rfl) ?_
  refine wl_y rfl (y_nilCheck rfl) ?_
  refine wl_y rfl (y_fieldAddr F55_1 rfl) ?_
  refine wl_y rfl (y_load NA45 rfl (by first | exact cell_blk [] rfl | exact cell_blk [_] rfl | exact cell_blk [_, _] rfl | exact cell_blk [_, _, _] rfl)) ?_
  refine wl_y rfl (y_lenSl Try.underlying45 rfl) ?_
  refine wl_y rfl (y_eqlI rfl rfl) ?_
  refine wl_nil ?_
  refine wq_then ?_
  refine wc_cond rfl (fun hc13 => ?_) (fun hc13 => ?_)
  ·
    first | (replace hc13 := of_decide_eq_true hc13) | (replace hc13 := of_decide_eq_false hc13)
    refine wc_seq ?_
    refine wc_region ?_
    refine wl_y rfl (y_move rfl) ?_
    refine wl_y rfl (y_nilCheck rfl) ?_
    refine wl_y rfl (y_fieldAddr F55_3 rfl) ?_
    refine wl_y rfl (y_load NA3 rfl (by first | exact cell_blk [] rfl | exact cell_blk [_] rfl | exact cell_blk [_, _] rfl | exact cell_blk [_, _, _] rfl)) ?_
    refine wl_y rfl (y_build (cs := [_, _, _]) T32 PL32 rfl rfl rfl) ?_
    refine wl_w (fun _ _ => want_none) rfl (yw_buildSlice (cs := [_, _, _]) Try.underlying39 T32 rfl rfl rfl rfl rfl rfl rfl) (wl_ex fun b19 _ => ?_)
    refine wl_y rfl (y_assign rfl) ?_
    refine wl_nil ?_
    refine wq_then ?_
    refine wc_ret ?_
    refine wq_then_ret ?_
    refine wq_ret1 rfl rfl (fun w hw => ?_)
    have e : s.out = [⟨0, s.came, []⟩] := if_pos (by omega)
    rw [e]
    exact ⟨(_, _), trivial, rfl, end_shut (o, cap) (hw.perm (List.perm_append_comm (l₁ := [_])))⟩
  ·
    first | (replace hc13 := of_decide_eq_true hc13) | (replace hc13 := of_decide_eq_false hc13)
    refine wc_skip ?_
    refine wq_then ?_
    refine wc_seq ?_
    refine wc_region ?_
    refine wl_y rfl (y_assign rfl) ?_
    refine wl_nil ?_
    refine wq_then ?_
    refine wc_seq ?_
    refine wc_seq ?_
    refine wc_region ?_
    refine wl_y rfl (y_move rfl) ?_
    refine wl_y rfl (y_nilCheck rfl) ?_
    refine wl_y rfl (y_fieldAddr F55_1 rfl) ?_
    refine wl_y rfl (y_load NA45 rfl (by first | exact cell_blk [] rfl | exact cell_blk [_] rfl | exact cell_blk [_, _] rfl | exact cell_blk [_, _, _] rfl)) ?_
    refine wl_y rfl (y_lenSl Try.underlying45 rfl) ?_
    refine wl_y rfl (y_move rfl) ?_
    refine wl_nil ?_
    refine wq_then ?_
    refine wc_block ?_
    refine wc_loop (α := Nat × Option Addr × Nat) (fun x => x.1 ≤ s.opens.length) [(0, _), (23, _), (24, _)] (fun x => [(25, vI x.1), (3, .slice x.2.1 x.1 x.2.2)]) (fun x => Hp w0 K (endAs b s (o, cap) ++ [slc 32 3 x.2.1 x.1 x.2.2 ((s.pks.take x.1).flatMap encP)])) (fun x => s.opens.length - x.1) (0, none, 0) ?_ ⟨rfl, rfl, rfl, rfl, rfl, trivial⟩ ?_ ?_
    · exact Nat.zero_le _
    · exact fun w hw => Hp.addNil (endAs b s (o, cap)) [] hw
    · rintro ⟨k, ob, cb⟩ hI
      refine wc_seq ?_
      refine wc_region ?_
      refine wl_y rfl (y_lss rfl rfl) ?_
      refine wl_nil ?_
      refine wq_then ?_
      refine wc_seq ?_
      refine wc_cond rfl (fun hc26 => ?_) (fun hc26 => ?_)
      ·
        simp at hc26
        refine wc_skip ?_
        refine wq_then ?_
        refine wc_seq ?_
        refine wc_block ?_
        refine wc_seq ?_
        refine wc_region ?_
        obtain ⟨d, hd⟩ : ∃ d, s.opens[k]? = some d := ⟨_, List.getElem?_eq_getElem (by omega)⟩
        refine wl_y rfl (y_move rfl) ?_
        refine wl_y rfl (y_indexAddr Try.underlying45 T9 rfl rfl rfl (by omega) (fun w hw => hw.slc_isSome [_] (by omega))) ?_
        refine wl_y rfl (y_load NA9 rfl (cell_own [_] (row_get hd))) ?_
        refine wl_y rfl (y_assign rfl) ?_
        refine wl_y rfl (y_assign rfl) ?_
        refine wl_nil ?_
        refine wq_then ?_
        refine wc_mix (.q 0 0 (.q 1 0 (.q 2 0 (.q 3 0 (.q 4 1 (.q 5 0 (.q 6 0 (.q 7 0 (.q 8 0 (.q 9 0 (.q 10 0 (.q 11 1 (.q 12 0 (.q 13 0 (.w 14 2 (.w 15 2 (.q 16 0 .nil) .nil) .nil))))))))))))))) (fun _ => True) MO (by kernel_rfl) (Hp.drawless _ _ _) (fun _ _ => trivial) ?_
        refine wm_g rfl rfl (y_move rfl) ?_
        refine wm_g rfl rfl (y_move rfl) ?_
        refine wm_g rfl rfl (y_nilCheck rfl) ?_
        refine wm_g rfl rfl (y_fieldAddr F55_2 rfl) ?_
        refine wm_l rfl rfl (y_load NA3 rfl (by first | exact cell_blk [] rfl | exact cell_blk [_] rfl | exact cell_blk [_, _] rfl | exact cell_blk [_, _, _] rfl)) ?_
        refine wm_g rfl rfl (y_move rfl) ?_
        refine wm_g rfl rfl (y_add rfl rfl (by omega)) ?_
        refine wm_g rfl rfl (y_add rfl rfl (by omega)) ?_
        refine wm_g rfl rfl (y_move rfl) ?_
        refine wm_g rfl rfl (y_nilCheck rfl) ?_
        refine wm_g rfl rfl (y_fieldAddr F55_3 rfl) ?_
        refine wm_l rfl rfl (y_load NA3 rfl (by first | exact cell_blk [] rfl | exact cell_blk [_] rfl | exact cell_blk [_, _] rfl | exact cell_blk [_, _, _] rfl)) ?_
        refine wm_g rfl rfl (y_move rfl) ?_
        refine wm_g rfl rfl (y_build (cs := [_, _, _]) T32 PL32 rfl rfl rfl) ?_
        refine wm_w rfl rfl (fun _ _ _ => trivial) (yw_buildSlice (cs := [_, _, _]) Try.underlying39 T32 rfl rfl rfl rfl rfl rfl rfl) (wm_ex fun b44 _ => ?_)
        refine wm_w rfl rfl (fun _ _ _ => trivial) (yw_append [_, _, _] Try.underlying39 Try.underlying39 (.inl ⟨_, rfl⟩) T32 rfl rfl rfl (fun w hw => Src.slice ((hw.seen []).mono fun _ => slc_rsl)) (by omega) (by unfold maxLen; omega) (by simp [Value.oneCell']) rfl) (wm_ex fun p hp => ?_)
        refine wm_g rfl rfl (y_assign rfl) ?_
        refine wm_nil ?_
        refine all_wq ?_
        refine wq_block_normal ?_
        refine wq_then ?_
        refine wc_region ?_
        refine wl_y rfl (y_add rfl rfl (by omega)) ?_
        refine wl_y rfl (y_move rfl) ?_
        refine wl_nil ?_
        exact wq_round (k + 1, p.1, p.2) (by simp only; omega) (by simp only; omega) ⟨rfl, rfl, rfl, rfl, rfl, trivial⟩ (fun w hw => by rw [← rows_succ (pks_get hd)]; exact hw.drop)
      ·
        simp at hc26
        refine wc_exit ?_
        refine wq_then_exit (wq_then_exit (wq_block_exit ?_))
        refine wq_then ?_
        refine wc_seq ?_
        refine wc_region ?_
        refine wl_y rfl (y_move rfl) ?_
        refine wl_y rfl (y_assign rfl) ?_
        refine wl_nil ?_
        refine wq_then ?_
        refine wc_ret ?_
        refine wq_ret1 rfl rfl (fun w hw => ?_)
        obtain rfl : k = s.opens.length := by simp only at hc26 hI; omega
        have e : s.out = s.pks := if_neg (by omega)
        rw [e]
        rw [List.take_of_length_le (by rw [pks_length]; exact Nat.le_refl _)] at hw
        exact ⟨(ob, cb), trivial, by rw [pks_length], end_shut (o, cap) (by rw [pksA, pks_length]; exact hw)⟩

set_option maxHeartbeats 1000000 in
theorem rout_spec (b : Nat) (s : RE) (hs : s.ok) :
    Ctr Try.prog 16 #[ptr b] [] [refA b s] (fun _ : Option Addr × Nat => True) (fun x => .slice x.1 s.out.length x.2) (fun x => [refA b s, pksA x.1 x.2 s.out]) := by
  refine spec_start (n := 47) [(0, ptr b)] Try.func16 rfl rfl ⟨rfl, trivial⟩ rfl ?_
  intro w0 K hR
  obtain ⟨h1, h2, h3, h4⟩ := id hs
  refine wc_ex ref_open (fun oc => ?_)
  obtain ⟨o, cap⟩ := oc
  refine wc_seq ?_
  refine wc_region ?_
  refine wl_y rfl (y_assign rfl) ?_
  refine wl_nil ?_
  refine wq_then ?_
  refine wc_seq ?_
  refine wc_region ?_
  refine wl_y rfl (y_assign rfl) ?_
  refine wl_nil ?_
  refine wq_then ?_
  refine wc_seq ?_
  refine wc_seq ?_
  refine wc_region ?_
  refine wl_y rfl (y_move rfl) ?_
  refine wl_y rfl (y_nilCheck rfl) ?_
  refine wl_y rfl (y_fieldAddr F57_2 rfl) ?_
  refine wl_y rfl (y_load NA3 rfl (by first | exact cell_blk [] rfl | exact cell_blk [_] rfl | exact cell_blk [_, _] rfl | exact cell_blk [_, _, _] rfl)) ?_
  refine wl_y rfl (y_assign rfl) ?_
  refine wl_nil ?_
  refine wq_then ?_
  refine wc_block ?_
  refine wc_loop (α := Nat × Option Addr × Nat) (fun x => s.known + x.1 ≤ s.sent.length) [(0, _)] (fun x => [(4, vI ↑(s.known + x.1)), (3, .slice x.2.1 x.1 x.2.2)]) (fun x => Hp w0 K (refAs b s (o, cap) ++ [slc 32 3 x.2.1 x.1 x.2.2 ((s.upto (s.known + x.1)).flatMap encP)])) (fun x => s.sent.length - x.1) (0, none, 0) ?_ ⟨rfl, rfl, rfl, trivial⟩ ?_ ?_
  · exact h2
  · exact fun w hw => by simpa [RE.upto] using Hp.addNil (e := 32) (sz := 3) (refAs b s (o, cap)) [] hw
  · rintro ⟨j, ob, cb⟩ hI; simp only at hI
    refine wc_seq ?_
    refine wc_seq ?_
    refine wc_region ?_
    refine wl_y rfl (y_move rfl) ?_
    refine wl_y rfl (y_move rfl) ?_
    refine wl_y rfl (y_nilCheck rfl) ?_
    refine wl_y rfl (y_fieldAddr F57_1 rfl) ?_
    refine wl_y rfl (y_load NA45 rfl (by first | exact cell_blk [] rfl | exact cell_blk [_] rfl | exact cell_blk [_, _] rfl | exact cell_blk [_, _, _] rfl)) ?_
    refine wl_y rfl (y_lenSl Try.underlying45 rfl) ?_
    refine wl_y rfl (y_lss rfl rfl) ?_
    refine wl_nil ?_
    refine wq_then ?_
    refine wc_cond rfl (fun hc15 => ?_) (fun hc15 => ?_)
    ·
      first | replace hc15 := of_decide_eq_true hc15 | replace hc15 := of_decide_eq_false hc15
      refine wc_skip ?_
      refine wq_then ?_
      refine wc_seq ?_
      refine wc_block ?_
      refine wc_mix (.q 0 0 (.q 1 0 (.q 2 0 (.q 3 0 (.q 4 0 (.q 5 0 (.q 6 1 (.q 7 0 (.q 8 0 (.q 9 0 (.q 10 1 (.q 11 0 (.q 12 0 (.q 13 1 (.q 14 0 (.w 15 2 (.w 16 2 (.q 17 0 .nil) .nil) .nil)))))))))))))))) (fun _ => True) MO (by kernel_rfl) (Hp.drawless _ _ _) (fun _ _ => trivial) ?_
      refine wm_have (p := o.isSome = true) (fun w hw => hw.slc_isSome [_] (by omega)) (fun hos => ?_)
      have hd : s.sent[s.known + j]? = some (s.sent.getD (s.known + j) []) := by simp [List.getD, List.getElem?_eq_getElem (show s.known + j < s.sent.length by omega)]
      refine wm_g rfl rfl (y_move rfl) ?_
      refine wm_g rfl rfl (y_move rfl) ?_
      refine wm_g rfl rfl (y_add rfl rfl (by omega)) ?_
      refine wm_g rfl rfl (y_move rfl) ?_
      refine wm_g rfl rfl (y_nilCheck rfl) ?_
      refine wm_g rfl rfl (y_fieldAddr F57_3 rfl) ?_
      refine wm_l rfl rfl (y_load NA3 rfl (by first | exact cell_blk [] rfl | exact cell_blk [_] rfl | exact cell_blk [_, _] rfl | exact cell_blk [_, _, _] rfl)) ?_
      refine wm_g rfl rfl (y_move rfl) ?_
      refine wm_g rfl rfl (y_nilCheck rfl) ?_
      refine wm_g rfl rfl (y_fieldAddr F57_1 rfl) ?_
      refine wm_l rfl rfl (y_load NA45 rfl (by first | exact cell_blk [] rfl | exact cell_blk [_] rfl | exact cell_blk [_, _] rfl | exact cell_blk [_, _, _] rfl)) ?_
      refine wm_g rfl rfl (y_move rfl) ?_
      refine wm_g rfl rfl (y_indexAddr Try.underlying45 T9 rfl rfl rfl (by omega) (fun _ _ => hos)) ?_
      refine wm_l rfl rfl (y_load NA9 rfl (cell_own [_] (row_get hd))) ?_
      refine wm_g rfl rfl (y_build (cs := [_, _, _]) T32 PL32 rfl rfl rfl) ?_
      refine wm_w rfl rfl (fun _ _ _ => trivial) (yw_buildSlice (cs := [_, _, _]) Try.underlying39 T32 rfl rfl rfl rfl rfl rfl rfl) (wm_ex fun b33 _ => ?_)
      refine wm_w rfl rfl (fun _ _ _ => trivial) (yw_append [_, _, _] Try.underlying39 Try.underlying39 (.inl ⟨_, rfl⟩) T32 rfl rfl rfl (fun w hw => Src.slice ((hw.seen []).mono fun _ => slc_rsl)) (by omega) (by unfold maxLen; omega) (by simp [Value.oneCell']) rfl) (wm_ex fun p hp => ?_)
      refine wm_g rfl rfl (y_assign rfl) ?_
      refine wm_nil ?_
      refine all_wq ?_
      refine wq_block_normal ?_
      refine wq_then ?_
      refine wc_region ?_
      refine wl_y rfl (y_move rfl) ?_
      refine wl_y rfl (y_add rfl rfl (by omega)) ?_
      refine wl_y rfl (y_assign rfl) ?_
      refine wl_nil ?_
      exact wq_round (j + 1, p.1, p.2) (by simp only; omega) (by simp only; omega) ⟨rfl, rfl, rfl, trivial⟩ (fun w hw => by rw [← Nat.add_assoc, ← upto_succ (by omega), List.flatMap_append, List.flatMap_singleton]; exact hw.drop)
    ·
      first | replace hc15 := of_decide_eq_true hc15 | replace hc15 := of_decide_eq_false hc15
      refine wc_exit ?_
      refine wq_then_exit (wq_then_exit (wq_block_exit ?_))
      refine wq_then ?_
      refine wc_seq ?_
      refine wc_seq ?_
      refine wc_region ?_
      refine wl_y rfl (y_move rfl) ?_
      refine wl_y rfl (y_lenSl Try.underlying39 rfl) ?_
      refine wl_y rfl (y_eqlI rfl rfl) ?_
      refine wl_nil ?_
      refine wq_then ?_
      refine wc_cond rfl (fun hc37 => ?_) (fun hc37 => ?_)
      ·
        first | replace hc37 := of_decide_eq_true hc37 | replace hc37 := of_decide_eq_false hc37
        refine wc_region ?_
        refine wl_y rfl (y_move rfl) ?_
        refine wl_y rfl (y_move rfl) ?_
        refine wl_y rfl (y_nilCheck rfl) ?_
        refine wl_y rfl (y_fieldAddr F57_3 rfl) ?_
        refine wl_y rfl (y_load NA3 rfl (by first | exact cell_blk [] rfl | exact cell_blk [_] rfl | exact cell_blk [_, _] rfl | exact cell_blk [_, _, _] rfl)) ?_
        refine wl_y rfl (y_build (cs := [_, _, _]) T32 PL32 rfl rfl rfl) ?_
        refine wl_w (fun _ _ => want_none) rfl (yw_buildSlice (cs := [_, _, _]) Try.underlying39 T32 rfl rfl rfl rfl rfl rfl rfl) (wl_ex fun b44 _ => ?_)
        refine wl_w (fun _ _ => want_none) rfl (yw_append [_, _, _] Try.underlying39 Try.underlying39 (.inl ⟨_, rfl⟩) T32 rfl rfl rfl (fun w hw => Src.slice ((hw.seen []).mono fun _ => slc_rsl)) (by omega) (by unfold maxLen; omega) (by simp [Value.oneCell']) rfl) (wl_ex fun p hp => ?_)
        refine wl_y rfl (y_assign rfl) ?_
        refine wl_nil ?_
        refine wq_then ?_
        refine wc_seq ?_
        refine wc_region ?_
        refine wl_y rfl (y_move rfl) ?_
        refine wl_y rfl (y_assign rfl) ?_
        refine wl_nil ?_
        refine wq_then ?_
        refine wc_ret ?_
        refine wq_ret1 rfl rfl (fun w hw => ?_)
        have hj : j = 0 := by omega
        subst hj
        have e : s.out = [⟨0, s.came, []⟩] := if_pos (by omega)
        rw [e]
        exact ⟨p, trivial, rfl, ref_shut (o, cap) (by simpa [RE.upto, refAs, pksA, encP] using hw.drop)⟩
      ·
        first | replace hc37 := of_decide_eq_true hc37 | replace hc37 := of_decide_eq_false hc37
        refine wc_skip ?_
        refine wq_then ?_
        refine wc_seq ?_
        refine wc_region ?_
        refine wl_y rfl (y_move rfl) ?_
        refine wl_y rfl (y_assign rfl) ?_
        refine wl_nil ?_
        refine wq_then ?_
        refine wc_ret ?_
        refine wq_ret1 rfl rfl (fun w hw => ?_)
        have hj : s.known + j = s.sent.length := by omega
        have e : s.out = s.upto s.sent.length := if_neg (by omega)
        rw [hj] at hw
        rw [e]
        exact ⟨(ob, cb), trivial, by rw [upto_length]; simp only; congr 2; omega, ref_shut (o, cap) (by rw [pksA, upto_length, show s.sent.length - s.known = j by omega]; exact hw)⟩

set_option maxHeartbeats 1000000 in
theorem packets_spec (oa ob : Option Addr) (ca cb : Nat) (xs ys : List Pk) (hx : xs.length ≤ 1000000) :
    Ctr Try.prog 14 #[.slice oa xs.length ca, .slice ob ys.length cb] [rsl oa xs.length 3 (xs.flatMap encP), rsl ob ys.length 3 (ys.flatMap encP)] [] (fun _ : Unit => True) (fun _ => .bool (decide (xs = ys))) (fun _ => []) := by
  refine spec_start (n := 26) [(0, .slice oa xs.length ca), (1, .slice ob ys.length cb)] Try.func14 rfl rfl ⟨rfl, rfl, trivial⟩ rfl ?_
  intro w0 K hR
  have hA := hR _ (List.mem_cons_self ..)
  have hB := hR _ (List.mem_cons_of_mem _ (List.mem_cons_self ..))
  refine wc_seq ?_
  refine wc_region ?_
  refine wl_y rfl (y_assign rfl) ?_
  refine wl_nil ?_
  refine wq_then ?_
  refine wc_seq ?_
  refine wc_seq ?_
  refine wc_region ?_
  refine wl_y rfl (y_move rfl) ?_
  refine wl_y rfl (y_lenSl Try.underlying39 rfl) ?_
  refine wl_y rfl (y_move rfl) ?_
  refine wl_y rfl (y_lenSl Try.underlying39 rfl) ?_
  refine wl_y rfl (y_neqI rfl rfl) ?_
  refine wl_nil ?_
  refine wq_then ?_
  refine wc_cond rfl (fun hc10 => ?_) (fun hc10 => ?_)
  ·
    simp at hc10
    refine wc_seq ?_
    refine wc_region ?_
    refine wl_y rfl (y_assign rfl) ?_
    refine wl_nil ?_
    refine wq_then ?_
    refine wc_ret ?_
    refine wq_then_ret ?_
    refine wq_ret1 rfl rfl (fun w hw => ?_)
    exact ⟨(), trivial, by rw [decide_eq_false (fun h => hc10 (by rw [h]))], hw⟩
  ·
    simp at hc10
    refine wc_skip ?_
    refine wq_then ?_
    refine wc_seq ?_
    refine wc_seq ?_
    refine wc_region ?_
    refine wl_y rfl (y_assign rfl) ?_
    refine wl_nil ?_
    refine wq_then ?_
    refine wc_block ?_
    refine wc_loop (α := Nat) (fun x => x ≤ xs.length ∧ xs.take x = ys.take x) [(0, _), (1, _)] (fun x => [(5, vI x)]) (fun x => Hp w0 K []) (fun x => xs.length - x) 0 ?_ ⟨rfl, rfl, rfl, trivial⟩ ?_ ?_
    · exact ⟨Nat.zero_le _, rfl⟩
    · exact fun w hw => hw
    · rintro k ⟨hk, he⟩
      refine wc_seq ?_
      refine wc_seq ?_
      refine wc_region ?_
      refine wl_y rfl (y_move rfl) ?_
      refine wl_y rfl (y_move rfl) ?_
      refine wl_y rfl (y_lenSl Try.underlying39 rfl) ?_
      refine wl_y rfl (y_lss rfl rfl) ?_
      refine wl_nil ?_
      refine wq_then ?_
      refine wc_cond rfl (fun hc14 => ?_) (fun hc14 => ?_)
      ·
        simp at hc14
        refine wc_skip ?_
        refine wq_then ?_
        refine wc_seq ?_
        refine wc_block ?_
        refine wc_seq ?_
        refine wc_quiet MO (by kernel_rfl) (Hp.drawless _ _ _) ?_
        obtain ⟨p, hp⟩ : ∃ p, xs[k]? = some p := ⟨_, List.getElem?_eq_getElem (by omega)⟩
        obtain ⟨q, hq⟩ : ∃ q, ys[k]? = some q := ⟨_, List.getElem?_eq_getElem (by omega)⟩
        refine wt_y rfl (y_move rfl) ?_
        refine wt_y rfl (y_move rfl) ?_
        refine wt_y rfl (y_indexAddr Try.underlying39 T32 rfl rfl rfl (by omega) (fun _ _ => hA.isSome (by omega))) ?_
        refine wt_y rfl (y_loadAgg (l := encP p) AG32 rfl rfl (agg_ro hA fun i u h => rows_get encP_len hp h)) ?_
        refine wt_y rfl (y_move rfl) ?_
        refine wt_y rfl (y_move rfl) ?_
        refine wt_y rfl (y_indexAddr Try.underlying39 T32 rfl rfl rfl (by omega) (fun _ _ => hB.isSome (by omega))) ?_
        refine wt_y rfl (y_loadAgg (l := encP q) AG32 rfl rfl (agg_ro hB fun i u h => rows_get encP_len hq h)) ?_
        refine wt_y rfl (y_neqAgg (E32 p q) rfl rfl) ?_
        refine wt_nil ?_
        refine wq_then ?_
        refine wc_cond rfl (fun hc25 => ?_) (fun hc25 => ?_)
        ·
          simp at hc25
          refine wc_seq ?_
          refine wc_region ?_
          refine wl_y rfl (y_assign rfl) ?_
          refine wl_nil ?_
          refine wq_then ?_
          refine wc_ret ?_
          refine wq_block_ret (wq_then_ret (wq_then_ret (wq_block_ret (wq_then_ret ?_))))
          refine wq_ret1 rfl rfl (fun w hw => ?_)
          exact ⟨(), trivial, by rw [decide_eq_false (fun h => hc25 (by rw [h, hq] at hp; exact (Option.some.inj hp).symm))], hw⟩
        ·
          simp at hc25
          refine wc_skip ?_
          refine wq_block_normal ?_
          refine wq_then ?_
          refine wc_region ?_
          refine wl_y rfl (y_move rfl) ?_
          refine wl_y rfl (y_add rfl rfl (by omega)) ?_
          refine wl_y rfl (y_assign rfl) ?_
          refine wl_nil ?_
          exact wq_round (k + 1) (by omega) ⟨by omega, by rw [List.take_add_one, List.take_add_one, he, hp, hq, hc25]⟩ ⟨rfl, rfl, rfl, trivial⟩ (fun w hw => hw)
      ·
        simp at hc14
        refine wc_exit ?_
        refine wq_then_exit (wq_then_exit (wq_block_exit ?_))
        refine wq_then ?_
        refine wc_seq ?_
        refine wc_region ?_
        refine wl_y rfl (y_assign rfl) ?_
        refine wl_nil ?_
        refine wq_then ?_
        refine wc_ret ?_
        refine wq_ret1 rfl rfl (fun w hw => ?_)
        exact ⟨(), trivial, by rw [decide_eq_true (by rw [List.take_of_length_le (by omega), List.take_of_length_le (by omega)] at he; exact he)], hw⟩

set_option maxHeartbeats 1000000 in
theorem begins_spec (oa ob : Option Addr) (ca cb : Nat) (xs ys : List Str) (hx : xs.length ≤ 1000000) :
    Ctr Try.prog 19 #[.slice oa xs.length ca, .slice ob ys.length cb] [rsl oa xs.length 1 (xs.map vS), rsl ob ys.length 1 (ys.map vS)] [] (fun _ : Unit => True) (fun _ => .bool (decide (xs = ys.take xs.length))) (fun _ => []) := by
  refine spec_start (n := 26) [(0, .slice oa xs.length ca), (1, .slice ob ys.length cb)] Try.func19 rfl rfl ⟨rfl, rfl, trivial⟩ rfl ?_
  intro w0 K hR
  have hA := hR _ (List.mem_cons_self ..)
  have hB := hR _ (List.mem_cons_of_mem _ (List.mem_cons_self ..))
  refine wc_seq ?_
  refine wc_region ?_
  refine wl_y rfl (y_assign rfl) ?_
  refine wl_nil ?_
  refine wq_then ?_
  refine wc_seq ?_
  refine wc_seq ?_
  refine wc_region ?_
  refine wl_y rfl (y_move rfl) ?_
  refine wl_y rfl (y_lenSl Try.underlying45 rfl) ?_
  refine wl_y rfl (y_move rfl) ?_
  refine wl_y rfl (y_lenSl Try.underlying45 rfl) ?_
  refine wl_y rfl (y_gtr rfl rfl) ?_
  refine wl_nil ?_
  refine wq_then ?_
  refine wc_cond rfl (fun hc10 => ?_) (fun hc10 => ?_)
  ·
    simp at hc10
    refine wc_seq ?_
    refine wc_region ?_
    refine wl_y rfl (y_assign rfl) ?_
    refine wl_nil ?_
    refine wq_then ?_
    refine wc_ret ?_
    refine wq_then_ret ?_
    refine wq_ret1 rfl rfl (fun w hw => ?_)
    exact ⟨(), trivial, by rw [decide_eq_false (fun h => by have := congrArg List.length h; simp at this; omega)], hw⟩
  ·
    simp at hc10
    refine wc_skip ?_
    refine wq_then ?_
    refine wc_seq ?_
    refine wc_seq ?_
    refine wc_region ?_
    refine wl_y rfl (y_assign rfl) ?_
    refine wl_nil ?_
    refine wq_then ?_
    refine wc_block ?_
    refine wc_loop (α := Nat) (fun x => x ≤ xs.length ∧ xs.take x = ys.take x) [(0, _), (1, _)] (fun x => [(5, vI x)]) (fun x => Hp w0 K []) (fun x => xs.length - x) 0 ?_ ⟨rfl, rfl, rfl, trivial⟩ ?_ ?_
    · exact ⟨Nat.zero_le _, rfl⟩
    · exact fun w hw => hw
    · rintro k ⟨hk, he⟩
      refine wc_seq ?_
      refine wc_seq ?_
      refine wc_region ?_
      refine wl_y rfl (y_move rfl) ?_
      refine wl_y rfl (y_move rfl) ?_
      refine wl_y rfl (y_lenSl Try.underlying45 rfl) ?_
      refine wl_y rfl (y_lss rfl rfl) ?_
      refine wl_nil ?_
      refine wq_then ?_
      refine wc_cond rfl (fun hc14 => ?_) (fun hc14 => ?_)
      ·
        simp at hc14
        refine wc_skip ?_
        refine wq_then ?_
        refine wc_seq ?_
        refine wc_block ?_
        refine wc_seq ?_
        refine wc_quiet MO (by kernel_rfl) (Hp.drawless _ _ _) ?_
        obtain ⟨p, hp⟩ : ∃ p, xs[k]? = some p := ⟨_, List.getElem?_eq_getElem (by omega)⟩
        obtain ⟨q, hq⟩ : ∃ q, ys[k]? = some q := ⟨_, List.getElem?_eq_getElem (by omega)⟩
        refine wt_y rfl (y_move rfl) ?_
        refine wt_y rfl (y_move rfl) ?_
        refine wt_y rfl (y_indexAddr Try.underlying45 T9 rfl rfl rfl (by omega) (fun _ _ => hA.isSome (by omega))) ?_
        refine wt_y rfl (y_load NA9 rfl (cell_ro hA (row_get hp))) ?_
        refine wt_y rfl (y_move rfl) ?_
        refine wt_y rfl (y_move rfl) ?_
        refine wt_y rfl (y_indexAddr Try.underlying45 T9 rfl rfl rfl (by omega) (fun _ _ => hB.isSome (by omega))) ?_
        refine wt_y rfl (y_load NA9 rfl (cell_ro hB (row_get hq))) ?_
        refine wt_y rfl (y_neqS rfl rfl) ?_
        refine wt_nil ?_
        refine wq_then ?_
        refine wc_cond rfl (fun hc25 => ?_) (fun hc25 => ?_)
        ·
          simp at hc25
          refine wc_seq ?_
          refine wc_region ?_
          refine wl_y rfl (y_assign rfl) ?_
          refine wl_nil ?_
          refine wq_then ?_
          refine wc_ret ?_
          refine wq_block_ret (wq_then_ret (wq_then_ret (wq_block_ret (wq_then_ret ?_))))
          refine wq_ret1 rfl rfl (fun w hw => ?_)
          exact ⟨(), trivial, by rw [decide_eq_false (fun h => hc25 (by have h2 : (ys.take xs.length)[k]? = some p := (by rw [← h]; exact hp); rw [List.getElem?_take, if_pos (by omega), hq] at h2; exact (Option.some.inj h2).symm))], hw⟩
        ·
          simp at hc25
          refine wc_skip ?_
          refine wq_block_normal ?_
          refine wq_then ?_
          refine wc_region ?_
          refine wl_y rfl (y_move rfl) ?_
          refine wl_y rfl (y_add rfl rfl (by omega)) ?_
          refine wl_y rfl (y_assign rfl) ?_
          refine wl_nil ?_
          exact wq_round (k + 1) (by omega) ⟨by omega, by rw [List.take_add_one, List.take_add_one, he, hp, hq, hc25]⟩ ⟨rfl, rfl, rfl, trivial⟩ (fun w hw => hw)
      ·
        simp at hc14
        refine wc_exit ?_
        refine wq_then_exit (wq_then_exit (wq_block_exit ?_))
        refine wq_then ?_
        refine wc_seq ?_
        refine wc_region ?_
        refine wl_y rfl (y_assign rfl) ?_
        refine wl_nil ?_
        refine wq_then ?_
        refine wc_ret ?_
        refine wq_ret1 rfl rfl (fun w hw => ?_)
        exact ⟨(), trivial, by rw [decide_eq_true (by rw [show k = xs.length by omega, List.take_length] at he; exact he)], hw⟩

set_option maxHeartbeats 1000000 in
theorem take_nil (p : Pk) :
    Ctr Try.prog 10 #[.pointer none, vP p] [] [] (fun _ : Unit => True) (fun _ => .tuple #[vS [], .bool false]) (fun _ => []) := by
  refine spec_start (n := 63) [(0, .pointer none), (1, vP p)] Try.func10 rfl rfl ⟨rfl, rfl, trivial⟩ rfl ?_
  intro w0 K hR
  refine wc_seq ?_
  refine wc_region ?_
  refine wl_w (fun _ _ => want_none) rfl (yw_box rfl rfl) (wl_ex fun b3 _ => ?_)
  refine wl_y rfl (y_assign rfl) ?_
  refine wl_y rfl (y_assign rfl) ?_
  refine wl_nil ?_
  refine wq_then ?_
  refine wc_seq ?_
  refine wc_seq ?_
  refine wc_region ?_
  refine wl_y rfl (y_move rfl) ?_
  refine wl_y rfl (y_eqlP Try.underlying23 rfl rfl) ?_
  refine wl_nil ?_
  refine wq_then ?_
  refine wc_known 8 true rfl (rfl) ?_
  refine wc_cond_true rfl ?_
  refine wc_seq ?_
  refine wc_region ?_
  refine wl_y rfl (y_assign rfl) ?_
  refine wl_y rfl (y_assign rfl) ?_
  refine wl_nil ?_
  refine wq_then ?_
  refine wc_ret ?_
  refine wq_then_ret ?_
  refine wq_ret2 rfl rfl rfl (fun w hw => ?_)
  exact ⟨(), trivial, rfl, hw.drop⟩

set_option maxHeartbeats 1000000 in
theorem send_nil (d : Str) :
    Ctr Try.prog 12 #[.pointer none, vS d] [] [] (fun _ : Unit => True) (fun _ => vI 2) (fun _ => []) := by
  refine spec_start (n := 29) [(0, .pointer none), (1, vS d)] Try.func12 rfl rfl ⟨rfl, rfl, trivial⟩ rfl ?_
  intro w0 K hR
  refine wc_seq ?_
  refine wc_region ?_
  refine wl_y rfl (y_assign rfl) ?_
  refine wl_nil ?_
  refine wq_then ?_
  refine wc_seq ?_
  refine wc_block ?_
  refine wc_seq ?_
  refine wc_region ?_
  refine wl_y rfl (y_move rfl) ?_
  refine wl_y rfl (y_eqlP Try.underlying23 rfl rfl) ?_
  refine wl_y rfl (y_assign rfl) ?_
  refine wl_nil ?_
  refine wq_then ?_
  refine wc_known 5 true rfl (rfl) ?_
  refine wc_cond_true rfl ?_
  refine wc_seq ?_
  refine wc_region ?_
  refine wl_y rfl (y_assign rfl) ?_
  refine wl_nil ?_
  refine wq_then ?_
  refine wc_ret ?_
  refine wq_block_ret (wq_then_ret ?_)
  refine wq_ret1 rfl rfl (fun w hw => ?_)
  exact ⟨(), trivial, rfl, hw⟩

set_option maxHeartbeats 1000000 in
theorem out_nil  :
    Ctr Try.prog 15 #[.pointer none] [] [] (fun _ : Unit => True) (fun _ => .slice none 0 0) (fun _ => []) := by
  refine spec_start (n := 48) [(0, .pointer none)] Try.func15 rfl rfl ⟨rfl, trivial⟩ rfl ?_
  intro w0 K hR
  refine wc_seq ?_
  refine wc_region ?_
  refine wl_y rfl (y_assign rfl) ?_
  refine wl_nil ?_
  refine wq_then ?_
  refine wc_seq ?_
  refine wc_seq ?_
  refine wc_region ?_
  refine wl_y rfl (y_move rfl) ?_
  refine wl_y rfl (y_eqlP Try.underlying23 rfl rfl) ?_
  refine wl_nil ?_
  refine wq_then ?_
  refine wc_known 7 true rfl (rfl) ?_
  refine wc_cond_true rfl ?_
  refine wc_seq ?_
  refine wc_region ?_
  refine wl_y rfl (y_assign rfl) ?_
  refine wl_nil ?_
  refine wq_then ?_
  refine wc_ret ?_
  refine wq_then_ret ?_
  refine wq_ret1 rfl rfl (fun w hw => ?_)
  exact ⟨(), trivial, rfl, hw⟩

set_option maxHeartbeats 1000000 in
theorem open_nil  :
    Ctr Try.prog 17 #[.pointer none] [] [] (fun _ : Unit => True) (fun _ => vI 0) (fun _ => []) := by
  refine spec_start (n := 10) [(0, .pointer none)] Try.func17 rfl rfl ⟨rfl, trivial⟩ rfl ?_
  intro w0 K hR
  refine wc_seq ?_
  refine wc_region ?_
  refine wl_y rfl (y_assign rfl) ?_
  refine wl_nil ?_
  refine wq_then ?_
  refine wc_seq ?_
  refine wc_seq ?_
  refine wc_region ?_
  refine wl_y rfl (y_move rfl) ?_
  refine wl_y rfl (y_eqlP Try.underlying23 rfl rfl) ?_
  refine wl_nil ?_
  refine wq_then ?_
  refine wc_known 4 true rfl (rfl) ?_
  refine wc_cond_true rfl ?_
  refine wc_seq ?_
  refine wc_region ?_
  refine wl_y rfl (y_assign rfl) ?_
  refine wl_nil ?_
  refine wq_then ?_
  refine wc_ret ?_
  refine wq_then_ret ?_
  refine wq_ret1 rfl rfl (fun w hw => ?_)
  exact ⟨(), trivial, rfl, hw⟩

end Go.Proofs.Ytodcciahagefnaa
