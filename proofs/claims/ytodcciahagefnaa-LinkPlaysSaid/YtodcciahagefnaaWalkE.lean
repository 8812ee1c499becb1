/-
  Walks: law LinkPlays.
-/
import Derived.Test.YtodcciahagefnaaWalkC
import Derived.Test.YtodcciahagefnaaLaw
import Derived.Test.YtodcciahagefnaaPlayDef
namespace Go.Proofs.Ytodcciahagefnaa
open Go.Eng

set_option maxHeartbeats 1000000 in
theorem plays_lo (w : Int) (hw : w < 1) (oo : Option Addr) (cc : Nat) (ops : List OpL) :
    Ctr Try.prog 3 #[vI w, .slice oo ops.length cc] [rsl oo ops.length 5 (ops.flatMap encO)] [] (fun _ : Unit => True) (fun _ => .bool true) (fun _ => []) := by
  refine spec_start (n := 99) [(0, vI w), (1, .slice oo ops.length cc)] Try.func3 rfl rfl ⟨rfl, rfl, trivial⟩ rfl ?_
  intro w0 K hR
  refine wc_seq ?_
  refine wc_region ?_
  refine wl_y rfl (y_assign rfl) ?_
  refine wl_nil ?_
  refine wq_then ?_
  refine wc_seq ?_
  refine wc_region ?_
  refine wl_y rfl (y_move rfl) ?_
  refine wl_c (fun _ _ => want_none) rfl (yc_spec (fst := []) (cap := []) _ FN7 (new_lo w hw) rfl rfl rfl (by simp) (by (repeat (first | exact pt_nil | apply pt0 | apply pt1 | apply pt2 | apply pt3 | apply pt4 | apply pt5 | apply pt6 | apply pt7 | apply pt8 | apply pt9 | apply pt10 | apply pt11 | apply pt12 | apply pt13 | apply pt14 | apply pt15 | apply pt16 | apply pt17)))) (wl_ex fun x17 hx17 => ?_)
  refine wl_y rfl (y_move rfl) ?_
  refine wl_y rfl (y_extract rfl rfl) ?_
  refine wl_y rfl (y_extract rfl rfl) ?_
  refine wl_y rfl (y_assign rfl) ?_
  refine wl_y rfl (y_assign rfl) ?_
  refine wl_nil ?_
  refine wq_then ?_
  refine wc_seq ?_
  refine wc_region ?_
  refine wl_y rfl (y_move rfl) ?_
  refine wl_c (fun _ _ => want_none) rfl (yc_spec (fst := []) (cap := []) _ FN8 (rnew_lo w hw) rfl rfl rfl (by simp) (by (repeat (first | exact pt_nil | apply pt0 | apply pt1 | apply pt2 | apply pt3 | apply pt4 | apply pt5 | apply pt6 | apply pt7 | apply pt8 | apply pt9 | apply pt10 | apply pt11 | apply pt12 | apply pt13 | apply pt14 | apply pt15 | apply pt16 | apply pt17)))) (wl_ex fun x22 hx22 => ?_)
  refine wl_y rfl (y_move rfl) ?_
  refine wl_y rfl (y_extract rfl rfl) ?_
  refine wl_y rfl (y_extract rfl rfl) ?_
  refine wl_y rfl (y_assign rfl) ?_
  refine wl_y rfl (y_assign rfl) ?_
  refine wl_nil ?_
  refine wq_then ?_
  refine wc_seq ?_
  refine wc_seq ?_
  refine wc_region ?_
  refine wl_y rfl (y_move rfl) ?_
  refine wl_y rfl (y_move rfl) ?_
  refine wl_y rfl (y_neqI rfl rfl) ?_
  refine wl_y rfl (y_move rfl) ?_
  refine wl_known 28 false rfl (rfl) ?_
  refine wl_yg rfl rfl rfl (y_move rfl) ?_
  refine wl_yg rfl rfl rfl (y_eqlP Try.underlying23 rfl rfl) ?_
  refine wl_yg rfl rfl rfl (y_move rfl) ?_
  refine wl_yg rfl rfl rfl (y_eqlP Try.underlying27 rfl rfl) ?_
  refine wl_yg rfl rfl rfl (y_neqB Try.underlying4 rfl rfl) ?_
  refine wl_y rfl (y_pick_f rfl rfl) ?_
  refine wl_nil ?_
  refine wq_then ?_
  refine wc_known 34 false rfl (rfl) ?_
  refine wc_cond_false rfl ?_
  refine wc_skip ?_
  refine wq_then ?_
  refine wc_seq ?_
  refine wc_seq ?_
  refine wc_region ?_
  refine wl_y rfl (y_move rfl) ?_
  refine wl_y rfl (y_eqlP Try.underlying27 rfl rfl) ?_
  refine wl_nil ?_
  refine wq_then ?_
  refine wc_known 36 true rfl (rfl) ?_
  refine wc_cond_true rfl ?_
  refine wc_seq ?_
  refine wc_region ?_
  refine wl_c (fun _ _ => want_none) rfl (yc_spec (fst := []) (cap := []) _ FN9 awake_spec rfl rfl rfl (by simp) (by (repeat (first | exact pt_nil | apply pt0 | apply pt1 | apply pt2 | apply pt3 | apply pt4 | apply pt5 | apply pt6 | apply pt7 | apply pt8 | apply pt9 | apply pt10 | apply pt11 | apply pt12 | apply pt13 | apply pt14 | apply pt15 | apply pt16 | apply pt17)))) (wl_ex fun x37 hx37 => ?_)
  refine wl_y rfl (y_assign rfl) ?_
  refine wl_nil ?_
  refine wq_then ?_
  refine wc_ret ?_
  refine wq_then_ret ?_
  refine wq_ret1 rfl rfl (fun w hw => ?_)
  exact ⟨(), trivial, rfl, hw.bare⟩

set_option maxHeartbeats 1000000 in
theorem plays_hi (w : Int) (hw : 1000 < w) (oo : Option Addr) (cc : Nat) (ops : List OpL) :
    Ctr Try.prog 3 #[vI w, .slice oo ops.length cc] [rsl oo ops.length 5 (ops.flatMap encO)] [] (fun _ : Unit => True) (fun _ => .bool true) (fun _ => []) := by
  refine spec_start (n := 99) [(0, vI w), (1, .slice oo ops.length cc)] Try.func3 rfl rfl ⟨rfl, rfl, trivial⟩ rfl ?_
  intro w0 K hR
  refine wc_seq ?_
  refine wc_region ?_
  refine wl_y rfl (y_assign rfl) ?_
  refine wl_nil ?_
  refine wq_then ?_
  refine wc_seq ?_
  refine wc_region ?_
  refine wl_y rfl (y_move rfl) ?_
  refine wl_c (fun _ _ => want_none) rfl (yc_spec (fst := []) (cap := []) _ FN7 (new_hi w hw) rfl rfl rfl (by simp) (by (repeat (first | exact pt_nil | apply pt0 | apply pt1 | apply pt2 | apply pt3 | apply pt4 | apply pt5 | apply pt6 | apply pt7 | apply pt8 | apply pt9 | apply pt10 | apply pt11 | apply pt12 | apply pt13 | apply pt14 | apply pt15 | apply pt16 | apply pt17)))) (wl_ex fun x17 hx17 => ?_)
  refine wl_y rfl (y_move rfl) ?_
  refine wl_y rfl (y_extract rfl rfl) ?_
  refine wl_y rfl (y_extract rfl rfl) ?_
  refine wl_y rfl (y_assign rfl) ?_
  refine wl_y rfl (y_assign rfl) ?_
  refine wl_nil ?_
  refine wq_then ?_
  refine wc_seq ?_
  refine wc_region ?_
  refine wl_y rfl (y_move rfl) ?_
  refine wl_c (fun _ _ => want_none) rfl (yc_spec (fst := []) (cap := []) _ FN8 (rnew_hi w hw) rfl rfl rfl (by simp) (by (repeat (first | exact pt_nil | apply pt0 | apply pt1 | apply pt2 | apply pt3 | apply pt4 | apply pt5 | apply pt6 | apply pt7 | apply pt8 | apply pt9 | apply pt10 | apply pt11 | apply pt12 | apply pt13 | apply pt14 | apply pt15 | apply pt16 | apply pt17)))) (wl_ex fun x22 hx22 => ?_)
  refine wl_y rfl (y_move rfl) ?_
  refine wl_y rfl (y_extract rfl rfl) ?_
  refine wl_y rfl (y_extract rfl rfl) ?_
  refine wl_y rfl (y_assign rfl) ?_
  refine wl_y rfl (y_assign rfl) ?_
  refine wl_nil ?_
  refine wq_then ?_
  refine wc_seq ?_
  refine wc_seq ?_
  refine wc_region ?_
  refine wl_y rfl (y_move rfl) ?_
  refine wl_y rfl (y_move rfl) ?_
  refine wl_y rfl (y_neqI rfl rfl) ?_
  refine wl_y rfl (y_move rfl) ?_
  refine wl_known 28 false rfl (rfl) ?_
  refine wl_yg rfl rfl rfl (y_move rfl) ?_
  refine wl_yg rfl rfl rfl (y_eqlP Try.underlying23 rfl rfl) ?_
  refine wl_yg rfl rfl rfl (y_move rfl) ?_
  refine wl_yg rfl rfl rfl (y_eqlP Try.underlying27 rfl rfl) ?_
  refine wl_yg rfl rfl rfl (y_neqB Try.underlying4 rfl rfl) ?_
  refine wl_y rfl (y_pick_f rfl rfl) ?_
  refine wl_nil ?_
  refine wq_then ?_
  refine wc_known 34 false rfl (rfl) ?_
  refine wc_cond_false rfl ?_
  refine wc_skip ?_
  refine wq_then ?_
  refine wc_seq ?_
  refine wc_seq ?_
  refine wc_region ?_
  refine wl_y rfl (y_move rfl) ?_
  refine wl_y rfl (y_eqlP Try.underlying27 rfl rfl) ?_
  refine wl_nil ?_
  refine wq_then ?_
  refine wc_known 36 true rfl (rfl) ?_
  refine wc_cond_true rfl ?_
  refine wc_seq ?_
  refine wc_region ?_
  refine wl_c (fun _ _ => want_none) rfl (yc_spec (fst := []) (cap := []) _ FN9 awake_spec rfl rfl rfl (by simp) (by (repeat (first | exact pt_nil | apply pt0 | apply pt1 | apply pt2 | apply pt3 | apply pt4 | apply pt5 | apply pt6 | apply pt7 | apply pt8 | apply pt9 | apply pt10 | apply pt11 | apply pt12 | apply pt13 | apply pt14 | apply pt15 | apply pt16 | apply pt17)))) (wl_ex fun x37 hx37 => ?_)
  refine wl_y rfl (y_assign rfl) ?_
  refine wl_nil ?_
  refine wq_then ?_
  refine wc_ret ?_
  refine wq_then_ret ?_
  refine wq_ret1 rfl rfl (fun w hw => ?_)
  exact ⟨(), trivial, rfl, hw.bare⟩

set_option maxHeartbeats 1000000 in
theorem plays_ok (n : Nat) (h1 : 1 ≤ n) (h2 : n ≤ 1000) (oo : Option Addr) (cc : Nat) (ops : List OpL) (hg : ∀ x ∈ ops, goodP x.p) :
    Ctr Try.prog 3 #[vI n, .slice oo ops.length cc] [rsl oo ops.length 5 (ops.flatMap encO)] [] (fun _ : Unit => True) (fun _ => .bool true) (fun _ => []) := by
  refine spec_start (n := 99) [(0, vI n), (1, .slice oo ops.length cc)] Try.func3 rfl rfl ⟨rfl, rfl, trivial⟩ rfl ?_
  intro w0 K hR
  have hA := hR _ (List.mem_cons_self ..)
  refine wc_seq ?_
  refine wc_region ?_
  refine wl_y rfl (y_assign rfl) ?_
  refine wl_nil ?_
  refine wq_then ?_
  refine wc_seq ?_
  refine wc_region ?_
  refine wl_y rfl (y_move rfl) ?_
  refine wl_c (fun _ _ => want_none) rfl (yc_spec (fst := []) (cap := []) [] FN7 (new_ok n h1 h2) rfl rfl rfl (by simp) (by (repeat (first | exact pt_nil | apply pt0 | apply pt1 | apply pt2 | apply pt3 | apply pt4 | apply pt5 | apply pt6 | apply pt7 | apply pt8 | apply pt9 | apply pt10 | apply pt11 | apply pt12 | apply pt13 | apply pt14 | apply pt15 | apply pt16 | apply pt17)))) (wl_ex fun x17 hx17 => ?_)
  refine wl_y rfl (y_move rfl) ?_
  refine wl_y rfl (y_extract rfl rfl) ?_
  refine wl_y rfl (y_extract rfl rfl) ?_
  refine wl_y rfl (y_assign rfl) ?_
  refine wl_y rfl (y_assign rfl) ?_
  refine wl_nil ?_
  refine wq_then ?_
  refine wc_seq ?_
  refine wc_region ?_
  refine wl_y rfl (y_move rfl) ?_
  refine wl_c (fun _ _ => want_none) rfl (yc_spec (fst := []) (cap := []) _ FN8 (rnew_ok n h1 h2) rfl rfl rfl (by simp) (by (repeat (first | exact pt_nil | apply pt0 | apply pt1 | apply pt2 | apply pt3 | apply pt4 | apply pt5 | apply pt6 | apply pt7 | apply pt8 | apply pt9 | apply pt10 | apply pt11 | apply pt12 | apply pt13 | apply pt14 | apply pt15 | apply pt16 | apply pt17)))) (wl_ex fun x22 hx22 => ?_)
  refine wl_y rfl (y_move rfl) ?_
  refine wl_y rfl (y_extract rfl rfl) ?_
  refine wl_y rfl (y_extract rfl rfl) ?_
  refine wl_y rfl (y_assign rfl) ?_
  refine wl_y rfl (y_assign rfl) ?_
  refine wl_nil ?_
  refine wq_then ?_
  refine wc_seq ?_
  refine wc_seq ?_
  refine wc_region ?_
  refine wl_y rfl (y_move rfl) ?_
  refine wl_y rfl (y_move rfl) ?_
  refine wl_y rfl (y_neqI rfl rfl) ?_
  refine wl_y rfl (y_move rfl) ?_
  refine wl_known 28 false rfl (rfl) ?_
  refine wl_yg rfl rfl rfl (y_move rfl) ?_
  refine wl_yg rfl rfl rfl (y_eqlP Try.underlying23 rfl rfl) ?_
  refine wl_yg rfl rfl rfl (y_move rfl) ?_
  refine wl_yg rfl rfl rfl (y_eqlP Try.underlying27 rfl rfl) ?_
  refine wl_yg rfl rfl rfl (y_neqB Try.underlying4 rfl rfl) ?_
  refine wl_y rfl (y_pick_f rfl rfl) ?_
  refine wl_nil ?_
  refine wq_then ?_
  refine wc_known 34 false rfl (rfl) ?_
  refine wc_cond_false rfl ?_
  refine wc_skip ?_
  refine wq_then ?_
  refine wc_seq ?_
  refine wc_seq ?_
  refine wc_region ?_
  refine wl_y rfl (y_move rfl) ?_
  refine wl_y rfl (y_eqlP Try.underlying27 rfl rfl) ?_
  refine wl_nil ?_
  refine wq_then ?_
  refine wc_known 36 false rfl (rfl) ?_
  refine wc_cond_false rfl ?_
  refine wc_skip ?_
  refine wq_then ?_
  refine wc_seq ?_
  refine wc_seq ?_
  refine wc_region ?_
  refine wl_y rfl (y_assign rfl) ?_
  refine wl_nil ?_
  refine wq_then ?_
  refine wc_block ?_
  refine wc_loop (α := Nat × LE × RE) (fun x => x.1 ≤ ops.length ∧ x.1 ≤ 150 ∧ Inv x.1 x.2.1 x.2.2) [(1, _), (5, _), (7, _)] (fun x => [(9, vI x.1)]) (fun x => Hp w0 K [endA x17 x.2.1, refA x22 x.2.2]) (fun x => ops.length - x.1) (0, ⟨n, [], 0, 0⟩, ⟨n, [], 0, 0⟩) ?_ ⟨rfl, rfl, rfl, rfl, trivial⟩ ?_ ?_
  · exact ⟨Nat.zero_le _, Nat.zero_le _, Inv.start h2⟩
  · exact fun w hw => hw.perm (List.Perm.swap _ _ _)
  · rintro ⟨k, e, r⟩ ⟨hk, hk2, hI⟩; simp only at hk hk2 hI
    refine wc_seq ?_
    refine wc_seq ?_
    refine wc_region ?_
    refine wl_y rfl (y_move rfl) ?_
    refine wl_y rfl (y_move rfl) ?_
    refine wl_y rfl (y_lenSl Try.underlying22 rfl) ?_
    refine wl_y rfl (y_lss rfl rfl) ?_
    refine wl_y rfl (y_move rfl) ?_
    refine wl_case 42 rfl (fun hg42 => ?_) (fun hg42 => ?_)
    ·
      simp at hg42
      refine wl_yg rfl rfl rfl (y_move rfl) ?_
      refine wl_yg rfl rfl rfl (y_lss rfl rfl) ?_
      refine wl_y rfl (y_pick_t rfl rfl) ?_
      refine wl_nil ?_
      refine wq_then ?_
      refine wc_cond rfl (fun hc45 => ?_) (fun hc45 => ?_)
      ·
        simp at hc45
        refine wc_skip ?_
        refine wq_then ?_
        refine wc_seq ?_
        refine wc_block ?_
        refine wc_seq ?_
        refine wc_region ?_
        obtain ⟨x, hx⟩ : ∃ x, ops[k]? = some x := ⟨_, List.getElem?_eq_getElem (by omega)⟩
        have hgx := hg x (List.mem_of_getElem? hx)
        refine wl_y rfl (y_move rfl) ?_
        refine wl_y rfl (y_move rfl) ?_
        refine wl_y rfl (y_indexAddr Try.underlying22 T34 rfl rfl rfl (by omega) (fun _ _ => hA.isSome (by omega))) ?_
        refine wl_y rfl (y_loadAgg (l := encO x) AG34 rfl rfl (agg_ro hA fun i u h => rows_get encO_len hx h)) ?_
        refine wl_w (fun _ _ => want_none) rfl (yw_alloc T34 rfl) (wl_ex fun b10 _ => ?_)
        first | refine wl_u (yu_storeAgg [] (l' := [_, _, _, _, _]) T34 rfl rfl rfl (by simp [Value.oneCell', encO]) rfl rfl) ?_ | refine wl_u (yu_storeAgg [_] (l' := [_, _, _, _, _]) T34 rfl rfl rfl (by simp [Value.oneCell', encO]) rfl rfl) ?_ | refine wl_u (yu_storeAgg [_, _] (l' := [_, _, _, _, _]) T34 rfl rfl rfl (by simp [Value.oneCell', encO]) rfl rfl) ?_ | refine wl_u (yu_storeAgg [_, _, _] (l' := [_, _, _, _, _]) T34 rfl rfl rfl (by simp [Value.oneCell', encO]) rfl rfl) ?_
        refine wl_nil ?_
        refine wq_then ?_
        refine wc_seq (wc_cut (α := LE × RE) (fun y => Inv (k + 1) y.1 y.2) [(1, _), (5, _), (7, _), (9, _)] (fun y => []) (fun y => Hp w0 K [blk b10 (.cells (encO x).toArray 34 (0, 0)), endA x17 y.1, refA x22 y.2]) ⟨rfl, rfl, rfl, rfl, trivial⟩ ?_ ?_)
        ·
          refine wc_seq ?_
          refine wc_region ?_
          refine wl_y rfl (y_fieldAddr F34_0 rfl) ?_
          refine wl_y rfl (y_load NA4 rfl (by first | exact cell_blk [] rfl | exact cell_blk [_] rfl | exact cell_blk [_, _] rfl | exact cell_blk [_, _, _] rfl)) ?_
          refine wl_nil ?_
          refine wq_then ?_
          refine wc_cond rfl (fun hc53 => ?_) (fun hc53 => ?_)
          ·
            refine wc_seq ?_
            refine wc_region ?_
            refine wl_y rfl (y_move rfl) ?_
            refine wl_y rfl (y_fieldAddr F34_2 rfl) ?_
            refine wl_y rfl (y_loadAgg (l := encP x.p) AG32 rfl rfl (cells_blk [] rfl)) ?_
            refine wl_c (fun _ _ => want_none) rfl (yc_spec (fst := []) (cap := []) _ FN10 (take_spec x17 e x.p hI.eok hgx.2) rfl rfl rfl (by simp) (by (repeat (first | exact pt_nil | apply pt0 | apply pt1 | apply pt2 | apply pt3 | apply pt4 | apply pt5 | apply pt6 | apply pt7 | apply pt8 | apply pt9 | apply pt10 | apply pt11 | apply pt12 | apply pt13 | apply pt14 | apply pt15 | apply pt16 | apply pt17)))) (wl_ex fun x58 hx58 => ?_)
            refine wl_y rfl (y_move rfl) ?_
            refine wl_y rfl (y_extract rfl rfl) ?_
            refine wl_y rfl (y_extract rfl rfl) ?_
            refine wl_y rfl (y_assign rfl) ?_
            refine wl_y rfl (y_assign rfl) ?_
            refine wl_nil ?_
            refine wq_then ?_
            refine wc_seq ?_
            refine wc_region ?_
            refine wl_y rfl (y_move rfl) ?_
            refine wl_y rfl (y_fieldAddr F34_2 rfl) ?_
            refine wl_y rfl (y_loadAgg (l := encP x.p) AG32 rfl rfl (cells_blk [_] rfl)) ?_
            refine wl_c (fun _ _ => want_none) rfl (yc_spec (fst := []) (cap := []) _ FN11 (rtake_spec x22 r x.p hI.rok) rfl rfl rfl (by simp) (by (repeat (first | exact pt_nil | apply pt0 | apply pt1 | apply pt2 | apply pt3 | apply pt4 | apply pt5 | apply pt6 | apply pt7 | apply pt8 | apply pt9 | apply pt10 | apply pt11 | apply pt12 | apply pt13 | apply pt14 | apply pt15 | apply pt16 | apply pt17)))) (wl_ex fun x65 hx65 => ?_)
            refine wl_y rfl (y_move rfl) ?_
            refine wl_y rfl (y_extract rfl rfl) ?_
            refine wl_y rfl (y_extract rfl rfl) ?_
            refine wl_y rfl (y_assign rfl) ?_
            refine wl_y rfl (y_assign rfl) ?_
            refine wl_nil ?_
            refine wq_then ?_
            refine wc_seq ?_
            refine wc_region ?_
            refine wl_y rfl (y_move rfl) ?_
            refine wl_y rfl (y_move rfl) ?_
            refine wl_y rfl (y_neqS rfl rfl) ?_
            refine wl_y rfl (y_move rfl) ?_
            refine wl_known 71 false rfl (by rw [(rel_take hI.1 x.p).1]; simp) ?_
            refine wl_yg rfl rfl rfl (y_move rfl) ?_
            refine wl_yg rfl rfl rfl (y_move rfl) ?_
            refine wl_yg rfl rfl rfl (y_neqB Try.underlying4 rfl rfl) ?_
            refine wl_y rfl (y_pick_f rfl rfl) ?_
            refine wl_nil ?_
            refine wq_then ?_
            refine wc_known 75 false rfl (by rw [(rel_take hI.1 x.p).1]; simp) ?_
            refine wc_cond_false rfl ?_
            refine wc_skip ?_
            exact wq_cut ((e.take x.p).1, (r.take x.p).1) (hI.take (by omega) x.p) ⟨rfl, rfl, rfl, rfl, trivial⟩ (fun w hw => hw.sub (by (repeat (first | exact pt_nil | apply pt0 | apply pt1 | apply pt2 | apply pt3 | apply pt4 | apply pt5 | apply pt6 | apply pt7 | apply pt8 | apply pt9 | apply pt10 | apply pt11 | apply pt12 | apply pt13 | apply pt14 | apply pt15 | apply pt16 | apply pt17))))
          ·
            refine wc_seq ?_
            refine wc_mix (.q 0 0 (.q 1 0 (.q 2 0 (.q 4 0 (.q 5 0 (.q 6 0 (.w 3 2 (.w 7 2 (.q 8 0 .nil) .nil) .nil))))))) (Seen (blk b10 (.cells (encO x).toArray 34 (0, 0)))) MO (by kernel_rfl) (Hp.drawless _ _ _) (fun w hw => by first | exact hw.seen [] | exact hw.seen [_] | exact hw.seen [_, _] | exact hw.seen [_, _, _] | exact hw.seen [_, _, _, _]) ?_
            refine wm_g rfl rfl (y_move rfl) ?_
            refine wm_g rfl rfl (y_fieldAddr F34_1 rfl) ?_
            refine wm_g rfl rfl (y_load NA9 rfl (fun w hw => cell_of_heap hw.blk rfl)) ?_
            refine wm_g rfl rfl (y_move rfl) ?_
            refine wm_g rfl rfl (y_fieldAddr F34_1 rfl) ?_
            refine wm_g rfl rfl (y_load NA9 rfl (fun w hw => cell_of_heap hw.blk rfl)) ?_
            refine wm_c rfl rfl (fun _ _ h => by obtain ⟨_, _, _, hw⟩ := h; first | exact hw.seen [] | exact hw.seen [_] | exact hw.seen [_, _] | exact hw.seen [_, _, _] | exact hw.seen [_, _, _, _] | exact hw.seen [_, _, _, _, _]) (yc_spec (fst := []) (cap := []) _ FN12 (send_spec x17 e x.data hI.eok) rfl rfl rfl (by simp) (List.perm_middle (l₁ := [_]))) (wm_ex fun x79 hx79 => ?_)
            refine wm_c rfl rfl (fun _ _ h => by obtain ⟨_, _, _, hw⟩ := h; first | exact hw.seen [] | exact hw.seen [_] | exact hw.seen [_, _] | exact hw.seen [_, _, _] | exact hw.seen [_, _, _, _] | exact hw.seen [_, _, _, _, _]) (yc_spec (fst := []) (cap := []) _ FN13 (rsend_spec x22 r x.data hI.rok) rfl rfl rfl (by simp) (List.perm_middle (l₁ := [_, _]))) (wm_ex fun x83 hx83 => ?_)
            refine wm_g rfl rfl (y_neqI rfl rfl) ?_
            refine wm_nil ?_
            refine all_wq ?_
            refine wq_then ?_
            refine wc_known 84 false rfl (by rw [(rel_send hI.1 x.data).1]; simp) ?_
            refine wc_cond_false rfl ?_
            refine wc_skip ?_
            exact wq_cut ((e.send x.data).1, (r.send x.data).1) (hI.send (by omega) x.data) ⟨rfl, rfl, rfl, rfl, trivial⟩ (fun w hw => hw.sub (by (repeat (first | exact pt_nil | apply pt0 | apply pt1 | apply pt2 | apply pt3 | apply pt4 | apply pt5 | apply pt6 | apply pt7 | apply pt8 | apply pt9 | apply pt10 | apply pt11 | apply pt12 | apply pt13 | apply pt14 | apply pt15 | apply pt16 | apply pt17))))
        · rintro ⟨e', r'⟩ hI'; simp only at hI'
          refine all_wc ?_
          refine wc_seq ?_
          refine wc_region ?_
          refine wl_y rfl (y_move rfl) ?_
          refine wl_c (fun _ _ => want_none) rfl (yc_spec (fst := []) (cap := []) _ FN15 (out_spec x17 e' hI'.eok) rfl rfl rfl (by simp) (by (repeat (first | exact pt_nil | apply pt0 | apply pt1 | apply pt2 | apply pt3 | apply pt4 | apply pt5 | apply pt6 | apply pt7 | apply pt8 | apply pt9 | apply pt10 | apply pt11 | apply pt12 | apply pt13 | apply pt14 | apply pt15 | apply pt16 | apply pt17)))) (wl_ex fun x86 hx86 => ?_)
          obtain ⟨o86, c86⟩ := x86
          refine wl_y rfl (y_move rfl) ?_
          refine wl_c (fun _ _ => want_none) rfl (yc_spec (fst := []) (cap := []) _ FN16 (rout_spec x22 r' hI'.rok) rfl rfl rfl (by simp) (by (repeat (first | exact pt_nil | apply pt0 | apply pt1 | apply pt2 | apply pt3 | apply pt4 | apply pt5 | apply pt6 | apply pt7 | apply pt8 | apply pt9 | apply pt10 | apply pt11 | apply pt12 | apply pt13 | apply pt14 | apply pt15 | apply pt16 | apply pt17)))) (wl_ex fun x88 hx88 => ?_)
          obtain ⟨o88, c88⟩ := x88
          refine wl_c (fun _ _ => want_none) rfl (yc_spec (fst := []) (cap := []) _ FN14 (packets_spec o86 o88 c86 c88 e'.out r'.out (by rw [out_length]; have := hI'.eok; obtain ⟨a, b, _, _⟩ := this; omega)) rfl rfl rfl (List.forall_mem_cons.2 ⟨.inr ⟨pksA o86 c86 e'.out, by simp, fun _ => slc_rsl⟩, List.forall_mem_cons.2 ⟨.inr ⟨pksA o88 c88 r'.out, by simp, fun _ => slc_rsl⟩, List.forall_mem_nil _⟩⟩) (List.Perm.refl _)) (wl_ex fun x89 hx89 => ?_)
          refine wl_y rfl (y_not rfl) ?_
          refine wl_y rfl (y_move rfl) ?_
          refine wl_known 91 false rfl (by rw [rel_out hI'.1]; simp) ?_
          refine wl_yg rfl rfl rfl (y_move rfl) ?_
          refine wl_c (want_some rfl rfl) rfl (yc_spec (fst := []) (cap := []) _ FN17 (open_spec x17 e') rfl rfl rfl (by simp) (by (repeat (first | exact pt_nil | apply pt0 | apply pt1 | apply pt2 | apply pt3 | apply pt4 | apply pt5 | apply pt6 | apply pt7 | apply pt8 | apply pt9 | apply pt10 | apply pt11 | apply pt12 | apply pt13 | apply pt14 | apply pt15 | apply pt16 | apply pt17)))) (wl_ex fun x93 hx93 => ?_)
          refine wl_yg rfl rfl rfl (y_move rfl) ?_
          refine wl_c (want_some rfl rfl) rfl (yc_spec (fst := []) (cap := []) _ FN18 (ropen_spec x22 r' hI'.rok) rfl rfl rfl (by simp) (by (repeat (first | exact pt_nil | apply pt0 | apply pt1 | apply pt2 | apply pt3 | apply pt4 | apply pt5 | apply pt6 | apply pt7 | apply pt8 | apply pt9 | apply pt10 | apply pt11 | apply pt12 | apply pt13 | apply pt14 | apply pt15 | apply pt16 | apply pt17)))) (wl_ex fun x95 hx95 => ?_)
          refine wl_yg rfl rfl rfl (y_neqI rfl rfl) ?_
          refine wl_y rfl (y_pick_f rfl rfl) ?_
          refine wl_nil ?_
          refine wq_then ?_
          refine wc_known 97 false rfl (by have := hI'.1.open; have := hI'.1.2.2.2.2; simp; omega) ?_
          refine wc_cond_false rfl ?_
          refine wc_skip ?_
          refine wq_block_normal ?_
          refine wq_then ?_
          refine wc_region ?_
          refine wl_y rfl (y_move rfl) ?_
          refine wl_y rfl (y_add rfl rfl (by omega)) ?_
          refine wl_y rfl (y_assign rfl) ?_
          refine wl_nil ?_
          exact wq_round (k + 1, e', r') (by simp only; omega) ⟨by simp only; omega, by simp only; omega, hI'⟩ ⟨rfl, rfl, rfl, rfl, trivial⟩ (fun w hw => hw.sub (by (repeat (first | exact pt_nil | apply pt0 | apply pt1 | apply pt2 | apply pt3 | apply pt4 | apply pt5 | apply pt6 | apply pt7 | apply pt8 | apply pt9 | apply pt10 | apply pt11 | apply pt12 | apply pt13 | apply pt14 | apply pt15 | apply pt16 | apply pt17))))
      ·
        simp at hc45
        refine wc_exit ?_
        refine wq_then_exit (wq_then_exit (wq_block_exit ?_))
        refine wq_then ?_
        refine wc_seq ?_
        refine wc_region ?_
        refine wl_c (fun _ _ => want_none) rfl (yc_spec (fst := []) (cap := []) _ FN9 awake_spec rfl rfl rfl (by simp) (by (repeat (first | exact pt_nil | apply pt0 | apply pt1 | apply pt2 | apply pt3 | apply pt4 | apply pt5 | apply pt6 | apply pt7 | apply pt8 | apply pt9 | apply pt10 | apply pt11 | apply pt12 | apply pt13 | apply pt14 | apply pt15 | apply pt16 | apply pt17)))) (wl_ex fun x98 hx98 => ?_)
        refine wl_y rfl (y_assign rfl) ?_
        refine wl_nil ?_
        refine wq_then ?_
        refine wc_ret ?_
        refine wq_ret1 rfl rfl (fun w hw => ?_)
        exact ⟨(), trivial, rfl, hw.bare⟩
    ·
      simp at hg42
      refine wl_sk rfl rfl rfl rfl ?_
      refine wl_sk rfl rfl rfl rfl ?_
      refine wl_y rfl (y_pick_f rfl rfl) ?_
      refine wl_nil ?_
      refine wq_then ?_
      refine wc_cond_false rfl ?_
      refine wc_exit ?_
      refine wq_then_exit (wq_then_exit (wq_block_exit ?_))
      refine wq_then ?_
      refine wc_seq ?_
      refine wc_region ?_
      refine wl_c (fun _ _ => want_none) rfl (yc_spec (fst := []) (cap := []) _ FN9 awake_spec rfl rfl rfl (by simp) (by (repeat (first | exact pt_nil | apply pt0 | apply pt1 | apply pt2 | apply pt3 | apply pt4 | apply pt5 | apply pt6 | apply pt7 | apply pt8 | apply pt9 | apply pt10 | apply pt11 | apply pt12 | apply pt13 | apply pt14 | apply pt15 | apply pt16 | apply pt17)))) (wl_ex fun x98 hx98 => ?_)
      refine wl_y rfl (y_assign rfl) ?_
      refine wl_nil ?_
      refine wq_then ?_
      refine wc_ret ?_
      refine wq_ret1 rfl rfl (fun w hw => ?_)
      exact ⟨(), trivial, rfl, hw.bare⟩

theorem plays_all (w : Int) (oo : Option Addr) (cc : Nat) (ops : List OpL) (hg : ∀ x ∈ ops, goodP x.p) : Ctr Try.prog 3 #[vI w, .slice oo ops.length cc] [rsl oo ops.length 5 (ops.flatMap encO)] [] (fun _ : Unit => True) (fun _ => .bool true) (fun _ => []) := by
  rcases Int.lt_or_le w 1 with h | h
  · exact plays_lo w h oo cc ops
  rcases Int.lt_or_le 1000 w with h' | h'
  · exact plays_hi w h' oo cc ops
  obtain ⟨n, rfl⟩ := Int.eq_ofNat_of_zero_le (show 0 ≤ w by omega)
  exact plays_ok n (by omega) (by omega) oo cc ops hg
end Go.Proofs.Ytodcciahagefnaa
