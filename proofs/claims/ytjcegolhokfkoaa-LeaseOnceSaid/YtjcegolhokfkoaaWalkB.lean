/-
  Walks: new tables, and what is found.
-/
import Derived.Test.YtjcegolhokfkoaaWalkA
namespace Go.Proofs.Ytjcegolhokfkoaa
open Go.Eng

set_option maxHeartbeats 1000000 in
theorem new_lo (n : Int) (hn : n < 1 ∨ 1000000 < n) :
    Ctr Try.prog 7 #[vI n] [] [] (fun _ : Unit => True) (fun _ => .tuple #[.pointer none, vI 1]) (fun _ => []) := by
  refine spec_start (n := 14) [(0, vI n)] Try.func7 rfl rfl ⟨rfl, trivial⟩ rfl ?_
  intro w0 K hR
  refine wc_seq ?_
  refine wc_region ?_
  refine wl_y rfl (y_assign rfl) ?_
  refine wl_y rfl (y_assign rfl) ?_
  refine wl_nil ?_
  refine wq_then ?_
  refine wc_seq ?_
  refine wc_seq ?_
  refine wc_region ?_
  refine wl_y rfl (y_move rfl) ?_
  refine wl_y rfl (y_lss rfl rfl) ?_
  refine wl_y rfl (y_move rfl) ?_
  apply wl_or 3 9 [(0, _)] (t := 6) rfl ⟨rfl, trivial⟩
  · intro hg6 hM9
    refine wl_sk rfl rfl rfl rfl ?_
    refine wl_sk rfl rfl rfl rfl ?_
    refine wl_y rfl (y_pick_t rfl rfl) ?_
    exact wl_weaken hM9 ⟨rfl, rfl, trivial⟩
  · intro hg6 hM9
    try (simp at hg6)
    refine wl_yg rfl rfl rfl (y_move rfl) ?_
    refine wl_yg rfl rfl rfl (y_gtr rfl rfl) ?_
    refine wl_y rfl (y_pick_f rfl rfl) ?_
    exact wl_weaken hM9 ⟨rfl, rfl, trivial⟩
  ·
    refine wl_nil ?_
    refine wq_then ?_
    refine wc_known 9 true rfl (by simp; omega) ?_
    refine wc_cond_true rfl ?_
    refine wc_seq ?_
    refine wc_region ?_
    refine wl_y rfl (y_assign rfl) ?_
    refine wl_y rfl (y_assign rfl) ?_
    refine wl_nil ?_
    refine wq_then ?_
    refine wc_ret ?_
    refine wq_then_ret ?_
    refine wq_ret2 rfl rfl rfl (fun w hw => ?_)
    exact ⟨(), trivial, rfl, hw⟩

set_option maxHeartbeats 1000000 in
theorem new_ok (n : Int) (h1 : 1 ≤ n) (h2 : n ≤ 1000000) :
    Ctr Try.prog 7 #[vI n] [] [] (fun _ : Nat => True) (fun b => .tuple #[ptr b, vI 0]) (fun b => [tbA b ⟨n, 0, []⟩]) := by
  refine spec_start (n := 14) [(0, vI n)] Try.func7 rfl rfl ⟨rfl, trivial⟩ rfl ?_
  intro w0 K hR
  refine wc_seq ?_
  refine wc_region ?_
  refine wl_y rfl (y_assign rfl) ?_
  refine wl_y rfl (y_assign rfl) ?_
  refine wl_nil ?_
  refine wq_then ?_
  refine wc_seq ?_
  refine wc_seq ?_
  refine wc_region ?_
  refine wl_y rfl (y_move rfl) ?_
  refine wl_y rfl (y_lss rfl rfl) ?_
  refine wl_y rfl (y_move rfl) ?_
  apply wl_or 3 9 [(0, _)] (t := 6) rfl ⟨rfl, trivial⟩
  · intro hg6 hM9
    refine wl_sk rfl rfl rfl rfl ?_
    refine wl_sk rfl rfl rfl rfl ?_
    refine wl_y rfl (y_pick_t rfl rfl) ?_
    exact wl_weaken hM9 ⟨rfl, rfl, trivial⟩
  · intro hg6 hM9
    try (simp at hg6)
    refine wl_yg rfl rfl rfl (y_move rfl) ?_
    refine wl_yg rfl rfl rfl (y_gtr rfl rfl) ?_
    refine wl_y rfl (y_pick_f rfl rfl) ?_
    exact wl_weaken hM9 ⟨rfl, rfl, trivial⟩
  ·
    refine wl_nil ?_
    refine wq_then ?_
    refine wc_known 9 false rfl (by simp; omega) ?_
    refine wc_cond_false rfl ?_
    refine wc_skip ?_
    refine wq_then ?_
    refine wc_seq ?_
    refine wc_region ?_
    refine wl_y rfl (y_move rfl) ?_
    refine wl_w (fun _ _ => want_none) rfl (yw_makeMap (ek := vS) (ev := agL)) (wl_ex fun b11 _ => ?_)
    refine wl_y rfl (y_build (cs := [_, _, _]) T56 PL56 rfl rfl rfl) ?_
    refine wl_w (fun _ _ => want_none) rfl (yw_box rfl rfl) (wl_ex fun b13 _ => ?_)
    refine wl_y rfl (y_assign rfl) ?_
    refine wl_y rfl (y_assign rfl) ?_
    refine wl_nil ?_
    refine wq_then ?_
    refine wc_ret ?_
    refine wq_ret2 rfl rfl rfl (fun w hw => ?_)
    exact ⟨b13, trivial, rfl, tb_shut b11 hw⟩

set_option maxHeartbeats 1000000 in
theorem find_c (b : Nat) (t : Tb) (key : Str) (epoch : Int) (mb : Nat) :
    Ctr Try.prog 27 #[ptr b, vS key, vI epoch] [] (tbAs b t mb) (fun _ : Unit => True) (fun _ => .tuple #[agL (t.find key epoch).1, vI (t.find key epoch).2]) (fun _ => tbAs b t mb) := by
  refine spec_start (n := 30) [(0, ptr b), (1, vS key), (2, vI epoch)] Try.func27 rfl rfl ⟨rfl, rfl, rfl, trivial⟩ rfl ?_
  intro w0 K hR
  refine wc_seq ?_
  refine wc_region ?_
  refine wl_w (fun _ _ => want_none) rfl (yw_alloc T30 rfl) (wl_ex fun b6 _ => ?_)
  refine wl_y rfl (y_assign rfl) ?_
  refine wl_nil ?_
  refine wq_then ?_
  refine wc_seq ?_
  refine wc_region ?_
  rcases hg : mget t.m key with _ | x
  ·
    refine wl_y rfl (y_move rfl) ?_
    refine wl_y rfl (y_nilCheck rfl) ?_
    refine wl_y rfl (y_fieldAddr F56_2 rfl) ?_
    refine wl_y rfl (y_load NA54 rfl (by first | exact cell_blk [] rfl | exact cell_blk [_] rfl | exact cell_blk [_, _] rfl | exact cell_blk [_, _, _] rfl | exact cell_blk [_, _, _, _] rfl | exact cellR_blk (by assumption) rfl)) ?_
    refine wl_y rfl (y_move rfl) ?_
    refine wl_y rfl (y_lookup Try.underlying54 (keyE_str Try.underlying9) T30 rfl rfl (by first | exact fun w hw => hw.seen [] | exact fun w hw => hw.seen [_] | exact fun w hw => hw.seen [_, _] | exact fun w hw => hw.seen [_, _, _] | exact fun w hw => hw.seen [_, _, _, _] | exact fun w hw => Seen.rngMap (hw.seen []) | exact fun w hw => Seen.rngMap (hw.seen [_]) | exact fun w hw => Seen.rngMap (hw.seen [_, _]) | exact fun w hw => Seen.rngMap (hw.seen [_, _, _]) | exact fun w hw => Seen.rngMap (hw.seen [_, _, _, _]))) ?_
    refine wl_same 16 (.tuple #[agL noL, vB false]) rfl (by rw [hg]; rfl) ?_
    refine wl_y rfl (y_move rfl) ?_
    refine wl_y rfl (y_extract rfl rfl) ?_
    refine wl_y rfl (y_extract rfl rfl) ?_
    refine wl_w (fun _ _ => want_none) rfl (yw_alloc T30 rfl) (wl_ex fun b8 _ => ?_)
    first | refine wl_u (yu_storeAgg [] (l' := [_, _, _, _, _, _]) T30 rfl rfl rfl (by simp [Value.oneCell']) rfl rfl) ?_ | refine wl_u (yu_storeAgg [_] (l' := [_, _, _, _, _, _]) T30 rfl rfl rfl (by simp [Value.oneCell']) rfl rfl) ?_ | refine wl_u (yu_storeAgg [_, _] (l' := [_, _, _, _, _, _]) T30 rfl rfl rfl (by simp [Value.oneCell']) rfl rfl) ?_ | refine wl_u (yu_storeAgg [_, _, _] (l' := [_, _, _, _, _, _]) T30 rfl rfl rfl (by simp [Value.oneCell']) rfl rfl) ?_ | refine wl_u (yu_storeAgg [_, _, _, _] (l' := [_, _, _, _, _, _]) T30 rfl rfl rfl (by simp [Value.oneCell']) rfl rfl) ?_
    refine wl_y rfl (y_assign rfl) ?_
    refine wl_nil ?_
    refine wq_then ?_
    refine wc_seq ?_
    refine wc_block ?_
    refine wc_seq ?_
    refine wc_region ?_
    refine wl_y rfl (y_move rfl) ?_
    refine wl_y rfl (y_not rfl) ?_
    refine wl_y rfl (y_assign rfl) ?_
    refine wl_nil ?_
    refine wq_then ?_
    refine wc_known 19 true rfl (rfl) ?_
    refine wc_cond_true rfl ?_
    refine wc_seq ?_
    refine wc_region ?_
    refine wl_y rfl (y_build (cs := [_, _, _, _, _, _]) T30 PL30 rfl rfl rfl) ?_
    first | refine wl_u (yu_storeAgg [] (l' := [_, _, _, _, _, _]) T30 rfl rfl rfl (by simp [Value.oneCell']) rfl rfl) ?_ | refine wl_u (yu_storeAgg [_] (l' := [_, _, _, _, _, _]) T30 rfl rfl rfl (by simp [Value.oneCell']) rfl rfl) ?_ | refine wl_u (yu_storeAgg [_, _] (l' := [_, _, _, _, _, _]) T30 rfl rfl rfl (by simp [Value.oneCell']) rfl rfl) ?_ | refine wl_u (yu_storeAgg [_, _, _] (l' := [_, _, _, _, _, _]) T30 rfl rfl rfl (by simp [Value.oneCell']) rfl rfl) ?_ | refine wl_u (yu_storeAgg [_, _, _, _] (l' := [_, _, _, _, _, _]) T30 rfl rfl rfl (by simp [Value.oneCell']) rfl rfl) ?_
    refine wl_y rfl (y_assign rfl) ?_
    refine wl_nil ?_
    refine wq_then ?_
    refine wc_ret ?_
    refine wq_block_ret (wq_then_ret ?_)
    refine wq_retC2 (l := [_, _, _, _, _, _]) AG30 rfl rfl rfl rfl (by first | exact cells_blk [] rfl | exact cells_blk [_] rfl | exact cells_blk [_, _] rfl | exact cells_blk [_, _, _] rfl | exact cells_blk [_, _, _, _] rfl) (fun w hw => ?_)
    exact ⟨(), trivial, by simp only [Tb.find, hg], hw.drop.drop⟩
  ·
    refine wl_y rfl (y_move rfl) ?_
    refine wl_y rfl (y_nilCheck rfl) ?_
    refine wl_y rfl (y_fieldAddr F56_2 rfl) ?_
    refine wl_y rfl (y_load NA54 rfl (by first | exact cell_blk [] rfl | exact cell_blk [_] rfl | exact cell_blk [_, _] rfl | exact cell_blk [_, _, _] rfl | exact cell_blk [_, _, _, _] rfl | exact cellR_blk (by assumption) rfl)) ?_
    refine wl_y rfl (y_move rfl) ?_
    refine wl_y rfl (y_lookup Try.underlying54 (keyE_str Try.underlying9) T30 rfl rfl (by first | exact fun w hw => hw.seen [] | exact fun w hw => hw.seen [_] | exact fun w hw => hw.seen [_, _] | exact fun w hw => hw.seen [_, _, _] | exact fun w hw => hw.seen [_, _, _, _] | exact fun w hw => Seen.rngMap (hw.seen []) | exact fun w hw => Seen.rngMap (hw.seen [_]) | exact fun w hw => Seen.rngMap (hw.seen [_, _]) | exact fun w hw => Seen.rngMap (hw.seen [_, _, _]) | exact fun w hw => Seen.rngMap (hw.seen [_, _, _, _]))) ?_
    refine wl_same 16 (.tuple #[agL x, vB true]) rfl (by rw [hg]; rfl) ?_
    refine wl_y rfl (y_move rfl) ?_
    refine wl_y rfl (y_extract rfl rfl) ?_
    refine wl_y rfl (y_extract rfl rfl) ?_
    refine wl_w (fun _ _ => want_none) rfl (yw_alloc T30 rfl) (wl_ex fun b8 _ => ?_)
    first | refine wl_u (yu_storeAgg [] (l' := [_, _, _, _, _, _]) T30 rfl rfl rfl (by simp [Value.oneCell']) rfl rfl) ?_ | refine wl_u (yu_storeAgg [_] (l' := [_, _, _, _, _, _]) T30 rfl rfl rfl (by simp [Value.oneCell']) rfl rfl) ?_ | refine wl_u (yu_storeAgg [_, _] (l' := [_, _, _, _, _, _]) T30 rfl rfl rfl (by simp [Value.oneCell']) rfl rfl) ?_ | refine wl_u (yu_storeAgg [_, _, _] (l' := [_, _, _, _, _, _]) T30 rfl rfl rfl (by simp [Value.oneCell']) rfl rfl) ?_ | refine wl_u (yu_storeAgg [_, _, _, _] (l' := [_, _, _, _, _, _]) T30 rfl rfl rfl (by simp [Value.oneCell']) rfl rfl) ?_
    refine wl_y rfl (y_assign rfl) ?_
    refine wl_nil ?_
    refine wq_then ?_
    refine wc_seq ?_
    refine wc_block ?_
    refine wc_seq ?_
    refine wc_region ?_
    refine wl_y rfl (y_move rfl) ?_
    refine wl_y rfl (y_not rfl) ?_
    refine wl_y rfl (y_assign rfl) ?_
    refine wl_nil ?_
    refine wq_then ?_
    refine wc_known 19 false rfl (rfl) ?_
    refine wc_cond_false rfl ?_
    refine wc_seq ?_
    refine wc_region ?_
    refine wl_y rfl (y_fieldAddr F30_2 rfl) ?_
    refine wl_y rfl (y_load NA3 rfl (by first | exact cell_blk [] rfl | exact cell_blk [_] rfl | exact cell_blk [_, _] rfl | exact cell_blk [_, _, _] rfl | exact cell_blk [_, _, _, _] rfl | exact cellR_blk (by assumption) rfl)) ?_
    refine wl_y rfl (y_move rfl) ?_
    refine wl_y rfl (y_neqI rfl rfl) ?_
    refine wl_y rfl (y_assign rfl) ?_
    refine wl_nil ?_
    refine wq_then ?_
    refine wc_cond rfl (fun hc23 => ?_) (fun hc23 => ?_)
    ·
      simp at hc23
      refine wc_seq ?_
      refine wc_region ?_
      refine wl_y rfl (y_build (cs := [_, _, _, _, _, _]) T30 PL30 rfl rfl rfl) ?_
      first | refine wl_u (yu_storeAgg [] (l' := [_, _, _, _, _, _]) T30 rfl rfl rfl (by simp [Value.oneCell']) rfl rfl) ?_ | refine wl_u (yu_storeAgg [_] (l' := [_, _, _, _, _, _]) T30 rfl rfl rfl (by simp [Value.oneCell']) rfl rfl) ?_ | refine wl_u (yu_storeAgg [_, _] (l' := [_, _, _, _, _, _]) T30 rfl rfl rfl (by simp [Value.oneCell']) rfl rfl) ?_ | refine wl_u (yu_storeAgg [_, _, _] (l' := [_, _, _, _, _, _]) T30 rfl rfl rfl (by simp [Value.oneCell']) rfl rfl) ?_ | refine wl_u (yu_storeAgg [_, _, _, _] (l' := [_, _, _, _, _, _]) T30 rfl rfl rfl (by simp [Value.oneCell']) rfl rfl) ?_
      refine wl_y rfl (y_assign rfl) ?_
      refine wl_nil ?_
      refine wq_then ?_
      refine wc_ret ?_
      refine wq_block_ret (wq_then_ret ?_)
      refine wq_retC2 (l := [_, _, _, _, _, _]) AG30 rfl rfl rfl rfl (by first | exact cells_blk [] rfl | exact cells_blk [_] rfl | exact cells_blk [_, _] rfl | exact cells_blk [_, _, _] rfl | exact cells_blk [_, _, _, _] rfl) (fun w hw => ?_)
      exact ⟨(), trivial, by simp only [Tb.find, hg]; rw [if_neg hc23], hw.drop.drop⟩
    ·
      simp at hc23
      refine wc_skip ?_
      refine wq_block_normal ?_
      refine wq_then ?_
      refine wc_seq ?_
      refine wc_region ?_
      refine wl_y rfl (y_loadAgg (l := [_, _, _, _, _, _]) AG30 rfl rfl (by first | exact cells_blk [] rfl | exact cells_blk [_] rfl | exact cells_blk [_, _] rfl | exact cells_blk [_, _, _] rfl | exact cells_blk [_, _, _, _] rfl | exact cellsR_blk (by assumption) rfl)) ?_
      first | refine wl_u (yu_storeAgg [] (l' := [_, _, _, _, _, _]) T30 rfl rfl rfl (by simp [Value.oneCell']) rfl rfl) ?_ | refine wl_u (yu_storeAgg [_] (l' := [_, _, _, _, _, _]) T30 rfl rfl rfl (by simp [Value.oneCell']) rfl rfl) ?_ | refine wl_u (yu_storeAgg [_, _] (l' := [_, _, _, _, _, _]) T30 rfl rfl rfl (by simp [Value.oneCell']) rfl rfl) ?_ | refine wl_u (yu_storeAgg [_, _, _] (l' := [_, _, _, _, _, _]) T30 rfl rfl rfl (by simp [Value.oneCell']) rfl rfl) ?_ | refine wl_u (yu_storeAgg [_, _, _, _] (l' := [_, _, _, _, _, _]) T30 rfl rfl rfl (by simp [Value.oneCell']) rfl rfl) ?_
      refine wl_y rfl (y_assign rfl) ?_
      refine wl_nil ?_
      refine wq_then ?_
      refine wc_ret ?_
      refine wq_retC2 (l := [_, _, _, _, _, _]) AG30 rfl rfl rfl rfl (by first | exact cells_blk [] rfl | exact cells_blk [_] rfl | exact cells_blk [_, _] rfl | exact cells_blk [_, _, _] rfl | exact cells_blk [_, _, _, _] rfl) (fun w hw => ?_)
      exact ⟨(), trivial, by simp only [Tb.find, hg]; rw [if_pos hc23], hw.drop.drop⟩

end Go.Proofs.Ytjcegolhokfkoaa
