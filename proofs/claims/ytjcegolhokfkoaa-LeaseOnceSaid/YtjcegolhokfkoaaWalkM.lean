/-
  Walks: what the reference takes back.
-/
import Derived.Test.YtjcegolhokfkoaaRTake
namespace Go.Proofs.Ytjcegolhokfkoaa
open Go.Eng

set_option maxHeartbeats 1000000 in
theorem rtake_c (b : Nat) (r : Rt) (now : Int) (wk : Str) (hr : r.ok) :
    Ctr Try.prog 33 #[ptr b, vI now, vS wk] [] [rtA b r] (fun _ : Option Addr × Nat => True) (fun x => .slice x.1 (r.take (rp now wk)).2.length x.2) (fun x => [rtA b (r.take (rp now wk)).1, slc 28 3 x.1 (r.take (rp now wk)).2.length x.2 ((r.take (rp now wk)).2.flatMap encJ)]) := by
  refine spec_start (n := 59) [(0, ptr b), (1, vI now), (2, vS wk)] Try.func33 rfl rfl ⟨rfl, rfl, rfl, trivial⟩ rfl ?_
  intro w0 K hR
  obtain ⟨h1, h2, h3, h4, h5⟩ := id hr
  refine wc_ex rt_open (fun oc => ?_)
  refine wc_seq ?_
  refine wc_region ?_
  refine wl_y rfl (y_assign rfl) ?_
  refine wl_nil ?_
  refine wq_then ?_
  refine wc_seq ?_
  refine wc_region ?_
  refine wl_y rfl (y_assign rfl) ?_
  refine wl_nil ?_
  refine wq_then ?_
  refine wc_seq ?_
  refine wc_region ?_
  refine wl_y rfl (y_assign rfl) ?_
  refine wl_nil ?_
  refine wq_then ?_
  refine wc_seq ?_
  refine wc_seq ?_
  refine wc_region ?_
  refine wl_y rfl (y_assign rfl) ?_
  refine wl_nil ?_
  refine wq_then ?_
  refine wc_block ?_
  refine wc_loop (α := Nat × (Option Addr × Nat) × (Option Addr × Nat)) (fun y => y.1 ≤ r.l.length) [(0, _), (1, _), (2, _)] (fun y => [(9, vI y.1), (7, .slice y.2.1.1 ((r.l.take y.1).filter (rp now wk)).length y.2.1.2), (8, .slice y.2.2.1 ((r.l.take y.1).filter (fun x => !rp now wk x)).length y.2.2.2)]) (fun y => Hp w0 K (slc 28 3 y.2.1.1 ((r.l.take y.1).filter (rp now wk)).length y.2.1.2 ((((r.l.take y.1).filter (rp now wk)).map (·.job)).flatMap encJ) :: slc 30 6 y.2.2.1 ((r.l.take y.1).filter (fun x => !rp now wk x)).length y.2.2.2 (((r.l.take y.1).filter (fun x => !rp now wk x)).flatMap encL) :: rtAs b r oc)) (fun y => r.l.length - y.1) (0, (none, 0), (none, 0)) ?_ ⟨rfl, rfl, rfl, rfl, rfl, rfl, trivial⟩ ?_ ?_
  · exact Nat.zero_le _
  · exact fun w hw => Hp.addNil [] _ (Hp.addNil [] _ hw)
  · rintro ⟨i, ⟨o1, c1⟩, ⟨o2, c2⟩⟩ hi; simp only at hi
    refine wc_world (S' := Hp w0 K (slc 28 3 o1 ((r.l.take i).filter (rp now wk)).length c1 ((((r.l.take i).filter (rp now wk)).map (·.job)).flatMap encJ) :: slc 30 6 o2 ((r.l.take i).filter (fun x => !rp now wk x)).length c2 (((r.l.take i).filter (fun x => !rp now wk x)).flatMap encL) :: rtAs b r oc)) (fun w hw => hw) ?_
    refine wc_same 9 (vI i) rfl rfl ?_
    refine wc_same 7 (.slice o1 ((r.l.take i).filter (rp now wk)).length c1) rfl rfl ?_
    refine wc_same 8 (.slice o2 ((r.l.take i).filter (fun x => !rp now wk x)).length c2) rfl rfl ?_
    refine wc_seq ?_
    refine wc_seq ?_
    refine wc_region ?_
    refine wl_y rfl (y_move rfl) ?_
    refine wl_y rfl (y_move rfl) ?_
    refine wl_y rfl (y_nilCheck rfl) ?_
    refine wl_y rfl (y_fieldAddr F50_0 rfl) ?_
    refine wl_y rfl (y_load NA36 rfl (by first | exact cell_blk [] rfl | exact cell_blk [_] rfl | exact cell_blk [_, _] rfl | exact cell_blk [_, _, _] rfl | exact cell_blk [_, _, _, _] rfl | exact cell_blk [_, _, _, _, _] rfl | exact cell_blk [_, _, _, _, _, _] rfl | exact cellR_blk (by assumption) rfl)) ?_
    refine wl_y rfl (y_lenSl Try.underlying36 rfl) ?_
    refine wl_y rfl (y_lss rfl rfl) ?_
    refine wl_nil ?_
    refine wq_then ?_
    refine wc_cond rfl (fun hc17 => ?_) (fun hc17 => ?_)
    ·
      simp at hc17
      refine wc_skip ?_
      refine wq_then ?_
      refine wc_seq ?_
      refine wc_block ?_
      refine wc_seq ?_
      refine wc_region ?_
      obtain ⟨x, hx⟩ : ∃ x, r.l[i]? = some x := ⟨_, List.getElem?_eq_getElem (by omega)⟩
      have hf1 := fil_len r.l (rp now wk) i
      have hf2 := fil_len r.l (fun x => !rp now wk x) i
      refine wl_y rfl (y_move rfl) ?_
      refine wl_y rfl (y_nilCheck rfl) ?_
      refine wl_y rfl (y_fieldAddr F50_0 rfl) ?_
      refine wl_y rfl (y_load NA36 rfl (by first | exact cell_blk [] rfl | exact cell_blk [_] rfl | exact cell_blk [_, _] rfl | exact cell_blk [_, _, _] rfl | exact cell_blk [_, _, _, _] rfl | exact cell_blk [_, _, _, _, _] rfl | exact cell_blk [_, _, _, _, _, _] rfl | exact cellR_blk (by assumption) rfl)) ?_
      refine wl_y rfl (y_move rfl) ?_
      refine wl_y rfl (y_indexAddr Try.underlying36 T30 rfl rfl rfl (by omega) (by first | assumption | exact fun _ _ => rfl | exact fun w hw => hw.slc_isSome [] (by omega) | exact fun w hw => hw.slc_isSome [_] (by omega) | exact fun w hw => hw.slc_isSome [_, _] (by omega) | exact fun w hw => hw.slc_isSome [_, _, _] (by omega) | exact fun w hw => hw.slc_isSome [_, _, _, _] (by omega) | exact fun w hw => hw.slc_isSome [_, _, _, _, _] (by omega) | exact fun w hw => hw.slc_isSome [_, _, _, _, _, _] (by omega))) ?_
      refine wl_y rfl (y_loadAgg (l := encL x) AG30 rfl rfl (by first | exact agg_own [] (fun i u h => rows_get encL_len hx h) | exact agg_own [_] (fun i u h => rows_get encL_len hx h) | exact agg_own [_, _] (fun i u h => rows_get encL_len hx h) | exact agg_own [_, _, _] (fun i u h => rows_get encL_len hx h) | exact agg_own [_, _, _, _] (fun i u h => rows_get encL_len hx h) | exact agg_own [_, _, _, _, _] (fun i u h => rows_get encL_len hx h) | exact agg_own [_, _, _, _, _, _] (fun i u h => rows_get encL_len hx h))) ?_
      refine wl_w (fun _ _ => want_none) rfl (yw_alloc T30 rfl) (wl_ex fun b10 _ => ?_)
      first | refine wl_u (yu_storeAgg [] (l' := [_, _, _, _, _, _]) T30 rfl rfl rfl (by simp [Value.oneCell', encL, encJ]) rfl rfl) ?_ | refine wl_u (yu_storeAgg [_] (l' := [_, _, _, _, _, _]) T30 rfl rfl rfl (by simp [Value.oneCell', encL, encJ]) rfl rfl) ?_ | refine wl_u (yu_storeAgg [_, _] (l' := [_, _, _, _, _, _]) T30 rfl rfl rfl (by simp [Value.oneCell', encL, encJ]) rfl rfl) ?_ | refine wl_u (yu_storeAgg [_, _, _] (l' := [_, _, _, _, _, _]) T30 rfl rfl rfl (by simp [Value.oneCell', encL, encJ]) rfl rfl) ?_ | refine wl_u (yu_storeAgg [_, _, _, _] (l' := [_, _, _, _, _, _]) T30 rfl rfl rfl (by simp [Value.oneCell', encL, encJ]) rfl rfl) ?_ | refine wl_u (yu_storeAgg [_, _, _, _, _] (l' := [_, _, _, _, _, _]) T30 rfl rfl rfl (by simp [Value.oneCell', encL, encJ]) rfl rfl) ?_ | refine wl_u (yu_storeAgg [_, _, _, _, _, _] (l' := [_, _, _, _, _, _]) T30 rfl rfl rfl (by simp [Value.oneCell', encL, encJ]) rfl rfl) ?_
      refine wl_nil ?_
      refine wq_then ?_
      refine wc_seq ?_
      refine wc_region ?_
      refine wl_y rfl (y_move rfl) ?_
      refine wl_y rfl (y_eqlS rfl rfl) ?_
      refine wl_y rfl (y_move rfl) ?_
      apply wl_and 5 34 [(0, _), (1, _), (2, _), (7, _), (8, _), (9, _), (10, _)] (t := 29) rfl ⟨rfl, rfl, rfl, rfl, rfl, rfl, rfl, trivial⟩
      · intro hg29 hM34
        try (simp at hg29)
        refine wl_yg rfl rfl rfl (y_fieldAddr F30_3 rfl) ?_
        refine wl_yg rfl rfl rfl (y_load NA3 rfl (by first | exact cell_blk [] rfl | exact cell_blk [_] rfl | exact cell_blk [_, _] rfl | exact cell_blk [_, _, _] rfl | exact cell_blk [_, _, _, _] rfl | exact cell_blk [_, _, _, _, _] rfl | exact cell_blk [_, _, _, _, _, _] rfl | exact cellR_blk (by assumption) rfl)) ?_
        refine wl_yg rfl rfl rfl (y_move rfl) ?_
        refine wl_yg rfl rfl rfl (y_lss rfl rfl) ?_
        refine wl_y rfl (y_pick_t rfl rfl) ?_
        exact wl_weaken hM34 ⟨rfl, rfl, rfl, rfl, rfl, rfl, rfl, rfl, trivial⟩
      · intro hg29 hM34
        refine wl_sk rfl rfl rfl rfl ?_
        refine wl_sk rfl rfl rfl rfl ?_
        refine wl_sk rfl rfl rfl rfl ?_
        refine wl_sk rfl rfl rfl rfl ?_
        refine wl_y rfl (y_pick_f rfl rfl) ?_
        exact wl_weaken hM34 ⟨rfl, rfl, rfl, rfl, rfl, rfl, rfl, rfl, trivial⟩
      ·
        refine wl_y rfl (y_move rfl) ?_
        apply wl_or 9 44 [(0, _), (1, _), (2, _), (7, _), (8, _), (9, _), (10, _)] (t := 35) rfl ⟨rfl, rfl, rfl, rfl, rfl, rfl, rfl, trivial⟩
        · intro hg35 hM44
          refine wl_sk rfl rfl rfl rfl ?_
          refine wl_sk rfl rfl rfl rfl ?_
          refine wl_sk rfl rfl rfl rfl ?_
          refine wl_sku rfl rfl rfl ?_
          refine wl_sku rfl rfl rfl ?_
          refine wl_sku rfl rfl rfl ?_
          refine wl_sku rfl rfl rfl ?_
          refine wl_sk rfl rfl rfl rfl ?_
          refine wl_y rfl (y_pick_t rfl rfl) ?_
          exact wl_weaken hM44 ⟨rfl, rfl, rfl, rfl, rfl, rfl, rfl, rfl, trivial⟩
        · intro hg35 hM44
          try (simp at hg35)
          refine wl_yg rfl rfl rfl (y_move rfl) ?_
          refine wl_yg rfl rfl rfl (y_neqS rfl rfl) ?_
          refine wl_yg rfl rfl rfl (y_move rfl) ?_
          apply wl_and 5 43 [(0, _), (1, _), (2, _), (7, _), (8, _), (9, _), (10, _), (35, _)] (t := 38) rfl ⟨rfl, rfl, rfl, rfl, rfl, rfl, rfl, rfl, trivial⟩
          · intro hg38 hM43
            try (simp at hg38)
            refine wl_yg rfl rfl rfl (y_fieldAddr F30_1 rfl) ?_
            refine wl_yg rfl rfl rfl (y_load NA9 rfl (by first | exact cell_blk [] rfl | exact cell_blk [_] rfl | exact cell_blk [_, _] rfl | exact cell_blk [_, _, _] rfl | exact cell_blk [_, _, _, _] rfl | exact cell_blk [_, _, _, _, _] rfl | exact cell_blk [_, _, _, _, _, _] rfl | exact cellR_blk (by assumption) rfl)) ?_
            refine wl_yg rfl rfl rfl (y_move rfl) ?_
            refine wl_yg rfl rfl rfl (y_eqlS rfl rfl) ?_
            refine wl_yg rfl rfl rfl (y_pick_t rfl rfl) ?_
            exact wl_weaken hM43 ⟨rfl, rfl, rfl, rfl, rfl, rfl, rfl, rfl, rfl, trivial⟩
          · intro hg38 hM43
            refine wl_sk rfl rfl rfl rfl ?_
            refine wl_sk rfl rfl rfl rfl ?_
            refine wl_sk rfl rfl rfl rfl ?_
            refine wl_sk rfl rfl rfl rfl ?_
            refine wl_yg rfl rfl rfl (y_pick_f rfl rfl) ?_
            exact wl_weaken hM43 ⟨rfl, rfl, rfl, rfl, rfl, rfl, rfl, rfl, rfl, trivial⟩
          ·
            refine wl_y rfl (y_pick_f rfl rfl) ?_
            exact wl_weaken hM44 ⟨rfl, rfl, rfl, rfl, rfl, rfl, rfl, rfl, trivial⟩
        ·
          refine wl_nil ?_
          refine wq_then ?_
          refine wc_cond rfl (fun hc44 => ?_) (fun hc44 => ?_)
          ·
            refine wc_region ?_
            refine wl_y rfl (y_move rfl) ?_
            refine wl_y rfl (y_fieldAddr F30_0 rfl) ?_
            refine wl_y rfl (y_loadAgg (l := [_, _, _]) AG28 rfl rfl (by first | exact cells_blk [] rfl | exact cells_blk [_] rfl | exact cells_blk [_, _] rfl | exact cells_blk [_, _, _] rfl | exact cells_blk [_, _, _, _] rfl | exact cells_blk [_, _, _, _, _] rfl | exact cells_blk [_, _, _, _, _, _] rfl | exact cellsR_blk (by assumption) rfl)) ?_
            refine wl_w (fun _ _ => want_none) rfl (yw_buildSlice (cs := [_, _, _]) Try.underlying33 T28 rfl rfl rfl rfl rfl rfl rfl) (wl_ex fun b48 _ => ?_)
            refine wl_w (fun _ _ => want_none) rfl (yw_append [_, _] Try.underlying33 Try.underlying33 (.inl ⟨_, rfl⟩) T28 rfl rfl rfl (fun w hw => Src.slice ((hw.seen []).mono fun _ => slc_rsl)) (by omega) (by unfold maxLen; omega) (by simp [Value.oneCell', encJ]) rfl) (wl_ex fun p49 hp49 => ?_)
            refine wl_y rfl (y_assign rfl) ?_
            refine wl_nil ?_
            refine wq_block_normal ?_
            refine wq_then ?_
            refine wc_region ?_
            refine wl_y rfl (y_move rfl) ?_
            refine wl_y rfl (y_add rfl rfl (by omega)) ?_
            refine wl_y rfl (y_assign rfl) ?_
            refine wl_nil ?_
            have e1 : ((r.l.take (i + 1)).filter (rp now wk)) = ((r.l.take i).filter (rp now wk)) ++ [x] := fil_hit hx hc44
            have e2 : ((r.l.take (i + 1)).filter (fun x => !rp now wk x)) = ((r.l.take i).filter (fun x => !rp now wk x)) := fil_miss hx (by simp [rp, hc44])
            refine wq_same 7 (.slice p49.1 ((r.l.take (i + 1)).filter (rp now wk)).length p49.2) rfl (by rw [e1, List.length_append]; rfl) ?_
            refine wq_same 8 (.slice o2 ((r.l.take (i + 1)).filter (fun x => !rp now wk x)).length c2) rfl (by rw [e2]) ?_
            exact wq_round (i + 1, p49, (o2, c2)) (by simp only; omega) (by simp only; omega) ⟨rfl, rfl, rfl, rfl, rfl, rfl, trivial⟩ (fun w hw => by simp only [e1, e2, List.map_append, List.flatMap_append, List.length_append]; exact hw.sub (by (repeat (first | exact pt_nil | apply pt0 | apply pt1 | apply pt2 | apply pt3 | apply pt4 | apply pt5 | apply pt6 | apply pt7 | apply pt8 | apply pt9 | apply pt10 | apply pt11 | apply pt12 | apply pt13 | apply pt14 | apply pt15 | apply pt16 | apply pt17))))
          ·
            refine wc_region ?_
            refine wl_y rfl (y_move rfl) ?_
            refine wl_y rfl (y_loadAgg (l := [_, _, _, _, _, _]) AG30 rfl rfl (by first | exact cells_blk [] rfl | exact cells_blk [_] rfl | exact cells_blk [_, _] rfl | exact cells_blk [_, _, _] rfl | exact cells_blk [_, _, _, _] rfl | exact cells_blk [_, _, _, _, _] rfl | exact cells_blk [_, _, _, _, _, _] rfl | exact cellsR_blk (by assumption) rfl)) ?_
            refine wl_w (fun _ _ => want_none) rfl (yw_buildSlice (cs := [_, _, _, _, _, _]) Try.underlying36 T30 rfl rfl rfl rfl rfl rfl rfl) (wl_ex fun b52 _ => ?_)
            refine wl_w (fun _ _ => want_none) rfl (yw_append [_, _, _] Try.underlying36 Try.underlying36 (.inl ⟨_, rfl⟩) T30 rfl rfl rfl (fun w hw => Src.slice ((hw.seen []).mono fun _ => slc_rsl)) (by omega) (by unfold maxLen; omega) (by simp [Value.oneCell', encL]) rfl) (wl_ex fun p53 hp53 => ?_)
            refine wl_y rfl (y_assign rfl) ?_
            refine wl_nil ?_
            refine wq_block_normal ?_
            refine wq_then ?_
            refine wc_region ?_
            refine wl_y rfl (y_move rfl) ?_
            refine wl_y rfl (y_add rfl rfl (by omega)) ?_
            refine wl_y rfl (y_assign rfl) ?_
            refine wl_nil ?_
            have e1 : ((r.l.take (i + 1)).filter (rp now wk)) = ((r.l.take i).filter (rp now wk)) := fil_miss hx hc44
            have e2 : ((r.l.take (i + 1)).filter (fun x => !rp now wk x)) = ((r.l.take i).filter (fun x => !rp now wk x)) ++ [x] := fil_hit hx (by simp [rp, hc44])
            refine wq_same 7 (.slice o1 ((r.l.take (i + 1)).filter (rp now wk)).length c1) rfl (by rw [e1]) ?_
            refine wq_same 8 (.slice p53.1 ((r.l.take (i + 1)).filter (fun x => !rp now wk x)).length p53.2) rfl (by rw [e2, List.length_append]; rfl) ?_
            exact wq_round (i + 1, (o1, c1), p53) (by simp only; omega) (by simp only; omega) ⟨rfl, rfl, rfl, rfl, rfl, rfl, trivial⟩ (fun w hw => by simp only [e1, e2, List.flatMap_append, List.length_append]; exact hw.sub (by (repeat (first | exact pt_nil | apply pt0 | apply pt1 | apply pt2 | apply pt3 | apply pt4 | apply pt5 | apply pt6 | apply pt7 | apply pt8 | apply pt9 | apply pt10 | apply pt11 | apply pt12 | apply pt13 | apply pt14 | apply pt15 | apply pt16 | apply pt17))))
    ·
      simp at hc17
      refine wc_exit ?_
      refine wq_then_exit (wq_then_exit (wq_block_exit ?_))
      refine wq_then ?_
      refine wc_seq ?_
      refine wc_region ?_
      refine wl_y rfl (y_move rfl) ?_
      refine wl_y rfl (y_move rfl) ?_
      refine wl_y rfl (y_nilCheck rfl) ?_
      refine wl_y rfl (y_fieldAddr F50_0 rfl) ?_
      first | refine wl_u (yu_store [] (l' := [_, _, _]) T36 rfl rfl rfl rfl rfl rfl rfl) ?_ | refine wl_u (yu_store [_] (l' := [_, _, _]) T36 rfl rfl rfl rfl rfl rfl rfl) ?_ | refine wl_u (yu_store [_, _] (l' := [_, _, _]) T36 rfl rfl rfl rfl rfl rfl rfl) ?_ | refine wl_u (yu_store [_, _, _] (l' := [_, _, _]) T36 rfl rfl rfl rfl rfl rfl rfl) ?_ | refine wl_u (yu_store [_, _, _, _] (l' := [_, _, _]) T36 rfl rfl rfl rfl rfl rfl rfl) ?_ | refine wl_u (yu_store [_, _, _, _, _] (l' := [_, _, _]) T36 rfl rfl rfl rfl rfl rfl rfl) ?_ | refine wl_u (yu_store [_, _, _, _, _, _] (l' := [_, _, _]) T36 rfl rfl rfl rfl rfl rfl rfl) ?_
      refine wl_nil ?_
      refine wq_then ?_
      refine wc_seq ?_
      refine wc_region ?_
      refine wl_y rfl (y_move rfl) ?_
      refine wl_y rfl (y_assign rfl) ?_
      refine wl_nil ?_
      refine wq_then ?_
      refine wc_ret ?_
      refine wq_ret1 rfl rfl (fun w hw => ?_)
      obtain rfl : i = r.l.length := by omega
      simp only [List.take_length] at hw ⊢
      exact ⟨(o1, c1), trivial, by simp [Rt.take], by simp only [Rt.take, List.length_map]; exact rt_shut (o2, c2) (hw.sub (by (repeat (first | exact pt_nil | apply pt0 | apply pt1 | apply pt2 | apply pt3 | apply pt4 | apply pt5 | apply pt6 | apply pt7 | apply pt8 | apply pt9 | apply pt10 | apply pt11 | apply pt12 | apply pt13 | apply pt14 | apply pt15 | apply pt16 | apply pt17))))⟩

end Go.Proofs.Ytjcegolhokfkoaa
