/-
  Walks: what the reference takes back.
-/
import Derived.Test.YtfnpjmlpiedgdaaLD
namespace Go.Proofs.Ytfnpjmlpiedgdaa
open Go.Eng


theorem fil_hit {l : List Ls} {p : Ls → Bool} {i : Nat} {x : Ls} (hx : l[i]? = some x) (hp : p x = true) : (l.take (i + 1)).filter p = (l.take i).filter p ++ [x] := by
  rw [List.take_add_one, hx, List.filter_append]; simp [hp]
theorem fil_miss {l : List Ls} {p : Ls → Bool} {i : Nat} {x : Ls} (hx : l[i]? = some x) (hp : p x = false) : (l.take (i + 1)).filter p = (l.take i).filter p := by
  rw [List.take_add_one, hx, List.filter_append]; simp [hp]
theorem fil_len (l : List Ls) (p : Ls → Bool) (i : Nat) : ((l.take i).filter p).length ≤ l.length := by
  have h1 := List.length_filter_le p (l.take i)
  rw [List.length_take] at h1
  omega
def rp (now : Int) (wk : Str) (x : Ls) : Bool := (decide (wk = []) && decide (x.upto < now)) || ((!decide (wk = [])) && decide (x.worker = wk))

set_option maxHeartbeats 1000000 in
theorem rtake_c (b : Nat) (r : Rt) (now : Int) (wk : Str) (hr : r.ok) :
    Ctr Try.prog 60 #[ptr b, vI now, vS wk] [] [rtA b r] (fun _ : Option Addr × Nat => True) (fun x => .slice x.1 (r.take (rp now wk)).2.length x.2) (fun x => [rtA b (r.take (rp now wk)).1, slc 30 3 x.1 (r.take (rp now wk)).2.length x.2 ((r.take (rp now wk)).2.flatMap encJ)]) := by
  refine spec_start (n := 59) [(0, ptr b), (1, vI now), (2, vS wk)] Try.func60 rfl rfl ⟨rfl, rfl, rfl, trivial⟩ rfl ?_
  intro w0 K hR
  obtain ⟨h1, h2, h3, h4, h5⟩ := id hr
  refine wc_ex rt_open (fun oc => ?_)
  refine wc_seq ?_
  refine wc_region ?_
  refine wl_y rfl (y_assign rfl) ?_
  refine wl_nil ?_
  refine wq_then ?_
  refine wc_seq ?_
  refine wc_region ?_
  refine wl_y rfl (y_assign rfl) ?_
  refine wl_nil ?_
  refine wq_then ?_
  refine wc_seq ?_
  refine wc_region ?_
  refine wl_y rfl (y_assign rfl) ?_
  refine wl_nil ?_
  refine wq_then ?_
  refine wc_seq ?_
  refine wc_seq ?_
  refine wc_region ?_
  refine wl_y rfl (y_assign rfl) ?_
  refine wl_nil ?_
  refine wq_then ?_
  refine wc_block ?_
  refine wc_loop (α := Nat × (Option Addr × Nat) × (Option Addr × Nat)) (fun y => y.1 ≤ r.l.length) [(0, _), (1, _), (2, _)] (fun y => [(9, vI y.1), (7, .slice y.2.1.1 ((r.l.take y.1).filter (rp now wk)).length y.2.1.2), (8, .slice y.2.2.1 ((r.l.take y.1).filter (fun x => !rp now wk x)).length y.2.2.2)]) (fun y => Hp w0 K (slc 30 3 y.2.1.1 ((r.l.take y.1).filter (rp now wk)).length y.2.1.2 ((((r.l.take y.1).filter (rp now wk)).map (·.job)).flatMap encJ) :: slc 36 6 y.2.2.1 ((r.l.take y.1).filter (fun x => !rp now wk x)).length y.2.2.2 (((r.l.take y.1).filter (fun x => !rp now wk x)).flatMap encL) :: rtAs b r oc)) (fun y => r.l.length - y.1) (0, (none, 0), (none, 0)) ?_ ⟨rfl, rfl, rfl, rfl, rfl, rfl, trivial⟩ ?_ ?_
  · exact Nat.zero_le _
  · exact fun w hw => Hp.addNil [] _ (Hp.addNil [] _ hw)
  · rintro ⟨i, ⟨o1, c1⟩, ⟨o2, c2⟩⟩ hi; simp only at hi
    refine wc_world (S' := Hp w0 K (slc 30 3 o1 ((r.l.take i).filter (rp now wk)).length c1 ((((r.l.take i).filter (rp now wk)).map (·.job)).flatMap encJ) :: slc 36 6 o2 ((r.l.take i).filter (fun x => !rp now wk x)).length c2 (((r.l.take i).filter (fun x => !rp now wk x)).flatMap encL) :: rtAs b r oc)) (fun w hw => hw) ?_
    refine wc_same 9 (vI i) rfl rfl ?_
    refine wc_same 7 (.slice o1 ((r.l.take i).filter (rp now wk)).length c1) rfl rfl ?_
    refine wc_same 8 (.slice o2 ((r.l.take i).filter (fun x => !rp now wk x)).length c2) rfl rfl ?_
    refine wc_seq ?_
    refine wc_seq ?_
    refine wc_region ?_
    refine wl_y rfl (y_move rfl) ?_
    refine wl_y rfl (y_move rfl) ?_
    refine wl_y rfl (y_nilCheck rfl) ?_
    refine wl_y rfl (y_fieldAddr F48_0 rfl) ?_
    refine wl_y rfl (y_load NA39 rfl (by first | exact cell_blk [] rfl | exact cell_blk [_] rfl | exact cell_blk [_, _] rfl | exact cell_blk [_, _, _] rfl | exact cell_blk [_, _, _, _] rfl | exact cell_blk [_, _, _, _, _] rfl | exact cell_blk [_, _, _, _, _, _] rfl | exact cellR_blk (by assumption) rfl)) ?_
    refine wl_y rfl (y_lenSl Try.underlying39 rfl) ?_
    refine wl_y rfl (y_lss rfl rfl) ?_
    refine wl_nil ?_
    refine wq_then ?_
    refine wc_cond rfl (fun hc17 => ?_) (fun hc17 => ?_)
    ·
      simp at hc17
      refine wc_skip ?_
      refine wq_then ?_
      refine wc_seq ?_
      refine wc_block ?_
      refine wc_seq ?_
      refine wc_region ?_
      obtain ⟨x, hx⟩ : ∃ x, r.l[i]? = some x := ⟨_, List.getElem?_eq_getElem (by omega)⟩
      have hf1 := fil_len r.l (rp now wk) i
      have hf2 := fil_len r.l (fun x => !rp now wk x) i
      refine wl_y rfl (y_move rfl) ?_
      refine wl_y rfl (y_nilCheck rfl) ?_
      refine wl_y rfl (y_fieldAddr F48_0 rfl) ?_
      refine wl_y rfl (y_load NA39 rfl (by first | exact cell_blk [] rfl | exact cell_blk [_] rfl | exact cell_blk [_, _] rfl | exact cell_blk [_, _, _] rfl | exact cell_blk [_, _, _, _] rfl | exact cell_blk [_, _, _, _, _] rfl | exact cell_blk [_, _, _, _, _, _] rfl | exact cellR_blk (by assumption) rfl)) ?_
      refine wl_y rfl (y_move rfl) ?_
      refine wl_y rfl (y_indexAddr Try.underlying39 T36 rfl rfl rfl (by omega) (by first | assumption | exact fun _ _ => rfl | exact fun w hw => hw.slc_isSome [] (by omega) | exact fun w hw => hw.slc_isSome [_] (by omega) | exact fun w hw => hw.slc_isSome [_, _] (by omega) | exact fun w hw => hw.slc_isSome [_, _, _] (by omega) | exact fun w hw => hw.slc_isSome [_, _, _, _] (by omega) | exact fun w hw => hw.slc_isSome [_, _, _, _, _] (by omega) | exact fun w hw => hw.slc_isSome [_, _, _, _, _, _] (by omega))) ?_
      refine wl_y rfl (y_loadAgg (l := encL x) AG36 rfl rfl (by first | exact agg_own [] (fun i u h => rows_get encL_len hx h) | exact agg_own [_] (fun i u h => rows_get encL_len hx h) | exact agg_own [_, _] (fun i u h => rows_get encL_len hx h) | exact agg_own [_, _, _] (fun i u h => rows_get encL_len hx h) | exact agg_own [_, _, _, _] (fun i u h => rows_get encL_len hx h) | exact agg_own [_, _, _, _, _] (fun i u h => rows_get encL_len hx h) | exact agg_own [_, _, _, _, _, _] (fun i u h => rows_get encL_len hx h))) ?_
      refine wl_w (fun _ _ => want_none) rfl (yw_alloc T36 rfl) (wl_ex fun b10 _ => ?_)
      first | refine wl_u (yu_storeAgg [] (l' := [_, _, _, _, _, _]) T36 rfl rfl rfl (by simp [Value.oneCell', encL, encJ]) rfl rfl) ?_ | refine wl_u (yu_storeAgg [_] (l' := [_, _, _, _, _, _]) T36 rfl rfl rfl (by simp [Value.oneCell', encL, encJ]) rfl rfl) ?_ | refine wl_u (yu_storeAgg [_, _] (l' := [_, _, _, _, _, _]) T36 rfl rfl rfl (by simp [Value.oneCell', encL, encJ]) rfl rfl) ?_ | refine wl_u (yu_storeAgg [_, _, _] (l' := [_, _, _, _, _, _]) T36 rfl rfl rfl (by simp [Value.oneCell', encL, encJ]) rfl rfl) ?_ | refine wl_u (yu_storeAgg [_, _, _, _] (l' := [_, _, _, _, _, _]) T36 rfl rfl rfl (by simp [Value.oneCell', encL, encJ]) rfl rfl) ?_ | refine wl_u (yu_storeAgg [_, _, _, _, _] (l' := [_, _, _, _, _, _]) T36 rfl rfl rfl (by simp [Value.oneCell', encL, encJ]) rfl rfl) ?_ | refine wl_u (yu_storeAgg [_, _, _, _, _, _] (l' := [_, _, _, _, _, _]) T36 rfl rfl rfl (by simp [Value.oneCell', encL, encJ]) rfl rfl) ?_
      refine wl_nil ?_
      refine wq_then ?_
      refine wc_seq ?_
      refine wc_region ?_
      refine wl_y rfl (y_move rfl) ?_
      refine wl_y rfl (y_eqlS rfl rfl) ?_
      refine wl_y rfl (y_move rfl) ?_
      apply wl_and 5 34 [(0, _), (1, _), (2, _), (7, _), (8, _), (9, _), (10, _)] (t := 29) rfl ⟨rfl, rfl, rfl, rfl, rfl, rfl, rfl, trivial⟩
      · intro hg29 hM34
        try (simp at hg29)
        refine wl_yg rfl rfl rfl (y_fieldAddr F36_3 rfl) ?_
        refine wl_yg rfl rfl rfl (y_load NA3 rfl (by first | exact cell_blk [] rfl | exact cell_blk [_] rfl | exact cell_blk [_, _] rfl | exact cell_blk [_, _, _] rfl | exact cell_blk [_, _, _, _] rfl | exact cell_blk [_, _, _, _, _] rfl | exact cell_blk [_, _, _, _, _, _] rfl | exact cellR_blk (by assumption) rfl)) ?_
        refine wl_yg rfl rfl rfl (y_move rfl) ?_
        refine wl_yg rfl rfl rfl (y_lss rfl rfl) ?_
        refine wl_y rfl (y_pick_t rfl rfl) ?_
        exact wl_weaken hM34 ⟨rfl, rfl, rfl, rfl, rfl, rfl, rfl, rfl, trivial⟩
      · intro hg29 hM34
        refine wl_sk rfl rfl rfl rfl ?_
        refine wl_sk rfl rfl rfl rfl ?_
        refine wl_sk rfl rfl rfl rfl ?_
        refine wl_sk rfl rfl rfl rfl ?_
        refine wl_y rfl (y_pick_f rfl rfl) ?_
        exact wl_weaken hM34 ⟨rfl, rfl, rfl, rfl, rfl, rfl, rfl, rfl, trivial⟩
      ·
        refine wl_y rfl (y_move rfl) ?_
        apply wl_or 9 44 [(0, _), (1, _), (2, _), (7, _), (8, _), (9, _), (10, _)] (t := 35) rfl ⟨rfl, rfl, rfl, rfl, rfl, rfl, rfl, trivial⟩
        · intro hg35 hM44
          refine wl_sk rfl rfl rfl rfl ?_
          refine wl_sk rfl rfl rfl rfl ?_
          refine wl_sk rfl rfl rfl rfl ?_
          refine wl_sku rfl rfl rfl ?_
          refine wl_sku rfl rfl rfl ?_
          refine wl_sku rfl rfl rfl ?_
          refine wl_sku rfl rfl rfl ?_
          refine wl_sk rfl rfl rfl rfl ?_
          refine wl_y rfl (y_pick_t rfl rfl) ?_
          exact wl_weaken hM44 ⟨rfl, rfl, rfl, rfl, rfl, rfl, rfl, rfl, trivial⟩
        · intro hg35 hM44
          try (simp at hg35)
          refine wl_yg rfl rfl rfl (y_move rfl) ?_
          refine wl_yg rfl rfl rfl (y_neqS rfl rfl) ?_
          refine wl_yg rfl rfl rfl (y_move rfl) ?_
          apply wl_and 5 43 [(0, _), (1, _), (2, _), (7, _), (8, _), (9, _), (10, _), (35, _)] (t := 38) rfl ⟨rfl, rfl, rfl, rfl, rfl, rfl, rfl, rfl, trivial⟩
          · intro hg38 hM43
            try (simp at hg38)
            refine wl_yg rfl rfl rfl (y_fieldAddr F36_1 rfl) ?_
            refine wl_yg rfl rfl rfl (y_load NA9 rfl (by first | exact cell_blk [] rfl | exact cell_blk [_] rfl | exact cell_blk [_, _] rfl | exact cell_blk [_, _, _] rfl | exact cell_blk [_, _, _, _] rfl | exact cell_blk [_, _, _, _, _] rfl | exact cell_blk [_, _, _, _, _, _] rfl | exact cellR_blk (by assumption) rfl)) ?_
            refine wl_yg rfl rfl rfl (y_move rfl) ?_
            refine wl_yg rfl rfl rfl (y_eqlS rfl rfl) ?_
            refine wl_yg rfl rfl rfl (y_pick_t rfl rfl) ?_
            exact wl_weaken hM43 ⟨rfl, rfl, rfl, rfl, rfl, rfl, rfl, rfl, rfl, trivial⟩
          · intro hg38 hM43
            refine wl_sk rfl rfl rfl rfl ?_
            refine wl_sk rfl rfl rfl rfl ?_
            refine wl_sk rfl rfl rfl rfl ?_
            refine wl_sk rfl rfl rfl rfl ?_
            refine wl_yg rfl rfl rfl (y_pick_f rfl rfl) ?_
            exact wl_weaken hM43 ⟨rfl, rfl, rfl, rfl, rfl, rfl, rfl, rfl, rfl, trivial⟩
          ·
            refine wl_y rfl (y_pick_f rfl rfl) ?_
            exact wl_weaken hM44 ⟨rfl, rfl, rfl, rfl, rfl, rfl, rfl, rfl, trivial⟩
        ·
          refine wl_nil ?_
          refine wq_then ?_
          refine wc_cond rfl (fun hc44 => ?_) (fun hc44 => ?_)
          ·
            refine wc_region ?_
            refine wl_y rfl (y_move rfl) ?_
            refine wl_y rfl (y_fieldAddr F36_0 rfl) ?_
            refine wl_y rfl (y_loadAgg (l := [_, _, _]) AG30 rfl rfl (by first | exact cells_blk [] rfl | exact cells_blk [_] rfl | exact cells_blk [_, _] rfl | exact cells_blk [_, _, _] rfl | exact cells_blk [_, _, _, _] rfl | exact cells_blk [_, _, _, _, _] rfl | exact cells_blk [_, _, _, _, _, _] rfl | exact cellsR_blk (by assumption) rfl)) ?_
            refine wl_w (fun _ _ => want_none) rfl (yw_buildSlice (cs := [_, _, _]) Try.underlying49 T30 rfl rfl rfl rfl rfl rfl rfl) (wl_ex fun b48 _ => ?_)
            refine wl_w (fun _ _ => want_none) rfl (yw_append [_, _] Try.underlying49 Try.underlying49 (.inl ⟨_, rfl⟩) T30 rfl rfl rfl (fun w hw => Src.slice ((hw.seen []).mono fun _ => slc_rsl)) (by omega) (by unfold maxLen; omega) (by simp [Value.oneCell', encJ]) rfl) (wl_ex fun p49 hp49 => ?_)
            refine wl_y rfl (y_assign rfl) ?_
            refine wl_nil ?_
            refine wq_block_normal ?_
            refine wq_then ?_
            refine wc_region ?_
            refine wl_y rfl (y_move rfl) ?_
            refine wl_y rfl (y_add rfl rfl (by omega)) ?_
            refine wl_y rfl (y_assign rfl) ?_
            refine wl_nil ?_
            have e1 : ((r.l.take (i + 1)).filter (rp now wk)) = ((r.l.take i).filter (rp now wk)) ++ [x] := fil_hit hx hc44
            have e2 : ((r.l.take (i + 1)).filter (fun x => !rp now wk x)) = ((r.l.take i).filter (fun x => !rp now wk x)) := fil_miss hx (by simp [rp, hc44])
            refine wq_same 7 (.slice p49.1 ((r.l.take (i + 1)).filter (rp now wk)).length p49.2) rfl (by rw [e1, List.length_append]; rfl) ?_
            refine wq_same 8 (.slice o2 ((r.l.take (i + 1)).filter (fun x => !rp now wk x)).length c2) rfl (by rw [e2]) ?_
            exact wq_round (i + 1, p49, (o2, c2)) (by simp only; omega) (by simp only; omega) ⟨rfl, rfl, rfl, rfl, rfl, rfl, trivial⟩ (fun w hw => by simp only [e1, e2, List.map_append, List.flatMap_append, List.length_append]; exact hw.sub (by (repeat (first | exact pt_nil | apply pt0 | apply pt1 | apply pt2 | apply pt3 | apply pt4 | apply pt5 | apply pt6 | apply pt7 | apply pt8 | apply pt9 | apply pt10 | apply pt11 | apply pt12 | apply pt13 | apply pt14 | apply pt15 | apply pt16 | apply pt17))))
          ·
            refine wc_region ?_
            refine wl_y rfl (y_move rfl) ?_
            refine wl_y rfl (y_loadAgg (l := [_, _, _, _, _, _]) AG36 rfl rfl (by first | exact cells_blk [] rfl | exact cells_blk [_] rfl | exact cells_blk [_, _] rfl | exact cells_blk [_, _, _] rfl | exact cells_blk [_, _, _, _] rfl | exact cells_blk [_, _, _, _, _] rfl | exact cells_blk [_, _, _, _, _, _] rfl | exact cellsR_blk (by assumption) rfl)) ?_
            refine wl_w (fun _ _ => want_none) rfl (yw_buildSlice (cs := [_, _, _, _, _, _]) Try.underlying39 T36 rfl rfl rfl rfl rfl rfl rfl) (wl_ex fun b52 _ => ?_)
            refine wl_w (fun _ _ => want_none) rfl (yw_append [_, _, _] Try.underlying39 Try.underlying39 (.inl ⟨_, rfl⟩) T36 rfl rfl rfl (fun w hw => Src.slice ((hw.seen []).mono fun _ => slc_rsl)) (by omega) (by unfold maxLen; omega) (by simp [Value.oneCell', encL]) rfl) (wl_ex fun p53 hp53 => ?_)
            refine wl_y rfl (y_assign rfl) ?_
            refine wl_nil ?_
            refine wq_block_normal ?_
            refine wq_then ?_
            refine wc_region ?_
            refine wl_y rfl (y_move rfl) ?_
            refine wl_y rfl (y_add rfl rfl (by omega)) ?_
            refine wl_y rfl (y_assign rfl) ?_
            refine wl_nil ?_
            have e1 : ((r.l.take (i + 1)).filter (rp now wk)) = ((r.l.take i).filter (rp now wk)) := fil_miss hx hc44
            have e2 : ((r.l.take (i + 1)).filter (fun x => !rp now wk x)) = ((r.l.take i).filter (fun x => !rp now wk x)) ++ [x] := fil_hit hx (by simp [rp, hc44])
            refine wq_same 7 (.slice o1 ((r.l.take (i + 1)).filter (rp now wk)).length c1) rfl (by rw [e1]) ?_
            refine wq_same 8 (.slice p53.1 ((r.l.take (i + 1)).filter (fun x => !rp now wk x)).length p53.2) rfl (by rw [e2, List.length_append]; rfl) ?_
            exact wq_round (i + 1, (o1, c1), p53) (by simp only; omega) (by simp only; omega) ⟨rfl, rfl, rfl, rfl, rfl, rfl, trivial⟩ (fun w hw => by simp only [e1, e2, List.flatMap_append, List.length_append]; exact hw.sub (by (repeat (first | exact pt_nil | apply pt0 | apply pt1 | apply pt2 | apply pt3 | apply pt4 | apply pt5 | apply pt6 | apply pt7 | apply pt8 | apply pt9 | apply pt10 | apply pt11 | apply pt12 | apply pt13 | apply pt14 | apply pt15 | apply pt16 | apply pt17))))
    ·
      simp at hc17
      refine wc_exit ?_
      refine wq_then_exit (wq_then_exit (wq_block_exit ?_))
      refine wq_then ?_
      refine wc_seq ?_
      refine wc_region ?_
      refine wl_y rfl (y_move rfl) ?_
      refine wl_y rfl (y_move rfl) ?_
      refine wl_y rfl (y_nilCheck rfl) ?_
      refine wl_y rfl (y_fieldAddr F48_0 rfl) ?_
      first | refine wl_u (yu_store [] (l' := [_, _, _]) T39 rfl rfl rfl rfl rfl rfl rfl) ?_ | refine wl_u (yu_store [_] (l' := [_, _, _]) T39 rfl rfl rfl rfl rfl rfl rfl) ?_ | refine wl_u (yu_store [_, _] (l' := [_, _, _]) T39 rfl rfl rfl rfl rfl rfl rfl) ?_ | refine wl_u (yu_store [_, _, _] (l' := [_, _, _]) T39 rfl rfl rfl rfl rfl rfl rfl) ?_ | refine wl_u (yu_store [_, _, _, _] (l' := [_, _, _]) T39 rfl rfl rfl rfl rfl rfl rfl) ?_ | refine wl_u (yu_store [_, _, _, _, _] (l' := [_, _, _]) T39 rfl rfl rfl rfl rfl rfl rfl) ?_ | refine wl_u (yu_store [_, _, _, _, _, _] (l' := [_, _, _]) T39 rfl rfl rfl rfl rfl rfl rfl) ?_
      refine wl_nil ?_
      refine wq_then ?_
      refine wc_seq ?_
      refine wc_region ?_
      refine wl_y rfl (y_move rfl) ?_
      refine wl_y rfl (y_assign rfl) ?_
      refine wl_nil ?_
      refine wq_then ?_
      refine wc_ret ?_
      refine wq_ret1 rfl rfl (fun w hw => ?_)
      obtain rfl : i = r.l.length := by omega
      simp only [List.take_length] at hw ⊢
      exact ⟨(o1, c1), trivial, by simp [Rt.take], by simp only [Rt.take, List.length_map]; exact rt_shut (o2, c2) (hw.sub (by (repeat (first | exact pt_nil | apply pt0 | apply pt1 | apply pt2 | apply pt3 | apply pt4 | apply pt5 | apply pt6 | apply pt7 | apply pt8 | apply pt9 | apply pt10 | apply pt11 | apply pt12 | apply pt13 | apply pt14 | apply pt15 | apply pt16 | apply pt17))))⟩


set_option maxHeartbeats 1000000 in
theorem rexpire_c (b : Nat) (r : Rt) (now : Int) (hr : r.ok) :
    Ctr Try.prog 48 #[ptr b, vI now] [] [rtA b r] (fun _ : Option Addr × Nat => True) (fun x => .slice x.1 (r.take (rp now [])).2.length x.2) (fun x => [rtA b (r.take (rp now [])).1, slc 30 3 x.1 (r.take (rp now [])).2.length x.2 ((r.take (rp now [])).2.flatMap encJ)]) := by
  refine spec_start (n := 8) [(0, ptr b), (1, vI now)] Try.func48 rfl rfl ⟨rfl, rfl, trivial⟩ rfl ?_
  intro w0 K hR
  refine wc_seq ?_
  refine wc_region ?_
  refine wl_y rfl (y_assign rfl) ?_
  refine wl_nil ?_
  refine wq_then ?_
  refine wc_seq ?_
  refine wc_region ?_
  refine wl_y rfl (y_move rfl) ?_
  refine wl_y rfl (y_move rfl) ?_
  refine wl_c (fun _ _ => want_none) rfl (yc_spec (fst := []) (cap := []) _ FN60 (rtake_c b r now [] hr) rfl rfl rfl (by (repeat (first | exact pt_nil | apply pt0 | apply pt1 | apply pt2 | apply pt3 | apply pt4 | apply pt5 | apply pt6 | apply pt7 | apply pt8 | apply pt9 | apply pt10 | apply pt11 | apply pt12 | apply pt13 | apply pt14 | apply pt15 | apply pt16 | apply pt17))) (by (repeat (first | exact ro_nil | exact ro_rest (by assumption) | refine ro_cons (by first | exact .inl (by assumption) | exact ro_f0 (fun _ h => h) | exact ro_f0 (fun _ => slc_rsl) | exact ro_f1 (fun _ h => h) | exact ro_f1 (fun _ => slc_rsl) | exact ro_f2 (fun _ h => h) | exact ro_f2 (fun _ => slc_rsl) | exact ro_f3 (fun _ h => h) | exact ro_f3 (fun _ => slc_rsl) | exact ro_f4 (fun _ h => h) | exact ro_f4 (fun _ => slc_rsl) | exact ro_f5 (fun _ h => h) | exact ro_f5 (fun _ => slc_rsl) | exact ro_f6 (fun _ h => h) | exact ro_f6 (fun _ => slc_rsl)) ?_)))) (wl_ex fun x7 hx7 => ?_)
  refine wl_y rfl (y_assign rfl) ?_
  refine wl_nil ?_
  refine wq_then ?_
  refine wc_ret ?_
  refine wq_ret1 rfl rfl (fun w hw => ?_)
  exact ⟨x7, trivial, rfl, hw⟩

set_option maxHeartbeats 1000000 in
theorem rdrop_none (b : Nat) (r : Rt) :
    Ctr Try.prog 43 #[ptr b, vS []] [] [rtA b r] (fun _ : Option Addr × Nat => True) (fun x => .slice x.1 ([] : List Jb).length x.2) (fun x => [rtA b r, slc 30 3 x.1 ([] : List Jb).length x.2 (([] : List Jb).flatMap encJ)]) := by
  refine spec_start (n := 10) [(0, ptr b), (1, vS [])] Try.func43 rfl rfl ⟨rfl, rfl, trivial⟩ rfl ?_
  intro w0 K hR
  refine wc_seq ?_
  refine wc_region ?_
  refine wl_y rfl (y_assign rfl) ?_
  refine wl_nil ?_
  refine wq_then ?_
  refine wc_seq ?_
  refine wc_seq ?_
  refine wc_region ?_
  refine wl_y rfl (y_move rfl) ?_
  refine wl_y rfl (y_eqlS rfl rfl) ?_
  refine wl_nil ?_
  refine wq_then ?_
  refine wc_known 6 true rfl (rfl) ?_
  refine wc_cond_true rfl ?_
  refine wc_seq ?_
  refine wc_region ?_
  refine wl_y rfl (y_assign rfl) ?_
  refine wl_nil ?_
  refine wq_then ?_
  refine wc_ret ?_
  refine wq_then_ret ?_
  refine wq_ret1 rfl rfl (fun w hw => ?_)
  exact ⟨(none, 0), trivial, rfl, Hp.addNil [_] [] hw⟩

set_option maxHeartbeats 1000000 in
theorem rdrop_c (b : Nat) (r : Rt) (wk : Str) (hr : r.ok) (hwk : wk ≠ []) :
    Ctr Try.prog 43 #[ptr b, vS wk] [] [rtA b r] (fun _ : Option Addr × Nat => True) (fun x => .slice x.1 (r.take (rp 0 wk)).2.length x.2) (fun x => [rtA b (r.take (rp 0 wk)).1, slc 30 3 x.1 (r.take (rp 0 wk)).2.length x.2 ((r.take (rp 0 wk)).2.flatMap encJ)]) := by
  refine spec_start (n := 10) [(0, ptr b), (1, vS wk)] Try.func43 rfl rfl ⟨rfl, rfl, trivial⟩ rfl ?_
  intro w0 K hR
  refine wc_seq ?_
  refine wc_region ?_
  refine wl_y rfl (y_assign rfl) ?_
  refine wl_nil ?_
  refine wq_then ?_
  refine wc_seq ?_
  refine wc_seq ?_
  refine wc_region ?_
  refine wl_y rfl (y_move rfl) ?_
  refine wl_y rfl (y_eqlS rfl rfl) ?_
  refine wl_nil ?_
  refine wq_then ?_
  refine wc_known 6 false rfl (decide_eq_false hwk) ?_
  refine wc_cond_false rfl ?_
  refine wc_skip ?_
  refine wq_then ?_
  refine wc_seq ?_
  refine wc_region ?_
  refine wl_y rfl (y_move rfl) ?_
  refine wl_y rfl (y_move rfl) ?_
  refine wl_c (fun _ _ => want_none) rfl (yc_spec (fst := []) (cap := []) _ FN60 (rtake_c b r 0 wk hr) rfl rfl rfl (by (repeat (first | exact pt_nil | apply pt0 | apply pt1 | apply pt2 | apply pt3 | apply pt4 | apply pt5 | apply pt6 | apply pt7 | apply pt8 | apply pt9 | apply pt10 | apply pt11 | apply pt12 | apply pt13 | apply pt14 | apply pt15 | apply pt16 | apply pt17))) (by (repeat (first | exact ro_nil | exact ro_rest (by assumption) | refine ro_cons (by first | exact .inl (by assumption) | exact ro_f0 (fun _ h => h) | exact ro_f0 (fun _ => slc_rsl) | exact ro_f1 (fun _ h => h) | exact ro_f1 (fun _ => slc_rsl) | exact ro_f2 (fun _ h => h) | exact ro_f2 (fun _ => slc_rsl) | exact ro_f3 (fun _ h => h) | exact ro_f3 (fun _ => slc_rsl) | exact ro_f4 (fun _ h => h) | exact ro_f4 (fun _ => slc_rsl) | exact ro_f5 (fun _ h => h) | exact ro_f5 (fun _ => slc_rsl) | exact ro_f6 (fun _ h => h) | exact ro_f6 (fun _ => slc_rsl)) ?_)))) (wl_ex fun x9 hx9 => ?_)
  refine wl_y rfl (y_assign rfl) ?_
  refine wl_nil ?_
  refine wq_then ?_
  refine wc_ret ?_
  refine wq_ret1 rfl rfl (fun w hw => ?_)
  exact ⟨x9, trivial, rfl, hw⟩

end Go.Proofs.Ytfnpjmlpiedgdaa
