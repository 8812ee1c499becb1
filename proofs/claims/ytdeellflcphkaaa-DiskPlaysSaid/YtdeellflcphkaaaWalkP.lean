/-
  Walks: the reference's Append.
-/
import Derived.Test.YtdeellflcphkaaaWalkO
namespace Go.Proofs.Ytdeellflcphkaaa
open Go.Eng

def Rk.cur (r : Rk) (s : Str) : Gf := ⟨s, if r.has s = true then (r.get s).data else [], if r.has s = true then (r.get s).firm else 0⟩
theorem cur_has {r : Rk} {s : Str} {x : Gf} (h : r.has s = true) (hg : r.get s = x) (hn : x.name = s) : r.cur s = x := by
  rw [Rk.cur, h, if_pos rfl, if_pos rfl, hg]
  cases x
  cases hn
  rfl
theorem cur_none {r : Rk} {s : Str} (h : r.has s = false) : r.cur s = ⟨s, [], 0⟩ := by rw [Rk.cur, h]; rfl
theorem sizeL_mem {l : List Gf} {x : Gf} (h : x ∈ l) : (x.data.length : Int) ≤ sizeL l := by
  obtain ⟨a, c, rfl⟩ := List.append_of_mem h
  have h1 := sizeL_ge a
  have h2 := sizeL_ge c
  rw [sizeL_app]
  simp only [sizeL, List.map_cons, List.sum_cons] at *
  omega
theorem cur_len (r : Rk) (s : Str) : ((r.cur s).data.length : Int) ≤ sizeL r.l := by
  have := sizeL_ge r.l
  rw [Rk.cur]
  simp only
  split
  · rename_i h
    obtain ⟨x, hx, _⟩ := has_get h
    rw [show r.get s = x by simp [Rk.get, hx]]
    exact sizeL_mem (List.mem_of_getElem? hx)
  · simpa using this
theorem append_wrong {r : Rk} {s data : Str} (h : ¬ r.wrong s = 0) : r.append s data = (r, r.wrong s) := if_neg h
theorem append_full {r : Rk} {s data : Str} (h : r.wrong s = 0) (h2 : r.limit < sizeL r.l + (data.length : Nat)) : r.append s data = (r, 41) := by rw [Rk.append, if_pos h, if_pos h2]
theorem append_does {r : Rk} {s data : Str} (h : r.wrong s = 0) (h2 : ¬ r.limit < sizeL r.l + (data.length : Nat)) : r.append s data = (r.act.set ⟨s, (r.cur s).data ++ r.dat data, (r.cur s).firm⟩, deadE r.act.dead) := by rw [Rk.append, if_pos h, if_neg h2]; rfl
set_option maxHeartbeats 1000000 in
theorem rappend_c (b : Nat) (r : Rk) (s data : Str) (hr : r.fine) (hsz : sizeL r.l + (data.length : Nat) ≤ 1000000000) :
    Ctr Try.prog 20 #[ptr b, vS s, vS data] [] [rkA b r] (fun _ : Unit => True) (fun _ => vI (r.append s data).2) (fun _ => [rkA b (r.append s data).1]) := by
  refine spec_start (n := 66) [(0, ptr b), (1, vS s), (2, vS data)] Try.func20 rfl rfl ⟨rfl, rfl, rfl, trivial⟩ rfl ?_
  intro w0 K hR
  obtain ⟨h5, ha0, ha1⟩ := id hr
  refine wc_ex rk_open (fun oc => ?_)
  have hsg := sizeL_ge r.l
  refine wc_seq ?_
  refine wc_region ?_
  refine wl_y rfl (y_assign rfl) ?_
  refine wl_nil ?_
  refine wq_then ?_
  refine wc_seq ?_
  refine wc_region ?_
  refine wl_y rfl (y_move rfl) ?_
  refine wl_y rfl (y_move rfl) ?_
  refine wl_q (fun _ _ => want_none) rfl (yq_spec (fst := []) (cap := []) _ FN39 (rwrong_c b r oc s) rfl rfl rfl (by (repeat (first | exact pt_nil | apply pt0 | apply pt1 | apply pt2 | apply pt3 | apply pt4 | apply pt5 | apply pt6 | apply pt7 | apply pt8 | apply pt9 | apply pt10 | apply pt11 | apply pt12 | apply pt13 | apply pt14 | apply pt15 | apply pt16 | apply pt17))) (by (repeat (first | exact ro_nil | exact ro_rest (by assumption) | refine ro_cons (by first | exact .inl (by assumption) | exact ro_f0 (fun _ h => h) | exact ro_f0 (fun _ => slc_rsl) | exact ro_f1 (fun _ h => h) | exact ro_f1 (fun _ => slc_rsl) | exact ro_f2 (fun _ h => h) | exact ro_f2 (fun _ => slc_rsl) | exact ro_f3 (fun _ h => h) | exact ro_f3 (fun _ => slc_rsl) | exact ro_f4 (fun _ h => h) | exact ro_f4 (fun _ => slc_rsl) | exact ro_f5 (fun _ h => h) | exact ro_f5 (fun _ => slc_rsl) | exact ro_f6 (fun _ h => h) | exact ro_f6 (fun _ => slc_rsl)) ?_))) (fun _ _ => rfl) (fun _ _ _ h => h.sub (by (repeat (first | exact pt_nil | apply pt0 | apply pt1 | apply pt2 | apply pt3 | apply pt4 | apply pt5 | apply pt6 | apply pt7 | apply pt8 | apply pt9 | apply pt10 | apply pt11 | apply pt12 | apply pt13 | apply pt14 | apply pt15 | apply pt16 | apply pt17))))) ?_
  refine wl_y rfl (y_assign rfl) ?_
  refine wl_nil ?_
  refine wq_then ?_
  refine wc_seq ?_
  refine wc_seq ?_
  refine wc_region ?_
  refine wl_y rfl (y_move rfl) ?_
  refine wl_y rfl (y_neqI rfl rfl) ?_
  refine wl_nil ?_
  refine wq_then ?_
  refine wc_cond rfl (fun hc15 => ?_) (fun hc15 => ?_)
  ·
    simp at hc15
    refine wc_seq ?_
    refine wc_region ?_
    refine wl_y rfl (y_move rfl) ?_
    refine wl_y rfl (y_assign rfl) ?_
    refine wl_nil ?_
    refine wq_then ?_
    refine wc_ret ?_
    refine wq_then_ret ?_
    refine wq_ret1 rfl rfl (fun w hw => ?_)
    rw [append_wrong hc15]; exact ⟨(), trivial, rfl, rk_shut oc (hw.sub (by (repeat (first | exact pt_nil | apply pt0 | apply pt1 | apply pt2 | apply pt3 | apply pt4 | apply pt5 | apply pt6 | apply pt7 | apply pt8 | apply pt9 | apply pt10 | apply pt11 | apply pt12 | apply pt13 | apply pt14 | apply pt15 | apply pt16 | apply pt17))))⟩
  ·
    simp at hc15
    refine wc_skip ?_
    refine wq_then ?_
    refine wc_seq ?_
    refine wc_seq ?_
    refine wc_quiet MO (by kernel_rfl) (Hp.drawless _ _ _) ?_
    refine wt_y rfl (y_move rfl) ?_
    refine wt_c (fun _ _ => want_none) rfl (yq_spec (fst := []) (cap := []) _ FN30 (rsizeR_c b r oc h5 (by omega)) rfl rfl rfl (by (repeat (first | exact pt_nil | apply pt0 | apply pt1 | apply pt2 | apply pt3 | apply pt4 | apply pt5 | apply pt6 | apply pt7 | apply pt8 | apply pt9 | apply pt10 | apply pt11 | apply pt12 | apply pt13 | apply pt14 | apply pt15 | apply pt16 | apply pt17))) (by (repeat (first | exact ro_nil | exact ro_rest (by assumption) | refine ro_cons (by first | exact .inl (by assumption) | exact ro_f0 (fun _ h => h) | exact ro_f0 (fun _ => slc_rsl) | exact ro_f1 (fun _ h => h) | exact ro_f1 (fun _ => slc_rsl) | exact ro_f2 (fun _ h => h) | exact ro_f2 (fun _ => slc_rsl) | exact ro_f3 (fun _ h => h) | exact ro_f3 (fun _ => slc_rsl) | exact ro_f4 (fun _ h => h) | exact ro_f4 (fun _ => slc_rsl) | exact ro_f5 (fun _ h => h) | exact ro_f5 (fun _ => slc_rsl) | exact ro_f6 (fun _ h => h) | exact ro_f6 (fun _ => slc_rsl)) ?_))) (fun _ _ => rfl) (fun _ _ _ h => h.sub (by (repeat (first | exact pt_nil | apply pt0 | apply pt1 | apply pt2 | apply pt3 | apply pt4 | apply pt5 | apply pt6 | apply pt7 | apply pt8 | apply pt9 | apply pt10 | apply pt11 | apply pt12 | apply pt13 | apply pt14 | apply pt15 | apply pt16 | apply pt17))))) ?_
    refine wt_y rfl (y_move rfl) ?_
    refine wt_y rfl (y_lenS Try.underlying9 rfl) ?_
    refine wt_y rfl (y_add rfl rfl (by omega)) ?_
    refine wt_y rfl (y_move rfl) ?_
    refine wt_y rfl (y_nilCheck rfl) ?_
    refine wt_y rfl (y_fieldAddr F69_1 rfl) ?_
    refine wt_y rfl (y_load NA3 rfl (by first | exact cell_blk [] rfl | exact cell_blk [_] rfl | exact cell_blk [_, _] rfl | exact cell_blk [_, _, _] rfl | exact cell_blk [_, _, _, _] rfl | exact cell_blk [_, _, _, _, _] rfl | exact cellR_blk (by assumption) rfl)) ?_
    refine wt_y rfl (y_gtr rfl rfl) ?_
    refine wt_nil ?_
    refine wq_then ?_
    refine wc_cond rfl (fun hc26 => ?_) (fun hc26 => ?_)
    ·
      simp at hc26
      refine wc_seq ?_
      refine wc_region ?_
      refine wl_y rfl (y_assign rfl) ?_
      refine wl_nil ?_
      refine wq_then ?_
      refine wc_ret ?_
      refine wq_then_ret ?_
      refine wq_ret1 rfl rfl (fun w hw => ?_)
      rw [append_full hc15 (by omega)]; exact ⟨(), trivial, rfl, rk_shut oc (hw.sub (by (repeat (first | exact pt_nil | apply pt0 | apply pt1 | apply pt2 | apply pt3 | apply pt4 | apply pt5 | apply pt6 | apply pt7 | apply pt8 | apply pt9 | apply pt10 | apply pt11 | apply pt12 | apply pt13 | apply pt14 | apply pt15 | apply pt16 | apply pt17))))⟩
    ·
      simp at hc26
      refine wc_skip ?_
      refine wq_then ?_
      refine wc_seq ?_
      refine wc_region ?_
      refine wl_y rfl (y_move rfl) ?_
      refine wl_y rfl (y_build (cs := [_, _, _]) T71 PL71 rfl rfl rfl) ?_
      refine wl_w (fun _ _ => want_none) rfl (yw_alloc T71 rfl) (wl_ex fun b8 _ => ?_)
      first | refine wl_u (yu_storeAgg [] (l' := [_, _, _]) T71 rfl rfl rfl (by simp [Value.oneCell', encG]) rfl rfl) ?_ | refine wl_u (yu_storeAgg [_] (l' := [_, _, _]) T71 rfl rfl rfl (by simp [Value.oneCell', encG]) rfl rfl) ?_ | refine wl_u (yu_storeAgg [_, _] (l' := [_, _, _]) T71 rfl rfl rfl (by simp [Value.oneCell', encG]) rfl rfl) ?_ | refine wl_u (yu_storeAgg [_, _, _] (l' := [_, _, _]) T71 rfl rfl rfl (by simp [Value.oneCell', encG]) rfl rfl) ?_ | refine wl_u (yu_storeAgg [_, _, _, _] (l' := [_, _, _]) T71 rfl rfl rfl (by simp [Value.oneCell', encG]) rfl rfl) ?_ | refine wl_u (yu_storeAgg [_, _, _, _, _] (l' := [_, _, _]) T71 rfl rfl rfl (by simp [Value.oneCell', encG]) rfl rfl) ?_
      refine wl_nil ?_
      refine wq_then ?_
      refine wc_seq ?_
      refine wc_region ?_
      refine wl_y rfl (y_move rfl) ?_
      refine wl_y rfl (y_move rfl) ?_
      refine wl_q (fun _ _ => want_none) rfl (yq_spec (fst := []) (cap := []) _ FN40 (rat_c b r oc s h5) rfl rfl rfl (by (repeat (first | exact pt_nil | apply pt0 | apply pt1 | apply pt2 | apply pt3 | apply pt4 | apply pt5 | apply pt6 | apply pt7 | apply pt8 | apply pt9 | apply pt10 | apply pt11 | apply pt12 | apply pt13 | apply pt14 | apply pt15 | apply pt16 | apply pt17))) (by (repeat (first | exact ro_nil | exact ro_rest (by assumption) | refine ro_cons (by first | exact .inl (by assumption) | exact ro_f0 (fun _ h => h) | exact ro_f0 (fun _ => slc_rsl) | exact ro_f1 (fun _ h => h) | exact ro_f1 (fun _ => slc_rsl) | exact ro_f2 (fun _ h => h) | exact ro_f2 (fun _ => slc_rsl) | exact ro_f3 (fun _ h => h) | exact ro_f3 (fun _ => slc_rsl) | exact ro_f4 (fun _ h => h) | exact ro_f4 (fun _ => slc_rsl) | exact ro_f5 (fun _ h => h) | exact ro_f5 (fun _ => slc_rsl) | exact ro_f6 (fun _ h => h) | exact ro_f6 (fun _ => slc_rsl)) ?_))) (fun _ _ => rfl) (fun _ _ _ h => h.sub (by (repeat (first | exact pt_nil | apply pt0 | apply pt1 | apply pt2 | apply pt3 | apply pt4 | apply pt5 | apply pt6 | apply pt7 | apply pt8 | apply pt9 | apply pt10 | apply pt11 | apply pt12 | apply pt13 | apply pt14 | apply pt15 | apply pt16 | apply pt17))))) ?_
      refine wl_y rfl (y_move rfl) ?_
      refine wl_y rfl (y_extract rfl rfl) ?_
      refine wl_y rfl (y_extract rfl rfl) ?_
      refine wl_y rfl (y_assign rfl) ?_
      refine wl_y rfl (y_assign rfl) ?_
      refine wl_nil ?_
      refine wq_then ?_
      refine wc_seq (wc_cut (α := Unit) (fun x => True) [(0, _), (2, _), (8, _)] (fun x => []) (fun x => Hp w0 K (blk b8 (.cells (encG (r.cur s)).toArray 71 (0, 0)) :: rkAs b r oc)) ⟨rfl, rfl, rfl, trivial⟩ ?_ ?_)
      ·
        refine wc_seq ?_
        refine wc_region ?_
        refine wl_y rfl (y_move rfl) ?_
        refine wl_nil ?_
        refine wq_then ?_
        refine wc_cond rfl (fun hc35 => ?_) (fun hc35 => ?_)
        ·
          obtain ⟨x, hx, hxk⟩ := has_get hc35
          have hgx : r.get s = x := by simp [Rk.get, hx]
          have hil := (List.getElem?_eq_some_iff.1 hx).1
          refine wc_region ?_
          refine wl_y rfl (y_move rfl) ?_
          refine wl_y rfl (y_nilCheck rfl) ?_
          refine wl_y rfl (y_fieldAddr F69_0 rfl) ?_
          refine wl_y rfl (y_load NA67 rfl (by first | exact cell_blk [] rfl | exact cell_blk [_] rfl | exact cell_blk [_, _] rfl | exact cell_blk [_, _, _] rfl | exact cell_blk [_, _, _, _] rfl | exact cell_blk [_, _, _, _, _] rfl | exact cellR_blk (by assumption) rfl)) ?_
          refine wl_y rfl (y_move rfl) ?_
          refine wl_y rfl (y_indexAddr Try.underlying67 T71 rfl rfl rfl (by omega) (by first | assumption | exact fun _ _ => rfl | exact fun w hw => hw.slc_isSome [] (by omega) | exact fun w hw => hw.slc_isSome [_] (by omega) | exact fun w hw => hw.slc_isSome [_, _] (by omega) | exact fun w hw => hw.slc_isSome [_, _, _] (by omega) | exact fun w hw => hw.slc_isSome [_, _, _, _] (by omega) | exact fun w hw => hw.slc_isSome [_, _, _, _, _] (by omega))) ?_
          refine wl_y rfl (y_loadAgg (l := encG x) AG71 rfl rfl (by first | exact agg_own [] (fun i u h => rows_get encG_len hx h) | exact agg_own [_] (fun i u h => rows_get encG_len hx h) | exact agg_own [_, _] (fun i u h => rows_get encG_len hx h) | exact agg_own [_, _, _] (fun i u h => rows_get encG_len hx h) | exact agg_own [_, _, _, _] (fun i u h => rows_get encG_len hx h) | exact agg_own [_, _, _, _, _] (fun i u h => rows_get encG_len hx h))) ?_
          first | refine wl_u (yu_storeAgg [] (l' := [_, _, _]) T71 rfl rfl rfl (by simp [Value.oneCell', encG]) rfl rfl) ?_ | refine wl_u (yu_storeAgg [_] (l' := [_, _, _]) T71 rfl rfl rfl (by simp [Value.oneCell', encG]) rfl rfl) ?_ | refine wl_u (yu_storeAgg [_, _] (l' := [_, _, _]) T71 rfl rfl rfl (by simp [Value.oneCell', encG]) rfl rfl) ?_ | refine wl_u (yu_storeAgg [_, _, _] (l' := [_, _, _]) T71 rfl rfl rfl (by simp [Value.oneCell', encG]) rfl rfl) ?_ | refine wl_u (yu_storeAgg [_, _, _, _] (l' := [_, _, _]) T71 rfl rfl rfl (by simp [Value.oneCell', encG]) rfl rfl) ?_ | refine wl_u (yu_storeAgg [_, _, _, _, _] (l' := [_, _, _]) T71 rfl rfl rfl (by simp [Value.oneCell', encG]) rfl rfl) ?_
          refine wl_nil ?_
          exact wq_cut () trivial ⟨rfl, rfl, rfl, trivial⟩ (fun w hw => by rw [cur_has hc35 hgx hxk]; exact hw.sub (by (repeat (first | exact pt_nil | apply pt0 | apply pt1 | apply pt2 | apply pt3 | apply pt4 | apply pt5 | apply pt6 | apply pt7 | apply pt8 | apply pt9 | apply pt10 | apply pt11 | apply pt12 | apply pt13 | apply pt14 | apply pt15 | apply pt16 | apply pt17))))
        ·
          refine wc_skip ?_
          exact wq_cut () trivial ⟨rfl, rfl, rfl, trivial⟩ (fun w hw => by rw [cur_none hc35]; exact hw.sub (by (repeat (first | exact pt_nil | apply pt0 | apply pt1 | apply pt2 | apply pt3 | apply pt4 | apply pt5 | apply pt6 | apply pt7 | apply pt8 | apply pt9 | apply pt10 | apply pt11 | apply pt12 | apply pt13 | apply pt14 | apply pt15 | apply pt16 | apply pt17))))
      · intro _ _
        have hcl := cur_len r s
        refine all_wc ?_
        refine wc_seq ?_
        refine wc_seq ?_
        refine wc_region ?_
        refine wl_y rfl (y_move rfl) ?_
        refine wl_c (fun _ _ => want_none) rfl (yc_spec (fst := []) (cap := []) _ FN41 (ract_c b r oc ha0 ha1) rfl rfl rfl (by (repeat (first | exact pt_nil | apply pt0 | apply pt1 | apply pt2 | apply pt3 | apply pt4 | apply pt5 | apply pt6 | apply pt7 | apply pt8 | apply pt9 | apply pt10 | apply pt11 | apply pt12 | apply pt13 | apply pt14 | apply pt15 | apply pt16 | apply pt17))) (by (repeat (first | exact ro_nil | exact ro_rest (by assumption) | refine ro_cons (by first | exact .inl (by assumption) | exact ro_f0 (fun _ h => h) | exact ro_f0 (fun _ => slc_rsl) | exact ro_f1 (fun _ h => h) | exact ro_f1 (fun _ => slc_rsl) | exact ro_f2 (fun _ h => h) | exact ro_f2 (fun _ => slc_rsl) | exact ro_f3 (fun _ h => h) | exact ro_f3 (fun _ => slc_rsl) | exact ro_f4 (fun _ h => h) | exact ro_f4 (fun _ => slc_rsl) | exact ro_f5 (fun _ h => h) | exact ro_f5 (fun _ => slc_rsl) | exact ro_f6 (fun _ h => h) | exact ro_f6 (fun _ => slc_rsl)) ?_)))) (wl_ex fun x44 hx44 => ?_)
        refine wl_y rfl (y_not rfl) ?_
        refine wl_nil ?_
        refine wq_then ?_
        refine wc_cond rfl (fun hc45 => ?_) (fun hc45 => ?_)
        ·
          have hd : r.act.dead = true := by cases h : r.act.dead <;> simp [h] at hc45 ⊢
          refine wc_seq ?_
          refine wc_mix (.q 0 0 (.q 1 0 (.q 2 0 (.q 3 0 (.q 4 0 (.q 5 0 (.q 6 0 (.q 7 0 (.q 8 0 (.w 9 3 .nil .nil)))))))))) (Sees [blk b8 (.cells (encG (r.cur s)).toArray 71 (0, 0))]) MO (by kernel_rfl) (Hp.drawless _ _ _) (fun w hw => by refine ⟨?_, trivial⟩ <;> first | exact hw.seen [] | exact hw.seen [_] | exact hw.seen [_, _] | exact hw.seen [_, _, _] | exact hw.seen [_, _, _, _] | exact hw.seen [_, _, _, _, _]) ?_
          refine wm_g rfl rfl (y_fieldAddr F71_1 rfl) ?_
          refine wm_g rfl rfl (y_load NA9 rfl (fun w hw => by first | exact cell_of_heap hw.1.blk rfl)) ?_
          refine wm_g rfl rfl (y_move rfl) ?_
          refine wm_g rfl rfl (y_move rfl) ?_
          refine wm_g rfl rfl (y_lenS Try.underlying9 rfl) ?_
          refine wm_g rfl rfl (y_quoN rfl rfl (by omega)) ?_
          refine wm_g rfl rfl (y_sliceS (i := 0) (j := data.length / 2) Try.underlying9 rfl rfl ⟨_, rfl, rfl⟩ (by first | omega | (simp; omega)) (by first | omega | (simp; omega)) rfl) ?_
          refine wm_g rfl rfl (y_addS rfl rfl (by first | omega | (simp only [List.length_take, List.drop_zero]; omega))) ?_
          refine wm_g rfl rfl (y_fieldAddr F71_1 rfl) ?_
          first | refine wm_u3 rfl (yu_store [] (l' := [_, _, _]) T9 rfl rfl rfl rfl rfl rfl rfl) ?_ | refine wm_u3 rfl (yu_store [_] (l' := [_, _, _]) T9 rfl rfl rfl rfl rfl rfl rfl) ?_ | refine wm_u3 rfl (yu_store [_, _] (l' := [_, _, _]) T9 rfl rfl rfl rfl rfl rfl rfl) ?_ | refine wm_u3 rfl (yu_store [_, _, _] (l' := [_, _, _]) T9 rfl rfl rfl rfl rfl rfl rfl) ?_ | refine wm_u3 rfl (yu_store [_, _, _, _] (l' := [_, _, _]) T9 rfl rfl rfl rfl rfl rfl rfl) ?_ | refine wm_u3 rfl (yu_store [_, _, _, _, _] (l' := [_, _, _]) T9 rfl rfl rfl rfl rfl rfl rfl) ?_
          refine wm_nil ?_
          refine all_wq ?_
          refine wq_then ?_
          refine wc_seq ?_
          refine wc_region ?_
          refine wl_y rfl (y_move rfl) ?_
          refine wl_y rfl (y_loadAgg (l := [_, _, _]) AG71 rfl rfl (by first | exact cells_blk [] rfl | exact cells_blk [_] rfl | exact cells_blk [_, _] rfl | exact cells_blk [_, _, _] rfl | exact cells_blk [_, _, _, _] rfl | exact cells_blk [_, _, _, _, _] rfl | exact cellsR_blk (by assumption) rfl)) ?_
          refine wl_c (fun _ _ => want_none) rfl (yc_spec (fst := []) (cap := []) _ FN42 (rset_c b r.act oc ⟨s, (r.cur s).data ++ data.take (data.length / 2), (r.cur s).firm⟩ (by rw [ract_l]; exact h5)) rfl rfl rfl (by (repeat (first | exact pt_nil | apply pt0 | apply pt1 | apply pt2 | apply pt3 | apply pt4 | apply pt5 | apply pt6 | apply pt7 | apply pt8 | apply pt9 | apply pt10 | apply pt11 | apply pt12 | apply pt13 | apply pt14 | apply pt15 | apply pt16 | apply pt17))) (by (repeat (first | exact ro_nil | exact ro_rest (by assumption) | refine ro_cons (by first | exact .inl (by assumption) | exact ro_f0 (fun _ h => h) | exact ro_f0 (fun _ => slc_rsl) | exact ro_f1 (fun _ h => h) | exact ro_f1 (fun _ => slc_rsl) | exact ro_f2 (fun _ h => h) | exact ro_f2 (fun _ => slc_rsl) | exact ro_f3 (fun _ h => h) | exact ro_f3 (fun _ => slc_rsl) | exact ro_f4 (fun _ h => h) | exact ro_f4 (fun _ => slc_rsl) | exact ro_f5 (fun _ h => h) | exact ro_f5 (fun _ => slc_rsl) | exact ro_f6 (fun _ h => h) | exact ro_f6 (fun _ => slc_rsl)) ?_)))) (wl_ex fun x57 hx57 => ?_)
          refine wl_nil ?_
          refine wq_then ?_
          refine wc_seq ?_
          refine wc_region ?_
          refine wl_y rfl (y_assign rfl) ?_
          refine wl_nil ?_
          refine wq_then ?_
          refine wc_ret ?_
          refine wq_then_ret ?_
          refine wq_ret1 rfl rfl (fun w hw => ?_)
          have hdt : r.dat data = data.take (data.length / 2) := by rw [Rk.dat, if_pos hd]
          rw [append_does hc15 (by omega), hdt, hd]; exact ⟨(), trivial, rfl, rk_shut x57 (hw.sub (by (repeat (first | exact pt_nil | apply pt0 | apply pt1 | apply pt2 | apply pt3 | apply pt4 | apply pt5 | apply pt6 | apply pt7 | apply pt8 | apply pt9 | apply pt10 | apply pt11 | apply pt12 | apply pt13 | apply pt14 | apply pt15 | apply pt16 | apply pt17))))⟩
        ·
          have hd : r.act.dead = false := by cases h : r.act.dead <;> simp [h] at hc45 ⊢
          refine wc_skip ?_
          refine wq_then ?_
          refine wc_seq ?_
          refine wc_region ?_
          refine wl_y rfl (y_fieldAddr F71_1 rfl) ?_
          refine wl_y rfl (y_load NA9 rfl (by first | exact cell_blk [] rfl | exact cell_blk [_] rfl | exact cell_blk [_, _] rfl | exact cell_blk [_, _, _] rfl | exact cell_blk [_, _, _, _] rfl | exact cell_blk [_, _, _, _, _] rfl | exact cellR_blk (by assumption) rfl)) ?_
          refine wl_y rfl (y_move rfl) ?_
          refine wl_y rfl (y_addS rfl rfl (by omega)) ?_
          refine wl_y rfl (y_fieldAddr F71_1 rfl) ?_
          first | refine wl_u (yu_store [] (l' := [_, _, _]) T9 rfl rfl rfl rfl rfl rfl rfl) ?_ | refine wl_u (yu_store [_] (l' := [_, _, _]) T9 rfl rfl rfl rfl rfl rfl rfl) ?_ | refine wl_u (yu_store [_, _] (l' := [_, _, _]) T9 rfl rfl rfl rfl rfl rfl rfl) ?_ | refine wl_u (yu_store [_, _, _] (l' := [_, _, _]) T9 rfl rfl rfl rfl rfl rfl rfl) ?_ | refine wl_u (yu_store [_, _, _, _] (l' := [_, _, _]) T9 rfl rfl rfl rfl rfl rfl rfl) ?_ | refine wl_u (yu_store [_, _, _, _, _] (l' := [_, _, _]) T9 rfl rfl rfl rfl rfl rfl rfl) ?_
          refine wl_nil ?_
          refine wq_then ?_
          refine wc_seq ?_
          refine wc_region ?_
          refine wl_y rfl (y_move rfl) ?_
          refine wl_y rfl (y_loadAgg (l := [_, _, _]) AG71 rfl rfl (by first | exact cells_blk [] rfl | exact cells_blk [_] rfl | exact cells_blk [_, _] rfl | exact cells_blk [_, _, _] rfl | exact cells_blk [_, _, _, _] rfl | exact cells_blk [_, _, _, _, _] rfl | exact cellsR_blk (by assumption) rfl)) ?_
          refine wl_c (fun _ _ => want_none) rfl (yc_spec (fst := []) (cap := []) _ FN42 (rset_c b r.act oc ⟨s, (r.cur s).data ++ data, (r.cur s).firm⟩ (by rw [ract_l]; exact h5)) rfl rfl rfl (by (repeat (first | exact pt_nil | apply pt0 | apply pt1 | apply pt2 | apply pt3 | apply pt4 | apply pt5 | apply pt6 | apply pt7 | apply pt8 | apply pt9 | apply pt10 | apply pt11 | apply pt12 | apply pt13 | apply pt14 | apply pt15 | apply pt16 | apply pt17))) (by (repeat (first | exact ro_nil | exact ro_rest (by assumption) | refine ro_cons (by first | exact .inl (by assumption) | exact ro_f0 (fun _ h => h) | exact ro_f0 (fun _ => slc_rsl) | exact ro_f1 (fun _ h => h) | exact ro_f1 (fun _ => slc_rsl) | exact ro_f2 (fun _ h => h) | exact ro_f2 (fun _ => slc_rsl) | exact ro_f3 (fun _ h => h) | exact ro_f3 (fun _ => slc_rsl) | exact ro_f4 (fun _ h => h) | exact ro_f4 (fun _ => slc_rsl) | exact ro_f5 (fun _ h => h) | exact ro_f5 (fun _ => slc_rsl) | exact ro_f6 (fun _ h => h) | exact ro_f6 (fun _ => slc_rsl)) ?_)))) (wl_ex fun x65 hx65 => ?_)
          refine wl_nil ?_
          refine wq_then ?_
          refine wc_seq ?_
          refine wc_region ?_
          refine wl_y rfl (y_assign rfl) ?_
          refine wl_nil ?_
          refine wq_then ?_
          refine wc_ret ?_
          refine wq_ret1 rfl rfl (fun w hw => ?_)
          have hdt : r.dat data = data := by rw [Rk.dat, hd, if_neg (by decide)]
          rw [append_does hc15 (by omega), hdt, hd]; exact ⟨(), trivial, rfl, rk_shut x65 (hw.sub (by (repeat (first | exact pt_nil | apply pt0 | apply pt1 | apply pt2 | apply pt3 | apply pt4 | apply pt5 | apply pt6 | apply pt7 | apply pt8 | apply pt9 | apply pt10 | apply pt11 | apply pt12 | apply pt13 | apply pt14 | apply pt15 | apply pt16 | apply pt17))))⟩

end Go.Proofs.Ytdeellflcphkaaa
