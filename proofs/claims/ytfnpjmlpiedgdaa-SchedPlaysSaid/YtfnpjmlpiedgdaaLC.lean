/-
  Walks: leases are taken back; nil tables.
-/
import Derived.Test.YtfnpjmlpiedgdaaLB
namespace Go.Proofs.Ytfnpjmlpiedgdaa
open Go.Eng


def Tb.tk (t : Tb) (p : Ls → Bool) (i : Nat) : List Ls := (t.srt.take i).filter p
def delAll (m : List (Str × Ls)) (l : List Ls) : List (Str × Ls) := l.foldl (fun m x => mdel m x.job.key) m
def Tb.dl (t : Tb) (p : Ls → Bool) (i : Nat) : Tb := { t with m := delAll t.m (t.tk p i) }
/-- What is taken back, and what is left. -/
def Tb.take (t : Tb) (p : Ls → Bool) : Tb × List Jb := ({ t with m := delAll t.m (t.srt.filter p) }, (t.srt.filter p).map (·.job))
theorem tk_hit {t : Tb} {p : Ls → Bool} {i : Nat} {x : Ls} (hx : t.srt[i]? = some x) (hp : p x = true) : t.tk p (i + 1) = t.tk p i ++ [x] := by
  rw [Tb.tk, List.take_add_one, hx, List.filter_append]; simp [Tb.tk, hp]
theorem tk_miss {t : Tb} {p : Ls → Bool} {i : Nat} {x : Ls} (hx : t.srt[i]? = some x) (hp : p x = false) : t.tk p (i + 1) = t.tk p i := by
  rw [Tb.tk, List.take_add_one, hx, List.filter_append]; simp [Tb.tk, hp]
theorem delAll_snoc (m : List (Str × Ls)) (l : List Ls) (x : Ls) : delAll m (l ++ [x]) = mdel (delAll m l) x.job.key := by simp [delAll]
theorem tk_len (t : Tb) (p : Ls → Bool) (i : Nat) : (t.tk p i).length ≤ t.m.length := by
  have h1 := List.length_filter_le p (t.srt.take i)
  rw [List.length_take, Tb.srt_len] at h1
  rw [Tb.tk]; omega
theorem tk_all (t : Tb) (p : Ls → Bool) : t.tk p t.m.length = t.srt.filter p := by rw [Tb.tk, List.take_of_length_le (by rw [Tb.srt_len]; exact Nat.le_refl _)]

set_option maxHeartbeats 1000000 in
theorem take_c (b : Nat) (t : Tb) (hft : t.fits) (f g : Nat) (p : Ls → Bool) (R : Atom) (hf : FN Try.prog f) (hs : ∀ x, Ctr Try.prog f #[agL x, ptr g] [R] [] (fun _ : Unit => True) (fun _ => vB (p x)) (fun _ => [])) :
    Ctr Try.prog 54 #[ptr b, .func (.func f) #[] #[ptr g]] [R] [tbA b t] (fun _ : Option Addr × Nat => True) (fun x => .slice x.1 (t.take p).2.length x.2) (fun x => [tbA b (t.take p).1, slc 30 3 x.1 (t.take p).2.length x.2 ((t.take p).2.flatMap encJ)]) := by
  refine spec_start (n := 32) [(0, ptr b), (1, .func (.func f) #[] #[ptr g])] Try.func54 rfl rfl ⟨rfl, rfl, trivial⟩ rfl ?_
  intro w0 K hR
  have hA := hR R (by simp)
  obtain ⟨hml, hkl⟩ := id hft
  refine wc_seq ?_
  refine wc_region ?_
  refine wl_y rfl (y_assign rfl) ?_
  refine wl_nil ?_
  refine wq_then ?_
  refine wc_seq ?_
  refine wc_region ?_
  refine wl_y rfl (y_assign rfl) ?_
  refine wl_nil ?_
  refine wq_then ?_
  refine wc_seq ?_
  refine wc_seq ?_
  refine wc_region ?_
  refine wl_y rfl (y_move rfl) ?_
  refine wl_c (fun _ _ => want_none) rfl (yc_spec (fst := []) (cap := []) _ FN34 (list_c b t hft) rfl rfl rfl (by (repeat (first | exact pt_nil | apply pt0 | apply pt1 | apply pt2 | apply pt3 | apply pt4 | apply pt5 | apply pt6 | apply pt7 | apply pt8 | apply pt9 | apply pt10 | apply pt11 | apply pt12 | apply pt13 | apply pt14 | apply pt15 | apply pt16 | apply pt17))) (by (repeat (first | exact ro_nil | exact ro_rest (by assumption) | refine ro_cons (by first | exact .inl (by assumption) | exact ro_f0 (fun _ h => h) | exact ro_f0 (fun _ => slc_rsl) | exact ro_f1 (fun _ h => h) | exact ro_f1 (fun _ => slc_rsl) | exact ro_f2 (fun _ h => h) | exact ro_f2 (fun _ => slc_rsl) | exact ro_f3 (fun _ h => h) | exact ro_f3 (fun _ => slc_rsl) | exact ro_f4 (fun _ h => h) | exact ro_f4 (fun _ => slc_rsl) | exact ro_f5 (fun _ h => h) | exact ro_f5 (fun _ => slc_rsl) | exact ro_f6 (fun _ h => h) | exact ro_f6 (fun _ => slc_rsl)) ?_)))) (wl_ex fun x9 hx9 => ?_)
  refine wl_exS (fun w hw => tb_open w (Hp.sub (As := [tbA b t, slc 36 6 x9.1 t.m.length x9.2 (t.srt.flatMap encL)]) hw (by (repeat (first | exact pt_nil | apply pt0 | apply pt1 | apply pt2 | apply pt3 | apply pt4 | apply pt5 | apply pt6 | apply pt7 | apply pt8 | apply pt9 | apply pt10 | apply pt11 | apply pt12 | apply pt13 | apply pt14 | apply pt15 | apply pt16 | apply pt17))))) (fun mb => ?_)
  refine wl_y rfl (y_lenSl Try.underlying39 rfl) ?_
  refine wl_y rfl (y_move rfl) ?_
  refine wl_nil ?_
  refine wq_then ?_
  refine wc_block ?_
  refine wc_loop (α := Nat × Option Addr × Nat) (fun y => y.1 ≤ t.m.length) [(0, _), (1, _), (9, _), (10, _)] (fun y => [(11, vI y.1), (5, .slice y.2.1 (t.tk p y.1).length y.2.2)]) (fun y => Hp w0 K (slc 30 3 y.2.1 (t.tk p y.1).length y.2.2 (((t.tk p y.1).map (·.job)).flatMap encJ) :: (tbAs b (t.dl p y.1) mb ++ [slc 36 6 x9.1 t.m.length x9.2 (t.srt.flatMap encL)]))) (fun y => t.m.length - y.1) (0, none, 0) ?_ ⟨rfl, rfl, rfl, rfl, rfl, rfl, trivial⟩ ?_ ?_
  · exact Nat.zero_le _
  · exact fun w hw => Hp.addNil [] _ hw
  · rintro ⟨i, o, c⟩ hi; simp only at hi
    refine wc_world (S' := Hp w0 K (slc 30 3 o (t.tk p i).length c (((t.tk p i).map (·.job)).flatMap encJ) :: (tbAs b (t.dl p i) mb ++ [slc 36 6 x9.1 t.m.length x9.2 (t.srt.flatMap encL)]))) (fun w hw => hw) ?_
    refine wc_same 11 (vI i) rfl rfl ?_
    refine wc_same 5 (.slice o (t.tk p i).length c) rfl rfl ?_
    refine wc_seq ?_
    refine wc_region ?_
    refine wl_y rfl (y_lss rfl rfl) ?_
    refine wl_nil ?_
    refine wq_then ?_
    refine wc_seq ?_
    refine wc_cond rfl (fun hc12 => ?_) (fun hc12 => ?_)
    ·
      simp at hc12
      refine wc_skip ?_
      refine wq_then ?_
      refine wc_seq ?_
      refine wc_block ?_
      refine wc_seq ?_
      refine wc_region ?_
      obtain ⟨x, hx⟩ : ∃ x, t.srt[i]? = some x := ⟨_, List.getElem?_eq_getElem (by rw [Tb.srt_len]; omega)⟩
      have htk := tk_len t p i
      refine wl_y rfl (y_indexAddr Try.underlying39 T36 rfl rfl rfl (by omega) (by first | assumption | exact fun _ _ => rfl | exact fun w hw => hw.slc_isSome [] (by omega) | exact fun w hw => hw.slc_isSome [_] (by omega) | exact fun w hw => hw.slc_isSome [_, _] (by omega) | exact fun w hw => hw.slc_isSome [_, _, _] (by omega) | exact fun w hw => hw.slc_isSome [_, _, _, _] (by omega) | exact fun w hw => hw.slc_isSome [_, _, _, _, _] (by omega) | exact fun w hw => hw.slc_isSome [_, _, _, _, _, _] (by omega))) ?_
      refine wl_y rfl (y_loadAgg (l := encL x) AG36 rfl rfl (by first | exact agg_own [] (fun i u h => rows_get encL_len hx h) | exact agg_own [_] (fun i u h => rows_get encL_len hx h) | exact agg_own [_, _] (fun i u h => rows_get encL_len hx h) | exact agg_own [_, _, _] (fun i u h => rows_get encL_len hx h) | exact agg_own [_, _, _, _] (fun i u h => rows_get encL_len hx h) | exact agg_own [_, _, _, _, _] (fun i u h => rows_get encL_len hx h) | exact agg_own [_, _, _, _, _, _] (fun i u h => rows_get encL_len hx h))) ?_
      refine wl_w (fun _ _ => want_none) rfl (yw_alloc T36 rfl) (wl_ex fun b7 _ => ?_)
      first | refine wl_u (yu_storeAgg [] (l' := [_, _, _, _, _, _]) T36 rfl rfl rfl (by simp [Value.oneCell', encL, encJ]) rfl rfl) ?_ | refine wl_u (yu_storeAgg [_] (l' := [_, _, _, _, _, _]) T36 rfl rfl rfl (by simp [Value.oneCell', encL, encJ]) rfl rfl) ?_ | refine wl_u (yu_storeAgg [_, _] (l' := [_, _, _, _, _, _]) T36 rfl rfl rfl (by simp [Value.oneCell', encL, encJ]) rfl rfl) ?_ | refine wl_u (yu_storeAgg [_, _, _] (l' := [_, _, _, _, _, _]) T36 rfl rfl rfl (by simp [Value.oneCell', encL, encJ]) rfl rfl) ?_ | refine wl_u (yu_storeAgg [_, _, _, _] (l' := [_, _, _, _, _, _]) T36 rfl rfl rfl (by simp [Value.oneCell', encL, encJ]) rfl rfl) ?_ | refine wl_u (yu_storeAgg [_, _, _, _, _] (l' := [_, _, _, _, _, _]) T36 rfl rfl rfl (by simp [Value.oneCell', encL, encJ]) rfl rfl) ?_ | refine wl_u (yu_storeAgg [_, _, _, _, _, _] (l' := [_, _, _, _, _, _]) T36 rfl rfl rfl (by simp [Value.oneCell', encL, encJ]) rfl rfl) ?_
      refine wl_nil ?_
      refine wq_then ?_
      refine wc_seq ?_
      refine wc_region ?_
      refine wl_y rfl (y_move rfl) ?_
      refine wl_y rfl (y_loadAgg (l := [_, _, _, _, _, _]) AG36 rfl rfl (by first | exact cells_blk [] rfl | exact cells_blk [_] rfl | exact cells_blk [_, _] rfl | exact cells_blk [_, _, _] rfl | exact cells_blk [_, _, _, _] rfl | exact cells_blk [_, _, _, _, _] rfl | exact cells_blk [_, _, _, _, _, _] rfl | exact cellsR_blk (by assumption) rfl)) ?_
      refine wl_c (fun _ _ => want_none) rfl (yc_spec (fst := []) (cap := [ptr g]) _ hf (hs x) rfl rfl rfl (by (repeat (first | exact pt_nil | apply pt0 | apply pt1 | apply pt2 | apply pt3 | apply pt4 | apply pt5 | apply pt6 | apply pt7 | apply pt8 | apply pt9 | apply pt10 | apply pt11 | apply pt12 | apply pt13 | apply pt14 | apply pt15 | apply pt16 | apply pt17))) (by (repeat (first | exact ro_nil | exact ro_rest (by assumption) | refine ro_cons (by first | exact .inl (by assumption) | exact ro_f0 (fun _ h => h) | exact ro_f0 (fun _ => slc_rsl) | exact ro_f1 (fun _ h => h) | exact ro_f1 (fun _ => slc_rsl) | exact ro_f2 (fun _ h => h) | exact ro_f2 (fun _ => slc_rsl) | exact ro_f3 (fun _ h => h) | exact ro_f3 (fun _ => slc_rsl) | exact ro_f4 (fun _ h => h) | exact ro_f4 (fun _ => slc_rsl) | exact ro_f5 (fun _ h => h) | exact ro_f5 (fun _ => slc_rsl) | exact ro_f6 (fun _ h => h) | exact ro_f6 (fun _ => slc_rsl)) ?_)))) (wl_ex fun x17 hx17 => ?_)
      refine wl_nil ?_
      refine wq_then ?_
      refine wc_cond rfl (fun hc17 => ?_) (fun hc17 => ?_)
      ·
        refine wc_seq ?_
        refine wc_region ?_
        refine wl_y rfl (y_move rfl) ?_
        refine wl_y rfl (y_fieldAddr F36_0 rfl) ?_
        refine wl_y rfl (y_loadAgg (l := [_, _, _]) AG30 rfl rfl (by first | exact cells_blk [] rfl | exact cells_blk [_] rfl | exact cells_blk [_, _] rfl | exact cells_blk [_, _, _] rfl | exact cells_blk [_, _, _, _] rfl | exact cells_blk [_, _, _, _, _] rfl | exact cells_blk [_, _, _, _, _, _] rfl | exact cellsR_blk (by assumption) rfl)) ?_
        refine wl_w (fun _ _ => want_none) rfl (yw_buildSlice (cs := [_, _, _]) Try.underlying49 T30 rfl rfl rfl rfl rfl rfl rfl) (wl_ex fun b21 _ => ?_)
        refine wl_w (fun _ _ => want_none) rfl (yw_append [_, _] Try.underlying49 Try.underlying49 (.inl ⟨_, rfl⟩) T30 rfl rfl rfl (fun w hw => Src.slice ((hw.seen []).mono fun _ => slc_rsl)) (by omega) (by unfold maxLen; omega) (by simp [Value.oneCell', encJ]) rfl) (wl_ex fun p22 hp22 => ?_)
        refine wl_y rfl (y_assign rfl) ?_
        refine wl_nil ?_
        refine wq_then ?_
        refine wc_mix (.q 0 0 (.q 1 0 (.q 2 0 (.q 3 1 (.q 4 0 (.q 5 0 (.q 6 1 (.w 7 2 .nil .nil)))))))) (fun _ => True) MO (by kernel_rfl) (Hp.drawless _ _ _) (fun _ _ => trivial) ?_
        refine wm_g rfl rfl (y_move rfl) ?_
        refine wm_g rfl rfl (y_nilCheck rfl) ?_
        refine wm_g rfl rfl (y_fieldAddr F95_2 rfl) ?_
        refine wm_l rfl rfl (y_load NA93 rfl (by first | exact cell_blk [] rfl | exact cell_blk [_] rfl | exact cell_blk [_, _] rfl | exact cell_blk [_, _, _] rfl | exact cell_blk [_, _, _, _] rfl | exact cell_blk [_, _, _, _, _] rfl | exact cell_blk [_, _, _, _, _, _] rfl | exact cellR_blk (by assumption) rfl)) ?_
        refine wm_g rfl rfl (y_fieldAddr F36_0 rfl) ?_
        refine wm_g rfl rfl (y_fieldAddr F30_0 rfl) ?_
        refine wm_l rfl rfl (y_load NA9 rfl (by first | exact cell_blk [] rfl | exact cell_blk [_] rfl | exact cell_blk [_, _] rfl | exact cell_blk [_, _, _] rfl | exact cell_blk [_, _, _, _] rfl | exact cell_blk [_, _, _, _, _] rfl | exact cell_blk [_, _, _, _, _, _] rfl | exact cellR_blk (by assumption) rfl)) ?_
        first | refine wm_delete [] rfl (fun _ _ => trivial) Try.underlying93 (keyE_str Try.underlying9) rfl rfl ?_ | refine wm_delete [_] rfl (fun _ _ => trivial) Try.underlying93 (keyE_str Try.underlying9) rfl rfl ?_ | refine wm_delete [_, _] rfl (fun _ _ => trivial) Try.underlying93 (keyE_str Try.underlying9) rfl rfl ?_ | refine wm_delete [_, _, _] rfl (fun _ _ => trivial) Try.underlying93 (keyE_str Try.underlying9) rfl rfl ?_ | refine wm_delete [_, _, _, _] rfl (fun _ _ => trivial) Try.underlying93 (keyE_str Try.underlying9) rfl rfl ?_ | refine wm_delete [_, _, _, _, _] rfl (fun _ _ => trivial) Try.underlying93 (keyE_str Try.underlying9) rfl rfl ?_ | refine wm_delete [_, _, _, _, _, _] rfl (fun _ _ => trivial) Try.underlying93 (keyE_str Try.underlying9) rfl rfl ?_
        refine wm_nil ?_
        refine all_wq ?_
        refine wq_block_normal ?_
        refine wq_then ?_
        refine wc_region ?_
        refine wl_y rfl (y_add rfl rfl (by omega)) ?_
        refine wl_y rfl (y_move rfl) ?_
        refine wl_nil ?_
        refine wq_same 5 (.slice p22.1 (t.tk p (i + 1)).length p22.2) rfl (by rw [tk_hit hx hc17, List.length_append]; rfl) ?_
        exact wq_round (i + 1, p22.1, p22.2) (by simp only; omega) (by simp only; omega) ⟨rfl, rfl, rfl, rfl, rfl, rfl, trivial⟩ (fun w hw => by
          simp only [Tb.dl, tk_hit hx hc17, delAll_snoc, List.map_append, List.flatMap_append, List.length_append]
          simp only [Tb.dl] at hw
          exact hw.sub (by (repeat (first | exact pt_nil | apply pt0 | apply pt1 | apply pt2 | apply pt3 | apply pt4 | apply pt5 | apply pt6 | apply pt7 | apply pt8 | apply pt9 | apply pt10 | apply pt11 | apply pt12 | apply pt13 | apply pt14 | apply pt15 | apply pt16 | apply pt17))))
      ·
        refine wc_skip ?_
        refine wq_block_normal ?_
        refine wq_then ?_
        refine wc_region ?_
        refine wl_y rfl (y_add rfl rfl (by omega)) ?_
        refine wl_y rfl (y_move rfl) ?_
        refine wl_nil ?_
        refine wq_same 5 (.slice o (t.tk p (i + 1)).length c) rfl (by rw [tk_miss hx hc17]) ?_
        exact wq_round (i + 1, o, c) (by simp only; omega) (by simp only; omega) ⟨rfl, rfl, rfl, rfl, rfl, rfl, trivial⟩ (fun w hw => by simp only [Tb.dl, tk_miss hx hc17]; exact hw.drop)
    ·
      simp at hc12
      refine wc_exit ?_
      refine wq_then_exit (wq_then_exit (wq_block_exit ?_))
      refine wq_then ?_
      refine wc_seq ?_
      refine wc_region ?_
      refine wl_y rfl (y_move rfl) ?_
      refine wl_y rfl (y_assign rfl) ?_
      refine wl_nil ?_
      refine wq_then ?_
      refine wc_ret ?_
      refine wq_ret1 rfl rfl (fun w hw => ?_)
      obtain rfl : i = t.m.length := by omega
      simp only [Tb.dl, tk_all] at hw
      exact ⟨(o, c), trivial, by simp [Tb.take, tk_all], by
        simp only [Tb.take, List.length_map]
        exact tb_shut mb (hw.sub (by (repeat (first | exact pt_nil | apply pt0 | apply pt1 | apply pt2 | apply pt3 | apply pt4 | apply pt5 | apply pt6 | apply pt7 | apply pt8 | apply pt9 | apply pt10 | apply pt11 | apply pt12 | apply pt13 | apply pt14 | apply pt15 | apply pt16 | apply pt17))))⟩


set_option maxHeartbeats 1000000 in
theorem exp_f (x : Ls) (now : Int) (g : Nat) :
    Ctr Try.prog 63 #[agL x, ptr g] [blk g (.cells #[vI now] 3 (0, 0))] [] (fun _ : Unit => True) (fun _ => vB (decide (x.upto < now))) (fun _ => []) := by
  refine spec_start (n := 8) [(0, agL x), (1, ptr g)] Try.func63 rfl rfl ⟨rfl, rfl, trivial⟩ rfl ?_
  intro w0 K hR
  have hA := hR _ (List.mem_singleton.2 rfl)
  refine wc_seq ?_
  refine wc_region ?_
  refine wl_w (fun _ _ => want_none) rfl (yw_box rfl rfl) (wl_ex fun b2 _ => ?_)
  refine wl_y rfl (y_assign rfl) ?_
  refine wl_nil ?_
  refine wq_then ?_
  refine wc_seq ?_
  refine wc_region ?_
  refine wl_y rfl (y_fieldAddr F36_3 rfl) ?_
  refine wl_y rfl (y_load NA3 rfl (by first | exact cell_blk [] rfl | exact cell_blk [_] rfl | exact cell_blk [_, _] rfl | exact cellR_blk (by assumption) rfl)) ?_
  refine wl_y rfl (y_load NA3 rfl (by first | exact cell_blk [] rfl | exact cell_blk [_] rfl | exact cell_blk [_, _] rfl | exact cellR_blk (by assumption) rfl)) ?_
  refine wl_y rfl (y_lss rfl rfl) ?_
  refine wl_y rfl (y_assign rfl) ?_
  refine wl_nil ?_
  refine wq_then ?_
  refine wc_ret ?_
  refine wq_ret1 rfl rfl (fun w hw => ?_)
  exact ⟨(), trivial, rfl, hw.bare⟩

set_option maxHeartbeats 1000000 in
theorem drop_f (x : Ls) (wk : Str) (g : Nat) :
    Ctr Try.prog 55 #[agL x, ptr g] [blk g (.cells #[vS wk] 9 (0, 0))] [] (fun _ : Unit => True) (fun _ => vB (decide (x.worker = wk))) (fun _ => []) := by
  refine spec_start (n := 8) [(0, agL x), (1, ptr g)] Try.func55 rfl rfl ⟨rfl, rfl, trivial⟩ rfl ?_
  intro w0 K hR
  have hA := hR _ (List.mem_singleton.2 rfl)
  refine wc_seq ?_
  refine wc_region ?_
  refine wl_w (fun _ _ => want_none) rfl (yw_box rfl rfl) (wl_ex fun b2 _ => ?_)
  refine wl_y rfl (y_assign rfl) ?_
  refine wl_nil ?_
  refine wq_then ?_
  refine wc_seq ?_
  refine wc_region ?_
  refine wl_y rfl (y_fieldAddr F36_1 rfl) ?_
  refine wl_y rfl (y_load NA9 rfl (by first | exact cell_blk [] rfl | exact cell_blk [_] rfl | exact cell_blk [_, _] rfl | exact cellR_blk (by assumption) rfl)) ?_
  refine wl_y rfl (y_load NA9 rfl (by first | exact cell_blk [] rfl | exact cell_blk [_] rfl | exact cell_blk [_, _] rfl | exact cellR_blk (by assumption) rfl)) ?_
  refine wl_y rfl (y_eqlS rfl rfl) ?_
  refine wl_y rfl (y_assign rfl) ?_
  refine wl_nil ?_
  refine wq_then ?_
  refine wc_ret ?_
  refine wq_ret1 rfl rfl (fun w hw => ?_)
  exact ⟨(), trivial, rfl, hw.bare⟩

set_option maxHeartbeats 1000000 in
theorem expire_c (b : Nat) (t : Tb) (hft : t.fits) (now : Int) :
    Ctr Try.prog 47 #[ptr b, vI now] [] [tbA b t] (fun _ : Option Addr × Nat => True) (fun x => .slice x.1 (t.take (fun x => decide (x.upto < now))).2.length x.2) (fun x => [tbA b (t.take (fun x => decide (x.upto < now))).1, slc 30 3 x.1 (t.take (fun x => decide (x.upto < now))).2.length x.2 ((t.take (fun x => decide (x.upto < now))).2.flatMap encJ)]) := by
  refine spec_start (n := 8) [(0, ptr b), (1, vI now)] Try.func47 rfl rfl ⟨rfl, rfl, trivial⟩ rfl ?_
  intro w0 K hR
  refine wc_seq ?_
  refine wc_region ?_
  refine wl_w (fun _ _ => want_none) rfl (yw_box rfl rfl) (wl_ex fun b3 _ => ?_)
  refine wl_y rfl (y_assign rfl) ?_
  refine wl_nil ?_
  refine wq_then ?_
  refine wc_seq ?_
  refine wc_region ?_
  refine wl_y rfl (y_move rfl) ?_
  refine wl_y rfl (y_makeFunc rfl rfl) ?_
  refine wl_c (fun _ _ => want_none) rfl (yc_spec (fst := []) (cap := []) _ FN54 (take_c b t hft 63 b3 (fun x => decide (x.upto < now)) (blk b3 (.cells #[vI now] 3 (0, 0))) FN63 (fun x => exp_f x now b3)) rfl rfl rfl (by (repeat (first | exact pt_nil | apply pt0 | apply pt1 | apply pt2 | apply pt3 | apply pt4 | apply pt5 | apply pt6 | apply pt7 | apply pt8 | apply pt9 | apply pt10 | apply pt11 | apply pt12 | apply pt13 | apply pt14 | apply pt15 | apply pt16 | apply pt17))) (by (repeat (first | exact ro_nil | exact ro_rest (by assumption) | refine ro_cons (by first | exact .inl (by assumption) | exact ro_f0 (fun _ h => h) | exact ro_f0 (fun _ => slc_rsl) | exact ro_f1 (fun _ h => h) | exact ro_f1 (fun _ => slc_rsl) | exact ro_f2 (fun _ h => h) | exact ro_f2 (fun _ => slc_rsl) | exact ro_f3 (fun _ h => h) | exact ro_f3 (fun _ => slc_rsl) | exact ro_f4 (fun _ h => h) | exact ro_f4 (fun _ => slc_rsl) | exact ro_f5 (fun _ h => h) | exact ro_f5 (fun _ => slc_rsl) | exact ro_f6 (fun _ h => h) | exact ro_f6 (fun _ => slc_rsl)) ?_)))) (wl_ex fun x7 hx7 => ?_)
  refine wl_y rfl (y_assign rfl) ?_
  refine wl_nil ?_
  refine wq_then ?_
  refine wc_ret ?_
  refine wq_ret1 rfl rfl (fun w hw => ?_)
  exact ⟨x7, trivial, rfl, hw.sub (by (repeat (first | exact pt_nil | apply pt0 | apply pt1 | apply pt2 | apply pt3 | apply pt4 | apply pt5 | apply pt6 | apply pt7 | apply pt8 | apply pt9 | apply pt10 | apply pt11 | apply pt12 | apply pt13 | apply pt14 | apply pt15 | apply pt16 | apply pt17)))⟩

set_option maxHeartbeats 1000000 in
theorem drop_c (b : Nat) (t : Tb) (hft : t.fits) (wk : Str) :
    Ctr Try.prog 33 #[ptr b, vS wk] [] [tbA b t] (fun _ : Option Addr × Nat => True) (fun x => .slice x.1 (t.take (fun x => decide (x.worker = wk))).2.length x.2) (fun x => [tbA b (t.take (fun x => decide (x.worker = wk))).1, slc 30 3 x.1 (t.take (fun x => decide (x.worker = wk))).2.length x.2 ((t.take (fun x => decide (x.worker = wk))).2.flatMap encJ)]) := by
  refine spec_start (n := 8) [(0, ptr b), (1, vS wk)] Try.func33 rfl rfl ⟨rfl, rfl, trivial⟩ rfl ?_
  intro w0 K hR
  refine wc_seq ?_
  refine wc_region ?_
  refine wl_w (fun _ _ => want_none) rfl (yw_box rfl rfl) (wl_ex fun b3 _ => ?_)
  refine wl_y rfl (y_assign rfl) ?_
  refine wl_nil ?_
  refine wq_then ?_
  refine wc_seq ?_
  refine wc_region ?_
  refine wl_y rfl (y_move rfl) ?_
  refine wl_y rfl (y_makeFunc rfl rfl) ?_
  refine wl_c (fun _ _ => want_none) rfl (yc_spec (fst := []) (cap := []) _ FN54 (take_c b t hft 55 b3 (fun x => decide (x.worker = wk)) (blk b3 (.cells #[vS wk] 9 (0, 0))) FN55 (fun x => drop_f x wk b3)) rfl rfl rfl (by (repeat (first | exact pt_nil | apply pt0 | apply pt1 | apply pt2 | apply pt3 | apply pt4 | apply pt5 | apply pt6 | apply pt7 | apply pt8 | apply pt9 | apply pt10 | apply pt11 | apply pt12 | apply pt13 | apply pt14 | apply pt15 | apply pt16 | apply pt17))) (by (repeat (first | exact ro_nil | exact ro_rest (by assumption) | refine ro_cons (by first | exact .inl (by assumption) | exact ro_f0 (fun _ h => h) | exact ro_f0 (fun _ => slc_rsl) | exact ro_f1 (fun _ h => h) | exact ro_f1 (fun _ => slc_rsl) | exact ro_f2 (fun _ h => h) | exact ro_f2 (fun _ => slc_rsl) | exact ro_f3 (fun _ h => h) | exact ro_f3 (fun _ => slc_rsl) | exact ro_f4 (fun _ h => h) | exact ro_f4 (fun _ => slc_rsl) | exact ro_f5 (fun _ h => h) | exact ro_f5 (fun _ => slc_rsl) | exact ro_f6 (fun _ h => h) | exact ro_f6 (fun _ => slc_rsl)) ?_)))) (wl_ex fun x7 hx7 => ?_)
  refine wl_y rfl (y_assign rfl) ?_
  refine wl_nil ?_
  refine wq_then ?_
  refine wc_ret ?_
  refine wq_ret1 rfl rfl (fun w hw => ?_)
  exact ⟨x7, trivial, rfl, hw.sub (by (repeat (first | exact pt_nil | apply pt0 | apply pt1 | apply pt2 | apply pt3 | apply pt4 | apply pt5 | apply pt6 | apply pt7 | apply pt8 | apply pt9 | apply pt10 | apply pt11 | apply pt12 | apply pt13 | apply pt14 | apply pt15 | apply pt16 | apply pt17)))⟩

set_option maxHeartbeats 1000000 in
theorem take_nil (f g : Nat) :
    Ctr Try.prog 54 #[.pointer none, .func (.func f) #[] #[ptr g]] [] [] (fun _ : Unit => True) (fun _ => .slice none 0 0) (fun _ => []) := by
  refine spec_start (n := 32) [(0, .pointer none), (1, .func (.func f) #[] #[ptr g])] Try.func54 rfl rfl ⟨rfl, rfl, trivial⟩ rfl ?_
  intro w0 K hR
  refine wc_seq ?_
  refine wc_region ?_
  refine wl_y rfl (y_assign rfl) ?_
  refine wl_nil ?_
  refine wq_then ?_
  refine wc_seq ?_
  refine wc_region ?_
  refine wl_y rfl (y_assign rfl) ?_
  refine wl_nil ?_
  refine wq_then ?_
  refine wc_seq ?_
  refine wc_seq ?_
  refine wc_region ?_
  refine wl_y rfl (y_move rfl) ?_
  refine wl_q (fun _ _ => want_none) rfl (yq_spec (fst := []) (cap := []) _ FN34 list_nil rfl rfl rfl (by (repeat (first | exact pt_nil | apply pt0 | apply pt1 | apply pt2 | apply pt3 | apply pt4 | apply pt5 | apply pt6 | apply pt7 | apply pt8 | apply pt9 | apply pt10 | apply pt11 | apply pt12 | apply pt13 | apply pt14 | apply pt15 | apply pt16 | apply pt17))) (by (repeat (first | exact ro_nil | exact ro_rest (by assumption) | refine ro_cons (by first | exact .inl (by assumption) | exact ro_f0 (fun _ h => h) | exact ro_f0 (fun _ => slc_rsl) | exact ro_f1 (fun _ h => h) | exact ro_f1 (fun _ => slc_rsl) | exact ro_f2 (fun _ h => h) | exact ro_f2 (fun _ => slc_rsl) | exact ro_f3 (fun _ h => h) | exact ro_f3 (fun _ => slc_rsl) | exact ro_f4 (fun _ h => h) | exact ro_f4 (fun _ => slc_rsl) | exact ro_f5 (fun _ h => h) | exact ro_f5 (fun _ => slc_rsl) | exact ro_f6 (fun _ h => h) | exact ro_f6 (fun _ => slc_rsl)) ?_))) (fun _ _ => rfl) (fun _ _ _ h => h.sub (by (repeat (first | exact pt_nil | apply pt0 | apply pt1 | apply pt2 | apply pt3 | apply pt4 | apply pt5 | apply pt6 | apply pt7 | apply pt8 | apply pt9 | apply pt10 | apply pt11 | apply pt12 | apply pt13 | apply pt14 | apply pt15 | apply pt16 | apply pt17))))) ?_
  refine wl_y rfl (y_lenSl Try.underlying39 rfl) ?_
  refine wl_y rfl (y_move rfl) ?_
  refine wl_nil ?_
  refine wq_then ?_
  refine wc_block ?_
  refine wc_loop (α := Unit) (fun y => True) [(0, _), (1, _), (9, _), (10, _)] (fun y => [(11, vI 0), (5, .slice none 0 0)]) (fun y => Hp w0 K []) (fun y => 0) () ?_ ⟨rfl, rfl, rfl, rfl, rfl, rfl, trivial⟩ ?_ ?_
  · trivial
  · exact fun w hw => hw
  · intro _ _
    refine wc_seq ?_
    refine wc_region ?_
    refine wl_y rfl (y_lss rfl rfl) ?_
    refine wl_nil ?_
    refine wq_then ?_
    refine wc_seq ?_
    refine wc_known 12 false rfl (rfl) ?_
    refine wc_cond_false rfl ?_
    refine wc_exit ?_
    refine wq_then_exit (wq_then_exit (wq_block_exit ?_))
    refine wq_then ?_
    refine wc_seq ?_
    refine wc_region ?_
    refine wl_y rfl (y_move rfl) ?_
    refine wl_y rfl (y_assign rfl) ?_
    refine wl_nil ?_
    refine wq_then ?_
    refine wc_ret ?_
    refine wq_ret1 rfl rfl (fun w hw => ?_)
    exact ⟨(), trivial, rfl, hw⟩

set_option maxHeartbeats 1000000 in
theorem expire_nil (now : Int) :
    Ctr Try.prog 47 #[.pointer none, vI now] [] [] (fun _ : Unit => True) (fun _ => .slice none 0 0) (fun _ => []) := by
  refine spec_start (n := 8) [(0, .pointer none), (1, vI now)] Try.func47 rfl rfl ⟨rfl, rfl, trivial⟩ rfl ?_
  intro w0 K hR
  refine wc_seq ?_
  refine wc_region ?_
  refine wl_w (fun _ _ => want_none) rfl (yw_box rfl rfl) (wl_ex fun b3 _ => ?_)
  refine wl_y rfl (y_assign rfl) ?_
  refine wl_nil ?_
  refine wq_then ?_
  refine wc_seq ?_
  refine wc_region ?_
  refine wl_y rfl (y_move rfl) ?_
  refine wl_y rfl (y_makeFunc rfl rfl) ?_
  refine wl_q (fun _ _ => want_none) rfl (yq_spec (fst := []) (cap := []) _ FN54 (take_nil 63 b3) rfl rfl rfl (by (repeat (first | exact pt_nil | apply pt0 | apply pt1 | apply pt2 | apply pt3 | apply pt4 | apply pt5 | apply pt6 | apply pt7 | apply pt8 | apply pt9 | apply pt10 | apply pt11 | apply pt12 | apply pt13 | apply pt14 | apply pt15 | apply pt16 | apply pt17))) (by (repeat (first | exact ro_nil | exact ro_rest (by assumption) | refine ro_cons (by first | exact .inl (by assumption) | exact ro_f0 (fun _ h => h) | exact ro_f0 (fun _ => slc_rsl) | exact ro_f1 (fun _ h => h) | exact ro_f1 (fun _ => slc_rsl) | exact ro_f2 (fun _ h => h) | exact ro_f2 (fun _ => slc_rsl) | exact ro_f3 (fun _ h => h) | exact ro_f3 (fun _ => slc_rsl) | exact ro_f4 (fun _ h => h) | exact ro_f4 (fun _ => slc_rsl) | exact ro_f5 (fun _ h => h) | exact ro_f5 (fun _ => slc_rsl) | exact ro_f6 (fun _ h => h) | exact ro_f6 (fun _ => slc_rsl)) ?_))) (fun _ _ => rfl) (fun _ _ _ h => h.sub (by (repeat (first | exact pt_nil | apply pt0 | apply pt1 | apply pt2 | apply pt3 | apply pt4 | apply pt5 | apply pt6 | apply pt7 | apply pt8 | apply pt9 | apply pt10 | apply pt11 | apply pt12 | apply pt13 | apply pt14 | apply pt15 | apply pt16 | apply pt17))))) ?_
  refine wl_y rfl (y_assign rfl) ?_
  refine wl_nil ?_
  refine wq_then ?_
  refine wc_ret ?_
  refine wq_ret1 rfl rfl (fun w hw => ?_)
  exact ⟨(), trivial, rfl, hw.bare⟩

set_option maxHeartbeats 1000000 in
theorem drop_nil (wk : Str) :
    Ctr Try.prog 33 #[.pointer none, vS wk] [] [] (fun _ : Unit => True) (fun _ => .slice none 0 0) (fun _ => []) := by
  refine spec_start (n := 8) [(0, .pointer none), (1, vS wk)] Try.func33 rfl rfl ⟨rfl, rfl, trivial⟩ rfl ?_
  intro w0 K hR
  refine wc_seq ?_
  refine wc_region ?_
  refine wl_w (fun _ _ => want_none) rfl (yw_box rfl rfl) (wl_ex fun b3 _ => ?_)
  refine wl_y rfl (y_assign rfl) ?_
  refine wl_nil ?_
  refine wq_then ?_
  refine wc_seq ?_
  refine wc_region ?_
  refine wl_y rfl (y_move rfl) ?_
  refine wl_y rfl (y_makeFunc rfl rfl) ?_
  refine wl_q (fun _ _ => want_none) rfl (yq_spec (fst := []) (cap := []) _ FN54 (take_nil 55 b3) rfl rfl rfl (by (repeat (first | exact pt_nil | apply pt0 | apply pt1 | apply pt2 | apply pt3 | apply pt4 | apply pt5 | apply pt6 | apply pt7 | apply pt8 | apply pt9 | apply pt10 | apply pt11 | apply pt12 | apply pt13 | apply pt14 | apply pt15 | apply pt16 | apply pt17))) (by (repeat (first | exact ro_nil | exact ro_rest (by assumption) | refine ro_cons (by first | exact .inl (by assumption) | exact ro_f0 (fun _ h => h) | exact ro_f0 (fun _ => slc_rsl) | exact ro_f1 (fun _ h => h) | exact ro_f1 (fun _ => slc_rsl) | exact ro_f2 (fun _ h => h) | exact ro_f2 (fun _ => slc_rsl) | exact ro_f3 (fun _ h => h) | exact ro_f3 (fun _ => slc_rsl) | exact ro_f4 (fun _ h => h) | exact ro_f4 (fun _ => slc_rsl) | exact ro_f5 (fun _ h => h) | exact ro_f5 (fun _ => slc_rsl) | exact ro_f6 (fun _ h => h) | exact ro_f6 (fun _ => slc_rsl)) ?_))) (fun _ _ => rfl) (fun _ _ _ h => h.sub (by (repeat (first | exact pt_nil | apply pt0 | apply pt1 | apply pt2 | apply pt3 | apply pt4 | apply pt5 | apply pt6 | apply pt7 | apply pt8 | apply pt9 | apply pt10 | apply pt11 | apply pt12 | apply pt13 | apply pt14 | apply pt15 | apply pt16 | apply pt17))))) ?_
  refine wl_y rfl (y_assign rfl) ?_
  refine wl_nil ?_
  refine wq_then ?_
  refine wc_ret ?_
  refine wq_ret1 rfl rfl (fun w hw => ?_)
  exact ⟨(), trivial, rfl, hw.bare⟩

set_option maxHeartbeats 1000000 in
theorem grant_nil (j : Jb) (w : Str) (now : Int) :
    Ctr Try.prog 31 #[.pointer none, agJ j, vS w, vI now] [] [] (fun _ : Unit => True) (fun _ => .tuple #[agL noL, vI 2]) (fun _ => []) := by
  refine spec_start (n := 67) [(0, .pointer none), (1, agJ j), (2, vS w), (3, vI now)] Try.func31 rfl rfl ⟨rfl, rfl, rfl, rfl, trivial⟩ rfl ?_
  intro w0 K hR
  refine wc_seq ?_
  refine wc_region ?_
  refine wl_w (fun _ _ => want_none) rfl (yw_box rfl rfl) (wl_ex fun b5 _ => ?_)
  refine wl_w (fun _ _ => want_none) rfl (yw_alloc T36 rfl) (wl_ex fun b8 _ => ?_)
  refine wl_y rfl (y_assign rfl) ?_
  refine wl_nil ?_
  refine wq_then ?_
  refine wc_seq ?_
  refine wc_seq ?_
  refine wc_region ?_
  refine wl_y rfl (y_move rfl) ?_
  refine wl_y rfl (y_eqlP Try.underlying61 rfl rfl) ?_
  refine wl_nil ?_
  refine wq_then ?_
  refine wc_known 15 true rfl (rfl) ?_
  refine wc_cond_true rfl ?_
  refine wc_seq ?_
  refine wc_region ?_
  refine wl_y rfl (y_build (cs := [_, _, _, _, _, _]) T36 PL36 rfl rfl rfl) ?_
  first | refine wl_u (yu_storeAgg [] (l' := [_, _, _, _, _, _]) T36 rfl rfl rfl (by simp [Value.oneCell', encL]) rfl rfl) ?_ | refine wl_u (yu_storeAgg [_] (l' := [_, _, _, _, _, _]) T36 rfl rfl rfl (by simp [Value.oneCell', encL]) rfl rfl) ?_ | refine wl_u (yu_storeAgg [_, _] (l' := [_, _, _, _, _, _]) T36 rfl rfl rfl (by simp [Value.oneCell', encL]) rfl rfl) ?_
  refine wl_y rfl (y_assign rfl) ?_
  refine wl_nil ?_
  refine wq_then ?_
  refine wc_ret ?_
  refine wq_then_ret ?_
  refine wq_retC2 (l := [_, _, _, _, _, _]) AG36 rfl rfl rfl rfl (by first | exact cells_blk [] rfl | exact cells_blk [_] rfl | exact cells_blk [_, _] rfl | exact cells_blk [_, _, _] rfl) (fun w hw => ?_)
  exact ⟨(), trivial, rfl, hw.bare⟩

set_option maxHeartbeats 1000000 in
theorem finish_nil (key : Str) (epoch : Int) :
    Ctr Try.prog 36 #[.pointer none, vS key, vI epoch] [] [] (fun _ : Unit => True) (fun _ => vI 2) (fun _ => []) := by
  refine spec_start (n := 26) [(0, .pointer none), (1, vS key), (2, vI epoch)] Try.func36 rfl rfl ⟨rfl, rfl, rfl, trivial⟩ rfl ?_
  intro w0 K hR
  refine wc_seq ?_
  refine wc_region ?_
  refine wl_y rfl (y_assign rfl) ?_
  refine wl_nil ?_
  refine wq_then ?_
  refine wc_seq ?_
  refine wc_seq ?_
  refine wc_region ?_
  refine wl_y rfl (y_move rfl) ?_
  refine wl_y rfl (y_eqlP Try.underlying61 rfl rfl) ?_
  refine wl_nil ?_
  refine wq_then ?_
  refine wc_known 10 true rfl (rfl) ?_
  refine wc_cond_true rfl ?_
  refine wc_seq ?_
  refine wc_region ?_
  refine wl_y rfl (y_assign rfl) ?_
  refine wl_nil ?_
  refine wq_then ?_
  refine wc_ret ?_
  refine wq_then_ret ?_
  refine wq_ret1 rfl rfl (fun w hw => ?_)
  exact ⟨(), trivial, rfl, hw⟩

end Go.Proofs.Ytfnpjmlpiedgdaa
