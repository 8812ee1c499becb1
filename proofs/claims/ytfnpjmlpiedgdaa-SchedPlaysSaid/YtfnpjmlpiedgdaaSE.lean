/-
  Walks: jobs wait again; a row is filled.
-/
import Derived.Test.YtfnpjmlpiedgdaaSD
namespace Go.Proofs.Ytfnpjmlpiedgdaa
open Go.Eng


theorem again_next {s : Sc} {l : List Jb} {i : Nat} {j : Jb} (h : l[i]? = some j) : s.again (l.take (i + 1)) = (s.again (l.take i)).push j := by
  rw [List.take_add_one, h]; exact again_snoc s _ j
noncomputable def Sc.tk (s : Sc) (w : Str) : Nat → Sc
  | 0 => s
  | i + 1 => (s.tk w i).take1 w
theorem tk_stop {s : Sc} {w : Str} {i : Nat} (h : (s.tk w i).R = []) : ∀ k, s.tk w (i + k) = s.tk w i
  | 0 => rfl
  | k + 1 => by
    have ih := tk_stop h k
    show (s.tk w (i + k)).take1 w = _
    rw [ih, take1_none h]
theorem tk_fetch (s : Sc) (w : Str) : s.tk w 3 = s.fetch w := rfl
theorem tk_like {s : Sc} {k : Nat} (h : s.Qk k) {w : Str} (hw : (mget s.rows w).isSome = true) : ∀ i, s.Like (s.tk w i)
  | 0 => .refl s
  | i + 1 => (tk_like h hw i).trans (take1_like ((tk_like h hw i).q k h) ((tk_like h hw i).has.2 hw))
theorem take1_len (s : Sc) (w u : Str) : ((s.take1 w).row u).length ≤ (s.row u).length + 1 := by
  by_cases h : s.R = []
  · rw [take1_none h]; omega
  · rw [take1_some h]
    show ((mget (mput s.rows w (s.row w ++ [(theMin s.R).v])) u).getD []).length ≤ _
    rw [mget_put]
    split
    · rename_i hu; subst hu; simp
    · show (s.row u).length ≤ _; omega
theorem tkr_len {s : Sc} {w u : Str} : ∀ i, ((s.tk w i).row u).length ≤ (s.row u).length + i
  | 0 => Nat.le_refl _
  | i + 1 => by
    have ih := tkr_len (s := s) (w := w) (u := u) i
    have := take1_len (s.tk w i) w u
    show (((s.tk w i).take1 w).row u).length ≤ _
    omega
theorem first_len (s : Sc) (w u : Str) : ((s.first w).row u).length ≤ (s.row u).length + 3 := by
  unfold Sc.first
  split
  · exact tkr_len (s := s) (w := w) (u := u) 3
  · omega
set_option maxHeartbeats 1000000 in
theorem sagain_c (b : Nat) (s : Sc) (l : List Jb) (oo : Option Addr) (cc : Nat) (hq : s.Qk l.length) (hl : l.length ≤ 1000000) :
    Ctr Try.prog 32 #[ptr b, .slice oo l.length cc] [rsl oo l.length 3 (l.flatMap encJ)] [scA b s] (fun _ : Unit => True) (fun _ => .tuple #[]) (fun _ => [scA b (s.again l)]) := by
  refine spec_start (n := 23) [(0, ptr b), (1, .slice oo l.length cc)] Try.func32 rfl rfl ⟨rfl, rfl, trivial⟩ rfl ?_
  intro w0 K hR
  have hA := hR _ (List.mem_singleton.2 rfl)
  refine wc_seq ?_
  refine wc_region ?_
  refine wl_y rfl (y_move rfl) ?_
  refine wl_y rfl (y_lenSl Try.underlying49 rfl) ?_
  refine wl_y rfl (y_move rfl) ?_
  refine wl_nil ?_
  refine wq_then ?_
  refine wc_block ?_
  refine wc_loop (α := Nat) (fun y => y ≤ l.length) [(0, _), (6, _), (7, _)] (fun y => [(8, vI y)]) (fun y => Hp w0 K [scA b (s.again (l.take y))]) (fun y => l.length - y) 0 ?_ ⟨rfl, rfl, rfl, rfl, trivial⟩ ?_ ?_
  · exact Nat.zero_le _
  · exact fun w hw => hw
  · intro i hi
    refine wc_seq ?_
    refine wc_region ?_
    refine wl_y rfl (y_lss rfl rfl) ?_
    refine wl_nil ?_
    refine wq_then ?_
    refine wc_seq ?_
    refine wc_cond rfl (fun hc9 => ?_) (fun hc9 => ?_)
    ·
      simp at hc9
      refine wc_skip ?_
      refine wq_then ?_
      refine wc_seq ?_
      refine wc_block ?_
      refine wc_seq ?_
      refine wc_region ?_
      obtain ⟨z, hz⟩ : ∃ z, l[i]? = some z := ⟨_, List.getElem?_eq_getElem (by omega)⟩
      have hq2 := hq.some i (by omega)
      have hq3 : 1 ≤ l.length - i := by omega
      refine wl_exS sc_open (fun x => ?_)
      obtain ⟨x, hx⟩ := x
      refine wl_y rfl (y_indexAddr Try.underlying49 T30 rfl rfl rfl (by omega) (by first | assumption | exact fun _ _ => rfl | exact fun _ _ => hA.isSome (by omega) | exact fun w hw => hw.slc_isSome [] (by omega) | exact fun w hw => hw.slc_isSome [_] (by omega) | exact fun w hw => hw.slc_isSome [_, _] (by omega) | exact fun w hw => hw.slc_isSome [_, _, _] (by omega) | exact fun w hw => hw.slc_isSome [_, _, _, _] (by omega) | exact fun w hw => hw.slc_isSome [_, _, _, _, _] (by omega) | exact fun w hw => hw.slc_isSome [_, _, _, _, _, _] (by omega) | exact fun w hw => hw.slc_isSome [_, _, _, _, _, _, _] (by omega))) ?_
      refine wl_y rfl (y_loadAgg (l := encJ z) AG30 rfl rfl (by first | exact agg_ro hA (fun i u h => rows_get encJ_len hz h) | exact agg_own [] (fun i u h => rows_get encJ_len hz h) | exact agg_own [_] (fun i u h => rows_get encJ_len hz h) | exact agg_own [_, _] (fun i u h => rows_get encJ_len hz h) | exact agg_own [_, _, _] (fun i u h => rows_get encJ_len hz h) | exact agg_own [_, _, _, _] (fun i u h => rows_get encJ_len hz h) | exact agg_own [_, _, _, _, _] (fun i u h => rows_get encJ_len hz h) | exact agg_own [_, _, _, _, _, _] (fun i u h => rows_get encJ_len hz h) | exact agg_own [_, _, _, _, _, _, _] (fun i u h => rows_get encJ_len hz h))) ?_
      refine wl_w (fun _ _ => want_none) rfl (yw_alloc T30 rfl) (wl_ex fun b5 _ => ?_)
      first | refine wl_u (yu_storeAgg [] (l' := [_, _, _]) T30 rfl rfl rfl (by simp [Value.oneCell', encJ]) rfl rfl) ?_ | refine wl_u (yu_storeAgg [_] (l' := [_, _, _]) T30 rfl rfl rfl (by simp [Value.oneCell', encJ]) rfl rfl) ?_ | refine wl_u (yu_storeAgg [_, _] (l' := [_, _, _]) T30 rfl rfl rfl (by simp [Value.oneCell', encJ]) rfl rfl) ?_ | refine wl_u (yu_storeAgg [_, _, _] (l' := [_, _, _]) T30 rfl rfl rfl (by simp [Value.oneCell', encJ]) rfl rfl) ?_ | refine wl_u (yu_storeAgg [_, _, _, _] (l' := [_, _, _]) T30 rfl rfl rfl (by simp [Value.oneCell', encJ]) rfl rfl) ?_ | refine wl_u (yu_storeAgg [_, _, _, _, _] (l' := [_, _, _]) T30 rfl rfl rfl (by simp [Value.oneCell', encJ]) rfl rfl) ?_ | refine wl_u (yu_storeAgg [_, _, _, _, _, _] (l' := [_, _, _]) T30 rfl rfl rfl (by simp [Value.oneCell', encJ]) rfl rfl) ?_ | refine wl_u (yu_storeAgg [_, _, _, _, _, _, _] (l' := [_, _, _]) T30 rfl rfl rfl (by simp [Value.oneCell', encJ]) rfl rfl) ?_
      refine wl_nil ?_
      refine wq_then ?_
      refine wc_mix (.q 0 0 (.q 1 0 (.q 2 0 (.q 3 1 (.q 4 1 (.q 5 0 (.q 6 1 (.q 7 0 (.q 8 1 (.w 9 2 .nil .nil)))))))))) (fun _ => True) MO (by kernel_rfl) (Hp.drawless _ _ _) (fun _ _ => trivial) ?_
      rcases hv : validB z with _ | _
      ·
        refine wm_g rfl rfl (y_move rfl) ?_
        refine wm_g rfl rfl (y_nilCheck rfl) ?_
        refine wm_g rfl rfl (y_fieldAddr F66_0 rfl) ?_
        refine wm_l rfl rfl (y_load NA58 rfl (by first | exact cell_blk [] rfl | exact cell_blk [_] rfl | exact cell_blk [_, _] rfl | exact cell_blk [_, _, _] rfl | exact cell_blk [_, _, _, _] rfl | exact cell_blk [_, _, _, _, _] rfl | exact cell_blk [_, _, _, _, _, _] rfl | exact cell_blk [_, _, _, _, _, _, _] rfl | exact cellR_blk (by assumption) rfl)) ?_
        refine wm_l rfl rfl (y_loadAgg (l := [_, _, _]) AG30 rfl rfl (by first | exact cells_blk [] rfl | exact cells_blk [_] rfl | exact cells_blk [_, _] rfl | exact cells_blk [_, _, _] rfl | exact cells_blk [_, _, _, _] rfl | exact cells_blk [_, _, _, _, _] rfl | exact cells_blk [_, _, _, _, _, _] rfl | exact cells_blk [_, _, _, _, _, _, _] rfl | exact cellsR_blk (by assumption) rfl)) ?_
        refine wm_g rfl rfl (y_fieldAddr F30_1 rfl) ?_
        refine wm_l rfl rfl (y_load NA3 rfl (by first | exact cell_blk [] rfl | exact cell_blk [_] rfl | exact cell_blk [_, _] rfl | exact cell_blk [_, _, _] rfl | exact cell_blk [_, _, _, _] rfl | exact cell_blk [_, _, _, _, _] rfl | exact cell_blk [_, _, _, _, _, _] rfl | exact cell_blk [_, _, _, _, _, _, _] rfl | exact cellR_blk (by assumption) rfl)) ?_
        refine wm_g rfl rfl (y_fieldAddr F30_2 rfl) ?_
        refine wm_l rfl rfl (y_load NA3 rfl (by first | exact cell_blk [] rfl | exact cell_blk [_] rfl | exact cell_blk [_, _] rfl | exact cell_blk [_, _, _] rfl | exact cell_blk [_, _, _, _] rfl | exact cell_blk [_, _, _, _, _] rfl | exact cell_blk [_, _, _, _, _, _] rfl | exact cell_blk [_, _, _, _, _, _, _] rfl | exact cellR_blk (by assumption) rfl)) ?_
        refine wm_c rfl rfl (fun _ _ _ => trivial) (yc_spec (fst := []) (cap := []) _ FN28 (qpush_no x.qb (s.again (l.take i)).age (s.again (l.take i)).n (s.again (l.take i)).R z (valid_not.1 hv)) rfl rfl rfl (by (repeat (first | exact pt_nil | apply pt0 | apply pt1 | apply pt2 | apply pt3 | apply pt4 | apply pt5 | apply pt6 | apply pt7 | apply pt8 | apply pt9 | apply pt10 | apply pt11 | apply pt12 | apply pt13 | apply pt14 | apply pt15 | apply pt16 | apply pt17))) (by (repeat (first | exact ro_nil | exact ro_rest (by assumption) | refine ro_cons (by first | exact .inl (by assumption) | exact ro_f0 (fun _ h => h) | exact ro_f0 (fun _ => slc_rsl) | exact ro_f1 (fun _ h => h) | exact ro_f1 (fun _ => slc_rsl) | exact ro_f2 (fun _ h => h) | exact ro_f2 (fun _ => slc_rsl) | exact ro_f3 (fun _ h => h) | exact ro_f3 (fun _ => slc_rsl) | exact ro_f4 (fun _ h => h) | exact ro_f4 (fun _ => slc_rsl) | exact ro_f5 (fun _ h => h) | exact ro_f5 (fun _ => slc_rsl) | exact ro_f6 (fun _ h => h) | exact ro_f6 (fun _ => slc_rsl)) ?_)))) (wm_ex fun x21 hx21 => ?_)
        refine wm_nil ?_
        refine all_wq ?_
        refine wq_block_normal ?_
        refine wq_then ?_
        refine wc_region ?_
        refine wl_y rfl (y_add rfl rfl (by omega)) ?_
        refine wl_y rfl (y_move rfl) ?_
        refine wl_nil ?_
        have e : s.again (l.take (i + 1)) = (s.again (l.take i)) := by rw [again_next hz, Sc.push, if_neg (by rw [hv]; decide)]
        exact wq_round (i + 1) (by omega) (by omega) ⟨rfl, rfl, rfl, rfl, trivial⟩ (fun w hw => by rw [e]; exact sc_shut x hx (hw.sub (by (repeat (first | exact pt_nil | apply pt0 | apply pt1 | apply pt2 | apply pt3 | apply pt4 | apply pt5 | apply pt6 | apply pt7 | apply pt8 | apply pt9 | apply pt10 | apply pt11 | apply pt12 | apply pt13 | apply pt14 | apply pt15 | apply pt16 | apply pt17)))))
      ·
        refine wm_g rfl rfl (y_move rfl) ?_
        refine wm_g rfl rfl (y_nilCheck rfl) ?_
        refine wm_g rfl rfl (y_fieldAddr F66_0 rfl) ?_
        refine wm_l rfl rfl (y_load NA58 rfl (by first | exact cell_blk [] rfl | exact cell_blk [_] rfl | exact cell_blk [_, _] rfl | exact cell_blk [_, _, _] rfl | exact cell_blk [_, _, _, _] rfl | exact cell_blk [_, _, _, _, _] rfl | exact cell_blk [_, _, _, _, _, _] rfl | exact cell_blk [_, _, _, _, _, _, _] rfl | exact cellR_blk (by assumption) rfl)) ?_
        refine wm_l rfl rfl (y_loadAgg (l := [_, _, _]) AG30 rfl rfl (by first | exact cells_blk [] rfl | exact cells_blk [_] rfl | exact cells_blk [_, _] rfl | exact cells_blk [_, _, _] rfl | exact cells_blk [_, _, _, _] rfl | exact cells_blk [_, _, _, _, _] rfl | exact cells_blk [_, _, _, _, _, _] rfl | exact cells_blk [_, _, _, _, _, _, _] rfl | exact cellsR_blk (by assumption) rfl)) ?_
        refine wm_g rfl rfl (y_fieldAddr F30_1 rfl) ?_
        refine wm_l rfl rfl (y_load NA3 rfl (by first | exact cell_blk [] rfl | exact cell_blk [_] rfl | exact cell_blk [_, _] rfl | exact cell_blk [_, _, _] rfl | exact cell_blk [_, _, _, _] rfl | exact cell_blk [_, _, _, _, _] rfl | exact cell_blk [_, _, _, _, _, _] rfl | exact cell_blk [_, _, _, _, _, _, _] rfl | exact cellR_blk (by assumption) rfl)) ?_
        refine wm_g rfl rfl (y_fieldAddr F30_2 rfl) ?_
        refine wm_l rfl rfl (y_load NA3 rfl (by first | exact cell_blk [] rfl | exact cell_blk [_] rfl | exact cell_blk [_, _] rfl | exact cell_blk [_, _, _] rfl | exact cell_blk [_, _, _, _] rfl | exact cell_blk [_, _, _, _, _] rfl | exact cell_blk [_, _, _, _, _, _] rfl | exact cell_blk [_, _, _, _, _, _, _] rfl | exact cellR_blk (by assumption) rfl)) ?_
        refine wm_c rfl rfl (fun _ _ _ => trivial) (yc_spec (fst := []) (cap := []) _ FN28 (qpush_ok x.qb (s.again (l.take i)).age (s.again (l.take i)).n (s.again (l.take i)).R z ⟨by have := hq2.age; omega, hq2.age.2⟩ ⟨hq2.n0, by have := hq2.n1; omega⟩ (valid_iff.1 hv).1 (valid_iff.1 hv).2 (by have := hq2.rl; omega)) rfl rfl rfl (by (repeat (first | exact pt_nil | apply pt0 | apply pt1 | apply pt2 | apply pt3 | apply pt4 | apply pt5 | apply pt6 | apply pt7 | apply pt8 | apply pt9 | apply pt10 | apply pt11 | apply pt12 | apply pt13 | apply pt14 | apply pt15 | apply pt16 | apply pt17))) (by (repeat (first | exact ro_nil | exact ro_rest (by assumption) | refine ro_cons (by first | exact .inl (by assumption) | exact ro_f0 (fun _ h => h) | exact ro_f0 (fun _ => slc_rsl) | exact ro_f1 (fun _ h => h) | exact ro_f1 (fun _ => slc_rsl) | exact ro_f2 (fun _ h => h) | exact ro_f2 (fun _ => slc_rsl) | exact ro_f3 (fun _ h => h) | exact ro_f3 (fun _ => slc_rsl) | exact ro_f4 (fun _ h => h) | exact ro_f4 (fun _ => slc_rsl) | exact ro_f5 (fun _ h => h) | exact ro_f5 (fun _ => slc_rsl) | exact ro_f6 (fun _ h => h) | exact ro_f6 (fun _ => slc_rsl)) ?_)))) (wm_ex fun x21 hx21 => ?_)
        refine wm_nil ?_
        refine all_wq ?_
        refine wq_block_normal ?_
        refine wq_then ?_
        refine wc_region ?_
        refine wl_y rfl (y_add rfl rfl (by omega)) ?_
        refine wl_y rfl (y_move rfl) ?_
        refine wl_nil ?_
        have e : s.again (l.take (i + 1)) = { (s.again (l.take i)) with n := (s.again (l.take i)).n + 1, R := (s.again (l.take i)).R ++ [mkIt (s.again (l.take i)).age (s.again (l.take i)).n z] } := by rw [again_next hz, Sc.push, if_pos hv]
        exact wq_round (i + 1) (by omega) (by omega) ⟨rfl, rfl, rfl, rfl, trivial⟩ (fun w hw => by rw [e]; exact sc_shut x hx (hw.sub (by (repeat (first | exact pt_nil | apply pt0 | apply pt1 | apply pt2 | apply pt3 | apply pt4 | apply pt5 | apply pt6 | apply pt7 | apply pt8 | apply pt9 | apply pt10 | apply pt11 | apply pt12 | apply pt13 | apply pt14 | apply pt15 | apply pt16 | apply pt17)))))
    ·
      simp at hc9
      refine wc_exit ?_
      refine wq_then_exit (wq_then_exit (wq_block_exit ?_))
      refine wq_end0 rfl (fun w hw => ?_)
      obtain rfl : i = l.length := by omega
      rw [List.take_length] at hw
      exact ⟨(), trivial, rfl, hw⟩


theorem sl_some {rs : List (Str × Sl Jb)} {w : Str} (h : (mget rs w).isSome = true) : mget rs w = some (slOf rs w) := by
  unfold slOf
  cases hm : mget rs w with
  | none => rw [hm] at h; cases h
  | some l => rfl
set_option maxHeartbeats 1000000 in
theorem sfetch_c (b : Nat) (s : Sc) (wk : Str) (hq : s.Qk 0) (hwk : (mget s.rows wk).isSome = true) (hl : (s.row wk).length ≤ 1000) :
    Ctr Try.prog 51 #[ptr b, vS wk] [] [scA b s] (fun _ : Unit => True) (fun _ => .tuple #[]) (fun _ => [scA b (s.fetch wk)]) := by
  refine spec_start (n := 33) [(0, ptr b), (1, vS wk)] Try.func51 rfl rfl ⟨rfl, rfl, trivial⟩ rfl ?_
  intro w0 K hR
  refine wc_seq ?_
  refine wc_region ?_
  refine wl_y rfl (y_move rfl) ?_
  refine wl_nil ?_
  refine wq_then ?_
  refine wc_block ?_
  refine wc_loop (α := Nat) (fun y => y ≤ 3) [(0, _), (1, _)] (fun y => [(6, vI y)]) (fun y => Hp w0 K [scA b (s.tk wk y)]) (fun y => 3 - y) 0 ?_ ⟨rfl, rfl, rfl, trivial⟩ ?_ ?_
  · exact Nat.zero_le _
  · exact fun w hw => hw
  · intro i hi
    refine wc_seq ?_
    refine wc_region ?_
    refine wl_y rfl (y_lss rfl rfl) ?_
    refine wl_nil ?_
    refine wq_then ?_
    refine wc_seq ?_
    refine wc_cond rfl (fun hc7 => ?_) (fun hc7 => ?_)
    ·
      simp at hc7
      refine wc_skip ?_
      refine wq_then ?_
      refine wc_seq ?_
      refine wc_block ?_
      refine wc_seq ?_
      refine wc_region ?_
      have hlk := tk_like hq hwk i
      have hq2 := hlk.q 0 hq
      have hln := tkr_len (s := s) (w := wk) (u := wk) i
      refine wl_exS sc_open (fun x => ?_)
      obtain ⟨x, hx⟩ := x
      by_cases hR2 : (s.tk wk i).R = []
      ·
        refine wl_y rfl (y_move rfl) ?_
        refine wl_y rfl (y_nilCheck rfl) ?_
        refine wl_y rfl (y_fieldAddr F66_0 rfl) ?_
        refine wl_y rfl (y_load NA58 rfl (by first | exact cell_blk [] rfl | exact cell_blk [_] rfl | exact cell_blk [_, _] rfl | exact cell_blk [_, _, _] rfl | exact cell_blk [_, _, _, _] rfl | exact cell_blk [_, _, _, _, _] rfl | exact cell_blk [_, _, _, _, _, _] rfl | exact cell_blk [_, _, _, _, _, _, _] rfl | exact cell_blk [_, _, _, _, _, _, _, _] rfl | exact cellR_blk (by assumption) rfl)) ?_
        refine wl_c (fun _ _ => want_none) rfl (yc_spec (fst := []) (cap := []) _ FN64 (qpop_em2 x.qb (s.tk wk i).age (s.tk wk i).n (s.tk wk i).R hR2) rfl rfl rfl (by (repeat (first | exact pt_nil | apply pt0 | apply pt1 | apply pt2 | apply pt3 | apply pt4 | apply pt5 | apply pt6 | apply pt7 | apply pt8 | apply pt9 | apply pt10 | apply pt11 | apply pt12 | apply pt13 | apply pt14 | apply pt15 | apply pt16 | apply pt17))) (by (repeat (first | exact ro_nil | exact ro_rest (by assumption) | refine ro_cons (by first | exact .inl (by assumption) | exact ro_f0 (fun _ h => h) | exact ro_f0 (fun _ => slc_rsl) | exact ro_f1 (fun _ h => h) | exact ro_f1 (fun _ => slc_rsl) | exact ro_f2 (fun _ h => h) | exact ro_f2 (fun _ => slc_rsl) | exact ro_f3 (fun _ h => h) | exact ro_f3 (fun _ => slc_rsl) | exact ro_f4 (fun _ h => h) | exact ro_f4 (fun _ => slc_rsl) | exact ro_f5 (fun _ h => h) | exact ro_f5 (fun _ => slc_rsl) | exact ro_f6 (fun _ h => h) | exact ro_f6 (fun _ => slc_rsl)) ?_)))) (wl_ex fun x13 hx13 => ?_)
        refine wl_y rfl (y_move rfl) ?_
        refine wl_y rfl (y_extract rfl rfl) ?_
        refine wl_y rfl (y_extract rfl rfl) ?_
        refine wl_w (fun _ _ => want_none) rfl (yw_alloc T30 rfl) (wl_ex fun b4 _ => ?_)
        first | refine wl_u (yu_storeAgg [] (l' := [_, _, _]) T30 rfl rfl rfl (by simp [Value.oneCell', encJ]) rfl rfl) ?_ | refine wl_u (yu_storeAgg [_] (l' := [_, _, _]) T30 rfl rfl rfl (by simp [Value.oneCell', encJ]) rfl rfl) ?_ | refine wl_u (yu_storeAgg [_, _] (l' := [_, _, _]) T30 rfl rfl rfl (by simp [Value.oneCell', encJ]) rfl rfl) ?_ | refine wl_u (yu_storeAgg [_, _, _] (l' := [_, _, _]) T30 rfl rfl rfl (by simp [Value.oneCell', encJ]) rfl rfl) ?_ | refine wl_u (yu_storeAgg [_, _, _, _] (l' := [_, _, _]) T30 rfl rfl rfl (by simp [Value.oneCell', encJ]) rfl rfl) ?_ | refine wl_u (yu_storeAgg [_, _, _, _, _] (l' := [_, _, _]) T30 rfl rfl rfl (by simp [Value.oneCell', encJ]) rfl rfl) ?_ | refine wl_u (yu_storeAgg [_, _, _, _, _, _] (l' := [_, _, _]) T30 rfl rfl rfl (by simp [Value.oneCell', encJ]) rfl rfl) ?_ | refine wl_u (yu_storeAgg [_, _, _, _, _, _, _] (l' := [_, _, _]) T30 rfl rfl rfl (by simp [Value.oneCell', encJ]) rfl rfl) ?_ | refine wl_u (yu_storeAgg [_, _, _, _, _, _, _, _] (l' := [_, _, _]) T30 rfl rfl rfl (by simp [Value.oneCell', encJ]) rfl rfl) ?_
        refine wl_y rfl (y_assign rfl) ?_
        refine wl_nil ?_
        refine wq_then ?_
        refine wc_seq ?_
        refine wc_seq ?_
        refine wc_region ?_
        refine wl_y rfl (y_move rfl) ?_
        refine wl_y rfl (y_not rfl) ?_
        skip
        refine wl_nil ?_
        refine wq_then ?_
        refine wc_known 17 true rfl (rfl) ?_
        refine wc_cond_true rfl ?_
        refine wc_ret ?_
        refine wq_then_ret (wq_block_ret (wq_then_ret (wq_then_ret (wq_block_ret ?_))))
        refine wq_ret0 rfl (fun w hw => ?_)
        have e : s.fetch wk = s.tk wk i := by rw [← tk_fetch, show (3 : Nat) = i + (3 - i) by omega, tk_stop hR2]
        rw [e]; exact ⟨(), trivial, rfl, sc_shut x hx (hw.sub (by (repeat (first | exact pt_nil | apply pt0 | apply pt1 | apply pt2 | apply pt3 | apply pt4 | apply pt5 | apply pt6 | apply pt7 | apply pt8 | apply pt9 | apply pt10 | apply pt11 | apply pt12 | apply pt13 | apply pt14 | apply pt15 | apply pt16 | apply pt17))))⟩
      ·
        refine wl_y rfl (y_move rfl) ?_
        refine wl_y rfl (y_nilCheck rfl) ?_
        refine wl_y rfl (y_fieldAddr F66_0 rfl) ?_
        refine wl_y rfl (y_load NA58 rfl (by first | exact cell_blk [] rfl | exact cell_blk [_] rfl | exact cell_blk [_, _] rfl | exact cell_blk [_, _, _] rfl | exact cell_blk [_, _, _, _] rfl | exact cell_blk [_, _, _, _, _] rfl | exact cell_blk [_, _, _, _, _, _] rfl | exact cell_blk [_, _, _, _, _, _, _] rfl | exact cell_blk [_, _, _, _, _, _, _, _] rfl | exact cellR_blk (by assumption) rfl)) ?_
        refine wl_c (fun _ _ => want_none) rfl (yc_spec (fst := []) (cap := []) _ FN64 (qpop_ok x.qb (s.tk wk i).age (s.tk wk i).n (s.tk wk i).R hR2 (by have := hq2.rl; omega) hq2.q.dist) rfl rfl rfl (by (repeat (first | exact pt_nil | apply pt0 | apply pt1 | apply pt2 | apply pt3 | apply pt4 | apply pt5 | apply pt6 | apply pt7 | apply pt8 | apply pt9 | apply pt10 | apply pt11 | apply pt12 | apply pt13 | apply pt14 | apply pt15 | apply pt16 | apply pt17))) (by (repeat (first | exact ro_nil | exact ro_rest (by assumption) | refine ro_cons (by first | exact .inl (by assumption) | exact ro_f0 (fun _ h => h) | exact ro_f0 (fun _ => slc_rsl) | exact ro_f1 (fun _ h => h) | exact ro_f1 (fun _ => slc_rsl) | exact ro_f2 (fun _ h => h) | exact ro_f2 (fun _ => slc_rsl) | exact ro_f3 (fun _ h => h) | exact ro_f3 (fun _ => slc_rsl) | exact ro_f4 (fun _ h => h) | exact ro_f4 (fun _ => slc_rsl) | exact ro_f5 (fun _ h => h) | exact ro_f5 (fun _ => slc_rsl) | exact ro_f6 (fun _ h => h) | exact ro_f6 (fun _ => slc_rsl)) ?_)))) (wl_ex fun x13 hx13 => ?_)
        have hmin := the_min hx13 hq2.q.dist
        refine wl_y rfl (y_move rfl) ?_
        refine wl_y rfl (y_extract rfl rfl) ?_
        refine wl_y rfl (y_extract rfl rfl) ?_
        refine wl_w (fun _ _ => want_none) rfl (yw_alloc T30 rfl) (wl_ex fun b4 _ => ?_)
        first | refine wl_u (yu_storeAgg [] (l' := [_, _, _]) T30 rfl rfl rfl (by simp [Value.oneCell', encJ]) rfl rfl) ?_ | refine wl_u (yu_storeAgg [_] (l' := [_, _, _]) T30 rfl rfl rfl (by simp [Value.oneCell', encJ]) rfl rfl) ?_ | refine wl_u (yu_storeAgg [_, _] (l' := [_, _, _]) T30 rfl rfl rfl (by simp [Value.oneCell', encJ]) rfl rfl) ?_ | refine wl_u (yu_storeAgg [_, _, _] (l' := [_, _, _]) T30 rfl rfl rfl (by simp [Value.oneCell', encJ]) rfl rfl) ?_ | refine wl_u (yu_storeAgg [_, _, _, _] (l' := [_, _, _]) T30 rfl rfl rfl (by simp [Value.oneCell', encJ]) rfl rfl) ?_ | refine wl_u (yu_storeAgg [_, _, _, _, _] (l' := [_, _, _]) T30 rfl rfl rfl (by simp [Value.oneCell', encJ]) rfl rfl) ?_ | refine wl_u (yu_storeAgg [_, _, _, _, _, _] (l' := [_, _, _]) T30 rfl rfl rfl (by simp [Value.oneCell', encJ]) rfl rfl) ?_ | refine wl_u (yu_storeAgg [_, _, _, _, _, _, _] (l' := [_, _, _]) T30 rfl rfl rfl (by simp [Value.oneCell', encJ]) rfl rfl) ?_ | refine wl_u (yu_storeAgg [_, _, _, _, _, _, _, _] (l' := [_, _, _]) T30 rfl rfl rfl (by simp [Value.oneCell', encJ]) rfl rfl) ?_
        refine wl_y rfl (y_assign rfl) ?_
        refine wl_nil ?_
        refine wq_then ?_
        refine wc_seq ?_
        refine wc_seq ?_
        refine wc_region ?_
        refine wl_y rfl (y_move rfl) ?_
        refine wl_y rfl (y_not rfl) ?_
        have hsm : (mget x.rs wk).isSome = true := by rw [rs_has hx]; exact hlk.has.2 hwk
        have hsl := slOf_xs hx wk
        have hsl2 : (slOf x.rs wk).xs.length ≤ 1003 := by rw [hsl]; omega
        refine wl_world (S' := Hp w0 K [blk b (.cells #[ptr x.qb, ptr x.tb, .map (some x.rm), .map (some x.tm)] 66 (0, 0)), qA x.qb (s.tk wk i).age (s.tk wk i).n (rest (s.tk wk i).R x13), tbA x.tb (s.tk wk i).t, mapA vS vJs x.rm x.rs, slc 30 3 (slOf x.rs wk).a (slOf x.rs wk).xs.length (slOf x.rs wk).cap ((slOf x.rs wk).xs.flatMap encJ), rowsA (mdel x.rs wk), mapA vS vB x.tm (s.tk wk i).th, blk b4 (.cells (encJ x13.v).toArray 30 (0, 0))]) (fun w hw => (rows_out (sl_some hsm) (hw.sub (by (repeat (first | exact pt_nil | apply pt0 | apply pt1 | apply pt2 | apply pt3 | apply pt4 | apply pt5 | apply pt6 | apply pt7 | apply pt8 | apply pt9 | apply pt10 | apply pt11 | apply pt12 | apply pt13 | apply pt14 | apply pt15 | apply pt16 | apply pt17))) : Hp w0 K [rowsA x.rs, blk b (.cells #[ptr x.qb, ptr x.tb, .map (some x.rm), .map (some x.tm)] 66 (0, 0)), qA x.qb (s.tk wk i).age (s.tk wk i).n (rest (s.tk wk i).R x13), tbA x.tb (s.tk wk i).t, mapA vS vJs x.rm x.rs, mapA vS vB x.tm (s.tk wk i).th, blk b4 (.cells (encJ x13.v).toArray 30 (0, 0))] w)).sub (by (repeat (first | exact pt_nil | apply pt0 | apply pt1 | apply pt2 | apply pt3 | apply pt4 | apply pt5 | apply pt6 | apply pt7 | apply pt8 | apply pt9 | apply pt10 | apply pt11 | apply pt12 | apply pt13 | apply pt14 | apply pt15 | apply pt16 | apply pt17)))) ?_
        refine wl_nil ?_
        refine wq_then ?_
        refine wc_known 17 false rfl (rfl) ?_
        refine wc_cond_false rfl ?_
        refine wc_skip ?_
        refine wq_then ?_
        refine wc_mix (.q 0 0 (.q 1 0 (.q 2 0 (.q 3 0 (.q 4 0 (.q 5 0 (.q 6 0 (.q 7 0 (.q 8 0 (.q 9 0 (.q 10 0 (.q 11 1 (.w 12 2 (.w 13 2 (.w 14 3 .nil .nil) .nil) .nil))))))))))))) (Sees [blk b (.cells #[ptr x.qb, ptr x.tb, .map (some x.rm), .map (some x.tm)] 66 (0, 0)), mapA vS vJs x.rm x.rs]) MO (by kernel_rfl) (Hp.drawless _ _ _) (fun w hw => by refine ⟨?_, ?_, trivial⟩ <;> first | exact hw.seen [] | exact hw.seen [_] | exact hw.seen [_, _] | exact hw.seen [_, _, _] | exact hw.seen [_, _, _, _] | exact hw.seen [_, _, _, _, _] | exact hw.seen [_, _, _, _, _, _] | exact hw.seen [_, _, _, _, _, _, _] | exact hw.seen [_, _, _, _, _, _, _, _]) ?_
        refine wm_g rfl rfl (y_move rfl) ?_
        refine wm_g rfl rfl (y_nilCheck rfl) ?_
        refine wm_g rfl rfl (y_fieldAddr F66_2 rfl) ?_
        refine wm_g rfl rfl (y_load NA64 rfl (fun w hw => by first | exact cell_of_heap hw.1.blk rfl | exact cell_of_heap hw.2.1.blk rfl)) ?_
        refine wm_g rfl rfl (y_move rfl) ?_
        refine wm_g rfl rfl (y_move rfl) ?_
        refine wm_g rfl rfl (y_nilCheck rfl) ?_
        refine wm_g rfl rfl (y_fieldAddr F66_2 rfl) ?_
        refine wm_g rfl rfl (y_load NA64 rfl (fun w hw => by first | exact cell_of_heap hw.1.blk rfl | exact cell_of_heap hw.2.1.blk rfl)) ?_
        refine wm_g rfl rfl (y_move rfl) ?_
        refine wm_g rfl rfl (y_lookup Try.underlying64 (keyE_str Try.underlying9) T49 rfl rfl (by first | exact fun w hw => hw.1 | exact fun w hw => hw.2.1)) ?_
        refine wm_same 28 (vJs (slOf x.rs wk)) rfl (look_sl _ _) ?_
        refine wm_l rfl rfl (y_loadAgg (l := [_, _, _]) AG30 rfl rfl (by first | exact cells_blk [] rfl | exact cells_blk [_] rfl | exact cells_blk [_, _] rfl | exact cells_blk [_, _, _] rfl | exact cells_blk [_, _, _, _] rfl | exact cells_blk [_, _, _, _, _] rfl | exact cells_blk [_, _, _, _, _, _] rfl | exact cells_blk [_, _, _, _, _, _, _] rfl | exact cells_blk [_, _, _, _, _, _, _, _] rfl | exact cellsR_blk (by assumption) rfl)) ?_
        refine wm_w rfl rfl ?hC (yw_buildSlice (cs := encJ x13.v) Try.underlying49 T30 rfl rfl rfl rfl rfl rfl rfl) (wm_ex fun b30 _ => ?_)
        case hC => exact (fun _ _ h => by obtain ⟨_, _, _, hw⟩ := h; exact (by refine ⟨?_, ?_, trivial⟩ <;> first | exact hw.seen [] | exact hw.seen [_] | exact hw.seen [_, _] | exact hw.seen [_, _, _] | exact hw.seen [_, _, _, _] | exact hw.seen [_, _, _, _, _] | exact hw.seen [_, _, _, _, _, _] | exact hw.seen [_, _, _, _, _, _, _] | exact hw.seen [_, _, _, _, _, _, _, _]))
        first | refine wm_w rfl rfl ?hC (yw_append (m := 1) [_] (cs := (slOf x.rs wk).xs.flatMap encJ) (news := encJ x13.v) Try.underlying49 Try.underlying49 (.inl ⟨_, rfl⟩) T30 rfl rfl rfl (fun w hw => Src.slice ((hw.seen []).mono fun _ => slc_rsl)) (by omega) (by unfold maxLen; omega) (by simp [Value.oneCell', encJ]) rfl) (wm_ex fun p31 hp31 => ?_) | refine wm_w rfl rfl ?hC (yw_append (m := 1) [_, _] (cs := (slOf x.rs wk).xs.flatMap encJ) (news := encJ x13.v) Try.underlying49 Try.underlying49 (.inl ⟨_, rfl⟩) T30 rfl rfl rfl (fun w hw => Src.slice ((hw.seen []).mono fun _ => slc_rsl)) (by omega) (by unfold maxLen; omega) (by simp [Value.oneCell', encJ]) rfl) (wm_ex fun p31 hp31 => ?_) | refine wm_w rfl rfl ?hC (yw_append (m := 1) [_, _, _] (cs := (slOf x.rs wk).xs.flatMap encJ) (news := encJ x13.v) Try.underlying49 Try.underlying49 (.inl ⟨_, rfl⟩) T30 rfl rfl rfl (fun w hw => Src.slice ((hw.seen []).mono fun _ => slc_rsl)) (by omega) (by unfold maxLen; omega) (by simp [Value.oneCell', encJ]) rfl) (wm_ex fun p31 hp31 => ?_) | refine wm_w rfl rfl ?hC (yw_append (m := 1) [_, _, _, _] (cs := (slOf x.rs wk).xs.flatMap encJ) (news := encJ x13.v) Try.underlying49 Try.underlying49 (.inl ⟨_, rfl⟩) T30 rfl rfl rfl (fun w hw => Src.slice ((hw.seen []).mono fun _ => slc_rsl)) (by omega) (by unfold maxLen; omega) (by simp [Value.oneCell', encJ]) rfl) (wm_ex fun p31 hp31 => ?_) | refine wm_w rfl rfl ?hC (yw_append (m := 1) [_, _, _, _, _] (cs := (slOf x.rs wk).xs.flatMap encJ) (news := encJ x13.v) Try.underlying49 Try.underlying49 (.inl ⟨_, rfl⟩) T30 rfl rfl rfl (fun w hw => Src.slice ((hw.seen []).mono fun _ => slc_rsl)) (by omega) (by unfold maxLen; omega) (by simp [Value.oneCell', encJ]) rfl) (wm_ex fun p31 hp31 => ?_) | refine wm_w rfl rfl ?hC (yw_append (m := 1) [_, _, _, _, _, _] (cs := (slOf x.rs wk).xs.flatMap encJ) (news := encJ x13.v) Try.underlying49 Try.underlying49 (.inl ⟨_, rfl⟩) T30 rfl rfl rfl (fun w hw => Src.slice ((hw.seen []).mono fun _ => slc_rsl)) (by omega) (by unfold maxLen; omega) (by simp [Value.oneCell', encJ]) rfl) (wm_ex fun p31 hp31 => ?_) | refine wm_w rfl rfl ?hC (yw_append (m := 1) [_, _, _, _, _, _, _] (cs := (slOf x.rs wk).xs.flatMap encJ) (news := encJ x13.v) Try.underlying49 Try.underlying49 (.inl ⟨_, rfl⟩) T30 rfl rfl rfl (fun w hw => Src.slice ((hw.seen []).mono fun _ => slc_rsl)) (by omega) (by unfold maxLen; omega) (by simp [Value.oneCell', encJ]) rfl) (wm_ex fun p31 hp31 => ?_) | refine wm_w rfl rfl ?hC (yw_append (m := 1) [_, _, _, _, _, _, _, _] (cs := (slOf x.rs wk).xs.flatMap encJ) (news := encJ x13.v) Try.underlying49 Try.underlying49 (.inl ⟨_, rfl⟩) T30 rfl rfl rfl (fun w hw => Src.slice ((hw.seen []).mono fun _ => slc_rsl)) (by omega) (by unfold maxLen; omega) (by simp [Value.oneCell', encJ]) rfl) (wm_ex fun p31 hp31 => ?_)
        case hC => exact (fun _ _ h => by obtain ⟨_, _, _, hw⟩ := h; exact (by refine ⟨?_, ?_, trivial⟩ <;> first | exact hw.seen [] | exact hw.seen [_] | exact hw.seen [_, _] | exact hw.seen [_, _, _] | exact hw.seen [_, _, _, _] | exact hw.seen [_, _, _, _, _] | exact hw.seen [_, _, _, _, _, _] | exact hw.seen [_, _, _, _, _, _, _] | exact hw.seen [_, _, _, _, _, _, _, _]))
        refine wm_same 31 (vJs ⟨p31.1, p31.2, (slOf x.rs wk).xs ++ [x13.v]⟩) rfl (by simp) ?_
        first | refine wm_u3 rfl (yu_mapUpdate [] (v := (⟨p31.1, p31.2, (slOf x.rs wk).xs ++ [x13.v]⟩ : Sl Jb)) Try.underlying64 (keyE_str Try.underlying9) rfl rfl rfl) ?_ | refine wm_u3 rfl (yu_mapUpdate [_] (v := (⟨p31.1, p31.2, (slOf x.rs wk).xs ++ [x13.v]⟩ : Sl Jb)) Try.underlying64 (keyE_str Try.underlying9) rfl rfl rfl) ?_ | refine wm_u3 rfl (yu_mapUpdate [_, _] (v := (⟨p31.1, p31.2, (slOf x.rs wk).xs ++ [x13.v]⟩ : Sl Jb)) Try.underlying64 (keyE_str Try.underlying9) rfl rfl rfl) ?_ | refine wm_u3 rfl (yu_mapUpdate [_, _, _] (v := (⟨p31.1, p31.2, (slOf x.rs wk).xs ++ [x13.v]⟩ : Sl Jb)) Try.underlying64 (keyE_str Try.underlying9) rfl rfl rfl) ?_ | refine wm_u3 rfl (yu_mapUpdate [_, _, _, _] (v := (⟨p31.1, p31.2, (slOf x.rs wk).xs ++ [x13.v]⟩ : Sl Jb)) Try.underlying64 (keyE_str Try.underlying9) rfl rfl rfl) ?_ | refine wm_u3 rfl (yu_mapUpdate [_, _, _, _, _] (v := (⟨p31.1, p31.2, (slOf x.rs wk).xs ++ [x13.v]⟩ : Sl Jb)) Try.underlying64 (keyE_str Try.underlying9) rfl rfl rfl) ?_ | refine wm_u3 rfl (yu_mapUpdate [_, _, _, _, _, _] (v := (⟨p31.1, p31.2, (slOf x.rs wk).xs ++ [x13.v]⟩ : Sl Jb)) Try.underlying64 (keyE_str Try.underlying9) rfl rfl rfl) ?_ | refine wm_u3 rfl (yu_mapUpdate [_, _, _, _, _, _, _] (v := (⟨p31.1, p31.2, (slOf x.rs wk).xs ++ [x13.v]⟩ : Sl Jb)) Try.underlying64 (keyE_str Try.underlying9) rfl rfl rfl) ?_ | refine wm_u3 rfl (yu_mapUpdate [_, _, _, _, _, _, _, _] (v := (⟨p31.1, p31.2, (slOf x.rs wk).xs ++ [x13.v]⟩ : Sl Jb)) Try.underlying64 (keyE_str Try.underlying9) rfl rfl rfl) ?_
        refine wm_nil ?_
        refine all_wq ?_
        refine wq_block_normal ?_
        refine wq_then ?_
        refine wc_region ?_
        refine wl_y rfl (y_add rfl rfl (by omega)) ?_
        refine wl_y rfl (y_move rfl) ?_
        refine wl_nil ?_
        have e : s.tk wk (i + 1) = { (s.tk wk i) with R := rest (s.tk wk i).R x13, rows := mput (s.tk wk i).rows wk ((s.tk wk i).row wk ++ [x13.v]) } := by show (s.tk wk i).take1 wk = _; rw [take1_some hR2, hmin]
        exact wq_round (i + 1) (by omega) (by omega) ⟨rfl, rfl, rfl, trivial⟩ (fun w hw => by
          rw [e]
          refine sc_shut ⟨x.qb, x.tb, x.rm, x.tm, mput x.rs wk ⟨p31.1, p31.2, (slOf x.rs wk).xs ++ [x13.v]⟩⟩ (by rw [mput_val, hx, hsl]) ?_
          have h9 : Hp w0 K (slc 30 3 p31.1 ((slOf x.rs wk).xs.length + 1) p31.2 ((slOf x.rs wk).xs.flatMap encJ ++ encJ x13.v) :: [rowsA (mdel x.rs wk), blk b (.cells #[ptr x.qb, ptr x.tb, .map (some x.rm), .map (some x.tm)] 66 (0, 0)), qA x.qb (s.tk wk i).age (s.tk wk i).n (rest (s.tk wk i).R x13), tbA x.tb (s.tk wk i).t, mapA vS vJs x.rm (mput x.rs wk ⟨p31.1, p31.2, (slOf x.rs wk).xs ++ [x13.v]⟩), mapA vS vB x.tm (s.tk wk i).th]) w := hw.sub (by (repeat (first | exact pt_nil | apply pt0 | apply pt1 | apply pt2 | apply pt3 | apply pt4 | apply pt5 | apply pt6 | apply pt7 | apply pt8 | apply pt9 | apply pt10 | apply pt11 | apply pt12 | apply pt13 | apply pt14 | apply pt15 | apply pt16 | apply pt17)))
          exact (rows_in (k := wk) (s := ⟨p31.1, p31.2, (slOf x.rs wk).xs ++ [x13.v]⟩) (Hp.mono_at [] h9 (fun g hg => by simp only [rowA, List.length_append, List.length_singleton, List.flatMap_append, List.flatMap_singleton]; exact hg))).sub (by (repeat (first | exact pt_nil | apply pt0 | apply pt1 | apply pt2 | apply pt3 | apply pt4 | apply pt5 | apply pt6 | apply pt7 | apply pt8 | apply pt9 | apply pt10 | apply pt11 | apply pt12 | apply pt13 | apply pt14 | apply pt15 | apply pt16 | apply pt17))))
    ·
      simp at hc7
      refine wc_exit ?_
      refine wq_then_exit (wq_then_exit (wq_block_exit ?_))
      refine wq_end0 rfl (fun w hw => ?_)
      obtain rfl : i = 3 := by omega
      exact ⟨(), trivial, rfl, hw⟩

end Go.Proofs.Ytfnpjmlpiedgdaa
