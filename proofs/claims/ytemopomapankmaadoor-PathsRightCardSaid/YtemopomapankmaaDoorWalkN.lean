/-
  Walks: files with one more.
-/
import Derived.Test.YtemopomapankmaaDoorWithLaw
namespace Go.Proofs.YtemopomapankmaaDoor
open Go.Eng

set_option maxHeartbeats 1000000 in
theorem with_c (l : List Fl) (oo : Option Addr) (cc : Nat) (f : Fl) (hl : l.length ≤ 1000000) (hs : ∀ x ∈ l, x.1.length ≤ 9223372036854775806) (hf : f.1.length ≤ 9223372036854775806) :
    Ctr Tryd.prog 19 #[.slice oo l.length cc, agF f] [rsl oo l.length 2 (l.flatMap encF)] [] (fun _ : Option Addr × Nat => True) (fun r => .tuple #[.slice r.1 (withF l f).2.length r.2, vI (withF l f).1]) (fun r => [slc 24 2 r.1 ((withF l f).2).length r.2 (((withF l f).2).flatMap encF)]) := by
  refine spec_start (n := 51) [(0, .slice oo l.length cc), (1, agF f)] Tryd.func19 rfl rfl ⟨rfl, rfl, trivial⟩ rfl ?_
  intro w0 K hR
  have hA := hR _ (List.mem_cons_self ..)
  refine wc_seq ?_
  refine wc_region ?_
  refine wl_w (fun _ _ => want_none) rfl (yw_box rfl rfl) (wl_ex fun b3 _ => ?_)
  refine wl_y rfl (y_assign rfl) ?_
  refine wl_y rfl (y_assign rfl) ?_
  refine wl_nil ?_
  refine wq_then ?_
  refine wc_seq ?_
  refine wc_block ?_
  refine wc_seq ?_
  refine wc_region ?_
  refine wl_y rfl (y_fieldAddr F24_0 rfl) ?_
  refine wl_y rfl (y_load NA9 rfl (by first | exact cell_blk [] rfl | exact cell_blk [_] rfl | exact cell_blk [_, _] rfl | exact cell_blk [_, _, _] rfl | exact cellR_blk (by assumption) rfl)) ?_
  refine wl_q (fun _ _ => want_none) rfl (yq_spec (fst := []) (cap := []) _ FN22 (path_c f.1) rfl rfl rfl (by (repeat (first | exact pt_nil | apply pt0 | apply pt1 | apply pt2 | apply pt3 | apply pt4 | apply pt5 | apply pt6 | apply pt7 | apply pt8 | apply pt9 | apply pt10 | apply pt11 | apply pt12 | apply pt13 | apply pt14 | apply pt15 | apply pt16 | apply pt17))) (by (repeat (first | exact ro_nil | exact ro_rest (by assumption) | refine ro_cons (by first | exact .inl (by assumption) | exact ro_f0 (fun _ h => h) | exact ro_f0 (fun _ => slc_rsl) | exact ro_f1 (fun _ h => h) | exact ro_f1 (fun _ => slc_rsl) | exact ro_f2 (fun _ h => h) | exact ro_f2 (fun _ => slc_rsl) | exact ro_f3 (fun _ h => h) | exact ro_f3 (fun _ => slc_rsl) | exact ro_f4 (fun _ h => h) | exact ro_f4 (fun _ => slc_rsl) | exact ro_f5 (fun _ h => h) | exact ro_f5 (fun _ => slc_rsl) | exact ro_f6 (fun _ h => h) | exact ro_f6 (fun _ => slc_rsl)) ?_))) (fun _ _ => rfl) (fun _ _ _ h => h.sub (by (repeat (first | exact pt_nil | apply pt0 | apply pt1 | apply pt2 | apply pt3 | apply pt4 | apply pt5 | apply pt6 | apply pt7 | apply pt8 | apply pt9 | apply pt10 | apply pt11 | apply pt12 | apply pt13 | apply pt14 | apply pt15 | apply pt16 | apply pt17))))) ?_
  refine wl_y rfl (y_neqI rfl rfl) ?_
  refine wl_y rfl (y_assign rfl) ?_
  refine wl_nil ?_
  refine wq_then ?_
  refine wc_cond rfl (fun hc9 => ?_) (fun hc9 => ?_)
  ·
    simp at hc9
    obtain ⟨hp1, hp2⟩ := pathE_ne hc9
    refine wc_seq ?_
    refine wc_region ?_
    refine wl_y rfl (y_assign rfl) ?_
    refine wl_y rfl (y_assign rfl) ?_
    refine wl_nil ?_
    refine wq_then ?_
    refine wc_ret ?_
    refine wq_block_ret (wq_then_ret ?_)
    refine wq_ret2 rfl rfl rfl (fun w hw => ?_)
    exact ⟨(none, 0), trivial, by simp only [withF_1 hp1]; rfl, by simp only [withF_1 hp1]; exact Hp.addNil [] [] (hw.bare)⟩
  ·
    simp at hc9
    have hok := pathE_eq hc9
    refine wc_seq ?_
    refine wc_region ?_
    refine wl_y rfl (y_fieldAddr F24_1 rfl) ?_
    refine wl_y rfl (y_load NA9 rfl (by first | exact cell_blk [] rfl | exact cell_blk [_] rfl | exact cell_blk [_, _] rfl | exact cell_blk [_, _, _] rfl | exact cellR_blk (by assumption) rfl)) ?_
    refine wl_y rfl (y_lenS Tryd.underlying9 rfl) ?_
    refine wl_y rfl (y_gtr rfl rfl) ?_
    refine wl_y rfl (y_assign rfl) ?_
    refine wl_nil ?_
    refine wq_then ?_
    refine wc_cond rfl (fun hc14 => ?_) (fun hc14 => ?_)
    ·
      replace hc14 := of_decide_eq_true hc14
      refine wc_seq ?_
      refine wc_region ?_
      refine wl_y rfl (y_assign rfl) ?_
      refine wl_y rfl (y_assign rfl) ?_
      refine wl_nil ?_
      refine wq_then ?_
      refine wc_ret ?_
      refine wq_block_ret (wq_then_ret ?_)
      refine wq_ret2 rfl rfl rfl (fun w hw => ?_)
      exact ⟨(none, 0), trivial, by simp only [withF_2 hok hc14]; rfl, by simp only [withF_2 hok hc14]; exact Hp.addNil [] [] (hw.bare)⟩
    ·
      replace hc14 := of_decide_eq_false hc14
      refine wc_seq ?_
      refine wc_region ?_
      refine wl_y rfl (y_move rfl) ?_
      refine wl_y rfl (y_makeFunc rfl rfl) ?_
      refine wl_q (fun _ _ => want_none) rfl (yq_spec (fst := []) (cap := []) _ FN38 (containsFunc_c l oo cc 39 [ptr b3] (fun x => clash f.1 x.1) [blk b3 (.cells (encF f).toArray 24 (0, 0))] FN39 (fun x hx => withClash_c f x b3 hf (hs x hx)) (by omega)) rfl rfl rfl (by (repeat (first | exact pt_nil | apply pt0 | apply pt1 | apply pt2 | apply pt3 | apply pt4 | apply pt5 | apply pt6 | apply pt7 | apply pt8 | apply pt9 | apply pt10 | apply pt11 | apply pt12 | apply pt13 | apply pt14 | apply pt15 | apply pt16 | apply pt17))) (by (repeat (first | exact ro_nil | exact ro_rest (by assumption) | refine ro_cons (by first | exact .inl (by assumption) | exact ro_f0 (fun _ h => h) | exact ro_f0 (fun _ => slc_rsl) | exact ro_f1 (fun _ h => h) | exact ro_f1 (fun _ => slc_rsl) | exact ro_f2 (fun _ h => h) | exact ro_f2 (fun _ => slc_rsl) | exact ro_f3 (fun _ h => h) | exact ro_f3 (fun _ => slc_rsl) | exact ro_f4 (fun _ h => h) | exact ro_f4 (fun _ => slc_rsl) | exact ro_f5 (fun _ h => h) | exact ro_f5 (fun _ => slc_rsl) | exact ro_f6 (fun _ h => h) | exact ro_f6 (fun _ => slc_rsl)) ?_))) (fun _ _ => rfl) (fun _ _ _ h => h.sub (by (repeat (first | exact pt_nil | apply pt0 | apply pt1 | apply pt2 | apply pt3 | apply pt4 | apply pt5 | apply pt6 | apply pt7 | apply pt8 | apply pt9 | apply pt10 | apply pt11 | apply pt12 | apply pt13 | apply pt14 | apply pt15 | apply pt16 | apply pt17))))) ?_
      refine wl_y rfl (y_assign rfl) ?_
      refine wl_nil ?_
      refine wq_then ?_
      refine wc_cond rfl (fun hc19 => ?_) (fun hc19 => ?_)
      ·
        refine wc_seq ?_
        refine wc_region ?_
        refine wl_y rfl (y_assign rfl) ?_
        refine wl_y rfl (y_assign rfl) ?_
        refine wl_nil ?_
        refine wq_then ?_
        refine wc_ret ?_
        refine wq_block_ret (wq_then_ret ?_)
        refine wq_ret2 rfl rfl rfl (fun w hw => ?_)
        exact ⟨(none, 0), trivial, by simp only [withF_3 hok hc14 hc19]; rfl, by simp only [withF_3 hok hc14 hc19]; exact Hp.addNil [] [] (hw.bare)⟩
      ·
        refine wc_skip ?_
        refine wq_block_normal ?_
        refine wq_then ?_
        refine wc_seq ?_
        refine wc_region ?_
        refine wl_y rfl (y_move rfl) ?_
        refine wl_c (fun _ _ => want_none) rfl (yc_spec (fst := []) (cap := []) _ FN41 (clone_c l oo cc (by omega)) rfl rfl rfl (by (repeat (first | exact pt_nil | apply pt0 | apply pt1 | apply pt2 | apply pt3 | apply pt4 | apply pt5 | apply pt6 | apply pt7 | apply pt8 | apply pt9 | apply pt10 | apply pt11 | apply pt12 | apply pt13 | apply pt14 | apply pt15 | apply pt16 | apply pt17))) (by (repeat (first | exact ro_nil | exact ro_rest (by assumption) | refine ro_cons (by first | exact .inl (by assumption) | exact ro_f0 (fun _ h => h) | exact ro_f0 (fun _ => slc_rsl) | exact ro_f1 (fun _ h => h) | exact ro_f1 (fun _ => slc_rsl) | exact ro_f2 (fun _ h => h) | exact ro_f2 (fun _ => slc_rsl) | exact ro_f3 (fun _ h => h) | exact ro_f3 (fun _ => slc_rsl) | exact ro_f4 (fun _ h => h) | exact ro_f4 (fun _ => slc_rsl) | exact ro_f5 (fun _ h => h) | exact ro_f5 (fun _ => slc_rsl) | exact ro_f6 (fun _ h => h) | exact ro_f6 (fun _ => slc_rsl)) ?_)))) (wl_ex fun x24 hx24 => ?_)
        refine wl_y rfl (y_assign rfl) ?_
        refine wl_nil ?_
        refine wq_then ?_
        refine wc_seq (wc_cut (α := Option Addr × Nat) (fun r => True) [] (fun r => [(6, .slice r.1 (putF l f).length r.2)]) (fun r => Hp w0 K [blk b3 (.cells (encF f).toArray 24 (0, 0)), slc 24 2 r.1 (putF l f).length r.2 ((putF l f).flatMap encF)]) trivial ?_ ?_)
        ·
          refine wc_seq ?_
          refine wc_region ?_
          refine wl_y rfl (y_move rfl) ?_
          refine wl_y rfl (y_fieldAddr F24_0 rfl) ?_
          refine wl_y rfl (y_load NA9 rfl (by first | exact cell_blk [] rfl | exact cell_blk [_] rfl | exact cell_blk [_, _] rfl | exact cell_blk [_, _, _] rfl | exact cellR_blk (by assumption) rfl)) ?_
          refine wl_q (fun _ _ => want_none) rfl (yq_spec (fst := []) (cap := []) _ FN42 (find_c l oo cc f.1 (by omega)) rfl rfl rfl (by (repeat (first | exact pt_nil | apply pt0 | apply pt1 | apply pt2 | apply pt3 | apply pt4 | apply pt5 | apply pt6 | apply pt7 | apply pt8 | apply pt9 | apply pt10 | apply pt11 | apply pt12 | apply pt13 | apply pt14 | apply pt15 | apply pt16 | apply pt17))) (by (repeat (first | exact ro_nil | exact ro_rest (by assumption) | refine ro_cons (by first | exact .inl (by assumption) | exact ro_f0 (fun _ h => h) | exact ro_f0 (fun _ => slc_rsl) | exact ro_f1 (fun _ h => h) | exact ro_f1 (fun _ => slc_rsl) | exact ro_f2 (fun _ h => h) | exact ro_f2 (fun _ => slc_rsl) | exact ro_f3 (fun _ h => h) | exact ro_f3 (fun _ => slc_rsl) | exact ro_f4 (fun _ h => h) | exact ro_f4 (fun _ => slc_rsl) | exact ro_f5 (fun _ h => h) | exact ro_f5 (fun _ => slc_rsl) | exact ro_f6 (fun _ h => h) | exact ro_f6 (fun _ => slc_rsl)) ?_))) (fun _ _ => rfl) (fun _ _ _ h => h.sub (by (repeat (first | exact pt_nil | apply pt0 | apply pt1 | apply pt2 | apply pt3 | apply pt4 | apply pt5 | apply pt6 | apply pt7 | apply pt8 | apply pt9 | apply pt10 | apply pt11 | apply pt12 | apply pt13 | apply pt14 | apply pt15 | apply pt16 | apply pt17))))) ?_
          refine wl_y rfl (y_assign rfl) ?_
          refine wl_nil ?_
          refine wq_then ?_
          refine wc_seq ?_
          refine wc_region ?_
          refine wl_y rfl (y_move rfl) ?_
          refine wl_y rfl (y_geq rfl rfl) ?_
          refine wl_nil ?_
          refine wq_then ?_
          refine wc_cond rfl (fun hc30 => ?_) (fun hc30 => ?_)
          ·
            simp at hc30
            obtain ⟨i, x, hi, hx, hp, hn⟩ := idxF_pos hc30
            have hil := (List.getElem?_eq_some_iff.1 hx).1
            refine wc_same 7 (vI (i : Nat)) rfl (by rw [hi]) ?_
            refine wc_region ?_
            refine wl_y rfl (y_move rfl) ?_
            refine wl_y rfl (y_move rfl) ?_
            refine wl_y rfl (y_loadAgg (l := [_, _]) AG24 rfl rfl (by first | exact cells_blk [] rfl | exact cells_blk [_] rfl | exact cells_blk [_, _] rfl | exact cells_blk [_, _, _] rfl | exact cellsR_blk (by assumption) rfl)) ?_
            refine wl_y rfl (y_indexAddr Tryd.underlying22 T24 rfl rfl rfl (by omega) (by first | assumption | exact fun _ _ => rfl | exact fun _ _ => hA.isSome (by omega) | exact fun w hw => hw.slc_isSome [] (by omega) | exact fun w hw => hw.slc_isSome [_] (by omega) | exact fun w hw => hw.slc_isSome [_, _] (by omega) | exact fun w hw => hw.slc_isSome [_, _, _] (by omega))) ?_
            refine wl_u (yu_storeAggSl [] (vs := encF f) T24 rfl rfl rfl (encF_one f) (by rw [rows_length encF_len, encF_len]; omega)) ?_
            refine wl_world (S' := Hp w0 K [slc 24 2 x24.1 l.length x24.2 ((l.set i f).flatMap encF), blk b3 (.cells (encF f).toArray 24 (0, 0))]) (fun w hw => by rw [rows_set encF_len f (by omega)] at hw; exact hw) ?_
            refine wl_nil ?_
            have hpf := putF_hit hx (by simpa using hp) (fun j y hj hy => by simpa using hn j y hj hy)
            refine wq_same 6 (.slice x24.1 (putF l f).length x24.2) rfl (by rw [hpf, List.length_set]) ?_
            exact wq_cut x24 trivial ⟨rfl, trivial⟩ (fun w hw => by rw [hpf, List.length_set]; exact hw.sub (by (repeat (first | exact pt_nil | apply pt0 | apply pt1 | apply pt2 | apply pt3 | apply pt4 | apply pt5 | apply pt6 | apply pt7 | apply pt8 | apply pt9 | apply pt10 | apply pt11 | apply pt12 | apply pt13 | apply pt14 | apply pt15 | apply pt16 | apply pt17))))
          ·
            simp at hc30
            obtain ⟨hi, hn⟩ := idxF_neg (p := fun x => decide (x.1 = f.1)) (l := l) (by omega)
            refine wc_seq ?_
            refine wc_region ?_
            refine wl_y rfl (y_move rfl) ?_
            refine wl_y rfl (y_makeFunc rfl rfl) ?_
            refine wl_q (fun _ _ => want_none) rfl (yq_spec (fst := []) (cap := []) _ FN43 (indexFunc_c l oo cc 44 [ptr b3] (fun x => gtS x.1 f.1) [blk b3 (.cells (encF f).toArray 24 (0, 0))] FN44 (fun x hx => withGt_c f x b3) (by omega)) rfl rfl rfl (by (repeat (first | exact pt_nil | apply pt0 | apply pt1 | apply pt2 | apply pt3 | apply pt4 | apply pt5 | apply pt6 | apply pt7 | apply pt8 | apply pt9 | apply pt10 | apply pt11 | apply pt12 | apply pt13 | apply pt14 | apply pt15 | apply pt16 | apply pt17))) (by (repeat (first | exact ro_nil | exact ro_rest (by assumption) | refine ro_cons (by first | exact .inl (by assumption) | exact ro_f0 (fun _ h => h) | exact ro_f0 (fun _ => slc_rsl) | exact ro_f1 (fun _ h => h) | exact ro_f1 (fun _ => slc_rsl) | exact ro_f2 (fun _ h => h) | exact ro_f2 (fun _ => slc_rsl) | exact ro_f3 (fun _ h => h) | exact ro_f3 (fun _ => slc_rsl) | exact ro_f4 (fun _ h => h) | exact ro_f4 (fun _ => slc_rsl) | exact ro_f5 (fun _ h => h) | exact ro_f5 (fun _ => slc_rsl) | exact ro_f6 (fun _ h => h) | exact ro_f6 (fun _ => slc_rsl)) ?_))) (fun _ _ => rfl) (fun _ _ _ h => h.sub (by (repeat (first | exact pt_nil | apply pt0 | apply pt1 | apply pt2 | apply pt3 | apply pt4 | apply pt5 | apply pt6 | apply pt7 | apply pt8 | apply pt9 | apply pt10 | apply pt11 | apply pt12 | apply pt13 | apply pt14 | apply pt15 | apply pt16 | apply pt17))))) ?_
            refine wl_y rfl (y_assign rfl) ?_
            refine wl_nil ?_
            refine wq_then ?_
            refine wc_seq (wc_cut (α := Unit) (fun x => True) [(3, _), (6, _)] (fun x => [(8, vI (gtAt l f.1 : Nat))]) (fun x => Hp w0 K [slc 24 2 x24.1 l.length x24.2 (l.flatMap encF), blk b3 (.cells (encF f).toArray 24 (0, 0))]) ⟨rfl, rfl, trivial⟩ ?_ ?_)
            ·
              refine wc_seq ?_
              refine wc_region ?_
              refine wl_y rfl (y_move rfl) ?_
              refine wl_y rfl (y_lss rfl rfl) ?_
              refine wl_nil ?_
              refine wq_then ?_
              refine wc_cond rfl (fun hc39 => ?_) (fun hc39 => ?_)
              ·
                simp at hc39
                refine wc_region ?_
                refine wl_y rfl (y_move rfl) ?_
                refine wl_y rfl (y_lenSl Tryd.underlying22 rfl) ?_
                refine wl_y rfl (y_assign rfl) ?_
                refine wl_nil ?_
                refine wq_same 8 (vI (gtAt l f.1 : Nat)) rfl (by rw [gtAt, if_pos hc39]) ?_
                exact wq_cut () trivial ⟨rfl, rfl, rfl, trivial⟩ (fun w hw => hw)
              ·
                simp at hc39
                refine wc_skip ?_
                refine wq_same 8 (vI (gtAt l f.1 : Nat)) rfl (by rw [gtAt, if_neg (by omega), Int.toNat_of_nonneg hc39]) ?_
                exact wq_cut () trivial ⟨rfl, rfl, rfl, trivial⟩ (fun w hw => hw)
            · intro x _
              have hgl := gtAt_le l f.1
              refine all_wc ?_
              refine wc_region ?_
              refine wl_y rfl (y_move rfl) ?_
              refine wl_y rfl (y_move rfl) ?_
              refine wl_y rfl (y_loadAgg (l := [_, _]) AG24 rfl rfl (by first | exact cells_blk [] rfl | exact cells_blk [_] rfl | exact cells_blk [_, _] rfl | exact cells_blk [_, _, _] rfl | exact cellsR_blk (by assumption) rfl)) ?_
              refine wl_w (fun _ _ => want_none) rfl (yw_buildSlice (cs := encF f) Tryd.underlying22 T24 rfl rfl rfl rfl rfl rfl rfl) (wl_ex fun b45 _ => ?_)
              refine wl_c (fun _ _ => want_none) rfl (yc_spec (fst := []) (cap := []) _ FN45 (insert_c l x24.1 x24.2 (gtAt l f.1) f (some ⟨b45, 0, none⟩) 1 (gtAt_le l f.1) hl) rfl rfl rfl (by (repeat (first | exact pt_nil | apply pt0 | apply pt1 | apply pt2 | apply pt3 | apply pt4 | apply pt5 | apply pt6 | apply pt7 | apply pt8 | apply pt9 | apply pt10 | apply pt11 | apply pt12 | apply pt13 | apply pt14 | apply pt15 | apply pt16 | apply pt17))) (by (repeat (first | exact ro_nil | exact ro_rest (by assumption) | refine ro_cons (by first | exact .inl (by assumption) | exact ro_f0 (fun _ h => h) | exact ro_f0 (fun _ => slc_rsl) | exact ro_f1 (fun _ h => h) | exact ro_f1 (fun _ => slc_rsl) | exact ro_f2 (fun _ h => h) | exact ro_f2 (fun _ => slc_rsl) | exact ro_f3 (fun _ h => h) | exact ro_f3 (fun _ => slc_rsl) | exact ro_f4 (fun _ h => h) | exact ro_f4 (fun _ => slc_rsl) | exact ro_f5 (fun _ h => h) | exact ro_f5 (fun _ => slc_rsl) | exact ro_f6 (fun _ h => h) | exact ro_f6 (fun _ => slc_rsl)) ?_)))) (wl_ex fun x46 hx46 => ?_)
              refine wl_y rfl (y_assign rfl) ?_
              refine wl_nil ?_
              have hpf := putF_miss (l := l) (f := f) (fun x hx => by simpa using hn x hx)
              refine wq_same 6 (.slice x46.1 (putF l f).length x46.2) rfl (by rw [hpf]) ?_
              exact wq_cut x46 trivial ⟨rfl, trivial⟩ (fun w hw => by rw [hpf]; exact hw.sub (by (repeat (first | exact pt_nil | apply pt0 | apply pt1 | apply pt2 | apply pt3 | apply pt4 | apply pt5 | apply pt6 | apply pt7 | apply pt8 | apply pt9 | apply pt10 | apply pt11 | apply pt12 | apply pt13 | apply pt14 | apply pt15 | apply pt16 | apply pt17))))
        · intro r _
          have hpl := putF_len l f
          refine all_wc ?_
          refine wc_seq ?_
          refine wc_seq ?_
          refine wc_region ?_
          refine wl_y rfl (y_move rfl) ?_
          refine wl_y rfl (y_lenSl Tryd.underlying22 rfl) ?_
          refine wl_y rfl (y_gtr rfl rfl) ?_
          refine wl_nil ?_
          refine wq_then ?_
          refine wc_cond rfl (fun hc49 => ?_) (fun hc49 => ?_)
          ·
            replace hc49 := of_decide_eq_true hc49
            refine wc_seq ?_
            refine wc_region ?_
            refine wl_y rfl (y_assign rfl) ?_
            refine wl_y rfl (y_assign rfl) ?_
            refine wl_nil ?_
            refine wq_then ?_
            refine wc_ret ?_
            refine wq_then_ret ?_
            refine wq_ret2 rfl rfl rfl (fun w hw => ?_)
            exact ⟨(none, 0), trivial, by simp only [withF_4 hok hc14 hc19 hc49]; rfl, by simp only [withF_4 hok hc14 hc19 hc49]; exact Hp.addNil [] [] (hw.bare)⟩
          ·
            replace hc49 := of_decide_eq_false hc49
            refine wc_skip ?_
            refine wq_then ?_
            refine wc_seq ?_
            refine wc_region ?_
            refine wl_y rfl (y_move rfl) ?_
            refine wl_y rfl (y_assign rfl) ?_
            refine wl_y rfl (y_assign rfl) ?_
            refine wl_nil ?_
            refine wq_then ?_
            refine wc_ret ?_
            refine wq_ret2 rfl rfl rfl (fun w hw => ?_)
            exact ⟨r, trivial, by simp only [withF_5 hok hc14 hc19 hc49], by simp only [withF_5 hok hc14 hc19 hc49]; exact hw.sub (by (repeat (first | exact pt_nil | apply pt0 | apply pt1 | apply pt2 | apply pt3 | apply pt4 | apply pt5 | apply pt6 | apply pt7 | apply pt8 | apply pt9 | apply pt10 | apply pt11 | apply pt12 | apply pt13 | apply pt14 | apply pt15 | apply pt16 | apply pt17)))⟩

end Go.Proofs.YtemopomapankmaaDoor
