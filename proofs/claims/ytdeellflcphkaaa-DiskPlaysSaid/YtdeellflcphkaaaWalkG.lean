/-
  Walks: crashes.
-/
import Derived.Test.YtdeellflcphkaaaGood
namespace Go.Proofs.Ytdeellflcphkaaa
open Go.Eng

theorem cons_of {ks : List Int} (h : 0 < ks.length) : ∃ a l, ks = a :: l := by
  cases ks with
  | nil => cases h
  | cons a l => exact ⟨a, l, rfl⟩
theorem nil_of {ks : List Int} (h : ¬ 0 < ks.length) : ks = [] := by
  cases ks with
  | nil => rfl
  | cons a l => exact absurd (Nat.zero_lt_succ _) h
theorem ro_tail {w0 : World} {K : Nat → Prop} {a : Option Addr} {c : Nat} {k : Int} {ks : List Int} (h : Ro w0 K (rsl a (k :: ks).length 1 ((k :: ks).map vI))) (hc : (k :: ks).length ≤ c) : Ro w0 K (rsl (cutAt a 1 c 1) ks.length 1 (ks.map vI)) := by
  refine h.mono fun g hg => ?_
  have := rsl_cut 1 (k :: ks).length hg (by simp) (Nat.le_refl _) hc
  simpa [List.take_of_length_le] using this
theorem crash_step {d D : Dk} {ks0 ks : List Int} {i : Nat} {s : Str} (h : crashL (d.names.take i) (d, ks0) = (D, ks)) (hx : d.names[i]? = some s) : crashL (d.names.take (i + 1)) (d, ks0) = D.crash1 s ks := by
  rw [List.take_add_one, hx]
  simp only [Option.toList_some]
  rw [crashL_snoc, h]
set_option maxHeartbeats 1000000 in
theorem crash_c (b : Nat) (d : Dk) (ho : d.good) (hfit : d.m.length ≤ 1000) (ks0 : List Int) (ko : Option Addr) (kc : Nat) (hkc : ks0.length ≤ kc) :
    Ctr Try.prog 12 #[ptr b, .slice ko ks0.length kc] [rsl ko ks0.length 1 (ks0.map vI)] [dkA b d] (fun _ : Unit => True) (fun _ => .tuple #[]) (fun _ => [dkA b (d.crash ks0)]) := by
  refine spec_start (n := 67) [(0, ptr b), (1, .slice ko ks0.length kc)] Try.func12 rfl rfl ⟨rfl, rfl, trivial⟩ rfl ?_
  intro w0 K hR
  have hA := hR _ (List.mem_cons_self ..)
  have hnl := names_len d
  refine wc_seq ?_
  refine wc_seq ?_
  refine wc_region ?_
  refine wl_y rfl (y_move rfl) ?_
  refine wl_y rfl (y_eqlP Try.underlying22 rfl rfl) ?_
  refine wl_nil ?_
  refine wq_then ?_
  refine wc_known 10 false rfl (rfl) ?_
  refine wc_cond_false rfl ?_
  refine wc_skip ?_
  refine wq_then ?_
  refine wc_seq ?_
  refine wc_seq ?_
  refine wc_region ?_
  refine wl_y rfl (y_move rfl) ?_
  refine wl_c (fun _ _ => want_none) rfl (yc_spec (fst := []) (cap := []) _ FN17 (names_c b d ⟨hfit, ho.keys⟩) rfl rfl rfl (by (repeat (first | exact pt_nil | apply pt0 | apply pt1 | apply pt2 | apply pt3 | apply pt4 | apply pt5 | apply pt6 | apply pt7 | apply pt8 | apply pt9 | apply pt10 | apply pt11 | apply pt12 | apply pt13 | apply pt14 | apply pt15 | apply pt16 | apply pt17))) (by (repeat (first | exact ro_nil | exact ro_rest (by assumption) | refine ro_cons (by first | exact .inl (by assumption) | exact ro_f0 (fun _ h => h) | exact ro_f0 (fun _ => slc_rsl) | exact ro_f1 (fun _ h => h) | exact ro_f1 (fun _ => slc_rsl) | exact ro_f2 (fun _ h => h) | exact ro_f2 (fun _ => slc_rsl) | exact ro_f3 (fun _ h => h) | exact ro_f3 (fun _ => slc_rsl) | exact ro_f4 (fun _ h => h) | exact ro_f4 (fun _ => slc_rsl) | exact ro_f5 (fun _ h => h) | exact ro_f5 (fun _ => slc_rsl) | exact ro_f6 (fun _ h => h) | exact ro_f6 (fun _ => slc_rsl)) ?_)))) (wl_ex fun x12 hx12 => ?_)
  refine wl_exS (fun w hw => dk_open w (Hp.sub (As := [dkA b d, slc 9 1 x12.1 d.names.length x12.2 (d.names.map vS)]) hw (by (repeat (first | exact pt_nil | apply pt0 | apply pt1 | apply pt2 | apply pt3 | apply pt4 | apply pt5 | apply pt6 | apply pt7 | apply pt8 | apply pt9 | apply pt10 | apply pt11 | apply pt12 | apply pt13 | apply pt14 | apply pt15 | apply pt16 | apply pt17))))) (fun mb => ?_)
  refine wl_y rfl (y_lenSl Try.underlying32 rfl) ?_
  refine wl_y rfl (y_move rfl) ?_
  refine wl_nil ?_
  refine wq_then ?_
  refine wc_block ?_
  refine wc_loop (α := Nat × Option Addr × Nat) (fun y => y.1 ≤ d.names.length ∧ (crashL (d.names.take y.1) (d, ks0)).1.good ∧ Ro w0 K (rsl y.2.1 (crashL (d.names.take y.1) (d, ks0)).2.length 1 ((crashL (d.names.take y.1) (d, ks0)).2.map vI)) ∧ (crashL (d.names.take y.1) (d, ks0)).2.length ≤ y.2.2) [(0, _), (12, _), (13, _)] (fun y => [(14, vI y.1), (1, .slice y.2.1 (crashL (d.names.take y.1) (d, ks0)).2.length y.2.2)]) (fun y => Hp w0 K (slc 9 1 x12.1 d.names.length x12.2 (d.names.map vS) :: dkAs b (crashL (d.names.take y.1) (d, ks0)).1 mb)) (fun y => d.names.length - y.1) (0, ko, kc) ?_ ⟨rfl, rfl, rfl, rfl, rfl, trivial⟩ ?_ ?_
  · exact ⟨Nat.zero_le _, ho, hA, hkc⟩
  · exact fun w hw => hw.sub (by (repeat (first | exact pt_nil | apply pt0 | apply pt1 | apply pt2 | apply pt3 | apply pt4 | apply pt5 | apply pt6 | apply pt7 | apply pt8 | apply pt9 | apply pt10 | apply pt11 | apply pt12 | apply pt13 | apply pt14 | apply pt15 | apply pt16 | apply pt17)))
  · rintro ⟨i, a, c⟩ ⟨hi, hG, hRo, hc⟩; simp only at hi hG hRo hc
    obtain ⟨D, ks, hcur⟩ : ∃ D ks, (crashL (d.names.take i) (d, ks0)) = (D, ks) := ⟨_, _, rfl⟩
    rw [hcur] at hG hRo hc
    simp only at hG hRo hc
    refine wc_world (S' := Hp w0 K (slc 9 1 x12.1 d.names.length x12.2 (d.names.map vS) :: dkAs b D mb)) (fun w hw => by rw [hcur] at hw; exact hw) ?_
    refine wc_same 14 (vI i) rfl rfl ?_
    refine wc_same 1 (.slice a ks.length c) rfl (by rw [hcur]) ?_
    refine wc_seq ?_
    refine wc_region ?_
    refine wl_y rfl (y_lss rfl rfl) ?_
    refine wl_nil ?_
    refine wq_then ?_
    refine wc_seq ?_
    refine wc_cond rfl (fun hc15 => ?_) (fun hc15 => ?_)
    ·
      simp at hc15
      refine wc_skip ?_
      refine wq_then ?_
      refine wc_seq ?_
      refine wc_block ?_
      refine wc_seq ?_
      refine wc_region ?_
      obtain ⟨s, hx⟩ : ∃ s, d.names[i]? = some s := ⟨_, List.getElem?_eq_getElem (by omega)⟩
      have hf := get_fine hG s
      have hgl := hG.ok.g s
      have hG1 := hG.s1
      have hG2 := hG.l1
      have hG3 := hG.ok.s0
      obtain ⟨hf1, hf2⟩ := hf
      have hst := crash_step hcur hx
      refine wl_y rfl (y_indexAddr (i := i) Try.underlying32 T9 rfl rfl rfl (by omega) (fun w hw => hw.slc_isSome [] (by omega))) ?_
      refine wl_y rfl (y_load NA9 rfl (cell_own [] (row_get hx))) ?_
      refine wl_y rfl (y_assign rfl) ?_
      refine wl_nil ?_
      refine wq_then ?_
      refine wc_seq ?_
      refine wc_region ?_
      refine wl_y rfl (y_move rfl) ?_
      refine wl_y rfl (y_nilCheck rfl) ?_
      refine wl_y rfl (y_fieldAddr F54_1 rfl) ?_
      refine wl_y rfl (y_load NA52 rfl (by first | exact cell_blk [] rfl | exact cell_blk [_] rfl | exact cell_blk [_, _] rfl | exact cell_blk [_, _, _] rfl | exact cell_blk [_, _, _, _] rfl | exact cell_blk [_, _, _, _, _] rfl | exact cell_blk [_, _, _, _, _, _] rfl | exact cellR_blk (by assumption) rfl)) ?_
      refine wl_y rfl (y_move rfl) ?_
      refine wl_y rfl (y_lookup Try.underlying52 (keyE_str Try.underlying9) T58 rfl rfl (by first | exact fun w hw => hw.seen [] | exact fun w hw => hw.seen [_] | exact fun w hw => hw.seen [_, _] | exact fun w hw => hw.seen [_, _, _] | exact fun w hw => hw.seen [_, _, _, _] | exact fun w hw => hw.seen [_, _, _, _, _] | exact fun w hw => hw.seen [_, _, _, _, _, _] | exact fun w hw => Seen.rngMap (hw.seen []) | exact fun w hw => Seen.rngMap (hw.seen [_]) | exact fun w hw => Seen.rngMap (hw.seen [_, _]) | exact fun w hw => Seen.rngMap (hw.seen [_, _, _]) | exact fun w hw => Seen.rngMap (hw.seen [_, _, _, _]) | exact fun w hw => Seen.rngMap (hw.seen [_, _, _, _, _]) | exact fun w hw => Seen.rngMap (hw.seen [_, _, _, _, _, _]))) ?_
      refine wl_same 23 (agFi (D.get s)) rfl (look_get D s) ?_
      refine wl_w (fun _ _ => want_none) rfl (yw_alloc T58 rfl) (wl_ex fun b6 _ => ?_)
      first | refine wl_u (yu_storeAgg [] (l' := [_, _]) T58 rfl rfl rfl (by simp [Value.oneCell', encFi]) rfl rfl) ?_ | refine wl_u (yu_storeAgg [_] (l' := [_, _]) T58 rfl rfl rfl (by simp [Value.oneCell', encFi]) rfl rfl) ?_ | refine wl_u (yu_storeAgg [_, _] (l' := [_, _]) T58 rfl rfl rfl (by simp [Value.oneCell', encFi]) rfl rfl) ?_ | refine wl_u (yu_storeAgg [_, _, _] (l' := [_, _]) T58 rfl rfl rfl (by simp [Value.oneCell', encFi]) rfl rfl) ?_ | refine wl_u (yu_storeAgg [_, _, _, _] (l' := [_, _]) T58 rfl rfl rfl (by simp [Value.oneCell', encFi]) rfl rfl) ?_ | refine wl_u (yu_storeAgg [_, _, _, _, _] (l' := [_, _]) T58 rfl rfl rfl (by simp [Value.oneCell', encFi]) rfl rfl) ?_ | refine wl_u (yu_storeAgg [_, _, _, _, _, _] (l' := [_, _]) T58 rfl rfl rfl (by simp [Value.oneCell', encFi]) rfl rfl) ?_
      refine wl_nil ?_
      refine wq_then ?_
      refine wc_seq ?_
      refine wc_region ?_
      refine wl_y rfl (y_fieldAddr F58_0 rfl) ?_
      refine wl_y rfl (y_load NA9 rfl (by first | exact cell_blk [] rfl | exact cell_blk [_] rfl | exact cell_blk [_, _] rfl | exact cell_blk [_, _, _] rfl | exact cell_blk [_, _, _, _] rfl | exact cell_blk [_, _, _, _, _] rfl | exact cell_blk [_, _, _, _, _, _] rfl | exact cellR_blk (by assumption) rfl)) ?_
      refine wl_y rfl (y_lenS Try.underlying9 rfl) ?_
      refine wl_y rfl (y_fieldAddr F58_1 rfl) ?_
      refine wl_y rfl (y_load NA3 rfl (by first | exact cell_blk [] rfl | exact cell_blk [_] rfl | exact cell_blk [_, _] rfl | exact cell_blk [_, _, _] rfl | exact cell_blk [_, _, _, _] rfl | exact cell_blk [_, _, _, _, _] rfl | exact cell_blk [_, _, _, _, _, _] rfl | exact cellR_blk (by assumption) rfl)) ?_
      refine wl_y rfl (y_sub rfl rfl (by omega)) ?_
      refine wl_y rfl (y_assign rfl) ?_
      refine wl_nil ?_
      refine wq_then ?_
      refine wc_seq ?_
      refine wc_seq ?_
      refine wc_region ?_
      refine wl_y rfl (y_move rfl) ?_
      refine wl_y rfl (y_eqlI rfl rfl) ?_
      refine wl_nil ?_
      refine wq_then ?_
      refine wc_cond rfl (fun hc31 => ?_) (fun hc31 => ?_)
      ·
        simp at hc31
        refine wc_exit ?_
        refine wq_then_exit (wq_block_exit ?_)
        refine wq_then ?_
        refine wc_region ?_
        refine wl_y rfl (y_add rfl rfl (by omega)) ?_
        refine wl_y rfl (y_move rfl) ?_
        refine wl_nil ?_
        have e : D.crash1 s ks = (D, ks) := if_pos hc31
        rw [e] at hst
        refine wq_same 1 (.slice a (crashL (d.names.take (i + 1)) (d, ks0)).2.length c) rfl (by rw [hst]) ?_
        exact wq_round (i + 1, a, c) (by simp only; omega) ⟨by simp only; omega, by rw [hst]; exact hG, by rw [hst]; exact hRo, by rw [hst]; exact hc⟩ ⟨rfl, rfl, rfl, rfl, rfl, trivial⟩ (fun w hw => by rw [hst]; exact hw.sub (by (repeat (first | exact pt_nil | apply pt0 | apply pt1 | apply pt2 | apply pt3 | apply pt4 | apply pt5 | apply pt6 | apply pt7 | apply pt8 | apply pt9 | apply pt10 | apply pt11 | apply pt12 | apply pt13 | apply pt14 | apply pt15 | apply pt16 | apply pt17))))
      ·
        simp at hc31
        refine wc_skip ?_
        refine wq_then ?_
        refine wc_seq ?_
        refine wc_region ?_
        refine wl_y rfl (y_assign rfl) ?_
        refine wl_nil ?_
        refine wq_then ?_
        refine wc_seq (wc_cut (α := Option Addr × Nat) (fun y => Ro w0 K (rsl y.1 ks.tail.length 1 (ks.tail.map vI)) ∧ ks.tail.length ≤ y.2) [(0, _), (5, _), (6, _), (7, _), (12, _), (13, _), (14, _)] (fun y => [(8, vI (max (ks.headD 0) 0)), (1, .slice y.1 ks.tail.length y.2)]) (fun y => Hp w0 K (blk b6 (.cells (encFi (D.get s)).toArray 58 (0, 0)) :: slc 9 1 x12.1 d.names.length x12.2 (d.names.map vS) :: dkAs b D mb)) ⟨rfl, rfl, rfl, rfl, rfl, rfl, rfl, trivial⟩ ?_ ?_)
        ·
          refine wc_seq ?_
          refine wc_region ?_
          refine wl_y rfl (y_move rfl) ?_
          refine wl_y rfl (y_lenSl Try.underlying44 rfl) ?_
          refine wl_y rfl (y_gtr rfl rfl) ?_
          refine wl_nil ?_
          refine wq_then ?_
          refine wc_cond rfl (fun hc34 => ?_) (fun hc34 => ?_)
          ·
            have hc34 := of_decide_eq_true hc34
            obtain ⟨k0, ks', rfl⟩ := cons_of (show 0 < ks.length by omega)
            refine wc_quiet MO (by kernel_rfl) (Hp.drawless _ _ _) ?_
            refine wt_y rfl (y_move rfl) ?_
            refine wt_y rfl (y_indexAddr (i := 0) Try.underlying44 T3 rfl rfl rfl (by simp) (fun _ _ => hRo.isSome (by simp))) ?_
            refine wt_y rfl (y_load NA3 rfl (cell_ro hRo (row_get (k := 0) (x := k0) rfl))) ?_
            refine wt_y rfl (y_max rfl rfl) ?_
            refine wt_y rfl (y_move rfl) ?_
            refine wt_y rfl (y_sliceSl (i := 1) (j := (k0 :: ks').length) Try.underlying44 T3 rfl ⟨_, rfl, rfl⟩ rfl (by simp) hc) ?_
            refine wt_y rfl (y_assign rfl) ?_
            refine wt_y rfl (y_assign rfl) ?_
            refine wt_nil ?_
            refine wq_same 1 (.slice (cutAt a 1 c 1) (k0 :: ks').tail.length (c - 1)) rfl (by simp) ?_
            exact wq_cut (cutAt a 1 c 1, c - 1) ⟨ro_tail hRo hc, by simp only [List.tail_cons, List.length_cons] at hc ⊢; omega⟩ ⟨rfl, rfl, rfl, rfl, rfl, rfl, rfl, rfl, rfl, trivial⟩ (fun w hw => hw.sub (by (repeat (first | exact pt_nil | apply pt0 | apply pt1 | apply pt2 | apply pt3 | apply pt4 | apply pt5 | apply pt6 | apply pt7 | apply pt8 | apply pt9 | apply pt10 | apply pt11 | apply pt12 | apply pt13 | apply pt14 | apply pt15 | apply pt16 | apply pt17))))
          ·
            have hc34 := of_decide_eq_false hc34
            obtain rfl := nil_of (ks := ks) (by omega)
            refine wc_skip ?_
            refine wq_same 8 (vI (max (([] : List Int).headD 0) 0)) rfl rfl ?_
            exact wq_cut (a, c) ⟨hRo, hc⟩ ⟨rfl, rfl, rfl, rfl, rfl, rfl, rfl, rfl, rfl, trivial⟩ (fun w hw => hw.sub (by (repeat (first | exact pt_nil | apply pt0 | apply pt1 | apply pt2 | apply pt3 | apply pt4 | apply pt5 | apply pt6 | apply pt7 | apply pt8 | apply pt9 | apply pt10 | apply pt11 | apply pt12 | apply pt13 | apply pt14 | apply pt15 | apply pt16 | apply pt17))))
        · rintro ⟨a2, c2⟩ ⟨hRo2, hc2⟩; simp only at hRo2 hc2
          have hbs : badN s = false := by
            obtain ⟨q, hq, hqs⟩ := List.mem_map.1 ((srtK_perm d.m).mem_iff.1 (List.mem_of_getElem? hx))
            rw [← hqs]; exact ho.nm q hq
          refine all_wc ?_
          refine wc_seq ?_
          refine wc_mix (.q 0 0 (.q 1 1 (.q 2 0 (.q 3 0 (.q 4 0 (.q 5 0 (.q 6 0 (.q 7 0 (.w 8 2 .nil .nil))))))))) (fun _ => True) MO (by kernel_rfl) (Hp.drawless _ _ _) (fun _ _ => trivial) ?_
          obtain ⟨hq1, hq2⟩ := crash_firm (get_fine hG s) (ks.headD 0) hc31
          refine wm_g rfl rfl (y_fieldAddr F58_1 rfl) ?_
          refine wm_l rfl rfl (y_load NA3 rfl (by first | exact cell_blk [] rfl | exact cell_blk [_] rfl | exact cell_blk [_, _] rfl | exact cell_blk [_, _, _] rfl | exact cell_blk [_, _, _, _] rfl | exact cell_blk [_, _, _, _, _] rfl | exact cell_blk [_, _, _, _, _, _] rfl | exact cellR_blk (by assumption) rfl)) ?_
          refine wm_g rfl rfl (y_move rfl) ?_
          refine wm_g rfl rfl (y_move rfl) ?_
          refine wm_g rfl rfl (y_add rfl rfl (by omega)) ?_
          refine wm_g rfl rfl (y_rem rfl rfl (by omega)) ?_
          refine wm_same 46 (vI ((max (ks.headD 0) 0) % (((D.get s).data.length : Int) - (D.get s).firm + 1))) rfl (by rw [Int.tmod_eq_emod_of_nonneg (by omega)]) ?_
          refine wm_g rfl rfl (y_add rfl rfl (by omega)) ?_
          refine wm_g rfl rfl (y_fieldAddr F58_1 rfl) ?_
          first | refine wm_u rfl (fun _ _ => trivial) (yu_store [] (l' := [_, _]) T3 rfl rfl rfl rfl rfl rfl rfl) ?_ | refine wm_u rfl (fun _ _ => trivial) (yu_store [_] (l' := [_, _]) T3 rfl rfl rfl rfl rfl rfl rfl) ?_ | refine wm_u rfl (fun _ _ => trivial) (yu_store [_, _] (l' := [_, _]) T3 rfl rfl rfl rfl rfl rfl rfl) ?_ | refine wm_u rfl (fun _ _ => trivial) (yu_store [_, _, _] (l' := [_, _]) T3 rfl rfl rfl rfl rfl rfl rfl) ?_ | refine wm_u rfl (fun _ _ => trivial) (yu_store [_, _, _, _] (l' := [_, _]) T3 rfl rfl rfl rfl rfl rfl rfl) ?_ | refine wm_u rfl (fun _ _ => trivial) (yu_store [_, _, _, _, _] (l' := [_, _]) T3 rfl rfl rfl rfl rfl rfl rfl) ?_ | refine wm_u rfl (fun _ _ => trivial) (yu_store [_, _, _, _, _, _] (l' := [_, _]) T3 rfl rfl rfl rfl rfl rfl rfl) ?_
          refine wm_nil ?_
          refine all_wq ?_
          refine wq_then ?_
          refine wc_mix (.q 0 0 (.q 1 0 (.q 2 0 (.q 3 1 (.q 4 0 (.q 5 1 (.q 6 0 (.q 7 0 (.q 8 1 (.q 9 0 (.w 10 2 .nil .nil))))))))))) (fun _ => True) MO (by kernel_rfl) (Hp.drawless _ _ _) (fun _ _ => trivial) ?_
          refine wm_g rfl rfl (y_move rfl) ?_
          refine wm_g rfl rfl (y_move rfl) ?_
          refine wm_g rfl rfl (y_fieldAddr F58_0 rfl) ?_
          refine wm_l rfl rfl (y_load NA9 rfl (by first | exact cell_blk [] rfl | exact cell_blk [_] rfl | exact cell_blk [_, _] rfl | exact cell_blk [_, _, _] rfl | exact cell_blk [_, _, _, _] rfl | exact cell_blk [_, _, _, _, _] rfl | exact cell_blk [_, _, _, _, _, _] rfl | exact cellR_blk (by assumption) rfl)) ?_
          refine wm_g rfl rfl (y_fieldAddr F58_1 rfl) ?_
          refine wm_l rfl rfl (y_load NA3 rfl (by first | exact cell_blk [] rfl | exact cell_blk [_] rfl | exact cell_blk [_, _] rfl | exact cell_blk [_, _, _] rfl | exact cell_blk [_, _, _, _] rfl | exact cell_blk [_, _, _, _, _] rfl | exact cell_blk [_, _, _, _, _, _] rfl | exact cellR_blk (by assumption) rfl)) ?_
          refine wm_g rfl rfl (y_sliceS (i := 0) (j := ((D.get s).firm + (max (ks.headD 0) 0) % (((D.get s).data.length : Int) - (D.get s).firm + 1)).toNat) Try.underlying9 rfl rfl ⟨_, rfl, by omega⟩ (by omega) (by omega) rfl) ?_
          refine wm_g rfl rfl (y_fieldAddr F58_1 rfl) ?_
          refine wm_l rfl rfl (y_load NA3 rfl (by first | exact cell_blk [] rfl | exact cell_blk [_] rfl | exact cell_blk [_, _] rfl | exact cell_blk [_, _, _] rfl | exact cell_blk [_, _, _, _] rfl | exact cell_blk [_, _, _, _, _] rfl | exact cell_blk [_, _, _, _, _, _] rfl | exact cellR_blk (by assumption) rfl)) ?_
          refine wm_g rfl rfl (y_build (cs := [_, _]) T58 PL58 rfl rfl rfl) ?_
          refine wm_c rfl rfl (fun _ _ _ => trivial) (yc_spec (fst := []) (cap := []) _ FN34 (lay_c b D mb s ⟨(D.get s).data.take ((D.get s).firm + (max (ks.headD 0) 0) % (((D.get s).data.length : Int) - (D.get s).firm + 1)).toNat, ((D.get s).firm + (max (ks.headD 0) 0) % (((D.get s).data.length : Int) - (D.get s).firm + 1))⟩ (by omega) (by simp only [List.length_take]; omega) (by omega)) rfl rfl rfl (by (repeat (first | exact pt_nil | apply pt0 | apply pt1 | apply pt2 | apply pt3 | apply pt4 | apply pt5 | apply pt6 | apply pt7 | apply pt8 | apply pt9 | apply pt10 | apply pt11 | apply pt12 | apply pt13 | apply pt14 | apply pt15 | apply pt16 | apply pt17))) (by (repeat (first | exact ro_nil | exact ro_rest (by assumption) | refine ro_cons (by first | exact .inl (by assumption) | exact ro_f0 (fun _ h => h) | exact ro_f0 (fun _ => slc_rsl) | exact ro_f1 (fun _ h => h) | exact ro_f1 (fun _ => slc_rsl) | exact ro_f2 (fun _ h => h) | exact ro_f2 (fun _ => slc_rsl) | exact ro_f3 (fun _ h => h) | exact ro_f3 (fun _ => slc_rsl) | exact ro_f4 (fun _ h => h) | exact ro_f4 (fun _ => slc_rsl) | exact ro_f5 (fun _ h => h) | exact ro_f5 (fun _ => slc_rsl) | exact ro_f6 (fun _ h => h) | exact ro_f6 (fun _ => slc_rsl)) ?_)))) (wm_ex fun x59 hx59 => ?_)
          refine wm_nil ?_
          refine all_wq ?_
          refine wq_block_normal ?_
          refine wq_then ?_
          refine wc_region ?_
          refine wl_y rfl (y_add rfl rfl (by omega)) ?_
          refine wl_y rfl (y_move rfl) ?_
          refine wl_nil ?_
          have hG' := good_crash1 hG hbs ks
          have e : D.crash1 s ks = (D.lay s ⟨(D.get s).data.take ((D.get s).firm + (max (ks.headD 0) 0) % (((D.get s).data.length : Int) - (D.get s).firm + 1)).toNat, ((D.get s).firm + (max (ks.headD 0) 0) % (((D.get s).data.length : Int) - (D.get s).firm + 1))⟩, ks.tail) := if_neg hc31
          rw [← hst] at hG'
          rw [e] at hst
          refine wq_same 1 (.slice a2 (crashL (d.names.take (i + 1)) (d, ks0)).2.length c2) rfl (by rw [hst]) ?_
          exact wq_round (i + 1, a2, c2) (by simp only; omega) ⟨by simp only; omega, hG', by rw [hst]; exact hRo2, by rw [hst]; exact hc2⟩ ⟨rfl, rfl, rfl, rfl, rfl, trivial⟩ (fun w hw => by rw [hst]; exact hw.sub (by (repeat (first | exact pt_nil | apply pt0 | apply pt1 | apply pt2 | apply pt3 | apply pt4 | apply pt5 | apply pt6 | apply pt7 | apply pt8 | apply pt9 | apply pt10 | apply pt11 | apply pt12 | apply pt13 | apply pt14 | apply pt15 | apply pt16 | apply pt17))))
    ·
      simp at hc15
      refine wc_exit ?_
      refine wq_then_exit (wq_then_exit (wq_block_exit ?_))
      refine wq_then ?_
      refine wc_region ?_
      refine wl_y rfl (y_move rfl) ?_
      refine wl_y rfl (y_move rfl) ?_
      refine wl_y rfl (y_nilCheck rfl) ?_
      refine wl_y rfl (y_fieldAddr F54_4 rfl) ?_
      first | refine wl_u (yu_store [] (l' := [_, _, _, _, _]) T4 rfl rfl rfl rfl rfl rfl rfl) ?_ | refine wl_u (yu_store [_] (l' := [_, _, _, _, _]) T4 rfl rfl rfl rfl rfl rfl rfl) ?_ | refine wl_u (yu_store [_, _] (l' := [_, _, _, _, _]) T4 rfl rfl rfl rfl rfl rfl rfl) ?_ | refine wl_u (yu_store [_, _, _] (l' := [_, _, _, _, _]) T4 rfl rfl rfl rfl rfl rfl rfl) ?_ | refine wl_u (yu_store [_, _, _, _] (l' := [_, _, _, _, _]) T4 rfl rfl rfl rfl rfl rfl rfl) ?_ | refine wl_u (yu_store [_, _, _, _, _] (l' := [_, _, _, _, _]) T4 rfl rfl rfl rfl rfl rfl rfl) ?_ | refine wl_u (yu_store [_, _, _, _, _, _] (l' := [_, _, _, _, _]) T4 rfl rfl rfl rfl rfl rfl rfl) ?_
      refine wl_y rfl (y_nilCheck rfl) ?_
      refine wl_y rfl (y_fieldAddr F54_3 rfl) ?_
      first | refine wl_u (yu_store [] (l' := [_, _, _, _, _]) T3 rfl rfl rfl rfl rfl rfl rfl) ?_ | refine wl_u (yu_store [_] (l' := [_, _, _, _, _]) T3 rfl rfl rfl rfl rfl rfl rfl) ?_ | refine wl_u (yu_store [_, _] (l' := [_, _, _, _, _]) T3 rfl rfl rfl rfl rfl rfl rfl) ?_ | refine wl_u (yu_store [_, _, _] (l' := [_, _, _, _, _]) T3 rfl rfl rfl rfl rfl rfl rfl) ?_ | refine wl_u (yu_store [_, _, _, _] (l' := [_, _, _, _, _]) T3 rfl rfl rfl rfl rfl rfl rfl) ?_ | refine wl_u (yu_store [_, _, _, _, _] (l' := [_, _, _, _, _]) T3 rfl rfl rfl rfl rfl rfl rfl) ?_ | refine wl_u (yu_store [_, _, _, _, _, _] (l' := [_, _, _, _, _]) T3 rfl rfl rfl rfl rfl rfl rfl) ?_
      refine wl_nil ?_
      refine wq_end0 rfl (fun w hw => ?_)
      obtain rfl : i = d.names.length := by omega
      rw [List.take_length] at hcur
      exact ⟨(), trivial, rfl, dk_shut mb (by simp only [Dk.crash, hcur]; exact hw.sub (by (repeat (first | exact pt_nil | apply pt0 | apply pt1 | apply pt2 | apply pt3 | apply pt4 | apply pt5 | apply pt6 | apply pt7 | apply pt8 | apply pt9 | apply pt10 | apply pt11 | apply pt12 | apply pt13 | apply pt14 | apply pt15 | apply pt16 | apply pt17))))⟩

set_option maxHeartbeats 1000000 in
theorem crash_nil (ks0 : List Int) (ko : Option Addr) (kc : Nat) :
    Ctr Try.prog 12 #[.pointer none, .slice ko ks0.length kc] [] [] (fun _ : Unit => True) (fun _ => .tuple #[]) (fun _ => []) := by
  refine spec_start (n := 67) [(0, .pointer none), (1, .slice ko ks0.length kc)] Try.func12 rfl rfl ⟨rfl, rfl, trivial⟩ rfl ?_
  intro w0 K hR
  refine wc_seq ?_
  refine wc_seq ?_
  refine wc_region ?_
  refine wl_y rfl (y_move rfl) ?_
  refine wl_y rfl (y_eqlP Try.underlying22 rfl rfl) ?_
  refine wl_nil ?_
  refine wq_then ?_
  refine wc_known 10 true rfl (rfl) ?_
  refine wc_cond_true rfl ?_
  refine wc_ret ?_
  refine wq_then_ret ?_
  refine wq_ret0 rfl (fun w hw => ?_)
  exact ⟨(), trivial, rfl, hw⟩

end Go.Proofs.Ytdeellflcphkaaa
