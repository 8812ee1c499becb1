/-
  Walks: all leases.
-/
import Derived.Test.YtjcegolhokfkoaaSrt
namespace Go.Proofs.Ytjcegolhokfkoaa
open Go.Eng

set_option maxHeartbeats 1000000 in
theorem list_c (b : Nat) (t : Tb) (hft : t.fits) :
    Ctr Try.prog 12 #[ptr b] [] [tbA b t] (fun _ : Option Addr × Nat => True) (fun x => .slice x.1 t.m.length x.2) (fun x => [tbA b t, slc 30 6 x.1 t.m.length x.2 (t.srt.flatMap encL)]) := by
  refine spec_start (n := 30) [(0, ptr b)] Try.func12 rfl rfl ⟨rfl, trivial⟩ rfl ?_
  intro w0 K hR
  obtain ⟨hml, hkl⟩ := id hft
  refine wc_ex tb_open (fun mb => ?_)
  refine wc_seq ?_
  refine wc_region ?_
  refine wl_y rfl (y_assign rfl) ?_
  refine wl_nil ?_
  refine wq_then ?_
  refine wc_seq ?_
  refine wc_seq ?_
  refine wc_region ?_
  refine wl_y rfl (y_move rfl) ?_
  refine wl_y rfl (y_eqlP Try.underlying22 rfl rfl) ?_
  refine wl_nil ?_
  refine wq_then ?_
  refine wc_known 7 false rfl (rfl) ?_
  refine wc_cond_false rfl ?_
  refine wc_skip ?_
  refine wq_then ?_
  refine wc_seq ?_
  refine wc_region ?_
  refine wl_y rfl (y_assign rfl) ?_
  refine wl_nil ?_
  refine wq_then ?_
  refine wc_seq ?_
  refine wc_seq ?_
  refine wc_region ?_
  refine wl_y rfl (y_move rfl) ?_
  refine wl_y rfl (y_nilCheck rfl) ?_
  refine wl_y rfl (y_fieldAddr F56_2 rfl) ?_
  refine wl_y rfl (y_load NA54 rfl (by first | exact cell_blk [] rfl | exact cell_blk [_] rfl | exact cell_blk [_, _] rfl | exact cell_blk [_, _, _] rfl | exact cell_blk [_, _, _, _] rfl | exact cell_blk [_, _, _, _, _] rfl | exact cell_blk [_, _, _, _, _, _] rfl | exact cellR_blk (by assumption) rfl)) ?_
  refine wl_c (fun _ _ => want_none) rfl (yc_spec (fst := []) (cap := []) _ FN29 (keys_c mb) rfl rfl rfl (by (repeat (first | exact pt_nil | apply pt0 | apply pt1 | apply pt2 | apply pt3 | apply pt4 | apply pt5 | apply pt6 | apply pt7 | apply pt8 | apply pt9 | apply pt10 | apply pt11 | apply pt12 | apply pt13 | apply pt14 | apply pt15 | apply pt16 | apply pt17))) (by (repeat (first | exact ro_nil | exact ro_rest (by assumption) | refine ro_cons (by first | exact .inl (by assumption) | exact ro_f0 (fun _ h => h) | exact ro_f0 (fun _ => slc_rsl) | exact ro_f1 (fun _ h => h) | exact ro_f1 (fun _ => slc_rsl) | exact ro_f2 (fun _ h => h) | exact ro_f2 (fun _ => slc_rsl) | exact ro_f3 (fun _ h => h) | exact ro_f3 (fun _ => slc_rsl) | exact ro_f4 (fun _ h => h) | exact ro_f4 (fun _ => slc_rsl) | exact ro_f5 (fun _ h => h) | exact ro_f5 (fun _ => slc_rsl) | exact ro_f6 (fun _ h => h) | exact ro_f6 (fun _ => slc_rsl)) ?_)))) (wl_ex fun x12 hx12 => ?_)
  refine wl_c (fun _ _ => want_none) rfl (yc_spec (fst := []) (cap := []) _ FN28 (sorted_c mb x12 t.m (by omega) hkl) rfl rfl rfl (by (repeat (first | exact pt_nil | apply pt0 | apply pt1 | apply pt2 | apply pt3 | apply pt4 | apply pt5 | apply pt6 | apply pt7 | apply pt8 | apply pt9 | apply pt10 | apply pt11 | apply pt12 | apply pt13 | apply pt14 | apply pt15 | apply pt16 | apply pt17))) (by (repeat (first | exact ro_nil | exact ro_rest (by assumption) | refine ro_cons (by first | exact .inl (by assumption) | exact ro_f0 (fun _ h => h) | exact ro_f0 (fun _ => slc_rsl) | exact ro_f1 (fun _ h => h) | exact ro_f1 (fun _ => slc_rsl) | exact ro_f2 (fun _ h => h) | exact ro_f2 (fun _ => slc_rsl) | exact ro_f3 (fun _ h => h) | exact ro_f3 (fun _ => slc_rsl) | exact ro_f4 (fun _ h => h) | exact ro_f4 (fun _ => slc_rsl) | exact ro_f5 (fun _ h => h) | exact ro_f5 (fun _ => slc_rsl) | exact ro_f6 (fun _ h => h) | exact ro_f6 (fun _ => slc_rsl)) ?_)))) (wl_ex fun x13 hx13 => ?_)
  refine wl_y rfl (y_lenSl Try.underlying63 rfl) ?_
  refine wl_y rfl (y_move rfl) ?_
  refine wl_nil ?_
  refine wq_then ?_
  refine wc_block ?_
  refine wc_loop (α := Nat × Option Addr × Nat) (fun y => y.1 ≤ t.m.length) [(0, _), (13, _), (14, _)] (fun y => [(15, vI y.1), (3, .slice y.2.1 y.1 y.2.2)]) (fun y => Hp w0 K (slc 30 6 y.2.1 y.1 y.2.2 ((t.srt.take y.1).flatMap encL) :: slc 9 1 x13.1 t.m.length x13.2 ((srtK t.m).map vS) :: blk x12 (.cells #[.map (some mb)] 54 (0, 0)) :: tbAs b t mb)) (fun y => t.m.length - y.1) (0, none, 0) ?_ ⟨rfl, rfl, rfl, rfl, rfl, trivial⟩ ?_ ?_
  · exact Nat.zero_le _
  · exact fun w hw => Hp.addNil [] _ (hw.sub (by (repeat (first | exact pt_nil | apply pt0 | apply pt1 | apply pt2 | apply pt3 | apply pt4 | apply pt5 | apply pt6 | apply pt7 | apply pt8 | apply pt9 | apply pt10 | apply pt11 | apply pt12 | apply pt13 | apply pt14 | apply pt15 | apply pt16 | apply pt17))))
  · rintro ⟨i, o, c⟩ hi; simp only at hi
    refine wc_seq ?_
    refine wc_region ?_
    refine wl_y rfl (y_lss rfl rfl) ?_
    refine wl_nil ?_
    refine wq_then ?_
    refine wc_seq ?_
    refine wc_cond rfl (fun hc16 => ?_) (fun hc16 => ?_)
    ·
      simp at hc16
      refine wc_skip ?_
      refine wq_then ?_
      refine wc_seq ?_
      refine wc_block ?_
      refine wc_seq ?_
      refine wc_region ?_
      obtain ⟨k, hk⟩ : ∃ k, (srtK t.m)[i]? = some k := ⟨_, List.getElem?_eq_getElem (by rw [srtK_len]; omega)⟩
      have hx := Tb.srt_get hk
      refine wl_y rfl (y_indexAddr (i := i) Try.underlying63 T9 rfl rfl rfl (by omega) (fun w hw => hw.slc_isSome [_] (by omega))) ?_
      refine wl_y rfl (y_load NA9 rfl (cell_own [_] (row_get hk))) ?_
      refine wl_y rfl (y_assign rfl) ?_
      refine wl_nil ?_
      refine wq_then ?_
      refine wc_region ?_
      refine wl_y rfl (y_move rfl) ?_
      refine wl_y rfl (y_move rfl) ?_
      refine wl_y rfl (y_nilCheck rfl) ?_
      refine wl_y rfl (y_fieldAddr F56_2 rfl) ?_
      refine wl_y rfl (y_load NA54 rfl (by first | exact cell_blk [] rfl | exact cell_blk [_] rfl | exact cell_blk [_, _] rfl | exact cell_blk [_, _, _] rfl | exact cell_blk [_, _, _, _] rfl | exact cell_blk [_, _, _, _, _] rfl | exact cell_blk [_, _, _, _, _, _] rfl | exact cellR_blk (by assumption) rfl)) ?_
      refine wl_y rfl (y_move rfl) ?_
      refine wl_y rfl (y_lookup Try.underlying54 (keyE_str Try.underlying9) T30 rfl rfl (by first | exact fun w hw => hw.seen [] | exact fun w hw => hw.seen [_] | exact fun w hw => hw.seen [_, _] | exact fun w hw => hw.seen [_, _, _] | exact fun w hw => hw.seen [_, _, _, _] | exact fun w hw => hw.seen [_, _, _, _, _] | exact fun w hw => hw.seen [_, _, _, _, _, _] | exact fun w hw => Seen.rngMap (hw.seen []) | exact fun w hw => Seen.rngMap (hw.seen [_]) | exact fun w hw => Seen.rngMap (hw.seen [_, _]) | exact fun w hw => Seen.rngMap (hw.seen [_, _, _]) | exact fun w hw => Seen.rngMap (hw.seen [_, _, _, _]) | exact fun w hw => Seen.rngMap (hw.seen [_, _, _, _, _]) | exact fun w hw => Seen.rngMap (hw.seen [_, _, _, _, _, _]))) ?_
      refine wl_same 25 (agL ((mget t.m k).getD noL)) rfl (look_get t.m k) ?_
      refine wl_w (fun _ _ => want_none) rfl (yw_buildSlice (cs := [_, _, _, _, _, _]) Try.underlying36 T30 rfl rfl rfl rfl rfl rfl rfl) (wl_ex fun b26 _ => ?_)
      refine wl_w (fun _ _ => want_none) rfl (yw_append [_] Try.underlying36 Try.underlying36 (.inl ⟨_, rfl⟩) T30 rfl rfl rfl (fun w hw => Src.slice ((hw.seen []).mono fun _ => slc_rsl)) (by omega) (by unfold maxLen; omega) (by simp [Value.oneCell']) rfl) (wl_ex fun p27 hp27 => ?_)
      refine wl_y rfl (y_assign rfl) ?_
      refine wl_nil ?_
      refine wq_block_normal ?_
      refine wq_then ?_
      refine wc_region ?_
      refine wl_y rfl (y_add rfl rfl (by omega)) ?_
      refine wl_y rfl (y_move rfl) ?_
      refine wl_nil ?_
      exact wq_round (i + 1, p27.1, p27.2) (by simp only; omega) (by simp only; omega) ⟨rfl, rfl, rfl, rfl, rfl, trivial⟩ (fun w hw => by rw [← rows_succ hx]; exact hw.drop)
    ·
      simp at hc16
      refine wc_exit ?_
      refine wq_then_exit (wq_then_exit (wq_block_exit ?_))
      refine wq_then ?_
      refine wc_seq ?_
      refine wc_region ?_
      refine wl_y rfl (y_move rfl) ?_
      refine wl_y rfl (y_assign rfl) ?_
      refine wl_nil ?_
      refine wq_then ?_
      refine wc_ret ?_
      refine wq_ret1 rfl rfl (fun w hw => ?_)
      obtain rfl : i = t.m.length := by omega
      refine ⟨(o, c), trivial, rfl, ?_⟩
      simp only at hw
      rw [List.take_of_length_le (by rw [Tb.srt_len]; exact Nat.le_refl _)] at hw
      exact tb_shut mb (hw.sub (by (repeat (first | exact pt_nil | apply pt0 | apply pt1 | apply pt2 | apply pt3 | apply pt4 | apply pt5 | apply pt6 | apply pt7 | apply pt8 | apply pt9 | apply pt10 | apply pt11 | apply pt12 | apply pt13 | apply pt14 | apply pt15 | apply pt16 | apply pt17))))

set_option maxHeartbeats 1000000 in
theorem list_nil  :
    Ctr Try.prog 12 #[.pointer none] [] [] (fun _ : Unit => True) (fun _ => .slice none 0 0) (fun _ => []) := by
  refine spec_start (n := 30) [(0, .pointer none)] Try.func12 rfl rfl ⟨rfl, trivial⟩ rfl ?_
  intro w0 K hR
  refine wc_seq ?_
  refine wc_region ?_
  refine wl_y rfl (y_assign rfl) ?_
  refine wl_nil ?_
  refine wq_then ?_
  refine wc_seq ?_
  refine wc_seq ?_
  refine wc_region ?_
  refine wl_y rfl (y_move rfl) ?_
  refine wl_y rfl (y_eqlP Try.underlying22 rfl rfl) ?_
  refine wl_nil ?_
  refine wq_then ?_
  refine wc_known 7 true rfl (rfl) ?_
  refine wc_cond_true rfl ?_
  refine wc_seq ?_
  refine wc_region ?_
  refine wl_y rfl (y_assign rfl) ?_
  refine wl_nil ?_
  refine wq_then ?_
  refine wc_ret ?_
  refine wq_then_ret ?_
  refine wq_ret1 rfl rfl (fun w hw => ?_)
  exact ⟨(), trivial, rfl, hw⟩

end Go.Proofs.Ytjcegolhokfkoaa
