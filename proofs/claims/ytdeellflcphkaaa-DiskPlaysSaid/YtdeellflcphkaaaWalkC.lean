/-
  Walks: files are laid, taken, found.
-/
import Derived.Test.YtdeellflcphkaaaWalkB
namespace Go.Proofs.Ytdeellflcphkaaa
open Go.Eng

theorem look_get (d : Dk) (s : Str) : lookV false agFi (agFi noF) (mget d.m s) = agFi (d.get s) := by unfold Dk.get; cases mget d.m s <;> rfl
set_option maxHeartbeats 1000000 in
theorem lay_c (b : Nat) (d : Dk) (mb : Nat) (s : Str) (f : Fi) (h1 : 0 ≤ d.size ∧ d.size ≤ 1000000000) (h2 : (f.data.length : Int) ≤ 1000000000) (h3 : ((d.get s).data.length : Int) ≤ 1000000000) :
    Ctr Try.prog 34 #[ptr b, vS s, agFi f] [] (dkAs b d mb) (fun _ : Unit => True) (fun _ => .tuple #[]) (fun _ => (dkAs b (d.lay s f) mb)) := by
  refine spec_start (n := 31) [(0, ptr b), (1, vS s), (2, agFi f)] Try.func34 rfl rfl ⟨rfl, rfl, rfl, trivial⟩ rfl ?_
  intro w0 K hR
  obtain ⟨h1a, h1b⟩ := h1
  refine wc_seq ?_
  refine wc_region ?_
  refine wl_w (fun _ _ => want_none) rfl (yw_box rfl rfl) (wl_ex fun b5 _ => ?_)
  refine wl_nil ?_
  refine wq_then ?_
  refine wc_seq ?_
  refine wc_mix (.q 0 0 (.q 1 0 (.q 2 0 (.q 3 1 (.q 4 0 (.q 5 1 (.q 6 0 (.q 7 0 (.q 8 0 (.q 9 0 (.q 10 1 (.q 11 0 (.q 12 1 (.q 13 0 (.q 14 0 (.q 15 0 (.q 16 0 (.q 17 0 (.q 18 0 (.w 19 2 .nil .nil)))))))))))))))))))) (fun _ => True) MO (by kernel_rfl) (Hp.drawless _ _ _) (fun _ _ => trivial) ?_
  refine wm_g rfl rfl (y_move rfl) ?_
  refine wm_g rfl rfl (y_nilCheck rfl) ?_
  refine wm_g rfl rfl (y_fieldAddr F54_2 rfl) ?_
  refine wm_l rfl rfl (y_load NA3 rfl (by first | exact cell_blk [] rfl | exact cell_blk [_] rfl | exact cell_blk [_, _] rfl | exact cell_blk [_, _, _] rfl | exact cell_blk [_, _, _, _] rfl | exact cellR_blk (by assumption) rfl)) ?_
  refine wm_g rfl rfl (y_fieldAddr F58_0 rfl) ?_
  refine wm_l rfl rfl (y_load NA9 rfl (by first | exact cell_blk [] rfl | exact cell_blk [_] rfl | exact cell_blk [_, _] rfl | exact cell_blk [_, _, _] rfl | exact cell_blk [_, _, _, _] rfl | exact cellR_blk (by assumption) rfl)) ?_
  refine wm_g rfl rfl (y_lenS Try.underlying9 rfl) ?_
  refine wm_g rfl rfl (y_move rfl) ?_
  refine wm_g rfl rfl (y_nilCheck rfl) ?_
  refine wm_g rfl rfl (y_fieldAddr F54_1 rfl) ?_
  refine wm_l rfl rfl (y_load NA52 rfl (by first | exact cell_blk [] rfl | exact cell_blk [_] rfl | exact cell_blk [_, _] rfl | exact cell_blk [_, _, _] rfl | exact cell_blk [_, _, _, _] rfl | exact cellR_blk (by assumption) rfl)) ?_
  refine wm_g rfl rfl (y_move rfl) ?_
  refine wm_l rfl rfl (y_lookup Try.underlying52 (keyE_str Try.underlying9) T58 rfl rfl (by first | exact fun w hw => hw.seen [] | exact fun w hw => hw.seen [_] | exact fun w hw => hw.seen [_, _] | exact fun w hw => hw.seen [_, _, _] | exact fun w hw => hw.seen [_, _, _, _] | exact fun w hw => Seen.rngMap (hw.seen []) | exact fun w hw => Seen.rngMap (hw.seen [_]) | exact fun w hw => Seen.rngMap (hw.seen [_, _]) | exact fun w hw => Seen.rngMap (hw.seen [_, _, _]) | exact fun w hw => Seen.rngMap (hw.seen [_, _, _, _]))) ?_
  refine wm_same 18 (agFi (d.get s)) rfl (look_get d s) ?_
  refine wm_g rfl rfl (y_field Try.underlying58 rfl NA9 rfl rfl rfl) ?_
  refine wm_g rfl rfl (y_lenS Try.underlying9 rfl) ?_
  refine wm_g rfl rfl (y_sub rfl rfl (by omega)) ?_
  refine wm_g rfl rfl (y_add rfl rfl (by omega)) ?_
  refine wm_g rfl rfl (y_nilCheck rfl) ?_
  refine wm_g rfl rfl (y_fieldAddr F54_2 rfl) ?_
  first | refine wm_u rfl (fun _ _ => trivial) (yu_store [] (l' := [_, _, _, _, _]) T3 rfl rfl rfl rfl rfl rfl rfl) ?_ | refine wm_u rfl (fun _ _ => trivial) (yu_store [_] (l' := [_, _, _, _, _]) T3 rfl rfl rfl rfl rfl rfl rfl) ?_ | refine wm_u rfl (fun _ _ => trivial) (yu_store [_, _] (l' := [_, _, _, _, _]) T3 rfl rfl rfl rfl rfl rfl rfl) ?_ | refine wm_u rfl (fun _ _ => trivial) (yu_store [_, _, _] (l' := [_, _, _, _, _]) T3 rfl rfl rfl rfl rfl rfl rfl) ?_ | refine wm_u rfl (fun _ _ => trivial) (yu_store [_, _, _, _] (l' := [_, _, _, _, _]) T3 rfl rfl rfl rfl rfl rfl rfl) ?_
  refine wm_nil ?_
  refine all_wq ?_
  refine wq_then ?_
  refine wc_mix (.q 0 0 (.q 1 0 (.q 2 0 (.q 3 1 (.q 4 0 (.q 5 1 (.w 6 2 .nil .nil))))))) (fun _ => True) MO (by kernel_rfl) (Hp.drawless _ _ _) (fun _ _ => trivial) ?_
  refine wm_g rfl rfl (y_move rfl) ?_
  refine wm_g rfl rfl (y_nilCheck rfl) ?_
  refine wm_g rfl rfl (y_fieldAddr F54_1 rfl) ?_
  refine wm_l rfl rfl (y_load NA52 rfl (by first | exact cell_blk [] rfl | exact cell_blk [_] rfl | exact cell_blk [_, _] rfl | exact cell_blk [_, _, _] rfl | exact cell_blk [_, _, _, _] rfl | exact cellR_blk (by assumption) rfl)) ?_
  refine wm_g rfl rfl (y_move rfl) ?_
  refine wm_l rfl rfl (y_loadAgg (l := [_, _]) AG58 rfl rfl (by first | exact cells_blk [] rfl | exact cells_blk [_] rfl | exact cells_blk [_, _] rfl | exact cells_blk [_, _, _] rfl | exact cells_blk [_, _, _, _] rfl | exact cellsR_blk (by assumption) rfl)) ?_
  first | refine wm_u rfl (fun _ _ => trivial) (yu_mapUpdate [] Try.underlying52 (keyE_str Try.underlying9) rfl rfl rfl) ?_ | refine wm_u rfl (fun _ _ => trivial) (yu_mapUpdate [_] Try.underlying52 (keyE_str Try.underlying9) rfl rfl rfl) ?_ | refine wm_u rfl (fun _ _ => trivial) (yu_mapUpdate [_, _] Try.underlying52 (keyE_str Try.underlying9) rfl rfl rfl) ?_ | refine wm_u rfl (fun _ _ => trivial) (yu_mapUpdate [_, _, _] Try.underlying52 (keyE_str Try.underlying9) rfl rfl rfl) ?_ | refine wm_u rfl (fun _ _ => trivial) (yu_mapUpdate [_, _, _, _] Try.underlying52 (keyE_str Try.underlying9) rfl rfl rfl) ?_
  refine wm_nil ?_
  refine all_wq ?_
  refine wq_end0 rfl (fun w hw => ?_)
  exact ⟨(), trivial, rfl, hw.sub (by (repeat (first | exact pt_nil | apply pt0 | apply pt1 | apply pt2 | apply pt3 | apply pt4 | apply pt5 | apply pt6 | apply pt7 | apply pt8 | apply pt9 | apply pt10 | apply pt11 | apply pt12 | apply pt13 | apply pt14 | apply pt15 | apply pt16 | apply pt17)))⟩

set_option maxHeartbeats 1000000 in
theorem take_c (b : Nat) (d : Dk) (mb : Nat) (s : Str) (h1 : 0 ≤ d.size ∧ d.size ≤ 1000000000) (h3 : ((d.get s).data.length : Int) ≤ 1000000000) :
    Ctr Try.prog 36 #[ptr b, vS s] [] (dkAs b d mb) (fun _ : Unit => True) (fun _ => .tuple #[]) (fun _ => (dkAs b (d.take s) mb)) := by
  refine spec_start (n := 24) [(0, ptr b), (1, vS s)] Try.func36 rfl rfl ⟨rfl, rfl, trivial⟩ rfl ?_
  intro w0 K hR
  obtain ⟨h1a, h1b⟩ := h1
  refine wc_seq ?_
  refine wc_mix (.q 0 0 (.q 1 0 (.q 2 0 (.q 3 1 (.q 4 0 (.q 5 0 (.q 6 0 (.q 7 1 (.q 8 0 (.q 9 1 (.q 10 0 (.q 11 0 (.q 12 0 (.q 13 0 (.q 14 0 (.w 15 2 .nil .nil)))))))))))))))) (fun _ => True) MO (by kernel_rfl) (Hp.drawless _ _ _) (fun _ _ => trivial) ?_
  refine wm_g rfl rfl (y_move rfl) ?_
  refine wm_g rfl rfl (y_nilCheck rfl) ?_
  refine wm_g rfl rfl (y_fieldAddr F54_2 rfl) ?_
  refine wm_l rfl rfl (y_load NA3 rfl (by first | exact cell_blk [] rfl | exact cell_blk [_] rfl | exact cell_blk [_, _] rfl | exact cell_blk [_, _, _] rfl | exact cell_blk [_, _, _, _] rfl | exact cellR_blk (by assumption) rfl)) ?_
  refine wm_g rfl rfl (y_move rfl) ?_
  refine wm_g rfl rfl (y_nilCheck rfl) ?_
  refine wm_g rfl rfl (y_fieldAddr F54_1 rfl) ?_
  refine wm_l rfl rfl (y_load NA52 rfl (by first | exact cell_blk [] rfl | exact cell_blk [_] rfl | exact cell_blk [_, _] rfl | exact cell_blk [_, _, _] rfl | exact cell_blk [_, _, _, _] rfl | exact cellR_blk (by assumption) rfl)) ?_
  refine wm_g rfl rfl (y_move rfl) ?_
  refine wm_l rfl rfl (y_lookup Try.underlying52 (keyE_str Try.underlying9) T58 rfl rfl (by first | exact fun w hw => hw.seen [] | exact fun w hw => hw.seen [_] | exact fun w hw => hw.seen [_, _] | exact fun w hw => hw.seen [_, _, _] | exact fun w hw => hw.seen [_, _, _, _] | exact fun w hw => Seen.rngMap (hw.seen []) | exact fun w hw => Seen.rngMap (hw.seen [_]) | exact fun w hw => Seen.rngMap (hw.seen [_, _]) | exact fun w hw => Seen.rngMap (hw.seen [_, _, _]) | exact fun w hw => Seen.rngMap (hw.seen [_, _, _, _]))) ?_
  refine wm_same 13 (agFi (d.get s)) rfl (look_get d s) ?_
  refine wm_g rfl rfl (y_field Try.underlying58 rfl NA9 rfl rfl rfl) ?_
  refine wm_g rfl rfl (y_lenS Try.underlying9 rfl) ?_
  refine wm_g rfl rfl (y_sub rfl rfl (by omega)) ?_
  refine wm_g rfl rfl (y_nilCheck rfl) ?_
  refine wm_g rfl rfl (y_fieldAddr F54_2 rfl) ?_
  first | refine wm_u rfl (fun _ _ => trivial) (yu_store [] (l' := [_, _, _, _, _]) T3 rfl rfl rfl rfl rfl rfl rfl) ?_ | refine wm_u rfl (fun _ _ => trivial) (yu_store [_] (l' := [_, _, _, _, _]) T3 rfl rfl rfl rfl rfl rfl rfl) ?_ | refine wm_u rfl (fun _ _ => trivial) (yu_store [_, _] (l' := [_, _, _, _, _]) T3 rfl rfl rfl rfl rfl rfl rfl) ?_ | refine wm_u rfl (fun _ _ => trivial) (yu_store [_, _, _] (l' := [_, _, _, _, _]) T3 rfl rfl rfl rfl rfl rfl rfl) ?_ | refine wm_u rfl (fun _ _ => trivial) (yu_store [_, _, _, _] (l' := [_, _, _, _, _]) T3 rfl rfl rfl rfl rfl rfl rfl) ?_
  refine wm_nil ?_
  refine all_wq ?_
  refine wq_then ?_
  refine wc_region ?_
  refine wl_y rfl (y_move rfl) ?_
  refine wl_y rfl (y_nilCheck rfl) ?_
  refine wl_y rfl (y_fieldAddr F54_1 rfl) ?_
  refine wl_y rfl (y_load NA52 rfl (by first | exact cell_blk [] rfl | exact cell_blk [_] rfl | exact cell_blk [_, _] rfl | exact cell_blk [_, _, _] rfl | exact cell_blk [_, _, _, _] rfl | exact cellR_blk (by assumption) rfl)) ?_
  refine wl_y rfl (y_move rfl) ?_
  first | refine yu_delete [] Try.underlying52 (keyE_str Try.underlying9) rfl rfl ?_ | refine yu_delete [_] Try.underlying52 (keyE_str Try.underlying9) rfl rfl ?_ | refine yu_delete [_, _] Try.underlying52 (keyE_str Try.underlying9) rfl rfl ?_ | refine yu_delete [_, _, _] Try.underlying52 (keyE_str Try.underlying9) rfl rfl ?_ | refine yu_delete [_, _, _, _] Try.underlying52 (keyE_str Try.underlying9) rfl rfl ?_
  refine wl_nil ?_
  refine wq_end0 rfl (fun w hw => ?_)
  exact ⟨(), trivial, rfl, hw.sub (by (repeat (first | exact pt_nil | apply pt0 | apply pt1 | apply pt2 | apply pt3 | apply pt4 | apply pt5 | apply pt6 | apply pt7 | apply pt8 | apply pt9 | apply pt10 | apply pt11 | apply pt12 | apply pt13 | apply pt14 | apply pt15 | apply pt16 | apply pt17)))⟩

set_option maxHeartbeats 1000000 in
theorem find_c (b : Nat) (d : Dk) (mb : Nat) (s : Str) :
    Ctr Try.prog 35 #[ptr b, vS s] [] (dkAs b d mb) (fun _ : Unit => True) (fun _ => .tuple #[agFi (d.find s).1, vI (d.find s).2]) (fun _ => (dkAs b d mb)) := by
  refine spec_start (n := 30) [(0, ptr b), (1, vS s)] Try.func35 rfl rfl ⟨rfl, rfl, trivial⟩ rfl ?_
  intro w0 K hR
  refine wc_seq ?_
  refine wc_region ?_
  refine wl_w (fun _ _ => want_none) rfl (yw_alloc T58 rfl) (wl_ex fun b4 _ => ?_)
  refine wl_y rfl (y_assign rfl) ?_
  refine wl_nil ?_
  refine wq_then ?_
  refine wc_seq ?_
  refine wc_seq ?_
  refine wc_region ?_
  refine wl_y rfl (y_move rfl) ?_
  refine wl_y rfl (y_move rfl) ?_
  refine wl_w (fun _ _ => want_none) rfl (yw_buildSlice (cs := ([s] : List Str).map vS) Try.underlying32 T9 rfl rfl rfl rfl rfl rfl rfl) (wl_ex fun b11 _ => ?_)
  refine wl_q (fun _ _ => want_none) rfl (yq_spec (fst := []) (cap := []) _ FN32 (wrong_c b d mb [s] (some ⟨b11, 0, none⟩) 1 (by simp)) rfl rfl rfl (by (repeat (first | exact pt_nil | apply pt0 | apply pt1 | apply pt2 | apply pt3 | apply pt4 | apply pt5 | apply pt6 | apply pt7 | apply pt8 | apply pt9 | apply pt10 | apply pt11 | apply pt12 | apply pt13 | apply pt14 | apply pt15 | apply pt16 | apply pt17))) (by (repeat (first | exact ro_nil | exact ro_rest (by assumption) | refine ro_cons (by first | exact .inl (by assumption) | exact ro_f0 (fun _ h => h) | exact ro_f0 (fun _ => slc_rsl) | exact ro_f1 (fun _ h => h) | exact ro_f1 (fun _ => slc_rsl) | exact ro_f2 (fun _ h => h) | exact ro_f2 (fun _ => slc_rsl) | exact ro_f3 (fun _ h => h) | exact ro_f3 (fun _ => slc_rsl) | exact ro_f4 (fun _ h => h) | exact ro_f4 (fun _ => slc_rsl) | exact ro_f5 (fun _ h => h) | exact ro_f5 (fun _ => slc_rsl) | exact ro_f6 (fun _ h => h) | exact ro_f6 (fun _ => slc_rsl)) ?_))) (fun _ _ => rfl) (fun _ _ _ h => h.sub (by (repeat (first | exact pt_nil | apply pt0 | apply pt1 | apply pt2 | apply pt3 | apply pt4 | apply pt5 | apply pt6 | apply pt7 | apply pt8 | apply pt9 | apply pt10 | apply pt11 | apply pt12 | apply pt13 | apply pt14 | apply pt15 | apply pt16 | apply pt17))))) ?_
  refine wl_y rfl (y_assign rfl) ?_
  refine wl_nil ?_
  refine wq_then ?_
  refine wc_seq ?_
  refine wc_region ?_
  refine wl_y rfl (y_move rfl) ?_
  refine wl_y rfl (y_neqI rfl rfl) ?_
  refine wl_nil ?_
  refine wq_then ?_
  refine wc_cond rfl (fun hc14 => ?_) (fun hc14 => ?_)
  ·
    simp at hc14
    refine wc_seq ?_
    refine wc_region ?_
    refine wl_y rfl (y_build (cs := [_, _]) T58 PL58 rfl rfl rfl) ?_
    refine wl_y rfl (y_move rfl) ?_
    first | refine wl_u (yu_storeAgg [] (l' := [_, _]) T58 rfl rfl rfl (by simp [Value.oneCell', encFi]) rfl rfl) ?_ | refine wl_u (yu_storeAgg [_] (l' := [_, _]) T58 rfl rfl rfl (by simp [Value.oneCell', encFi]) rfl rfl) ?_ | refine wl_u (yu_storeAgg [_, _] (l' := [_, _]) T58 rfl rfl rfl (by simp [Value.oneCell', encFi]) rfl rfl) ?_ | refine wl_u (yu_storeAgg [_, _, _] (l' := [_, _]) T58 rfl rfl rfl (by simp [Value.oneCell', encFi]) rfl rfl) ?_ | refine wl_u (yu_storeAgg [_, _, _, _] (l' := [_, _]) T58 rfl rfl rfl (by simp [Value.oneCell', encFi]) rfl rfl) ?_ | refine wl_u (yu_storeAgg [_, _, _, _, _] (l' := [_, _]) T58 rfl rfl rfl (by simp [Value.oneCell', encFi]) rfl rfl) ?_
    refine wl_y rfl (y_assign rfl) ?_
    refine wl_nil ?_
    refine wq_then ?_
    refine wc_ret ?_
    refine wq_then_ret ?_
    refine wq_retC2 (l := [_, _]) AG58 rfl rfl rfl rfl (by first | exact cells_blk [] rfl | exact cells_blk [_] rfl | exact cells_blk [_, _] rfl | exact cells_blk [_, _, _] rfl | exact cells_blk [_, _, _, _] rfl | exact cells_blk [_, _, _, _, _] rfl) (fun w hw => ?_)
    exact ⟨(), trivial, by simp only [Dk.find, if_neg hc14], hw.sub (by (repeat (first | exact pt_nil | apply pt0 | apply pt1 | apply pt2 | apply pt3 | apply pt4 | apply pt5 | apply pt6 | apply pt7 | apply pt8 | apply pt9 | apply pt10 | apply pt11 | apply pt12 | apply pt13 | apply pt14 | apply pt15 | apply pt16 | apply pt17)))⟩
  ·
    simp at hc14
    refine wc_skip ?_
    refine wq_then ?_
    refine wc_seq ?_
    refine wc_region ?_
    rcases hg : mget d.m s with _ | f
    ·
      refine wl_y rfl (y_move rfl) ?_
      refine wl_y rfl (y_nilCheck rfl) ?_
      refine wl_y rfl (y_fieldAddr F54_1 rfl) ?_
      refine wl_y rfl (y_load NA52 rfl (by first | exact cell_blk [] rfl | exact cell_blk [_] rfl | exact cell_blk [_, _] rfl | exact cell_blk [_, _, _] rfl | exact cell_blk [_, _, _, _] rfl | exact cell_blk [_, _, _, _, _] rfl | exact cellR_blk (by assumption) rfl)) ?_
      refine wl_y rfl (y_move rfl) ?_
      refine wl_y rfl (y_lookup Try.underlying52 (keyE_str Try.underlying9) T58 rfl rfl (by first | exact fun w hw => hw.seen [] | exact fun w hw => hw.seen [_] | exact fun w hw => hw.seen [_, _] | exact fun w hw => hw.seen [_, _, _] | exact fun w hw => hw.seen [_, _, _, _] | exact fun w hw => hw.seen [_, _, _, _, _] | exact fun w hw => Seen.rngMap (hw.seen []) | exact fun w hw => Seen.rngMap (hw.seen [_]) | exact fun w hw => Seen.rngMap (hw.seen [_, _]) | exact fun w hw => Seen.rngMap (hw.seen [_, _, _]) | exact fun w hw => Seen.rngMap (hw.seen [_, _, _, _]) | exact fun w hw => Seen.rngMap (hw.seen [_, _, _, _, _]))) ?_
      refine wl_same 23 (.tuple #[agFi noF, vB false]) rfl (by rw [hg]; rfl) ?_
      refine wl_y rfl (y_move rfl) ?_
      refine wl_y rfl (y_extract rfl rfl) ?_
      refine wl_y rfl (y_extract rfl rfl) ?_
      refine wl_w (fun _ _ => want_none) rfl (yw_alloc T58 rfl) (wl_ex fun b7 _ => ?_)
      first | refine wl_u (yu_storeAgg [] (l' := [_, _]) T58 rfl rfl rfl (by simp [Value.oneCell', encFi]) rfl rfl) ?_ | refine wl_u (yu_storeAgg [_] (l' := [_, _]) T58 rfl rfl rfl (by simp [Value.oneCell', encFi]) rfl rfl) ?_ | refine wl_u (yu_storeAgg [_, _] (l' := [_, _]) T58 rfl rfl rfl (by simp [Value.oneCell', encFi]) rfl rfl) ?_ | refine wl_u (yu_storeAgg [_, _, _] (l' := [_, _]) T58 rfl rfl rfl (by simp [Value.oneCell', encFi]) rfl rfl) ?_ | refine wl_u (yu_storeAgg [_, _, _, _] (l' := [_, _]) T58 rfl rfl rfl (by simp [Value.oneCell', encFi]) rfl rfl) ?_ | refine wl_u (yu_storeAgg [_, _, _, _, _] (l' := [_, _]) T58 rfl rfl rfl (by simp [Value.oneCell', encFi]) rfl rfl) ?_
      refine wl_y rfl (y_assign rfl) ?_
      refine wl_nil ?_
      refine wq_then ?_
      refine wc_seq ?_
      refine wc_seq ?_
      refine wc_region ?_
      refine wl_y rfl (y_move rfl) ?_
      refine wl_y rfl (y_not rfl) ?_
      refine wl_nil ?_
      refine wq_then ?_
      refine wc_known 27 true rfl (rfl) ?_
      refine wc_cond_true rfl ?_
      refine wc_seq ?_
      refine wc_region ?_
      refine wl_y rfl (y_build (cs := [_, _]) T58 PL58 rfl rfl rfl) ?_
      first | refine wl_u (yu_storeAgg [] (l' := [_, _]) T58 rfl rfl rfl (by simp [Value.oneCell', encFi]) rfl rfl) ?_ | refine wl_u (yu_storeAgg [_] (l' := [_, _]) T58 rfl rfl rfl (by simp [Value.oneCell', encFi]) rfl rfl) ?_ | refine wl_u (yu_storeAgg [_, _] (l' := [_, _]) T58 rfl rfl rfl (by simp [Value.oneCell', encFi]) rfl rfl) ?_ | refine wl_u (yu_storeAgg [_, _, _] (l' := [_, _]) T58 rfl rfl rfl (by simp [Value.oneCell', encFi]) rfl rfl) ?_ | refine wl_u (yu_storeAgg [_, _, _, _] (l' := [_, _]) T58 rfl rfl rfl (by simp [Value.oneCell', encFi]) rfl rfl) ?_ | refine wl_u (yu_storeAgg [_, _, _, _, _] (l' := [_, _]) T58 rfl rfl rfl (by simp [Value.oneCell', encFi]) rfl rfl) ?_
      refine wl_y rfl (y_assign rfl) ?_
      refine wl_nil ?_
      refine wq_then ?_
      refine wc_ret ?_
      refine wq_then_ret ?_
      refine wq_retC2 (l := [_, _]) AG58 rfl rfl rfl rfl (by first | exact cells_blk [] rfl | exact cells_blk [_] rfl | exact cells_blk [_, _] rfl | exact cells_blk [_, _, _] rfl | exact cells_blk [_, _, _, _] rfl | exact cells_blk [_, _, _, _, _] rfl) (fun w hw => ?_)
      exact ⟨(), trivial, by simp only [Dk.find, if_pos hc14, hg], hw.sub (by (repeat (first | exact pt_nil | apply pt0 | apply pt1 | apply pt2 | apply pt3 | apply pt4 | apply pt5 | apply pt6 | apply pt7 | apply pt8 | apply pt9 | apply pt10 | apply pt11 | apply pt12 | apply pt13 | apply pt14 | apply pt15 | apply pt16 | apply pt17)))⟩
    ·
      refine wl_y rfl (y_move rfl) ?_
      refine wl_y rfl (y_nilCheck rfl) ?_
      refine wl_y rfl (y_fieldAddr F54_1 rfl) ?_
      refine wl_y rfl (y_load NA52 rfl (by first | exact cell_blk [] rfl | exact cell_blk [_] rfl | exact cell_blk [_, _] rfl | exact cell_blk [_, _, _] rfl | exact cell_blk [_, _, _, _] rfl | exact cell_blk [_, _, _, _, _] rfl | exact cellR_blk (by assumption) rfl)) ?_
      refine wl_y rfl (y_move rfl) ?_
      refine wl_y rfl (y_lookup Try.underlying52 (keyE_str Try.underlying9) T58 rfl rfl (by first | exact fun w hw => hw.seen [] | exact fun w hw => hw.seen [_] | exact fun w hw => hw.seen [_, _] | exact fun w hw => hw.seen [_, _, _] | exact fun w hw => hw.seen [_, _, _, _] | exact fun w hw => hw.seen [_, _, _, _, _] | exact fun w hw => Seen.rngMap (hw.seen []) | exact fun w hw => Seen.rngMap (hw.seen [_]) | exact fun w hw => Seen.rngMap (hw.seen [_, _]) | exact fun w hw => Seen.rngMap (hw.seen [_, _, _]) | exact fun w hw => Seen.rngMap (hw.seen [_, _, _, _]) | exact fun w hw => Seen.rngMap (hw.seen [_, _, _, _, _]))) ?_
      refine wl_same 23 (.tuple #[agFi f, vB true]) rfl (by rw [hg]; rfl) ?_
      refine wl_y rfl (y_move rfl) ?_
      refine wl_y rfl (y_extract rfl rfl) ?_
      refine wl_y rfl (y_extract rfl rfl) ?_
      refine wl_w (fun _ _ => want_none) rfl (yw_alloc T58 rfl) (wl_ex fun b7 _ => ?_)
      first | refine wl_u (yu_storeAgg [] (l' := [_, _]) T58 rfl rfl rfl (by simp [Value.oneCell', encFi]) rfl rfl) ?_ | refine wl_u (yu_storeAgg [_] (l' := [_, _]) T58 rfl rfl rfl (by simp [Value.oneCell', encFi]) rfl rfl) ?_ | refine wl_u (yu_storeAgg [_, _] (l' := [_, _]) T58 rfl rfl rfl (by simp [Value.oneCell', encFi]) rfl rfl) ?_ | refine wl_u (yu_storeAgg [_, _, _] (l' := [_, _]) T58 rfl rfl rfl (by simp [Value.oneCell', encFi]) rfl rfl) ?_ | refine wl_u (yu_storeAgg [_, _, _, _] (l' := [_, _]) T58 rfl rfl rfl (by simp [Value.oneCell', encFi]) rfl rfl) ?_ | refine wl_u (yu_storeAgg [_, _, _, _, _] (l' := [_, _]) T58 rfl rfl rfl (by simp [Value.oneCell', encFi]) rfl rfl) ?_
      refine wl_y rfl (y_assign rfl) ?_
      refine wl_nil ?_
      refine wq_then ?_
      refine wc_seq ?_
      refine wc_seq ?_
      refine wc_region ?_
      refine wl_y rfl (y_move rfl) ?_
      refine wl_y rfl (y_not rfl) ?_
      refine wl_nil ?_
      refine wq_then ?_
      refine wc_known 27 false rfl (rfl) ?_
      refine wc_cond_false rfl ?_
      refine wc_skip ?_
      refine wq_then ?_
      refine wc_seq ?_
      refine wc_region ?_
      refine wl_y rfl (y_loadAgg (l := [_, _]) AG58 rfl rfl (by first | exact cells_blk [] rfl | exact cells_blk [_] rfl | exact cells_blk [_, _] rfl | exact cells_blk [_, _, _] rfl | exact cells_blk [_, _, _, _] rfl | exact cells_blk [_, _, _, _, _] rfl | exact cellsR_blk (by assumption) rfl)) ?_
      first | refine wl_u (yu_storeAgg [] (l' := [_, _]) T58 rfl rfl rfl (by simp [Value.oneCell', encFi]) rfl rfl) ?_ | refine wl_u (yu_storeAgg [_] (l' := [_, _]) T58 rfl rfl rfl (by simp [Value.oneCell', encFi]) rfl rfl) ?_ | refine wl_u (yu_storeAgg [_, _] (l' := [_, _]) T58 rfl rfl rfl (by simp [Value.oneCell', encFi]) rfl rfl) ?_ | refine wl_u (yu_storeAgg [_, _, _] (l' := [_, _]) T58 rfl rfl rfl (by simp [Value.oneCell', encFi]) rfl rfl) ?_ | refine wl_u (yu_storeAgg [_, _, _, _] (l' := [_, _]) T58 rfl rfl rfl (by simp [Value.oneCell', encFi]) rfl rfl) ?_ | refine wl_u (yu_storeAgg [_, _, _, _, _] (l' := [_, _]) T58 rfl rfl rfl (by simp [Value.oneCell', encFi]) rfl rfl) ?_
      refine wl_y rfl (y_assign rfl) ?_
      refine wl_nil ?_
      refine wq_then ?_
      refine wc_ret ?_
      refine wq_retC2 (l := [_, _]) AG58 rfl rfl rfl rfl (by first | exact cells_blk [] rfl | exact cells_blk [_] rfl | exact cells_blk [_, _] rfl | exact cells_blk [_, _, _] rfl | exact cells_blk [_, _, _, _] rfl | exact cells_blk [_, _, _, _, _] rfl) (fun w hw => ?_)
      exact ⟨(), trivial, by simp only [Dk.find, if_pos hc14, hg], hw.sub (by (repeat (first | exact pt_nil | apply pt0 | apply pt1 | apply pt2 | apply pt3 | apply pt4 | apply pt5 | apply pt6 | apply pt7 | apply pt8 | apply pt9 | apply pt10 | apply pt11 | apply pt12 | apply pt13 | apply pt14 | apply pt15 | apply pt16 | apply pt17)))⟩

end Go.Proofs.Ytdeellflcphkaaa
