/-
  Walks: one more file in its place.
-/
import Derived.Test.YtemopomapankmaaDoorInsLaw
namespace Go.Proofs.YtemopomapankmaaDoor
open Go.Eng

set_option maxHeartbeats 1000000 in
theorem insert_c (l : List Fl) (oo : Option Addr) (cc : Nat) (i : Nat) (f : Fl) (vo : Option Addr) (vc : Nat) (hi : i ≤ l.length) (hl : l.length ≤ 1000000) :
    Ctr Tryd.prog 45 #[.slice oo l.length cc, vI i, .slice vo 1 vc] [] [slc 24 2 oo l.length cc (l.flatMap encF), slc 24 2 vo 1 vc (encF f)] (fun _ : Option Addr × Nat => True) (fun r => .slice r.1 (l.take i ++ f :: l.drop i).length r.2) (fun r => [slc 24 2 r.1 (l.take i ++ f :: l.drop i).length r.2 ((l.take i ++ f :: l.drop i).flatMap encF)]) := by
  refine spec_start (n := 95) [(0, .slice oo l.length cc), (1, vI i), (2, .slice vo 1 vc)] Tryd.func45 rfl rfl ⟨rfl, rfl, rfl, trivial⟩ rfl ?_
  intro w0 K hR
  refine wc_seq ?_
  refine wc_region ?_
  refine wl_y rfl (y_assign rfl) ?_
  refine wl_nil ?_
  refine wq_then ?_
  refine wc_seq ?_
  refine wc_region ?_
  refine wl_have (p := l.length ≤ cc) (fun w hw => hw.slc_le []) (fun hcc => ?_)
  refine wl_y rfl (y_move rfl) ?_
  refine wl_y rfl (y_move rfl) ?_
  refine wl_y rfl (y_sliceSl (i := i) (j := l.length) Tryd.underlying22 T24 rfl ⟨_, rfl, rfl⟩ rfl (by omega) (by omega)) ?_
  refine wl_nil ?_
  refine wq_then ?_
  refine wc_seq ?_
  refine wc_region ?_
  refine wl_y rfl (y_move rfl) ?_
  refine wl_y rfl (y_lenSl Tryd.underlying22 rfl) ?_
  refine wl_y rfl (y_assign rfl) ?_
  refine wl_nil ?_
  refine wq_then ?_
  refine wc_seq ?_
  refine wc_seq ?_
  refine wc_region ?_
  refine wl_y rfl (y_move rfl) ?_
  refine wl_y rfl (y_eqlI rfl rfl) ?_
  refine wl_nil ?_
  refine wq_then ?_
  refine wc_known 16 false rfl (by simp) ?_
  refine wc_cond_false rfl ?_
  refine wc_skip ?_
  refine wq_then ?_
  refine wc_seq ?_
  refine wc_region ?_
  refine wl_y rfl (y_move rfl) ?_
  refine wl_y rfl (y_lenSl Tryd.underlying22 rfl) ?_
  refine wl_y rfl (y_assign rfl) ?_
  refine wl_nil ?_
  refine wq_then ?_
  refine wc_seq ?_
  refine wc_seq ?_
  refine wc_region ?_
  refine wl_y rfl (y_move rfl) ?_
  refine wl_y rfl (y_move rfl) ?_
  refine wl_y rfl (y_eqlI rfl rfl) ?_
  refine wl_nil ?_
  refine wq_then ?_
  refine wc_cond rfl (fun hc22 => ?_) (fun hc22 => ?_)
  ·
    simp at hc22
    refine wc_seq ?_
    refine wc_region ?_
    refine wl_y rfl (y_move rfl) ?_
    refine wl_y rfl (y_move rfl) ?_
    refine wl_w (fun _ _ => want_none) rfl (yw_append [] Tryd.underlying22 Tryd.underlying22 (.inl ⟨_, rfl⟩) T24 rfl rfl rfl (fun w hw => Src.slice ((hw.seen [_]).mono fun _ => slc_rsl)) (by omega) (by unfold maxLen; omega) (encF_one f) rfl) (wl_ex fun p hp => ?_)
    refine wl_y rfl (y_assign rfl) ?_
    refine wl_nil ?_
    refine wq_then ?_
    refine wc_ret ?_
    refine wq_then_ret ?_
    refine wq_ret1 rfl rfl (fun w hw => ?_)
    have hil : i = l.length := by omega
    subst hil
    exact ⟨p, trivial, by rw [ins_end, List.length_append]; rfl, by rw [ins_end, List.length_append, List.flatMap_append, List.flatMap_singleton]; exact hw.sub (by (repeat (first | exact pt_nil | apply pt0 | apply pt1 | apply pt2 | apply pt3 | apply pt4 | apply pt5 | apply pt6 | apply pt7 | apply pt8 | apply pt9 | apply pt10 | apply pt11 | apply pt12 | apply pt13 | apply pt14 | apply pt15 | apply pt16 | apply pt17)))⟩
  ·
    simp at hc22
    refine wc_skip ?_
    refine wq_then ?_
    refine wc_seq ?_
    refine wc_seq ?_
    refine wc_region ?_
    refine wl_y rfl (y_move rfl) ?_
    refine wl_y rfl (y_move rfl) ?_
    refine wl_y rfl (y_add rfl rfl (by omega)) ?_
    refine wl_y rfl (y_move rfl) ?_
    refine wl_y rfl (y_capSl Tryd.underlying22 rfl) ?_
    refine wl_y rfl (y_gtr rfl rfl) ?_
    refine wl_nil ?_
    refine wq_then ?_
    refine wc_cond rfl (fun hc31 => ?_) (fun hc31 => ?_)
    ·
      simp at hc31
      have hil : i < l.length := by omega
      have hXl := cells_two hi
      have hYl := cells_rest hi
      refine wc_seq ?_
      refine wc_region ?_
      refine wl_y rfl (y_move rfl) ?_
      refine wl_y rfl (y_move rfl) ?_
      refine wl_y rfl (y_sliceSl (i := 0) (j := i) Tryd.underlying22 T24 rfl rfl ⟨_, rfl, rfl⟩ (by omega) (by omega)) ?_
      refine wl_y rfl (y_move rfl) ?_
      refine wl_y rfl (y_move rfl) ?_
      refine wl_y rfl (y_add rfl rfl (by omega)) ?_
      refine wl_y rfl (y_move rfl) ?_
      refine wl_y rfl (y_sub rfl rfl (by omega)) ?_
      refine wl_same 39 (vI (l.length + 1 - i : Nat)) rfl (by congr 1; omega) ?_
      refine wl_w (fun _ _ => want_none) rfl (yw_appendZ (m := l.length + 1 - i) (olds := (l.flatMap encF).take (i * 2)) Tryd.underlying22 Tryd.underlying3 T24 rfl rfl (by decide) rfl rfl rfl (by omega) (fun w hw => (Src.slice (P := Tryd.prog) ((hw.seen []).mono fun _ h => slc_rsl (slc_take i h hi))).2) (by rw [hXl]; rfl) (by omega) (by omega) (by unfold maxLen; omega)) (wl_ex fun x40 hx40 => ?_)
      refine wl_y rfl (y_assign rfl) ?_
      refine wl_nil ?_
      refine wq_then ?_
      refine wc_seq ?_
      refine wc_region ?_
      refine wl_y rfl (y_move rfl) ?_
      refine wl_y rfl (y_move rfl) ?_
      refine wl_y rfl (y_sliceSl (i := i) (j := i - 0 + (l.length + 1 - i)) Tryd.underlying22 T24 rfl ⟨_, rfl, rfl⟩ rfl (by omega) (by omega)) ?_
      refine wl_y rfl (y_move rfl) ?_
      refine wl_w (fun _ _ => want_none) rfl (yw_copy [] Tryd.underlying22 T24 rfl rfl (by omega) (fun w hw => SrcN.slice ((hw.seen [_, _]).mono fun _ h => slc_rsl h)) (fun v hv => encF_one f v (List.mem_of_mem_take hv)) (i := i) (m := 1)) (wl_ex fun x45 _ => ?_)
      refine wl_nil ?_
      refine wq_then ?_
      refine wc_seq ?_
      refine wc_mix (.q 0 0 (.q 1 0 (.q 2 0 (.q 3 0 (.q 4 0 (.q 5 0 (.q 6 0 (.q 7 0 (.w 8 2 .nil .nil))))))))) (fun _ => True) MO (by kernel_rfl) (Hp.drawless _ _ _) (fun _ _ => trivial) ?_
      refine wm_g rfl rfl (y_move rfl) ?_
      refine wm_g rfl rfl (y_move rfl) ?_
      refine wm_g rfl rfl (y_move rfl) ?_
      refine wm_g rfl rfl (y_add rfl rfl (by omega)) ?_
      refine wm_g rfl rfl (y_sliceSl (i := i + 1) (j := i - 0 + (l.length + 1 - i)) Tryd.underlying22 T24 rfl ⟨_, rfl, by omega⟩ rfl (by omega) (by omega)) ?_
      refine wm_g rfl rfl (y_move rfl) ?_
      refine wm_g rfl rfl (y_move rfl) ?_
      refine wm_g rfl rfl (y_sliceSl (i := i) (j := l.length) Tryd.underlying22 T24 rfl ⟨_, rfl, rfl⟩ rfl (by omega) (by omega)) ?_
      refine wm_w rfl rfl (fun _ _ _ => trivial) (yw_copy [] Tryd.underlying22 T24 rfl rfl (by omega) (fun w hw => SrcN.slice ((hw.seen [_]).mono fun _ h => slc_rsl (slc_cut i h (by omega)))) (fun v hv => one_drop (one_rows encF_one) v (List.mem_of_mem_take hv)) (i := i + 1) (m := l.length - i)) (wm_ex fun x54 _ => ?_)
      refine wm_nil ?_
      refine all_wq ?_
      refine wq_then ?_
      refine wc_seq ?_
      refine wc_region ?_
      refine wl_y rfl (y_move rfl) ?_
      refine wl_y rfl (y_assign rfl) ?_
      refine wl_nil ?_
      refine wq_then ?_
      refine wc_ret ?_
      refine wq_then_ret ?_
      refine wq_ret1 rfl rfl (fun w hw => ?_)
      have e1 : (encF f).take (min 1 (i - 0 + (l.length + 1 - i) - i) * 2) = encF f := List.take_of_length_le (by rw [encF_len]; omega)
      have e2 : ((l.flatMap encF).drop (i * 2)).take (min (l.length - i) (i - 0 + (l.length + 1 - i) - (i + 1)) * 2) = (l.flatMap encF).drop (i * 2) := List.take_of_length_le (by rw [hYl]; omega)
      have e3 := ins_new ((l.flatMap encF).take (i * 2)) ((l.flatMap encF).drop (i * 2)) (zeroL [vS [], vS []] (l.length + 1 - i)) (encF f) (by rw [zeroL_len2, encF_len, hYl]; omega)
      rw [hXl, encF_len, show i * 2 + 2 = (i + 1) * 2 by omega, ← ins_rows l i f hi] at e3
      have h3 : Hp w0 K [slc 24 2 (some ⟨x40.1, 0, none⟩) (i - 0 + (l.length + 1 - i)) x40.2 ((l.take i ++ f :: l.drop i).flatMap encF)] w := by
        rw [← e3]
        rw [e1, e2] at hw
        exact hw.sub (by (repeat (first | exact pt_nil | apply pt0 | apply pt1 | apply pt2 | apply pt3 | apply pt4 | apply pt5 | apply pt6 | apply pt7 | apply pt8 | apply pt9 | apply pt10 | apply pt11 | apply pt12 | apply pt13 | apply pt14 | apply pt15 | apply pt16 | apply pt17)))
      rw [show i - 0 + (l.length + 1 - i) = l.length + 1 by omega, ← ins_length l i f hi] at h3
      exact ⟨(some ⟨x40.1, 0, none⟩, x40.2), trivial, by rw [ins_length l i f hi, show i - 0 + (l.length + 1 - i) = l.length + 1 by omega], h3⟩
    ·
      simp at hc31
      have hil : i < l.length := by omega
      have hXl := cells_two hi
      have hYl := cells_rest hi
      refine wc_skip ?_
      refine wq_then ?_
      refine wc_seq ?_
      refine wc_region ?_
      refine wl_y rfl (y_move rfl) ?_
      refine wl_y rfl (y_move rfl) ?_
      refine wl_y rfl (y_move rfl) ?_
      refine wl_y rfl (y_add rfl rfl (by omega)) ?_
      refine wl_y rfl (y_sliceSl (i := 0) (j := l.length + 1) Tryd.underlying22 T24 rfl rfl ⟨_, rfl, by omega⟩ (by omega) (by omega)) ?_
      refine wl_exS (α := {t : List Value // t.length = (l.length + 1 - l.length) * 2}) (S' := fun t => Hp w0 K [slc 24 2 (cutAt oo 0 cc 2) (l.length + 1) cc (l.flatMap encF ++ t.1), slc 24 2 vo 1 vc (encF f)]) (fun w hw => Hp.ext (l.length + 1) hw (by omega) (by omega)) (fun t => ?_)
      obtain ⟨t, ht⟩ := t
      rw [show l.length + 1 - l.length = 1 by omega] at ht
      refine wl_y rfl (y_assign rfl) ?_
      refine wl_nil ?_
      refine wq_then ?_
      refine wc_seq ?_
      refine wc_seq ?_
      refine wc_region ?_
      refine wl_y rfl (y_move rfl) ?_
      refine wl_y rfl (y_move rfl) ?_
      refine wl_y rfl (y_move rfl) ?_
      refine wl_y rfl (y_move rfl) ?_
      refine wl_y rfl (y_add rfl rfl (by omega)) ?_
      refine wl_y rfl (y_sliceSl (i := i + 1) (j := l.length + 1) Tryd.underlying22 T24 rfl ⟨_, rfl, by omega⟩ rfl (by omega) (by omega)) ?_
      refine wl_y rfl (y_extern (ee := Extern.SlicesOverlaps.overlaps #[22, 22] #[4]) Tryd.func53 (by kernel_rfl) (by kernel_rfl) (by kernel_rfl) (by kernel_rfl) rfl rfl (fun w hw => run_overlaps_slc (tR := 4) (pre := []) (mid := []) (post := []) Tryd.underlying22 T24 (hw.perm (List.Perm.swap _ _ _)) (by omega) (by omega) (i + 1) _ _ _ _)) ?_
      refine wl_y rfl (y_not rfl) ?_
      refine wl_nil ?_
      refine wq_then ?_
      refine wc_known 68 true rfl (rfl) ?_
      refine wc_cond_true rfl ?_
      refine wc_seq ?_
      refine wc_mix (.q 0 0 (.q 1 0 (.q 2 0 (.q 3 0 (.q 4 0 (.q 5 0 (.q 6 0 (.q 7 0 (.w 8 2 .nil .nil))))))))) (fun _ => True) MO (by kernel_rfl) (Hp.drawless _ _ _) (fun _ _ => trivial) ?_
      have hkey := ins_key (l := l) (t := t) hil
      refine wm_g rfl rfl (y_move rfl) ?_
      refine wm_g rfl rfl (y_move rfl) ?_
      refine wm_g rfl rfl (y_move rfl) ?_
      refine wm_g rfl rfl (y_add rfl rfl (by omega)) ?_
      refine wm_g rfl rfl (y_sliceSl (i := i + 1) (j := l.length + 1) Tryd.underlying22 T24 rfl ⟨_, rfl, by omega⟩ rfl (by omega) (by omega)) ?_
      refine wm_g rfl rfl (y_move rfl) ?_
      refine wm_g rfl rfl (y_move rfl) ?_
      refine wm_g rfl rfl (y_sliceSl (i := i) (j := l.length + 1) Tryd.underlying22 T24 rfl ⟨_, rfl, rfl⟩ rfl (by omega) (by omega)) ?_
      refine wm_w rfl rfl (fun _ _ _ => trivial) (yw_copy [] Tryd.underlying22 T24 rfl rfl (by omega) (fun w hw => SrcN.slice ((hw.seen []).mono fun _ h => slc_rsl (slc_cut i h (by omega)))) (fun v hv => by rw [hkey] at hv; exact one_drop (one_rows encF_one) v hv) (i := i + 1) (m := l.length + 1 - i)) (wm_ex fun x77 _ => ?_)
      refine wm_nil ?_
      refine all_wq ?_
      refine wq_then ?_
      refine wc_seq ?_
      refine wc_region ?_
      refine wl_y rfl (y_move rfl) ?_
      refine wl_y rfl (y_move rfl) ?_
      refine wl_y rfl (y_sliceSl (i := i) (j := l.length + 1) Tryd.underlying22 T24 rfl ⟨_, rfl, rfl⟩ rfl (by omega) (by omega)) ?_
      refine wl_y rfl (y_move rfl) ?_
      refine wl_w (fun _ _ => want_none) rfl (yw_copy [] Tryd.underlying22 T24 rfl rfl (by omega) (fun w hw => SrcN.slice ((hw.seen [_]).mono fun _ h => slc_rsl h)) (fun v hv => encF_one f v (List.mem_of_mem_take hv)) (i := i) (m := 1)) (wl_ex fun x82 _ => ?_)
      refine wl_nil ?_
      refine wq_then ?_
      refine wc_seq ?_
      refine wc_region ?_
      refine wl_y rfl (y_move rfl) ?_
      refine wl_y rfl (y_assign rfl) ?_
      refine wl_nil ?_
      refine wq_then ?_
      refine wc_ret ?_
      refine wq_then_ret ?_
      refine wq_ret1 rfl rfl (fun w hw => ?_)
      have e1 : (encF f).take (min 1 (l.length + 1 - i) * 2) = encF f := List.take_of_length_le (by rw [encF_len]; omega)
      have e3 := ins_cells ((l.flatMap encF).take (i * 2)) ((l.flatMap encF).drop (i * 2)) t (encF f) (by rw [encF_len]; omega)
      rw [List.take_append_drop, hXl, encF_len, show i * 2 + 2 = (i + 1) * 2 by omega, ← ins_rows l i f hi] at e3
      have h3 : Hp w0 K [slc 24 2 (cutAt oo 0 cc 2) (l.length + 1) cc ((l.take i ++ f :: l.drop i).flatMap encF)] w := by
        rw [← e3]
        rw [e1, hkey] at hw
        exact hw.sub (by (repeat (first | exact pt_nil | apply pt0 | apply pt1 | apply pt2 | apply pt3 | apply pt4 | apply pt5 | apply pt6 | apply pt7 | apply pt8 | apply pt9 | apply pt10 | apply pt11 | apply pt12 | apply pt13 | apply pt14 | apply pt15 | apply pt16 | apply pt17)))
      rw [← ins_length l i f hi] at h3
      exact ⟨(cutAt oo 0 cc 2, cc), trivial, by rw [ins_length l i f hi]; rfl, h3⟩

end Go.Proofs.YtemopomapankmaaDoor
