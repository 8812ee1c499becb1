/-
  Walks: the reference's files are made firm.
-/
import Derived.Test.YtdeellflcphkaaaWalkM
namespace Go.Proofs.Ytdeellflcphkaaa
open Go.Eng

def Rk.sync (r : Rk) (s : Str) : Rk × Int :=
  if r.wrong s = 0 then
    if r.has s = true then (if r.act.dead = true then (r.act, 40) else ({ r.act with l := r.l.set (r.at s) { r.get s with firm := ((r.get s).data.length : Nat) } }, 0)) else (r, 17)
  else (r, r.wrong s)
set_option maxHeartbeats 1000000 in
theorem rsync_c (b : Nat) (r : Rk) (s : Str) (hr : r.fine) :
    Ctr Try.prog 21 #[ptr b, vS s] [] [rkA b r] (fun _ : Unit => True) (fun _ => vI (r.sync s).2) (fun _ => [rkA b (r.sync s).1]) := by
  refine spec_start (n := 41) [(0, ptr b), (1, vS s)] Try.func21 rfl rfl ⟨rfl, rfl, trivial⟩ rfl ?_
  intro w0 K hR
  obtain ⟨h5, ha0, ha1⟩ := id hr
  refine wc_ex rk_open (fun oc => ?_)
  refine wc_seq ?_
  refine wc_region ?_
  refine wl_y rfl (y_assign rfl) ?_
  refine wl_nil ?_
  refine wq_then ?_
  refine wc_seq ?_
  refine wc_region ?_
  refine wl_y rfl (y_move rfl) ?_
  refine wl_y rfl (y_move rfl) ?_
  refine wl_q (fun _ _ => want_none) rfl (yq_spec (fst := []) (cap := []) _ FN39 (rwrong_c b r oc s) rfl rfl rfl (by (repeat (first | exact pt_nil | apply pt0 | apply pt1 | apply pt2 | apply pt3 | apply pt4 | apply pt5 | apply pt6 | apply pt7 | apply pt8 | apply pt9 | apply pt10 | apply pt11 | apply pt12 | apply pt13 | apply pt14 | apply pt15 | apply pt16 | apply pt17))) (by (repeat (first | exact ro_nil | exact ro_rest (by assumption) | refine ro_cons (by first | exact .inl (by assumption) | exact ro_f0 (fun _ h => h) | exact ro_f0 (fun _ => slc_rsl) | exact ro_f1 (fun _ h => h) | exact ro_f1 (fun _ => slc_rsl) | exact ro_f2 (fun _ h => h) | exact ro_f2 (fun _ => slc_rsl) | exact ro_f3 (fun _ h => h) | exact ro_f3 (fun _ => slc_rsl) | exact ro_f4 (fun _ h => h) | exact ro_f4 (fun _ => slc_rsl) | exact ro_f5 (fun _ h => h) | exact ro_f5 (fun _ => slc_rsl) | exact ro_f6 (fun _ h => h) | exact ro_f6 (fun _ => slc_rsl)) ?_))) (fun _ _ => rfl) (fun _ _ _ h => h.sub (by (repeat (first | exact pt_nil | apply pt0 | apply pt1 | apply pt2 | apply pt3 | apply pt4 | apply pt5 | apply pt6 | apply pt7 | apply pt8 | apply pt9 | apply pt10 | apply pt11 | apply pt12 | apply pt13 | apply pt14 | apply pt15 | apply pt16 | apply pt17))))) ?_
  refine wl_y rfl (y_assign rfl) ?_
  refine wl_nil ?_
  refine wq_then ?_
  refine wc_seq ?_
  refine wc_seq ?_
  refine wc_region ?_
  refine wl_y rfl (y_move rfl) ?_
  refine wl_y rfl (y_neqI rfl rfl) ?_
  refine wl_nil ?_
  refine wq_then ?_
  refine wc_cond rfl (fun hc12 => ?_) (fun hc12 => ?_)
  ·
    simp at hc12
    refine wc_seq ?_
    refine wc_region ?_
    refine wl_y rfl (y_move rfl) ?_
    refine wl_y rfl (y_assign rfl) ?_
    refine wl_nil ?_
    refine wq_then ?_
    refine wc_ret ?_
    refine wq_then_ret ?_
    refine wq_ret1 rfl rfl (fun w hw => ?_)
    have e : r.sync s = (r, r.wrong s) := if_neg hc12
    rw [e]; exact ⟨(), trivial, rfl, rk_shut oc (hw.sub (by (repeat (first | exact pt_nil | apply pt0 | apply pt1 | apply pt2 | apply pt3 | apply pt4 | apply pt5 | apply pt6 | apply pt7 | apply pt8 | apply pt9 | apply pt10 | apply pt11 | apply pt12 | apply pt13 | apply pt14 | apply pt15 | apply pt16 | apply pt17))))⟩
  ·
    simp at hc12
    refine wc_skip ?_
    refine wq_then ?_
    refine wc_seq ?_
    refine wc_region ?_
    refine wl_y rfl (y_move rfl) ?_
    refine wl_y rfl (y_move rfl) ?_
    refine wl_q (fun _ _ => want_none) rfl (yq_spec (fst := []) (cap := []) _ FN40 (rat_c b r oc s h5) rfl rfl rfl (by (repeat (first | exact pt_nil | apply pt0 | apply pt1 | apply pt2 | apply pt3 | apply pt4 | apply pt5 | apply pt6 | apply pt7 | apply pt8 | apply pt9 | apply pt10 | apply pt11 | apply pt12 | apply pt13 | apply pt14 | apply pt15 | apply pt16 | apply pt17))) (by (repeat (first | exact ro_nil | exact ro_rest (by assumption) | refine ro_cons (by first | exact .inl (by assumption) | exact ro_f0 (fun _ h => h) | exact ro_f0 (fun _ => slc_rsl) | exact ro_f1 (fun _ h => h) | exact ro_f1 (fun _ => slc_rsl) | exact ro_f2 (fun _ h => h) | exact ro_f2 (fun _ => slc_rsl) | exact ro_f3 (fun _ h => h) | exact ro_f3 (fun _ => slc_rsl) | exact ro_f4 (fun _ h => h) | exact ro_f4 (fun _ => slc_rsl) | exact ro_f5 (fun _ h => h) | exact ro_f5 (fun _ => slc_rsl) | exact ro_f6 (fun _ h => h) | exact ro_f6 (fun _ => slc_rsl)) ?_))) (fun _ _ => rfl) (fun _ _ _ h => h.sub (by (repeat (first | exact pt_nil | apply pt0 | apply pt1 | apply pt2 | apply pt3 | apply pt4 | apply pt5 | apply pt6 | apply pt7 | apply pt8 | apply pt9 | apply pt10 | apply pt11 | apply pt12 | apply pt13 | apply pt14 | apply pt15 | apply pt16 | apply pt17))))) ?_
    refine wl_y rfl (y_move rfl) ?_
    refine wl_y rfl (y_extract rfl rfl) ?_
    refine wl_y rfl (y_extract rfl rfl) ?_
    refine wl_y rfl (y_assign rfl) ?_
    refine wl_y rfl (y_assign rfl) ?_
    refine wl_nil ?_
    refine wq_then ?_
    refine wc_seq ?_
    refine wc_seq ?_
    refine wc_region ?_
    refine wl_y rfl (y_move rfl) ?_
    refine wl_y rfl (y_not rfl) ?_
    refine wl_nil ?_
    refine wq_then ?_
    refine wc_cond rfl (fun hc21 => ?_) (fun hc21 => ?_)
    ·
      simp at hc21
      refine wc_seq ?_
      refine wc_region ?_
      refine wl_y rfl (y_assign rfl) ?_
      refine wl_nil ?_
      refine wq_then ?_
      refine wc_ret ?_
      refine wq_then_ret ?_
      refine wq_ret1 rfl rfl (fun w hw => ?_)
      have e : r.sync s = (r, 17) := by simp only [Rk.sync, if_pos hc12, hc21, Bool.false_eq_true, if_false]
      rw [e]; exact ⟨(), trivial, rfl, rk_shut oc (hw.sub (by (repeat (first | exact pt_nil | apply pt0 | apply pt1 | apply pt2 | apply pt3 | apply pt4 | apply pt5 | apply pt6 | apply pt7 | apply pt8 | apply pt9 | apply pt10 | apply pt11 | apply pt12 | apply pt13 | apply pt14 | apply pt15 | apply pt16 | apply pt17))))⟩
    ·
      simp at hc21
      obtain ⟨x, hx, hxk⟩ := has_get hc21
      have hgx : r.get s = x := by simp [Rk.get, hx]
      have hil := (List.getElem?_eq_some_iff.1 hx).1
      refine wc_skip ?_
      refine wq_then ?_
      refine wc_seq ?_
      refine wc_seq ?_
      refine wc_region ?_
      refine wl_y rfl (y_move rfl) ?_
      refine wl_c (fun _ _ => want_none) rfl (yc_spec (fst := []) (cap := []) _ FN41 (ract_c b r oc ha0 ha1) rfl rfl rfl (by (repeat (first | exact pt_nil | apply pt0 | apply pt1 | apply pt2 | apply pt3 | apply pt4 | apply pt5 | apply pt6 | apply pt7 | apply pt8 | apply pt9 | apply pt10 | apply pt11 | apply pt12 | apply pt13 | apply pt14 | apply pt15 | apply pt16 | apply pt17))) (by (repeat (first | exact ro_nil | exact ro_rest (by assumption) | refine ro_cons (by first | exact .inl (by assumption) | exact ro_f0 (fun _ h => h) | exact ro_f0 (fun _ => slc_rsl) | exact ro_f1 (fun _ h => h) | exact ro_f1 (fun _ => slc_rsl) | exact ro_f2 (fun _ h => h) | exact ro_f2 (fun _ => slc_rsl) | exact ro_f3 (fun _ h => h) | exact ro_f3 (fun _ => slc_rsl) | exact ro_f4 (fun _ h => h) | exact ro_f4 (fun _ => slc_rsl) | exact ro_f5 (fun _ h => h) | exact ro_f5 (fun _ => slc_rsl) | exact ro_f6 (fun _ h => h) | exact ro_f6 (fun _ => slc_rsl)) ?_)))) (wl_ex fun x23 hx23 => ?_)
      refine wl_y rfl (y_not rfl) ?_
      refine wl_nil ?_
      refine wq_then ?_
      refine wc_cond rfl (fun hc24 => ?_) (fun hc24 => ?_)
      ·
        have hd : r.act.dead = true := by cases h : r.act.dead <;> simp [h] at hc24 ⊢
        refine wc_seq ?_
        refine wc_region ?_
        refine wl_y rfl (y_assign rfl) ?_
        refine wl_nil ?_
        refine wq_then ?_
        refine wc_ret ?_
        refine wq_then_ret ?_
        refine wq_ret1 rfl rfl (fun w hw => ?_)
        have e : r.sync s = (r.act, 40) := by simp only [Rk.sync, if_pos hc12, hc21, hd, if_true]
        rw [e]; exact ⟨(), trivial, rfl, rk_shut oc (hw.sub (by (repeat (first | exact pt_nil | apply pt0 | apply pt1 | apply pt2 | apply pt3 | apply pt4 | apply pt5 | apply pt6 | apply pt7 | apply pt8 | apply pt9 | apply pt10 | apply pt11 | apply pt12 | apply pt13 | apply pt14 | apply pt15 | apply pt16 | apply pt17))))⟩
      ·
        have hd : r.act.dead = false := by cases h : r.act.dead <;> simp [h] at hc24 ⊢
        refine wc_skip ?_
        refine wq_then ?_
        refine wc_seq ?_
        refine wc_mix (.q 0 0 (.q 1 0 (.q 2 0 (.q 3 0 (.q 4 0 (.q 5 0 (.q 6 0 (.q 7 0 (.q 8 0 (.q 9 0 (.q 10 0 (.q 11 0 (.q 12 0 (.q 13 0 (.q 14 0 (.q 15 0 (.w 16 3 .nil .nil))))))))))))))))) (Sees [blk b (.cells (rkCells r.act oc).toArray 69 (0, 0)), slc 71 3 oc.1 r.act.l.length oc.2 (r.act.l.flatMap encG)]) MO (by kernel_rfl) (Hp.drawless _ _ _) (fun w hw => by refine ⟨?_, ?_, trivial⟩ <;> first | exact hw.seen [] | exact hw.seen [_] | exact hw.seen [_, _] | exact hw.seen [_, _, _] | exact hw.seen [_, _, _, _] | exact hw.seen [_, _, _, _, _]) ?_
        have hxa : r.act.l[r.at s]? = some x := by rw [ract_l]; exact hx
        have hila : r.at s < r.act.l.length := by rw [ract_l]; exact hil
        refine wm_have (p := oc.1.isSome = true) (fun w hw => hw.slc_isSome [_] (by omega)) (fun hos => ?_)
        refine wm_g rfl rfl (y_move rfl) ?_
        refine wm_g rfl rfl (y_nilCheck rfl) ?_
        refine wm_g rfl rfl (y_fieldAddr F69_0 rfl) ?_
        refine wm_g rfl rfl (y_load NA67 rfl (fun w hw => by first | exact cell_of_heap hw.1.blk rfl | exact cell_of_heap hw.2.1.blk rfl)) ?_
        refine wm_g rfl rfl (y_move rfl) ?_
        refine wm_g rfl rfl (y_move rfl) ?_
        refine wm_g rfl rfl (y_nilCheck rfl) ?_
        refine wm_g rfl rfl (y_fieldAddr F69_0 rfl) ?_
        refine wm_g rfl rfl (y_load NA67 rfl (fun w hw => by first | exact cell_of_heap hw.1.blk rfl | exact cell_of_heap hw.2.1.blk rfl)) ?_
        refine wm_g rfl rfl (y_move rfl) ?_
        refine wm_g rfl rfl (y_indexAddr (i := r.at s) Try.underlying67 T71 rfl rfl rfl hila (fun _ _ => hos)) ?_
        refine wm_g rfl rfl (y_fieldAddr_adr F71_1 rfl) ?_
        refine wm_g rfl rfl (y_load NA9 rfl (fun w hw => hw.2.1.slcCell (rows_get encG_len hxa rfl))) ?_
        refine wm_g rfl rfl (y_lenS Try.underlying9 rfl) ?_
        refine wm_g rfl rfl (y_indexAddr (i := r.at s) Try.underlying67 T71 rfl rfl rfl hila (fun _ _ => hos)) ?_
        refine wm_g rfl rfl (y_fieldAddr_adr F71_2 rfl) ?_
        refine wm_u3 rfl (yu_storeSl [_] (e := 71) T3 rfl rfl rfl rfl rfl (by simp [rows_length encG_len]; omega)) ?_
        refine wm_nil ?_
        refine all_wq ?_
        refine wq_then ?_
        refine wc_seq ?_
        refine wc_region ?_
        refine wl_y rfl (y_assign rfl) ?_
        refine wl_nil ?_
        refine wq_then ?_
        refine wc_ret ?_
        refine wq_ret1 rfl rfl (fun w hw => ?_)
        have e : r.sync s = ({ r.act with l := r.l.set (r.at s) { x with firm := (x.data.length : Nat) } }, 0) := by simp only [Rk.sync, if_pos hc12, hc21, hd, if_true, Bool.false_eq_true, if_false, hgx]
        have e2 := rows_setOne encG_len (j := 2) (x' := { x with firm := (x.data.length : Nat) }) (v := vI (x.data.length : Nat)) hxa (by omega) rfl
        rw [e2] at hw
        rw [e]; exact ⟨(), trivial, rfl, rk_shut oc (by simp only [rkAs, rkCells, List.length_set, ract_l] at hw ⊢; exact hw)⟩

end Go.Proofs.Ytdeellflcphkaaa
