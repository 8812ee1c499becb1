/-
  Walks: tasks, reports, events, tables that are read.
-/
import Derived.Test.YtbnahfjhlbibcaaGreatDoorWalkT
namespace Go.Proofs.YtbnahfjhlbibcaaGreatDoor
open Go.Eng

open Go.Lib
section
variable {α β : Type} {z : α} {x : Scn × α} {X Z : β} (er : β → α)
theorem done_er (hX : er X = x.2) (hZ : er Z = z) : er (if x.1.fin = 0 then X else Z) = (doneF z x).1 := by
  by_cases h : x.1.fin = 0
  · rw [if_pos h, doneF, if_neg (fun e => e h), hX]
  · rw [if_neg h, doneF, if_pos h, hZ]
theorem done_fin : (doneF z x).2 = x.1.fin := by
  by_cases h : x.1.fin = 0
  · rw [doneF, if_neg (fun e => e h), h]
  · rw [doneF, if_pos h]
end
theorem rdOps_app : ∀ (a b : List Str), rdOps (a ++ b) = (rdOps a).bind fun x => (rdOps b).map (x ++ ·)
  | [], b => by simp [rdOps]
  | x :: a, b => by
    rw [List.cons_append, rdOps, rdOps]
    split
    · rfl
    · rw [rdOps_app a b]
      cases rdOps a <;> cases rdOps b <;> simp
theorem rdOps_next {l : List Str} {i : Nat} {x : Str} {acc : List PO} (hx : l[i]? = some x) (h : rdOps (l.take i) = some acc) (hf : (rdOp x).2 = 0) : rdOps (l.take (i + 1)) = some (acc ++ [(rdOp x).1]) := by
  rw [List.take_add_one, hx, rdOps_app, h]
  simp [rdOps, hf]
theorem rdOps_fail {l : List Str} {i : Nat} {x : Str} {acc : List PO} (hx : l[i]? = some x) (h : rdOps (l.take i) = some acc) (hf : (rdOp x).2 ≠ 0) : rdOps l = none := by
  obtain ⟨hl, hx⟩ := List.getElem?_eq_some_iff.1 hx
  have e : l = l.take i ++ x :: l.drop (i + 1) := by rw [← hx, ← List.drop_eq_getElem_cons hl, List.take_append_drop]
  rw [e, rdOps_app, h]
  simp [rdOps, hf]
theorem rdTb_bad {s : Str} (h : (Rdr'.mk s 0).list.1.fin ≠ 0) : rdTable s = ([], (Rdr'.mk s 0).list.1.fin) := by
  rw [rdTable, rdL_bad h, if_pos h]
theorem rdTb_none {s : Str} (h : (Rdr'.mk s 0).list.1.fin = 0) (h2 : rdOps (Rdr'.mk s 0).list.2 = none) : rdTable s = ([], 11) := by
  rw [rdTable, rdL_ok h, if_neg (fun e => e rfl)]; simp only [h2]
theorem rdTb_some {s : Str} {l : List PO} (h : (Rdr'.mk s 0).list.1.fin = 0) (h2 : rdOps (Rdr'.mk s 0).list.2 = some l) : rdTable s = (l, 0) := by
  rw [rdTable, rdL_ok h, if_neg (fun e => e rfl)]; simp only [h2]
theorem opl_nil {w0 w : World} {O : Nat → Prop} {Bs : List Atom} (h : Hp w0 O Bs w) : Hp w0 O (opL [] :: Bs) w := hp_nil h
theorem erO_snoc {acc : List OpV} {t : OpV} {p : PO} (h : t.er = p) : (acc ++ [t]).map OpV.er = acc.map OpV.er ++ [p] := by rw [List.map_append, ← h]; rfl
set_option maxHeartbeats 1000000 in
theorem readTask_c (data : Str) (hl : data.length ≤ 1000000000) :
    Ctr Tryz.prog 11 #[vS data] [libS] [] (fun y : TaskV => y.er = (rdTask data).1) (fun y => .tuple #[.agg (encK y).toArray, vI (rdTask data).2]) (fun y => [taskA y]) := by
  refine spec_start (n := 39) [(0, vS data)] Tryz.func11 rfl rfl ⟨rfl, trivial⟩ rfl ?_
  intro w0 K hR
  have hB := hR libS (by simp)
  have hf0 : (take0 data).fit := hl
  refine wc_seq ?_
  refine wc_region ?_
  refine wl_w (fun _ _ => want_none) rfl (yw_alloc T41 rfl) (wl_ex fun b2 _ => ?_)
  refine wl_y rfl (y_assign rfl) ?_
  refine wl_nil ?_
  refine wq_then ?_
  refine wc_seq ?_
  refine wc_region ?_
  refine wl_y rfl (y_move rfl) ?_
  refine wl_c (fun _ _ => want_none) rfl (yc_spec (fst := []) (cap := []) _ FN18 (take_c data) rfl rfl rfl (by (repeat (first | exact pt_nil | apply pt0 | apply pt1 | apply pt2 | apply pt3 | apply pt4 | apply pt5 | apply pt6 | apply pt7 | apply pt8 | apply pt9 | apply pt10 | apply pt11 | apply pt12 | apply pt13 | apply pt14 | apply pt15 | apply pt16 | apply pt17))) (by (repeat (first | exact ro_nil | exact ro_rest (by assumption) | refine ro_cons (by first | exact .inl (by assumption) | exact ro_f0 (fun _ h => h) | exact ro_f0 (fun _ => slc_rsl) | exact ro_f1 (fun _ h => h) | exact ro_f1 (fun _ => slc_rsl) | exact ro_f2 (fun _ h => h) | exact ro_f2 (fun _ => slc_rsl) | exact ro_f3 (fun _ h => h) | exact ro_f3 (fun _ => slc_rsl) | exact ro_f4 (fun _ h => h) | exact ro_f4 (fun _ => slc_rsl) | exact ro_f5 (fun _ h => h) | exact ro_f5 (fun _ => slc_rsl) | exact ro_f6 (fun _ h => h) | exact ro_f6 (fun _ => slc_rsl)) ?_)))) (wl_ex fun x6 hx6 => ?_)
  refine wl_y rfl (y_assign rfl) ?_
  refine wl_nil ?_
  refine wq_then ?_
  refine wc_seq ?_
  refine wc_mix (.q 0 0 (.q 1 0 (.q 2 0 (.q 3 0 (.q 4 0 (.q 6 0 (.q 7 0 (.q 8 0 (.q 9 0 (.q 11 0 (.q 12 0 (.q 13 0 (.q 14 0 (.q 16 0 (.q 18 0 (.q 19 0 (.q 20 0 (.q 21 0 (.q 23 0 (.q 24 0 (.q 25 0 (.q 26 0 (.w 5 2 (.w 10 2 (.w 15 2 (.w 17 2 (.w 22 2 (.w 27 2 (.q 28 0 (.w 29 2 (.q 30 0 (.q 31 0 (.w 32 2 (.q 33 0 .nil) .nil))) .nil)) .nil) .nil) .nil) .nil) .nil) .nil))))))))))))))))))))))) (fun w => w.cell? ⟨x6.1, 0, none⟩ = some (ptr x6.2)) MO (by kernel_rfl) (Hp.drawless _ _ _) (fun w hw => by first | exact cell_blk [] rfl w hw | exact cell_blk [_] rfl w hw | exact cell_blk [_, _] rfl w hw | exact cell_blk [_, _, _] rfl w hw | exact cell_blk [_, _, _, _] rfl w hw | exact cell_blk [_, _, _, _, _] rfl w hw | exact cell_blk [_, _, _, _, _, _] rfl w hw | exact cell_blk [_, _, _, _, _, _, _] rfl w hw) ?_
  refine wm_g rfl rfl (y_move rfl) ?_
  refine wm_g rfl rfl (y_move rfl) ?_
  refine wm_g rfl rfl (y_nilCheck rfl) ?_
  refine wm_g rfl rfl (y_fieldAddr F59_0 rfl) ?_
  refine wm_g rfl rfl (y_load NA57 rfl (fun w hw => hw)) ?_
  refine wm_g rfl rfl (y_move rfl) ?_
  refine wm_g rfl rfl (y_nilCheck rfl) ?_
  refine wm_g rfl rfl (y_fieldAddr F59_0 rfl) ?_
  refine wm_g rfl rfl (y_load NA57 rfl (fun w hw => hw)) ?_
  refine wm_g rfl rfl (y_move rfl) ?_
  refine wm_g rfl rfl (y_nilCheck rfl) ?_
  refine wm_g rfl rfl (y_fieldAddr F59_0 rfl) ?_
  refine wm_g rfl rfl (y_load NA57 rfl (fun w hw => hw)) ?_
  refine wm_g rfl rfl (y_move rfl) ?_
  refine wm_g rfl rfl (y_move rfl) ?_
  refine wm_g rfl rfl (y_nilCheck rfl) ?_
  refine wm_g rfl rfl (y_fieldAddr F59_0 rfl) ?_
  refine wm_g rfl rfl (y_load NA57 rfl (fun w hw => hw)) ?_
  refine wm_g rfl rfl (y_move rfl) ?_
  refine wm_g rfl rfl (y_nilCheck rfl) ?_
  refine wm_g rfl rfl (y_fieldAddr F59_0 rfl) ?_
  refine wm_g rfl rfl (y_load NA57 rfl (fun w hw => hw)) ?_
  refine wm_c rfl rfl ?hC (yc_spec (fst := []) (cap := []) _ FN36 (text_p x6.2 (take0 data).r hf0) rfl rfl rfl (by (repeat (first | exact pt_nil | apply pt0 | apply pt1 | apply pt2 | apply pt3 | apply pt4 | apply pt5 | apply pt6 | apply pt7 | apply pt8 | apply pt9 | apply pt10 | apply pt11 | apply pt12 | apply pt13 | apply pt14 | apply pt15 | apply pt16 | apply pt17))) (by (repeat (first | exact ro_nil | exact ro_rest (by assumption) | refine ro_cons (by first | exact .inl (by assumption) | exact ro_f0 (fun _ h => h) | exact ro_f0 (fun _ => slc_rsl) | exact ro_f1 (fun _ h => h) | exact ro_f1 (fun _ => slc_rsl) | exact ro_f2 (fun _ h => h) | exact ro_f2 (fun _ => slc_rsl) | exact ro_f3 (fun _ h => h) | exact ro_f3 (fun _ => slc_rsl) | exact ro_f4 (fun _ h => h) | exact ro_f4 (fun _ => slc_rsl) | exact ro_f5 (fun _ h => h) | exact ro_f5 (fun _ => slc_rsl) | exact ro_f6 (fun _ h => h) | exact ro_f6 (fun _ => slc_rsl)) ?_)))) (wm_ex fun x12 hx12 => ?_)
  case hC => exact (fun _ _ h => by obtain ⟨_, _, _, hw⟩ := h; first | exact cell_blk [] rfl _ hw | exact cell_blk [_] rfl _ hw | exact cell_blk [_, _] rfl _ hw | exact cell_blk [_, _, _] rfl _ hw | exact cell_blk [_, _, _, _] rfl _ hw | exact cell_blk [_, _, _, _, _] rfl _ hw | exact cell_blk [_, _, _, _, _, _] rfl _ hw | exact cell_blk [_, _, _, _, _, _, _] rfl _ hw)
  refine wm_c rfl rfl ?hC (yc_spec (fst := []) (cap := []) _ FN20 (num_p x6.2 (take0 data).text.1.r (fit_text hf0)) rfl rfl rfl (by (repeat (first | exact pt_nil | apply pt0 | apply pt1 | apply pt2 | apply pt3 | apply pt4 | apply pt5 | apply pt6 | apply pt7 | apply pt8 | apply pt9 | apply pt10 | apply pt11 | apply pt12 | apply pt13 | apply pt14 | apply pt15 | apply pt16 | apply pt17))) (by (repeat (first | exact ro_nil | exact ro_rest (by assumption) | refine ro_cons (by first | exact .inl (by assumption) | exact ro_f0 (fun _ h => h) | exact ro_f0 (fun _ => slc_rsl) | exact ro_f1 (fun _ h => h) | exact ro_f1 (fun _ => slc_rsl) | exact ro_f2 (fun _ h => h) | exact ro_f2 (fun _ => slc_rsl) | exact ro_f3 (fun _ h => h) | exact ro_f3 (fun _ => slc_rsl) | exact ro_f4 (fun _ h => h) | exact ro_f4 (fun _ => slc_rsl) | exact ro_f5 (fun _ h => h) | exact ro_f5 (fun _ => slc_rsl) | exact ro_f6 (fun _ h => h) | exact ro_f6 (fun _ => slc_rsl)) ?_)))) (wm_ex fun x17 hx17 => ?_)
  case hC => exact (fun _ _ h => by obtain ⟨_, _, _, hw⟩ := h; first | exact cell_blk [] rfl _ hw | exact cell_blk [_] rfl _ hw | exact cell_blk [_, _] rfl _ hw | exact cell_blk [_, _, _] rfl _ hw | exact cell_blk [_, _, _, _] rfl _ hw | exact cell_blk [_, _, _, _, _] rfl _ hw | exact cell_blk [_, _, _, _, _, _] rfl _ hw | exact cell_blk [_, _, _, _, _, _, _] rfl _ hw)
  refine wm_c rfl rfl ?hC (yc_spec (fst := []) (cap := []) _ FN36 (text_p x6.2 (take0 data).text.1.num.1.r (fit_num (fit_text hf0))) rfl rfl rfl (by (repeat (first | exact pt_nil | apply pt0 | apply pt1 | apply pt2 | apply pt3 | apply pt4 | apply pt5 | apply pt6 | apply pt7 | apply pt8 | apply pt9 | apply pt10 | apply pt11 | apply pt12 | apply pt13 | apply pt14 | apply pt15 | apply pt16 | apply pt17))) (by (repeat (first | exact ro_nil | exact ro_rest (by assumption) | refine ro_cons (by first | exact .inl (by assumption) | exact ro_f0 (fun _ h => h) | exact ro_f0 (fun _ => slc_rsl) | exact ro_f1 (fun _ h => h) | exact ro_f1 (fun _ => slc_rsl) | exact ro_f2 (fun _ h => h) | exact ro_f2 (fun _ => slc_rsl) | exact ro_f3 (fun _ h => h) | exact ro_f3 (fun _ => slc_rsl) | exact ro_f4 (fun _ h => h) | exact ro_f4 (fun _ => slc_rsl) | exact ro_f5 (fun _ h => h) | exact ro_f5 (fun _ => slc_rsl) | exact ro_f6 (fun _ h => h) | exact ro_f6 (fun _ => slc_rsl)) ?_)))) (wm_ex fun x22 hx22 => ?_)
  case hC => exact (fun _ _ h => by obtain ⟨_, _, _, hw⟩ := h; first | exact cell_blk [] rfl _ hw | exact cell_blk [_] rfl _ hw | exact cell_blk [_, _] rfl _ hw | exact cell_blk [_, _, _] rfl _ hw | exact cell_blk [_, _, _, _] rfl _ hw | exact cell_blk [_, _, _, _, _] rfl _ hw | exact cell_blk [_, _, _, _, _, _] rfl _ hw | exact cell_blk [_, _, _, _, _, _, _] rfl _ hw)
  refine wm_c rfl rfl ?hC (yc_spec (fst := []) (cap := []) _ FN37 (sfiles_c x6.1 x6.2 (take0 data).text.1.num.1.text.1 (fit_text (fit_num (fit_text hf0)))) rfl rfl rfl (by (repeat (first | exact pt_nil | apply pt0 | apply pt1 | apply pt2 | apply pt3 | apply pt4 | apply pt5 | apply pt6 | apply pt7 | apply pt8 | apply pt9 | apply pt10 | apply pt11 | apply pt12 | apply pt13 | apply pt14 | apply pt15 | apply pt16 | apply pt17))) (by (repeat (first | exact ro_nil | exact ro_rest (by assumption) | refine ro_cons (by first | exact .inl (by assumption) | exact ro_f0 (fun _ h => h) | exact ro_f0 (fun _ => slc_rsl) | exact ro_f1 (fun _ h => h) | exact ro_f1 (fun _ => slc_rsl) | exact ro_f2 (fun _ h => h) | exact ro_f2 (fun _ => slc_rsl) | exact ro_f3 (fun _ h => h) | exact ro_f3 (fun _ => slc_rsl) | exact ro_f4 (fun _ h => h) | exact ro_f4 (fun _ => slc_rsl) | exact ro_f5 (fun _ h => h) | exact ro_f5 (fun _ => slc_rsl) | exact ro_f6 (fun _ h => h) | exact ro_f6 (fun _ => slc_rsl)) ?_)))) (wm_ex fun x24 hx24 => ?_)
  case hC => exact (fun _ _ h => by obtain ⟨_, _, _, hw⟩ := h; first | exact cell_blk [] rfl _ hw | exact cell_blk [_] rfl _ hw | exact cell_blk [_, _] rfl _ hw | exact cell_blk [_, _, _] rfl _ hw | exact cell_blk [_, _, _, _] rfl _ hw | exact cell_blk [_, _, _, _, _] rfl _ hw | exact cell_blk [_, _, _, _, _, _] rfl _ hw | exact cell_blk [_, _, _, _, _, _, _] rfl _ hw)
  refine wm_c rfl rfl ?hC (yc_spec (fst := []) (cap := []) _ FN27 (list_p x6.2 (take0 data).text.1.num.1.text.1.files.1.r (fit_files (fit_text (fit_num (fit_text hf0))))) rfl rfl rfl (by (repeat (first | exact pt_nil | apply pt0 | apply pt1 | apply pt2 | apply pt3 | apply pt4 | apply pt5 | apply pt6 | apply pt7 | apply pt8 | apply pt9 | apply pt10 | apply pt11 | apply pt12 | apply pt13 | apply pt14 | apply pt15 | apply pt16 | apply pt17))) (by (repeat (first | exact ro_nil | exact ro_rest (by assumption) | refine ro_cons (by first | exact .inl (by assumption) | exact ro_f0 (fun _ h => h) | exact ro_f0 (fun _ => slc_rsl) | exact ro_f1 (fun _ h => h) | exact ro_f1 (fun _ => slc_rsl) | exact ro_f2 (fun _ h => h) | exact ro_f2 (fun _ => slc_rsl) | exact ro_f3 (fun _ h => h) | exact ro_f3 (fun _ => slc_rsl) | exact ro_f4 (fun _ h => h) | exact ro_f4 (fun _ => slc_rsl) | exact ro_f5 (fun _ h => h) | exact ro_f5 (fun _ => slc_rsl) | exact ro_f6 (fun _ h => h) | exact ro_f6 (fun _ => slc_rsl)) ?_)))) (wm_ex fun x29 hx29 => ?_)
  case hC => exact (fun _ _ h => by obtain ⟨_, _, _, hw⟩ := h; first | exact cell_blk [] rfl _ hw | exact cell_blk [_] rfl _ hw | exact cell_blk [_, _] rfl _ hw | exact cell_blk [_, _, _] rfl _ hw | exact cell_blk [_, _, _, _] rfl _ hw | exact cell_blk [_, _, _, _, _] rfl _ hw | exact cell_blk [_, _, _, _, _, _] rfl _ hw | exact cell_blk [_, _, _, _, _, _, _] rfl _ hw)
  refine wm_c rfl rfl ?hC (yc_spec (fst := []) (cap := []) _ FN20 (num_p x6.2 (take0 data).text.1.num.1.text.1.files.1.list.1.r (fit_list (fit_files (fit_text (fit_num (fit_text hf0)))))) rfl rfl rfl (by (repeat (first | exact pt_nil | apply pt0 | apply pt1 | apply pt2 | apply pt3 | apply pt4 | apply pt5 | apply pt6 | apply pt7 | apply pt8 | apply pt9 | apply pt10 | apply pt11 | apply pt12 | apply pt13 | apply pt14 | apply pt15 | apply pt16 | apply pt17))) (by (repeat (first | exact ro_nil | exact ro_rest (by assumption) | refine ro_cons (by first | exact .inl (by assumption) | exact ro_f0 (fun _ h => h) | exact ro_f0 (fun _ => slc_rsl) | exact ro_f1 (fun _ h => h) | exact ro_f1 (fun _ => slc_rsl) | exact ro_f2 (fun _ h => h) | exact ro_f2 (fun _ => slc_rsl) | exact ro_f3 (fun _ h => h) | exact ro_f3 (fun _ => slc_rsl) | exact ro_f4 (fun _ h => h) | exact ro_f4 (fun _ => slc_rsl) | exact ro_f5 (fun _ h => h) | exact ro_f5 (fun _ => slc_rsl) | exact ro_f6 (fun _ h => h) | exact ro_f6 (fun _ => slc_rsl)) ?_)))) (wm_ex fun x34 hx34 => ?_)
  case hC => exact (fun _ _ h => by obtain ⟨_, _, _, hw⟩ := h; first | exact cell_blk [] rfl _ hw | exact cell_blk [_] rfl _ hw | exact cell_blk [_, _] rfl _ hw | exact cell_blk [_, _, _] rfl _ hw | exact cell_blk [_, _, _, _] rfl _ hw | exact cell_blk [_, _, _, _, _] rfl _ hw | exact cell_blk [_, _, _, _, _, _] rfl _ hw | exact cell_blk [_, _, _, _, _, _, _] rfl _ hw)
  refine wm_g rfl rfl (y_build (cs := [_, _, _, _, _, _]) T41 PL41 rfl rfl rfl) ?_
  refine wm_c rfl rfl ?hC (yc_spec (fst := []) (cap := []) _ FN35 (doneK_c x6.1 x6.2 (take0 data).text.1.num.1.text.1.files.1.list.1.num.1 (⟨(take0 data).text.2, (take0 data).text.1.num.2, (take0 data).text.1.num.1.text.2, x24, ⟨x29.1, x29.2, (take0 data).text.1.num.1.text.1.files.1.list.2⟩, (take0 data).text.1.num.1.text.1.files.1.list.1.num.2⟩ : TaskV)) rfl rfl rfl (by (repeat (first | exact pt_nil | apply pt0 | apply pt1 | apply pt2 | apply pt3 | apply pt4 | apply pt5 | apply pt6 | apply pt7 | apply pt8 | apply pt9 | apply pt10 | apply pt11 | apply pt12 | apply pt13 | apply pt14 | apply pt15 | apply pt16 | apply pt17))) (by (repeat (first | exact ro_nil | exact ro_rest (by assumption) | refine ro_cons (by first | exact .inl (by assumption) | exact ro_f0 (fun _ h => h) | exact ro_f0 (fun _ => slc_rsl) | exact ro_f1 (fun _ h => h) | exact ro_f1 (fun _ => slc_rsl) | exact ro_f2 (fun _ h => h) | exact ro_f2 (fun _ => slc_rsl) | exact ro_f3 (fun _ h => h) | exact ro_f3 (fun _ => slc_rsl) | exact ro_f4 (fun _ h => h) | exact ro_f4 (fun _ => slc_rsl) | exact ro_f5 (fun _ h => h) | exact ro_f5 (fun _ => slc_rsl) | exact ro_f6 (fun _ h => h) | exact ro_f6 (fun _ => slc_rsl)) ?_)))) (wm_ex fun x36 hx36 => ?_)
  case hC => exact (fun _ _ h => by obtain ⟨_, _, _, hw⟩ := h; first | exact cell_blk [] rfl _ hw | exact cell_blk [_] rfl _ hw | exact cell_blk [_, _] rfl _ hw | exact cell_blk [_, _, _] rfl _ hw | exact cell_blk [_, _, _, _] rfl _ hw | exact cell_blk [_, _, _, _, _] rfl _ hw | exact cell_blk [_, _, _, _, _, _] rfl _ hw | exact cell_blk [_, _, _, _, _, _, _] rfl _ hw)
  refine wm_g rfl rfl (y_extract rfl rfl) ?_
  refine wm_g rfl rfl (y_extract rfl rfl) ?_
  first | refine wm_u rfl (fun _ hw => by first | exact cell_blk [] rfl _ hw | exact cell_blk [_] rfl _ hw | exact cell_blk [_, _] rfl _ hw | exact cell_blk [_, _, _] rfl _ hw | exact cell_blk [_, _, _, _] rfl _ hw | exact cell_blk [_, _, _, _, _] rfl _ hw | exact cell_blk [_, _, _, _, _, _] rfl _ hw | exact cell_blk [_, _, _, _, _, _, _] rfl _ hw) (yu_storeAgg [] (l' := [_, _, _, _, _, _]) T41 rfl rfl rfl (by simp [Value.oneCell']) rfl rfl) ?_ | refine wm_u rfl (fun _ hw => by first | exact cell_blk [] rfl _ hw | exact cell_blk [_] rfl _ hw | exact cell_blk [_, _] rfl _ hw | exact cell_blk [_, _, _] rfl _ hw | exact cell_blk [_, _, _, _] rfl _ hw | exact cell_blk [_, _, _, _, _] rfl _ hw | exact cell_blk [_, _, _, _, _, _] rfl _ hw | exact cell_blk [_, _, _, _, _, _, _] rfl _ hw) (yu_storeAgg [_] (l' := [_, _, _, _, _, _]) T41 rfl rfl rfl (by simp [Value.oneCell']) rfl rfl) ?_ | refine wm_u rfl (fun _ hw => by first | exact cell_blk [] rfl _ hw | exact cell_blk [_] rfl _ hw | exact cell_blk [_, _] rfl _ hw | exact cell_blk [_, _, _] rfl _ hw | exact cell_blk [_, _, _, _] rfl _ hw | exact cell_blk [_, _, _, _, _] rfl _ hw | exact cell_blk [_, _, _, _, _, _] rfl _ hw | exact cell_blk [_, _, _, _, _, _, _] rfl _ hw) (yu_storeAgg [_, _] (l' := [_, _, _, _, _, _]) T41 rfl rfl rfl (by simp [Value.oneCell']) rfl rfl) ?_ | refine wm_u rfl (fun _ hw => by first | exact cell_blk [] rfl _ hw | exact cell_blk [_] rfl _ hw | exact cell_blk [_, _] rfl _ hw | exact cell_blk [_, _, _] rfl _ hw | exact cell_blk [_, _, _, _] rfl _ hw | exact cell_blk [_, _, _, _, _] rfl _ hw | exact cell_blk [_, _, _, _, _, _] rfl _ hw | exact cell_blk [_, _, _, _, _, _, _] rfl _ hw) (yu_storeAgg [_, _, _] (l' := [_, _, _, _, _, _]) T41 rfl rfl rfl (by simp [Value.oneCell']) rfl rfl) ?_ | refine wm_u rfl (fun _ hw => by first | exact cell_blk [] rfl _ hw | exact cell_blk [_] rfl _ hw | exact cell_blk [_, _] rfl _ hw | exact cell_blk [_, _, _] rfl _ hw | exact cell_blk [_, _, _, _] rfl _ hw | exact cell_blk [_, _, _, _, _] rfl _ hw | exact cell_blk [_, _, _, _, _, _] rfl _ hw | exact cell_blk [_, _, _, _, _, _, _] rfl _ hw) (yu_storeAgg [_, _, _, _] (l' := [_, _, _, _, _, _]) T41 rfl rfl rfl (by simp [Value.oneCell']) rfl rfl) ?_ | refine wm_u rfl (fun _ hw => by first | exact cell_blk [] rfl _ hw | exact cell_blk [_] rfl _ hw | exact cell_blk [_, _] rfl _ hw | exact cell_blk [_, _, _] rfl _ hw | exact cell_blk [_, _, _, _] rfl _ hw | exact cell_blk [_, _, _, _, _] rfl _ hw | exact cell_blk [_, _, _, _, _, _] rfl _ hw | exact cell_blk [_, _, _, _, _, _, _] rfl _ hw) (yu_storeAgg [_, _, _, _, _] (l' := [_, _, _, _, _, _]) T41 rfl rfl rfl (by simp [Value.oneCell']) rfl rfl) ?_ | refine wm_u rfl (fun _ hw => by first | exact cell_blk [] rfl _ hw | exact cell_blk [_] rfl _ hw | exact cell_blk [_, _] rfl _ hw | exact cell_blk [_, _, _] rfl _ hw | exact cell_blk [_, _, _, _] rfl _ hw | exact cell_blk [_, _, _, _, _] rfl _ hw | exact cell_blk [_, _, _, _, _, _] rfl _ hw | exact cell_blk [_, _, _, _, _, _, _] rfl _ hw) (yu_storeAgg [_, _, _, _, _, _] (l' := [_, _, _, _, _, _]) T41 rfl rfl rfl (by simp [Value.oneCell']) rfl rfl) ?_ | refine wm_u rfl (fun _ hw => by first | exact cell_blk [] rfl _ hw | exact cell_blk [_] rfl _ hw | exact cell_blk [_, _] rfl _ hw | exact cell_blk [_, _, _] rfl _ hw | exact cell_blk [_, _, _, _] rfl _ hw | exact cell_blk [_, _, _, _, _] rfl _ hw | exact cell_blk [_, _, _, _, _, _] rfl _ hw | exact cell_blk [_, _, _, _, _, _, _] rfl _ hw) (yu_storeAgg [_, _, _, _, _, _, _] (l' := [_, _, _, _, _, _]) T41 rfl rfl rfl (by simp [Value.oneCell']) rfl rfl) ?_
  refine wm_g rfl rfl (y_assign rfl) ?_
  refine wm_nil ?_
  refine all_wq ?_
  refine wq_then ?_
  refine wc_ret ?_
  refine wq_retC2 (l := [_, _, _, _, _, _]) AG41 rfl rfl rfl rfl (by first | exact cells_blk [] rfl | exact cells_blk [_] rfl | exact cells_blk [_, _] rfl | exact cells_blk [_, _, _] rfl | exact cells_blk [_, _, _, _] rfl | exact cells_blk [_, _, _, _, _] rfl | exact cells_blk [_, _, _, _, _, _] rfl | exact cells_blk [_, _, _, _, _, _, _] rfl) (fun w hw => ?_)
  refine ⟨if ((take0 data).task.1).fin = 0 then (⟨(take0 data).text.2, (take0 data).text.1.num.2, (take0 data).text.1.num.1.text.2, x24, ⟨x29.1, x29.2, (take0 data).text.1.num.1.text.1.files.1.list.2⟩, (take0 data).text.1.num.1.text.1.files.1.list.1.num.2⟩ : TaskV) else TaskV.zero, done_er (TaskV.er) (by simp only [TaskV.er, hx24]; rfl) rfl, by rw [show (rdTask data).2 = ((take0 data).task.1).fin from done_fin]; rfl, ?_⟩
  show Hp w0 K [taskA (if _ then _ else _)] w
  split
  · exact hp_shut (As := [_, _]) (Hp.mono_at [_] (hw.sub (by (repeat (first | exact pt_nil | apply pt0 | apply pt1 | apply pt2 | apply pt3 | apply pt4 | apply pt5 | apply pt6 | apply pt7 | apply pt8 | apply pt9 | apply pt10 | apply pt11 | apply pt12 | apply pt13 | apply pt14 | apply pt15 | apply pt16 | apply pt17))) : Hp w0 K [filesA x24, slc 9 1 x29.1 ((take0 data).text.1.num.1.text.1.files.1.list.2).length x29.2 (((take0 data).text.1.num.1.text.1.files.1.list.2).map vS)] w) fun _ hh => slc_rsl hh)
  · exact hp_task0 hw.bare

set_option maxHeartbeats 1000000 in
theorem readRep_c (data : Str) (hl : data.length ≤ 1000000000) :
    Ctr Tryz.prog 13 #[vS data] [libS] [] (fun y : RepV => y.er = (rdRep data).1) (fun y => .tuple #[.agg (encP y).toArray, vI (rdRep data).2]) (fun y => [filesA y.out.files]) := by
  refine spec_start (n := 24) [(0, vS data)] Tryz.func13 rfl rfl ⟨rfl, trivial⟩ rfl ?_
  intro w0 K hR
  have hB := hR libS (by simp)
  have hf0 : (take0 data).fit := hl
  refine wc_seq ?_
  refine wc_region ?_
  refine wl_w (fun _ _ => want_none) rfl (yw_alloc T47 rfl) (wl_ex fun b2 _ => ?_)
  refine wl_y rfl (y_assign rfl) ?_
  refine wl_nil ?_
  refine wq_then ?_
  refine wc_seq ?_
  refine wc_region ?_
  refine wl_y rfl (y_move rfl) ?_
  refine wl_c (fun _ _ => want_none) rfl (yc_spec (fst := []) (cap := []) _ FN18 (take_c data) rfl rfl rfl (by (repeat (first | exact pt_nil | apply pt0 | apply pt1 | apply pt2 | apply pt3 | apply pt4 | apply pt5 | apply pt6 | apply pt7 | apply pt8 | apply pt9 | apply pt10 | apply pt11 | apply pt12 | apply pt13 | apply pt14 | apply pt15 | apply pt16 | apply pt17))) (by (repeat (first | exact ro_nil | exact ro_rest (by assumption) | refine ro_cons (by first | exact .inl (by assumption) | exact ro_f0 (fun _ h => h) | exact ro_f0 (fun _ => slc_rsl) | exact ro_f1 (fun _ h => h) | exact ro_f1 (fun _ => slc_rsl) | exact ro_f2 (fun _ h => h) | exact ro_f2 (fun _ => slc_rsl) | exact ro_f3 (fun _ h => h) | exact ro_f3 (fun _ => slc_rsl) | exact ro_f4 (fun _ h => h) | exact ro_f4 (fun _ => slc_rsl) | exact ro_f5 (fun _ h => h) | exact ro_f5 (fun _ => slc_rsl) | exact ro_f6 (fun _ h => h) | exact ro_f6 (fun _ => slc_rsl)) ?_)))) (wl_ex fun x6 hx6 => ?_)
  refine wl_y rfl (y_assign rfl) ?_
  refine wl_nil ?_
  refine wq_then ?_
  refine wc_seq ?_
  refine wc_mix (.q 0 0 (.q 1 0 (.q 2 0 (.q 3 0 (.q 4 0 (.q 6 0 (.q 7 0 (.q 8 0 (.q 9 0 (.q 11 0 (.w 5 2 (.w 10 2 (.w 12 2 (.q 13 0 (.w 14 2 (.q 15 0 (.q 16 0 (.w 17 2 (.q 18 0 .nil) .nil))) .nil)) .nil) .nil) .nil))))))))))) (fun w => w.cell? ⟨x6.1, 0, none⟩ = some (ptr x6.2)) MO (by kernel_rfl) (Hp.drawless _ _ _) (fun w hw => by first | exact cell_blk [] rfl w hw | exact cell_blk [_] rfl w hw | exact cell_blk [_, _] rfl w hw | exact cell_blk [_, _, _] rfl w hw | exact cell_blk [_, _, _, _] rfl w hw | exact cell_blk [_, _, _, _, _] rfl w hw | exact cell_blk [_, _, _, _, _, _] rfl w hw | exact cell_blk [_, _, _, _, _, _, _] rfl w hw) ?_
  refine wm_g rfl rfl (y_move rfl) ?_
  refine wm_g rfl rfl (y_move rfl) ?_
  refine wm_g rfl rfl (y_nilCheck rfl) ?_
  refine wm_g rfl rfl (y_fieldAddr F59_0 rfl) ?_
  refine wm_g rfl rfl (y_load NA57 rfl (fun w hw => hw)) ?_
  refine wm_g rfl rfl (y_move rfl) ?_
  refine wm_g rfl rfl (y_nilCheck rfl) ?_
  refine wm_g rfl rfl (y_fieldAddr F59_0 rfl) ?_
  refine wm_g rfl rfl (y_load NA57 rfl (fun w hw => hw)) ?_
  refine wm_g rfl rfl (y_move rfl) ?_
  refine wm_c rfl rfl ?hC (yc_spec (fst := []) (cap := []) _ FN36 (text_p x6.2 (take0 data).r hf0) rfl rfl rfl (by (repeat (first | exact pt_nil | apply pt0 | apply pt1 | apply pt2 | apply pt3 | apply pt4 | apply pt5 | apply pt6 | apply pt7 | apply pt8 | apply pt9 | apply pt10 | apply pt11 | apply pt12 | apply pt13 | apply pt14 | apply pt15 | apply pt16 | apply pt17))) (by (repeat (first | exact ro_nil | exact ro_rest (by assumption) | refine ro_cons (by first | exact .inl (by assumption) | exact ro_f0 (fun _ h => h) | exact ro_f0 (fun _ => slc_rsl) | exact ro_f1 (fun _ h => h) | exact ro_f1 (fun _ => slc_rsl) | exact ro_f2 (fun _ h => h) | exact ro_f2 (fun _ => slc_rsl) | exact ro_f3 (fun _ h => h) | exact ro_f3 (fun _ => slc_rsl) | exact ro_f4 (fun _ h => h) | exact ro_f4 (fun _ => slc_rsl) | exact ro_f5 (fun _ h => h) | exact ro_f5 (fun _ => slc_rsl) | exact ro_f6 (fun _ h => h) | exact ro_f6 (fun _ => slc_rsl)) ?_)))) (wm_ex fun x12 hx12 => ?_)
  case hC => exact (fun _ _ h => by obtain ⟨_, _, _, hw⟩ := h; first | exact cell_blk [] rfl _ hw | exact cell_blk [_] rfl _ hw | exact cell_blk [_, _] rfl _ hw | exact cell_blk [_, _, _] rfl _ hw | exact cell_blk [_, _, _, _] rfl _ hw | exact cell_blk [_, _, _, _, _] rfl _ hw | exact cell_blk [_, _, _, _, _, _] rfl _ hw | exact cell_blk [_, _, _, _, _, _, _] rfl _ hw)
  refine wm_c rfl rfl ?hC (yc_spec (fst := []) (cap := []) _ FN20 (num_p x6.2 (take0 data).text.1.r (fit_text hf0)) rfl rfl rfl (by (repeat (first | exact pt_nil | apply pt0 | apply pt1 | apply pt2 | apply pt3 | apply pt4 | apply pt5 | apply pt6 | apply pt7 | apply pt8 | apply pt9 | apply pt10 | apply pt11 | apply pt12 | apply pt13 | apply pt14 | apply pt15 | apply pt16 | apply pt17))) (by (repeat (first | exact ro_nil | exact ro_rest (by assumption) | refine ro_cons (by first | exact .inl (by assumption) | exact ro_f0 (fun _ h => h) | exact ro_f0 (fun _ => slc_rsl) | exact ro_f1 (fun _ h => h) | exact ro_f1 (fun _ => slc_rsl) | exact ro_f2 (fun _ h => h) | exact ro_f2 (fun _ => slc_rsl) | exact ro_f3 (fun _ h => h) | exact ro_f3 (fun _ => slc_rsl) | exact ro_f4 (fun _ h => h) | exact ro_f4 (fun _ => slc_rsl) | exact ro_f5 (fun _ h => h) | exact ro_f5 (fun _ => slc_rsl) | exact ro_f6 (fun _ h => h) | exact ro_f6 (fun _ => slc_rsl)) ?_)))) (wm_ex fun x17 hx17 => ?_)
  case hC => exact (fun _ _ h => by obtain ⟨_, _, _, hw⟩ := h; first | exact cell_blk [] rfl _ hw | exact cell_blk [_] rfl _ hw | exact cell_blk [_, _] rfl _ hw | exact cell_blk [_, _, _] rfl _ hw | exact cell_blk [_, _, _, _] rfl _ hw | exact cell_blk [_, _, _, _, _] rfl _ hw | exact cell_blk [_, _, _, _, _, _] rfl _ hw | exact cell_blk [_, _, _, _, _, _, _] rfl _ hw)
  refine wm_c rfl rfl ?hC (yc_spec (fst := []) (cap := []) _ FN41 (soutc_c x6.1 x6.2 (take0 data).text.1.num.1 (fit_num (fit_text hf0))) rfl rfl rfl (by (repeat (first | exact pt_nil | apply pt0 | apply pt1 | apply pt2 | apply pt3 | apply pt4 | apply pt5 | apply pt6 | apply pt7 | apply pt8 | apply pt9 | apply pt10 | apply pt11 | apply pt12 | apply pt13 | apply pt14 | apply pt15 | apply pt16 | apply pt17))) (by (repeat (first | exact ro_nil | exact ro_rest (by assumption) | refine ro_cons (by first | exact .inl (by assumption) | exact ro_f0 (fun _ h => h) | exact ro_f0 (fun _ => slc_rsl) | exact ro_f1 (fun _ h => h) | exact ro_f1 (fun _ => slc_rsl) | exact ro_f2 (fun _ h => h) | exact ro_f2 (fun _ => slc_rsl) | exact ro_f3 (fun _ h => h) | exact ro_f3 (fun _ => slc_rsl) | exact ro_f4 (fun _ h => h) | exact ro_f4 (fun _ => slc_rsl) | exact ro_f5 (fun _ h => h) | exact ro_f5 (fun _ => slc_rsl) | exact ro_f6 (fun _ h => h) | exact ro_f6 (fun _ => slc_rsl)) ?_)))) (wm_ex fun x19 hx19 => ?_)
  case hC => exact (fun _ _ h => by obtain ⟨_, _, _, hw⟩ := h; first | exact cell_blk [] rfl _ hw | exact cell_blk [_] rfl _ hw | exact cell_blk [_, _] rfl _ hw | exact cell_blk [_, _, _] rfl _ hw | exact cell_blk [_, _, _, _] rfl _ hw | exact cell_blk [_, _, _, _, _] rfl _ hw | exact cell_blk [_, _, _, _, _, _] rfl _ hw | exact cell_blk [_, _, _, _, _, _, _] rfl _ hw)
  refine wm_g rfl rfl (y_build (cs := [_, _, _, _, _, _, _, _]) T47 PL47 rfl rfl rfl) ?_
  refine wm_c rfl rfl ?hC (yc_spec (fst := []) (cap := []) _ FN40 (doneP_c x6.1 x6.2 (take0 data).text.1.num.1.outc.1 (⟨(take0 data).text.2, (take0 data).text.1.num.2, x19⟩ : RepV)) rfl rfl rfl (by (repeat (first | exact pt_nil | apply pt0 | apply pt1 | apply pt2 | apply pt3 | apply pt4 | apply pt5 | apply pt6 | apply pt7 | apply pt8 | apply pt9 | apply pt10 | apply pt11 | apply pt12 | apply pt13 | apply pt14 | apply pt15 | apply pt16 | apply pt17))) (by (repeat (first | exact ro_nil | exact ro_rest (by assumption) | refine ro_cons (by first | exact .inl (by assumption) | exact ro_f0 (fun _ h => h) | exact ro_f0 (fun _ => slc_rsl) | exact ro_f1 (fun _ h => h) | exact ro_f1 (fun _ => slc_rsl) | exact ro_f2 (fun _ h => h) | exact ro_f2 (fun _ => slc_rsl) | exact ro_f3 (fun _ h => h) | exact ro_f3 (fun _ => slc_rsl) | exact ro_f4 (fun _ h => h) | exact ro_f4 (fun _ => slc_rsl) | exact ro_f5 (fun _ h => h) | exact ro_f5 (fun _ => slc_rsl) | exact ro_f6 (fun _ h => h) | exact ro_f6 (fun _ => slc_rsl)) ?_)))) (wm_ex fun x21 hx21 => ?_)
  case hC => exact (fun _ _ h => by obtain ⟨_, _, _, hw⟩ := h; first | exact cell_blk [] rfl _ hw | exact cell_blk [_] rfl _ hw | exact cell_blk [_, _] rfl _ hw | exact cell_blk [_, _, _] rfl _ hw | exact cell_blk [_, _, _, _] rfl _ hw | exact cell_blk [_, _, _, _, _] rfl _ hw | exact cell_blk [_, _, _, _, _, _] rfl _ hw | exact cell_blk [_, _, _, _, _, _, _] rfl _ hw)
  refine wm_g rfl rfl (y_extract rfl rfl) ?_
  refine wm_g rfl rfl (y_extract rfl rfl) ?_
  first | refine wm_u rfl (fun _ hw => by first | exact cell_blk [] rfl _ hw | exact cell_blk [_] rfl _ hw | exact cell_blk [_, _] rfl _ hw | exact cell_blk [_, _, _] rfl _ hw | exact cell_blk [_, _, _, _] rfl _ hw | exact cell_blk [_, _, _, _, _] rfl _ hw | exact cell_blk [_, _, _, _, _, _] rfl _ hw | exact cell_blk [_, _, _, _, _, _, _] rfl _ hw) (yu_storeAgg [] (l' := [_, _, _, _, _, _, _, _]) T47 rfl rfl rfl (by simp [Value.oneCell']) rfl rfl) ?_ | refine wm_u rfl (fun _ hw => by first | exact cell_blk [] rfl _ hw | exact cell_blk [_] rfl _ hw | exact cell_blk [_, _] rfl _ hw | exact cell_blk [_, _, _] rfl _ hw | exact cell_blk [_, _, _, _] rfl _ hw | exact cell_blk [_, _, _, _, _] rfl _ hw | exact cell_blk [_, _, _, _, _, _] rfl _ hw | exact cell_blk [_, _, _, _, _, _, _] rfl _ hw) (yu_storeAgg [_] (l' := [_, _, _, _, _, _, _, _]) T47 rfl rfl rfl (by simp [Value.oneCell']) rfl rfl) ?_ | refine wm_u rfl (fun _ hw => by first | exact cell_blk [] rfl _ hw | exact cell_blk [_] rfl _ hw | exact cell_blk [_, _] rfl _ hw | exact cell_blk [_, _, _] rfl _ hw | exact cell_blk [_, _, _, _] rfl _ hw | exact cell_blk [_, _, _, _, _] rfl _ hw | exact cell_blk [_, _, _, _, _, _] rfl _ hw | exact cell_blk [_, _, _, _, _, _, _] rfl _ hw) (yu_storeAgg [_, _] (l' := [_, _, _, _, _, _, _, _]) T47 rfl rfl rfl (by simp [Value.oneCell']) rfl rfl) ?_ | refine wm_u rfl (fun _ hw => by first | exact cell_blk [] rfl _ hw | exact cell_blk [_] rfl _ hw | exact cell_blk [_, _] rfl _ hw | exact cell_blk [_, _, _] rfl _ hw | exact cell_blk [_, _, _, _] rfl _ hw | exact cell_blk [_, _, _, _, _] rfl _ hw | exact cell_blk [_, _, _, _, _, _] rfl _ hw | exact cell_blk [_, _, _, _, _, _, _] rfl _ hw) (yu_storeAgg [_, _, _] (l' := [_, _, _, _, _, _, _, _]) T47 rfl rfl rfl (by simp [Value.oneCell']) rfl rfl) ?_ | refine wm_u rfl (fun _ hw => by first | exact cell_blk [] rfl _ hw | exact cell_blk [_] rfl _ hw | exact cell_blk [_, _] rfl _ hw | exact cell_blk [_, _, _] rfl _ hw | exact cell_blk [_, _, _, _] rfl _ hw | exact cell_blk [_, _, _, _, _] rfl _ hw | exact cell_blk [_, _, _, _, _, _] rfl _ hw | exact cell_blk [_, _, _, _, _, _, _] rfl _ hw) (yu_storeAgg [_, _, _, _] (l' := [_, _, _, _, _, _, _, _]) T47 rfl rfl rfl (by simp [Value.oneCell']) rfl rfl) ?_ | refine wm_u rfl (fun _ hw => by first | exact cell_blk [] rfl _ hw | exact cell_blk [_] rfl _ hw | exact cell_blk [_, _] rfl _ hw | exact cell_blk [_, _, _] rfl _ hw | exact cell_blk [_, _, _, _] rfl _ hw | exact cell_blk [_, _, _, _, _] rfl _ hw | exact cell_blk [_, _, _, _, _, _] rfl _ hw | exact cell_blk [_, _, _, _, _, _, _] rfl _ hw) (yu_storeAgg [_, _, _, _, _] (l' := [_, _, _, _, _, _, _, _]) T47 rfl rfl rfl (by simp [Value.oneCell']) rfl rfl) ?_ | refine wm_u rfl (fun _ hw => by first | exact cell_blk [] rfl _ hw | exact cell_blk [_] rfl _ hw | exact cell_blk [_, _] rfl _ hw | exact cell_blk [_, _, _] rfl _ hw | exact cell_blk [_, _, _, _] rfl _ hw | exact cell_blk [_, _, _, _, _] rfl _ hw | exact cell_blk [_, _, _, _, _, _] rfl _ hw | exact cell_blk [_, _, _, _, _, _, _] rfl _ hw) (yu_storeAgg [_, _, _, _, _, _] (l' := [_, _, _, _, _, _, _, _]) T47 rfl rfl rfl (by simp [Value.oneCell']) rfl rfl) ?_ | refine wm_u rfl (fun _ hw => by first | exact cell_blk [] rfl _ hw | exact cell_blk [_] rfl _ hw | exact cell_blk [_, _] rfl _ hw | exact cell_blk [_, _, _] rfl _ hw | exact cell_blk [_, _, _, _] rfl _ hw | exact cell_blk [_, _, _, _, _] rfl _ hw | exact cell_blk [_, _, _, _, _, _] rfl _ hw | exact cell_blk [_, _, _, _, _, _, _] rfl _ hw) (yu_storeAgg [_, _, _, _, _, _, _] (l' := [_, _, _, _, _, _, _, _]) T47 rfl rfl rfl (by simp [Value.oneCell']) rfl rfl) ?_
  refine wm_g rfl rfl (y_assign rfl) ?_
  refine wm_nil ?_
  refine all_wq ?_
  refine wq_then ?_
  refine wc_ret ?_
  refine wq_retC2 (l := [_, _, _, _, _, _, _, _]) AG47 rfl rfl rfl rfl (by first | exact cells_blk [] rfl | exact cells_blk [_] rfl | exact cells_blk [_, _] rfl | exact cells_blk [_, _, _] rfl | exact cells_blk [_, _, _, _] rfl | exact cells_blk [_, _, _, _, _] rfl | exact cells_blk [_, _, _, _, _, _] rfl | exact cells_blk [_, _, _, _, _, _, _] rfl) (fun w hw => ?_)
  refine ⟨if ((take0 data).rep.1).fin = 0 then (⟨(take0 data).text.2, (take0 data).text.1.num.2, x19⟩ : RepV) else RepV.zero, done_er (RepV.er) (by simp only [RepV.er, hx19]; rfl) rfl, by rw [show (rdRep data).2 = ((take0 data).rep.1).fin from done_fin]; rfl, ?_⟩
  show Hp w0 K [filesA (RepV.out (if _ then _ else _)).files] w
  split
  · exact hw.sub (by (repeat (first | exact pt_nil | apply pt0 | apply pt1 | apply pt2 | apply pt3 | apply pt4 | apply pt5 | apply pt6 | apply pt7 | apply pt8 | apply pt9 | apply pt10 | apply pt11 | apply pt12 | apply pt13 | apply pt14 | apply pt15 | apply pt16 | apply pt17)))
  · exact hp_f0 hw.bare

set_option maxHeartbeats 1000000 in
theorem readEv_c (data : Str) (hl : data.length ≤ 1000000000) :
    Ctr Tryz.prog 6 #[vS data] [libS] [] (fun y : Int × OpV => (y.1, y.2.er) = (rdEv data).1) (fun y => .tuple #[.agg (encEv y.1 y.2).toArray, vI (rdEv data).2]) (fun y => [opA y.2]) := by
  refine spec_start (n := 19) [(0, vS data)] Tryz.func6 rfl rfl ⟨rfl, trivial⟩ rfl ?_
  intro w0 K hR
  have hB := hR libS (by simp)
  have hf0 : (take0 data).fit := hl
  refine wc_seq ?_
  refine wc_region ?_
  refine wl_w (fun _ _ => want_none) rfl (yw_alloc T31 rfl) (wl_ex fun b2 _ => ?_)
  refine wl_y rfl (y_assign rfl) ?_
  refine wl_nil ?_
  refine wq_then ?_
  refine wc_seq ?_
  refine wc_region ?_
  refine wl_y rfl (y_move rfl) ?_
  refine wl_c (fun _ _ => want_none) rfl (yc_spec (fst := []) (cap := []) _ FN18 (take_c data) rfl rfl rfl (by (repeat (first | exact pt_nil | apply pt0 | apply pt1 | apply pt2 | apply pt3 | apply pt4 | apply pt5 | apply pt6 | apply pt7 | apply pt8 | apply pt9 | apply pt10 | apply pt11 | apply pt12 | apply pt13 | apply pt14 | apply pt15 | apply pt16 | apply pt17))) (by (repeat (first | exact ro_nil | exact ro_rest (by assumption) | refine ro_cons (by first | exact .inl (by assumption) | exact ro_f0 (fun _ h => h) | exact ro_f0 (fun _ => slc_rsl) | exact ro_f1 (fun _ h => h) | exact ro_f1 (fun _ => slc_rsl) | exact ro_f2 (fun _ h => h) | exact ro_f2 (fun _ => slc_rsl) | exact ro_f3 (fun _ h => h) | exact ro_f3 (fun _ => slc_rsl) | exact ro_f4 (fun _ h => h) | exact ro_f4 (fun _ => slc_rsl) | exact ro_f5 (fun _ h => h) | exact ro_f5 (fun _ => slc_rsl) | exact ro_f6 (fun _ h => h) | exact ro_f6 (fun _ => slc_rsl)) ?_)))) (wl_ex fun x6 hx6 => ?_)
  refine wl_y rfl (y_assign rfl) ?_
  refine wl_nil ?_
  refine wq_then ?_
  refine wc_seq ?_
  refine wc_region ?_
  refine wl_y rfl (y_move rfl) ?_
  refine wl_y rfl (y_move rfl) ?_
  refine wl_y rfl (y_nilCheck rfl) ?_
  refine wl_y rfl (y_fieldAddr F59_0 rfl) ?_
  refine wl_y rfl (y_load NA57 rfl (by first | exact cell_blk [] rfl | exact cell_blk [_] rfl | exact cell_blk [_, _] rfl | exact cell_blk [_, _, _] rfl | exact cell_blk [_, _, _, _] rfl | exact cell_blk [_, _, _, _, _] rfl | exact cell_blk [_, _, _, _, _, _] rfl | exact cell_blk [_, _, _, _, _, _, _] rfl | exact cellR_blk (by assumption) rfl)) ?_
  refine wl_c (fun _ _ => want_none) rfl (yc_spec (fst := []) (cap := []) _ FN20 (num_p x6.2 (take0 data).r hf0) rfl rfl rfl (by (repeat (first | exact pt_nil | apply pt0 | apply pt1 | apply pt2 | apply pt3 | apply pt4 | apply pt5 | apply pt6 | apply pt7 | apply pt8 | apply pt9 | apply pt10 | apply pt11 | apply pt12 | apply pt13 | apply pt14 | apply pt15 | apply pt16 | apply pt17))) (by (repeat (first | exact ro_nil | exact ro_rest (by assumption) | refine ro_cons (by first | exact .inl (by assumption) | exact ro_f0 (fun _ h => h) | exact ro_f0 (fun _ => slc_rsl) | exact ro_f1 (fun _ h => h) | exact ro_f1 (fun _ => slc_rsl) | exact ro_f2 (fun _ h => h) | exact ro_f2 (fun _ => slc_rsl) | exact ro_f3 (fun _ h => h) | exact ro_f3 (fun _ => slc_rsl) | exact ro_f4 (fun _ h => h) | exact ro_f4 (fun _ => slc_rsl) | exact ro_f5 (fun _ h => h) | exact ro_f5 (fun _ => slc_rsl) | exact ro_f6 (fun _ h => h) | exact ro_f6 (fun _ => slc_rsl)) ?_)))) (wl_ex fun x12 hx12 => ?_)
  refine wl_y rfl (y_move rfl) ?_
  refine wl_c (fun _ _ => want_none) rfl (yc_spec (fst := []) (cap := []) _ FN21 (sop_c x6.1 x6.2 (take0 data).num.1 (fit_num hf0)) rfl rfl rfl (by (repeat (first | exact pt_nil | apply pt0 | apply pt1 | apply pt2 | apply pt3 | apply pt4 | apply pt5 | apply pt6 | apply pt7 | apply pt8 | apply pt9 | apply pt10 | apply pt11 | apply pt12 | apply pt13 | apply pt14 | apply pt15 | apply pt16 | apply pt17))) (by (repeat (first | exact ro_nil | exact ro_rest (by assumption) | refine ro_cons (by first | exact .inl (by assumption) | exact ro_f0 (fun _ h => h) | exact ro_f0 (fun _ => slc_rsl) | exact ro_f1 (fun _ h => h) | exact ro_f1 (fun _ => slc_rsl) | exact ro_f2 (fun _ h => h) | exact ro_f2 (fun _ => slc_rsl) | exact ro_f3 (fun _ h => h) | exact ro_f3 (fun _ => slc_rsl) | exact ro_f4 (fun _ h => h) | exact ro_f4 (fun _ => slc_rsl) | exact ro_f5 (fun _ h => h) | exact ro_f5 (fun _ => slc_rsl) | exact ro_f6 (fun _ h => h) | exact ro_f6 (fun _ => slc_rsl)) ?_)))) (wl_ex fun x14 hx14 => ?_)
  refine wl_y rfl (y_build (cs := [_, _, _, _, _, _, _, _, _, _]) T31 PL31 rfl rfl rfl) ?_
  refine wl_c (fun _ _ => want_none) rfl (yc_spec (fst := []) (cap := []) _ FN19 (doneE_c x6.1 x6.2 (take0 data).num.1.op.1 ((take0 data).num.2, x14)) rfl rfl rfl (by (repeat (first | exact pt_nil | apply pt0 | apply pt1 | apply pt2 | apply pt3 | apply pt4 | apply pt5 | apply pt6 | apply pt7 | apply pt8 | apply pt9 | apply pt10 | apply pt11 | apply pt12 | apply pt13 | apply pt14 | apply pt15 | apply pt16 | apply pt17))) (by (repeat (first | exact ro_nil | exact ro_rest (by assumption) | refine ro_cons (by first | exact .inl (by assumption) | exact ro_f0 (fun _ h => h) | exact ro_f0 (fun _ => slc_rsl) | exact ro_f1 (fun _ h => h) | exact ro_f1 (fun _ => slc_rsl) | exact ro_f2 (fun _ h => h) | exact ro_f2 (fun _ => slc_rsl) | exact ro_f3 (fun _ h => h) | exact ro_f3 (fun _ => slc_rsl) | exact ro_f4 (fun _ h => h) | exact ro_f4 (fun _ => slc_rsl) | exact ro_f5 (fun _ h => h) | exact ro_f5 (fun _ => slc_rsl) | exact ro_f6 (fun _ h => h) | exact ro_f6 (fun _ => slc_rsl)) ?_)))) (wl_ex fun x16 hx16 => ?_)
  refine wl_y rfl (y_extract rfl rfl) ?_
  refine wl_y rfl (y_extract rfl rfl) ?_
  first | refine wl_u (yu_storeAgg [] (l' := [_, _, _, _, _, _, _, _, _, _]) T31 rfl rfl rfl (by simp [Value.oneCell']) rfl rfl) ?_ | refine wl_u (yu_storeAgg [_] (l' := [_, _, _, _, _, _, _, _, _, _]) T31 rfl rfl rfl (by simp [Value.oneCell']) rfl rfl) ?_ | refine wl_u (yu_storeAgg [_, _] (l' := [_, _, _, _, _, _, _, _, _, _]) T31 rfl rfl rfl (by simp [Value.oneCell']) rfl rfl) ?_ | refine wl_u (yu_storeAgg [_, _, _] (l' := [_, _, _, _, _, _, _, _, _, _]) T31 rfl rfl rfl (by simp [Value.oneCell']) rfl rfl) ?_ | refine wl_u (yu_storeAgg [_, _, _, _] (l' := [_, _, _, _, _, _, _, _, _, _]) T31 rfl rfl rfl (by simp [Value.oneCell']) rfl rfl) ?_ | refine wl_u (yu_storeAgg [_, _, _, _, _] (l' := [_, _, _, _, _, _, _, _, _, _]) T31 rfl rfl rfl (by simp [Value.oneCell']) rfl rfl) ?_ | refine wl_u (yu_storeAgg [_, _, _, _, _, _] (l' := [_, _, _, _, _, _, _, _, _, _]) T31 rfl rfl rfl (by simp [Value.oneCell']) rfl rfl) ?_ | refine wl_u (yu_storeAgg [_, _, _, _, _, _, _] (l' := [_, _, _, _, _, _, _, _, _, _]) T31 rfl rfl rfl (by simp [Value.oneCell']) rfl rfl) ?_
  refine wl_y rfl (y_assign rfl) ?_
  refine wl_nil ?_
  refine wq_then ?_
  refine wc_ret ?_
  refine wq_retC2 (l := [_, _, _, _, _, _, _, _, _, _]) AG31 rfl rfl rfl rfl (by first | exact cells_blk [] rfl | exact cells_blk [_] rfl | exact cells_blk [_, _] rfl | exact cells_blk [_, _, _] rfl | exact cells_blk [_, _, _, _] rfl | exact cells_blk [_, _, _, _, _] rfl | exact cells_blk [_, _, _, _, _, _] rfl | exact cells_blk [_, _, _, _, _, _, _] rfl) (fun w hw => ?_)
  refine ⟨if ((take0 data).ev.1).fin = 0 then ((take0 data).num.2, x14) else (0, OpV.zero), done_er (fun y : Int × OpV => (y.1, y.2.er)) (by simp only [hx14]; rfl) rfl, by rw [show (rdEv data).2 = ((take0 data).ev.1).fin from done_fin]; rfl, ?_⟩
  show Hp w0 K [opA (Prod.snd (if _ then _ else _))] w
  split
  · exact hp_shut (As := [_, _, _]) (hw.sub (by (repeat (first | exact pt_nil | apply pt0 | apply pt1 | apply pt2 | apply pt3 | apply pt4 | apply pt5 | apply pt6 | apply pt7 | apply pt8 | apply pt9 | apply pt10 | apply pt11 | apply pt12 | apply pt13 | apply pt14 | apply pt15 | apply pt16 | apply pt17))))
  · exact hp_op0 hw.bare

set_option maxHeartbeats 1000000 in
theorem readTable_c (data : Str) (hl : data.length ≤ 1000000000) :
    Ctr Tryz.prog 8 #[vS data] [libS] [] (fun x : Sl OpV => opsE x = (rdTable data).1) (fun x => .tuple #[vSl x, vI (rdTable data).2]) (fun x => [opsA x]) := by
  refine spec_start (n := 45) [(0, vS data)] Tryz.func8 rfl rfl ⟨rfl, trivial⟩ rfl ?_
  intro w0 K hR
  have hB := hR libS (by simp)
  have hlr := list_rest_le ⟨data, 0⟩
  obtain ⟨hln, hlb⟩ := list_bnd ⟨data, 0⟩
  simp only at hlr hln hlb
  refine wc_seq ?_
  refine wc_region ?_
  refine wl_y rfl (y_assign rfl) ?_
  refine wl_y rfl (y_assign rfl) ?_
  refine wl_nil ?_
  refine wq_then ?_
  refine wc_seq ?_
  refine wc_region ?_
  refine wl_y rfl (y_move rfl) ?_
  refine wl_c (fun _ _ => want_none) rfl (yc_spec (fst := []) (cap := []) _ FN26 (read_c data) rfl rfl rfl (by (repeat (first | exact pt_nil | apply pt0 | apply pt1 | apply pt2 | apply pt3 | apply pt4 | apply pt5 | apply pt6 | apply pt7 | apply pt8 | apply pt9 | apply pt10 | apply pt11 | apply pt12 | apply pt13 | apply pt14 | apply pt15 | apply pt16 | apply pt17))) (by (repeat (first | exact ro_nil | exact ro_rest (by assumption) | refine ro_cons (by first | exact .inl (by assumption) | exact ro_f0 (fun _ h => h) | exact ro_f0 (fun _ => slc_rsl) | exact ro_f1 (fun _ h => h) | exact ro_f1 (fun _ => slc_rsl) | exact ro_f2 (fun _ h => h) | exact ro_f2 (fun _ => slc_rsl) | exact ro_f3 (fun _ h => h) | exact ro_f3 (fun _ => slc_rsl) | exact ro_f4 (fun _ h => h) | exact ro_f4 (fun _ => slc_rsl) | exact ro_f5 (fun _ h => h) | exact ro_f5 (fun _ => slc_rsl) | exact ro_f6 (fun _ h => h) | exact ro_f6 (fun _ => slc_rsl)) ?_)))) (wl_ex fun x14 hx14 => ?_)
  refine wl_y rfl (y_assign rfl) ?_
  refine wl_nil ?_
  refine wq_then ?_
  refine wc_seq ?_
  refine wc_region ?_
  refine wl_y rfl (y_move rfl) ?_
  refine wl_c (fun _ _ => want_none) rfl (yc_spec (fst := []) (cap := []) _ FN27 (list_p x14 ⟨data, 0⟩ hl) rfl rfl rfl (by (repeat (first | exact pt_nil | apply pt0 | apply pt1 | apply pt2 | apply pt3 | apply pt4 | apply pt5 | apply pt6 | apply pt7 | apply pt8 | apply pt9 | apply pt10 | apply pt11 | apply pt12 | apply pt13 | apply pt14 | apply pt15 | apply pt16 | apply pt17))) (by (repeat (first | exact ro_nil | exact ro_rest (by assumption) | refine ro_cons (by first | exact .inl (by assumption) | exact ro_f0 (fun _ h => h) | exact ro_f0 (fun _ => slc_rsl) | exact ro_f1 (fun _ h => h) | exact ro_f1 (fun _ => slc_rsl) | exact ro_f2 (fun _ h => h) | exact ro_f2 (fun _ => slc_rsl) | exact ro_f3 (fun _ h => h) | exact ro_f3 (fun _ => slc_rsl) | exact ro_f4 (fun _ h => h) | exact ro_f4 (fun _ => slc_rsl) | exact ro_f5 (fun _ h => h) | exact ro_f5 (fun _ => slc_rsl) | exact ro_f6 (fun _ h => h) | exact ro_f6 (fun _ => slc_rsl)) ?_)))) (wl_ex fun x16 hx16 => ?_)
  refine wl_y rfl (y_assign rfl) ?_
  refine wl_nil ?_
  refine wq_then ?_
  refine wc_seq ?_
  refine wc_seq ?_
  refine wc_region ?_
  refine wl_y rfl (y_move rfl) ?_
  refine wl_q (fun _ _ => want_none) rfl (yq_spec (fst := []) (cap := []) _ FN28 (end_p x14 (Rdr'.mk data 0).list.1) rfl rfl rfl (by (repeat (first | exact pt_nil | apply pt0 | apply pt1 | apply pt2 | apply pt3 | apply pt4 | apply pt5 | apply pt6 | apply pt7 | apply pt8 | apply pt9 | apply pt10 | apply pt11 | apply pt12 | apply pt13 | apply pt14 | apply pt15 | apply pt16 | apply pt17))) (by (repeat (first | exact ro_nil | exact ro_rest (by assumption) | refine ro_cons (by first | exact .inl (by assumption) | exact ro_f0 (fun _ h => h) | exact ro_f0 (fun _ => slc_rsl) | exact ro_f1 (fun _ h => h) | exact ro_f1 (fun _ => slc_rsl) | exact ro_f2 (fun _ h => h) | exact ro_f2 (fun _ => slc_rsl) | exact ro_f3 (fun _ h => h) | exact ro_f3 (fun _ => slc_rsl) | exact ro_f4 (fun _ h => h) | exact ro_f4 (fun _ => slc_rsl) | exact ro_f5 (fun _ h => h) | exact ro_f5 (fun _ => slc_rsl) | exact ro_f6 (fun _ h => h) | exact ro_f6 (fun _ => slc_rsl)) ?_))) (fun _ _ => rfl) (fun _ _ _ h => h.sub (by (repeat (first | exact pt_nil | apply pt0 | apply pt1 | apply pt2 | apply pt3 | apply pt4 | apply pt5 | apply pt6 | apply pt7 | apply pt8 | apply pt9 | apply pt10 | apply pt11 | apply pt12 | apply pt13 | apply pt14 | apply pt15 | apply pt16 | apply pt17))))) ?_
  refine wl_y rfl (y_assign rfl) ?_
  refine wl_nil ?_
  refine wq_then ?_
  refine wc_seq ?_
  refine wc_region ?_
  refine wl_y rfl (y_move rfl) ?_
  refine wl_y rfl (y_neqI rfl rfl) ?_
  refine wl_nil ?_
  refine wq_then ?_
  refine wc_cond rfl (fun hc20 => ?_) (fun hc20 => ?_)
  ·
    simp at hc20
    refine wc_seq ?_
    refine wc_region ?_
    refine wl_y rfl (y_move rfl) ?_
    refine wl_y rfl (y_assign rfl) ?_
    refine wl_y rfl (y_assign rfl) ?_
    refine wl_nil ?_
    refine wq_then ?_
    refine wc_ret ?_
    refine wq_then_ret ?_
    refine wq_ret2 rfl rfl rfl (fun w hw => ?_)
    rw [show rdTable data = _ from rdTb_bad (by omega)]; exact ⟨⟨none, 0, []⟩, rfl, rfl, hp_ops (e := 9) (Hp.addNil [] _ (opl_nil hw.bare))⟩
  ·
    simp at hc20
    refine wc_skip ?_
    refine wq_then ?_
    refine wc_seq ?_
    refine wc_region ?_
    refine wl_y rfl (y_assign rfl) ?_
    refine wl_nil ?_
    refine wq_then ?_
    refine wc_seq ?_
    refine wc_seq ?_
    refine wc_region ?_
    refine wl_y rfl (y_move rfl) ?_
    refine wl_y rfl (y_lenSl Tryz.underlying39 rfl) ?_
    refine wl_y rfl (y_move rfl) ?_
    refine wl_nil ?_
    refine wq_then ?_
    refine wc_block ?_
    refine wc_loop (α := Nat × List OpV × Option Addr × Nat) (fun y => y.1 ≤ (Rdr'.mk data 0).list.2.length ∧ y.2.1.length = y.1 ∧ rdOps ((Rdr'.mk data 0).list.2.take y.1) = some (y.2.1.map OpV.er)) [(22, _), (23, _)] (fun y => [(24, vI y.1), (7, .slice y.2.2.1 y.1 y.2.2.2)]) (fun y => Hp w0 K [slc 29 9 y.2.2.1 y.1 y.2.2.2 (y.2.1.flatMap encOp), opL y.2.1, slc 9 1 x16.1 (Rdr'.mk data 0).list.2.length x16.2 ((Rdr'.mk data 0).list.2.map vS), rdA 92 x14 ((Rdr'.mk data 0).list.1)]) (fun y => (Rdr'.mk data 0).list.2.length - y.1) (0, [], none, 0) ?_ ⟨rfl, rfl, rfl, rfl, trivial⟩ ?_ ?_
    · exact ⟨Nat.zero_le _, rfl, rfl⟩
    · exact fun w hw => Hp.addNil [] _ (opl_nil <| hw.sub (by (repeat (first | exact pt_nil | apply pt0 | apply pt1 | apply pt2 | apply pt3 | apply pt4 | apply pt5 | apply pt6 | apply pt7 | apply pt8 | apply pt9 | apply pt10 | apply pt11 | apply pt12 | apply pt13 | apply pt14 | apply pt15 | apply pt16 | apply pt17))))
    · rintro ⟨i, acc, a, cap⟩ ⟨hi, hal, hI⟩; simp only at hi hal hI
      refine wc_world (S' := Hp w0 K [slc 29 9 a i cap (acc.flatMap encOp), opL acc, slc 9 1 x16.1 (Rdr'.mk data 0).list.2.length x16.2 ((Rdr'.mk data 0).list.2.map vS), rdA 92 x14 ((Rdr'.mk data 0).list.1)]) (fun w hw => hw) ?_
      refine wc_same 24 (vI i) rfl rfl ?_
      refine wc_same 7 (.slice a i cap) rfl rfl ?_
      refine wc_seq ?_
      refine wc_region ?_
      refine wl_y rfl (y_lss rfl rfl) ?_
      refine wl_nil ?_
      refine wq_then ?_
      refine wc_seq ?_
      refine wc_cond rfl (fun hc25 => ?_) (fun hc25 => ?_)
      ·
        simp at hc25
        refine wc_skip ?_
        refine wq_then ?_
        refine wc_seq ?_
        refine wc_block ?_
        refine wc_seq ?_
        refine wc_region ?_
        obtain ⟨x, hx⟩ : ∃ x, (Rdr'.mk data 0).list.2[i]? = some x := ⟨_, List.getElem?_eq_getElem (by omega)⟩
        have hxl := hlb x (List.mem_of_getElem? hx)
        have hfx : (take0 x).fit := by unfold Scn.fit; exact Nat.le_trans hxl hl
        have hrf : (rdOp x).2 = (take0 x).op.1.fin := done_fin
        refine wl_y rfl (y_indexAddr Tryz.underlying39 T9 rfl rfl rfl (by omega) (fun w hw => hw.slc_isSome [_, _] (by omega))) ?_
        refine wl_y rfl (y_load NA9 rfl (cell_own [_, _] (row_at hx))) ?_
        refine wl_y rfl (y_assign rfl) ?_
        refine wl_nil ?_
        refine wq_then ?_
        refine wc_seq ?_
        refine wc_region ?_
        refine wl_y rfl (y_move rfl) ?_
        refine wl_c (fun _ _ => want_none) rfl (yc_spec (fst := []) (cap := []) _ FN18 (take_c x) rfl rfl rfl (by (repeat (first | exact pt_nil | apply pt0 | apply pt1 | apply pt2 | apply pt3 | apply pt4 | apply pt5 | apply pt6 | apply pt7 | apply pt8 | apply pt9 | apply pt10 | apply pt11 | apply pt12 | apply pt13 | apply pt14 | apply pt15 | apply pt16 | apply pt17))) (by (repeat (first | exact ro_nil | exact ro_rest (by assumption) | refine ro_cons (by first | exact .inl (by assumption) | exact ro_f0 (fun _ h => h) | exact ro_f0 (fun _ => slc_rsl) | exact ro_f1 (fun _ h => h) | exact ro_f1 (fun _ => slc_rsl) | exact ro_f2 (fun _ h => h) | exact ro_f2 (fun _ => slc_rsl) | exact ro_f3 (fun _ h => h) | exact ro_f3 (fun _ => slc_rsl) | exact ro_f4 (fun _ h => h) | exact ro_f4 (fun _ => slc_rsl) | exact ro_f5 (fun _ h => h) | exact ro_f5 (fun _ => slc_rsl) | exact ro_f6 (fun _ h => h) | exact ro_f6 (fun _ => slc_rsl)) ?_)))) (wl_ex fun x29 hx29 => ?_)
        refine wl_y rfl (y_assign rfl) ?_
        refine wl_nil ?_
        refine wq_then ?_
        refine wc_seq ?_
        refine wc_region ?_
        refine wl_y rfl (y_move rfl) ?_
        refine wl_y rfl (y_move rfl) ?_
        refine wl_c (fun _ _ => want_none) rfl (yc_spec (fst := []) (cap := []) _ FN21 (sop_c x29.1 x29.2 (take0 x) hfx) rfl rfl rfl (by (repeat (first | exact pt_nil | apply pt0 | apply pt1 | apply pt2 | apply pt3 | apply pt4 | apply pt5 | apply pt6 | apply pt7 | apply pt8 | apply pt9 | apply pt10 | apply pt11 | apply pt12 | apply pt13 | apply pt14 | apply pt15 | apply pt16 | apply pt17))) (by (repeat (first | exact ro_nil | exact ro_rest (by assumption) | refine ro_cons (by first | exact .inl (by assumption) | exact ro_f0 (fun _ h => h) | exact ro_f0 (fun _ => slc_rsl) | exact ro_f1 (fun _ h => h) | exact ro_f1 (fun _ => slc_rsl) | exact ro_f2 (fun _ h => h) | exact ro_f2 (fun _ => slc_rsl) | exact ro_f3 (fun _ h => h) | exact ro_f3 (fun _ => slc_rsl) | exact ro_f4 (fun _ h => h) | exact ro_f4 (fun _ => slc_rsl) | exact ro_f5 (fun _ h => h) | exact ro_f5 (fun _ => slc_rsl) | exact ro_f6 (fun _ h => h) | exact ro_f6 (fun _ => slc_rsl)) ?_)))) (wl_ex fun x33 hx33 => ?_)
        refine wl_c (fun _ _ => want_none) rfl (yc_spec (fst := []) (cap := []) _ FN29 (doneO_c x29.1 x29.2 (take0 x).op.1 x33) rfl rfl rfl (by (repeat (first | exact pt_nil | apply pt0 | apply pt1 | apply pt2 | apply pt3 | apply pt4 | apply pt5 | apply pt6 | apply pt7 | apply pt8 | apply pt9 | apply pt10 | apply pt11 | apply pt12 | apply pt13 | apply pt14 | apply pt15 | apply pt16 | apply pt17))) (by (repeat (first | exact ro_nil | exact ro_rest (by assumption) | refine ro_cons (by first | exact .inl (by assumption) | exact ro_f0 (fun _ h => h) | exact ro_f0 (fun _ => slc_rsl) | exact ro_f1 (fun _ h => h) | exact ro_f1 (fun _ => slc_rsl) | exact ro_f2 (fun _ h => h) | exact ro_f2 (fun _ => slc_rsl) | exact ro_f3 (fun _ h => h) | exact ro_f3 (fun _ => slc_rsl) | exact ro_f4 (fun _ h => h) | exact ro_f4 (fun _ => slc_rsl) | exact ro_f5 (fun _ h => h) | exact ro_f5 (fun _ => slc_rsl) | exact ro_f6 (fun _ h => h) | exact ro_f6 (fun _ => slc_rsl)) ?_)))) (wl_ex fun x34 hx34 => ?_)
        refine wl_y rfl (y_move rfl) ?_
        refine wl_y rfl (y_extract rfl rfl) ?_
        refine wl_y rfl (y_extract rfl rfl) ?_
        refine wl_w (fun _ _ => want_none) rfl (yw_alloc T29 rfl) (wl_ex fun b11 _ => ?_)
        first | refine wl_u (yu_storeAgg [] (l' := [_, _, _, _, _, _, _, _, _]) T29 rfl rfl rfl (by simp [Value.oneCell']) rfl rfl) ?_ | refine wl_u (yu_storeAgg [_] (l' := [_, _, _, _, _, _, _, _, _]) T29 rfl rfl rfl (by simp [Value.oneCell']) rfl rfl) ?_ | refine wl_u (yu_storeAgg [_, _] (l' := [_, _, _, _, _, _, _, _, _]) T29 rfl rfl rfl (by simp [Value.oneCell']) rfl rfl) ?_ | refine wl_u (yu_storeAgg [_, _, _] (l' := [_, _, _, _, _, _, _, _, _]) T29 rfl rfl rfl (by simp [Value.oneCell']) rfl rfl) ?_ | refine wl_u (yu_storeAgg [_, _, _, _] (l' := [_, _, _, _, _, _, _, _, _]) T29 rfl rfl rfl (by simp [Value.oneCell']) rfl rfl) ?_ | refine wl_u (yu_storeAgg [_, _, _, _, _] (l' := [_, _, _, _, _, _, _, _, _]) T29 rfl rfl rfl (by simp [Value.oneCell']) rfl rfl) ?_ | refine wl_u (yu_storeAgg [_, _, _, _, _, _] (l' := [_, _, _, _, _, _, _, _, _]) T29 rfl rfl rfl (by simp [Value.oneCell']) rfl rfl) ?_ | refine wl_u (yu_storeAgg [_, _, _, _, _, _, _] (l' := [_, _, _, _, _, _, _, _, _]) T29 rfl rfl rfl (by simp [Value.oneCell']) rfl rfl) ?_ | refine wl_u (yu_storeAgg [_, _, _, _, _, _, _, _] (l' := [_, _, _, _, _, _, _, _, _]) T29 rfl rfl rfl (by simp [Value.oneCell']) rfl rfl) ?_ | refine wl_u (yu_storeAgg [_, _, _, _, _, _, _, _, _] (l' := [_, _, _, _, _, _, _, _, _]) T29 rfl rfl rfl (by simp [Value.oneCell']) rfl rfl) ?_
        refine wl_y rfl (y_assign rfl) ?_
        refine wl_nil ?_
        refine wq_then ?_
        refine wc_seq ?_
        refine wc_seq ?_
        refine wc_region ?_
        refine wl_y rfl (y_move rfl) ?_
        refine wl_y rfl (y_neqI rfl rfl) ?_
        refine wl_nil ?_
        refine wq_then ?_
        refine wc_cond rfl (fun hc38 => ?_) (fun hc38 => ?_)
        ·
          simp at hc38
          refine wc_seq ?_
          refine wc_region ?_
          refine wl_y rfl (y_assign rfl) ?_
          refine wl_y rfl (y_assign rfl) ?_
          refine wl_nil ?_
          refine wq_then ?_
          refine wc_ret ?_
          refine wq_then_ret (wq_block_ret (wq_then_ret (wq_then_ret (wq_block_ret (wq_then_ret ?_)))))
          refine wq_ret2 rfl rfl rfl (fun w hw => ?_)
          rw [show rdTable data = _ from rdTb_none (by omega) (rdOps_fail hx hI (by omega))]; exact ⟨⟨none, 0, []⟩, rfl, rfl, hp_ops (e := 9) (Hp.addNil [] _ (opl_nil hw.bare))⟩
        ·
          simp at hc38
          refine wc_skip ?_
          refine wq_then ?_
          refine wc_region ?_
          have hre : x33.er = (rdOp x).1 := by
            have := done_er (z := PO.zero) (x := (take0 x).op) (X := x33) (Z := OpV.zero) OpV.er hx33 rfl
            rw [if_pos (by omega)] at this; exact this
          refine wl_world (S' := Hp w0 K [blk b11 (.cells (encOp x33).toArray 29 (0, 0)), slc 29 9 a i cap (acc.flatMap encOp), opL acc, graphA x33.graph, filesA x33.snap, filesA x33.res.files, slc 9 1 x16.1 (Rdr'.mk data 0).list.2.length x16.2 ((Rdr'.mk data 0).list.2.map vS), rdA 92 x14 ((Rdr'.mk data 0).list.1)]) (fun w hw => by rw [if_pos (by omega)] at hw; exact hw.sub (by (repeat (first | exact pt_nil | apply pt0 | apply pt1 | apply pt2 | apply pt3 | apply pt4 | apply pt5 | apply pt6 | apply pt7 | apply pt8 | apply pt9 | apply pt10 | apply pt11 | apply pt12 | apply pt13 | apply pt14 | apply pt15 | apply pt16 | apply pt17)))) ?_
          refine wl_y rfl (y_move rfl) ?_
          refine wl_y rfl (y_loadAgg (l := [_, _, _, _, _, _, _, _, _]) AG29 rfl rfl (by first | exact cells_blk [] rfl | exact cells_blk [_] rfl | exact cells_blk [_, _] rfl | exact cells_blk [_, _, _] rfl | exact cells_blk [_, _, _, _] rfl | exact cells_blk [_, _, _, _, _] rfl | exact cells_blk [_, _, _, _, _, _] rfl | exact cells_blk [_, _, _, _, _, _, _] rfl | exact cells_blk [_, _, _, _, _, _, _, _] rfl | exact cells_blk [_, _, _, _, _, _, _, _, _] rfl | exact cellsR_blk (by assumption) rfl)) ?_
          refine wl_w (fun _ _ => want_none) rfl (yw_buildSlice (cs := encOp x33) Tryz.underlying34 T29 rfl rfl rfl rfl rfl rfl rfl) (wl_ex fun b41 _ => ?_)
          refine wl_w (fun _ _ => want_none) rfl (yw_append (m := 1) [_, _] (cs := acc.flatMap encOp) (news := encOp x33) Tryz.underlying34 Tryz.underlying34 (.inl ⟨_, rfl⟩) T29 rfl rfl rfl (fun w hw => Src.slice ((hw.seen []).mono fun _ => slc_rsl)) (by omega) (by unfold maxLen; omega) (by simp [Value.oneCell']) rfl) (wl_ex fun p42 hp42 => ?_)
          refine wl_y rfl (y_assign rfl) ?_
          refine wl_nil ?_
          refine wq_block_normal ?_
          refine wq_then ?_
          refine wc_region ?_
          refine wl_y rfl (y_add rfl rfl (by omega)) ?_
          refine wl_y rfl (y_move rfl) ?_
          refine wl_nil ?_
          exact wq_round (i + 1, acc ++ [x33], p42.1, p42.2) (by simp only; omega) ⟨by simp only; omega, by simp only [List.length_append, List.length_singleton]; omega, by simp only; rw [erO_snoc hre]; exact rdOps_next hx hI (by omega)⟩ ⟨rfl, rfl, rfl, rfl, trivial⟩ (fun w hw => by
            have h7 : Hp w0 K (graphA x33.graph :: filesA x33.snap :: filesA x33.res.files :: [opL acc, slc 29 9 p42.1 (i + 1) p42.2 (acc.flatMap encOp ++ encOp x33), slc 9 1 x16.1 (Rdr'.mk data 0).list.2.length x16.2 ((Rdr'.mk data 0).list.2.map vS), rdA 92 x14 ((Rdr'.mk data 0).list.1)]) w := hw.sub (by (repeat (first | exact pt_nil | apply pt0 | apply pt1 | apply pt2 | apply pt3 | apply pt4 | apply pt5 | apply pt6 | apply pt7 | apply pt8 | apply pt9 | apply pt10 | apply pt11 | apply pt12 | apply pt13 | apply pt14 | apply pt15 | apply pt16 | apply pt17)))
            have h9 : Hp w0 K [opL acc, opA x33, slc 29 9 p42.1 (i + 1) p42.2 (acc.flatMap encOp ++ encOp x33), slc 9 1 x16.1 (Rdr'.mk data 0).list.2.length x16.2 ((Rdr'.mk data 0).list.2.map vS), rdA 92 x14 ((Rdr'.mk data 0).list.1)] w := (hp_shut (As := [_, _, _]) h7).sub (by (repeat (first | exact pt_nil | apply pt0 | apply pt1 | apply pt2 | apply pt3 | apply pt4 | apply pt5 | apply pt6 | apply pt7 | apply pt8 | apply pt9 | apply pt10 | apply pt11 | apply pt12 | apply pt13 | apply pt14 | apply pt15 | apply pt16 | apply pt17)))
            have h8 := opl_add h9
            simp only [List.flatMap_append, List.flatMap_cons, List.flatMap_nil, List.append_nil]
            exact h8.sub (by (repeat (first | exact pt_nil | apply pt0 | apply pt1 | apply pt2 | apply pt3 | apply pt4 | apply pt5 | apply pt6 | apply pt7 | apply pt8 | apply pt9 | apply pt10 | apply pt11 | apply pt12 | apply pt13 | apply pt14 | apply pt15 | apply pt16 | apply pt17))))
      ·
        simp at hc25
        refine wc_exit ?_
        refine wq_then_exit (wq_then_exit (wq_block_exit ?_))
        refine wq_then ?_
        refine wc_seq ?_
        refine wc_region ?_
        refine wl_y rfl (y_move rfl) ?_
        refine wl_y rfl (y_assign rfl) ?_
        refine wl_y rfl (y_assign rfl) ?_
        refine wl_nil ?_
        refine wq_then ?_
        refine wc_ret ?_
        refine wq_ret2 rfl rfl rfl (fun w hw => ?_)
        rw [show i = (Rdr'.mk data 0).list.2.length by omega, List.take_length] at hI
        rw [show rdTable data = _ from rdTb_some (by omega) hI]; exact ⟨⟨a, cap, acc⟩, rfl, by rw [← hal], by rw [← hal] at hw; exact hp_ops (hw.sub (by (repeat (first | exact pt_nil | apply pt0 | apply pt1 | apply pt2 | apply pt3 | apply pt4 | apply pt5 | apply pt6 | apply pt7 | apply pt8 | apply pt9 | apply pt10 | apply pt11 | apply pt12 | apply pt13 | apply pt14 | apply pt15 | apply pt16 | apply pt17))))⟩

end Go.Proofs.YtbnahfjhlbibcaaGreatDoor
