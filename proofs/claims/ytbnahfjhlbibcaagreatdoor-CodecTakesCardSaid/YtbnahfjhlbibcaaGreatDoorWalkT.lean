/-
  Walks: scans of operations and outcomes, and what is done.
-/
import Derived.Test.YtbnahfjhlbibcaaGreatDoorWalkS
namespace Go.Proofs.YtbnahfjhlbibcaaGreatDoor
open Go.Eng

open Go.Lib
set_option maxHeartbeats 1000000 in
theorem sop_c (sb rb : Nat) (s : Scn) (hf : s.fit) :
    Ctr Tryz.prog 21 #[ptr sb] [libS] (scA sb rb s) (fun x : OpV => x.er = s.op.2) (fun x => .agg (encOp x).toArray) (fun x => [graphA x.graph, filesA x.snap, filesA x.res.files] ++ scA sb rb s.op.1) := by
  refine spec_start (n := 25) [(0, ptr sb)] Tryz.func21 rfl rfl ⟨rfl, trivial⟩ rfl ?_
  intro w0 K hR
  have hB := hR libS (by simp)
  refine wc_seq ?_
  refine wc_region ?_
  refine wl_w (fun _ _ => want_none) rfl (yw_alloc T29 rfl) (wl_ex fun b2 _ => ?_)
  refine wl_nil ?_
  refine wq_then ?_
  refine wc_seq ?_
  refine wc_mix (.q 0 0 (.q 1 0 (.q 2 0 (.q 3 0 (.q 5 0 (.q 7 0 (.q 9 0 (.q 10 0 (.q 11 0 (.q 12 0 (.q 14 0 (.q 15 0 (.q 16 0 (.q 17 0 (.q 19 0 (.w 4 2 (.w 6 2 (.w 8 2 (.w 13 2 (.w 18 2 (.w 20 2 (.q 21 0 (.w 22 2 .nil .nil)) .nil) .nil) .nil) .nil) .nil) .nil)))))))))))))))) (fun w => w.cell? ⟨sb, 0, none⟩ = some (ptr rb)) MO (by kernel_rfl) (Hp.drawless _ _ _) (fun w hw => by first | exact cell_blk [] rfl w hw | exact cell_blk [_] rfl w hw | exact cell_blk [_, _] rfl w hw | exact cell_blk [_, _, _] rfl w hw | exact cell_blk [_, _, _, _] rfl w hw | exact cell_blk [_, _, _, _, _] rfl w hw | exact cell_blk [_, _, _, _, _, _] rfl w hw | exact cell_blk [_, _, _, _, _, _, _] rfl w hw) ?_
  refine wm_g rfl rfl (y_move rfl) ?_
  refine wm_g rfl rfl (y_nilCheck rfl) ?_
  refine wm_g rfl rfl (y_fieldAddr F59_0 rfl) ?_
  refine wm_g rfl rfl (y_load NA57 rfl (fun w hw => hw)) ?_
  refine wm_g rfl rfl (y_move rfl) ?_
  refine wm_g rfl rfl (y_move rfl) ?_
  refine wm_g rfl rfl (y_move rfl) ?_
  refine wm_g rfl rfl (y_nilCheck rfl) ?_
  refine wm_g rfl rfl (y_fieldAddr F59_0 rfl) ?_
  refine wm_g rfl rfl (y_load NA57 rfl (fun w hw => hw)) ?_
  refine wm_g rfl rfl (y_move rfl) ?_
  refine wm_g rfl rfl (y_nilCheck rfl) ?_
  refine wm_g rfl rfl (y_fieldAddr F59_0 rfl) ?_
  refine wm_g rfl rfl (y_load NA57 rfl (fun w hw => hw)) ?_
  refine wm_g rfl rfl (y_move rfl) ?_
  refine wm_c rfl rfl ?hC (yc_spec (fst := []) (cap := []) _ FN36 (text_p rb s.r hf) rfl rfl rfl (by (repeat (first | exact pt_nil | apply pt0 | apply pt1 | apply pt2 | apply pt3 | apply pt4 | apply pt5 | apply pt6 | apply pt7 | apply pt8 | apply pt9 | apply pt10 | apply pt11 | apply pt12 | apply pt13 | apply pt14 | apply pt15 | apply pt16 | apply pt17))) (by (repeat (first | exact ro_nil | exact ro_rest (by assumption) | refine ro_cons (by first | exact .inl (by assumption) | exact ro_f0 (fun _ h => h) | exact ro_f0 (fun _ => slc_rsl) | exact ro_f1 (fun _ h => h) | exact ro_f1 (fun _ => slc_rsl) | exact ro_f2 (fun _ h => h) | exact ro_f2 (fun _ => slc_rsl) | exact ro_f3 (fun _ h => h) | exact ro_f3 (fun _ => slc_rsl) | exact ro_f4 (fun _ h => h) | exact ro_f4 (fun _ => slc_rsl) | exact ro_f5 (fun _ h => h) | exact ro_f5 (fun _ => slc_rsl) | exact ro_f6 (fun _ h => h) | exact ro_f6 (fun _ => slc_rsl)) ?_)))) (wm_ex fun x7 hx7 => ?_)
  case hC => exact (fun _ _ h => by obtain ⟨_, _, _, hw⟩ := h; first | exact cell_blk [] rfl _ hw | exact cell_blk [_] rfl _ hw | exact cell_blk [_, _] rfl _ hw | exact cell_blk [_, _, _] rfl _ hw | exact cell_blk [_, _, _, _] rfl _ hw | exact cell_blk [_, _, _, _, _] rfl _ hw | exact cell_blk [_, _, _, _, _, _] rfl _ hw | exact cell_blk [_, _, _, _, _, _, _] rfl _ hw)
  refine wm_c rfl rfl ?hC (yc_spec (fst := []) (cap := []) _ FN48 (sgraph_c sb rb s.text.1 (fit_text hf)) rfl rfl rfl (by (repeat (first | exact pt_nil | apply pt0 | apply pt1 | apply pt2 | apply pt3 | apply pt4 | apply pt5 | apply pt6 | apply pt7 | apply pt8 | apply pt9 | apply pt10 | apply pt11 | apply pt12 | apply pt13 | apply pt14 | apply pt15 | apply pt16 | apply pt17))) (by (repeat (first | exact ro_nil | exact ro_rest (by assumption) | refine ro_cons (by first | exact .inl (by assumption) | exact ro_f0 (fun _ h => h) | exact ro_f0 (fun _ => slc_rsl) | exact ro_f1 (fun _ h => h) | exact ro_f1 (fun _ => slc_rsl) | exact ro_f2 (fun _ h => h) | exact ro_f2 (fun _ => slc_rsl) | exact ro_f3 (fun _ h => h) | exact ro_f3 (fun _ => slc_rsl) | exact ro_f4 (fun _ h => h) | exact ro_f4 (fun _ => slc_rsl) | exact ro_f5 (fun _ h => h) | exact ro_f5 (fun _ => slc_rsl) | exact ro_f6 (fun _ h => h) | exact ro_f6 (fun _ => slc_rsl)) ?_)))) (wm_ex fun x9 hx9 => ?_)
  case hC => exact (fun _ _ h => by obtain ⟨_, _, _, hw⟩ := h; first | exact cell_blk [] rfl _ hw | exact cell_blk [_] rfl _ hw | exact cell_blk [_, _] rfl _ hw | exact cell_blk [_, _, _] rfl _ hw | exact cell_blk [_, _, _, _] rfl _ hw | exact cell_blk [_, _, _, _, _] rfl _ hw | exact cell_blk [_, _, _, _, _, _] rfl _ hw | exact cell_blk [_, _, _, _, _, _, _] rfl _ hw)
  refine wm_c rfl rfl ?hC (yc_spec (fst := []) (cap := []) _ FN37 (sfiles_c sb rb s.text.1.graph.1 (fit_graph (fit_text hf))) rfl rfl rfl (by (repeat (first | exact pt_nil | apply pt0 | apply pt1 | apply pt2 | apply pt3 | apply pt4 | apply pt5 | apply pt6 | apply pt7 | apply pt8 | apply pt9 | apply pt10 | apply pt11 | apply pt12 | apply pt13 | apply pt14 | apply pt15 | apply pt16 | apply pt17))) (by (repeat (first | exact ro_nil | exact ro_rest (by assumption) | refine ro_cons (by first | exact .inl (by assumption) | exact ro_f0 (fun _ h => h) | exact ro_f0 (fun _ => slc_rsl) | exact ro_f1 (fun _ h => h) | exact ro_f1 (fun _ => slc_rsl) | exact ro_f2 (fun _ h => h) | exact ro_f2 (fun _ => slc_rsl) | exact ro_f3 (fun _ h => h) | exact ro_f3 (fun _ => slc_rsl) | exact ro_f4 (fun _ h => h) | exact ro_f4 (fun _ => slc_rsl) | exact ro_f5 (fun _ h => h) | exact ro_f5 (fun _ => slc_rsl) | exact ro_f6 (fun _ h => h) | exact ro_f6 (fun _ => slc_rsl)) ?_)))) (wm_ex fun x11 hx11 => ?_)
  case hC => exact (fun _ _ h => by obtain ⟨_, _, _, hw⟩ := h; first | exact cell_blk [] rfl _ hw | exact cell_blk [_] rfl _ hw | exact cell_blk [_, _] rfl _ hw | exact cell_blk [_, _, _] rfl _ hw | exact cell_blk [_, _, _, _] rfl _ hw | exact cell_blk [_, _, _, _, _] rfl _ hw | exact cell_blk [_, _, _, _, _, _] rfl _ hw | exact cell_blk [_, _, _, _, _, _, _] rfl _ hw)
  refine wm_c rfl rfl ?hC (yc_spec (fst := []) (cap := []) _ FN36 (text_p rb s.text.1.graph.1.files.1.r (fit_files (fit_graph (fit_text hf)))) rfl rfl rfl (by (repeat (first | exact pt_nil | apply pt0 | apply pt1 | apply pt2 | apply pt3 | apply pt4 | apply pt5 | apply pt6 | apply pt7 | apply pt8 | apply pt9 | apply pt10 | apply pt11 | apply pt12 | apply pt13 | apply pt14 | apply pt15 | apply pt16 | apply pt17))) (by (repeat (first | exact ro_nil | exact ro_rest (by assumption) | refine ro_cons (by first | exact .inl (by assumption) | exact ro_f0 (fun _ h => h) | exact ro_f0 (fun _ => slc_rsl) | exact ro_f1 (fun _ h => h) | exact ro_f1 (fun _ => slc_rsl) | exact ro_f2 (fun _ h => h) | exact ro_f2 (fun _ => slc_rsl) | exact ro_f3 (fun _ h => h) | exact ro_f3 (fun _ => slc_rsl) | exact ro_f4 (fun _ h => h) | exact ro_f4 (fun _ => slc_rsl) | exact ro_f5 (fun _ h => h) | exact ro_f5 (fun _ => slc_rsl) | exact ro_f6 (fun _ h => h) | exact ro_f6 (fun _ => slc_rsl)) ?_)))) (wm_ex fun x16 hx16 => ?_)
  case hC => exact (fun _ _ h => by obtain ⟨_, _, _, hw⟩ := h; first | exact cell_blk [] rfl _ hw | exact cell_blk [_] rfl _ hw | exact cell_blk [_, _] rfl _ hw | exact cell_blk [_, _, _] rfl _ hw | exact cell_blk [_, _, _, _] rfl _ hw | exact cell_blk [_, _, _, _, _] rfl _ hw | exact cell_blk [_, _, _, _, _, _] rfl _ hw | exact cell_blk [_, _, _, _, _, _, _] rfl _ hw)
  refine wm_c rfl rfl ?hC (yc_spec (fst := []) (cap := []) _ FN20 (num_p rb s.text.1.graph.1.files.1.text.1.r (fit_text (fit_files (fit_graph (fit_text hf))))) rfl rfl rfl (by (repeat (first | exact pt_nil | apply pt0 | apply pt1 | apply pt2 | apply pt3 | apply pt4 | apply pt5 | apply pt6 | apply pt7 | apply pt8 | apply pt9 | apply pt10 | apply pt11 | apply pt12 | apply pt13 | apply pt14 | apply pt15 | apply pt16 | apply pt17))) (by (repeat (first | exact ro_nil | exact ro_rest (by assumption) | refine ro_cons (by first | exact .inl (by assumption) | exact ro_f0 (fun _ h => h) | exact ro_f0 (fun _ => slc_rsl) | exact ro_f1 (fun _ h => h) | exact ro_f1 (fun _ => slc_rsl) | exact ro_f2 (fun _ h => h) | exact ro_f2 (fun _ => slc_rsl) | exact ro_f3 (fun _ h => h) | exact ro_f3 (fun _ => slc_rsl) | exact ro_f4 (fun _ h => h) | exact ro_f4 (fun _ => slc_rsl) | exact ro_f5 (fun _ h => h) | exact ro_f5 (fun _ => slc_rsl) | exact ro_f6 (fun _ h => h) | exact ro_f6 (fun _ => slc_rsl)) ?_)))) (wm_ex fun x21 hx21 => ?_)
  case hC => exact (fun _ _ h => by obtain ⟨_, _, _, hw⟩ := h; first | exact cell_blk [] rfl _ hw | exact cell_blk [_] rfl _ hw | exact cell_blk [_, _] rfl _ hw | exact cell_blk [_, _, _] rfl _ hw | exact cell_blk [_, _, _, _] rfl _ hw | exact cell_blk [_, _, _, _, _] rfl _ hw | exact cell_blk [_, _, _, _, _, _] rfl _ hw | exact cell_blk [_, _, _, _, _, _, _] rfl _ hw)
  refine wm_c rfl rfl ?hC (yc_spec (fst := []) (cap := []) _ FN49 (sres_c sb rb s.text.1.graph.1.files.1.text.1.num.1 (fit_num (fit_text (fit_files (fit_graph (fit_text hf)))))) rfl rfl rfl (by (repeat (first | exact pt_nil | apply pt0 | apply pt1 | apply pt2 | apply pt3 | apply pt4 | apply pt5 | apply pt6 | apply pt7 | apply pt8 | apply pt9 | apply pt10 | apply pt11 | apply pt12 | apply pt13 | apply pt14 | apply pt15 | apply pt16 | apply pt17))) (by (repeat (first | exact ro_nil | exact ro_rest (by assumption) | refine ro_cons (by first | exact .inl (by assumption) | exact ro_f0 (fun _ h => h) | exact ro_f0 (fun _ => slc_rsl) | exact ro_f1 (fun _ h => h) | exact ro_f1 (fun _ => slc_rsl) | exact ro_f2 (fun _ h => h) | exact ro_f2 (fun _ => slc_rsl) | exact ro_f3 (fun _ h => h) | exact ro_f3 (fun _ => slc_rsl) | exact ro_f4 (fun _ h => h) | exact ro_f4 (fun _ => slc_rsl) | exact ro_f5 (fun _ h => h) | exact ro_f5 (fun _ => slc_rsl) | exact ro_f6 (fun _ h => h) | exact ro_f6 (fun _ => slc_rsl)) ?_)))) (wm_ex fun x23 hx23 => ?_)
  case hC => exact (fun _ _ h => by obtain ⟨_, _, _, hw⟩ := h; first | exact cell_blk [] rfl _ hw | exact cell_blk [_] rfl _ hw | exact cell_blk [_, _] rfl _ hw | exact cell_blk [_, _, _] rfl _ hw | exact cell_blk [_, _, _, _] rfl _ hw | exact cell_blk [_, _, _, _, _] rfl _ hw | exact cell_blk [_, _, _, _, _, _] rfl _ hw | exact cell_blk [_, _, _, _, _, _, _] rfl _ hw)
  refine wm_g rfl rfl (y_build (cs := [_, _, _, _, _, _, _, _, _]) T29 PL29 rfl rfl rfl) ?_
  first | refine wm_u rfl (fun _ hw => by first | exact cell_blk [] rfl _ hw | exact cell_blk [_] rfl _ hw | exact cell_blk [_, _] rfl _ hw | exact cell_blk [_, _, _] rfl _ hw | exact cell_blk [_, _, _, _] rfl _ hw | exact cell_blk [_, _, _, _, _] rfl _ hw | exact cell_blk [_, _, _, _, _, _] rfl _ hw | exact cell_blk [_, _, _, _, _, _, _] rfl _ hw) (yu_storeAgg [] (l' := [_, _, _, _, _, _, _, _, _]) T29 rfl rfl rfl (by simp [Value.oneCell', encR]) rfl rfl) ?_ | refine wm_u rfl (fun _ hw => by first | exact cell_blk [] rfl _ hw | exact cell_blk [_] rfl _ hw | exact cell_blk [_, _] rfl _ hw | exact cell_blk [_, _, _] rfl _ hw | exact cell_blk [_, _, _, _] rfl _ hw | exact cell_blk [_, _, _, _, _] rfl _ hw | exact cell_blk [_, _, _, _, _, _] rfl _ hw | exact cell_blk [_, _, _, _, _, _, _] rfl _ hw) (yu_storeAgg [_] (l' := [_, _, _, _, _, _, _, _, _]) T29 rfl rfl rfl (by simp [Value.oneCell', encR]) rfl rfl) ?_ | refine wm_u rfl (fun _ hw => by first | exact cell_blk [] rfl _ hw | exact cell_blk [_] rfl _ hw | exact cell_blk [_, _] rfl _ hw | exact cell_blk [_, _, _] rfl _ hw | exact cell_blk [_, _, _, _] rfl _ hw | exact cell_blk [_, _, _, _, _] rfl _ hw | exact cell_blk [_, _, _, _, _, _] rfl _ hw | exact cell_blk [_, _, _, _, _, _, _] rfl _ hw) (yu_storeAgg [_, _] (l' := [_, _, _, _, _, _, _, _, _]) T29 rfl rfl rfl (by simp [Value.oneCell', encR]) rfl rfl) ?_ | refine wm_u rfl (fun _ hw => by first | exact cell_blk [] rfl _ hw | exact cell_blk [_] rfl _ hw | exact cell_blk [_, _] rfl _ hw | exact cell_blk [_, _, _] rfl _ hw | exact cell_blk [_, _, _, _] rfl _ hw | exact cell_blk [_, _, _, _, _] rfl _ hw | exact cell_blk [_, _, _, _, _, _] rfl _ hw | exact cell_blk [_, _, _, _, _, _, _] rfl _ hw) (yu_storeAgg [_, _, _] (l' := [_, _, _, _, _, _, _, _, _]) T29 rfl rfl rfl (by simp [Value.oneCell', encR]) rfl rfl) ?_ | refine wm_u rfl (fun _ hw => by first | exact cell_blk [] rfl _ hw | exact cell_blk [_] rfl _ hw | exact cell_blk [_, _] rfl _ hw | exact cell_blk [_, _, _] rfl _ hw | exact cell_blk [_, _, _, _] rfl _ hw | exact cell_blk [_, _, _, _, _] rfl _ hw | exact cell_blk [_, _, _, _, _, _] rfl _ hw | exact cell_blk [_, _, _, _, _, _, _] rfl _ hw) (yu_storeAgg [_, _, _, _] (l' := [_, _, _, _, _, _, _, _, _]) T29 rfl rfl rfl (by simp [Value.oneCell', encR]) rfl rfl) ?_ | refine wm_u rfl (fun _ hw => by first | exact cell_blk [] rfl _ hw | exact cell_blk [_] rfl _ hw | exact cell_blk [_, _] rfl _ hw | exact cell_blk [_, _, _] rfl _ hw | exact cell_blk [_, _, _, _] rfl _ hw | exact cell_blk [_, _, _, _, _] rfl _ hw | exact cell_blk [_, _, _, _, _, _] rfl _ hw | exact cell_blk [_, _, _, _, _, _, _] rfl _ hw) (yu_storeAgg [_, _, _, _, _] (l' := [_, _, _, _, _, _, _, _, _]) T29 rfl rfl rfl (by simp [Value.oneCell', encR]) rfl rfl) ?_ | refine wm_u rfl (fun _ hw => by first | exact cell_blk [] rfl _ hw | exact cell_blk [_] rfl _ hw | exact cell_blk [_, _] rfl _ hw | exact cell_blk [_, _, _] rfl _ hw | exact cell_blk [_, _, _, _] rfl _ hw | exact cell_blk [_, _, _, _, _] rfl _ hw | exact cell_blk [_, _, _, _, _, _] rfl _ hw | exact cell_blk [_, _, _, _, _, _, _] rfl _ hw) (yu_storeAgg [_, _, _, _, _, _] (l' := [_, _, _, _, _, _, _, _, _]) T29 rfl rfl rfl (by simp [Value.oneCell', encR]) rfl rfl) ?_ | refine wm_u rfl (fun _ hw => by first | exact cell_blk [] rfl _ hw | exact cell_blk [_] rfl _ hw | exact cell_blk [_, _] rfl _ hw | exact cell_blk [_, _, _] rfl _ hw | exact cell_blk [_, _, _, _] rfl _ hw | exact cell_blk [_, _, _, _, _] rfl _ hw | exact cell_blk [_, _, _, _, _, _] rfl _ hw | exact cell_blk [_, _, _, _, _, _, _] rfl _ hw) (yu_storeAgg [_, _, _, _, _, _, _] (l' := [_, _, _, _, _, _, _, _, _]) T29 rfl rfl rfl (by simp [Value.oneCell', encR]) rfl rfl) ?_
  refine wm_nil ?_
  refine all_wq ?_
  refine wq_then ?_
  refine wc_ret ?_
  refine wq_retC1 (l := [_, _, _, _, _, _, _, _, _]) AG29 rfl rfl rfl (by first | exact cells_blk [] rfl | exact cells_blk [_] rfl | exact cells_blk [_, _] rfl | exact cells_blk [_, _, _] rfl | exact cells_blk [_, _, _, _] rfl | exact cells_blk [_, _, _, _, _] rfl | exact cells_blk [_, _, _, _, _, _] rfl | exact cells_blk [_, _, _, _, _, _, _] rfl) (fun w hw => ?_)
  exact ⟨⟨s.text.2, x9, x11, s.text.1.graph.1.files.1.text.2, s.text.1.graph.1.files.1.text.1.num.2, x23⟩, by simp only [OpV.er, hx9, hx11, hx23]; rfl, rfl, hw.sub (by (repeat (first | exact pt_nil | apply pt0 | apply pt1 | apply pt2 | apply pt3 | apply pt4 | apply pt5 | apply pt6 | apply pt7 | apply pt8 | apply pt9 | apply pt10 | apply pt11 | apply pt12 | apply pt13 | apply pt14 | apply pt15 | apply pt16 | apply pt17)))⟩

set_option maxHeartbeats 1000000 in
theorem soutc_c (sb rb : Nat) (s : Scn) (hf : s.fit) :
    Ctr Tryz.prog 41 #[ptr sb] [libS] (scA sb rb s) (fun x : OutV => x.er = s.outc.2) (fun x => .agg (encU x).toArray) (fun x => filesA x.files :: scA sb rb s.outc.1) := by
  refine spec_start (n := 28) [(0, ptr sb)] Tryz.func41 rfl rfl ⟨rfl, trivial⟩ rfl ?_
  intro w0 K hR
  have hB := hR libS (by simp)
  refine wc_seq ?_
  refine wc_region ?_
  refine wl_w (fun _ _ => want_none) rfl (yw_alloc T45 rfl) (wl_ex fun b2 _ => ?_)
  refine wl_nil ?_
  refine wq_then ?_
  refine wc_seq ?_
  refine wc_mix (.q 0 0 (.q 1 0 (.q 2 0 (.q 3 0 (.q 5 0 (.q 7 0 (.q 8 0 (.q 9 0 (.q 10 0 (.q 12 0 (.q 14 0 (.q 15 0 (.q 16 0 (.q 17 0 (.q 19 0 (.q 20 0 (.q 21 0 (.q 22 0 (.w 4 2 (.w 6 2 (.w 11 2 (.w 13 2 (.w 18 2 (.w 23 2 (.q 24 0 (.w 25 2 .nil .nil)) .nil) .nil) .nil) .nil) .nil) .nil))))))))))))))))))) (fun w => w.cell? ⟨sb, 0, none⟩ = some (ptr rb)) MO (by kernel_rfl) (Hp.drawless _ _ _) (fun w hw => by first | exact cell_blk [] rfl w hw | exact cell_blk [_] rfl w hw | exact cell_blk [_, _] rfl w hw | exact cell_blk [_, _, _] rfl w hw | exact cell_blk [_, _, _, _] rfl w hw | exact cell_blk [_, _, _, _, _] rfl w hw | exact cell_blk [_, _, _, _, _, _] rfl w hw | exact cell_blk [_, _, _, _, _, _, _] rfl w hw) ?_
  refine wm_g rfl rfl (y_move rfl) ?_
  refine wm_g rfl rfl (y_nilCheck rfl) ?_
  refine wm_g rfl rfl (y_fieldAddr F59_0 rfl) ?_
  refine wm_g rfl rfl (y_load NA57 rfl (fun w hw => hw)) ?_
  refine wm_g rfl rfl (y_move rfl) ?_
  refine wm_g rfl rfl (y_move rfl) ?_
  refine wm_g rfl rfl (y_nilCheck rfl) ?_
  refine wm_g rfl rfl (y_fieldAddr F59_0 rfl) ?_
  refine wm_g rfl rfl (y_load NA57 rfl (fun w hw => hw)) ?_
  refine wm_g rfl rfl (y_move rfl) ?_
  refine wm_g rfl rfl (y_move rfl) ?_
  refine wm_g rfl rfl (y_nilCheck rfl) ?_
  refine wm_g rfl rfl (y_fieldAddr F59_0 rfl) ?_
  refine wm_g rfl rfl (y_load NA57 rfl (fun w hw => hw)) ?_
  refine wm_g rfl rfl (y_move rfl) ?_
  refine wm_g rfl rfl (y_nilCheck rfl) ?_
  refine wm_g rfl rfl (y_fieldAddr F59_0 rfl) ?_
  refine wm_g rfl rfl (y_load NA57 rfl (fun w hw => hw)) ?_
  refine wm_c rfl rfl ?hC (yc_spec (fst := []) (cap := []) _ FN20 (num_p rb s.r hf) rfl rfl rfl (by (repeat (first | exact pt_nil | apply pt0 | apply pt1 | apply pt2 | apply pt3 | apply pt4 | apply pt5 | apply pt6 | apply pt7 | apply pt8 | apply pt9 | apply pt10 | apply pt11 | apply pt12 | apply pt13 | apply pt14 | apply pt15 | apply pt16 | apply pt17))) (by (repeat (first | exact ro_nil | exact ro_rest (by assumption) | refine ro_cons (by first | exact .inl (by assumption) | exact ro_f0 (fun _ h => h) | exact ro_f0 (fun _ => slc_rsl) | exact ro_f1 (fun _ h => h) | exact ro_f1 (fun _ => slc_rsl) | exact ro_f2 (fun _ h => h) | exact ro_f2 (fun _ => slc_rsl) | exact ro_f3 (fun _ h => h) | exact ro_f3 (fun _ => slc_rsl) | exact ro_f4 (fun _ h => h) | exact ro_f4 (fun _ => slc_rsl) | exact ro_f5 (fun _ h => h) | exact ro_f5 (fun _ => slc_rsl) | exact ro_f6 (fun _ h => h) | exact ro_f6 (fun _ => slc_rsl)) ?_)))) (wm_ex fun x7 hx7 => ?_)
  case hC => exact (fun _ _ h => by obtain ⟨_, _, _, hw⟩ := h; first | exact cell_blk [] rfl _ hw | exact cell_blk [_] rfl _ hw | exact cell_blk [_, _] rfl _ hw | exact cell_blk [_, _, _] rfl _ hw | exact cell_blk [_, _, _, _] rfl _ hw | exact cell_blk [_, _, _, _, _] rfl _ hw | exact cell_blk [_, _, _, _, _, _] rfl _ hw | exact cell_blk [_, _, _, _, _, _, _] rfl _ hw)
  refine wm_c rfl rfl ?hC (yc_spec (fst := []) (cap := []) _ FN37 (sfiles_c sb rb s.num.1 (fit_num hf)) rfl rfl rfl (by (repeat (first | exact pt_nil | apply pt0 | apply pt1 | apply pt2 | apply pt3 | apply pt4 | apply pt5 | apply pt6 | apply pt7 | apply pt8 | apply pt9 | apply pt10 | apply pt11 | apply pt12 | apply pt13 | apply pt14 | apply pt15 | apply pt16 | apply pt17))) (by (repeat (first | exact ro_nil | exact ro_rest (by assumption) | refine ro_cons (by first | exact .inl (by assumption) | exact ro_f0 (fun _ h => h) | exact ro_f0 (fun _ => slc_rsl) | exact ro_f1 (fun _ h => h) | exact ro_f1 (fun _ => slc_rsl) | exact ro_f2 (fun _ h => h) | exact ro_f2 (fun _ => slc_rsl) | exact ro_f3 (fun _ h => h) | exact ro_f3 (fun _ => slc_rsl) | exact ro_f4 (fun _ h => h) | exact ro_f4 (fun _ => slc_rsl) | exact ro_f5 (fun _ h => h) | exact ro_f5 (fun _ => slc_rsl) | exact ro_f6 (fun _ h => h) | exact ro_f6 (fun _ => slc_rsl)) ?_)))) (wm_ex fun x9 hx9 => ?_)
  case hC => exact (fun _ _ h => by obtain ⟨_, _, _, hw⟩ := h; first | exact cell_blk [] rfl _ hw | exact cell_blk [_] rfl _ hw | exact cell_blk [_, _] rfl _ hw | exact cell_blk [_, _, _] rfl _ hw | exact cell_blk [_, _, _, _] rfl _ hw | exact cell_blk [_, _, _, _, _] rfl _ hw | exact cell_blk [_, _, _, _, _, _] rfl _ hw | exact cell_blk [_, _, _, _, _, _, _] rfl _ hw)
  refine wm_c rfl rfl ?hC (yc_spec (fst := []) (cap := []) _ FN36 (text_p rb s.num.1.files.1.r (fit_files (fit_num hf))) rfl rfl rfl (by (repeat (first | exact pt_nil | apply pt0 | apply pt1 | apply pt2 | apply pt3 | apply pt4 | apply pt5 | apply pt6 | apply pt7 | apply pt8 | apply pt9 | apply pt10 | apply pt11 | apply pt12 | apply pt13 | apply pt14 | apply pt15 | apply pt16 | apply pt17))) (by (repeat (first | exact ro_nil | exact ro_rest (by assumption) | refine ro_cons (by first | exact .inl (by assumption) | exact ro_f0 (fun _ h => h) | exact ro_f0 (fun _ => slc_rsl) | exact ro_f1 (fun _ h => h) | exact ro_f1 (fun _ => slc_rsl) | exact ro_f2 (fun _ h => h) | exact ro_f2 (fun _ => slc_rsl) | exact ro_f3 (fun _ h => h) | exact ro_f3 (fun _ => slc_rsl) | exact ro_f4 (fun _ h => h) | exact ro_f4 (fun _ => slc_rsl) | exact ro_f5 (fun _ h => h) | exact ro_f5 (fun _ => slc_rsl) | exact ro_f6 (fun _ h => h) | exact ro_f6 (fun _ => slc_rsl)) ?_)))) (wm_ex fun x14 hx14 => ?_)
  case hC => exact (fun _ _ h => by obtain ⟨_, _, _, hw⟩ := h; first | exact cell_blk [] rfl _ hw | exact cell_blk [_] rfl _ hw | exact cell_blk [_, _] rfl _ hw | exact cell_blk [_, _, _] rfl _ hw | exact cell_blk [_, _, _, _] rfl _ hw | exact cell_blk [_, _, _, _, _] rfl _ hw | exact cell_blk [_, _, _, _, _, _] rfl _ hw | exact cell_blk [_, _, _, _, _, _, _] rfl _ hw)
  refine wm_c rfl rfl ?hC (yc_spec (fst := []) (cap := []) _ FN58 (serr_c sb rb s.num.1.files.1.text.1 (fit_text (fit_files (fit_num hf)))) rfl rfl rfl (by (repeat (first | exact pt_nil | apply pt0 | apply pt1 | apply pt2 | apply pt3 | apply pt4 | apply pt5 | apply pt6 | apply pt7 | apply pt8 | apply pt9 | apply pt10 | apply pt11 | apply pt12 | apply pt13 | apply pt14 | apply pt15 | apply pt16 | apply pt17))) (by (repeat (first | exact ro_nil | exact ro_rest (by assumption) | refine ro_cons (by first | exact .inl (by assumption) | exact ro_f0 (fun _ h => h) | exact ro_f0 (fun _ => slc_rsl) | exact ro_f1 (fun _ h => h) | exact ro_f1 (fun _ => slc_rsl) | exact ro_f2 (fun _ h => h) | exact ro_f2 (fun _ => slc_rsl) | exact ro_f3 (fun _ h => h) | exact ro_f3 (fun _ => slc_rsl) | exact ro_f4 (fun _ h => h) | exact ro_f4 (fun _ => slc_rsl) | exact ro_f5 (fun _ h => h) | exact ro_f5 (fun _ => slc_rsl) | exact ro_f6 (fun _ h => h) | exact ro_f6 (fun _ => slc_rsl)) ?_)))) (wm_ex fun x16 hx16 => ?_)
  case hC => exact (fun _ _ h => by obtain ⟨_, _, _, hw⟩ := h; first | exact cell_blk [] rfl _ hw | exact cell_blk [_] rfl _ hw | exact cell_blk [_, _] rfl _ hw | exact cell_blk [_, _, _] rfl _ hw | exact cell_blk [_, _, _, _] rfl _ hw | exact cell_blk [_, _, _, _, _] rfl _ hw | exact cell_blk [_, _, _, _, _, _] rfl _ hw | exact cell_blk [_, _, _, _, _, _, _] rfl _ hw)
  refine wm_c rfl rfl ?hC (yc_spec (fst := []) (cap := []) _ FN36 (text_p rb s.num.1.files.1.text.1.num.1.r (fit_num (fit_text (fit_files (fit_num hf))))) rfl rfl rfl (by (repeat (first | exact pt_nil | apply pt0 | apply pt1 | apply pt2 | apply pt3 | apply pt4 | apply pt5 | apply pt6 | apply pt7 | apply pt8 | apply pt9 | apply pt10 | apply pt11 | apply pt12 | apply pt13 | apply pt14 | apply pt15 | apply pt16 | apply pt17))) (by (repeat (first | exact ro_nil | exact ro_rest (by assumption) | refine ro_cons (by first | exact .inl (by assumption) | exact ro_f0 (fun _ h => h) | exact ro_f0 (fun _ => slc_rsl) | exact ro_f1 (fun _ h => h) | exact ro_f1 (fun _ => slc_rsl) | exact ro_f2 (fun _ h => h) | exact ro_f2 (fun _ => slc_rsl) | exact ro_f3 (fun _ h => h) | exact ro_f3 (fun _ => slc_rsl) | exact ro_f4 (fun _ h => h) | exact ro_f4 (fun _ => slc_rsl) | exact ro_f5 (fun _ h => h) | exact ro_f5 (fun _ => slc_rsl) | exact ro_f6 (fun _ h => h) | exact ro_f6 (fun _ => slc_rsl)) ?_)))) (wm_ex fun x21 hx21 => ?_)
  case hC => exact (fun _ _ h => by obtain ⟨_, _, _, hw⟩ := h; first | exact cell_blk [] rfl _ hw | exact cell_blk [_] rfl _ hw | exact cell_blk [_, _] rfl _ hw | exact cell_blk [_, _, _] rfl _ hw | exact cell_blk [_, _, _, _] rfl _ hw | exact cell_blk [_, _, _, _, _] rfl _ hw | exact cell_blk [_, _, _, _, _, _] rfl _ hw | exact cell_blk [_, _, _, _, _, _, _] rfl _ hw)
  refine wm_c rfl rfl ?hC (yc_spec (fst := []) (cap := []) _ FN20 (num_p rb s.num.1.files.1.text.1.num.1.text.1.r (fit_text (fit_num (fit_text (fit_files (fit_num hf)))))) rfl rfl rfl (by (repeat (first | exact pt_nil | apply pt0 | apply pt1 | apply pt2 | apply pt3 | apply pt4 | apply pt5 | apply pt6 | apply pt7 | apply pt8 | apply pt9 | apply pt10 | apply pt11 | apply pt12 | apply pt13 | apply pt14 | apply pt15 | apply pt16 | apply pt17))) (by (repeat (first | exact ro_nil | exact ro_rest (by assumption) | refine ro_cons (by first | exact .inl (by assumption) | exact ro_f0 (fun _ h => h) | exact ro_f0 (fun _ => slc_rsl) | exact ro_f1 (fun _ h => h) | exact ro_f1 (fun _ => slc_rsl) | exact ro_f2 (fun _ h => h) | exact ro_f2 (fun _ => slc_rsl) | exact ro_f3 (fun _ h => h) | exact ro_f3 (fun _ => slc_rsl) | exact ro_f4 (fun _ h => h) | exact ro_f4 (fun _ => slc_rsl) | exact ro_f5 (fun _ h => h) | exact ro_f5 (fun _ => slc_rsl) | exact ro_f6 (fun _ h => h) | exact ro_f6 (fun _ => slc_rsl)) ?_)))) (wm_ex fun x26 hx26 => ?_)
  case hC => exact (fun _ _ h => by obtain ⟨_, _, _, hw⟩ := h; first | exact cell_blk [] rfl _ hw | exact cell_blk [_] rfl _ hw | exact cell_blk [_, _] rfl _ hw | exact cell_blk [_, _, _] rfl _ hw | exact cell_blk [_, _, _, _] rfl _ hw | exact cell_blk [_, _, _, _, _] rfl _ hw | exact cell_blk [_, _, _, _, _, _] rfl _ hw | exact cell_blk [_, _, _, _, _, _, _] rfl _ hw)
  refine wm_g rfl rfl (y_build (cs := [_, _, _, _, _, _]) T45 PL45 rfl rfl rfl) ?_
  first | refine wm_u rfl (fun _ hw => by first | exact cell_blk [] rfl _ hw | exact cell_blk [_] rfl _ hw | exact cell_blk [_, _] rfl _ hw | exact cell_blk [_, _, _] rfl _ hw | exact cell_blk [_, _, _, _] rfl _ hw | exact cell_blk [_, _, _, _, _] rfl _ hw | exact cell_blk [_, _, _, _, _, _] rfl _ hw | exact cell_blk [_, _, _, _, _, _, _] rfl _ hw) (yu_storeAgg [] (l' := [_, _, _, _, _, _]) T45 rfl rfl rfl (by simp [Value.oneCell']) rfl rfl) ?_ | refine wm_u rfl (fun _ hw => by first | exact cell_blk [] rfl _ hw | exact cell_blk [_] rfl _ hw | exact cell_blk [_, _] rfl _ hw | exact cell_blk [_, _, _] rfl _ hw | exact cell_blk [_, _, _, _] rfl _ hw | exact cell_blk [_, _, _, _, _] rfl _ hw | exact cell_blk [_, _, _, _, _, _] rfl _ hw | exact cell_blk [_, _, _, _, _, _, _] rfl _ hw) (yu_storeAgg [_] (l' := [_, _, _, _, _, _]) T45 rfl rfl rfl (by simp [Value.oneCell']) rfl rfl) ?_ | refine wm_u rfl (fun _ hw => by first | exact cell_blk [] rfl _ hw | exact cell_blk [_] rfl _ hw | exact cell_blk [_, _] rfl _ hw | exact cell_blk [_, _, _] rfl _ hw | exact cell_blk [_, _, _, _] rfl _ hw | exact cell_blk [_, _, _, _, _] rfl _ hw | exact cell_blk [_, _, _, _, _, _] rfl _ hw | exact cell_blk [_, _, _, _, _, _, _] rfl _ hw) (yu_storeAgg [_, _] (l' := [_, _, _, _, _, _]) T45 rfl rfl rfl (by simp [Value.oneCell']) rfl rfl) ?_ | refine wm_u rfl (fun _ hw => by first | exact cell_blk [] rfl _ hw | exact cell_blk [_] rfl _ hw | exact cell_blk [_, _] rfl _ hw | exact cell_blk [_, _, _] rfl _ hw | exact cell_blk [_, _, _, _] rfl _ hw | exact cell_blk [_, _, _, _, _] rfl _ hw | exact cell_blk [_, _, _, _, _, _] rfl _ hw | exact cell_blk [_, _, _, _, _, _, _] rfl _ hw) (yu_storeAgg [_, _, _] (l' := [_, _, _, _, _, _]) T45 rfl rfl rfl (by simp [Value.oneCell']) rfl rfl) ?_ | refine wm_u rfl (fun _ hw => by first | exact cell_blk [] rfl _ hw | exact cell_blk [_] rfl _ hw | exact cell_blk [_, _] rfl _ hw | exact cell_blk [_, _, _] rfl _ hw | exact cell_blk [_, _, _, _] rfl _ hw | exact cell_blk [_, _, _, _, _] rfl _ hw | exact cell_blk [_, _, _, _, _, _] rfl _ hw | exact cell_blk [_, _, _, _, _, _, _] rfl _ hw) (yu_storeAgg [_, _, _, _] (l' := [_, _, _, _, _, _]) T45 rfl rfl rfl (by simp [Value.oneCell']) rfl rfl) ?_ | refine wm_u rfl (fun _ hw => by first | exact cell_blk [] rfl _ hw | exact cell_blk [_] rfl _ hw | exact cell_blk [_, _] rfl _ hw | exact cell_blk [_, _, _] rfl _ hw | exact cell_blk [_, _, _, _] rfl _ hw | exact cell_blk [_, _, _, _, _] rfl _ hw | exact cell_blk [_, _, _, _, _, _] rfl _ hw | exact cell_blk [_, _, _, _, _, _, _] rfl _ hw) (yu_storeAgg [_, _, _, _, _] (l' := [_, _, _, _, _, _]) T45 rfl rfl rfl (by simp [Value.oneCell']) rfl rfl) ?_ | refine wm_u rfl (fun _ hw => by first | exact cell_blk [] rfl _ hw | exact cell_blk [_] rfl _ hw | exact cell_blk [_, _] rfl _ hw | exact cell_blk [_, _, _] rfl _ hw | exact cell_blk [_, _, _, _] rfl _ hw | exact cell_blk [_, _, _, _, _] rfl _ hw | exact cell_blk [_, _, _, _, _, _] rfl _ hw | exact cell_blk [_, _, _, _, _, _, _] rfl _ hw) (yu_storeAgg [_, _, _, _, _, _] (l' := [_, _, _, _, _, _]) T45 rfl rfl rfl (by simp [Value.oneCell']) rfl rfl) ?_ | refine wm_u rfl (fun _ hw => by first | exact cell_blk [] rfl _ hw | exact cell_blk [_] rfl _ hw | exact cell_blk [_, _] rfl _ hw | exact cell_blk [_, _, _] rfl _ hw | exact cell_blk [_, _, _, _] rfl _ hw | exact cell_blk [_, _, _, _, _] rfl _ hw | exact cell_blk [_, _, _, _, _, _] rfl _ hw | exact cell_blk [_, _, _, _, _, _, _] rfl _ hw) (yu_storeAgg [_, _, _, _, _, _, _] (l' := [_, _, _, _, _, _]) T45 rfl rfl rfl (by simp [Value.oneCell']) rfl rfl) ?_
  refine wm_nil ?_
  refine all_wq ?_
  refine wq_then ?_
  refine wc_ret ?_
  refine wq_retC1 (l := [_, _, _, _, _, _]) AG45 rfl rfl rfl (by first | exact cells_blk [] rfl | exact cells_blk [_] rfl | exact cells_blk [_, _] rfl | exact cells_blk [_, _, _] rfl | exact cells_blk [_, _, _, _] rfl | exact cells_blk [_, _, _, _, _] rfl | exact cells_blk [_, _, _, _, _, _] rfl | exact cells_blk [_, _, _, _, _, _, _] rfl) (fun w hw => ?_)
  exact ⟨⟨s.num.2, x9, s.num.1.files.1.text.2, s.num.1.files.1.text.1.num.2, s.num.1.files.1.text.1.num.1.text.2, s.num.1.files.1.text.1.num.1.text.1.num.2⟩, by simp only [OutV.er, hx9]; rfl, rfl, hw.sub (by (repeat (first | exact pt_nil | apply pt0 | apply pt1 | apply pt2 | apply pt3 | apply pt4 | apply pt5 | apply pt6 | apply pt7 | apply pt8 | apply pt9 | apply pt10 | apply pt11 | apply pt12 | apply pt13 | apply pt14 | apply pt15 | apply pt16 | apply pt17)))⟩

def zSl {α : Type} : Sl α := ⟨none, 0, []⟩
def ResV.zero : ResV := ⟨0, [], [], zSl⟩
def OpV.zero : OpV := ⟨[], zSl, zSl, [], 0, ResV.zero⟩
def TaskV.zero : TaskV := ⟨[], 0, [], zSl, zSl, 0⟩
def OutV.zero : OutV := ⟨0, zSl, [], 0, [], 0⟩
def RepV.zero : RepV := ⟨[], 0, OutV.zero⟩
theorem sfin_bad {s : Scn} (h : s.r.fin ≠ 0) : s.fin = s.r.fin := if_pos h
theorem sfin_odd {s : Scn} (h : s.r.fin = 0) (h2 : s.odd = true) : s.fin = 11 := by rw [Scn.fin, if_neg (fun e => e h), if_pos h2]
theorem sfin_ok {s : Scn} (h : s.r.fin = 0) (h2 : s.odd = false) : s.fin = 0 := by rw [Scn.fin, if_neg (fun e => e h), h2]; rfl
theorem hp_f0 {w0 w : World} {O : Nat → Prop} {Bs : List Atom} (h : Hp w0 O Bs w) : Hp w0 O (filesA zSl :: Bs) w := hp_files (e := 9) (Hp.addNil [] _ h)
theorem hp_s0 {w0 w : World} {O : Nat → Prop} {Bs : List Atom} (h : Hp w0 O Bs w) : Hp w0 O (strsA zSl :: Bs) w := hp_strs (e := 9) (Hp.addNil [] _ h)
theorem hp_g0 {w0 w : World} {O : Nat → Prop} {Bs : List Atom} (h : Hp w0 O Bs w) : Hp w0 O (graphA zSl :: Bs) w := hp_graph (e := 9) (Hp.addNil [] _ (tgs_nil h))
theorem hp_op0 {w0 w : World} {O : Nat → Prop} {Bs : List Atom} (h : Hp w0 O Bs w) : Hp w0 O (opA OpV.zero :: Bs) w := hp_shut (As := [_, _, _]) (hp_g0 (hp_f0 (hp_f0 h)))
theorem hp_task0 {w0 w : World} {O : Nat → Prop} {Bs : List Atom} (h : Hp w0 O Bs w) : Hp w0 O (taskA TaskV.zero :: Bs) w := hp_shut (As := [_, _]) (hp_f0 (hp_s0 h))
set_option maxHeartbeats 1000000 in
theorem doneO_c (sb rb : Nat) (s : Scn) (x : OpV) :
    Ctr Tryz.prog 29 #[ptr sb, .agg (encOp x).toArray] [] (scA sb rb s) (fun _ : Unit => True) (fun _ => .tuple #[.agg (encOp (if s.fin = 0 then x else OpV.zero)).toArray, vI s.fin]) (fun _ => scA sb rb s) := by
  refine spec_start (n := 25) [(0, ptr sb), (1, .agg (encOp x).toArray)] Tryz.func29 rfl rfl ⟨rfl, rfl, trivial⟩ rfl ?_
  intro w0 K hR
  refine wc_seq ?_
  refine wc_region ?_
  refine wl_w (fun _ _ => want_none) rfl (yw_box rfl rfl) (wl_ex fun b3 _ => ?_)
  refine wl_w (fun _ _ => want_none) rfl (yw_alloc T29 rfl) (wl_ex fun b4 _ => ?_)
  refine wl_y rfl (y_assign rfl) ?_
  refine wl_nil ?_
  refine wq_then ?_
  refine wc_seq ?_
  refine wc_region ?_
  refine wl_w (fun _ _ => want_none) rfl (yw_alloc T29 rfl) (wl_ex fun b6 _ => ?_)
  refine wl_nil ?_
  refine wq_then ?_
  refine wc_seq ?_
  refine wc_region ?_
  refine wl_y rfl (y_move rfl) ?_
  refine wl_y rfl (y_nilCheck rfl) ?_
  refine wl_y rfl (y_fieldAddr F59_0 rfl) ?_
  refine wl_y rfl (y_load NA57 rfl (by first | exact cell_blk [] rfl | exact cell_blk [_] rfl | exact cell_blk [_, _] rfl | exact cell_blk [_, _, _] rfl | exact cell_blk [_, _, _, _] rfl | exact cell_blk [_, _, _, _, _] rfl | exact cell_blk [_, _, _, _, _, _] rfl | exact cellR_blk (by assumption) rfl)) ?_
  refine wl_q (fun _ _ => want_none) rfl (yq_spec (fst := []) (cap := []) _ FN28 (end_p rb s.r) rfl rfl rfl (by (repeat (first | exact pt_nil | apply pt0 | apply pt1 | apply pt2 | apply pt3 | apply pt4 | apply pt5 | apply pt6 | apply pt7 | apply pt8 | apply pt9 | apply pt10 | apply pt11 | apply pt12 | apply pt13 | apply pt14 | apply pt15 | apply pt16 | apply pt17))) (by (repeat (first | exact ro_nil | exact ro_rest (by assumption) | refine ro_cons (by first | exact .inl (by assumption) | exact ro_f0 (fun _ h => h) | exact ro_f0 (fun _ => slc_rsl) | exact ro_f1 (fun _ h => h) | exact ro_f1 (fun _ => slc_rsl) | exact ro_f2 (fun _ h => h) | exact ro_f2 (fun _ => slc_rsl) | exact ro_f3 (fun _ h => h) | exact ro_f3 (fun _ => slc_rsl) | exact ro_f4 (fun _ h => h) | exact ro_f4 (fun _ => slc_rsl) | exact ro_f5 (fun _ h => h) | exact ro_f5 (fun _ => slc_rsl) | exact ro_f6 (fun _ h => h) | exact ro_f6 (fun _ => slc_rsl)) ?_))) (fun _ _ => rfl) (fun _ _ _ h => h.sub (by (repeat (first | exact pt_nil | apply pt0 | apply pt1 | apply pt2 | apply pt3 | apply pt4 | apply pt5 | apply pt6 | apply pt7 | apply pt8 | apply pt9 | apply pt10 | apply pt11 | apply pt12 | apply pt13 | apply pt14 | apply pt15 | apply pt16 | apply pt17))))) ?_
  refine wl_y rfl (y_assign rfl) ?_
  refine wl_nil ?_
  refine wq_then ?_
  refine wc_seq ?_
  refine wc_block ?_
  refine wc_seq ?_
  refine wc_region ?_
  refine wl_y rfl (y_move rfl) ?_
  refine wl_y rfl (y_neqI rfl rfl) ?_
  refine wl_y rfl (y_assign rfl) ?_
  refine wl_nil ?_
  refine wq_then ?_
  refine wc_cond rfl (fun hc13 => ?_) (fun hc13 => ?_)
  ·
    simp at hc13
    refine wc_seq ?_
    refine wc_region ?_
    refine wl_y rfl (y_loadAgg (l := [_, _, _, _, _, _, _, _, _]) AG29 rfl rfl (by first | exact cells_blk [] rfl | exact cells_blk [_] rfl | exact cells_blk [_, _] rfl | exact cells_blk [_, _, _] rfl | exact cells_blk [_, _, _, _] rfl | exact cells_blk [_, _, _, _, _] rfl | exact cells_blk [_, _, _, _, _, _] rfl | exact cellsR_blk (by assumption) rfl)) ?_
    refine wl_y rfl (y_move rfl) ?_
    first | refine wl_u (yu_storeAgg [] (l' := [_, _, _, _, _, _, _, _, _]) T29 rfl rfl rfl (by simp [Value.oneCell']) rfl rfl) ?_ | refine wl_u (yu_storeAgg [_] (l' := [_, _, _, _, _, _, _, _, _]) T29 rfl rfl rfl (by simp [Value.oneCell']) rfl rfl) ?_ | refine wl_u (yu_storeAgg [_, _] (l' := [_, _, _, _, _, _, _, _, _]) T29 rfl rfl rfl (by simp [Value.oneCell']) rfl rfl) ?_ | refine wl_u (yu_storeAgg [_, _, _] (l' := [_, _, _, _, _, _, _, _, _]) T29 rfl rfl rfl (by simp [Value.oneCell']) rfl rfl) ?_ | refine wl_u (yu_storeAgg [_, _, _, _] (l' := [_, _, _, _, _, _, _, _, _]) T29 rfl rfl rfl (by simp [Value.oneCell']) rfl rfl) ?_ | refine wl_u (yu_storeAgg [_, _, _, _, _] (l' := [_, _, _, _, _, _, _, _, _]) T29 rfl rfl rfl (by simp [Value.oneCell']) rfl rfl) ?_ | refine wl_u (yu_storeAgg [_, _, _, _, _, _] (l' := [_, _, _, _, _, _, _, _, _]) T29 rfl rfl rfl (by simp [Value.oneCell']) rfl rfl) ?_
    refine wl_y rfl (y_assign rfl) ?_
    refine wl_nil ?_
    refine wq_then ?_
    refine wc_ret ?_
    refine wq_block_ret (wq_then_ret ?_)
    refine wq_retC2 (l := [_, _, _, _, _, _, _, _, _]) AG29 rfl rfl rfl rfl (by first | exact cells_blk [] rfl | exact cells_blk [_] rfl | exact cells_blk [_, _] rfl | exact cells_blk [_, _, _] rfl | exact cells_blk [_, _, _, _] rfl | exact cells_blk [_, _, _, _, _] rfl | exact cells_blk [_, _, _, _, _, _] rfl) (fun w hw => ?_)
    have e9 := sfin_bad (s := s) (by omega)
    rw [if_neg (by rw [e9]; omega), e9]; exact ⟨(), trivial, rfl, hw.sub (by (repeat (first | exact pt_nil | apply pt0 | apply pt1 | apply pt2 | apply pt3 | apply pt4 | apply pt5 | apply pt6 | apply pt7 | apply pt8 | apply pt9 | apply pt10 | apply pt11 | apply pt12 | apply pt13 | apply pt14 | apply pt15 | apply pt16 | apply pt17)))⟩
  ·
    simp at hc13
    refine wc_seq ?_
    refine wc_region ?_
    refine wl_y rfl (y_move rfl) ?_
    refine wl_y rfl (y_nilCheck rfl) ?_
    refine wl_y rfl (y_fieldAddr F59_1 rfl) ?_
    refine wl_y rfl (y_load NA4 rfl (by first | exact cell_blk [] rfl | exact cell_blk [_] rfl | exact cell_blk [_, _] rfl | exact cell_blk [_, _, _] rfl | exact cell_blk [_, _, _, _] rfl | exact cell_blk [_, _, _, _, _] rfl | exact cell_blk [_, _, _, _, _, _] rfl | exact cellR_blk (by assumption) rfl)) ?_
    refine wl_y rfl (y_assign rfl) ?_
    refine wl_nil ?_
    refine wq_then ?_
    refine wc_cond rfl (fun hc18 => ?_) (fun hc18 => ?_)
    ·
      refine wc_seq ?_
      refine wc_region ?_
      refine wl_y rfl (y_loadAgg (l := [_, _, _, _, _, _, _, _, _]) AG29 rfl rfl (by first | exact cells_blk [] rfl | exact cells_blk [_] rfl | exact cells_blk [_, _] rfl | exact cells_blk [_, _, _] rfl | exact cells_blk [_, _, _, _] rfl | exact cells_blk [_, _, _, _, _] rfl | exact cells_blk [_, _, _, _, _, _] rfl | exact cellsR_blk (by assumption) rfl)) ?_
      first | refine wl_u (yu_storeAgg [] (l' := [_, _, _, _, _, _, _, _, _]) T29 rfl rfl rfl (by simp [Value.oneCell']) rfl rfl) ?_ | refine wl_u (yu_storeAgg [_] (l' := [_, _, _, _, _, _, _, _, _]) T29 rfl rfl rfl (by simp [Value.oneCell']) rfl rfl) ?_ | refine wl_u (yu_storeAgg [_, _] (l' := [_, _, _, _, _, _, _, _, _]) T29 rfl rfl rfl (by simp [Value.oneCell']) rfl rfl) ?_ | refine wl_u (yu_storeAgg [_, _, _] (l' := [_, _, _, _, _, _, _, _, _]) T29 rfl rfl rfl (by simp [Value.oneCell']) rfl rfl) ?_ | refine wl_u (yu_storeAgg [_, _, _, _] (l' := [_, _, _, _, _, _, _, _, _]) T29 rfl rfl rfl (by simp [Value.oneCell']) rfl rfl) ?_ | refine wl_u (yu_storeAgg [_, _, _, _, _] (l' := [_, _, _, _, _, _, _, _, _]) T29 rfl rfl rfl (by simp [Value.oneCell']) rfl rfl) ?_ | refine wl_u (yu_storeAgg [_, _, _, _, _, _] (l' := [_, _, _, _, _, _, _, _, _]) T29 rfl rfl rfl (by simp [Value.oneCell']) rfl rfl) ?_
      refine wl_y rfl (y_assign rfl) ?_
      refine wl_nil ?_
      refine wq_then ?_
      refine wc_ret ?_
      refine wq_block_ret (wq_then_ret ?_)
      refine wq_retC2 (l := [_, _, _, _, _, _, _, _, _]) AG29 rfl rfl rfl rfl (by first | exact cells_blk [] rfl | exact cells_blk [_] rfl | exact cells_blk [_, _] rfl | exact cells_blk [_, _, _] rfl | exact cells_blk [_, _, _, _] rfl | exact cells_blk [_, _, _, _, _] rfl | exact cells_blk [_, _, _, _, _, _] rfl) (fun w hw => ?_)
      have e9 := sfin_odd (s := s) (by omega) (by simpa using hc18)
      rw [if_neg (by rw [e9]; omega), e9]; exact ⟨(), trivial, rfl, hw.sub (by (repeat (first | exact pt_nil | apply pt0 | apply pt1 | apply pt2 | apply pt3 | apply pt4 | apply pt5 | apply pt6 | apply pt7 | apply pt8 | apply pt9 | apply pt10 | apply pt11 | apply pt12 | apply pt13 | apply pt14 | apply pt15 | apply pt16 | apply pt17)))⟩
    ·
      refine wc_skip ?_
      refine wq_block_normal ?_
      refine wq_then ?_
      refine wc_seq ?_
      refine wc_region ?_
      refine wl_y rfl (y_loadAgg (l := [_, _, _, _, _, _, _, _, _]) AG29 rfl rfl (by first | exact cells_blk [] rfl | exact cells_blk [_] rfl | exact cells_blk [_, _] rfl | exact cells_blk [_, _, _] rfl | exact cells_blk [_, _, _, _] rfl | exact cells_blk [_, _, _, _, _] rfl | exact cells_blk [_, _, _, _, _, _] rfl | exact cellsR_blk (by assumption) rfl)) ?_
      first | refine wl_u (yu_storeAgg [] (l' := [_, _, _, _, _, _, _, _, _]) T29 rfl rfl rfl (by simp [Value.oneCell']) rfl rfl) ?_ | refine wl_u (yu_storeAgg [_] (l' := [_, _, _, _, _, _, _, _, _]) T29 rfl rfl rfl (by simp [Value.oneCell']) rfl rfl) ?_ | refine wl_u (yu_storeAgg [_, _] (l' := [_, _, _, _, _, _, _, _, _]) T29 rfl rfl rfl (by simp [Value.oneCell']) rfl rfl) ?_ | refine wl_u (yu_storeAgg [_, _, _] (l' := [_, _, _, _, _, _, _, _, _]) T29 rfl rfl rfl (by simp [Value.oneCell']) rfl rfl) ?_ | refine wl_u (yu_storeAgg [_, _, _, _] (l' := [_, _, _, _, _, _, _, _, _]) T29 rfl rfl rfl (by simp [Value.oneCell']) rfl rfl) ?_ | refine wl_u (yu_storeAgg [_, _, _, _, _] (l' := [_, _, _, _, _, _, _, _, _]) T29 rfl rfl rfl (by simp [Value.oneCell']) rfl rfl) ?_ | refine wl_u (yu_storeAgg [_, _, _, _, _, _] (l' := [_, _, _, _, _, _, _, _, _]) T29 rfl rfl rfl (by simp [Value.oneCell']) rfl rfl) ?_
      refine wl_y rfl (y_assign rfl) ?_
      refine wl_nil ?_
      refine wq_then ?_
      refine wc_ret ?_
      refine wq_retC2 (l := [_, _, _, _, _, _, _, _, _]) AG29 rfl rfl rfl rfl (by first | exact cells_blk [] rfl | exact cells_blk [_] rfl | exact cells_blk [_, _] rfl | exact cells_blk [_, _, _] rfl | exact cells_blk [_, _, _, _] rfl | exact cells_blk [_, _, _, _, _] rfl | exact cells_blk [_, _, _, _, _, _] rfl) (fun w hw => ?_)
      have e9 := sfin_ok (s := s) (by omega) (by simpa using hc18)
      rw [if_pos e9, e9]; exact ⟨(), trivial, rfl, hw.sub (by (repeat (first | exact pt_nil | apply pt0 | apply pt1 | apply pt2 | apply pt3 | apply pt4 | apply pt5 | apply pt6 | apply pt7 | apply pt8 | apply pt9 | apply pt10 | apply pt11 | apply pt12 | apply pt13 | apply pt14 | apply pt15 | apply pt16 | apply pt17)))⟩

set_option maxHeartbeats 1000000 in
theorem doneK_c (sb rb : Nat) (s : Scn) (x : TaskV) :
    Ctr Tryz.prog 35 #[ptr sb, .agg (encK x).toArray] [] (scA sb rb s) (fun _ : Unit => True) (fun _ => .tuple #[.agg (encK (if s.fin = 0 then x else TaskV.zero)).toArray, vI s.fin]) (fun _ => scA sb rb s) := by
  refine spec_start (n := 25) [(0, ptr sb), (1, .agg (encK x).toArray)] Tryz.func35 rfl rfl ⟨rfl, rfl, trivial⟩ rfl ?_
  intro w0 K hR
  refine wc_seq ?_
  refine wc_region ?_
  refine wl_w (fun _ _ => want_none) rfl (yw_box rfl rfl) (wl_ex fun b3 _ => ?_)
  refine wl_w (fun _ _ => want_none) rfl (yw_alloc T41 rfl) (wl_ex fun b4 _ => ?_)
  refine wl_y rfl (y_assign rfl) ?_
  refine wl_nil ?_
  refine wq_then ?_
  refine wc_seq ?_
  refine wc_region ?_
  refine wl_w (fun _ _ => want_none) rfl (yw_alloc T41 rfl) (wl_ex fun b6 _ => ?_)
  refine wl_nil ?_
  refine wq_then ?_
  refine wc_seq ?_
  refine wc_region ?_
  refine wl_y rfl (y_move rfl) ?_
  refine wl_y rfl (y_nilCheck rfl) ?_
  refine wl_y rfl (y_fieldAddr F59_0 rfl) ?_
  refine wl_y rfl (y_load NA57 rfl (by first | exact cell_blk [] rfl | exact cell_blk [_] rfl | exact cell_blk [_, _] rfl | exact cell_blk [_, _, _] rfl | exact cell_blk [_, _, _, _] rfl | exact cell_blk [_, _, _, _, _] rfl | exact cell_blk [_, _, _, _, _, _] rfl | exact cellR_blk (by assumption) rfl)) ?_
  refine wl_q (fun _ _ => want_none) rfl (yq_spec (fst := []) (cap := []) _ FN28 (end_p rb s.r) rfl rfl rfl (by (repeat (first | exact pt_nil | apply pt0 | apply pt1 | apply pt2 | apply pt3 | apply pt4 | apply pt5 | apply pt6 | apply pt7 | apply pt8 | apply pt9 | apply pt10 | apply pt11 | apply pt12 | apply pt13 | apply pt14 | apply pt15 | apply pt16 | apply pt17))) (by (repeat (first | exact ro_nil | exact ro_rest (by assumption) | refine ro_cons (by first | exact .inl (by assumption) | exact ro_f0 (fun _ h => h) | exact ro_f0 (fun _ => slc_rsl) | exact ro_f1 (fun _ h => h) | exact ro_f1 (fun _ => slc_rsl) | exact ro_f2 (fun _ h => h) | exact ro_f2 (fun _ => slc_rsl) | exact ro_f3 (fun _ h => h) | exact ro_f3 (fun _ => slc_rsl) | exact ro_f4 (fun _ h => h) | exact ro_f4 (fun _ => slc_rsl) | exact ro_f5 (fun _ h => h) | exact ro_f5 (fun _ => slc_rsl) | exact ro_f6 (fun _ h => h) | exact ro_f6 (fun _ => slc_rsl)) ?_))) (fun _ _ => rfl) (fun _ _ _ h => h.sub (by (repeat (first | exact pt_nil | apply pt0 | apply pt1 | apply pt2 | apply pt3 | apply pt4 | apply pt5 | apply pt6 | apply pt7 | apply pt8 | apply pt9 | apply pt10 | apply pt11 | apply pt12 | apply pt13 | apply pt14 | apply pt15 | apply pt16 | apply pt17))))) ?_
  refine wl_y rfl (y_assign rfl) ?_
  refine wl_nil ?_
  refine wq_then ?_
  refine wc_seq ?_
  refine wc_block ?_
  refine wc_seq ?_
  refine wc_region ?_
  refine wl_y rfl (y_move rfl) ?_
  refine wl_y rfl (y_neqI rfl rfl) ?_
  refine wl_y rfl (y_assign rfl) ?_
  refine wl_nil ?_
  refine wq_then ?_
  refine wc_cond rfl (fun hc13 => ?_) (fun hc13 => ?_)
  ·
    simp at hc13
    refine wc_seq ?_
    refine wc_region ?_
    refine wl_y rfl (y_loadAgg (l := [_, _, _, _, _, _]) AG41 rfl rfl (by first | exact cells_blk [] rfl | exact cells_blk [_] rfl | exact cells_blk [_, _] rfl | exact cells_blk [_, _, _] rfl | exact cells_blk [_, _, _, _] rfl | exact cells_blk [_, _, _, _, _] rfl | exact cells_blk [_, _, _, _, _, _] rfl | exact cellsR_blk (by assumption) rfl)) ?_
    refine wl_y rfl (y_move rfl) ?_
    first | refine wl_u (yu_storeAgg [] (l' := [_, _, _, _, _, _]) T41 rfl rfl rfl (by simp [Value.oneCell']) rfl rfl) ?_ | refine wl_u (yu_storeAgg [_] (l' := [_, _, _, _, _, _]) T41 rfl rfl rfl (by simp [Value.oneCell']) rfl rfl) ?_ | refine wl_u (yu_storeAgg [_, _] (l' := [_, _, _, _, _, _]) T41 rfl rfl rfl (by simp [Value.oneCell']) rfl rfl) ?_ | refine wl_u (yu_storeAgg [_, _, _] (l' := [_, _, _, _, _, _]) T41 rfl rfl rfl (by simp [Value.oneCell']) rfl rfl) ?_ | refine wl_u (yu_storeAgg [_, _, _, _] (l' := [_, _, _, _, _, _]) T41 rfl rfl rfl (by simp [Value.oneCell']) rfl rfl) ?_ | refine wl_u (yu_storeAgg [_, _, _, _, _] (l' := [_, _, _, _, _, _]) T41 rfl rfl rfl (by simp [Value.oneCell']) rfl rfl) ?_ | refine wl_u (yu_storeAgg [_, _, _, _, _, _] (l' := [_, _, _, _, _, _]) T41 rfl rfl rfl (by simp [Value.oneCell']) rfl rfl) ?_
    refine wl_y rfl (y_assign rfl) ?_
    refine wl_nil ?_
    refine wq_then ?_
    refine wc_ret ?_
    refine wq_block_ret (wq_then_ret ?_)
    refine wq_retC2 (l := [_, _, _, _, _, _]) AG41 rfl rfl rfl rfl (by first | exact cells_blk [] rfl | exact cells_blk [_] rfl | exact cells_blk [_, _] rfl | exact cells_blk [_, _, _] rfl | exact cells_blk [_, _, _, _] rfl | exact cells_blk [_, _, _, _, _] rfl | exact cells_blk [_, _, _, _, _, _] rfl) (fun w hw => ?_)
    have e9 := sfin_bad (s := s) (by omega)
    rw [if_neg (by rw [e9]; omega), e9]; exact ⟨(), trivial, rfl, hw.sub (by (repeat (first | exact pt_nil | apply pt0 | apply pt1 | apply pt2 | apply pt3 | apply pt4 | apply pt5 | apply pt6 | apply pt7 | apply pt8 | apply pt9 | apply pt10 | apply pt11 | apply pt12 | apply pt13 | apply pt14 | apply pt15 | apply pt16 | apply pt17)))⟩
  ·
    simp at hc13
    refine wc_seq ?_
    refine wc_region ?_
    refine wl_y rfl (y_move rfl) ?_
    refine wl_y rfl (y_nilCheck rfl) ?_
    refine wl_y rfl (y_fieldAddr F59_1 rfl) ?_
    refine wl_y rfl (y_load NA4 rfl (by first | exact cell_blk [] rfl | exact cell_blk [_] rfl | exact cell_blk [_, _] rfl | exact cell_blk [_, _, _] rfl | exact cell_blk [_, _, _, _] rfl | exact cell_blk [_, _, _, _, _] rfl | exact cell_blk [_, _, _, _, _, _] rfl | exact cellR_blk (by assumption) rfl)) ?_
    refine wl_y rfl (y_assign rfl) ?_
    refine wl_nil ?_
    refine wq_then ?_
    refine wc_cond rfl (fun hc18 => ?_) (fun hc18 => ?_)
    ·
      refine wc_seq ?_
      refine wc_region ?_
      refine wl_y rfl (y_loadAgg (l := [_, _, _, _, _, _]) AG41 rfl rfl (by first | exact cells_blk [] rfl | exact cells_blk [_] rfl | exact cells_blk [_, _] rfl | exact cells_blk [_, _, _] rfl | exact cells_blk [_, _, _, _] rfl | exact cells_blk [_, _, _, _, _] rfl | exact cells_blk [_, _, _, _, _, _] rfl | exact cellsR_blk (by assumption) rfl)) ?_
      first | refine wl_u (yu_storeAgg [] (l' := [_, _, _, _, _, _]) T41 rfl rfl rfl (by simp [Value.oneCell']) rfl rfl) ?_ | refine wl_u (yu_storeAgg [_] (l' := [_, _, _, _, _, _]) T41 rfl rfl rfl (by simp [Value.oneCell']) rfl rfl) ?_ | refine wl_u (yu_storeAgg [_, _] (l' := [_, _, _, _, _, _]) T41 rfl rfl rfl (by simp [Value.oneCell']) rfl rfl) ?_ | refine wl_u (yu_storeAgg [_, _, _] (l' := [_, _, _, _, _, _]) T41 rfl rfl rfl (by simp [Value.oneCell']) rfl rfl) ?_ | refine wl_u (yu_storeAgg [_, _, _, _] (l' := [_, _, _, _, _, _]) T41 rfl rfl rfl (by simp [Value.oneCell']) rfl rfl) ?_ | refine wl_u (yu_storeAgg [_, _, _, _, _] (l' := [_, _, _, _, _, _]) T41 rfl rfl rfl (by simp [Value.oneCell']) rfl rfl) ?_ | refine wl_u (yu_storeAgg [_, _, _, _, _, _] (l' := [_, _, _, _, _, _]) T41 rfl rfl rfl (by simp [Value.oneCell']) rfl rfl) ?_
      refine wl_y rfl (y_assign rfl) ?_
      refine wl_nil ?_
      refine wq_then ?_
      refine wc_ret ?_
      refine wq_block_ret (wq_then_ret ?_)
      refine wq_retC2 (l := [_, _, _, _, _, _]) AG41 rfl rfl rfl rfl (by first | exact cells_blk [] rfl | exact cells_blk [_] rfl | exact cells_blk [_, _] rfl | exact cells_blk [_, _, _] rfl | exact cells_blk [_, _, _, _] rfl | exact cells_blk [_, _, _, _, _] rfl | exact cells_blk [_, _, _, _, _, _] rfl) (fun w hw => ?_)
      have e9 := sfin_odd (s := s) (by omega) (by simpa using hc18)
      rw [if_neg (by rw [e9]; omega), e9]; exact ⟨(), trivial, rfl, hw.sub (by (repeat (first | exact pt_nil | apply pt0 | apply pt1 | apply pt2 | apply pt3 | apply pt4 | apply pt5 | apply pt6 | apply pt7 | apply pt8 | apply pt9 | apply pt10 | apply pt11 | apply pt12 | apply pt13 | apply pt14 | apply pt15 | apply pt16 | apply pt17)))⟩
    ·
      refine wc_skip ?_
      refine wq_block_normal ?_
      refine wq_then ?_
      refine wc_seq ?_
      refine wc_region ?_
      refine wl_y rfl (y_loadAgg (l := [_, _, _, _, _, _]) AG41 rfl rfl (by first | exact cells_blk [] rfl | exact cells_blk [_] rfl | exact cells_blk [_, _] rfl | exact cells_blk [_, _, _] rfl | exact cells_blk [_, _, _, _] rfl | exact cells_blk [_, _, _, _, _] rfl | exact cells_blk [_, _, _, _, _, _] rfl | exact cellsR_blk (by assumption) rfl)) ?_
      first | refine wl_u (yu_storeAgg [] (l' := [_, _, _, _, _, _]) T41 rfl rfl rfl (by simp [Value.oneCell']) rfl rfl) ?_ | refine wl_u (yu_storeAgg [_] (l' := [_, _, _, _, _, _]) T41 rfl rfl rfl (by simp [Value.oneCell']) rfl rfl) ?_ | refine wl_u (yu_storeAgg [_, _] (l' := [_, _, _, _, _, _]) T41 rfl rfl rfl (by simp [Value.oneCell']) rfl rfl) ?_ | refine wl_u (yu_storeAgg [_, _, _] (l' := [_, _, _, _, _, _]) T41 rfl rfl rfl (by simp [Value.oneCell']) rfl rfl) ?_ | refine wl_u (yu_storeAgg [_, _, _, _] (l' := [_, _, _, _, _, _]) T41 rfl rfl rfl (by simp [Value.oneCell']) rfl rfl) ?_ | refine wl_u (yu_storeAgg [_, _, _, _, _] (l' := [_, _, _, _, _, _]) T41 rfl rfl rfl (by simp [Value.oneCell']) rfl rfl) ?_ | refine wl_u (yu_storeAgg [_, _, _, _, _, _] (l' := [_, _, _, _, _, _]) T41 rfl rfl rfl (by simp [Value.oneCell']) rfl rfl) ?_
      refine wl_y rfl (y_assign rfl) ?_
      refine wl_nil ?_
      refine wq_then ?_
      refine wc_ret ?_
      refine wq_retC2 (l := [_, _, _, _, _, _]) AG41 rfl rfl rfl rfl (by first | exact cells_blk [] rfl | exact cells_blk [_] rfl | exact cells_blk [_, _] rfl | exact cells_blk [_, _, _] rfl | exact cells_blk [_, _, _, _] rfl | exact cells_blk [_, _, _, _, _] rfl | exact cells_blk [_, _, _, _, _, _] rfl) (fun w hw => ?_)
      have e9 := sfin_ok (s := s) (by omega) (by simpa using hc18)
      rw [if_pos e9, e9]; exact ⟨(), trivial, rfl, hw.sub (by (repeat (first | exact pt_nil | apply pt0 | apply pt1 | apply pt2 | apply pt3 | apply pt4 | apply pt5 | apply pt6 | apply pt7 | apply pt8 | apply pt9 | apply pt10 | apply pt11 | apply pt12 | apply pt13 | apply pt14 | apply pt15 | apply pt16 | apply pt17)))⟩

set_option maxHeartbeats 1000000 in
theorem doneP_c (sb rb : Nat) (s : Scn) (x : RepV) :
    Ctr Tryz.prog 40 #[ptr sb, .agg (encP x).toArray] [] (scA sb rb s) (fun _ : Unit => True) (fun _ => .tuple #[.agg (encP (if s.fin = 0 then x else RepV.zero)).toArray, vI s.fin]) (fun _ => scA sb rb s) := by
  refine spec_start (n := 25) [(0, ptr sb), (1, .agg (encP x).toArray)] Tryz.func40 rfl rfl ⟨rfl, rfl, trivial⟩ rfl ?_
  intro w0 K hR
  refine wc_seq ?_
  refine wc_region ?_
  refine wl_w (fun _ _ => want_none) rfl (yw_box rfl rfl) (wl_ex fun b3 _ => ?_)
  refine wl_w (fun _ _ => want_none) rfl (yw_alloc T47 rfl) (wl_ex fun b4 _ => ?_)
  refine wl_y rfl (y_assign rfl) ?_
  refine wl_nil ?_
  refine wq_then ?_
  refine wc_seq ?_
  refine wc_region ?_
  refine wl_w (fun _ _ => want_none) rfl (yw_alloc T47 rfl) (wl_ex fun b6 _ => ?_)
  refine wl_nil ?_
  refine wq_then ?_
  refine wc_seq ?_
  refine wc_region ?_
  refine wl_y rfl (y_move rfl) ?_
  refine wl_y rfl (y_nilCheck rfl) ?_
  refine wl_y rfl (y_fieldAddr F59_0 rfl) ?_
  refine wl_y rfl (y_load NA57 rfl (by first | exact cell_blk [] rfl | exact cell_blk [_] rfl | exact cell_blk [_, _] rfl | exact cell_blk [_, _, _] rfl | exact cell_blk [_, _, _, _] rfl | exact cell_blk [_, _, _, _, _] rfl | exact cell_blk [_, _, _, _, _, _] rfl | exact cellR_blk (by assumption) rfl)) ?_
  refine wl_q (fun _ _ => want_none) rfl (yq_spec (fst := []) (cap := []) _ FN28 (end_p rb s.r) rfl rfl rfl (by (repeat (first | exact pt_nil | apply pt0 | apply pt1 | apply pt2 | apply pt3 | apply pt4 | apply pt5 | apply pt6 | apply pt7 | apply pt8 | apply pt9 | apply pt10 | apply pt11 | apply pt12 | apply pt13 | apply pt14 | apply pt15 | apply pt16 | apply pt17))) (by (repeat (first | exact ro_nil | exact ro_rest (by assumption) | refine ro_cons (by first | exact .inl (by assumption) | exact ro_f0 (fun _ h => h) | exact ro_f0 (fun _ => slc_rsl) | exact ro_f1 (fun _ h => h) | exact ro_f1 (fun _ => slc_rsl) | exact ro_f2 (fun _ h => h) | exact ro_f2 (fun _ => slc_rsl) | exact ro_f3 (fun _ h => h) | exact ro_f3 (fun _ => slc_rsl) | exact ro_f4 (fun _ h => h) | exact ro_f4 (fun _ => slc_rsl) | exact ro_f5 (fun _ h => h) | exact ro_f5 (fun _ => slc_rsl) | exact ro_f6 (fun _ h => h) | exact ro_f6 (fun _ => slc_rsl)) ?_))) (fun _ _ => rfl) (fun _ _ _ h => h.sub (by (repeat (first | exact pt_nil | apply pt0 | apply pt1 | apply pt2 | apply pt3 | apply pt4 | apply pt5 | apply pt6 | apply pt7 | apply pt8 | apply pt9 | apply pt10 | apply pt11 | apply pt12 | apply pt13 | apply pt14 | apply pt15 | apply pt16 | apply pt17))))) ?_
  refine wl_y rfl (y_assign rfl) ?_
  refine wl_nil ?_
  refine wq_then ?_
  refine wc_seq ?_
  refine wc_block ?_
  refine wc_seq ?_
  refine wc_region ?_
  refine wl_y rfl (y_move rfl) ?_
  refine wl_y rfl (y_neqI rfl rfl) ?_
  refine wl_y rfl (y_assign rfl) ?_
  refine wl_nil ?_
  refine wq_then ?_
  refine wc_cond rfl (fun hc13 => ?_) (fun hc13 => ?_)
  ·
    simp at hc13
    refine wc_seq ?_
    refine wc_region ?_
    refine wl_y rfl (y_loadAgg (l := [_, _, _, _, _, _, _, _]) AG47 rfl rfl (by first | exact cells_blk [] rfl | exact cells_blk [_] rfl | exact cells_blk [_, _] rfl | exact cells_blk [_, _, _] rfl | exact cells_blk [_, _, _, _] rfl | exact cells_blk [_, _, _, _, _] rfl | exact cells_blk [_, _, _, _, _, _] rfl | exact cellsR_blk (by assumption) rfl)) ?_
    refine wl_y rfl (y_move rfl) ?_
    first | refine wl_u (yu_storeAgg [] (l' := [_, _, _, _, _, _, _, _]) T47 rfl rfl rfl (by simp [Value.oneCell']) rfl rfl) ?_ | refine wl_u (yu_storeAgg [_] (l' := [_, _, _, _, _, _, _, _]) T47 rfl rfl rfl (by simp [Value.oneCell']) rfl rfl) ?_ | refine wl_u (yu_storeAgg [_, _] (l' := [_, _, _, _, _, _, _, _]) T47 rfl rfl rfl (by simp [Value.oneCell']) rfl rfl) ?_ | refine wl_u (yu_storeAgg [_, _, _] (l' := [_, _, _, _, _, _, _, _]) T47 rfl rfl rfl (by simp [Value.oneCell']) rfl rfl) ?_ | refine wl_u (yu_storeAgg [_, _, _, _] (l' := [_, _, _, _, _, _, _, _]) T47 rfl rfl rfl (by simp [Value.oneCell']) rfl rfl) ?_ | refine wl_u (yu_storeAgg [_, _, _, _, _] (l' := [_, _, _, _, _, _, _, _]) T47 rfl rfl rfl (by simp [Value.oneCell']) rfl rfl) ?_ | refine wl_u (yu_storeAgg [_, _, _, _, _, _] (l' := [_, _, _, _, _, _, _, _]) T47 rfl rfl rfl (by simp [Value.oneCell']) rfl rfl) ?_
    refine wl_y rfl (y_assign rfl) ?_
    refine wl_nil ?_
    refine wq_then ?_
    refine wc_ret ?_
    refine wq_block_ret (wq_then_ret ?_)
    refine wq_retC2 (l := [_, _, _, _, _, _, _, _]) AG47 rfl rfl rfl rfl (by first | exact cells_blk [] rfl | exact cells_blk [_] rfl | exact cells_blk [_, _] rfl | exact cells_blk [_, _, _] rfl | exact cells_blk [_, _, _, _] rfl | exact cells_blk [_, _, _, _, _] rfl | exact cells_blk [_, _, _, _, _, _] rfl) (fun w hw => ?_)
    have e9 := sfin_bad (s := s) (by omega)
    rw [if_neg (by rw [e9]; omega), e9]; exact ⟨(), trivial, rfl, hw.sub (by (repeat (first | exact pt_nil | apply pt0 | apply pt1 | apply pt2 | apply pt3 | apply pt4 | apply pt5 | apply pt6 | apply pt7 | apply pt8 | apply pt9 | apply pt10 | apply pt11 | apply pt12 | apply pt13 | apply pt14 | apply pt15 | apply pt16 | apply pt17)))⟩
  ·
    simp at hc13
    refine wc_seq ?_
    refine wc_region ?_
    refine wl_y rfl (y_move rfl) ?_
    refine wl_y rfl (y_nilCheck rfl) ?_
    refine wl_y rfl (y_fieldAddr F59_1 rfl) ?_
    refine wl_y rfl (y_load NA4 rfl (by first | exact cell_blk [] rfl | exact cell_blk [_] rfl | exact cell_blk [_, _] rfl | exact cell_blk [_, _, _] rfl | exact cell_blk [_, _, _, _] rfl | exact cell_blk [_, _, _, _, _] rfl | exact cell_blk [_, _, _, _, _, _] rfl | exact cellR_blk (by assumption) rfl)) ?_
    refine wl_y rfl (y_assign rfl) ?_
    refine wl_nil ?_
    refine wq_then ?_
    refine wc_cond rfl (fun hc18 => ?_) (fun hc18 => ?_)
    ·
      refine wc_seq ?_
      refine wc_region ?_
      refine wl_y rfl (y_loadAgg (l := [_, _, _, _, _, _, _, _]) AG47 rfl rfl (by first | exact cells_blk [] rfl | exact cells_blk [_] rfl | exact cells_blk [_, _] rfl | exact cells_blk [_, _, _] rfl | exact cells_blk [_, _, _, _] rfl | exact cells_blk [_, _, _, _, _] rfl | exact cells_blk [_, _, _, _, _, _] rfl | exact cellsR_blk (by assumption) rfl)) ?_
      first | refine wl_u (yu_storeAgg [] (l' := [_, _, _, _, _, _, _, _]) T47 rfl rfl rfl (by simp [Value.oneCell']) rfl rfl) ?_ | refine wl_u (yu_storeAgg [_] (l' := [_, _, _, _, _, _, _, _]) T47 rfl rfl rfl (by simp [Value.oneCell']) rfl rfl) ?_ | refine wl_u (yu_storeAgg [_, _] (l' := [_, _, _, _, _, _, _, _]) T47 rfl rfl rfl (by simp [Value.oneCell']) rfl rfl) ?_ | refine wl_u (yu_storeAgg [_, _, _] (l' := [_, _, _, _, _, _, _, _]) T47 rfl rfl rfl (by simp [Value.oneCell']) rfl rfl) ?_ | refine wl_u (yu_storeAgg [_, _, _, _] (l' := [_, _, _, _, _, _, _, _]) T47 rfl rfl rfl (by simp [Value.oneCell']) rfl rfl) ?_ | refine wl_u (yu_storeAgg [_, _, _, _, _] (l' := [_, _, _, _, _, _, _, _]) T47 rfl rfl rfl (by simp [Value.oneCell']) rfl rfl) ?_ | refine wl_u (yu_storeAgg [_, _, _, _, _, _] (l' := [_, _, _, _, _, _, _, _]) T47 rfl rfl rfl (by simp [Value.oneCell']) rfl rfl) ?_
      refine wl_y rfl (y_assign rfl) ?_
      refine wl_nil ?_
      refine wq_then ?_
      refine wc_ret ?_
      refine wq_block_ret (wq_then_ret ?_)
      refine wq_retC2 (l := [_, _, _, _, _, _, _, _]) AG47 rfl rfl rfl rfl (by first | exact cells_blk [] rfl | exact cells_blk [_] rfl | exact cells_blk [_, _] rfl | exact cells_blk [_, _, _] rfl | exact cells_blk [_, _, _, _] rfl | exact cells_blk [_, _, _, _, _] rfl | exact cells_blk [_, _, _, _, _, _] rfl) (fun w hw => ?_)
      have e9 := sfin_odd (s := s) (by omega) (by simpa using hc18)
      rw [if_neg (by rw [e9]; omega), e9]; exact ⟨(), trivial, rfl, hw.sub (by (repeat (first | exact pt_nil | apply pt0 | apply pt1 | apply pt2 | apply pt3 | apply pt4 | apply pt5 | apply pt6 | apply pt7 | apply pt8 | apply pt9 | apply pt10 | apply pt11 | apply pt12 | apply pt13 | apply pt14 | apply pt15 | apply pt16 | apply pt17)))⟩
    ·
      refine wc_skip ?_
      refine wq_block_normal ?_
      refine wq_then ?_
      refine wc_seq ?_
      refine wc_region ?_
      refine wl_y rfl (y_loadAgg (l := [_, _, _, _, _, _, _, _]) AG47 rfl rfl (by first | exact cells_blk [] rfl | exact cells_blk [_] rfl | exact cells_blk [_, _] rfl | exact cells_blk [_, _, _] rfl | exact cells_blk [_, _, _, _] rfl | exact cells_blk [_, _, _, _, _] rfl | exact cells_blk [_, _, _, _, _, _] rfl | exact cellsR_blk (by assumption) rfl)) ?_
      first | refine wl_u (yu_storeAgg [] (l' := [_, _, _, _, _, _, _, _]) T47 rfl rfl rfl (by simp [Value.oneCell']) rfl rfl) ?_ | refine wl_u (yu_storeAgg [_] (l' := [_, _, _, _, _, _, _, _]) T47 rfl rfl rfl (by simp [Value.oneCell']) rfl rfl) ?_ | refine wl_u (yu_storeAgg [_, _] (l' := [_, _, _, _, _, _, _, _]) T47 rfl rfl rfl (by simp [Value.oneCell']) rfl rfl) ?_ | refine wl_u (yu_storeAgg [_, _, _] (l' := [_, _, _, _, _, _, _, _]) T47 rfl rfl rfl (by simp [Value.oneCell']) rfl rfl) ?_ | refine wl_u (yu_storeAgg [_, _, _, _] (l' := [_, _, _, _, _, _, _, _]) T47 rfl rfl rfl (by simp [Value.oneCell']) rfl rfl) ?_ | refine wl_u (yu_storeAgg [_, _, _, _, _] (l' := [_, _, _, _, _, _, _, _]) T47 rfl rfl rfl (by simp [Value.oneCell']) rfl rfl) ?_ | refine wl_u (yu_storeAgg [_, _, _, _, _, _] (l' := [_, _, _, _, _, _, _, _]) T47 rfl rfl rfl (by simp [Value.oneCell']) rfl rfl) ?_
      refine wl_y rfl (y_assign rfl) ?_
      refine wl_nil ?_
      refine wq_then ?_
      refine wc_ret ?_
      refine wq_retC2 (l := [_, _, _, _, _, _, _, _]) AG47 rfl rfl rfl rfl (by first | exact cells_blk [] rfl | exact cells_blk [_] rfl | exact cells_blk [_, _] rfl | exact cells_blk [_, _, _] rfl | exact cells_blk [_, _, _, _] rfl | exact cells_blk [_, _, _, _, _] rfl | exact cells_blk [_, _, _, _, _, _] rfl) (fun w hw => ?_)
      have e9 := sfin_ok (s := s) (by omega) (by simpa using hc18)
      rw [if_pos e9, e9]; exact ⟨(), trivial, rfl, hw.sub (by (repeat (first | exact pt_nil | apply pt0 | apply pt1 | apply pt2 | apply pt3 | apply pt4 | apply pt5 | apply pt6 | apply pt7 | apply pt8 | apply pt9 | apply pt10 | apply pt11 | apply pt12 | apply pt13 | apply pt14 | apply pt15 | apply pt16 | apply pt17)))⟩

set_option maxHeartbeats 1000000 in
theorem doneE_c (sb rb : Nat) (s : Scn) (x : Int × OpV) :
    Ctr Tryz.prog 19 #[ptr sb, .agg (encEv x.1 x.2).toArray] [] (scA sb rb s) (fun _ : Unit => True) (fun _ => .tuple #[.agg (encEv (if s.fin = 0 then x else (0, OpV.zero)).1 (if s.fin = 0 then x else (0, OpV.zero)).2).toArray, vI s.fin]) (fun _ => scA sb rb s) := by
  refine spec_start (n := 25) [(0, ptr sb), (1, .agg (encEv x.1 x.2).toArray)] Tryz.func19 rfl rfl ⟨rfl, rfl, trivial⟩ rfl ?_
  intro w0 K hR
  refine wc_seq ?_
  refine wc_region ?_
  refine wl_w (fun _ _ => want_none) rfl (yw_box rfl rfl) (wl_ex fun b3 _ => ?_)
  refine wl_w (fun _ _ => want_none) rfl (yw_alloc T31 rfl) (wl_ex fun b4 _ => ?_)
  refine wl_y rfl (y_assign rfl) ?_
  refine wl_nil ?_
  refine wq_then ?_
  refine wc_seq ?_
  refine wc_region ?_
  refine wl_w (fun _ _ => want_none) rfl (yw_alloc T31 rfl) (wl_ex fun b6 _ => ?_)
  refine wl_nil ?_
  refine wq_then ?_
  refine wc_seq ?_
  refine wc_region ?_
  refine wl_y rfl (y_move rfl) ?_
  refine wl_y rfl (y_nilCheck rfl) ?_
  refine wl_y rfl (y_fieldAddr F59_0 rfl) ?_
  refine wl_y rfl (y_load NA57 rfl (by first | exact cell_blk [] rfl | exact cell_blk [_] rfl | exact cell_blk [_, _] rfl | exact cell_blk [_, _, _] rfl | exact cell_blk [_, _, _, _] rfl | exact cell_blk [_, _, _, _, _] rfl | exact cell_blk [_, _, _, _, _, _] rfl | exact cellR_blk (by assumption) rfl)) ?_
  refine wl_q (fun _ _ => want_none) rfl (yq_spec (fst := []) (cap := []) _ FN28 (end_p rb s.r) rfl rfl rfl (by (repeat (first | exact pt_nil | apply pt0 | apply pt1 | apply pt2 | apply pt3 | apply pt4 | apply pt5 | apply pt6 | apply pt7 | apply pt8 | apply pt9 | apply pt10 | apply pt11 | apply pt12 | apply pt13 | apply pt14 | apply pt15 | apply pt16 | apply pt17))) (by (repeat (first | exact ro_nil | exact ro_rest (by assumption) | refine ro_cons (by first | exact .inl (by assumption) | exact ro_f0 (fun _ h => h) | exact ro_f0 (fun _ => slc_rsl) | exact ro_f1 (fun _ h => h) | exact ro_f1 (fun _ => slc_rsl) | exact ro_f2 (fun _ h => h) | exact ro_f2 (fun _ => slc_rsl) | exact ro_f3 (fun _ h => h) | exact ro_f3 (fun _ => slc_rsl) | exact ro_f4 (fun _ h => h) | exact ro_f4 (fun _ => slc_rsl) | exact ro_f5 (fun _ h => h) | exact ro_f5 (fun _ => slc_rsl) | exact ro_f6 (fun _ h => h) | exact ro_f6 (fun _ => slc_rsl)) ?_))) (fun _ _ => rfl) (fun _ _ _ h => h.sub (by (repeat (first | exact pt_nil | apply pt0 | apply pt1 | apply pt2 | apply pt3 | apply pt4 | apply pt5 | apply pt6 | apply pt7 | apply pt8 | apply pt9 | apply pt10 | apply pt11 | apply pt12 | apply pt13 | apply pt14 | apply pt15 | apply pt16 | apply pt17))))) ?_
  refine wl_y rfl (y_assign rfl) ?_
  refine wl_nil ?_
  refine wq_then ?_
  refine wc_seq ?_
  refine wc_block ?_
  refine wc_seq ?_
  refine wc_region ?_
  refine wl_y rfl (y_move rfl) ?_
  refine wl_y rfl (y_neqI rfl rfl) ?_
  refine wl_y rfl (y_assign rfl) ?_
  refine wl_nil ?_
  refine wq_then ?_
  refine wc_cond rfl (fun hc13 => ?_) (fun hc13 => ?_)
  ·
    simp at hc13
    refine wc_seq ?_
    refine wc_region ?_
    refine wl_y rfl (y_loadAgg (l := [_, _, _, _, _, _, _, _, _, _]) AG31 rfl rfl (by first | exact cells_blk [] rfl | exact cells_blk [_] rfl | exact cells_blk [_, _] rfl | exact cells_blk [_, _, _] rfl | exact cells_blk [_, _, _, _] rfl | exact cells_blk [_, _, _, _, _] rfl | exact cells_blk [_, _, _, _, _, _] rfl | exact cellsR_blk (by assumption) rfl)) ?_
    refine wl_y rfl (y_move rfl) ?_
    first | refine wl_u (yu_storeAgg [] (l' := [_, _, _, _, _, _, _, _, _, _]) T31 rfl rfl rfl (by simp [Value.oneCell']) rfl rfl) ?_ | refine wl_u (yu_storeAgg [_] (l' := [_, _, _, _, _, _, _, _, _, _]) T31 rfl rfl rfl (by simp [Value.oneCell']) rfl rfl) ?_ | refine wl_u (yu_storeAgg [_, _] (l' := [_, _, _, _, _, _, _, _, _, _]) T31 rfl rfl rfl (by simp [Value.oneCell']) rfl rfl) ?_ | refine wl_u (yu_storeAgg [_, _, _] (l' := [_, _, _, _, _, _, _, _, _, _]) T31 rfl rfl rfl (by simp [Value.oneCell']) rfl rfl) ?_ | refine wl_u (yu_storeAgg [_, _, _, _] (l' := [_, _, _, _, _, _, _, _, _, _]) T31 rfl rfl rfl (by simp [Value.oneCell']) rfl rfl) ?_ | refine wl_u (yu_storeAgg [_, _, _, _, _] (l' := [_, _, _, _, _, _, _, _, _, _]) T31 rfl rfl rfl (by simp [Value.oneCell']) rfl rfl) ?_ | refine wl_u (yu_storeAgg [_, _, _, _, _, _] (l' := [_, _, _, _, _, _, _, _, _, _]) T31 rfl rfl rfl (by simp [Value.oneCell']) rfl rfl) ?_
    refine wl_y rfl (y_assign rfl) ?_
    refine wl_nil ?_
    refine wq_then ?_
    refine wc_ret ?_
    refine wq_block_ret (wq_then_ret ?_)
    refine wq_retC2 (l := [_, _, _, _, _, _, _, _, _, _]) AG31 rfl rfl rfl rfl (by first | exact cells_blk [] rfl | exact cells_blk [_] rfl | exact cells_blk [_, _] rfl | exact cells_blk [_, _, _] rfl | exact cells_blk [_, _, _, _] rfl | exact cells_blk [_, _, _, _, _] rfl | exact cells_blk [_, _, _, _, _, _] rfl) (fun w hw => ?_)
    have e9 := sfin_bad (s := s) (by omega)
    rw [if_neg (by rw [e9]; omega), e9]; exact ⟨(), trivial, rfl, hw.sub (by (repeat (first | exact pt_nil | apply pt0 | apply pt1 | apply pt2 | apply pt3 | apply pt4 | apply pt5 | apply pt6 | apply pt7 | apply pt8 | apply pt9 | apply pt10 | apply pt11 | apply pt12 | apply pt13 | apply pt14 | apply pt15 | apply pt16 | apply pt17)))⟩
  ·
    simp at hc13
    refine wc_seq ?_
    refine wc_region ?_
    refine wl_y rfl (y_move rfl) ?_
    refine wl_y rfl (y_nilCheck rfl) ?_
    refine wl_y rfl (y_fieldAddr F59_1 rfl) ?_
    refine wl_y rfl (y_load NA4 rfl (by first | exact cell_blk [] rfl | exact cell_blk [_] rfl | exact cell_blk [_, _] rfl | exact cell_blk [_, _, _] rfl | exact cell_blk [_, _, _, _] rfl | exact cell_blk [_, _, _, _, _] rfl | exact cell_blk [_, _, _, _, _, _] rfl | exact cellR_blk (by assumption) rfl)) ?_
    refine wl_y rfl (y_assign rfl) ?_
    refine wl_nil ?_
    refine wq_then ?_
    refine wc_cond rfl (fun hc18 => ?_) (fun hc18 => ?_)
    ·
      refine wc_seq ?_
      refine wc_region ?_
      refine wl_y rfl (y_loadAgg (l := [_, _, _, _, _, _, _, _, _, _]) AG31 rfl rfl (by first | exact cells_blk [] rfl | exact cells_blk [_] rfl | exact cells_blk [_, _] rfl | exact cells_blk [_, _, _] rfl | exact cells_blk [_, _, _, _] rfl | exact cells_blk [_, _, _, _, _] rfl | exact cells_blk [_, _, _, _, _, _] rfl | exact cellsR_blk (by assumption) rfl)) ?_
      first | refine wl_u (yu_storeAgg [] (l' := [_, _, _, _, _, _, _, _, _, _]) T31 rfl rfl rfl (by simp [Value.oneCell']) rfl rfl) ?_ | refine wl_u (yu_storeAgg [_] (l' := [_, _, _, _, _, _, _, _, _, _]) T31 rfl rfl rfl (by simp [Value.oneCell']) rfl rfl) ?_ | refine wl_u (yu_storeAgg [_, _] (l' := [_, _, _, _, _, _, _, _, _, _]) T31 rfl rfl rfl (by simp [Value.oneCell']) rfl rfl) ?_ | refine wl_u (yu_storeAgg [_, _, _] (l' := [_, _, _, _, _, _, _, _, _, _]) T31 rfl rfl rfl (by simp [Value.oneCell']) rfl rfl) ?_ | refine wl_u (yu_storeAgg [_, _, _, _] (l' := [_, _, _, _, _, _, _, _, _, _]) T31 rfl rfl rfl (by simp [Value.oneCell']) rfl rfl) ?_ | refine wl_u (yu_storeAgg [_, _, _, _, _] (l' := [_, _, _, _, _, _, _, _, _, _]) T31 rfl rfl rfl (by simp [Value.oneCell']) rfl rfl) ?_ | refine wl_u (yu_storeAgg [_, _, _, _, _, _] (l' := [_, _, _, _, _, _, _, _, _, _]) T31 rfl rfl rfl (by simp [Value.oneCell']) rfl rfl) ?_
      refine wl_y rfl (y_assign rfl) ?_
      refine wl_nil ?_
      refine wq_then ?_
      refine wc_ret ?_
      refine wq_block_ret (wq_then_ret ?_)
      refine wq_retC2 (l := [_, _, _, _, _, _, _, _, _, _]) AG31 rfl rfl rfl rfl (by first | exact cells_blk [] rfl | exact cells_blk [_] rfl | exact cells_blk [_, _] rfl | exact cells_blk [_, _, _] rfl | exact cells_blk [_, _, _, _] rfl | exact cells_blk [_, _, _, _, _] rfl | exact cells_blk [_, _, _, _, _, _] rfl) (fun w hw => ?_)
      have e9 := sfin_odd (s := s) (by omega) (by simpa using hc18)
      rw [if_neg (by rw [e9]; omega), e9]; exact ⟨(), trivial, rfl, hw.sub (by (repeat (first | exact pt_nil | apply pt0 | apply pt1 | apply pt2 | apply pt3 | apply pt4 | apply pt5 | apply pt6 | apply pt7 | apply pt8 | apply pt9 | apply pt10 | apply pt11 | apply pt12 | apply pt13 | apply pt14 | apply pt15 | apply pt16 | apply pt17)))⟩
    ·
      refine wc_skip ?_
      refine wq_block_normal ?_
      refine wq_then ?_
      refine wc_seq ?_
      refine wc_region ?_
      refine wl_y rfl (y_loadAgg (l := [_, _, _, _, _, _, _, _, _, _]) AG31 rfl rfl (by first | exact cells_blk [] rfl | exact cells_blk [_] rfl | exact cells_blk [_, _] rfl | exact cells_blk [_, _, _] rfl | exact cells_blk [_, _, _, _] rfl | exact cells_blk [_, _, _, _, _] rfl | exact cells_blk [_, _, _, _, _, _] rfl | exact cellsR_blk (by assumption) rfl)) ?_
      first | refine wl_u (yu_storeAgg [] (l' := [_, _, _, _, _, _, _, _, _, _]) T31 rfl rfl rfl (by simp [Value.oneCell']) rfl rfl) ?_ | refine wl_u (yu_storeAgg [_] (l' := [_, _, _, _, _, _, _, _, _, _]) T31 rfl rfl rfl (by simp [Value.oneCell']) rfl rfl) ?_ | refine wl_u (yu_storeAgg [_, _] (l' := [_, _, _, _, _, _, _, _, _, _]) T31 rfl rfl rfl (by simp [Value.oneCell']) rfl rfl) ?_ | refine wl_u (yu_storeAgg [_, _, _] (l' := [_, _, _, _, _, _, _, _, _, _]) T31 rfl rfl rfl (by simp [Value.oneCell']) rfl rfl) ?_ | refine wl_u (yu_storeAgg [_, _, _, _] (l' := [_, _, _, _, _, _, _, _, _, _]) T31 rfl rfl rfl (by simp [Value.oneCell']) rfl rfl) ?_ | refine wl_u (yu_storeAgg [_, _, _, _, _] (l' := [_, _, _, _, _, _, _, _, _, _]) T31 rfl rfl rfl (by simp [Value.oneCell']) rfl rfl) ?_ | refine wl_u (yu_storeAgg [_, _, _, _, _, _] (l' := [_, _, _, _, _, _, _, _, _, _]) T31 rfl rfl rfl (by simp [Value.oneCell']) rfl rfl) ?_
      refine wl_y rfl (y_assign rfl) ?_
      refine wl_nil ?_
      refine wq_then ?_
      refine wc_ret ?_
      refine wq_retC2 (l := [_, _, _, _, _, _, _, _, _, _]) AG31 rfl rfl rfl rfl (by first | exact cells_blk [] rfl | exact cells_blk [_] rfl | exact cells_blk [_, _] rfl | exact cells_blk [_, _, _] rfl | exact cells_blk [_, _, _, _] rfl | exact cells_blk [_, _, _, _, _] rfl | exact cells_blk [_, _, _, _, _, _] rfl) (fun w hw => ?_)
      have e9 := sfin_ok (s := s) (by omega) (by simpa using hc18)
      rw [if_pos e9, e9]; exact ⟨(), trivial, rfl, hw.sub (by (repeat (first | exact pt_nil | apply pt0 | apply pt1 | apply pt2 | apply pt3 | apply pt4 | apply pt5 | apply pt6 | apply pt7 | apply pt8 | apply pt9 | apply pt10 | apply pt11 | apply pt12 | apply pt13 | apply pt14 | apply pt15 | apply pt16 | apply pt17)))⟩

end Go.Proofs.YtbnahfjhlbibcaaGreatDoor
