/-
  Walks: scans, their files, graphs, results.
-/
import Derived.Test.YtbnahfjhlbibcaaGreatDoorWalkR
namespace Go.Proofs.YtbnahfjhlbibcaaGreatDoor
open Go.Eng

open Go.Lib
abbrev scA (sb rb : Nat) (s : Scn) : List Atom := [blk sb (.cells #[ptr rb, vB (s).odd] 59 (0, 0)), rdA 92 rb ((s).r)]
def Scn.fit (s : Scn) : Prop := s.r.rest.length ≤ 1000000000
theorem num_rest (r : Rdr') : r.num.1.rest = r.text.1.rest := by
  unfold Rdr'.num
  split
  · rfl
  · split <;> rfl
section
variable {s : Scn}
theorem fit_text (h : s.fit) : s.text.1.fit := Nat.le_trans (text_bounds s.r).2 h
theorem fit_num (h : s.fit) : s.num.1.fit := by
  have h1 : s.num.1.r.rest = s.r.text.1.rest := num_rest s.r
  unfold Scn.fit
  rw [h1]
  exact Nat.le_trans (text_bounds s.r).2 h
theorem fit_list (h : s.fit) : s.list.1.fit := Nat.le_trans (list_rest_le s.r) h
theorem fit_files (h : s.fit) : s.files.1.fit := Nat.le_trans (text_bounds s.r).2 h
theorem fit_graph (h : s.fit) : s.graph.1.fit := Nat.le_trans (text_bounds s.r).2 h
theorem fit_res (h : s.fit) : s.res.1.fit := fit_files (fit_text (fit_text (fit_num h)))
theorem fit_op (h : s.fit) : s.op.1.fit := fit_res (fit_num (fit_text (fit_files (fit_graph (fit_text h)))))
theorem fit_outc (h : s.fit) : s.outc.1.fit := fit_num (fit_text (fit_num (fit_text (fit_files (fit_num h)))))
theorem fit_txt (h : s.fit) : s.r.text.2.length ≤ 1000000000 := Nat.le_trans (text_bounds s.r).1 h
end
theorem or_e (a : Bool) (e : Int) : (a || !decide (e = 0)) = (a || decide (e ≠ 0)) := by simp
set_option maxHeartbeats 1000000 in
theorem take_c (data : Str) :
    Ctr Tryz.prog 18 #[vS data] [] [] (fun _ : Nat × Nat => True) (fun x => ptr x.1) (fun x => scA x.1 x.2 (take0 data)) := by
  refine spec_start (n := 7) [(0, vS data)] Tryz.func18 rfl rfl ⟨rfl, trivial⟩ rfl ?_
  intro w0 K hR
  refine wc_seq ?_
  refine wc_region ?_
  refine wl_y rfl (y_assign rfl) ?_
  refine wl_nil ?_
  refine wq_then ?_
  refine wc_seq ?_
  refine wc_region ?_
  refine wl_y rfl (y_move rfl) ?_
  refine wl_c (fun _ _ => want_none) rfl (yc_spec (fst := []) (cap := []) _ FN26 (read_c data) rfl rfl rfl (by (repeat (first | exact pt_nil | apply pt0 | apply pt1 | apply pt2 | apply pt3 | apply pt4 | apply pt5 | apply pt6 | apply pt7 | apply pt8 | apply pt9 | apply pt10 | apply pt11 | apply pt12 | apply pt13 | apply pt14 | apply pt15 | apply pt16 | apply pt17))) (by (repeat (first | exact ro_nil | exact ro_rest (by assumption) | refine ro_cons (by first | exact .inl (by assumption) | exact ro_f0 (fun _ h => h) | exact ro_f0 (fun _ => slc_rsl) | exact ro_f1 (fun _ h => h) | exact ro_f1 (fun _ => slc_rsl) | exact ro_f2 (fun _ h => h) | exact ro_f2 (fun _ => slc_rsl) | exact ro_f3 (fun _ h => h) | exact ro_f3 (fun _ => slc_rsl) | exact ro_f4 (fun _ h => h) | exact ro_f4 (fun _ => slc_rsl) | exact ro_f5 (fun _ h => h) | exact ro_f5 (fun _ => slc_rsl) | exact ro_f6 (fun _ h => h) | exact ro_f6 (fun _ => slc_rsl)) ?_)))) (wl_ex fun x4 hx4 => ?_)
  refine wl_y rfl (y_build (cs := [_, _]) T59 PL59 rfl rfl rfl) ?_
  refine wl_w (fun _ _ => want_none) rfl (yw_box rfl rfl) (wl_ex fun b6 _ => ?_)
  refine wl_y rfl (y_assign rfl) ?_
  refine wl_nil ?_
  refine wq_then ?_
  refine wc_ret ?_
  refine wq_ret1 rfl rfl (fun w hw => ?_)
  exact ⟨(b6, x4), trivial, rfl, hw⟩

set_option maxHeartbeats 1000000 in
theorem sfiles_c (sb rb : Nat) (s : Scn) (hf : s.fit) :
    Ctr Tryz.prog 37 #[ptr sb] [] (scA sb rb s) (fun x : Sl PF => x.xs = s.files.2) (fun x => vSl x) (fun x => filesA x :: scA sb rb s.files.1) := by
  refine spec_start (n := 26) [(0, ptr sb)] Tryz.func37 rfl rfl ⟨rfl, trivial⟩ rfl ?_
  intro w0 K hR
  refine wc_seq ?_
  refine wc_region ?_
  refine wl_y rfl (y_assign rfl) ?_
  refine wl_nil ?_
  refine wq_then ?_
  refine wc_seq ?_
  refine wc_region ?_
  refine wl_y rfl (y_move rfl) ?_
  refine wl_y rfl (y_nilCheck rfl) ?_
  refine wl_y rfl (y_fieldAddr F59_0 rfl) ?_
  refine wl_y rfl (y_load NA57 rfl (by first | exact cell_blk [] rfl | exact cell_blk [_] rfl | exact cell_blk [_, _] rfl | exact cell_blk [_, _, _] rfl | exact cell_blk [_, _, _, _] rfl | exact cellR_blk (by assumption) rfl)) ?_
  refine wl_c (fun _ _ => want_none) rfl (yc_spec (fst := []) (cap := []) _ FN36 (text_p rb s.r hf) rfl rfl rfl (by (repeat (first | exact pt_nil | apply pt0 | apply pt1 | apply pt2 | apply pt3 | apply pt4 | apply pt5 | apply pt6 | apply pt7 | apply pt8 | apply pt9 | apply pt10 | apply pt11 | apply pt12 | apply pt13 | apply pt14 | apply pt15 | apply pt16 | apply pt17))) (by (repeat (first | exact ro_nil | exact ro_rest (by assumption) | refine ro_cons (by first | exact .inl (by assumption) | exact ro_f0 (fun _ h => h) | exact ro_f0 (fun _ => slc_rsl) | exact ro_f1 (fun _ h => h) | exact ro_f1 (fun _ => slc_rsl) | exact ro_f2 (fun _ h => h) | exact ro_f2 (fun _ => slc_rsl) | exact ro_f3 (fun _ h => h) | exact ro_f3 (fun _ => slc_rsl) | exact ro_f4 (fun _ h => h) | exact ro_f4 (fun _ => slc_rsl) | exact ro_f5 (fun _ h => h) | exact ro_f5 (fun _ => slc_rsl) | exact ro_f6 (fun _ h => h) | exact ro_f6 (fun _ => slc_rsl)) ?_)))) (wl_ex fun x10 hx10 => ?_)
  refine wl_c (fun _ _ => want_none) rfl (yc_spec (fst := []) (cap := []) _ FN55 (readFiles_c s.r.text.2 (fit_txt hf)) rfl rfl rfl (by (repeat (first | exact pt_nil | apply pt0 | apply pt1 | apply pt2 | apply pt3 | apply pt4 | apply pt5 | apply pt6 | apply pt7 | apply pt8 | apply pt9 | apply pt10 | apply pt11 | apply pt12 | apply pt13 | apply pt14 | apply pt15 | apply pt16 | apply pt17))) (by (repeat (first | exact ro_nil | exact ro_rest (by assumption) | refine ro_cons (by first | exact .inl (by assumption) | exact ro_f0 (fun _ h => h) | exact ro_f0 (fun _ => slc_rsl) | exact ro_f1 (fun _ h => h) | exact ro_f1 (fun _ => slc_rsl) | exact ro_f2 (fun _ h => h) | exact ro_f2 (fun _ => slc_rsl) | exact ro_f3 (fun _ h => h) | exact ro_f3 (fun _ => slc_rsl) | exact ro_f4 (fun _ h => h) | exact ro_f4 (fun _ => slc_rsl) | exact ro_f5 (fun _ h => h) | exact ro_f5 (fun _ => slc_rsl) | exact ro_f6 (fun _ h => h) | exact ro_f6 (fun _ => slc_rsl)) ?_)))) (wl_ex fun x11 hx11 => ?_)
  refine wl_y rfl (y_move rfl) ?_
  refine wl_y rfl (y_extract rfl rfl) ?_
  refine wl_y rfl (y_extract rfl rfl) ?_
  refine wl_y rfl (y_assign rfl) ?_
  refine wl_y rfl (y_assign rfl) ?_
  refine wl_nil ?_
  refine wq_then ?_
  refine wc_seq ?_
  refine wc_region ?_
  refine wl_y rfl (y_move rfl) ?_
  refine wl_y rfl (y_move rfl) ?_
  refine wl_y rfl (y_nilCheck rfl) ?_
  refine wl_y rfl (y_fieldAddr F59_1 rfl) ?_
  refine wl_y rfl (y_load NA4 rfl (by first | exact cell_blk [] rfl | exact cell_blk [_] rfl | exact cell_blk [_, _] rfl | exact cell_blk [_, _, _] rfl | exact cell_blk [_, _, _, _] rfl | exact cellR_blk (by assumption) rfl)) ?_
  refine wl_y rfl (y_move rfl) ?_
  apply wl_or 3 22 [(3, _), (14, _)] (t := 19) rfl ⟨rfl, rfl, trivial⟩
  · intro hg19 hM22
    refine wl_sk rfl rfl rfl rfl ?_
    refine wl_sk rfl rfl rfl rfl ?_
    refine wl_y rfl (y_pick_t rfl rfl) ?_
    exact wl_weaken hM22 ⟨rfl, rfl, rfl, trivial⟩
  · intro hg19 hM22
    try (simp at hg19)
    refine wl_yg rfl rfl rfl (y_move rfl) ?_
    refine wl_yg rfl rfl rfl (y_neqI rfl rfl) ?_
    refine wl_y rfl (y_pick_f rfl rfl) ?_
    exact wl_weaken hM22 ⟨rfl, rfl, rfl, trivial⟩
  ·
    refine wl_y rfl (y_nilCheck rfl) ?_
    refine wl_y rfl (y_fieldAddr F59_1 rfl) ?_
    first | refine wl_u (yu_store [] (l' := [_, _]) T4 rfl rfl rfl rfl rfl rfl rfl) ?_ | refine wl_u (yu_store [_] (l' := [_, _]) T4 rfl rfl rfl rfl rfl rfl rfl) ?_ | refine wl_u (yu_store [_, _] (l' := [_, _]) T4 rfl rfl rfl rfl rfl rfl rfl) ?_ | refine wl_u (yu_store [_, _, _] (l' := [_, _]) T4 rfl rfl rfl rfl rfl rfl rfl) ?_ | refine wl_u (yu_store [_, _, _, _] (l' := [_, _]) T4 rfl rfl rfl rfl rfl rfl rfl) ?_
    refine wl_nil ?_
    refine wq_then ?_
    refine wc_seq ?_
    refine wc_region ?_
    refine wl_y rfl (y_move rfl) ?_
    refine wl_y rfl (y_assign rfl) ?_
    refine wl_nil ?_
    refine wq_then ?_
    refine wc_ret ?_
    refine wq_ret1 rfl rfl (fun w hw => ?_)
    exact ⟨x11, hx11, rfl, by rw [or_e] at hw; exact hw.sub (by (repeat (first | exact pt_nil | apply pt0 | apply pt1 | apply pt2 | apply pt3 | apply pt4 | apply pt5 | apply pt6 | apply pt7 | apply pt8 | apply pt9 | apply pt10 | apply pt11 | apply pt12 | apply pt13 | apply pt14 | apply pt15 | apply pt16 | apply pt17)))⟩

set_option maxHeartbeats 1000000 in
theorem sgraph_c (sb rb : Nat) (s : Scn) (hf : s.fit) :
    Ctr Tryz.prog 48 #[ptr sb] [] (scA sb rb s) (fun x : Sl TgV => grE x = s.graph.2) (fun x => vSl x) (fun x => graphA x :: scA sb rb s.graph.1) := by
  refine spec_start (n := 26) [(0, ptr sb)] Tryz.func48 rfl rfl ⟨rfl, trivial⟩ rfl ?_
  intro w0 K hR
  refine wc_seq ?_
  refine wc_region ?_
  refine wl_y rfl (y_assign rfl) ?_
  refine wl_nil ?_
  refine wq_then ?_
  refine wc_seq ?_
  refine wc_region ?_
  refine wl_y rfl (y_move rfl) ?_
  refine wl_y rfl (y_nilCheck rfl) ?_
  refine wl_y rfl (y_fieldAddr F59_0 rfl) ?_
  refine wl_y rfl (y_load NA57 rfl (by first | exact cell_blk [] rfl | exact cell_blk [_] rfl | exact cell_blk [_, _] rfl | exact cell_blk [_, _, _] rfl | exact cell_blk [_, _, _, _] rfl | exact cellR_blk (by assumption) rfl)) ?_
  refine wl_c (fun _ _ => want_none) rfl (yc_spec (fst := []) (cap := []) _ FN36 (text_p rb s.r hf) rfl rfl rfl (by (repeat (first | exact pt_nil | apply pt0 | apply pt1 | apply pt2 | apply pt3 | apply pt4 | apply pt5 | apply pt6 | apply pt7 | apply pt8 | apply pt9 | apply pt10 | apply pt11 | apply pt12 | apply pt13 | apply pt14 | apply pt15 | apply pt16 | apply pt17))) (by (repeat (first | exact ro_nil | exact ro_rest (by assumption) | refine ro_cons (by first | exact .inl (by assumption) | exact ro_f0 (fun _ h => h) | exact ro_f0 (fun _ => slc_rsl) | exact ro_f1 (fun _ h => h) | exact ro_f1 (fun _ => slc_rsl) | exact ro_f2 (fun _ h => h) | exact ro_f2 (fun _ => slc_rsl) | exact ro_f3 (fun _ h => h) | exact ro_f3 (fun _ => slc_rsl) | exact ro_f4 (fun _ h => h) | exact ro_f4 (fun _ => slc_rsl) | exact ro_f5 (fun _ h => h) | exact ro_f5 (fun _ => slc_rsl) | exact ro_f6 (fun _ h => h) | exact ro_f6 (fun _ => slc_rsl)) ?_)))) (wl_ex fun x10 hx10 => ?_)
  refine wl_c (fun _ _ => want_none) rfl (yc_spec (fst := []) (cap := []) _ FN68 (readGraph_c s.r.text.2 (fit_txt hf)) rfl rfl rfl (by (repeat (first | exact pt_nil | apply pt0 | apply pt1 | apply pt2 | apply pt3 | apply pt4 | apply pt5 | apply pt6 | apply pt7 | apply pt8 | apply pt9 | apply pt10 | apply pt11 | apply pt12 | apply pt13 | apply pt14 | apply pt15 | apply pt16 | apply pt17))) (by (repeat (first | exact ro_nil | exact ro_rest (by assumption) | refine ro_cons (by first | exact .inl (by assumption) | exact ro_f0 (fun _ h => h) | exact ro_f0 (fun _ => slc_rsl) | exact ro_f1 (fun _ h => h) | exact ro_f1 (fun _ => slc_rsl) | exact ro_f2 (fun _ h => h) | exact ro_f2 (fun _ => slc_rsl) | exact ro_f3 (fun _ h => h) | exact ro_f3 (fun _ => slc_rsl) | exact ro_f4 (fun _ h => h) | exact ro_f4 (fun _ => slc_rsl) | exact ro_f5 (fun _ h => h) | exact ro_f5 (fun _ => slc_rsl) | exact ro_f6 (fun _ h => h) | exact ro_f6 (fun _ => slc_rsl)) ?_)))) (wl_ex fun x11 hx11 => ?_)
  refine wl_y rfl (y_move rfl) ?_
  refine wl_y rfl (y_extract rfl rfl) ?_
  refine wl_y rfl (y_extract rfl rfl) ?_
  refine wl_y rfl (y_assign rfl) ?_
  refine wl_y rfl (y_assign rfl) ?_
  refine wl_nil ?_
  refine wq_then ?_
  refine wc_seq ?_
  refine wc_region ?_
  refine wl_y rfl (y_move rfl) ?_
  refine wl_y rfl (y_move rfl) ?_
  refine wl_y rfl (y_nilCheck rfl) ?_
  refine wl_y rfl (y_fieldAddr F59_1 rfl) ?_
  refine wl_y rfl (y_load NA4 rfl (by first | exact cell_blk [] rfl | exact cell_blk [_] rfl | exact cell_blk [_, _] rfl | exact cell_blk [_, _, _] rfl | exact cell_blk [_, _, _, _] rfl | exact cellR_blk (by assumption) rfl)) ?_
  refine wl_y rfl (y_move rfl) ?_
  apply wl_or 3 22 [(3, _), (14, _)] (t := 19) rfl ⟨rfl, rfl, trivial⟩
  · intro hg19 hM22
    refine wl_sk rfl rfl rfl rfl ?_
    refine wl_sk rfl rfl rfl rfl ?_
    refine wl_y rfl (y_pick_t rfl rfl) ?_
    exact wl_weaken hM22 ⟨rfl, rfl, rfl, trivial⟩
  · intro hg19 hM22
    try (simp at hg19)
    refine wl_yg rfl rfl rfl (y_move rfl) ?_
    refine wl_yg rfl rfl rfl (y_neqI rfl rfl) ?_
    refine wl_y rfl (y_pick_f rfl rfl) ?_
    exact wl_weaken hM22 ⟨rfl, rfl, rfl, trivial⟩
  ·
    refine wl_y rfl (y_nilCheck rfl) ?_
    refine wl_y rfl (y_fieldAddr F59_1 rfl) ?_
    first | refine wl_u (yu_store [] (l' := [_, _]) T4 rfl rfl rfl rfl rfl rfl rfl) ?_ | refine wl_u (yu_store [_] (l' := [_, _]) T4 rfl rfl rfl rfl rfl rfl rfl) ?_ | refine wl_u (yu_store [_, _] (l' := [_, _]) T4 rfl rfl rfl rfl rfl rfl rfl) ?_ | refine wl_u (yu_store [_, _, _] (l' := [_, _]) T4 rfl rfl rfl rfl rfl rfl rfl) ?_ | refine wl_u (yu_store [_, _, _, _] (l' := [_, _]) T4 rfl rfl rfl rfl rfl rfl rfl) ?_
    refine wl_nil ?_
    refine wq_then ?_
    refine wc_seq ?_
    refine wc_region ?_
    refine wl_y rfl (y_move rfl) ?_
    refine wl_y rfl (y_assign rfl) ?_
    refine wl_nil ?_
    refine wq_then ?_
    refine wc_ret ?_
    refine wq_ret1 rfl rfl (fun w hw => ?_)
    exact ⟨x11, hx11, rfl, by rw [or_e] at hw; exact hw.sub (by (repeat (first | exact pt_nil | apply pt0 | apply pt1 | apply pt2 | apply pt3 | apply pt4 | apply pt5 | apply pt6 | apply pt7 | apply pt8 | apply pt9 | apply pt10 | apply pt11 | apply pt12 | apply pt13 | apply pt14 | apply pt15 | apply pt16 | apply pt17)))⟩

set_option maxHeartbeats 1000000 in
theorem serr_c (sb rb : Nat) (s : Scn) (hf : s.fit) :
    Ctr Tryz.prog 58 #[ptr sb] [libS] (scA sb rb s) (fun _ : Unit => True) (fun _ => vI s.num.2) (fun _ => scA sb rb s.num.1) := by
  refine spec_start (n := 8) [(0, ptr sb)] Tryz.func58 rfl rfl ⟨rfl, trivial⟩ rfl ?_
  intro w0 K hR
  have hB := hR libS (by simp)
  refine wc_seq ?_
  refine wc_region ?_
  refine wl_y rfl (y_assign rfl) ?_
  refine wl_nil ?_
  refine wq_then ?_
  refine wc_seq ?_
  refine wc_region ?_
  refine wl_y rfl (y_move rfl) ?_
  refine wl_y rfl (y_nilCheck rfl) ?_
  refine wl_y rfl (y_fieldAddr F59_0 rfl) ?_
  refine wl_y rfl (y_load NA57 rfl (by first | exact cell_blk [] rfl | exact cell_blk [_] rfl | exact cell_blk [_, _] rfl | exact cell_blk [_, _, _] rfl | exact cell_blk [_, _, _, _] rfl | exact cellR_blk (by assumption) rfl)) ?_
  refine wl_c (fun _ _ => want_none) rfl (yc_spec (fst := []) (cap := []) _ FN20 (num_p rb s.r hf) rfl rfl rfl (by (repeat (first | exact pt_nil | apply pt0 | apply pt1 | apply pt2 | apply pt3 | apply pt4 | apply pt5 | apply pt6 | apply pt7 | apply pt8 | apply pt9 | apply pt10 | apply pt11 | apply pt12 | apply pt13 | apply pt14 | apply pt15 | apply pt16 | apply pt17))) (by (repeat (first | exact ro_nil | exact ro_rest (by assumption) | refine ro_cons (by first | exact .inl (by assumption) | exact ro_f0 (fun _ h => h) | exact ro_f0 (fun _ => slc_rsl) | exact ro_f1 (fun _ h => h) | exact ro_f1 (fun _ => slc_rsl) | exact ro_f2 (fun _ h => h) | exact ro_f2 (fun _ => slc_rsl) | exact ro_f3 (fun _ h => h) | exact ro_f3 (fun _ => slc_rsl) | exact ro_f4 (fun _ h => h) | exact ro_f4 (fun _ => slc_rsl) | exact ro_f5 (fun _ h => h) | exact ro_f5 (fun _ => slc_rsl) | exact ro_f6 (fun _ h => h) | exact ro_f6 (fun _ => slc_rsl)) ?_)))) (wl_ex fun x7 hx7 => ?_)
  refine wl_y rfl (y_assign rfl) ?_
  refine wl_nil ?_
  refine wq_then ?_
  refine wc_ret ?_
  refine wq_ret1 rfl rfl (fun w hw => ?_)
  exact ⟨(), trivial, rfl, hw.sub (by (repeat (first | exact pt_nil | apply pt0 | apply pt1 | apply pt2 | apply pt3 | apply pt4 | apply pt5 | apply pt6 | apply pt7 | apply pt8 | apply pt9 | apply pt10 | apply pt11 | apply pt12 | apply pt13 | apply pt14 | apply pt15 | apply pt16 | apply pt17)))⟩

set_option maxHeartbeats 1000000 in
theorem sres_c (sb rb : Nat) (s : Scn) (hf : s.fit) :
    Ctr Tryz.prog 49 #[ptr sb] [libS] (scA sb rb s) (fun x : ResV => x.er = s.res.2) (fun x => .agg (encR x).toArray) (fun x => filesA x.files :: scA sb rb s.res.1) := by
  refine spec_start (n := 18) [(0, ptr sb)] Tryz.func49 rfl rfl ⟨rfl, trivial⟩ rfl ?_
  intro w0 K hR
  have hB := hR libS (by simp)
  refine wc_seq ?_
  refine wc_region ?_
  refine wl_w (fun _ _ => want_none) rfl (yw_alloc T27 rfl) (wl_ex fun b2 _ => ?_)
  refine wl_nil ?_
  refine wq_then ?_
  refine wc_seq ?_
  refine wc_mix (.q 0 0 (.q 2 0 (.q 3 0 (.q 4 0 (.q 5 0 (.q 7 0 (.q 8 0 (.q 9 0 (.q 10 0 (.q 12 0 (.w 1 2 (.w 6 2 (.w 11 2 (.w 13 2 (.q 14 0 (.w 15 2 .nil .nil)) .nil) .nil) .nil) .nil))))))))))) (fun w => w.cell? ⟨sb, 0, none⟩ = some (ptr rb)) MO (by kernel_rfl) (Hp.drawless _ _ _) (fun w hw => by first | exact cell_blk [] rfl w hw | exact cell_blk [_] rfl w hw | exact cell_blk [_, _] rfl w hw | exact cell_blk [_, _, _] rfl w hw | exact cell_blk [_, _, _, _] rfl w hw | exact cell_blk [_, _, _, _, _] rfl w hw) ?_
  refine wm_g rfl rfl (y_move rfl) ?_
  refine wm_g rfl rfl (y_move rfl) ?_
  refine wm_g rfl rfl (y_nilCheck rfl) ?_
  refine wm_g rfl rfl (y_fieldAddr F59_0 rfl) ?_
  refine wm_g rfl rfl (y_load NA57 rfl (fun w hw => hw)) ?_
  refine wm_g rfl rfl (y_move rfl) ?_
  refine wm_g rfl rfl (y_nilCheck rfl) ?_
  refine wm_g rfl rfl (y_fieldAddr F59_0 rfl) ?_
  refine wm_g rfl rfl (y_load NA57 rfl (fun w hw => hw)) ?_
  refine wm_g rfl rfl (y_move rfl) ?_
  refine wm_c rfl rfl ?hC (yc_spec (fst := []) (cap := []) _ FN58 (serr_c sb rb s hf) rfl rfl rfl (by (repeat (first | exact pt_nil | apply pt0 | apply pt1 | apply pt2 | apply pt3 | apply pt4 | apply pt5 | apply pt6 | apply pt7 | apply pt8 | apply pt9 | apply pt10 | apply pt11 | apply pt12 | apply pt13 | apply pt14 | apply pt15 | apply pt16 | apply pt17))) (by (repeat (first | exact ro_nil | exact ro_rest (by assumption) | refine ro_cons (by first | exact .inl (by assumption) | exact ro_f0 (fun _ h => h) | exact ro_f0 (fun _ => slc_rsl) | exact ro_f1 (fun _ h => h) | exact ro_f1 (fun _ => slc_rsl) | exact ro_f2 (fun _ h => h) | exact ro_f2 (fun _ => slc_rsl) | exact ro_f3 (fun _ h => h) | exact ro_f3 (fun _ => slc_rsl) | exact ro_f4 (fun _ h => h) | exact ro_f4 (fun _ => slc_rsl) | exact ro_f5 (fun _ h => h) | exact ro_f5 (fun _ => slc_rsl) | exact ro_f6 (fun _ h => h) | exact ro_f6 (fun _ => slc_rsl)) ?_)))) (wm_ex fun x4 hx4 => ?_)
  case hC => exact (fun _ _ h => by obtain ⟨_, _, _, hw⟩ := h; first | exact cell_blk [] rfl _ hw | exact cell_blk [_] rfl _ hw | exact cell_blk [_, _] rfl _ hw | exact cell_blk [_, _, _] rfl _ hw | exact cell_blk [_, _, _, _] rfl _ hw | exact cell_blk [_, _, _, _, _] rfl _ hw)
  refine wm_c rfl rfl ?hC (yc_spec (fst := []) (cap := []) _ FN36 (text_p rb s.num.1.r (fit_num hf)) rfl rfl rfl (by (repeat (first | exact pt_nil | apply pt0 | apply pt1 | apply pt2 | apply pt3 | apply pt4 | apply pt5 | apply pt6 | apply pt7 | apply pt8 | apply pt9 | apply pt10 | apply pt11 | apply pt12 | apply pt13 | apply pt14 | apply pt15 | apply pt16 | apply pt17))) (by (repeat (first | exact ro_nil | exact ro_rest (by assumption) | refine ro_cons (by first | exact .inl (by assumption) | exact ro_f0 (fun _ h => h) | exact ro_f0 (fun _ => slc_rsl) | exact ro_f1 (fun _ h => h) | exact ro_f1 (fun _ => slc_rsl) | exact ro_f2 (fun _ h => h) | exact ro_f2 (fun _ => slc_rsl) | exact ro_f3 (fun _ h => h) | exact ro_f3 (fun _ => slc_rsl) | exact ro_f4 (fun _ h => h) | exact ro_f4 (fun _ => slc_rsl) | exact ro_f5 (fun _ h => h) | exact ro_f5 (fun _ => slc_rsl) | exact ro_f6 (fun _ h => h) | exact ro_f6 (fun _ => slc_rsl)) ?_)))) (wm_ex fun x9 hx9 => ?_)
  case hC => exact (fun _ _ h => by obtain ⟨_, _, _, hw⟩ := h; first | exact cell_blk [] rfl _ hw | exact cell_blk [_] rfl _ hw | exact cell_blk [_, _] rfl _ hw | exact cell_blk [_, _, _] rfl _ hw | exact cell_blk [_, _, _, _] rfl _ hw | exact cell_blk [_, _, _, _, _] rfl _ hw)
  refine wm_c rfl rfl ?hC (yc_spec (fst := []) (cap := []) _ FN36 (text_p rb s.num.1.text.1.r (fit_text (fit_num hf))) rfl rfl rfl (by (repeat (first | exact pt_nil | apply pt0 | apply pt1 | apply pt2 | apply pt3 | apply pt4 | apply pt5 | apply pt6 | apply pt7 | apply pt8 | apply pt9 | apply pt10 | apply pt11 | apply pt12 | apply pt13 | apply pt14 | apply pt15 | apply pt16 | apply pt17))) (by (repeat (first | exact ro_nil | exact ro_rest (by assumption) | refine ro_cons (by first | exact .inl (by assumption) | exact ro_f0 (fun _ h => h) | exact ro_f0 (fun _ => slc_rsl) | exact ro_f1 (fun _ h => h) | exact ro_f1 (fun _ => slc_rsl) | exact ro_f2 (fun _ h => h) | exact ro_f2 (fun _ => slc_rsl) | exact ro_f3 (fun _ h => h) | exact ro_f3 (fun _ => slc_rsl) | exact ro_f4 (fun _ h => h) | exact ro_f4 (fun _ => slc_rsl) | exact ro_f5 (fun _ h => h) | exact ro_f5 (fun _ => slc_rsl) | exact ro_f6 (fun _ h => h) | exact ro_f6 (fun _ => slc_rsl)) ?_)))) (wm_ex fun x14 hx14 => ?_)
  case hC => exact (fun _ _ h => by obtain ⟨_, _, _, hw⟩ := h; first | exact cell_blk [] rfl _ hw | exact cell_blk [_] rfl _ hw | exact cell_blk [_, _] rfl _ hw | exact cell_blk [_, _, _] rfl _ hw | exact cell_blk [_, _, _, _] rfl _ hw | exact cell_blk [_, _, _, _, _] rfl _ hw)
  refine wm_c rfl rfl ?hC (yc_spec (fst := []) (cap := []) _ FN37 (sfiles_c sb rb s.num.1.text.1.text.1 (fit_text (fit_text (fit_num hf)))) rfl rfl rfl (by (repeat (first | exact pt_nil | apply pt0 | apply pt1 | apply pt2 | apply pt3 | apply pt4 | apply pt5 | apply pt6 | apply pt7 | apply pt8 | apply pt9 | apply pt10 | apply pt11 | apply pt12 | apply pt13 | apply pt14 | apply pt15 | apply pt16 | apply pt17))) (by (repeat (first | exact ro_nil | exact ro_rest (by assumption) | refine ro_cons (by first | exact .inl (by assumption) | exact ro_f0 (fun _ h => h) | exact ro_f0 (fun _ => slc_rsl) | exact ro_f1 (fun _ h => h) | exact ro_f1 (fun _ => slc_rsl) | exact ro_f2 (fun _ h => h) | exact ro_f2 (fun _ => slc_rsl) | exact ro_f3 (fun _ h => h) | exact ro_f3 (fun _ => slc_rsl) | exact ro_f4 (fun _ h => h) | exact ro_f4 (fun _ => slc_rsl) | exact ro_f5 (fun _ h => h) | exact ro_f5 (fun _ => slc_rsl) | exact ro_f6 (fun _ h => h) | exact ro_f6 (fun _ => slc_rsl)) ?_)))) (wm_ex fun x16 hx16 => ?_)
  case hC => exact (fun _ _ h => by obtain ⟨_, _, _, hw⟩ := h; first | exact cell_blk [] rfl _ hw | exact cell_blk [_] rfl _ hw | exact cell_blk [_, _] rfl _ hw | exact cell_blk [_, _, _] rfl _ hw | exact cell_blk [_, _, _, _] rfl _ hw | exact cell_blk [_, _, _, _, _] rfl _ hw)
  refine wm_g rfl rfl (y_build (cs := [_, _, _, _]) T27 PL27 rfl rfl rfl) ?_
  first | refine wm_u rfl (fun _ hw => by first | exact cell_blk [] rfl _ hw | exact cell_blk [_] rfl _ hw | exact cell_blk [_, _] rfl _ hw | exact cell_blk [_, _, _] rfl _ hw | exact cell_blk [_, _, _, _] rfl _ hw | exact cell_blk [_, _, _, _, _] rfl _ hw) (yu_storeAgg [] (l' := [_, _, _, _]) T27 rfl rfl rfl (by simp [Value.oneCell']) rfl rfl) ?_ | refine wm_u rfl (fun _ hw => by first | exact cell_blk [] rfl _ hw | exact cell_blk [_] rfl _ hw | exact cell_blk [_, _] rfl _ hw | exact cell_blk [_, _, _] rfl _ hw | exact cell_blk [_, _, _, _] rfl _ hw | exact cell_blk [_, _, _, _, _] rfl _ hw) (yu_storeAgg [_] (l' := [_, _, _, _]) T27 rfl rfl rfl (by simp [Value.oneCell']) rfl rfl) ?_ | refine wm_u rfl (fun _ hw => by first | exact cell_blk [] rfl _ hw | exact cell_blk [_] rfl _ hw | exact cell_blk [_, _] rfl _ hw | exact cell_blk [_, _, _] rfl _ hw | exact cell_blk [_, _, _, _] rfl _ hw | exact cell_blk [_, _, _, _, _] rfl _ hw) (yu_storeAgg [_, _] (l' := [_, _, _, _]) T27 rfl rfl rfl (by simp [Value.oneCell']) rfl rfl) ?_ | refine wm_u rfl (fun _ hw => by first | exact cell_blk [] rfl _ hw | exact cell_blk [_] rfl _ hw | exact cell_blk [_, _] rfl _ hw | exact cell_blk [_, _, _] rfl _ hw | exact cell_blk [_, _, _, _] rfl _ hw | exact cell_blk [_, _, _, _, _] rfl _ hw) (yu_storeAgg [_, _, _] (l' := [_, _, _, _]) T27 rfl rfl rfl (by simp [Value.oneCell']) rfl rfl) ?_ | refine wm_u rfl (fun _ hw => by first | exact cell_blk [] rfl _ hw | exact cell_blk [_] rfl _ hw | exact cell_blk [_, _] rfl _ hw | exact cell_blk [_, _, _] rfl _ hw | exact cell_blk [_, _, _, _] rfl _ hw | exact cell_blk [_, _, _, _, _] rfl _ hw) (yu_storeAgg [_, _, _, _] (l' := [_, _, _, _]) T27 rfl rfl rfl (by simp [Value.oneCell']) rfl rfl) ?_ | refine wm_u rfl (fun _ hw => by first | exact cell_blk [] rfl _ hw | exact cell_blk [_] rfl _ hw | exact cell_blk [_, _] rfl _ hw | exact cell_blk [_, _, _] rfl _ hw | exact cell_blk [_, _, _, _] rfl _ hw | exact cell_blk [_, _, _, _, _] rfl _ hw) (yu_storeAgg [_, _, _, _, _] (l' := [_, _, _, _]) T27 rfl rfl rfl (by simp [Value.oneCell']) rfl rfl) ?_
  refine wm_nil ?_
  refine all_wq ?_
  refine wq_then ?_
  refine wc_ret ?_
  refine wq_retC1 (l := [_, _, _, _]) AG27 rfl rfl rfl (by first | exact cells_blk [] rfl | exact cells_blk [_] rfl | exact cells_blk [_, _] rfl | exact cells_blk [_, _, _] rfl | exact cells_blk [_, _, _, _] rfl | exact cells_blk [_, _, _, _, _] rfl) (fun w hw => ?_)
  exact ⟨⟨s.num.2, s.num.1.text.2, s.num.1.text.1.text.2, x16⟩, by simp only [ResV.er, hx16]; rfl, rfl, hw.sub (by (repeat (first | exact pt_nil | apply pt0 | apply pt1 | apply pt2 | apply pt3 | apply pt4 | apply pt5 | apply pt6 | apply pt7 | apply pt8 | apply pt9 | apply pt10 | apply pt11 | apply pt12 | apply pt13 | apply pt14 | apply pt15 | apply pt16 | apply pt17)))⟩

end Go.Proofs.YtbnahfjhlbibcaaGreatDoor
