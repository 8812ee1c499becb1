/-
  Walks: operations that are the same.
-/
import Derived.Test.YtbnahfjhlbibcaaGreatDoorWalkZC
import Derived.Test.YtbnahfjhlbibcaaGreatDoorWalkX
namespace Go.Proofs.YtbnahfjhlbibcaaGreatDoor
open Go.Eng

open Go.Lib
theorem get_same {α : Type} {l m : List α} {i : Nat} {x y : α} (h : l = m) (hx : l[i]? = some x) (hy : m[i]? = some y) : x = y := by
  subst h; exact Option.some.inj (hx.symm.trans hy)
theorem get_same' {α β : Type} {f : α → β} {l m : List α} {i : Nat} {x y : α} (h : l.map f = m.map f) (hx : l[i]? = some x) (hy : m[i]? = some y) : f x = f y := get_same h (i := i) (by simp [hx]) (by simp [hy])
/-- Lists that can be gone through. -/
def fits1 (n : Nat) : Prop := n ≤ 1000000000
def PT.fits (t : PT) : Prop := fits1 t.deps.length ∧ fits1 t.srcs.length
def PO.fits (x : PO) : Prop := (fits1 x.graph.length ∧ ∀ t ∈ x.graph, t.fits) ∧ fits1 x.snap.length ∧ fits1 x.res.files.length
theorem len_files (s : Str) : (rdFiles s).1.length ≤ s.length := rdX_len s
theorem len_graph (s : Str) : (rdGraph s).1.length ≤ s.length := rdX_len s
theorem rdAll_mem {α : Type} {f : Rdr' → Rdr' × α} : ∀ {l : List Str} {r : List α}, rdAll f l = some r → ∀ x ∈ r, ∃ s ∈ l, x = (f ⟨s, 0⟩).2
  | [], r, h => by simp only [rdAll, Option.some.injEq] at h; subst h; simp
  | s :: l, r, h => by
    rw [rdAll] at h
    split at h
    · cases h
    · cases hq : rdAll f l with
      | none => rw [hq] at h; cases h
      | some q =>
        rw [hq] at h
        simp only [Option.map_some, Option.some.injEq] at h
        subst h
        intro x hx
        rcases List.mem_cons.1 hx with rfl | hx
        · exact ⟨s, by simp, rfl⟩
        · obtain ⟨u, hu, e⟩ := rdAll_mem hq x hx
          exact ⟨u, by simp [hu], e⟩
theorem mem_graph {s : Str} (hs : s.length ≤ 1000000000) : ∀ t ∈ (rdGraph s).1, t.fits := by
  by_cases h : (rdL s).2 = 0
  · cases hq : rdAll tkTg (rdL s).1 with
    | none => rw [show rdGraph s = _ from rdX_none h hq]; simp
    | some l =>
      rw [show rdGraph s = _ from rdX_some h hq]
      intro t ht
      obtain ⟨u, hu, rfl⟩ := rdAll_mem hq t ht
      have hb := (rdX_bnd s).2 u hu
      have h1 := text_bounds ⟨u, 0⟩
      have h2 := text_bounds (Rdr'.mk u 0).text.1
      have h3 := list_bnd (Rdr'.mk u 0).text.1.text.1
      have h4 := list_bnd (Rdr'.mk u 0).text.1.text.1.list.1
      have h5 := list_rest_le (Rdr'.mk u 0).text.1.text.1
      simp only at h1
      refine ⟨?_, ?_⟩
      · show (Rdr'.mk u 0).text.1.text.1.list.2.length ≤ _
        have := h3.1; omega
      · show (Rdr'.mk u 0).text.1.text.1.list.1.list.2.length ≤ _
        have := h4.1; omega
  · rw [show rdGraph s = _ from rdX_bad h]; simp
section
variable {s : Scn}
theorem ln_files (h : s.fit) : fits1 s.files.2.length := Nat.le_trans (len_files _) (fit_txt h)
theorem ln_graph (h : s.fit) : fits1 s.graph.2.length ∧ ∀ t ∈ s.graph.2, t.fits := ⟨Nat.le_trans (len_graph _) (fit_txt h), mem_graph (fit_txt h)⟩
theorem ln_list (h : s.fit) : fits1 s.list.2.length := by
  have h1 := (list_bnd s.r).1
  have h2 : s.r.rest.length ≤ 1000000000 := h
  show s.r.list.2.length ≤ _
  omega
theorem ln_op (h : s.fit) : s.op.2.fits := ⟨ln_graph (fit_text h), ln_files (fit_graph (fit_text h)), ln_files (fit_text (fit_text (fit_num (fit_num (fit_text (fit_files (fit_graph (fit_text h))))))))⟩
theorem ln_task (h : s.fit) : fits1 s.task.2.files.length ∧ fits1 s.task.2.names.length := ⟨ln_files (fit_text (fit_num (fit_text h))), ln_list (fit_files (fit_text (fit_num (fit_text h))))⟩
theorem ln_rep (h : s.fit) : fits1 s.rep.2.out.files.length := ln_files (fit_num (fit_num (fit_text h)))
end
theorem op0_fits : PO.zero.fits := ⟨⟨by unfold fits1; simp [PO.zero], by simp [PO.zero]⟩, by unfold fits1; simp [PO.zero], by unfold fits1; simp [PO.zero, PR.zero]⟩
theorem ev_fits {s : Str} (h : s.length ≤ 1000000000) : (rdEv s).1.2.fits := by
  by_cases h0 : (take0 s).ev.1.fin = 0
  · rw [show rdEv s = _ from done_ok h0]; exact ln_op (fit_num (s := take0 s) h)
  · rw [show rdEv s = _ from done_bad h0]; exact op0_fits
theorem rdOps_fits : ∀ {l : List Str} {r : List PO}, (∀ s ∈ l, s.length ≤ 1000000000) → rdOps l = some r → r.length = l.length ∧ ∀ x ∈ r, x.fits
  | [], r, _, h => by simp only [rdOps, Option.some.injEq] at h; subst h; simp
  | s :: l, r, hs, h => by
    rw [rdOps] at h
    split at h
    · cases h
    · rename_i h0
      cases hq : rdOps l with
      | none => rw [hq] at h; cases h
      | some q =>
        rw [hq] at h
        simp only [Option.map_some, Option.some.injEq] at h
        subst h
        obtain ⟨h1, h2⟩ := rdOps_fits (fun u hu => hs u (by simp [hu])) hq
        refine ⟨by rw [List.length_cons, List.length_cons, h1], fun x hx => ?_⟩
        rcases List.mem_cons.1 hx with rfl | hx
        · by_cases h3 : (take0 s).op.1.fin = 0
          · rw [show rdOp s = _ from done_ok h3]; exact ln_op (s := take0 s) (hs s (by simp))
          · rw [show rdOp s = _ from done_bad h3]; exact op0_fits
        · exact h2 x hx
theorem table_fits {s : Str} (h : s.length ≤ 1000000000) : fits1 (rdTable s).1.length ∧ ∀ x ∈ (rdTable s).1, x.fits := by
  obtain ⟨hb1, hb2⟩ := list_bnd ⟨s, 0⟩
  simp only at hb1 hb2
  by_cases h0 : (Rdr'.mk s 0).list.1.fin = 0
  · cases hq : rdOps (Rdr'.mk s 0).list.2 with
    | none => rw [rdTb_none h0 hq]; simp [fits1]
    | some l =>
      rw [rdTb_some h0 hq]
      obtain ⟨h1, h2⟩ := rdOps_fits (fun u hu => Nat.le_trans (hb2 u hu) h) hq
      exact ⟨by unfold fits1; simp only; omega, h2⟩
  · rw [rdTb_bad h0]; simp [fits1]
theorem task_fits {s : Str} (h : s.length ≤ 1000000000) : fits1 (rdTask s).1.files.length ∧ fits1 (rdTask s).1.names.length := by
  by_cases h0 : (take0 s).task.1.fin = 0
  · rw [show rdTask s = _ from done_ok h0]; exact ln_task (s := take0 s) h
  · rw [show rdTask s = _ from done_bad h0]; simp [PK.zero, fits1]
theorem rep_fits {s : Str} (h : s.length ≤ 1000000000) : fits1 (rdRep s).1.out.files.length := by
  by_cases h0 : (take0 s).rep.1.fin = 0
  · rw [show rdRep s = _ from done_ok h0]; exact ln_rep (s := take0 s) h
  · rw [show rdRep s = _ from done_bad h0]; simp [PP.zero, PU.zero, fits1]
set_option maxHeartbeats 1000000 in
theorem texts9_c (a b : Sl Str) (h : a.xs = b.xs) (hl : fits1 a.xs.length) :
    Ctr Tryz.prog 54 #[vSl a, vSl b] [strsA a, strsA b] [] (fun _ : Unit => True) (fun _ => vB true) (fun _ => []) := by
  refine spec_start (n := 26) [(0, vSl a), (1, vSl b)] Tryz.func54 rfl rfl ⟨rfl, rfl, trivial⟩ rfl ?_
  intro w0 K hR
  have hA := hR (strsA a) (by simp)
  have hB2 := hR (strsA b) (by simp)
  unfold strsA at hA hB2
  unfold fits1 at hl
  refine wc_seq ?_
  refine wc_region ?_
  refine wl_y rfl (y_assign rfl) ?_
  refine wl_nil ?_
  refine wq_then ?_
  refine wc_seq ?_
  refine wc_seq ?_
  refine wc_region ?_
  refine wl_y rfl (y_move rfl) ?_
  refine wl_y rfl (y_lenSl Tryz.underlying39 rfl) ?_
  refine wl_y rfl (y_move rfl) ?_
  refine wl_y rfl (y_lenSl Tryz.underlying39 rfl) ?_
  refine wl_y rfl (y_neqI rfl rfl) ?_
  refine wl_nil ?_
  refine wq_then ?_
  refine wc_known 10 false rfl (by rw [h]; simp) ?_
  refine wc_cond_false rfl ?_
  refine wc_skip ?_
  refine wq_then ?_
  refine wc_seq ?_
  refine wc_seq ?_
  refine wc_region ?_
  refine wl_y rfl (y_assign rfl) ?_
  refine wl_nil ?_
  refine wq_then ?_
  refine wc_block ?_
  refine wc_loop (α := Nat) (fun y => y ≤ a.xs.length) [(0, _), (1, _)] (fun y => [(5, vI y)]) (fun y => Hp w0 K []) (fun y => a.xs.length - y) 0 ?_ ⟨rfl, rfl, rfl, trivial⟩ ?_ ?_
  · exact Nat.zero_le _
  · exact fun w hw => hw
  · intro i hi
    refine wc_seq ?_
    refine wc_seq ?_
    refine wc_region ?_
    refine wl_y rfl (y_move rfl) ?_
    refine wl_y rfl (y_move rfl) ?_
    refine wl_y rfl (y_lenSl Tryz.underlying39 rfl) ?_
    refine wl_y rfl (y_lss rfl rfl) ?_
    refine wl_nil ?_
    refine wq_then ?_
    refine wc_cond rfl (fun hc14 => ?_) (fun hc14 => ?_)
    ·
      simp at hc14
      refine wc_skip ?_
      refine wq_then ?_
      refine wc_seq ?_
      refine wc_block ?_
      refine wc_seq ?_
      refine wc_quiet MO (by kernel_rfl) (Hp.drawless _ _ _) ?_
      obtain ⟨x, hx⟩ : ∃ x, a.xs[i]? = some x := ⟨_, List.getElem?_eq_getElem (by omega)⟩
      have hlen : a.xs.length = b.xs.length := by rw [h]
      obtain ⟨y, hy⟩ : ∃ x, b.xs[i]? = some x := ⟨_, List.getElem?_eq_getElem (by omega)⟩
      refine wt_y rfl (y_move rfl) ?_
      refine wt_y rfl (y_move rfl) ?_
      refine wt_y rfl (y_indexAddr Tryz.underlying39 T9 rfl rfl rfl (by omega) (by first | assumption | exact fun _ _ => rfl | exact fun _ _ => hA.isSome (by omega) | exact fun _ _ => hB2.isSome (by omega) | exact fun w hw => hw.slc_isSome [] (by omega) | exact fun w hw => hw.slc_isSome [_] (by omega) | exact fun w hw => hw.slc_isSome [_, _] (by omega) | exact fun w hw => hw.slc_isSome [_, _, _] (by omega))) ?_
      refine wt_y rfl (y_load NA9 rfl (cell_ro hA (row_at hx))) ?_
      refine wt_y rfl (y_move rfl) ?_
      refine wt_y rfl (y_move rfl) ?_
      refine wt_y rfl (y_indexAddr Tryz.underlying39 T9 rfl rfl rfl (by omega) (by first | assumption | exact fun _ _ => rfl | exact fun _ _ => hA.isSome (by omega) | exact fun _ _ => hB2.isSome (by omega) | exact fun w hw => hw.slc_isSome [] (by omega) | exact fun w hw => hw.slc_isSome [_] (by omega) | exact fun w hw => hw.slc_isSome [_, _] (by omega) | exact fun w hw => hw.slc_isSome [_, _, _] (by omega))) ?_
      refine wt_y rfl (y_load NA9 rfl (cell_ro hB2 (row_at hy))) ?_
      refine wt_y rfl (y_neqS rfl rfl) ?_
      refine wt_nil ?_
      refine wq_then ?_
      refine wc_known 25 false rfl (by rw [get_same h hx hy]; simp) ?_
      refine wc_cond_false rfl ?_
      refine wc_skip ?_
      refine wq_block_normal ?_
      refine wq_then ?_
      refine wc_region ?_
      refine wl_y rfl (y_move rfl) ?_
      refine wl_y rfl (y_add rfl rfl (by omega)) ?_
      refine wl_y rfl (y_assign rfl) ?_
      refine wl_nil ?_
      exact wq_round (i + 1) (by omega) (by omega) ⟨rfl, rfl, rfl, trivial⟩ (fun w hw => hw.bare)
    ·
      simp at hc14
      refine wc_exit ?_
      refine wq_then_exit (wq_then_exit (wq_block_exit ?_))
      refine wq_then ?_
      refine wc_seq ?_
      refine wc_region ?_
      refine wl_y rfl (y_assign rfl) ?_
      refine wl_nil ?_
      refine wq_then ?_
      refine wc_ret ?_
      refine wq_ret1 rfl rfl (fun w hw => ?_)
      exact ⟨(), trivial, rfl, hw.bare⟩

set_option maxHeartbeats 1000000 in
theorem same9_c (a b : Sl TgV) (h : grE a = grE b) (hl : fits1 (grE a).length) (hs : ∀ t ∈ grE a, t.fits) :
    Ctr Tryz.prog 32 #[vSl a, vSl b] [graphA a, graphA b] [] (fun _ : Unit => True) (fun _ => vB true) (fun _ => []) := by
  refine spec_start (n := 69) [(0, vSl a), (1, vSl b)] Tryz.func32 rfl rfl ⟨rfl, rfl, trivial⟩ rfl ?_
  intro w0 K hR
  obtain ⟨hA, hT⟩ := graph_ro (hR (graphA a) (by simp))
  obtain ⟨hB2, hU⟩ := graph_ro (hR (graphA b) (by simp))
  unfold fits1 at hl
  have hll : (grE a).length = a.xs.length := List.length_map _
  have hln : a.xs.length = b.xs.length := by have := congrArg List.length h; simpa [grE] using this
  refine wc_seq ?_
  refine wc_region ?_
  refine wl_y rfl (y_assign rfl) ?_
  refine wl_nil ?_
  refine wq_then ?_
  refine wc_seq ?_
  refine wc_seq ?_
  refine wc_region ?_
  refine wl_y rfl (y_move rfl) ?_
  refine wl_y rfl (y_lenSl Tryz.underlying23 rfl) ?_
  refine wl_y rfl (y_move rfl) ?_
  refine wl_y rfl (y_lenSl Tryz.underlying23 rfl) ?_
  refine wl_y rfl (y_neqI rfl rfl) ?_
  refine wl_nil ?_
  refine wq_then ?_
  refine wc_known 10 false rfl (by rw [hln]; simp) ?_
  refine wc_cond_false rfl ?_
  refine wc_skip ?_
  refine wq_then ?_
  refine wc_seq ?_
  refine wc_seq ?_
  refine wc_region ?_
  refine wl_y rfl (y_assign rfl) ?_
  refine wl_nil ?_
  refine wq_then ?_
  refine wc_block ?_
  refine wc_loop (α := Nat) (fun y => y ≤ a.xs.length) [(0, _), (1, _)] (fun y => [(5, vI y)]) (fun y => Hp w0 K []) (fun y => a.xs.length - y) 0 ?_ ⟨rfl, rfl, rfl, trivial⟩ ?_ ?_
  · exact Nat.zero_le _
  · exact fun w hw => hw
  · intro i hi
    refine wc_seq ?_
    refine wc_seq ?_
    refine wc_region ?_
    refine wl_y rfl (y_move rfl) ?_
    refine wl_y rfl (y_move rfl) ?_
    refine wl_y rfl (y_lenSl Tryz.underlying23 rfl) ?_
    refine wl_y rfl (y_lss rfl rfl) ?_
    refine wl_nil ?_
    refine wq_then ?_
    refine wc_cond rfl (fun hc14 => ?_) (fun hc14 => ?_)
    ·
      simp at hc14
      refine wc_skip ?_
      refine wq_then ?_
      refine wc_seq ?_
      refine wc_block ?_
      refine wc_seq ?_
      refine wc_quiet MO (by kernel_rfl) (Hp.drawless _ _ _) ?_
      obtain ⟨x, hx⟩ : ∃ x, a.xs[i]? = some x := ⟨_, List.getElem?_eq_getElem (by omega)⟩
      have hlen : a.xs.length = b.xs.length := hln
      obtain ⟨y, hy⟩ : ∃ x, b.xs[i]? = some x := ⟨_, List.getElem?_eq_getElem (by omega)⟩
      have hxy : x.er = y.er := get_same' h hx hy
      have e1 : x.name = y.name := congrArg PT.name hxy
      have e2 : x.cmd = y.cmd := congrArg PT.cmd hxy
      have e3 : x.deps.xs = y.deps.xs := congrArg PT.deps hxy
      have e4 : x.srcs.xs = y.srcs.xs := congrArg PT.srcs hxy
      obtain ⟨f1, f2⟩ := hs x.er (List.mem_map.2 ⟨x, List.mem_of_getElem? hx, rfl⟩)
      obtain ⟨g1, g2⟩ := hT x (List.mem_of_getElem? hx)
      obtain ⟨g3, g4⟩ := hU y (List.mem_of_getElem? hy)
      refine wt_y rfl (y_move rfl) ?_
      refine wt_y rfl (y_move rfl) ?_
      refine wt_y rfl (y_indexAddr Tryz.underlying23 T105 rfl rfl rfl (by omega) (by first | assumption | exact fun _ _ => rfl | exact fun _ _ => hA.isSome (by omega) | exact fun _ _ => hB2.isSome (by omega) | exact fun w hw => hw.slc_isSome [] (by omega) | exact fun w hw => hw.slc_isSome [_] (by omega) | exact fun w hw => hw.slc_isSome [_, _] (by omega) | exact fun w hw => hw.slc_isSome [_, _, _] (by omega))) ?_
      refine wt_y rfl (y_fieldAddr_adr F105_0 rfl) ?_
      refine wt_y rfl (y_load NA9 rfl (by first | exact cell_ro hA (rows_get encTg_len hx rfl) | exact cell_ro hB2 (rows_get encTg_len hx rfl) | exact cell_own [] (rows_get encTg_len hx rfl) | exact cell_own [_] (rows_get encTg_len hx rfl) | exact cell_own [_, _] (rows_get encTg_len hx rfl) | exact cell_own [_, _, _] (rows_get encTg_len hx rfl))) ?_
      refine wt_y rfl (y_move rfl) ?_
      refine wt_y rfl (y_move rfl) ?_
      refine wt_y rfl (y_indexAddr Tryz.underlying23 T105 rfl rfl rfl (by omega) (by first | assumption | exact fun _ _ => rfl | exact fun _ _ => hA.isSome (by omega) | exact fun _ _ => hB2.isSome (by omega) | exact fun w hw => hw.slc_isSome [] (by omega) | exact fun w hw => hw.slc_isSome [_] (by omega) | exact fun w hw => hw.slc_isSome [_, _] (by omega) | exact fun w hw => hw.slc_isSome [_, _, _] (by omega))) ?_
      refine wt_y rfl (y_fieldAddr_adr F105_0 rfl) ?_
      refine wt_y rfl (y_load NA9 rfl (by first | exact cell_ro hA (rows_get encTg_len hy rfl) | exact cell_ro hB2 (rows_get encTg_len hy rfl) | exact cell_own [] (rows_get encTg_len hy rfl) | exact cell_own [_] (rows_get encTg_len hy rfl) | exact cell_own [_, _] (rows_get encTg_len hy rfl) | exact cell_own [_, _, _] (rows_get encTg_len hy rfl))) ?_
      refine wt_y rfl (y_neqS rfl rfl) ?_
      refine wt_y rfl (y_move rfl) ?_
      refine wt_known 28 false rfl (by rw [e1]; simp) ?_
      refine wt_yg rfl rfl rfl (y_move rfl) ?_
      refine wt_yg rfl rfl rfl (y_move rfl) ?_
      refine wt_yg rfl rfl rfl (y_indexAddr Tryz.underlying23 T105 rfl rfl rfl (by omega) (by first | assumption | exact fun _ _ => rfl | exact fun _ _ => hA.isSome (by omega) | exact fun _ _ => hB2.isSome (by omega) | exact fun w hw => hw.slc_isSome [] (by omega) | exact fun w hw => hw.slc_isSome [_] (by omega) | exact fun w hw => hw.slc_isSome [_, _] (by omega) | exact fun w hw => hw.slc_isSome [_, _, _] (by omega))) ?_
      refine wt_yg rfl rfl rfl (y_fieldAddr_adr F105_1 rfl) ?_
      refine wt_yg rfl rfl rfl (y_load NA9 rfl (by first | exact cell_ro hA (rows_get encTg_len hx rfl) | exact cell_ro hB2 (rows_get encTg_len hx rfl) | exact cell_own [] (rows_get encTg_len hx rfl) | exact cell_own [_] (rows_get encTg_len hx rfl) | exact cell_own [_, _] (rows_get encTg_len hx rfl) | exact cell_own [_, _, _] (rows_get encTg_len hx rfl))) ?_
      refine wt_yg rfl rfl rfl (y_move rfl) ?_
      refine wt_yg rfl rfl rfl (y_move rfl) ?_
      refine wt_yg rfl rfl rfl (y_indexAddr Tryz.underlying23 T105 rfl rfl rfl (by omega) (by first | assumption | exact fun _ _ => rfl | exact fun _ _ => hA.isSome (by omega) | exact fun _ _ => hB2.isSome (by omega) | exact fun w hw => hw.slc_isSome [] (by omega) | exact fun w hw => hw.slc_isSome [_] (by omega) | exact fun w hw => hw.slc_isSome [_, _] (by omega) | exact fun w hw => hw.slc_isSome [_, _, _] (by omega))) ?_
      refine wt_yg rfl rfl rfl (y_fieldAddr_adr F105_1 rfl) ?_
      refine wt_yg rfl rfl rfl (y_load NA9 rfl (by first | exact cell_ro hA (rows_get encTg_len hy rfl) | exact cell_ro hB2 (rows_get encTg_len hy rfl) | exact cell_own [] (rows_get encTg_len hy rfl) | exact cell_own [_] (rows_get encTg_len hy rfl) | exact cell_own [_, _] (rows_get encTg_len hy rfl) | exact cell_own [_, _, _] (rows_get encTg_len hy rfl))) ?_
      refine wt_yg rfl rfl rfl (y_neqS rfl rfl) ?_
      refine wt_y rfl (y_pick_f rfl rfl) ?_
      refine wt_y rfl (y_move rfl) ?_
      refine wt_known 41 false rfl (by rw [e2]; simp) ?_
      refine wt_yg rfl rfl rfl (y_move rfl) ?_
      refine wt_yg rfl rfl rfl (y_move rfl) ?_
      refine wt_yg rfl rfl rfl (y_indexAddr Tryz.underlying23 T105 rfl rfl rfl (by omega) (by first | assumption | exact fun _ _ => rfl | exact fun _ _ => hA.isSome (by omega) | exact fun _ _ => hB2.isSome (by omega) | exact fun w hw => hw.slc_isSome [] (by omega) | exact fun w hw => hw.slc_isSome [_] (by omega) | exact fun w hw => hw.slc_isSome [_, _] (by omega) | exact fun w hw => hw.slc_isSome [_, _, _] (by omega))) ?_
      refine wt_yg rfl rfl rfl (y_fieldAddr_adr F105_2 rfl) ?_
      refine wt_yg rfl rfl rfl (y_load NA39 rfl (by first | exact cell_ro hA (rows_get encTg_len hx rfl) | exact cell_ro hB2 (rows_get encTg_len hx rfl) | exact cell_own [] (rows_get encTg_len hx rfl) | exact cell_own [_] (rows_get encTg_len hx rfl) | exact cell_own [_, _] (rows_get encTg_len hx rfl) | exact cell_own [_, _, _] (rows_get encTg_len hx rfl))) ?_
      refine wt_yg rfl rfl rfl (y_move rfl) ?_
      refine wt_yg rfl rfl rfl (y_move rfl) ?_
      refine wt_yg rfl rfl rfl (y_indexAddr Tryz.underlying23 T105 rfl rfl rfl (by omega) (by first | assumption | exact fun _ _ => rfl | exact fun _ _ => hA.isSome (by omega) | exact fun _ _ => hB2.isSome (by omega) | exact fun w hw => hw.slc_isSome [] (by omega) | exact fun w hw => hw.slc_isSome [_] (by omega) | exact fun w hw => hw.slc_isSome [_, _] (by omega) | exact fun w hw => hw.slc_isSome [_, _, _] (by omega))) ?_
      refine wt_yg rfl rfl rfl (y_fieldAddr_adr F105_2 rfl) ?_
      refine wt_yg rfl rfl rfl (y_load NA39 rfl (by first | exact cell_ro hA (rows_get encTg_len hy rfl) | exact cell_ro hB2 (rows_get encTg_len hy rfl) | exact cell_own [] (rows_get encTg_len hy rfl) | exact cell_own [_] (rows_get encTg_len hy rfl) | exact cell_own [_, _] (rows_get encTg_len hy rfl) | exact cell_own [_, _, _] (rows_get encTg_len hy rfl))) ?_
      refine wt_c (want_some rfl rfl) rfl (yq_spec (fst := []) (cap := []) _ FN54 (texts9_c x.deps y.deps e3 f1) rfl rfl rfl (by (repeat (first | exact pt_nil | apply pt0 | apply pt1 | apply pt2 | apply pt3 | apply pt4 | apply pt5 | apply pt6 | apply pt7 | apply pt8 | apply pt9 | apply pt10 | apply pt11 | apply pt12 | apply pt13 | apply pt14 | apply pt15 | apply pt16 | apply pt17))) (by (repeat (first | exact ro_nil | exact ro_rest (by assumption) | refine ro_cons (by first | exact .inl (by assumption) | exact ro_f0 (fun _ h => h) | exact ro_f0 (fun _ => slc_rsl) | exact ro_f1 (fun _ h => h) | exact ro_f1 (fun _ => slc_rsl) | exact ro_f2 (fun _ h => h) | exact ro_f2 (fun _ => slc_rsl) | exact ro_f3 (fun _ h => h) | exact ro_f3 (fun _ => slc_rsl) | exact ro_f4 (fun _ h => h) | exact ro_f4 (fun _ => slc_rsl) | exact ro_f5 (fun _ h => h) | exact ro_f5 (fun _ => slc_rsl) | exact ro_f6 (fun _ h => h) | exact ro_f6 (fun _ => slc_rsl)) ?_))) (fun _ _ => rfl) (fun _ _ _ h => h.sub (by (repeat (first | exact pt_nil | apply pt0 | apply pt1 | apply pt2 | apply pt3 | apply pt4 | apply pt5 | apply pt6 | apply pt7 | apply pt8 | apply pt9 | apply pt10 | apply pt11 | apply pt12 | apply pt13 | apply pt14 | apply pt15 | apply pt16 | apply pt17))))) ?_
      refine wt_yg rfl rfl rfl (y_not rfl) ?_
      refine wt_y rfl (y_pick_f rfl rfl) ?_
      refine wt_y rfl (y_move rfl) ?_
      refine wt_known 55 false rfl (rfl) ?_
      refine wt_yg rfl rfl rfl (y_move rfl) ?_
      refine wt_yg rfl rfl rfl (y_move rfl) ?_
      refine wt_yg rfl rfl rfl (y_indexAddr Tryz.underlying23 T105 rfl rfl rfl (by omega) (by first | assumption | exact fun _ _ => rfl | exact fun _ _ => hA.isSome (by omega) | exact fun _ _ => hB2.isSome (by omega) | exact fun w hw => hw.slc_isSome [] (by omega) | exact fun w hw => hw.slc_isSome [_] (by omega) | exact fun w hw => hw.slc_isSome [_, _] (by omega) | exact fun w hw => hw.slc_isSome [_, _, _] (by omega))) ?_
      refine wt_yg rfl rfl rfl (y_fieldAddr_adr F105_3 rfl) ?_
      refine wt_yg rfl rfl rfl (y_load NA39 rfl (by first | exact cell_ro hA (rows_get encTg_len hx rfl) | exact cell_ro hB2 (rows_get encTg_len hx rfl) | exact cell_own [] (rows_get encTg_len hx rfl) | exact cell_own [_] (rows_get encTg_len hx rfl) | exact cell_own [_, _] (rows_get encTg_len hx rfl) | exact cell_own [_, _, _] (rows_get encTg_len hx rfl))) ?_
      refine wt_yg rfl rfl rfl (y_move rfl) ?_
      refine wt_yg rfl rfl rfl (y_move rfl) ?_
      refine wt_yg rfl rfl rfl (y_indexAddr Tryz.underlying23 T105 rfl rfl rfl (by omega) (by first | assumption | exact fun _ _ => rfl | exact fun _ _ => hA.isSome (by omega) | exact fun _ _ => hB2.isSome (by omega) | exact fun w hw => hw.slc_isSome [] (by omega) | exact fun w hw => hw.slc_isSome [_] (by omega) | exact fun w hw => hw.slc_isSome [_, _] (by omega) | exact fun w hw => hw.slc_isSome [_, _, _] (by omega))) ?_
      refine wt_yg rfl rfl rfl (y_fieldAddr_adr F105_3 rfl) ?_
      refine wt_yg rfl rfl rfl (y_load NA39 rfl (by first | exact cell_ro hA (rows_get encTg_len hy rfl) | exact cell_ro hB2 (rows_get encTg_len hy rfl) | exact cell_own [] (rows_get encTg_len hy rfl) | exact cell_own [_] (rows_get encTg_len hy rfl) | exact cell_own [_, _] (rows_get encTg_len hy rfl) | exact cell_own [_, _, _] (rows_get encTg_len hy rfl))) ?_
      refine wt_c (want_some rfl rfl) rfl (yq_spec (fst := []) (cap := []) _ FN54 (texts9_c x.srcs y.srcs e4 f2) rfl rfl rfl (by (repeat (first | exact pt_nil | apply pt0 | apply pt1 | apply pt2 | apply pt3 | apply pt4 | apply pt5 | apply pt6 | apply pt7 | apply pt8 | apply pt9 | apply pt10 | apply pt11 | apply pt12 | apply pt13 | apply pt14 | apply pt15 | apply pt16 | apply pt17))) (by (repeat (first | exact ro_nil | exact ro_rest (by assumption) | refine ro_cons (by first | exact .inl (by assumption) | exact ro_f0 (fun _ h => h) | exact ro_f0 (fun _ => slc_rsl) | exact ro_f1 (fun _ h => h) | exact ro_f1 (fun _ => slc_rsl) | exact ro_f2 (fun _ h => h) | exact ro_f2 (fun _ => slc_rsl) | exact ro_f3 (fun _ h => h) | exact ro_f3 (fun _ => slc_rsl) | exact ro_f4 (fun _ h => h) | exact ro_f4 (fun _ => slc_rsl) | exact ro_f5 (fun _ h => h) | exact ro_f5 (fun _ => slc_rsl) | exact ro_f6 (fun _ h => h) | exact ro_f6 (fun _ => slc_rsl)) ?_))) (fun _ _ => rfl) (fun _ _ _ h => h.sub (by (repeat (first | exact pt_nil | apply pt0 | apply pt1 | apply pt2 | apply pt3 | apply pt4 | apply pt5 | apply pt6 | apply pt7 | apply pt8 | apply pt9 | apply pt10 | apply pt11 | apply pt12 | apply pt13 | apply pt14 | apply pt15 | apply pt16 | apply pt17))))) ?_
      refine wt_yg rfl rfl rfl (y_not rfl) ?_
      refine wt_y rfl (y_pick_f rfl rfl) ?_
      refine wt_nil ?_
      refine wq_then ?_
      refine wc_known 68 false rfl (rfl) ?_
      refine wc_cond_false rfl ?_
      refine wc_skip ?_
      refine wq_block_normal ?_
      refine wq_then ?_
      refine wc_region ?_
      refine wl_y rfl (y_move rfl) ?_
      refine wl_y rfl (y_add rfl rfl (by omega)) ?_
      refine wl_y rfl (y_assign rfl) ?_
      refine wl_nil ?_
      exact wq_round (i + 1) (by omega) (by omega) ⟨rfl, rfl, rfl, trivial⟩ (fun w hw => hw.bare)
    ·
      simp at hc14
      refine wc_exit ?_
      refine wq_then_exit (wq_then_exit (wq_block_exit ?_))
      refine wq_then ?_
      refine wc_seq ?_
      refine wc_region ?_
      refine wl_y rfl (y_assign rfl) ?_
      refine wl_nil ?_
      refine wq_then ?_
      refine wc_ret ?_
      refine wq_ret1 rfl rfl (fun w hw => ?_)
      exact ⟨(), trivial, rfl, hw.bare⟩

set_option maxHeartbeats 1000000 in
theorem same8_c (a b : ResV) (h : a.er = b.er) (hl : fits1 a.files.xs.length) :
    Ctr Tryz.prog 34 #[.agg (encR a).toArray, .agg (encR b).toArray] [filesA a.files, filesA b.files] [] (fun _ : Unit => True) (fun _ => vB true) (fun _ => []) := by
  refine spec_start (n := 31) [(0, .agg (encR a).toArray), (1, .agg (encR b).toArray)] Tryz.func34 rfl rfl ⟨rfl, rfl, trivial⟩ rfl ?_
  intro w0 K hR
  have hA := hR (filesA a.files) (by simp)
  have hB2 := hR (filesA b.files) (by simp)
  have hxy := h
  have e1 : a.err = b.err := congrArg PR.err hxy
  have e2 : a.loc = b.loc := congrArg PR.loc hxy
  have e3 : a.text = b.text := congrArg PR.text hxy
  have e4 : a.files.xs = b.files.xs := congrArg PR.files hxy
  refine wc_seq ?_
  refine wc_region ?_
  refine wl_w (fun _ _ => want_none) rfl (yw_box rfl rfl) (wl_ex fun b2 _ => ?_)
  refine wl_w (fun _ _ => want_none) rfl (yw_box rfl rfl) (wl_ex fun b3 _ => ?_)
  refine wl_y rfl (y_assign rfl) ?_
  refine wl_nil ?_
  refine wq_then ?_
  refine wc_seq ?_
  refine wc_region ?_
  refine wl_y rfl (y_fieldAddr F27_0 rfl) ?_
  refine wl_y rfl (y_load NA25 rfl (by first | exact cell_blk [] rfl | exact cell_blk [_] rfl | exact cell_blk [_, _] rfl | exact cell_blk [_, _, _] rfl | exact cellR_blk (by assumption) rfl)) ?_
  refine wl_y rfl (y_fieldAddr F27_0 rfl) ?_
  refine wl_y rfl (y_load NA25 rfl (by first | exact cell_blk [] rfl | exact cell_blk [_] rfl | exact cell_blk [_, _] rfl | exact cell_blk [_, _, _] rfl | exact cellR_blk (by assumption) rfl)) ?_
  refine wl_y rfl (y_eqlI rfl rfl) ?_
  refine wl_y rfl (y_move rfl) ?_
  refine wl_known 10 true rfl (by rw [e1]; simp) ?_
  refine wl_yg rfl rfl rfl (y_fieldAddr F27_1 rfl) ?_
  refine wl_yg rfl rfl rfl (y_load NA9 rfl (by first | exact cell_blk [] rfl | exact cell_blk [_] rfl | exact cell_blk [_, _] rfl | exact cell_blk [_, _, _] rfl | exact cellR_blk (by assumption) rfl)) ?_
  refine wl_yg rfl rfl rfl (y_fieldAddr F27_1 rfl) ?_
  refine wl_yg rfl rfl rfl (y_load NA9 rfl (by first | exact cell_blk [] rfl | exact cell_blk [_] rfl | exact cell_blk [_, _] rfl | exact cell_blk [_, _, _] rfl | exact cellR_blk (by assumption) rfl)) ?_
  refine wl_yg rfl rfl rfl (y_eqlS rfl rfl) ?_
  refine wl_y rfl (y_pick_t rfl rfl) ?_
  refine wl_y rfl (y_move rfl) ?_
  refine wl_known 17 true rfl (by rw [e2]; simp) ?_
  refine wl_yg rfl rfl rfl (y_fieldAddr F27_2 rfl) ?_
  refine wl_yg rfl rfl rfl (y_load NA9 rfl (by first | exact cell_blk [] rfl | exact cell_blk [_] rfl | exact cell_blk [_, _] rfl | exact cell_blk [_, _, _] rfl | exact cellR_blk (by assumption) rfl)) ?_
  refine wl_yg rfl rfl rfl (y_fieldAddr F27_2 rfl) ?_
  refine wl_yg rfl rfl rfl (y_load NA9 rfl (by first | exact cell_blk [] rfl | exact cell_blk [_] rfl | exact cell_blk [_, _] rfl | exact cell_blk [_, _, _] rfl | exact cellR_blk (by assumption) rfl)) ?_
  refine wl_yg rfl rfl rfl (y_eqlS rfl rfl) ?_
  refine wl_y rfl (y_pick_t rfl rfl) ?_
  refine wl_y rfl (y_move rfl) ?_
  refine wl_known 24 true rfl (by rw [e3]; simp) ?_
  refine wl_yg rfl rfl rfl (y_fieldAddr F27_3 rfl) ?_
  refine wl_yg rfl rfl rfl (y_load NA24 rfl (by first | exact cell_blk [] rfl | exact cell_blk [_] rfl | exact cell_blk [_, _] rfl | exact cell_blk [_, _, _] rfl | exact cellR_blk (by assumption) rfl)) ?_
  refine wl_yg rfl rfl rfl (y_fieldAddr F27_3 rfl) ?_
  refine wl_yg rfl rfl rfl (y_load NA24 rfl (by first | exact cell_blk [] rfl | exact cell_blk [_] rfl | exact cell_blk [_, _] rfl | exact cell_blk [_, _, _] rfl | exact cellR_blk (by assumption) rfl)) ?_
  refine wl_q (want_some rfl rfl) rfl (yq_spec (fst := []) (cap := []) _ FN33 (same_c a.files b.files hl) rfl rfl rfl (by (repeat (first | exact pt_nil | apply pt0 | apply pt1 | apply pt2 | apply pt3 | apply pt4 | apply pt5 | apply pt6 | apply pt7 | apply pt8 | apply pt9 | apply pt10 | apply pt11 | apply pt12 | apply pt13 | apply pt14 | apply pt15 | apply pt16 | apply pt17))) (by (repeat (first | exact ro_nil | exact ro_rest (by assumption) | refine ro_cons (by first | exact .inl (by assumption) | exact ro_f0 (fun _ h => h) | exact ro_f0 (fun _ => slc_rsl) | exact ro_f1 (fun _ h => h) | exact ro_f1 (fun _ => slc_rsl) | exact ro_f2 (fun _ h => h) | exact ro_f2 (fun _ => slc_rsl) | exact ro_f3 (fun _ h => h) | exact ro_f3 (fun _ => slc_rsl) | exact ro_f4 (fun _ h => h) | exact ro_f4 (fun _ => slc_rsl) | exact ro_f5 (fun _ h => h) | exact ro_f5 (fun _ => slc_rsl) | exact ro_f6 (fun _ h => h) | exact ro_f6 (fun _ => slc_rsl)) ?_))) (fun _ _ => rfl) (fun _ _ _ h => h.sub (by (repeat (first | exact pt_nil | apply pt0 | apply pt1 | apply pt2 | apply pt3 | apply pt4 | apply pt5 | apply pt6 | apply pt7 | apply pt8 | apply pt9 | apply pt10 | apply pt11 | apply pt12 | apply pt13 | apply pt14 | apply pt15 | apply pt16 | apply pt17))))) ?_
  refine wl_y rfl (y_pick_t rfl rfl) ?_
  refine wl_y rfl (y_assign rfl) ?_
  refine wl_nil ?_
  refine wq_then ?_
  refine wc_ret ?_
  refine wq_ret1 rfl rfl (fun w hw => ?_)
  exact ⟨(), trivial, by rw [e4]; simp, hw.bare⟩

set_option maxHeartbeats 1000000 in
theorem same15_c (a b : Sl OpV) (h : opsE a = opsE b) (hl : fits1 (opsE a).length) (hs : ∀ x ∈ opsE a, x.fits) :
    Ctr Tryz.prog 10 #[vSl a, vSl b] [opsA a, opsA b] [] (fun _ : Unit => True) (fun _ => vB true) (fun _ => []) := by
  refine spec_start (n := 70) [(0, vSl a), (1, vSl b)] Tryz.func10 rfl rfl ⟨rfl, rfl, trivial⟩ rfl ?_
  intro w0 K hR
  obtain ⟨hA, hT⟩ := ops_ro (hR (opsA a) (by simp))
  obtain ⟨hB2, hU⟩ := ops_ro (hR (opsA b) (by simp))
  unfold fits1 at hl
  have hll : (opsE a).length = a.xs.length := List.length_map _
  have hln : a.xs.length = b.xs.length := by have := congrArg List.length h; simpa [opsE] using this
  refine wc_seq ?_
  refine wc_region ?_
  refine wl_y rfl (y_assign rfl) ?_
  refine wl_nil ?_
  refine wq_then ?_
  refine wc_seq ?_
  refine wc_seq ?_
  refine wc_region ?_
  refine wl_y rfl (y_move rfl) ?_
  refine wl_y rfl (y_lenSl Tryz.underlying34 rfl) ?_
  refine wl_y rfl (y_move rfl) ?_
  refine wl_y rfl (y_lenSl Tryz.underlying34 rfl) ?_
  refine wl_y rfl (y_neqI rfl rfl) ?_
  refine wl_nil ?_
  refine wq_then ?_
  refine wc_known 12 false rfl (by rw [hln]; simp) ?_
  refine wc_cond_false rfl ?_
  refine wc_skip ?_
  refine wq_then ?_
  refine wc_seq ?_
  refine wc_seq ?_
  refine wc_region ?_
  refine wl_y rfl (y_assign rfl) ?_
  refine wl_nil ?_
  refine wq_then ?_
  refine wc_block ?_
  refine wc_loop (α := Nat) (fun y => y ≤ a.xs.length) [(0, _), (1, _)] (fun y => [(5, vI y)]) (fun y => Hp w0 K []) (fun y => a.xs.length - y) 0 ?_ ⟨rfl, rfl, rfl, trivial⟩ ?_ ?_
  · exact Nat.zero_le _
  · exact fun w hw => hw
  · intro i hi
    refine wc_seq ?_
    refine wc_seq ?_
    refine wc_region ?_
    refine wl_y rfl (y_move rfl) ?_
    refine wl_y rfl (y_move rfl) ?_
    refine wl_y rfl (y_lenSl Tryz.underlying34 rfl) ?_
    refine wl_y rfl (y_lss rfl rfl) ?_
    refine wl_nil ?_
    refine wq_then ?_
    refine wc_cond rfl (fun hc16 => ?_) (fun hc16 => ?_)
    ·
      simp at hc16
      refine wc_skip ?_
      refine wq_then ?_
      refine wc_seq ?_
      refine wc_block ?_
      refine wc_seq ?_
      refine wc_region ?_
      obtain ⟨x, hx⟩ : ∃ x, a.xs[i]? = some x := ⟨_, List.getElem?_eq_getElem (by omega)⟩
      have hlen : a.xs.length = b.xs.length := hln
      obtain ⟨y, hy⟩ : ∃ x, b.xs[i]? = some x := ⟨_, List.getElem?_eq_getElem (by omega)⟩
      have hxy : x.er = y.er := get_same' h hx hy
      have e1 : x.name = y.name := congrArg PO.name hxy
      have e2 : x.goal = y.goal := congrArg PO.goal hxy
      have e3 : x.state = y.state := congrArg PO.state hxy
      have e4 : grE x.graph = grE y.graph := congrArg PO.graph hxy
      have e5 : x.snap.xs = y.snap.xs := congrArg PO.snap hxy
      have e6 : x.res.er = y.res.er := congrArg PO.res hxy
      obtain ⟨⟨f1, f2⟩, f3, f4⟩ := hs x.er (List.mem_map.2 ⟨x, List.mem_of_getElem? hx, rfl⟩)
      obtain ⟨g1, g2, g3⟩ := op_ro (hT x (List.mem_of_getElem? hx))
      obtain ⟨g4, g5, g6⟩ := op_ro (hU y (List.mem_of_getElem? hy))
      refine wl_y rfl (y_move rfl) ?_
      refine wl_y rfl (y_move rfl) ?_
      refine wl_y rfl (y_indexAddr Tryz.underlying34 T29 rfl rfl rfl (by omega) (by first | assumption | exact fun _ _ => rfl | exact fun _ _ => hA.isSome (by omega) | exact fun _ _ => hB2.isSome (by omega) | exact fun w hw => hw.slc_isSome [] (by omega) | exact fun w hw => hw.slc_isSome [_] (by omega) | exact fun w hw => hw.slc_isSome [_, _] (by omega) | exact fun w hw => hw.slc_isSome [_, _, _] (by omega) | exact fun w hw => hw.slc_isSome [_, _, _, _] (by omega) | exact fun w hw => hw.slc_isSome [_, _, _, _, _] (by omega))) ?_
      refine wl_y rfl (y_loadAgg (l := encOp x) AG29 rfl rfl (by first | exact agg_ro hA (fun i u h => rows_get encOp_len hx h) | exact agg_ro hB2 (fun i u h => rows_get encOp_len hx h) | exact agg_own [] (fun i u h => rows_get encOp_len hx h) | exact agg_own [_] (fun i u h => rows_get encOp_len hx h) | exact agg_own [_, _] (fun i u h => rows_get encOp_len hx h) | exact agg_own [_, _, _] (fun i u h => rows_get encOp_len hx h) | exact agg_own [_, _, _, _] (fun i u h => rows_get encOp_len hx h) | exact agg_own [_, _, _, _, _] (fun i u h => rows_get encOp_len hx h))) ?_
      refine wl_w (fun _ _ => want_none) rfl (yw_alloc T29 rfl) (wl_ex fun b6 _ => ?_)
      first | refine wl_u (yu_storeAgg [] (l' := [_, _, _, _, _, _, _, _, _]) T29 rfl rfl rfl (by simp [Value.oneCell']) rfl rfl) ?_ | refine wl_u (yu_storeAgg [_] (l' := [_, _, _, _, _, _, _, _, _]) T29 rfl rfl rfl (by simp [Value.oneCell']) rfl rfl) ?_ | refine wl_u (yu_storeAgg [_, _] (l' := [_, _, _, _, _, _, _, _, _]) T29 rfl rfl rfl (by simp [Value.oneCell']) rfl rfl) ?_ | refine wl_u (yu_storeAgg [_, _, _] (l' := [_, _, _, _, _, _, _, _, _]) T29 rfl rfl rfl (by simp [Value.oneCell']) rfl rfl) ?_ | refine wl_u (yu_storeAgg [_, _, _, _] (l' := [_, _, _, _, _, _, _, _, _]) T29 rfl rfl rfl (by simp [Value.oneCell']) rfl rfl) ?_ | refine wl_u (yu_storeAgg [_, _, _, _, _] (l' := [_, _, _, _, _, _, _, _, _]) T29 rfl rfl rfl (by simp [Value.oneCell']) rfl rfl) ?_
      refine wl_nil ?_
      refine wq_then ?_
      refine wc_seq ?_
      refine wc_region ?_
      refine wl_y rfl (y_move rfl) ?_
      refine wl_y rfl (y_move rfl) ?_
      refine wl_y rfl (y_indexAddr Tryz.underlying34 T29 rfl rfl rfl (by omega) (by first | assumption | exact fun _ _ => rfl | exact fun _ _ => hA.isSome (by omega) | exact fun _ _ => hB2.isSome (by omega) | exact fun w hw => hw.slc_isSome [] (by omega) | exact fun w hw => hw.slc_isSome [_] (by omega) | exact fun w hw => hw.slc_isSome [_, _] (by omega) | exact fun w hw => hw.slc_isSome [_, _, _] (by omega) | exact fun w hw => hw.slc_isSome [_, _, _, _] (by omega) | exact fun w hw => hw.slc_isSome [_, _, _, _, _] (by omega))) ?_
      refine wl_y rfl (y_loadAgg (l := encOp y) AG29 rfl rfl (by first | exact agg_ro hA (fun i u h => rows_get encOp_len hy h) | exact agg_ro hB2 (fun i u h => rows_get encOp_len hy h) | exact agg_own [] (fun i u h => rows_get encOp_len hy h) | exact agg_own [_] (fun i u h => rows_get encOp_len hy h) | exact agg_own [_, _] (fun i u h => rows_get encOp_len hy h) | exact agg_own [_, _, _] (fun i u h => rows_get encOp_len hy h) | exact agg_own [_, _, _, _] (fun i u h => rows_get encOp_len hy h) | exact agg_own [_, _, _, _, _] (fun i u h => rows_get encOp_len hy h))) ?_
      refine wl_w (fun _ _ => want_none) rfl (yw_alloc T29 rfl) (wl_ex fun b7 _ => ?_)
      first | refine wl_u (yu_storeAgg [] (l' := [_, _, _, _, _, _, _, _, _]) T29 rfl rfl rfl (by simp [Value.oneCell']) rfl rfl) ?_ | refine wl_u (yu_storeAgg [_] (l' := [_, _, _, _, _, _, _, _, _]) T29 rfl rfl rfl (by simp [Value.oneCell']) rfl rfl) ?_ | refine wl_u (yu_storeAgg [_, _] (l' := [_, _, _, _, _, _, _, _, _]) T29 rfl rfl rfl (by simp [Value.oneCell']) rfl rfl) ?_ | refine wl_u (yu_storeAgg [_, _, _] (l' := [_, _, _, _, _, _, _, _, _]) T29 rfl rfl rfl (by simp [Value.oneCell']) rfl rfl) ?_ | refine wl_u (yu_storeAgg [_, _, _, _] (l' := [_, _, _, _, _, _, _, _, _]) T29 rfl rfl rfl (by simp [Value.oneCell']) rfl rfl) ?_ | refine wl_u (yu_storeAgg [_, _, _, _, _] (l' := [_, _, _, _, _, _, _, _, _]) T29 rfl rfl rfl (by simp [Value.oneCell']) rfl rfl) ?_
      refine wl_nil ?_
      refine wq_then ?_
      refine wc_seq ?_
      refine wc_region ?_
      refine wl_y rfl (y_fieldAddr F29_0 rfl) ?_
      refine wl_y rfl (y_load NA9 rfl (by first | exact cell_blk [] rfl | exact cell_blk [_] rfl | exact cell_blk [_, _] rfl | exact cell_blk [_, _, _] rfl | exact cell_blk [_, _, _, _] rfl | exact cell_blk [_, _, _, _, _] rfl | exact cellR_blk (by assumption) rfl)) ?_
      refine wl_y rfl (y_fieldAddr F29_0 rfl) ?_
      refine wl_y rfl (y_load NA9 rfl (by first | exact cell_blk [] rfl | exact cell_blk [_] rfl | exact cell_blk [_, _] rfl | exact cell_blk [_, _, _] rfl | exact cell_blk [_, _, _, _] rfl | exact cell_blk [_, _, _, _, _] rfl | exact cellR_blk (by assumption) rfl)) ?_
      refine wl_y rfl (y_neqS rfl rfl) ?_
      refine wl_y rfl (y_move rfl) ?_
      refine wl_known 32 false rfl (by rw [e1]; simp) ?_
      refine wl_yg rfl rfl rfl (y_fieldAddr F29_3 rfl) ?_
      refine wl_yg rfl rfl rfl (y_load NA9 rfl (by first | exact cell_blk [] rfl | exact cell_blk [_] rfl | exact cell_blk [_, _] rfl | exact cell_blk [_, _, _] rfl | exact cell_blk [_, _, _, _] rfl | exact cell_blk [_, _, _, _, _] rfl | exact cellR_blk (by assumption) rfl)) ?_
      refine wl_yg rfl rfl rfl (y_fieldAddr F29_3 rfl) ?_
      refine wl_yg rfl rfl rfl (y_load NA9 rfl (by first | exact cell_blk [] rfl | exact cell_blk [_] rfl | exact cell_blk [_, _] rfl | exact cell_blk [_, _, _] rfl | exact cell_blk [_, _, _, _] rfl | exact cell_blk [_, _, _, _, _] rfl | exact cellR_blk (by assumption) rfl)) ?_
      refine wl_yg rfl rfl rfl (y_neqS rfl rfl) ?_
      refine wl_y rfl (y_pick_f rfl rfl) ?_
      refine wl_y rfl (y_move rfl) ?_
      refine wl_known 39 false rfl (by rw [e2]; simp) ?_
      refine wl_yg rfl rfl rfl (y_fieldAddr F29_4 rfl) ?_
      refine wl_yg rfl rfl rfl (y_load NA3 rfl (by first | exact cell_blk [] rfl | exact cell_blk [_] rfl | exact cell_blk [_, _] rfl | exact cell_blk [_, _, _] rfl | exact cell_blk [_, _, _, _] rfl | exact cell_blk [_, _, _, _, _] rfl | exact cellR_blk (by assumption) rfl)) ?_
      refine wl_yg rfl rfl rfl (y_fieldAddr F29_4 rfl) ?_
      refine wl_yg rfl rfl rfl (y_load NA3 rfl (by first | exact cell_blk [] rfl | exact cell_blk [_] rfl | exact cell_blk [_, _] rfl | exact cell_blk [_, _, _] rfl | exact cell_blk [_, _, _, _] rfl | exact cell_blk [_, _, _, _, _] rfl | exact cellR_blk (by assumption) rfl)) ?_
      refine wl_yg rfl rfl rfl (y_neqI rfl rfl) ?_
      refine wl_y rfl (y_pick_f rfl rfl) ?_
      refine wl_y rfl (y_move rfl) ?_
      refine wl_known 46 false rfl (by rw [e3]; simp) ?_
      refine wl_yg rfl rfl rfl (y_fieldAddr F29_1 rfl) ?_
      refine wl_yg rfl rfl rfl (y_load NA23 rfl (by first | exact cell_blk [] rfl | exact cell_blk [_] rfl | exact cell_blk [_, _] rfl | exact cell_blk [_, _, _] rfl | exact cell_blk [_, _, _, _] rfl | exact cell_blk [_, _, _, _, _] rfl | exact cellR_blk (by assumption) rfl)) ?_
      refine wl_yg rfl rfl rfl (y_fieldAddr F29_1 rfl) ?_
      refine wl_yg rfl rfl rfl (y_load NA23 rfl (by first | exact cell_blk [] rfl | exact cell_blk [_] rfl | exact cell_blk [_, _] rfl | exact cell_blk [_, _, _] rfl | exact cell_blk [_, _, _, _] rfl | exact cell_blk [_, _, _, _, _] rfl | exact cellR_blk (by assumption) rfl)) ?_
      refine wl_q (want_some rfl rfl) rfl (yq_spec (fst := []) (cap := []) _ FN32 (same9_c x.graph y.graph e4 f1 f2) rfl rfl rfl (by (repeat (first | exact pt_nil | apply pt0 | apply pt1 | apply pt2 | apply pt3 | apply pt4 | apply pt5 | apply pt6 | apply pt7 | apply pt8 | apply pt9 | apply pt10 | apply pt11 | apply pt12 | apply pt13 | apply pt14 | apply pt15 | apply pt16 | apply pt17))) (by (repeat (first | exact ro_nil | exact ro_rest (by assumption) | refine ro_cons (by first | exact .inl (by assumption) | exact ro_f0 (fun _ h => h) | exact ro_f0 (fun _ => slc_rsl) | exact ro_f1 (fun _ h => h) | exact ro_f1 (fun _ => slc_rsl) | exact ro_f2 (fun _ h => h) | exact ro_f2 (fun _ => slc_rsl) | exact ro_f3 (fun _ h => h) | exact ro_f3 (fun _ => slc_rsl) | exact ro_f4 (fun _ h => h) | exact ro_f4 (fun _ => slc_rsl) | exact ro_f5 (fun _ h => h) | exact ro_f5 (fun _ => slc_rsl) | exact ro_f6 (fun _ h => h) | exact ro_f6 (fun _ => slc_rsl)) ?_))) (fun _ _ => rfl) (fun _ _ _ h => h.sub (by (repeat (first | exact pt_nil | apply pt0 | apply pt1 | apply pt2 | apply pt3 | apply pt4 | apply pt5 | apply pt6 | apply pt7 | apply pt8 | apply pt9 | apply pt10 | apply pt11 | apply pt12 | apply pt13 | apply pt14 | apply pt15 | apply pt16 | apply pt17))))) ?_
      refine wl_yg rfl rfl rfl (y_not rfl) ?_
      refine wl_y rfl (y_pick_f rfl rfl) ?_
      refine wl_y rfl (y_move rfl) ?_
      refine wl_known 54 false rfl (rfl) ?_
      refine wl_yg rfl rfl rfl (y_fieldAddr F29_2 rfl) ?_
      refine wl_yg rfl rfl rfl (y_load NA24 rfl (by first | exact cell_blk [] rfl | exact cell_blk [_] rfl | exact cell_blk [_, _] rfl | exact cell_blk [_, _, _] rfl | exact cell_blk [_, _, _, _] rfl | exact cell_blk [_, _, _, _, _] rfl | exact cellR_blk (by assumption) rfl)) ?_
      refine wl_yg rfl rfl rfl (y_fieldAddr F29_2 rfl) ?_
      refine wl_yg rfl rfl rfl (y_load NA24 rfl (by first | exact cell_blk [] rfl | exact cell_blk [_] rfl | exact cell_blk [_, _] rfl | exact cell_blk [_, _, _] rfl | exact cell_blk [_, _, _, _] rfl | exact cell_blk [_, _, _, _, _] rfl | exact cellR_blk (by assumption) rfl)) ?_
      refine wl_q (want_some rfl rfl) rfl (yq_spec (fst := []) (cap := []) _ FN33 (same_c x.snap y.snap f3) rfl rfl rfl (by (repeat (first | exact pt_nil | apply pt0 | apply pt1 | apply pt2 | apply pt3 | apply pt4 | apply pt5 | apply pt6 | apply pt7 | apply pt8 | apply pt9 | apply pt10 | apply pt11 | apply pt12 | apply pt13 | apply pt14 | apply pt15 | apply pt16 | apply pt17))) (by (repeat (first | exact ro_nil | exact ro_rest (by assumption) | refine ro_cons (by first | exact .inl (by assumption) | exact ro_f0 (fun _ h => h) | exact ro_f0 (fun _ => slc_rsl) | exact ro_f1 (fun _ h => h) | exact ro_f1 (fun _ => slc_rsl) | exact ro_f2 (fun _ h => h) | exact ro_f2 (fun _ => slc_rsl) | exact ro_f3 (fun _ h => h) | exact ro_f3 (fun _ => slc_rsl) | exact ro_f4 (fun _ h => h) | exact ro_f4 (fun _ => slc_rsl) | exact ro_f5 (fun _ h => h) | exact ro_f5 (fun _ => slc_rsl) | exact ro_f6 (fun _ h => h) | exact ro_f6 (fun _ => slc_rsl)) ?_))) (fun _ _ => rfl) (fun _ _ _ h => h.sub (by (repeat (first | exact pt_nil | apply pt0 | apply pt1 | apply pt2 | apply pt3 | apply pt4 | apply pt5 | apply pt6 | apply pt7 | apply pt8 | apply pt9 | apply pt10 | apply pt11 | apply pt12 | apply pt13 | apply pt14 | apply pt15 | apply pt16 | apply pt17))))) ?_
      refine wl_yg rfl rfl rfl (y_not rfl) ?_
      refine wl_y rfl (y_pick_f rfl rfl) ?_
      refine wl_y rfl (y_move rfl) ?_
      refine wl_known 62 false rfl (by rw [e5]; simp) ?_
      refine wl_yg rfl rfl rfl (y_fieldAddr F29_5 rfl) ?_
      refine wl_yg rfl rfl rfl (y_loadAgg (l := [_, _, _, _]) AG27 rfl rfl (by first | exact cells_blk [] rfl | exact cells_blk [_] rfl | exact cells_blk [_, _] rfl | exact cells_blk [_, _, _] rfl | exact cells_blk [_, _, _, _] rfl | exact cells_blk [_, _, _, _, _] rfl | exact cellsR_blk (by assumption) rfl)) ?_
      refine wl_yg rfl rfl rfl (y_fieldAddr F29_5 rfl) ?_
      refine wl_yg rfl rfl rfl (y_loadAgg (l := [_, _, _, _]) AG27 rfl rfl (by first | exact cells_blk [] rfl | exact cells_blk [_] rfl | exact cells_blk [_, _] rfl | exact cells_blk [_, _, _] rfl | exact cells_blk [_, _, _, _] rfl | exact cells_blk [_, _, _, _, _] rfl | exact cellsR_blk (by assumption) rfl)) ?_
      refine wl_q (want_some rfl rfl) rfl (yq_spec (fst := []) (cap := []) _ FN34 (same8_c x.res y.res e6 f4) rfl rfl rfl (by (repeat (first | exact pt_nil | apply pt0 | apply pt1 | apply pt2 | apply pt3 | apply pt4 | apply pt5 | apply pt6 | apply pt7 | apply pt8 | apply pt9 | apply pt10 | apply pt11 | apply pt12 | apply pt13 | apply pt14 | apply pt15 | apply pt16 | apply pt17))) (by (repeat (first | exact ro_nil | exact ro_rest (by assumption) | refine ro_cons (by first | exact .inl (by assumption) | exact ro_f0 (fun _ h => h) | exact ro_f0 (fun _ => slc_rsl) | exact ro_f1 (fun _ h => h) | exact ro_f1 (fun _ => slc_rsl) | exact ro_f2 (fun _ h => h) | exact ro_f2 (fun _ => slc_rsl) | exact ro_f3 (fun _ h => h) | exact ro_f3 (fun _ => slc_rsl) | exact ro_f4 (fun _ h => h) | exact ro_f4 (fun _ => slc_rsl) | exact ro_f5 (fun _ h => h) | exact ro_f5 (fun _ => slc_rsl) | exact ro_f6 (fun _ h => h) | exact ro_f6 (fun _ => slc_rsl)) ?_))) (fun _ _ => rfl) (fun _ _ _ h => h.sub (by (repeat (first | exact pt_nil | apply pt0 | apply pt1 | apply pt2 | apply pt3 | apply pt4 | apply pt5 | apply pt6 | apply pt7 | apply pt8 | apply pt9 | apply pt10 | apply pt11 | apply pt12 | apply pt13 | apply pt14 | apply pt15 | apply pt16 | apply pt17))))) ?_
      refine wl_yg rfl rfl rfl (y_not rfl) ?_
      refine wl_y rfl (y_pick_f rfl rfl) ?_
      refine wl_nil ?_
      refine wq_then ?_
      refine wc_known 69 false rfl (rfl) ?_
      refine wc_cond_false rfl ?_
      refine wc_skip ?_
      refine wq_block_normal ?_
      refine wq_then ?_
      refine wc_region ?_
      refine wl_y rfl (y_move rfl) ?_
      refine wl_y rfl (y_add rfl rfl (by omega)) ?_
      refine wl_y rfl (y_assign rfl) ?_
      refine wl_nil ?_
      exact wq_round (i + 1) (by omega) (by omega) ⟨rfl, rfl, rfl, trivial⟩ (fun w hw => hw.bare)
    ·
      simp at hc16
      refine wc_exit ?_
      refine wq_then_exit (wq_then_exit (wq_block_exit ?_))
      refine wq_then ?_
      refine wc_seq ?_
      refine wc_region ?_
      refine wl_y rfl (y_assign rfl) ?_
      refine wl_nil ?_
      refine wq_then ?_
      refine wc_ret ?_
      refine wq_ret1 rfl rfl (fun w hw => ?_)
      exact ⟨(), trivial, rfl, hw.bare⟩

end Go.Proofs.YtbnahfjhlbibcaaGreatDoor
