/-
  What came in, read: files, targets, operations, tasks, reports.
-/
import Derived.Test.YtbnahfjhlbibcaaGreatDoorDoor
import Derived.Test.YtbnahfjhlbibcaaGreatDoorVal
namespace Go.Proofs.YtbnahfjhlbibcaaGreatDoor
open Go.Eng
abbrev oneS (s : Str) : List Value := [vS s]
theorem rs_nil {W : World} : ∀ A ∈ ([] : List Atom), Ro W (fun _ => False) A := fun _ h => by cases h
theorem rs_cons {W : World} {A : Atom} {r : List Atom} (h : Ro W (fun _ => False) A) (hr : ∀ B ∈ r, Ro W (fun _ => False) B) : ∀ B ∈ A :: r, Ro W (fun _ => False) B := fun B hB => by
  rcases List.mem_cons.1 hB with rfl | hB
  · exact h
  · exact hr B hB
theorem rdF {W : World} : Rdr Tryz.prog W 108 encF (fun _ => True) := (rd_struct Tryz.underlying108 (by kernel_rfl) (rdf_cons (sz := 1) rfl (by kernel_rfl) (rd_str Tryz.underlying9) (rdf_cons (sz := 1) rfl (by kernel_rfl) (rd_str Tryz.underlying9) rdf_nil))).map (fun x => ((x.1, x.2.1) : PF)) (fun _ => rfl) (fun _ _ => trivial)
theorem rdFs {W : World} : Rdr Tryz.prog W 24 encSl (goodSl W 2 encF (fun _ => True)) := rd_slice Tryz.underlying24 (by kernel_rfl) (by decide) encF_len rdF
theorem rdSs {W : World} : Rdr Tryz.prog W 39 encSl (goodSl W 1 oneS (fun l => l.length ≤ maxLen)) := rd_slice Tryz.underlying39 (by kernel_rfl) (by decide) (fun _ => rfl) (rd_str Tryz.underlying9)
theorem files_rd {W : World} {s : Sl PF} (h : goodSl W 2 encF (fun _ => True) s) : Ro W (fun _ => False) (filesA s) := h.1.ro
theorem strs_rd {W : World} {s : Sl Str} (h : goodSl W 1 oneS (fun l => l.length ≤ maxLen) s) : Ro W (fun _ => False) (strsA s) := by
  unfold strsA
  rw [List.map_eq_flatMap]
  exact h.1.ro
def goodT (W : World) (t : TgV) : Prop := goodSl W 1 oneS (fun l => l.length ≤ maxLen) t.deps ∧ goodSl W 1 oneS (fun l => l.length ≤ maxLen) t.srcs
theorem rdT {W : World} : Rdr Tryz.prog W 105 encTg (goodT W) := (rd_struct Tryz.underlying105 (by kernel_rfl) (rdf_cons (sz := 1) rfl (by kernel_rfl) (rd_str Tryz.underlying9) (rdf_cons (sz := 1) rfl (by kernel_rfl) (rd_str Tryz.underlying9) (rdf_cons (sz := 1) rfl (by kernel_rfl) rdSs (rdf_cons (sz := 1) rfl (by kernel_rfl) rdSs rdf_nil))))).map (fun x => (⟨x.1, x.2.1, x.2.2.1, x.2.2.2.1⟩ : TgV)) (fun _ => rfl) (fun _ h => ⟨h.2.2.1, h.2.2.2.1⟩)
theorem rdTs {W : World} : Rdr Tryz.prog W 23 encSl (goodSl W 4 encTg (goodT W)) := rd_slice Tryz.underlying23 (by kernel_rfl) (by decide) encTg_len rdT
theorem graph_rd {W : World} {s : Sl TgV} (h : goodSl W 4 encTg (goodT W) s) : Ro W (fun _ => False) (graphA s) := all_ro (As := [_, _]) (rs_cons h.1.ro (rs_cons (all_ro fun A hA => by
  obtain ⟨t, ht, hA⟩ := List.mem_flatMap.1 hA
  have hg := h.2.1 t ht
  simp only [List.mem_cons, List.not_mem_nil, or_false] at hA
  rcases hA with rfl | rfl
  · exact strs_rd hg.1
  · exact strs_rd hg.2) rs_nil))
def goodO (W : World) (x : OpV) : Prop := x.er.inr ∧ goodSl W 4 encTg (goodT W) x.graph ∧ goodSl W 2 encF (fun _ => True) x.snap ∧ goodSl W 2 encF (fun _ => True) x.res.files
theorem rdR {W : World} : Rdr Tryz.prog W 27 encR (fun r => fits64 r.err ∧ goodSl W 2 encF (fun _ => True) r.files) := (rd_struct Tryz.underlying27 (by kernel_rfl) (rdf_cons (sz := 1) rfl (by kernel_rfl) (rd_int Tryz.underlying25) (rdf_cons (sz := 1) rfl (by kernel_rfl) (rd_str Tryz.underlying9) (rdf_cons (sz := 1) rfl (by kernel_rfl) (rd_str Tryz.underlying9) (rdf_cons (sz := 1) rfl (by kernel_rfl) rdFs rdf_nil))))).map (fun x => (⟨x.1, x.2.1, x.2.2.1, x.2.2.2.1⟩ : ResV)) (fun _ => rfl) (fun _ h => ⟨h.1, h.2.2.2.1⟩)
theorem rdO {W : World} : Rdr Tryz.prog W 29 encOp (goodO W) := (rd_struct Tryz.underlying29 (by kernel_rfl) (rdf_cons (sz := 1) rfl (by kernel_rfl) (rd_str Tryz.underlying9) (rdf_cons (sz := 1) rfl (by kernel_rfl) rdTs (rdf_cons (sz := 1) rfl (by kernel_rfl) rdFs (rdf_cons (sz := 1) rfl (by kernel_rfl) (rd_str Tryz.underlying9) (rdf_cons (sz := 1) rfl (by kernel_rfl) (rd_int Tryz.underlying3) (rdf_cons (sz := 4) rfl (by kernel_rfl) rdR rdf_nil))))))).map (fun x => (⟨x.1, x.2.1, x.2.2.1, x.2.2.2.1, x.2.2.2.2.1, x.2.2.2.2.2.1⟩ : OpV)) (fun _ => rfl) (fun _ h => ⟨⟨h.2.2.2.2.1, h.2.2.2.2.2.1.1⟩, h.2.1, h.2.2.1, h.2.2.2.2.2.1.2⟩)
theorem rdOs {W : World} : Rdr Tryz.prog W 34 encSl (goodSl W 9 encOp (goodO W)) := rd_slice Tryz.underlying34 (by kernel_rfl) (by decide) encOp_len rdO
theorem op_rd {W : World} {x : OpV} (h : goodO W x) : Ro W (fun _ => False) (opA x) := all_ro (As := [_, _, _]) (rs_cons (graph_rd h.2.1) (rs_cons (files_rd h.2.2.1) (rs_cons (files_rd h.2.2.2) rs_nil)))
theorem ops_rd {W : World} {s : Sl OpV} {ro : Ro W (fun _ => False) (rsl s.a s.xs.length 9 (s.xs.flatMap encOp))} (h : ∀ x ∈ s.xs, goodO W x) : Ro W (fun _ => False) (opsA s) := all_ro (As := [_, _]) (rs_cons ro (rs_cons (all_ro fun A hA => by
  obtain ⟨x, hx, rfl⟩ := List.mem_map.1 hA
  exact op_rd (h x hx)) rs_nil))
theorem rdE {W : World} : Rdr Tryz.prog W 31 (fun x : Int × OpV => encEv x.1 x.2) (fun x => inR x.1 ∧ goodO W x.2) := (rd_struct Tryz.underlying31 (by kernel_rfl) (rdf_cons (sz := 1) rfl (by kernel_rfl) (rd_int Tryz.underlying3) (rdf_cons (sz := 9) rfl (by kernel_rfl) rdO rdf_nil))).map (fun x => ((x.1, x.2.1) : Int × OpV)) (fun _ => rfl) (fun _ h => ⟨h.1, h.2.1⟩)
theorem rdK {W : World} : Rdr Tryz.prog W 41 encK (fun t => t.er.inr ∧ goodSl W 2 encF (fun _ => True) t.files ∧ goodSl W 1 oneS (fun l => l.length ≤ maxLen) t.names) := (rd_struct Tryz.underlying41 (by kernel_rfl) (rdf_cons (sz := 1) rfl (by kernel_rfl) (rd_str Tryz.underlying9) (rdf_cons (sz := 1) rfl (by kernel_rfl) (rd_int Tryz.underlying3) (rdf_cons (sz := 1) rfl (by kernel_rfl) (rd_str Tryz.underlying9) (rdf_cons (sz := 1) rfl (by kernel_rfl) rdFs (rdf_cons (sz := 1) rfl (by kernel_rfl) rdSs (rdf_cons (sz := 1) rfl (by kernel_rfl) (rd_int Tryz.underlying3) rdf_nil))))))).map (fun x => (⟨x.1, x.2.1, x.2.2.1, x.2.2.2.1, x.2.2.2.2.1, x.2.2.2.2.2.1⟩ : TaskV)) (fun _ => rfl) (fun _ h => ⟨⟨h.2.1, h.2.2.2.2.2.1⟩, h.2.2.2.1, h.2.2.2.2.1⟩)
theorem task_rd {W : World} {t : TaskV} (h : goodSl W 2 encF (fun _ => True) t.files ∧ goodSl W 1 oneS (fun l => l.length ≤ maxLen) t.names) : Ro W (fun _ => False) (taskA t) := all_ro (As := [_, _]) (rs_cons (files_rd h.1) (rs_cons (strs_rd h.2) rs_nil))
theorem rdU {W : World} : Rdr Tryz.prog W 45 encU (fun o => (fits64 o.kind ∧ fits64 o.err ∧ fits64 o.used) ∧ goodSl W 2 encF (fun _ => True) o.files) := (rd_struct Tryz.underlying45 (by kernel_rfl) (rdf_cons (sz := 1) rfl (by kernel_rfl) (rd_int Tryz.underlying3) (rdf_cons (sz := 1) rfl (by kernel_rfl) rdFs (rdf_cons (sz := 1) rfl (by kernel_rfl) (rd_str Tryz.underlying9) (rdf_cons (sz := 1) rfl (by kernel_rfl) (rd_int Tryz.underlying25) (rdf_cons (sz := 1) rfl (by kernel_rfl) (rd_str Tryz.underlying9) (rdf_cons (sz := 1) rfl (by kernel_rfl) (rd_int Tryz.underlying3) rdf_nil))))))).map (fun x => (⟨x.1, x.2.1, x.2.2.1, x.2.2.2.1, x.2.2.2.2.1, x.2.2.2.2.2.1⟩ : OutV)) (fun _ => rfl) (fun _ h => ⟨⟨h.1, h.2.2.2.1, h.2.2.2.2.2.1⟩, h.2.1⟩)
theorem rdP {W : World} : Rdr Tryz.prog W 47 encP (fun r => r.er.inr ∧ goodSl W 2 encF (fun _ => True) r.out.files) := (rd_struct Tryz.underlying47 (by kernel_rfl) (rdf_cons (sz := 1) rfl (by kernel_rfl) (rd_str Tryz.underlying9) (rdf_cons (sz := 1) rfl (by kernel_rfl) (rd_int Tryz.underlying3) (rdf_cons (sz := 6) rfl (by kernel_rfl) rdU rdf_nil)))).map (fun x => (⟨x.1, x.2.1, x.2.2.1⟩ : RepV)) (fun _ => rfl) (fun _ h => ⟨⟨h.2.1, h.2.2.1.1.1, h.2.2.1.1.2.1, h.2.2.1.1.2.2⟩, h.2.2.1.2⟩)
end Go.Proofs.YtbnahfjhlbibcaaGreatDoor
