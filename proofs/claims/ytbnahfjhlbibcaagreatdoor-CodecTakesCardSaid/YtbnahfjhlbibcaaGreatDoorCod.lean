/-
  What the layer writes, and reads: plain.
-/
import Derived.Test.YtbnahfjhlbibcaaGreatDoorWalkJ
import Derived.Test.YtbnahfjhlbibcaaGreatDoorEngLift
import Derived.Test.YtbnahfjhlbibcaaGreatDoorWalkE
namespace Go.Proofs.YtbnahfjhlbibcaaGreatDoor
open Go.Eng

open Go.Lib
/-! ### What is written -/
abbrev PF := Str × Str
structure PT where
  name : Str
  cmd : Str
  deps : List Str
  srcs : List Str
deriving DecidableEq
structure PR where
  err : Int
  loc : Str
  text : Str
  files : List PF
deriving DecidableEq
structure PO where
  name : Str
  graph : List PT
  snap : List PF
  goal : Str
  state : Int
  res : PR
deriving DecidableEq
structure PK where
  key : Str
  epoch : Int
  cmd : Str
  files : List PF
  names : List Str
  fuel : Int
deriving DecidableEq
structure PU where
  kind : Int
  files : List PF
  need : Str
  err : Int
  text : Str
  used : Int
deriving DecidableEq
structure PP where
  key : Str
  epoch : Int
  out : PU
deriving DecidableEq
def fileL (f : PF) : List Str := [f.1, f.2]
def filesT (l : List PF) : Str := textF (flatF (l.map fun f => flatF (fileL f)))
def PT.L (t : PT) : List Str := [t.name, t.cmd, flatF t.deps, flatF t.srcs]
def graphT (l : List PT) : Str := textF (flatF (l.map fun t => flatF t.L))
def PR.L (r : PR) : List Str := [itoa r.err, r.loc, r.text, filesT r.files]
def PO.L (x : PO) : List Str := [x.name, graphT x.graph, filesT x.snap, x.goal, itoa x.state] ++ x.res.L
def evL (k : Int) (x : PO) : List Str := itoa k :: x.L
def PK.L (t : PK) : List Str := [t.key, itoa t.epoch, t.cmd, filesT t.files, flatF t.names, itoa t.fuel]
def PU.L (o : PU) : List Str := [itoa o.kind, filesT o.files, o.need, itoa o.err, o.text, itoa o.used]
def PP.L (r : PP) : List Str := [r.key, itoa r.epoch] ++ r.out.L
def tableT (l : List PO) : Str := textF (flatF (l.map fun x => flatF x.L))
theorem flat_cons (x : Str) (l : List Str) : flatF (x :: l) = textF x ++ flatF l := by simp [flatF]
theorem flat_nil : flatF [] = [] := rfl
theorem flat_app (l m : List Str) : flatF (l ++ m) = flatF l ++ flatF m := by simp [flatF]
theorem len_text (x : Str) : x.length ≤ (textF x).length := by simp [textF]; omega
theorem len_flat {x : Str} : ∀ {l : List Str}, x ∈ l → x.length + 3 ≤ (flatF l).length + 3 ∧ x.length ≤ (flatF l).length
  | y :: l, h => by
    rw [flat_cons, List.length_append]
    rcases List.mem_cons.1 h with rfl | h
    · have := len_text x; omega
    · have := (len_flat h).2; omega
theorem num_flat : ∀ l : List Str, 3 * l.length ≤ (flatF l).length
  | [] => by simp
  | y :: l => by
    rw [flat_cons, List.length_append, List.length_cons]
    have := num_flat l
    have := textF_len y
    omega
/-! ### What is read -/
def rdL (s : Str) : List Str × Int := if (Rdr'.mk s 0).list.1.fin ≠ 0 then ([], (Rdr'.mk s 0).list.1.fin) else ((Rdr'.mk s 0).list.2, 0)
def rdAll {α : Type} (f : Rdr' → Rdr' × α) : List Str → Option (List α)
  | [] => some []
  | s :: l => if (f ⟨s, 0⟩).1.fin ≠ 0 then none else (rdAll f l).map ((f ⟨s, 0⟩).2 :: ·)
def rdThings {α : Type} (f : Rdr' → Rdr' × α) (s : Str) : List α × Int :=
  if (rdL s).2 ≠ 0 then ([], (rdL s).2) else match rdAll f (rdL s).1 with
    | some l => (l, 0)
    | none => ([], 11)
def tkFile (r : Rdr') : Rdr' × PF := (r.text.1.text.1, (r.text.2, r.text.1.text.2))
def tkTg (r : Rdr') : Rdr' × PT := (r.text.1.text.1.list.1.list.1, ⟨r.text.2, r.text.1.text.2, r.text.1.text.1.list.2, r.text.1.text.1.list.1.list.2⟩)
def rdFiles (s : Str) : List PF × Int := rdThings tkFile s
def rdGraph (s : Str) : List PT × Int := rdThings tkTg s
structure Scn where
  r : Rdr'
  odd : Bool
def Scn.text (s : Scn) : Scn × Str := (⟨s.r.text.1, s.odd⟩, s.r.text.2)
def Scn.num (s : Scn) : Scn × Int := (⟨s.r.num.1, s.odd⟩, s.r.num.2)
def Scn.list (s : Scn) : Scn × List Str := (⟨s.r.list.1, s.odd⟩, s.r.list.2)
def Scn.files (s : Scn) : Scn × List PF := (⟨s.r.text.1, s.odd || decide ((rdFiles s.r.text.2).2 ≠ 0)⟩, (rdFiles s.r.text.2).1)
def Scn.graph (s : Scn) : Scn × List PT := (⟨s.r.text.1, s.odd || decide ((rdGraph s.r.text.2).2 ≠ 0)⟩, (rdGraph s.r.text.2).1)
def Scn.res (s : Scn) : Scn × PR := (s.num.1.text.1.text.1.files.1, ⟨s.num.2, s.num.1.text.2, s.num.1.text.1.text.2, s.num.1.text.1.text.1.files.2⟩)
def Scn.op (s : Scn) : Scn × PO :=
  (s.text.1.graph.1.files.1.text.1.num.1.res.1, ⟨s.text.2, s.text.1.graph.2, s.text.1.graph.1.files.2, s.text.1.graph.1.files.1.text.2, s.text.1.graph.1.files.1.text.1.num.2, s.text.1.graph.1.files.1.text.1.num.1.res.2⟩)
def Scn.outc (s : Scn) : Scn × PU :=
  (s.num.1.files.1.text.1.num.1.text.1.num.1, ⟨s.num.2, s.num.1.files.2, s.num.1.files.1.text.2, s.num.1.files.1.text.1.num.2, s.num.1.files.1.text.1.num.1.text.2, s.num.1.files.1.text.1.num.1.text.1.num.2⟩)
def Scn.task (s : Scn) : Scn × PK :=
  (s.text.1.num.1.text.1.files.1.list.1.num.1, ⟨s.text.2, s.text.1.num.2, s.text.1.num.1.text.2, s.text.1.num.1.text.1.files.2, s.text.1.num.1.text.1.files.1.list.2, s.text.1.num.1.text.1.files.1.list.1.num.2⟩)
def Scn.rep (s : Scn) : Scn × PP := (s.text.1.num.1.outc.1, ⟨s.text.2, s.text.1.num.2, s.text.1.num.1.outc.2⟩)
def Scn.ev (s : Scn) : Scn × (Int × PO) := (s.num.1.op.1, (s.num.2, s.num.1.op.2))
def Scn.fin (s : Scn) : Int := if s.r.fin ≠ 0 then s.r.fin else if s.odd = true then 11 else 0
def take0 (s : Str) : Scn := ⟨⟨s, 0⟩, false⟩
/-- A thing, if nothing was wrong with its bytes. -/
def doneF {α : Type} (z : α) (x : Scn × α) : α × Int := if x.1.fin ≠ 0 then (z, x.1.fin) else (x.2, 0)
def PR.zero : PR := ⟨0, [], [], []⟩
def PO.zero : PO := ⟨[], [], [], [], 0, PR.zero⟩
def PK.zero : PK := ⟨[], 0, [], [], [], 0⟩
def PU.zero : PU := ⟨0, [], [], 0, [], 0⟩
def PP.zero : PP := ⟨[], 0, PU.zero⟩
def rdEv (s : Str) : (Int × PO) × Int := doneF (0, PO.zero) (take0 s).ev
def rdTask (s : Str) : PK × Int := doneF PK.zero (take0 s).task
def rdRep (s : Str) : PP × Int := doneF PP.zero (take0 s).rep
def rdOp (s : Str) : PO × Int := doneF PO.zero (take0 s).op
def rdOps : List Str → Option (List PO)
  | [] => some []
  | s :: l => if (rdOp s).2 ≠ 0 then none else (rdOps l).map ((rdOp s).1 :: ·)
def rdTable (s : Str) : List PO × Int :=
  if (rdL s).2 ≠ 0 then ([], (rdL s).2) else match rdOps (rdL s).1 with
    | some l => (l, 0)
    | none => ([], 11)
/-! ### What is written is read -/
theorem text_step {t : Str} (h : t.length < 10000000) (q : Str) : (Rdr'.mk (textF t ++ q) 0).text = (⟨q, 0⟩, t) := by
  rw [Rdr'.text, if_neg (fun h => h rfl), next_text h, if_neg (fun h => h rfl)]
theorem num_step {n : Int} (h : inR n) (q : Str) : (Rdr'.mk (textF (itoa n) ++ q) 0).num = (⟨q, 0⟩, n) := by
  have e := text_step (t := itoa n) (by have := (itoa_len h).2; omega) q
  have := num_of (r := ⟨textF (itoa n) ++ q, 0⟩) (n := n) (by rw [e]) (by rw [e]; exact numF_iff.2 ⟨h, rfl⟩)
  rw [this, e]
theorem list_step {l : List Str} (h : (flatF l).length < 10000000) (q : Str) : (Rdr'.mk (textF (flatF l) ++ q) 0).list = (⟨q, 0⟩, l) := by
  have e := text_step h q
  rw [Rdr'.list, e]
  have : textsF (flatF l) = some l := textsF_flat l fun t ht => by have := (len_flat ht).2; omega
  simp only [this]
theorem fin_nil : (Rdr'.mk [] 0).fin = 0 := by simp [Rdr'.fin]
theorem rdL_step {l : List Str} (h : (flatF l).length < 10000000) : rdL (textF (flatF l)) = (l, 0) := by
  have e := list_step h []
  rw [List.append_nil] at e
  rw [rdL, e, fin_nil, if_neg (fun h => h rfl)]
theorem rdAll_step {α : Type} {f : Rdr' → Rdr' × α} {g : α → Str} : ∀ {l : List α}, (∀ x ∈ l, f ⟨g x, 0⟩ = (⟨[], 0⟩, x)) → rdAll f (l.map g) = some l
  | [], _ => rfl
  | x :: l, h => by
    rw [List.map_cons, rdAll, h x (by simp), fin_nil, if_neg (fun h => h rfl), rdAll_step fun y hy => h y (by simp [hy])]; rfl
theorem rdThings_step {α : Type} {f : Rdr' → Rdr' × α} {g : α → Str} {l : List α} (h : (flatF (l.map g)).length < 10000000) (hf : ∀ x ∈ l, f ⟨g x, 0⟩ = (⟨[], 0⟩, x)) : rdThings f (textF (flatF (l.map g))) = (l, 0) := by
  rw [rdThings, rdL_step h]
  simp only [ne_eq, not_true_eq_false, if_false]
  rw [rdAll_step hf]
theorem rdFiles_step {l : List PF} (h : (filesT l).length < 10000000) : rdFiles (filesT l) = (l, 0) := by
  have h1 := len_text (flatF (l.map fun f => flatF (fileL f)))
  unfold filesT at h
  refine rdThings_step (by omega) fun f hf => ?_
  have h2 := (len_flat (List.mem_map.2 ⟨f, hf, rfl⟩ : flatF (fileL f) ∈ l.map fun f => flatF (fileL f))).2
  have h3 := (len_flat (show f.1 ∈ fileL f by simp [fileL])).2
  have h4 := (len_flat (show f.2 ∈ fileL f by simp [fileL])).2
  have e : flatF (fileL f) = textF f.1 ++ (textF f.2 ++ []) := by simp [fileL, flat_cons, flat_nil]
  rw [tkFile, e, text_step (by omega), text_step (by omega)]
theorem rdGraph_step {l : List PT} (h : (graphT l).length < 10000000) : rdGraph (graphT l) = (l, 0) := by
  have h1 := len_text (flatF (l.map fun t => flatF t.L))
  unfold graphT at h
  refine rdThings_step (by omega) fun f hf => ?_
  have h2 := (len_flat (List.mem_map.2 ⟨f, hf, rfl⟩ : flatF f.L ∈ l.map fun t => flatF t.L)).2
  have h3 := (len_flat (show f.name ∈ f.L by simp [PT.L])).2
  have h4 := (len_flat (show f.cmd ∈ f.L by simp [PT.L])).2
  have h5 := (len_flat (show flatF f.deps ∈ f.L by simp [PT.L])).2
  have h6 := (len_flat (show flatF f.srcs ∈ f.L by simp [PT.L])).2
  have e : flatF f.L = textF f.name ++ (textF f.cmd ++ (textF (flatF f.deps) ++ (textF (flatF f.srcs) ++ []))) := by simp [PT.L, flat_cons, flat_nil]
  rw [tkTg, e, text_step (by omega), text_step (by omega), list_step (by omega), list_step (by omega)]
section
variable {q : Str}
theorem s_text {t : Str} (h : t.length < 10000000) : (Scn.mk ⟨textF t ++ q, 0⟩ false).text = (⟨⟨q, 0⟩, false⟩, t) := by rw [Scn.text, text_step h]
theorem s_num {n : Int} (h : inR n) : (Scn.mk ⟨textF (itoa n) ++ q, 0⟩ false).num = (⟨⟨q, 0⟩, false⟩, n) := by rw [Scn.num, num_step h]
theorem s_list {l : List Str} (h : (flatF l).length < 10000000) : (Scn.mk ⟨textF (flatF l) ++ q, 0⟩ false).list = (⟨⟨q, 0⟩, false⟩, l) := by rw [Scn.list, list_step h]
theorem s_files {l : List PF} (h : (filesT l).length < 10000000) : (Scn.mk ⟨textF (filesT l) ++ q, 0⟩ false).files = (⟨⟨q, 0⟩, false⟩, l) := by rw [Scn.files, text_step h, rdFiles_step h]; rfl
theorem s_graph {l : List PT} (h : (graphT l).length < 10000000) : (Scn.mk ⟨textF (graphT l) ++ q, 0⟩ false).graph = (⟨⟨q, 0⟩, false⟩, l) := by rw [Scn.graph, text_step h, rdGraph_step h]; rfl
end
def PR.inr (r : PR) : Prop := inR r.err
def PO.inr (x : PO) : Prop := inR x.state ∧ inR x.res.err
def PK.inr (x : PK) : Prop := inR x.epoch ∧ inR x.fuel
def PP.inr (x : PP) : Prop := inR x.epoch ∧ inR x.out.kind ∧ inR x.out.err ∧ inR x.out.used
theorem rdTask_step {t : PK} (hi : t.inr) (h : (flatF t.L).length < 10000000) : rdTask (flatF t.L) = (t, 0) := by
  have m := fun (x : Str) (hx : x ∈ t.L) => (len_flat hx).2
  have e : flatF t.L = textF t.key ++ (textF (itoa t.epoch) ++ (textF t.cmd ++ (textF (filesT t.files) ++ (textF (flatF t.names) ++ (textF (itoa t.fuel) ++ []))))) := by simp [PK.L, flat_cons, flat_nil]
  have h1 := m t.key (by simp [PK.L])
  have h2 := m t.cmd (by simp [PK.L])
  have h3 := m (filesT t.files) (by simp [PK.L])
  have h4 := m (flatF t.names) (by simp [PK.L])
  rw [rdTask, take0, Scn.task, e, s_text (by omega), s_num hi.1, s_text (by omega), s_files (by omega), s_list (by omega), s_num hi.2, doneF, Scn.fin, fin_nil]
  rfl
theorem outc_step {o : PU} (h0 : inR o.kind) (h1 : inR o.err) (h2 : inR o.used) (h : (flatF o.L).length < 10000000) : (Scn.mk ⟨flatF o.L, 0⟩ false).outc = (⟨⟨[], 0⟩, false⟩, o) := by
  have m := fun (x : Str) (hx : x ∈ o.L) => (len_flat hx).2
  have e : flatF o.L = textF (itoa o.kind) ++ (textF (filesT o.files) ++ (textF o.need ++ (textF (itoa o.err) ++ (textF o.text ++ (textF (itoa o.used) ++ []))))) := by simp [PU.L, flat_cons, flat_nil]
  have h3 := m (filesT o.files) (by simp [PU.L])
  have h4 := m o.need (by simp [PU.L])
  have h5 := m o.text (by simp [PU.L])
  rw [Scn.outc, e, s_num h0, s_files (by omega), s_text (by omega), s_num h1, s_text (by omega), s_num h2]
theorem rdRep_step {t : PP} (hi : t.inr) (h : (flatF t.L).length < 10000000) : rdRep (flatF t.L) = (t, 0) := by
  have e : flatF t.L = textF t.key ++ (textF (itoa t.epoch) ++ flatF t.out.L) := by simp [PP.L, flat_cons]
  have h1 := (len_flat (show t.key ∈ t.L by simp [PP.L])).2
  have h2 : (flatF t.out.L).length ≤ (flatF t.L).length := by rw [e]; simp; omega
  rw [rdRep, take0, Scn.rep, e, s_text (by omega), s_num hi.1, outc_step hi.2.1 hi.2.2.1 hi.2.2.2 (by omega), doneF, Scn.fin, fin_nil]
  rfl
end Go.Proofs.YtbnahfjhlbibcaaGreatDoor
