/-
  Things with where they lie.
-/
import Derived.Test.YtbnahfjhlbibcaaGreatDoorCod
namespace Go.Proofs.YtbnahfjhlbibcaaGreatDoor
open Go.Eng

/-! ### What came in, and what was made: things with where they lie -/
abbrev vSl {α : Type} (s : Sl α) : Value := .slice s.a s.xs.length s.cap
abbrev encF (f : PF) : List Value := [vS f.1, vS f.2]
structure TgV where
  name : Str
  cmd : Str
  deps : Sl Str
  srcs : Sl Str
structure ResV where
  err : Int
  loc : Str
  text : Str
  files : Sl PF
structure OpV where
  name : Str
  graph : Sl TgV
  snap : Sl PF
  goal : Str
  state : Int
  res : ResV
structure TaskV where
  key : Str
  epoch : Int
  cmd : Str
  files : Sl PF
  names : Sl Str
  fuel : Int
structure OutV where
  kind : Int
  files : Sl PF
  need : Str
  err : Int
  text : Str
  used : Int
structure RepV where
  key : Str
  epoch : Int
  out : OutV
abbrev encTg (t : TgV) : List Value := [vS t.name, vS t.cmd, vSl t.deps, vSl t.srcs]
abbrev encR (r : ResV) : List Value := [vI r.err, vS r.loc, vS r.text, vSl r.files]
abbrev encOp (x : OpV) : List Value := [vS x.name, vSl x.graph, vSl x.snap, vS x.goal, vI x.state, vI x.res.err, vS x.res.loc, vS x.res.text, vSl x.res.files]
abbrev encEv (k : Int) (x : OpV) : List Value := [vI k, vS x.name, vSl x.graph, vSl x.snap, vS x.goal, vI x.state, vI x.res.err, vS x.res.loc, vS x.res.text, vSl x.res.files]
abbrev encK (t : TaskV) : List Value := [vS t.key, vI t.epoch, vS t.cmd, vSl t.files, vSl t.names, vI t.fuel]
abbrev encU (o : OutV) : List Value := [vI o.kind, vSl o.files, vS o.need, vI o.err, vS o.text, vI o.used]
abbrev encP (r : RepV) : List Value := [vS r.key, vI r.epoch, vI r.out.kind, vSl r.out.files, vS r.out.need, vI r.out.err, vS r.out.text, vI r.out.used]
theorem encF_len (f : PF) : (encF f).length = 2 := rfl
theorem encTg_len (t : TgV) : (encTg t).length = 4 := rfl
theorem encOp_len (x : OpV) : (encOp x).length = 9 := rfl
def TgV.er (t : TgV) : PT := ⟨t.name, t.cmd, t.deps.xs, t.srcs.xs⟩
def ResV.er (r : ResV) : PR := ⟨r.err, r.loc, r.text, r.files.xs⟩
def grE (s : Sl TgV) : List PT := s.xs.map TgV.er
def OpV.er (x : OpV) : PO := ⟨x.name, grE x.graph, x.snap.xs, x.goal, x.state, x.res.er⟩
def TaskV.er (t : TaskV) : PK := ⟨t.key, t.epoch, t.cmd, t.files.xs, t.names.xs, t.fuel⟩
def OutV.er (o : OutV) : PU := ⟨o.kind, o.files.xs, o.need, o.err, o.text, o.used⟩
def RepV.er (r : RepV) : PP := ⟨r.key, r.epoch, r.out.er⟩
def opsE (s : Sl OpV) : List PO := s.xs.map OpV.er
def strsA (s : Sl Str) : Atom := rsl s.a s.xs.length 1 (s.xs.map vS)
def filesA (s : Sl PF) : Atom := rsl s.a s.xs.length 2 (s.xs.flatMap encF)
/-- All of these, as one. -/
def allA (As : List Atom) : Atom := fun h => Own As h
def tgsA (l : List TgV) : Atom := allA (l.flatMap fun t => [strsA t.deps, strsA t.srcs])
def graphA (s : Sl TgV) : Atom := allA [rsl s.a s.xs.length 4 (s.xs.flatMap encTg), tgsA s.xs]
def opA (x : OpV) : Atom := allA [graphA x.graph, filesA x.snap, filesA x.res.files]
def opL (l : List OpV) : Atom := allA (l.map opA)
def opsA (s : Sl OpV) : Atom := allA [rsl s.a s.xs.length 9 (s.xs.flatMap encOp), opL s.xs]
def taskA (t : TaskV) : Atom := allA [filesA t.files, strsA t.names]
section
variable {w0 w : World} {O : Nat → Prop} {As Bs : List Atom}
theorem ro_all (h : Ro w0 O (allA As)) : ∀ A ∈ As, Ro w0 O A := by
  obtain ⟨g, hg, hs⟩ := h
  unfold allA at hg
  revert g
  induction As with
  | nil => intro g hg hs A hA; cases hA
  | cons B As ih =>
    intro g hg hs
    obtain ⟨g1, g2, h1, h2, rfl⟩ := hg
    intro A hA
    rcases List.mem_cons.1 hA with rfl | hA
    · exact ⟨g1, h1, fun p hp => hs p (by simp [hp])⟩
    · exact ih g2 h2 (fun p hp => hs p (by simp [hp])) A hA
theorem all_ro (h : ∀ A ∈ As, Ro w0 O A) : Ro w0 O (allA As) := by
  induction As with
  | nil => exact ⟨[], rfl, by simp⟩
  | cons B As ih =>
    obtain ⟨g1, h1, s1⟩ := h B (by simp)
    obtain ⟨g2, h2, s2⟩ := ih fun A hA => h A (by simp [hA])
    refine ⟨g1 ++ g2, ⟨g1, g2, h1, h2, rfl⟩, fun p hp => ?_⟩
    rcases List.mem_append.1 hp with hp | hp
    · exact s1 p hp
    · exact s2 p hp
theorem hp_open (h : Hp w0 O (allA As :: Bs) w) : Hp w0 O (As ++ Bs) w := h.conv fun _ hh => hh
theorem hp_shut (h : Hp w0 O (As ++ Bs) w) : Hp w0 O (allA As :: Bs) w := Hp.convs (Cs := As) (Bs := [allA As]) h fun g hg => ⟨g, [], hg, rfl, by simp⟩
theorem graph_ro {s : Sl TgV} (h : Ro w0 O (graphA s)) : Ro w0 O (rsl s.a s.xs.length 4 (s.xs.flatMap encTg)) ∧ ∀ t ∈ s.xs, Ro w0 O (strsA t.deps) ∧ Ro w0 O (strsA t.srcs) := by
  have h2 := ro_all (ro_all h (tgsA s.xs) (by simp))
  exact ⟨ro_all h _ (by simp), fun t ht => ⟨h2 _ (List.mem_flatMap.2 ⟨t, ht, by simp⟩), h2 _ (List.mem_flatMap.2 ⟨t, ht, by simp⟩)⟩⟩
theorem op_ro {x : OpV} (h : Ro w0 O (opA x)) : Ro w0 O (graphA x.graph) ∧ Ro w0 O (filesA x.snap) ∧ Ro w0 O (filesA x.res.files) := ⟨ro_all h _ (by simp), ro_all h _ (by simp), ro_all h _ (by simp)⟩
theorem ops_ro {s : Sl OpV} (h : Ro w0 O (opsA s)) : Ro w0 O (rsl s.a s.xs.length 9 (s.xs.flatMap encOp)) ∧ ∀ x ∈ s.xs, Ro w0 O (opA x) := by
  have h2 := ro_all (ro_all h (opL s.xs) (by simp))
  exact ⟨ro_all h _ (by simp), fun t ht => h2 _ (List.mem_map.2 ⟨t, ht, rfl⟩)⟩
theorem task_ro {t : TaskV} (h : Ro w0 O (taskA t)) : Ro w0 O (filesA t.files) ∧ Ro w0 O (strsA t.names) := ⟨ro_all h _ (by simp), ro_all h _ (by simp)⟩
theorem hp_strs {e : TypeId} {a : Option Addr} {c : Nat} {l : List Str} (h : Hp w0 O (slc e 1 a l.length c (l.map vS) :: Bs) w) : Hp w0 O (strsA ⟨a, c, l⟩ :: Bs) w := Hp.mono_at [] h fun _ hh => slc_rsl hh
theorem hp_files {e : TypeId} {a : Option Addr} {c : Nat} {l : List PF} (h : Hp w0 O (slc e 2 a l.length c (l.flatMap encF) :: Bs) w) : Hp w0 O (filesA ⟨a, c, l⟩ :: Bs) w := Hp.mono_at [] h fun _ hh => slc_rsl hh
theorem hp_graph {e : TypeId} {a : Option Addr} {c : Nat} {l : List TgV} (h : Hp w0 O (slc e 4 a l.length c (l.flatMap encTg) :: tgsA l :: Bs) w) : Hp w0 O (graphA ⟨a, c, l⟩ :: Bs) w := hp_shut (As := [_, _]) (Hp.mono_at [] h fun _ hh => slc_rsl hh)
theorem hp_ops {e : TypeId} {a : Option Addr} {c : Nat} {l : List OpV} (h : Hp w0 O (slc e 9 a l.length c (l.flatMap encOp) :: opL l :: Bs) w) : Hp w0 O (opsA ⟨a, c, l⟩ :: Bs) w := hp_shut (As := [_, _]) (Hp.mono_at [] h fun _ hh => slc_rsl hh)
theorem hp_nil (h : Hp w0 O Bs w) : Hp w0 O (allA [] :: Bs) w := hp_shut (As := []) h
theorem tgs_add {l : List TgV} {t : TgV} (h : Hp w0 O (tgsA l :: strsA t.deps :: strsA t.srcs :: Bs) w) : Hp w0 O (tgsA (l ++ [t]) :: Bs) w := by
  refine hp_shut ?_
  have h := hp_open h
  simp only [List.flatMap_append, List.flatMap_cons, List.flatMap_nil, List.append_nil, List.append_assoc]
  exact h
theorem opl_add {l : List OpV} {x : OpV} (h : Hp w0 O (opL l :: opA x :: Bs) w) : Hp w0 O (opL (l ++ [x]) :: Bs) w := by
  refine hp_shut ?_
  have h := hp_open h
  simp only [List.map_append, List.map_cons, List.map_nil, List.append_assoc]
  exact h
end
end Go.Proofs.YtbnahfjhlbibcaaGreatDoor
