/-
  What law LinkOrder holds in memory; its data.
-/
import Derived.Test.YtodcciahagefnaaOrdLaw
import Derived.Test.YtodcciahagefnaaRd
namespace Go.Proofs.Ytodcciahagefnaa
open Go.Eng
structure Mv where
  second : Bool
  go : Bool
  come : Bool
  data : Str
  n : Int
def encM (o : Mv) : List Value := [.bool o.second, .bool o.go, .bool o.come, vS o.data, vI o.n]
theorem encM_len (o : Mv) : (encM o).length = 5 := rfl
theorem rd49 {W : World} : Rdr Try.prog W 49 encM (fun o => fits64 o.n) :=
  (rd_struct Try.underlying49 (by kernel_rfl) (rdf_cons (sz := 1) rfl (by kernel_rfl) (rd_bool Try.underlying4) (rdf_cons (sz := 1) rfl (by kernel_rfl) (rd_bool Try.underlying4) (rdf_cons (sz := 1) rfl (by kernel_rfl) (rd_bool Try.underlying4) (rdf_cons (sz := 1) rfl (by kernel_rfl) (rd_str Try.underlying9) (rdf_cons (sz := 1) rfl (by kernel_rfl) (rd_int Try.underlying3) rdf_nil)))))).map
    (fun x => ⟨x.1, x.2.1, x.2.2.1, x.2.2.2.1, x.2.2.2.2.1⟩) (fun _ => rfl) (fun _ h => h.2.2.2.2.1)
theorem rd43 {W : World} : Rdr Try.prog W 43 encSl (goodSl W 5 encM fun o => fits64 o.n) := rd_slice Try.underlying43 (by kernel_rfl) (by decide) encM_len rd49

structure Mem where
  e0 : LE
  e1 : LE
  s0 : Sl Str
  s1 : Sl Str
  g0 : Sl Str
  g1 : Sl Str
  w0 : Sl Pk
  w1 : Sl Pk
def sv {α : Type} (x : Sl α) : Value := .slice x.a x.xs.length x.cap
def sA (x : Sl Str) : Atom := slc 9 1 x.a x.xs.length x.cap (x.xs.map vS)
def pA (x : Sl Pk) : Atom := slc 32 3 x.a x.xs.length x.cap (x.xs.flatMap encP)
theorem sv_app {α : Type} {a : Option Addr} {c : Nat} {l : List α} {d : α} : sv ⟨a, c, l ++ [d]⟩ = .slice a (l.length + 1) c := by simp [sv]
theorem sA_app {a : Option Addr} {c : Nat} {l : List Str} {d : Str} : sA ⟨a, c, l ++ [d]⟩ = slc 9 1 a (l.length + 1) c (l.map vS ++ [vS d]) := by simp [sA]
theorem pA_app {a : Option Addr} {c : Nat} {l : List Pk} {d : Pk} : pA ⟨a, c, l ++ [d]⟩ = slc 32 3 a (l.length + 1) c (l.flatMap encP ++ encP d) := by simp [pA]
abbrev E0 (n : Nat) : LE := ⟨n, [], 0, 0⟩
def mem0 (n : Nat) : Mem := ⟨E0 n, E0 n, ⟨none, 0, []⟩, ⟨none, 0, []⟩, ⟨none, 0, []⟩, ⟨none, 0, []⟩, ⟨none, 0, []⟩, ⟨none, 0, []⟩⟩
abbrev Mem.ok (n K : Nat) (m : Mem) : Prop := Two n K m.e0 m.e1 m.s0.xs m.s1.xs m.g0.xs m.g1.xs m.w0.xs m.w1.xs
theorem mem0_ok (n : Nat) : (mem0 n).ok n 0 := by
  refine ⟨⟨rfl, ?_, ?_, ?_, ?_, ?_, ?_, ?_, ?_⟩, ⟨rfl, ?_, ?_, ?_, ?_, ?_, ?_, ?_, ?_⟩⟩ <;> simp [mem0]
theorem Two.upto {n K K' : Nat} {e e' : LE} {s s' g g' : List Str} {wa wa' : List Pk} (h : Two n K e e' s s' g g' wa wa') (hk : K ≤ K') : Two n K' e e' s s' g g' wa wa' :=
  ⟨{ h.a with len := by have := h.a.len; omega }, { h.b with len := by have := h.b.len; omega }⟩
theorem Two.ways {n K : Nat} {e e' : LE} {s s' g g' : List Str} {wa wa' wb : List Pk} (h : Two n K e e' s s' g g' wa wa') (hl : wb.length ≤ 5000) (hp : ∀ p ∈ wb, POk e s p) : Two n K e e' s s' g g' wa wb :=
  ⟨h.a, { h.b with way := hl, all := hp }⟩
theorem Two.took1 {n K : Nat} {e e' : LE} {s s' g g' : List Str} {wa wa' : List Pk} (h : Two n K e e' s s' g g' wa wa') (p : Pk) (hp : POk e' s' p) {g2 : List Str}
    (hg : g2 = if (e.take p).2.2 then g ++ [(e.take p).2.1] else g) : Two n K (e.take p).1 e' s s' g2 g' wa wa' := by rw [hg]; exact h.take p hp

def armed (n b5 : Nat) : Nat × Nat × Nat → List Atom
  | (0, _, _) => [blk b5 (.cells [Value.pointer none, .pointer none].toArray 44 (0, 0))]
  | (1, p, _) => [blk b5 (.cells [ptr p, .pointer none].toArray 44 (0, 0)), endA p (E0 n)]
  | (_, p, q) => [blk b5 (.cells [ptr p, ptr q].toArray 44 (0, 0)), endA p (E0 n), endA q (E0 n)]
theorem sixNil {w0 : World} {O : Nat → Prop} {As : List Atom} {w : World} (h : Hp w0 O As w) : Hp w0 O (sA ⟨none, 0, []⟩ :: sA ⟨none, 0, []⟩ :: sA ⟨none, 0, []⟩ :: sA ⟨none, 0, []⟩ :: pA ⟨none, 0, []⟩ :: pA ⟨none, 0, []⟩ :: As) w :=
  Hp.addNil [] _ (Hp.addNil [] _ (Hp.addNil [] _ (Hp.addNil [] _ (Hp.addNil [] _ (Hp.addNil [] _ h)))))

structure Prog (n x k : Nat) (m : Mem) : Prop where
  ok : m.ok n 200
  r1 : 1 ≤ x ∨ 1 ≤ k → m.s0.xs.length ≤ m.e1.came
  r2 : 1 ≤ x ∨ 2 ≤ k → m.s1.xs.length ≤ m.e0.came ∧ m.s0.xs.length ≤ m.e0.known
  r3 : 2 ≤ x ∨ (1 ≤ x ∧ 1 ≤ k) → m.s1.xs.length ≤ m.e1.known
theorem Prog.start {n : Nat} {m : Mem} (h : m.ok n 200) : Prog n 0 0 m := ⟨h, fun h => by omega, fun h => by omega, fun h => by omega⟩
theorem Prog.inner {n x : Nat} {m : Mem} (h : Prog n x 0 m) : Prog n x 0 m := h
theorem Prog.take1 {n x : Nat} {m : Mem} (h : Prog n x 0 m) {p : Pk} (hp : p ∈ m.e0.out) {g : Sl Str} (hg : g.xs = if (m.e1.take p).2.2 then m.g1.xs ++ [(m.e1.take p).2.1] else m.g1.xs) :
    Prog n x 0 { m with e1 := (m.e1.take p).1, g1 := g } := by
  have hm := took_came m.e1 p
  refine ⟨(h.ok.symm.took1 p (h.ok.out p hp) hg).symm, fun hh => ?_, h.r2, fun hh => ?_⟩
  · have := h.r1 hh; simp only; omega
  · have := h.r3 hh; simp only; omega
theorem Prog.take0 {n x : Nat} {m : Mem} (h : Prog n x 1 m) {p : Pk} (hp : p ∈ m.e1.out) {g : Sl Str} (hg : g.xs = if (m.e0.take p).2.2 then m.g0.xs ++ [(m.e0.take p).2.1] else m.g0.xs) :
    Prog n x 1 { m with e0 := (m.e0.take p).1, g0 := g } := by
  have hm := took_came m.e0 p
  refine ⟨h.ok.took1 p (h.ok.symm.out p hp) hg, h.r1, fun hh => ?_, h.r3⟩
  have := h.r2 hh; simp only; omega
theorem Prog.half0 {n x : Nat} {m : Mem} (h : Prog n x 0 m) (hc : m.s0.xs.length ≤ m.e1.came) (hk : m.e0.came ≤ m.e1.known) : Prog n x 1 m :=
  ⟨h.ok, fun _ => hc, fun hh => h.r2 (by omega), fun hh => by have := h.r2 (by omega); omega⟩
theorem Prog.half1 {n x : Nat} {m : Mem} (h : Prog n x 1 m) (hc : m.s1.xs.length ≤ m.e0.came) (hk : m.e1.came ≤ m.e0.known) : Prog n x 2 m :=
  ⟨h.ok, fun _ => h.r1 (by omega), fun hh => by have := h.r1 (by omega); omega, fun hh => h.r3 (by omega)⟩
theorem Prog.round {n x : Nat} {m : Mem} (h : Prog n x 2 m) : Prog n (x + 1) 0 m := ⟨h.ok, fun _ => h.r1 (by omega), fun _ => h.r2 (by omega), fun hh => h.r3 (by omega)⟩
theorem Prog.fin {n : Nat} {m : Mem} (h : Prog n 2 0 m) : m.e0.opens.length = 0 ∧ m.e1.opens.length = 0 ∧ m.g0.xs.length = m.s1.xs.length ∧ m.g1.xs.length = m.s0.xs.length := by
  have h1 := h.r1 (by omega); have h2 := h.r2 (by omega); have h3 := h.r3 (by omega)
  have a := h.ok.open; have b := h.ok.symm.open; have c := h.ok.gotLen; have d := h.ok.symm.gotLen
  have := h.ok.a.came; have := h.ok.b.came
  omega
end Go.Proofs.Ytodcciahagefnaa
