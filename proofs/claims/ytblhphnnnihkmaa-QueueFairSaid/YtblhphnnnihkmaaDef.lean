/-
  How a queue lies in memory.
-/
import Derived.Test.YtblhphnnnihkmaaHeap
import Derived.Test.YtblhphnnnihkmaaEngEx
import Derived.Test.YtblhphnnnihkmaaTy
namespace Go.Proofs.Ytblhphnnnihkmaa
open Go.Eng
abbrev vI (n : Int) : Value := .int .i64 n
abbrev vS (l : Str) : Value := .string (bs l)
abbrev ptr (b : Nat) : Value := .pointer (some ⟨b, 0, none⟩)
def encIt {α : Type} (ev : α → Value) (x : It α) : List Value := [ev x.v, vI x.rank, vI x.tm, vI x.turn, vI x.no]
theorem encIt_len {α : Type} (ev : α → Value) (x : It α) : (encIt ev x).length = 5 := rfl
/-- A queue whose heap is this row. -/
def rawAs {α : Type} (tq ti : TypeId) (ev : α → Value) (b : Nat) (age n : Int) (H : List (It α)) (oc : Option Addr × Nat) : List Atom :=
  [blk b (.cells [vI age, vI n, .slice oc.1 H.length oc.2].toArray tq (0, 0)), slc ti 5 oc.1 H.length oc.2 (H.flatMap (encIt ev))]
/-- A queue that has the things of R. -/
def qA {α : Type} (tq ti : TypeId) (ev : α → Value) (b : Nat) (age n : Int) (R : List (It α)) : Atom :=
  exA (fun x : List (It α) × Option Addr × Nat => x.1.Perm R ∧ Heap x.1) fun x => rawAs tq ti ev b age n x.1 x.2
def IsMin {α : Type} (r : It α) (R : List (It α)) : Prop := r ∈ R ∧ ∀ a ∈ R, a.lt r = false
def rest {α : Type} (R : List (It α)) (r : It α) : List (It α) := R.filter fun x => decide (x.no ≠ r.no)
theorem rest_perm {α : Type} {R H : List (It α)} {r : It α} (hp : (r :: H).Perm R) (hd : R.Pairwise fun x y => x.no ≠ y.no) : H.Perm (rest R r) := by
  have h1 : (r :: H).Pairwise fun x y => x.no ≠ y.no := (hp.pairwise_iff (fun h => Ne.symm h)).2 hd
  have h2 := hp.filter (fun x => decide (x.no ≠ r.no))
  rw [List.filter_cons_of_neg (by simp), List.filter_eq_self.2 (fun a ha => by simpa using Ne.symm ((List.pairwise_cons.1 h1).1 a ha))] at h2
  exact h2
theorem Heap.isMin {α : Type} {R H : List (It α)} {r : It α} (h : Heap H) (hr : H[0]? = some r) (hp : H.Perm R) : IsMin r R :=
  ⟨hp.subset (List.mem_of_getElem? hr), fun a ha => by
    obtain ⟨i, hi⟩ := List.mem_iff_getElem?.1 (hp.symm.subset ha)
    exact h.root hr i a hi⟩
end Go.Proofs.Ytblhphnnnihkmaa
