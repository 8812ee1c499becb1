/-
  Plain laws: files with one more.
-/
import Derived.Test.YtemopomapankmaaDoorWalkM
namespace Go.Proofs.YtemopomapankmaaDoor
open Go.Eng


def gtS (a b : Str) : Bool := !(Op.bytesLess a b || decide (a = b))
def gtAt (l : List Fl) (q : Str) : Nat := if idxF (fun x => gtS x.1 q) l < 0 then l.length else (idxF (fun x => gtS x.1 q) l).toNat
def putF (l : List Fl) (f : Fl) : List Fl := if 0 ≤ idxF (fun x => decide (x.1 = f.1)) l then l.set (idxF (fun x => decide (x.1 = f.1)) l).toNat f else l.take (gtAt l f.1) ++ f :: l.drop (gtAt l f.1)
def withF (l : List Fl) (f : Fl) : Int × List Fl :=
  if isPath f.1 = false then (13, []) else if (2048 : Int) < (f.2.length : Nat) then (15, []) else if l.any (fun x => clash f.1 x.1) = true then (16, [])
  else if (32 : Int) < ((putF l f).length : Nat) then (15, []) else (0, putF l f)
theorem withF_1 {l : List Fl} {f : Fl} (h : isPath f.1 = false) : withF l f = (13, []) := by rw [withF, if_pos h]
theorem withF_2 {l : List Fl} {f : Fl} (h : isPath f.1 = true) (h2 : (2048 : Int) < (f.2.length : Nat)) : withF l f = (15, []) := by rw [withF, if_neg (by rw [h]; decide), if_pos h2]
theorem withF_3 {l : List Fl} {f : Fl} (h : isPath f.1 = true) (h2 : ¬ (2048 : Int) < (f.2.length : Nat)) (h3 : l.any (fun x => clash f.1 x.1) = true) : withF l f = (16, []) := by rw [withF, if_neg (by rw [h]; decide), if_neg h2, if_pos h3]
theorem withF_4 {l : List Fl} {f : Fl} (h : isPath f.1 = true) (h2 : ¬ (2048 : Int) < (f.2.length : Nat)) (h3 : l.any (fun x => clash f.1 x.1) = false) (h4 : (32 : Int) < ((putF l f).length : Nat)) : withF l f = (15, []) := by rw [withF, if_neg (by rw [h]; decide), if_neg h2, if_neg (by rw [h3]; decide), if_pos h4]
theorem withF_5 {l : List Fl} {f : Fl} (h : isPath f.1 = true) (h2 : ¬ (2048 : Int) < (f.2.length : Nat)) (h3 : l.any (fun x => clash f.1 x.1) = false) (h4 : ¬ (32 : Int) < ((putF l f).length : Nat)) : withF l f = (0, putF l f) := by rw [withF, if_neg (by rw [h]; decide), if_neg h2, if_neg (by rw [h3]; decide), if_neg h4]
theorem gtAt_le (l : List Fl) (q : Str) : gtAt l q ≤ l.length := by
  unfold gtAt
  rcases idxF_cases (fun x => gtS x.1 q) l with ⟨h, _⟩ | ⟨i, x, h, hx, _⟩
  · rw [h]; exact Nat.le_refl _
  · have := (List.getElem?_eq_some_iff.1 hx).1
    rw [h]; simp only [Int.toNat_natCast]; split <;> omega
theorem gtAt_hit {l : List Fl} {q : Str} {i : Nat} {x : Fl} (hx : l[i]? = some x) (hp : gtS x.1 q = true) (hn : ∀ j y, j < i → l[j]? = some y → gtS y.1 q = false) : gtAt l q = i := by
  rw [gtAt, idxF_hit (p := fun x => gtS x.1 q) hx hp hn]; simp; omega
theorem gtAt_miss {l : List Fl} {q : Str} (hn : ∀ x ∈ l, gtS x.1 q = false) : gtAt l q = l.length := by rw [gtAt, idxF_miss (p := fun x => gtS x.1 q) hn]; rfl
theorem putF_hit {l : List Fl} {f x : Fl} {i : Nat} (hx : l[i]? = some x) (hp : x.1 = f.1) (hn : ∀ j y, j < i → l[j]? = some y → y.1 ≠ f.1) : putF l f = l.set i f := by
  have := idxF_hit (p := fun x => decide (x.1 = f.1)) hx (by simpa using hp) (fun j y hj hy => by simpa using hn j y hj hy)
  rw [putF, this, if_pos (by omega)]; rfl
theorem putF_miss {l : List Fl} {f : Fl} (hn : ∀ x ∈ l, x.1 ≠ f.1) : putF l f = l.take (gtAt l f.1) ++ f :: l.drop (gtAt l f.1) := by
  have := idxF_miss (p := fun x => decide (x.1 = f.1)) (fun x hx => by simpa using hn x hx)
  rw [putF, this, if_neg (by decide)]
theorem putF_len (l : List Fl) (f : Fl) : (putF l f).length ≤ l.length + 1 := by
  unfold putF
  split
  · simp
  · rw [ins_length l _ f (gtAt_le l f.1)]; exact Nat.le_refl _
theorem set_split {l : List Fl} {i : Nat} (f : Fl) (h : i < l.length) : l.set i f = l.take i ++ f :: l.drop (i + 1) := by rw [List.set_eq_take_append_cons_drop, if_pos h]
end Go.Proofs.YtemopomapankmaaDoor
