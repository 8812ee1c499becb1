/-
  Walks: the reference: what it knows.
-/
import Derived.Test.YtfnpjmlpiedgdaaRB
namespace Go.Proofs.Ytfnpjmlpiedgdaa
open Go.Eng

abbrev rfAs2 (b : Nat) (s : Sc) (x : Rp) (oc ot : Option Addr × Nat) : List Atom := [blk b (.cells (rfC x) 54 (0, 0)), slc 30 3 x.ja x.jobs.length x.jc (x.jobs.flatMap encJ), blk x.qb (.cells [vI s.age, .slice oc.1 x.RI.length oc.2].toArray 89 (0, 0)), slc 112 3 oc.1 x.RI.length oc.2 (x.RI.flatMap encR), slc 83 2 x.wa x.ws.length x.wc (x.ws.flatMap encW), rowsA x.ws, blk x.tb (.cells (rtCells s.t.ref ot).toArray 48 (0, 0)), slc 36 6 ot.1 s.t.ref.l.length ot.2 (s.t.ref.l.flatMap encL)]
theorem rf_open2 {w0 : World} {O : Nat → Prop} {b : Nat} {s : Sc} : ∀ w, Hp w0 O [rfA b s] w → ∃ y : {x : Rp // RRel s x.jobs x.RI x.ws} × (Option Addr × Nat) × (Option Addr × Nat), Hp w0 O (rfAs2 b s y.1.1 y.2.1 y.2.2) w := fun w h => by
  obtain ⟨⟨x, hx⟩, h⟩ := rf_open w h
  have h : Hp w0 O (rfAs b s x) w := h
  have h1 : Hp w0 O [refA x.qb s.age x.RI, blk b (.cells (rfC x) 54 (0, 0)), slc 30 3 x.ja x.jobs.length x.jc (x.jobs.flatMap encJ), slc 83 2 x.wa x.ws.length x.wc (x.ws.flatMap encW), rowsA x.ws, rtA x.tb s.t.ref] w := h.sub (by (repeat (first | exact pt_nil | apply pt0 | apply pt1 | apply pt2 | apply pt3 | apply pt4 | apply pt5 | apply pt6 | apply pt7 | apply pt8 | apply pt9 | apply pt10 | apply pt11 | apply pt12 | apply pt13 | apply pt14 | apply pt15 | apply pt16 | apply pt17)))
  obtain ⟨⟨oc, _⟩, h2⟩ := exA_open w h1
  have h2 : Hp w0 O [blk x.qb (.cells [vI s.age, .slice oc.1 x.RI.length oc.2].toArray 89 (0, 0)), slc 112 3 oc.1 x.RI.length oc.2 (x.RI.flatMap encR), blk b (.cells (rfC x) 54 (0, 0)), slc 30 3 x.ja x.jobs.length x.jc (x.jobs.flatMap encJ), slc 83 2 x.wa x.ws.length x.wc (x.ws.flatMap encW), rowsA x.ws, rtA x.tb s.t.ref] w := h2
  have h3 : Hp w0 O [rtA x.tb s.t.ref, blk x.qb (.cells [vI s.age, .slice oc.1 x.RI.length oc.2].toArray 89 (0, 0)), slc 112 3 oc.1 x.RI.length oc.2 (x.RI.flatMap encR), blk b (.cells (rfC x) 54 (0, 0)), slc 30 3 x.ja x.jobs.length x.jc (x.jobs.flatMap encJ), slc 83 2 x.wa x.ws.length x.wc (x.ws.flatMap encW), rowsA x.ws] w := h2.sub (by (repeat (first | exact pt_nil | apply pt0 | apply pt1 | apply pt2 | apply pt3 | apply pt4 | apply pt5 | apply pt6 | apply pt7 | apply pt8 | apply pt9 | apply pt10 | apply pt11 | apply pt12 | apply pt13 | apply pt14 | apply pt15 | apply pt16 | apply pt17)))
  obtain ⟨ot, h4⟩ := rt_open w h3
  have h4 : Hp w0 O [blk x.tb (.cells (rtCells s.t.ref ot).toArray 48 (0, 0)), slc 36 6 ot.1 s.t.ref.l.length ot.2 (s.t.ref.l.flatMap encL), blk x.qb (.cells [vI s.age, .slice oc.1 x.RI.length oc.2].toArray 89 (0, 0)), slc 112 3 oc.1 x.RI.length oc.2 (x.RI.flatMap encR), blk b (.cells (rfC x) 54 (0, 0)), slc 30 3 x.ja x.jobs.length x.jc (x.jobs.flatMap encJ), slc 83 2 x.wa x.ws.length x.wc (x.ws.flatMap encW), rowsA x.ws] w := h4
  exact ⟨(⟨x, hx⟩, oc, ot), h4.sub (by (repeat (first | exact pt_nil | apply pt0 | apply pt1 | apply pt2 | apply pt3 | apply pt4 | apply pt5 | apply pt6 | apply pt7 | apply pt8 | apply pt9 | apply pt10 | apply pt11 | apply pt12 | apply pt13 | apply pt14 | apply pt15 | apply pt16 | apply pt17)))⟩
theorem rf_shut2 {w0 w : World} {O : Nat → Prop} {b : Nat} {s : Sc} (x : Rp) (hx : RRel s x.jobs x.RI x.ws) {oc ot : Option Addr × Nat} (h : Hp w0 O (rfAs2 b s x oc ot) w) : Hp w0 O [rfA b s] w := by
  have h1 : Hp w0 O ([blk x.tb (.cells (rtCells s.t.ref ot).toArray 48 (0, 0)), slc 36 6 ot.1 s.t.ref.l.length ot.2 (s.t.ref.l.flatMap encL)] ++ [blk x.qb (.cells [vI s.age, .slice oc.1 x.RI.length oc.2].toArray 89 (0, 0)), slc 112 3 oc.1 x.RI.length oc.2 (x.RI.flatMap encR), blk b (.cells (rfC x) 54 (0, 0)), slc 30 3 x.ja x.jobs.length x.jc (x.jobs.flatMap encJ), slc 83 2 x.wa x.ws.length x.wc (x.ws.flatMap encW), rowsA x.ws]) w := h.sub (by (repeat (first | exact pt_nil | apply pt0 | apply pt1 | apply pt2 | apply pt3 | apply pt4 | apply pt5 | apply pt6 | apply pt7 | apply pt8 | apply pt9 | apply pt10 | apply pt11 | apply pt12 | apply pt13 | apply pt14 | apply pt15 | apply pt16 | apply pt17)))
  have h2 := rt_shut ot h1
  have h3 : Hp w0 O (refRaw x.qb s.age x.RI oc ++ [blk b (.cells (rfC x) 54 (0, 0)), slc 30 3 x.ja x.jobs.length x.jc (x.jobs.flatMap encJ), slc 83 2 x.wa x.ws.length x.wc (x.ws.flatMap encW), rowsA x.ws, rtA x.tb s.t.ref]) w := by
    show Hp w0 O [blk x.qb (.cells [vI s.age, .slice oc.1 x.RI.length oc.2].toArray 89 (0, 0)), slc 112 3 oc.1 x.RI.length oc.2 (x.RI.flatMap encR), blk b (.cells (rfC x) 54 (0, 0)), slc 30 3 x.ja x.jobs.length x.jc (x.jobs.flatMap encJ), slc 83 2 x.wa x.ws.length x.wc (x.ws.flatMap encW), rowsA x.ws, rtA x.tb s.t.ref] w
    exact h2.sub (by (repeat (first | exact pt_nil | apply pt0 | apply pt1 | apply pt2 | apply pt3 | apply pt4 | apply pt5 | apply pt6 | apply pt7 | apply pt8 | apply pt9 | apply pt10 | apply pt11 | apply pt12 | apply pt13 | apply pt14 | apply pt15 | apply pt16 | apply pt17)))
  have h4 : Hp w0 O (refA x.qb s.age x.RI :: [blk b (.cells (rfC x) 54 (0, 0)), slc 30 3 x.ja x.jobs.length x.jc (x.jobs.flatMap encJ), slc 83 2 x.wa x.ws.length x.wc (x.ws.flatMap encW), rowsA x.ws, rtA x.tb s.t.ref]) w := exA_shut oc trivial h3
  exact rf_shut x hx (h4.sub (by (repeat (first | exact pt_nil | apply pt0 | apply pt1 | apply pt2 | apply pt3 | apply pt4 | apply pt5 | apply pt6 | apply pt7 | apply pt8 | apply pt9 | apply pt10 | apply pt11 | apply pt12 | apply pt13 | apply pt14 | apply pt15 | apply pt16 | apply pt17))))
theorem rows_backI {w0 w : World} {O : Nat → Prop} {As : List Atom} {ws : List (Str × Sl Jb)} {i : Nat} {p : Str × Sl Jb} (hx : ws[i]? = some p) (h : Hp w0 O (rowA p :: rowsA (ws.eraseIdx i) :: As) w) : Hp w0 O (rowsA ws :: As) w := by
  have h1 := rows_inI hx h
  have e : ws.set i p = ws := by
    obtain ⟨hl, he⟩ := List.getElem?_eq_some_iff.1 hx
    rw [← he]; exact List.set_getElem_self hl
  rw [e] at h1; exact h1
theorem RRel.wlen {s : Sc} {jobs : List Jb} {RI : List (It Int)} {ws : List (Str × Sl Jb)} (h : RRel s jobs RI ws) : ws.length = s.rows.length := by
  have := h.p.length_eq
  rwa [mval, List.length_map] at this
theorem RRel.mem {s : Sc} {jobs : List Jb} {RI : List (It Int)} {ws : List (Str × Sl Jb)} (h : RRel s jobs RI ws) {i : Nat} {p : Str × Sl Jb} (hp : ws[i]? = some p) : (p.1, p.2.xs) ∈ s.rows := h.p.mem_iff.1 (List.mem_map.2 ⟨p, List.mem_of_getElem? hp, rfl⟩)
theorem RRel.xlen {s : Sc} {jobs : List Jb} {RI : List (It Int)} {ws : List (Str × Sl Jb)} (h : RRel s jobs RI ws) {n : Int} {q : Nat} (hI : s.In n q) {i : Nat} {p : Str × Sl Jb} (hp : ws[i]? = some p) : p.2.xs.length ≤ q := by
  have h1 := h.row hI.keyed (k := p.1) (sl := p.2) hp
  have h2 := hI.row_len p.1
  rw [h1] at h2; exact h2
/-- The job of a thing that waits. -/
theorem RRel.job {s : Sc} {jobs : List Jb} {RI : List (It Int)} {ws : List (Str × Sl Jb)} (h : RRel s jobs RI ws) {i : Nat} {z : It Int} (hz : RI[i]? = some z) : ∃ k : Nat, ∃ j, z.v = k ∧ jobs[k]? = some j ∧ (cv jobs z).v = j := by
  obtain ⟨h1, h2⟩ := h.b z (List.mem_of_getElem? hz)
  obtain ⟨k, hk⟩ : ∃ k : Nat, z.v = k := ⟨z.v.toNat, by omega⟩
  have hkl : k < jobs.length := by omega
  refine ⟨k, jobs[k], hk, List.getElem?_eq_getElem hkl, ?_⟩
  simp only [cv, hk, Int.toNat_natCast, List.getD_eq_getElem?_getD, List.getElem?_eq_getElem hkl, Option.getD_some]
def Sc.knows (s : Sc) (k : Str) : Bool := s.jobs.any fun j => decide (j.key = k)
theorem knows_in {s : Sc} {n : Int} {q : Nat} (h : s.In n q) (k : Str) : s.knows k = (mget s.th k).getD false := by
  rw [Bool.eq_iff_iff, h.has, Sc.knows, List.any_eq_true]; simp
theorem knows_q {s : Sc} {jobs : List Jb} {RI : List (It Int)} {ws : List (Str × Sl Jb)} (h : RRel s jobs RI ws) {i : Nat} {z : It Int} (hz : RI[i]? = some z) {k : Str} (hk : (cv jobs z).v.key = k) : s.knows k = true := by
  refine List.any_eq_true.2 ⟨(cv jobs z).v, ?_, by simpa using hk⟩
  rw [Sc.jobs, ← h.r]
  exact List.mem_append_left _ (List.mem_map.2 ⟨_, List.mem_map.2 ⟨z, List.mem_of_getElem? hz, rfl⟩, rfl⟩)
theorem knows_w {s : Sc} {jobs : List Jb} {RI : List (It Int)} {ws : List (Str × Sl Jb)} (h : RRel s jobs RI ws) {i c : Nat} {p : Str × Sl Jb} (hp : ws[i]? = some p) {j : Jb} (hj : p.2.xs[c]? = some j) {k : Str} (hk : j.key = k) : s.knows k = true :=
  List.any_eq_true.2 ⟨j, List.mem_append_right _ (List.mem_append_left _ (List.mem_flatMap.2 ⟨_, h.mem hp, List.mem_of_getElem? hj⟩)), by simpa using hk⟩
theorem knows_t {s : Sc} {i : Nat} {l : Ls} (hl : s.t.ref.l[i]? = some l) {k : Str} (hk : l.job.key = k) : s.knows k = true :=
  List.any_eq_true.2 ⟨l.job, List.mem_append_right _ (List.mem_append_right _ (List.mem_map.2 ⟨l, List.mem_of_getElem? hl, rfl⟩)), by simpa using hk⟩
theorem knows_no {s : Sc} {jobs : List Jb} {RI : List (It Int)} {ws : List (Str × Sl Jb)} (h : RRel s jobs RI ws) {k : Str} {i a d : Nat} (hi : RI.length ≤ i) (ha : ws.length ≤ a) (hd : s.t.ref.l.length ≤ d)
    (h1 : ∀ j z, j < i → RI[j]? = some z → (cv jobs z).v.key ≠ k) (h2 : ∀ m p, m < a → ws[m]? = some p → ∀ j ∈ p.2.xs, j.key ≠ k) (h3 : ∀ j l, j < d → s.t.ref.l[j]? = some l → l.job.key ≠ k) : s.knows k = false := by
  rw [Bool.eq_false_iff]
  intro hc
  obtain ⟨j, hj, hjk⟩ := List.any_eq_true.1 hc
  have hjk : j.key = k := by simpa using hjk
  rw [Sc.jobs, ← h.r] at hj
  rcases List.mem_append.1 hj with hj | hj
  · obtain ⟨y, hy, rfl⟩ := List.mem_map.1 hj
    obtain ⟨z, hz, rfl⟩ := List.mem_map.1 hy
    obtain ⟨m, hm⟩ := List.mem_iff_getElem?.1 hz
    exact h1 m z (by have := (List.getElem?_eq_some_iff.1 hm).1; omega) hm hjk
  · rcases List.mem_append.1 hj with hj | hj
    · obtain ⟨p, hp, hj⟩ := List.mem_flatMap.1 hj
      have hp := h.p.mem_iff.2 hp
      obtain ⟨q, hq, rfl⟩ := List.mem_map.1 hp
      obtain ⟨m, hm⟩ := List.mem_iff_getElem?.1 hq
      exact h2 m q (by have := (List.getElem?_eq_some_iff.1 hm).1; omega) hm j hj hjk
    · obtain ⟨l, hl, rfl⟩ := List.mem_map.1 hj
      obtain ⟨m, hm⟩ := List.mem_iff_getElem?.1 hl
      exact h3 m l (by have := (List.getElem?_eq_some_iff.1 hm).1; show _; change s.t.srt[m]? = _ at hm; have h9 : m < s.t.srt.length := (List.getElem?_eq_some_iff.1 hm).1; change s.t.srt.length ≤ d at hd; omega) hm hjk
theorem all_row {xs : List Jb} {k : Str} {c : Nat} (hc : xs.length ≤ c) (h : ∀ m j, m < c → xs[m]? = some j → j.key ≠ k) : ∀ j ∈ xs, j.key ≠ k := fun j hj => by
  obtain ⟨m, hm⟩ := List.mem_iff_getElem?.1 hj
  exact h m j (by have := (List.getElem?_eq_some_iff.1 hm).1; omega) hm
set_option maxHeartbeats 1000000 in
theorem fknown_c (b : Nat) (s : Sc) (k : Str) (n : Int) (q : Nat) (hI : s.In n q) (h1 : 1 ≤ n) (h2 : n ≤ 1000000) (hq : q ≤ 490) (hrl : s.rows.length ≤ 1000) :
    Ctr Try.prog 39 #[ptr b, vS k] [] [rfA b s] (fun _ : Unit => True) (fun _ => vB (s.knows k)) (fun _ => [rfA b s]) := by
  refine spec_start (n := 103) [(0, ptr b), (1, vS k)] Try.func39 rfl rfl ⟨rfl, rfl, trivial⟩ rfl ?_
  intro w0 K hR
  refine wc_ex rf_open2 (fun y => ?_)
  obtain ⟨⟨x, hx⟩, oc, ot⟩ := y
  refine wc_world (S' := Hp w0 K (rfAs2 b s x oc ot)) (fun _ hw => hw) ?_
  have hlen := hI.lens
  have hri := hx.len
  have hwl := hx.wlen
  have htl : s.t.ref.l.length ≤ 490 := by show s.t.srt.length ≤ 490; rw [Tb.srt_len]; omega
  refine wc_seq ?_
  refine wc_region ?_
  refine wl_y rfl (y_assign rfl) ?_
  refine wl_nil ?_
  refine wq_then ?_
  refine wc_seq ?_
  refine wc_seq ?_
  refine wc_region ?_
  refine wl_y rfl (y_assign rfl) ?_
  refine wl_nil ?_
  refine wq_then ?_
  refine wc_block ?_
  refine wc_loop (α := Nat) (fun y => y ≤ x.RI.length ∧ ∀ j z, j < y → x.RI[j]? = some z → (cv x.jobs z).v.key ≠ k) [(0, _), (1, _)] (fun y => [(5, vI y)]) (fun y => Hp w0 K (rfAs2 b s x oc ot)) (fun y => x.RI.length - y) 0 ?_ ⟨rfl, rfl, rfl, trivial⟩ ?_ ?_
  · exact ⟨Nat.zero_le _, fun j _ hj => absurd hj (Nat.not_lt_zero _)⟩
  · exact fun w hw => hw
  · rintro i ⟨hi, hall⟩
    refine wc_seq ?_
    refine wc_seq ?_
    refine wc_region ?_
    refine wl_y rfl (y_move rfl) ?_
    refine wl_y rfl (y_move rfl) ?_
    refine wl_y rfl (y_nilCheck rfl) ?_
    refine wl_y rfl (y_fieldAddr F54_1 rfl) ?_
    refine wl_y rfl (y_load NA50 rfl (by first | exact cell_blk [] rfl | exact cell_blk [_] rfl | exact cell_blk [_, _] rfl | exact cell_blk [_, _, _] rfl | exact cell_blk [_, _, _, _] rfl | exact cell_blk [_, _, _, _, _] rfl | exact cell_blk [_, _, _, _, _, _] rfl | exact cell_blk [_, _, _, _, _, _, _] rfl | exact cell_blk [_, _, _, _, _, _, _, _] rfl | exact cellR_blk (by assumption) rfl)) ?_
    refine wl_y rfl (y_nilCheck rfl) ?_
    refine wl_y rfl (y_fieldAddr F89_1 rfl) ?_
    refine wl_y rfl (y_load NA87 rfl (by first | exact cell_blk [] rfl | exact cell_blk [_] rfl | exact cell_blk [_, _] rfl | exact cell_blk [_, _, _] rfl | exact cell_blk [_, _, _, _] rfl | exact cell_blk [_, _, _, _, _] rfl | exact cell_blk [_, _, _, _, _, _] rfl | exact cell_blk [_, _, _, _, _, _, _] rfl | exact cell_blk [_, _, _, _, _, _, _, _] rfl | exact cellR_blk (by assumption) rfl)) ?_
    refine wl_y rfl (y_lenSl Try.underlying87 rfl) ?_
    refine wl_y rfl (y_lss rfl rfl) ?_
    refine wl_nil ?_
    refine wq_then ?_
    refine wc_cond rfl (fun hc18 => ?_) (fun hc18 => ?_)
    ·
      simp at hc18
      refine wc_skip ?_
      refine wq_then ?_
      refine wc_seq ?_
      refine wc_block ?_
      refine wc_seq ?_
      refine wc_quiet MO (by kernel_rfl) (Hp.drawless _ _ _) ?_
      obtain ⟨z, hz⟩ : ∃ z, x.RI[i]? = some z := ⟨_, List.getElem?_eq_getElem (by omega)⟩
      obtain ⟨k9, j, hk9, hj, hzj⟩ := hx.job hz
      have hk9l := (List.getElem?_eq_some_iff.1 hj).1
      refine wt_y rfl (y_move rfl) ?_
      refine wt_y rfl (y_nilCheck rfl) ?_
      refine wt_y rfl (y_fieldAddr F54_0 rfl) ?_
      refine wt_y rfl (y_load NA49 rfl (by first | exact cell_blk [] rfl | exact cell_blk [_] rfl | exact cell_blk [_, _] rfl | exact cell_blk [_, _, _] rfl | exact cell_blk [_, _, _, _] rfl | exact cell_blk [_, _, _, _, _] rfl | exact cell_blk [_, _, _, _, _, _] rfl | exact cell_blk [_, _, _, _, _, _, _] rfl | exact cell_blk [_, _, _, _, _, _, _, _] rfl | exact cellR_blk (by assumption) rfl)) ?_
      refine wt_y rfl (y_move rfl) ?_
      refine wt_y rfl (y_nilCheck rfl) ?_
      refine wt_y rfl (y_fieldAddr F54_1 rfl) ?_
      refine wt_y rfl (y_load NA50 rfl (by first | exact cell_blk [] rfl | exact cell_blk [_] rfl | exact cell_blk [_, _] rfl | exact cell_blk [_, _, _] rfl | exact cell_blk [_, _, _, _] rfl | exact cell_blk [_, _, _, _, _] rfl | exact cell_blk [_, _, _, _, _, _] rfl | exact cell_blk [_, _, _, _, _, _, _] rfl | exact cell_blk [_, _, _, _, _, _, _, _] rfl | exact cellR_blk (by assumption) rfl)) ?_
      refine wt_y rfl (y_nilCheck rfl) ?_
      refine wt_y rfl (y_fieldAddr F89_1 rfl) ?_
      refine wt_y rfl (y_load NA87 rfl (by first | exact cell_blk [] rfl | exact cell_blk [_] rfl | exact cell_blk [_, _] rfl | exact cell_blk [_, _, _] rfl | exact cell_blk [_, _, _, _] rfl | exact cell_blk [_, _, _, _, _] rfl | exact cell_blk [_, _, _, _, _, _] rfl | exact cell_blk [_, _, _, _, _, _, _] rfl | exact cell_blk [_, _, _, _, _, _, _, _] rfl | exact cellR_blk (by assumption) rfl)) ?_
      refine wt_y rfl (y_move rfl) ?_
      refine wt_y rfl (y_indexAddr Try.underlying87 T112 rfl rfl rfl (by omega) (by first | assumption | exact fun _ _ => rfl | exact fun w hw => hw.slc_isSome [] (by omega) | exact fun w hw => hw.slc_isSome [_] (by omega) | exact fun w hw => hw.slc_isSome [_, _] (by omega) | exact fun w hw => hw.slc_isSome [_, _, _] (by omega) | exact fun w hw => hw.slc_isSome [_, _, _, _] (by omega) | exact fun w hw => hw.slc_isSome [_, _, _, _, _] (by omega) | exact fun w hw => hw.slc_isSome [_, _, _, _, _, _] (by omega) | exact fun w hw => hw.slc_isSome [_, _, _, _, _, _, _] (by omega) | exact fun w hw => hw.slc_isSome [_, _, _, _, _, _, _, _] (by omega))) ?_
      refine wt_y rfl (y_fieldAddr_adr F112_0 rfl) ?_
      refine wt_y rfl (y_load NA3 rfl (by first | exact cell_own [] (rows_get encR_len hz rfl) | exact cell_own [_] (rows_get encR_len hz rfl) | exact cell_own [_, _] (rows_get encR_len hz rfl) | exact cell_own [_, _, _] (rows_get encR_len hz rfl) | exact cell_own [_, _, _, _] (rows_get encR_len hz rfl) | exact cell_own [_, _, _, _, _] (rows_get encR_len hz rfl) | exact cell_own [_, _, _, _, _, _] (rows_get encR_len hz rfl) | exact cell_own [_, _, _, _, _, _, _] (rows_get encR_len hz rfl) | exact cell_own [_, _, _, _, _, _, _, _] (rows_get encR_len hz rfl))) ?_
      refine wt_same 35 (vI (k9 : Nat)) rfl (by rw [hk9]) ?_
      refine wt_y rfl (y_indexAddr Try.underlying49 T30 rfl rfl rfl (by omega) (by first | assumption | exact fun _ _ => rfl | exact fun w hw => hw.slc_isSome [] (by omega) | exact fun w hw => hw.slc_isSome [_] (by omega) | exact fun w hw => hw.slc_isSome [_, _] (by omega) | exact fun w hw => hw.slc_isSome [_, _, _] (by omega) | exact fun w hw => hw.slc_isSome [_, _, _, _] (by omega) | exact fun w hw => hw.slc_isSome [_, _, _, _, _] (by omega) | exact fun w hw => hw.slc_isSome [_, _, _, _, _, _] (by omega) | exact fun w hw => hw.slc_isSome [_, _, _, _, _, _, _] (by omega) | exact fun w hw => hw.slc_isSome [_, _, _, _, _, _, _, _] (by omega))) ?_
      refine wt_y rfl (y_fieldAddr_adr F30_0 rfl) ?_
      refine wt_y rfl (y_load NA9 rfl (by first | exact cell_own [] (rows_get encJ_len hj rfl) | exact cell_own [_] (rows_get encJ_len hj rfl) | exact cell_own [_, _] (rows_get encJ_len hj rfl) | exact cell_own [_, _, _] (rows_get encJ_len hj rfl) | exact cell_own [_, _, _, _] (rows_get encJ_len hj rfl) | exact cell_own [_, _, _, _, _] (rows_get encJ_len hj rfl) | exact cell_own [_, _, _, _, _, _] (rows_get encJ_len hj rfl) | exact cell_own [_, _, _, _, _, _, _] (rows_get encJ_len hj rfl) | exact cell_own [_, _, _, _, _, _, _, _] (rows_get encJ_len hj rfl))) ?_
      refine wt_y rfl (y_move rfl) ?_
      refine wt_y rfl (y_eqlS rfl rfl) ?_
      refine wt_nil ?_
      refine wq_then ?_
      refine wc_cond rfl (fun hc40 => ?_) (fun hc40 => ?_)
      ·
        simp at hc40
        refine wc_seq ?_
        refine wc_region ?_
        refine wl_y rfl (y_assign rfl) ?_
        refine wl_nil ?_
        refine wq_then ?_
        refine wc_ret ?_
        refine wq_block_ret (wq_then_ret (wq_then_ret (wq_block_ret (wq_then_ret ?_))))
        refine wq_ret1 rfl rfl (fun w hw => ?_)
        exact ⟨(), trivial, by rw [knows_q hx hz (by rw [hzj]; exact hc40)], rf_shut2 x hx hw⟩
      ·
        simp at hc40
        refine wc_skip ?_
        refine wq_block_normal ?_
        refine wq_then ?_
        refine wc_region ?_
        refine wl_y rfl (y_move rfl) ?_
        refine wl_y rfl (y_add rfl rfl (by omega)) ?_
        refine wl_y rfl (y_assign rfl) ?_
        refine wl_nil ?_
        exact wq_round (i + 1) (by omega) ⟨by omega, step_of hall hz (by rw [hzj]; exact hc40)⟩ ⟨rfl, rfl, rfl, trivial⟩ (fun w hw => hw)
    ·
      simp at hc18
      refine wc_exit ?_
      refine wq_then_exit (wq_then_exit (wq_block_exit ?_))
      refine wq_then ?_
      refine wc_seq ?_
      refine wc_seq ?_
      refine wc_region ?_
      refine wl_y rfl (y_assign rfl) ?_
      refine wl_nil ?_
      refine wq_then ?_
      refine wc_block ?_
      refine wc_loop (α := Nat) (fun y => y ≤ x.ws.length ∧ ∀ m p, m < y → x.ws[m]? = some p → ∀ j ∈ p.2.xs, j.key ≠ k) [(0, _), (1, _)] (fun y => [(6, vI y)]) (fun y => Hp w0 K (rfAs2 b s x oc ot)) (fun y => x.ws.length - y) 0 ?_ ⟨rfl, rfl, rfl, trivial⟩ ?_ ?_
      · exact ⟨Nat.zero_le _, fun j _ hj => absurd hj (Nat.not_lt_zero _)⟩
      · exact fun w hw => hw
      · rintro a ⟨ha, halw⟩
        refine wc_seq ?_
        refine wc_seq ?_
        refine wc_region ?_
        refine wl_y rfl (y_move rfl) ?_
        refine wl_y rfl (y_move rfl) ?_
        refine wl_y rfl (y_nilCheck rfl) ?_
        refine wl_y rfl (y_fieldAddr F54_2 rfl) ?_
        refine wl_y rfl (y_load NA51 rfl (by first | exact cell_blk [] rfl | exact cell_blk [_] rfl | exact cell_blk [_, _] rfl | exact cell_blk [_, _, _] rfl | exact cell_blk [_, _, _, _] rfl | exact cell_blk [_, _, _, _, _] rfl | exact cell_blk [_, _, _, _, _, _] rfl | exact cell_blk [_, _, _, _, _, _, _] rfl | exact cell_blk [_, _, _, _, _, _, _, _] rfl | exact cellR_blk (by assumption) rfl)) ?_
        refine wl_y rfl (y_lenSl Try.underlying51 rfl) ?_
        refine wl_y rfl (y_lss rfl rfl) ?_
        refine wl_nil ?_
        refine wq_then ?_
        refine wc_cond rfl (fun hc47 => ?_) (fun hc47 => ?_)
        ·
          simp at hc47
          refine wc_skip ?_
          refine wq_then ?_
          refine wc_seq ?_
          refine wc_block ?_
          refine wc_seq ?_
          refine wc_region ?_
          obtain ⟨p, hp⟩ : ∃ p, x.ws[a]? = some p := ⟨_, List.getElem?_eq_getElem (by omega)⟩
          have hpl := hx.xlen hI hp
          refine wl_y rfl (y_assign rfl) ?_
          refine wl_nil ?_
          refine wq_then ?_
          refine wc_block ?_
          refine wc_loop (α := Nat) (fun y => y ≤ p.2.xs.length ∧ ∀ m j, m < y → p.2.xs[m]? = some j → j.key ≠ k) [(0, _), (1, _), (6, _)] (fun y => [(7, vI y)]) (fun y => Hp w0 K [blk b (.cells (rfC x) 54 (0, 0)), slc 30 3 x.ja x.jobs.length x.jc (x.jobs.flatMap encJ), blk x.qb (.cells [vI s.age, .slice oc.1 x.RI.length oc.2].toArray 89 (0, 0)), slc 112 3 oc.1 x.RI.length oc.2 (x.RI.flatMap encR), slc 83 2 x.wa x.ws.length x.wc (x.ws.flatMap encW), blk x.tb (.cells (rtCells s.t.ref ot).toArray 48 (0, 0)), slc 36 6 ot.1 s.t.ref.l.length ot.2 (s.t.ref.l.flatMap encL), slc 30 3 p.2.a p.2.xs.length p.2.cap (p.2.xs.flatMap encJ), rowsA (x.ws.eraseIdx a)]) (fun y => p.2.xs.length - y) 0 ?_ ⟨rfl, rfl, rfl, rfl, trivial⟩ ?_ ?_
          · exact ⟨Nat.zero_le _, fun j _ hj => absurd hj (Nat.not_lt_zero _)⟩
          · exact fun w hw => (rows_outI hp (hw.sub (by (repeat (first | exact pt_nil | apply pt0 | apply pt1 | apply pt2 | apply pt3 | apply pt4 | apply pt5 | apply pt6 | apply pt7 | apply pt8 | apply pt9 | apply pt10 | apply pt11 | apply pt12 | apply pt13 | apply pt14 | apply pt15 | apply pt16 | apply pt17))) : Hp w0 K (rowsA x.ws :: [blk b (.cells (rfC x) 54 (0, 0)), slc 30 3 x.ja x.jobs.length x.jc (x.jobs.flatMap encJ), blk x.qb (.cells [vI s.age, .slice oc.1 x.RI.length oc.2].toArray 89 (0, 0)), slc 112 3 oc.1 x.RI.length oc.2 (x.RI.flatMap encR), slc 83 2 x.wa x.ws.length x.wc (x.ws.flatMap encW), blk x.tb (.cells (rtCells s.t.ref ot).toArray 48 (0, 0)), slc 36 6 ot.1 s.t.ref.l.length ot.2 (s.t.ref.l.flatMap encL)]) w)).sub (by (repeat (first | exact pt_nil | apply pt0 | apply pt1 | apply pt2 | apply pt3 | apply pt4 | apply pt5 | apply pt6 | apply pt7 | apply pt8 | apply pt9 | apply pt10 | apply pt11 | apply pt12 | apply pt13 | apply pt14 | apply pt15 | apply pt16 | apply pt17)))
          · rintro c ⟨hc, halc⟩
            refine wc_seq ?_
            refine wc_seq ?_
            refine wc_region ?_
            refine wl_y rfl (y_move rfl) ?_
            refine wl_y rfl (y_move rfl) ?_
            refine wl_y rfl (y_nilCheck rfl) ?_
            refine wl_y rfl (y_fieldAddr F54_2 rfl) ?_
            refine wl_y rfl (y_load NA51 rfl (by first | exact cell_blk [] rfl | exact cell_blk [_] rfl | exact cell_blk [_, _] rfl | exact cell_blk [_, _, _] rfl | exact cell_blk [_, _, _, _] rfl | exact cell_blk [_, _, _, _, _] rfl | exact cell_blk [_, _, _, _, _, _] rfl | exact cell_blk [_, _, _, _, _, _, _] rfl | exact cell_blk [_, _, _, _, _, _, _, _] rfl | exact cellR_blk (by assumption) rfl)) ?_
            refine wl_y rfl (y_move rfl) ?_
            refine wl_y rfl (y_indexAddr Try.underlying51 T83 rfl rfl rfl (by omega) (by first | assumption | exact fun _ _ => rfl | exact fun w hw => hw.slc_isSome [] (by omega) | exact fun w hw => hw.slc_isSome [_] (by omega) | exact fun w hw => hw.slc_isSome [_, _] (by omega) | exact fun w hw => hw.slc_isSome [_, _, _] (by omega) | exact fun w hw => hw.slc_isSome [_, _, _, _] (by omega) | exact fun w hw => hw.slc_isSome [_, _, _, _, _] (by omega) | exact fun w hw => hw.slc_isSome [_, _, _, _, _, _] (by omega) | exact fun w hw => hw.slc_isSome [_, _, _, _, _, _, _] (by omega) | exact fun w hw => hw.slc_isSome [_, _, _, _, _, _, _, _] (by omega))) ?_
            refine wl_y rfl (y_fieldAddr_adr F83_1 rfl) ?_
            refine wl_y rfl (y_load NA49 rfl (by first | exact cell_own [] (rows_get encW_len hp rfl) | exact cell_own [_] (rows_get encW_len hp rfl) | exact cell_own [_, _] (rows_get encW_len hp rfl) | exact cell_own [_, _, _] (rows_get encW_len hp rfl) | exact cell_own [_, _, _, _] (rows_get encW_len hp rfl) | exact cell_own [_, _, _, _, _] (rows_get encW_len hp rfl) | exact cell_own [_, _, _, _, _, _] (rows_get encW_len hp rfl) | exact cell_own [_, _, _, _, _, _, _] (rows_get encW_len hp rfl) | exact cell_own [_, _, _, _, _, _, _, _] (rows_get encW_len hp rfl))) ?_
            refine wl_y rfl (y_lenSl Try.underlying49 rfl) ?_
            refine wl_y rfl (y_lss rfl rfl) ?_
            refine wl_nil ?_
            refine wq_then ?_
            refine wc_cond rfl (fun hc60 => ?_) (fun hc60 => ?_)
            ·
              simp at hc60
              refine wc_skip ?_
              refine wq_then ?_
              refine wc_seq ?_
              refine wc_block ?_
              refine wc_seq ?_
              refine wc_region ?_
              obtain ⟨j, hj⟩ : ∃ j, p.2.xs[c]? = some j := ⟨_, List.getElem?_eq_getElem (by omega)⟩
              refine wl_y rfl (y_move rfl) ?_
              refine wl_y rfl (y_nilCheck rfl) ?_
              refine wl_y rfl (y_fieldAddr F54_2 rfl) ?_
              refine wl_y rfl (y_load NA51 rfl (by first | exact cell_blk [] rfl | exact cell_blk [_] rfl | exact cell_blk [_, _] rfl | exact cell_blk [_, _, _] rfl | exact cell_blk [_, _, _, _] rfl | exact cell_blk [_, _, _, _, _] rfl | exact cell_blk [_, _, _, _, _, _] rfl | exact cell_blk [_, _, _, _, _, _, _] rfl | exact cell_blk [_, _, _, _, _, _, _, _] rfl | exact cellR_blk (by assumption) rfl)) ?_
              refine wl_y rfl (y_move rfl) ?_
              refine wl_y rfl (y_indexAddr Try.underlying51 T83 rfl rfl rfl (by omega) (by first | assumption | exact fun _ _ => rfl | exact fun w hw => hw.slc_isSome [] (by omega) | exact fun w hw => hw.slc_isSome [_] (by omega) | exact fun w hw => hw.slc_isSome [_, _] (by omega) | exact fun w hw => hw.slc_isSome [_, _, _] (by omega) | exact fun w hw => hw.slc_isSome [_, _, _, _] (by omega) | exact fun w hw => hw.slc_isSome [_, _, _, _, _] (by omega) | exact fun w hw => hw.slc_isSome [_, _, _, _, _, _] (by omega) | exact fun w hw => hw.slc_isSome [_, _, _, _, _, _, _] (by omega) | exact fun w hw => hw.slc_isSome [_, _, _, _, _, _, _, _] (by omega))) ?_
              refine wl_y rfl (y_fieldAddr_adr F83_1 rfl) ?_
              refine wl_y rfl (y_load NA49 rfl (by first | exact cell_own [] (rows_get encW_len hp rfl) | exact cell_own [_] (rows_get encW_len hp rfl) | exact cell_own [_, _] (rows_get encW_len hp rfl) | exact cell_own [_, _, _] (rows_get encW_len hp rfl) | exact cell_own [_, _, _, _] (rows_get encW_len hp rfl) | exact cell_own [_, _, _, _, _] (rows_get encW_len hp rfl) | exact cell_own [_, _, _, _, _, _] (rows_get encW_len hp rfl) | exact cell_own [_, _, _, _, _, _, _] (rows_get encW_len hp rfl) | exact cell_own [_, _, _, _, _, _, _, _] (rows_get encW_len hp rfl))) ?_
              refine wl_y rfl (y_move rfl) ?_
              refine wl_y rfl (y_indexAddr Try.underlying49 T30 rfl rfl rfl (by omega) (by first | assumption | exact fun _ _ => rfl | exact fun w hw => hw.slc_isSome [] (by omega) | exact fun w hw => hw.slc_isSome [_] (by omega) | exact fun w hw => hw.slc_isSome [_, _] (by omega) | exact fun w hw => hw.slc_isSome [_, _, _] (by omega) | exact fun w hw => hw.slc_isSome [_, _, _, _] (by omega) | exact fun w hw => hw.slc_isSome [_, _, _, _, _] (by omega) | exact fun w hw => hw.slc_isSome [_, _, _, _, _, _] (by omega) | exact fun w hw => hw.slc_isSome [_, _, _, _, _, _, _] (by omega) | exact fun w hw => hw.slc_isSome [_, _, _, _, _, _, _, _] (by omega))) ?_
              refine wl_y rfl (y_fieldAddr_adr F30_0 rfl) ?_
              refine wl_y rfl (y_load NA9 rfl (by first | exact cell_own [] (rows_get encJ_len hj rfl) | exact cell_own [_] (rows_get encJ_len hj rfl) | exact cell_own [_, _] (rows_get encJ_len hj rfl) | exact cell_own [_, _, _] (rows_get encJ_len hj rfl) | exact cell_own [_, _, _, _] (rows_get encJ_len hj rfl) | exact cell_own [_, _, _, _, _] (rows_get encJ_len hj rfl) | exact cell_own [_, _, _, _, _, _] (rows_get encJ_len hj rfl) | exact cell_own [_, _, _, _, _, _, _] (rows_get encJ_len hj rfl) | exact cell_own [_, _, _, _, _, _, _, _] (rows_get encJ_len hj rfl))) ?_
              refine wl_y rfl (y_move rfl) ?_
              refine wl_y rfl (y_eqlS rfl rfl) ?_
              refine wl_nil ?_
              refine wq_then ?_
              refine wc_cond rfl (fun hc76 => ?_) (fun hc76 => ?_)
              ·
                simp at hc76
                refine wc_seq ?_
                refine wc_region ?_
                refine wl_y rfl (y_assign rfl) ?_
                refine wl_nil ?_
                refine wq_then ?_
                refine wc_ret ?_
                refine wq_block_ret (wq_then_ret (wq_then_ret (wq_block_ret (wq_block_ret (wq_then_ret (wq_then_ret (wq_block_ret (wq_then_ret ?_))))))))
                refine wq_ret1 rfl rfl (fun w hw => ?_)
                exact ⟨(), trivial, by rw [knows_w hx hp hj hc76], rf_shut2 x hx ((rows_backI (As := [blk b (.cells (rfC x) 54 (0, 0)), slc 30 3 x.ja x.jobs.length x.jc (x.jobs.flatMap encJ), blk x.qb (.cells [vI s.age, .slice oc.1 x.RI.length oc.2].toArray 89 (0, 0)), slc 112 3 oc.1 x.RI.length oc.2 (x.RI.flatMap encR), slc 83 2 x.wa x.ws.length x.wc (x.ws.flatMap encW), blk x.tb (.cells (rtCells s.t.ref ot).toArray 48 (0, 0)), slc 36 6 ot.1 s.t.ref.l.length ot.2 (s.t.ref.l.flatMap encL)]) hp (hw.sub (by (repeat (first | exact pt_nil | apply pt0 | apply pt1 | apply pt2 | apply pt3 | apply pt4 | apply pt5 | apply pt6 | apply pt7 | apply pt8 | apply pt9 | apply pt10 | apply pt11 | apply pt12 | apply pt13 | apply pt14 | apply pt15 | apply pt16 | apply pt17))))).sub (by (repeat (first | exact pt_nil | apply pt0 | apply pt1 | apply pt2 | apply pt3 | apply pt4 | apply pt5 | apply pt6 | apply pt7 | apply pt8 | apply pt9 | apply pt10 | apply pt11 | apply pt12 | apply pt13 | apply pt14 | apply pt15 | apply pt16 | apply pt17))))⟩
              ·
                simp at hc76
                refine wc_skip ?_
                refine wq_block_normal ?_
                refine wq_then ?_
                refine wc_region ?_
                refine wl_y rfl (y_move rfl) ?_
                refine wl_y rfl (y_add rfl rfl (by omega)) ?_
                refine wl_y rfl (y_assign rfl) ?_
                refine wl_nil ?_
                exact wq_round (c + 1) (by omega) ⟨by omega, step_of halc hj hc76⟩ ⟨rfl, rfl, rfl, rfl, trivial⟩ (fun w hw => hw)
            ·
              simp at hc60
              refine wc_exit ?_
              refine wq_then_exit (wq_then_exit (wq_block_exit ?_))
              refine wq_block_normal ?_
              refine wq_then ?_
              refine wc_region ?_
              refine wl_y rfl (y_move rfl) ?_
              refine wl_y rfl (y_add rfl rfl (by omega)) ?_
              refine wl_y rfl (y_assign rfl) ?_
              refine wl_nil ?_
              exact wq_round (a + 1) (by omega) ⟨by omega, step_of halw hp (all_row (by omega) halc)⟩ ⟨rfl, rfl, rfl, trivial⟩ (fun w hw => (rows_backI (As := [blk b (.cells (rfC x) 54 (0, 0)), slc 30 3 x.ja x.jobs.length x.jc (x.jobs.flatMap encJ), blk x.qb (.cells [vI s.age, .slice oc.1 x.RI.length oc.2].toArray 89 (0, 0)), slc 112 3 oc.1 x.RI.length oc.2 (x.RI.flatMap encR), slc 83 2 x.wa x.ws.length x.wc (x.ws.flatMap encW), blk x.tb (.cells (rtCells s.t.ref ot).toArray 48 (0, 0)), slc 36 6 ot.1 s.t.ref.l.length ot.2 (s.t.ref.l.flatMap encL)]) hp (hw.sub (by (repeat (first | exact pt_nil | apply pt0 | apply pt1 | apply pt2 | apply pt3 | apply pt4 | apply pt5 | apply pt6 | apply pt7 | apply pt8 | apply pt9 | apply pt10 | apply pt11 | apply pt12 | apply pt13 | apply pt14 | apply pt15 | apply pt16 | apply pt17))))).sub (by (repeat (first | exact pt_nil | apply pt0 | apply pt1 | apply pt2 | apply pt3 | apply pt4 | apply pt5 | apply pt6 | apply pt7 | apply pt8 | apply pt9 | apply pt10 | apply pt11 | apply pt12 | apply pt13 | apply pt14 | apply pt15 | apply pt16 | apply pt17))))
        ·
          simp at hc47
          refine wc_exit ?_
          refine wq_then_exit (wq_then_exit (wq_block_exit ?_))
          refine wq_then ?_
          refine wc_seq ?_
          refine wc_seq ?_
          refine wc_region ?_
          refine wl_y rfl (y_assign rfl) ?_
          refine wl_nil ?_
          refine wq_then ?_
          refine wc_block ?_
          refine wc_loop (α := Nat) (fun y => y ≤ s.t.ref.l.length ∧ ∀ j l, j < y → s.t.ref.l[j]? = some l → l.job.key ≠ k) [(0, _), (1, _)] (fun y => [(8, vI y)]) (fun y => Hp w0 K (rfAs2 b s x oc ot)) (fun y => s.t.ref.l.length - y) 0 ?_ ⟨rfl, rfl, rfl, trivial⟩ ?_ ?_
          · exact ⟨Nat.zero_le _, fun j _ hj => absurd hj (Nat.not_lt_zero _)⟩
          · exact fun w hw => hw
          · rintro d ⟨hd, halt⟩
            refine wc_seq ?_
            refine wc_seq ?_
            refine wc_region ?_
            refine wl_y rfl (y_move rfl) ?_
            refine wl_y rfl (y_move rfl) ?_
            refine wl_y rfl (y_nilCheck rfl) ?_
            refine wl_y rfl (y_fieldAddr F54_3 rfl) ?_
            refine wl_y rfl (y_load NA52 rfl (by first | exact cell_blk [] rfl | exact cell_blk [_] rfl | exact cell_blk [_, _] rfl | exact cell_blk [_, _, _] rfl | exact cell_blk [_, _, _, _] rfl | exact cell_blk [_, _, _, _, _] rfl | exact cell_blk [_, _, _, _, _, _] rfl | exact cell_blk [_, _, _, _, _, _, _] rfl | exact cell_blk [_, _, _, _, _, _, _, _] rfl | exact cellR_blk (by assumption) rfl)) ?_
            refine wl_y rfl (y_nilCheck rfl) ?_
            refine wl_y rfl (y_fieldAddr F48_0 rfl) ?_
            refine wl_y rfl (y_load NA39 rfl (by first | exact cell_blk [] rfl | exact cell_blk [_] rfl | exact cell_blk [_, _] rfl | exact cell_blk [_, _, _] rfl | exact cell_blk [_, _, _, _] rfl | exact cell_blk [_, _, _, _, _] rfl | exact cell_blk [_, _, _, _, _, _] rfl | exact cell_blk [_, _, _, _, _, _, _] rfl | exact cell_blk [_, _, _, _, _, _, _, _] rfl | exact cellR_blk (by assumption) rfl)) ?_
            refine wl_y rfl (y_lenSl Try.underlying39 rfl) ?_
            refine wl_y rfl (y_lss rfl rfl) ?_
            refine wl_nil ?_
            refine wq_then ?_
            refine wc_cond rfl (fun hc86 => ?_) (fun hc86 => ?_)
            ·
              simp at hc86
              refine wc_skip ?_
              refine wq_then ?_
              refine wc_seq ?_
              refine wc_block ?_
              refine wc_seq ?_
              refine wc_region ?_
              obtain ⟨l, hl⟩ : ∃ l, s.t.ref.l[d]? = some l := ⟨_, List.getElem?_eq_getElem (by omega)⟩
              refine wl_y rfl (y_move rfl) ?_
              refine wl_y rfl (y_nilCheck rfl) ?_
              refine wl_y rfl (y_fieldAddr F54_3 rfl) ?_
              refine wl_y rfl (y_load NA52 rfl (by first | exact cell_blk [] rfl | exact cell_blk [_] rfl | exact cell_blk [_, _] rfl | exact cell_blk [_, _, _] rfl | exact cell_blk [_, _, _, _] rfl | exact cell_blk [_, _, _, _, _] rfl | exact cell_blk [_, _, _, _, _, _] rfl | exact cell_blk [_, _, _, _, _, _, _] rfl | exact cell_blk [_, _, _, _, _, _, _, _] rfl | exact cellR_blk (by assumption) rfl)) ?_
              refine wl_y rfl (y_nilCheck rfl) ?_
              refine wl_y rfl (y_fieldAddr F48_0 rfl) ?_
              refine wl_y rfl (y_load NA39 rfl (by first | exact cell_blk [] rfl | exact cell_blk [_] rfl | exact cell_blk [_, _] rfl | exact cell_blk [_, _, _] rfl | exact cell_blk [_, _, _, _] rfl | exact cell_blk [_, _, _, _, _] rfl | exact cell_blk [_, _, _, _, _, _] rfl | exact cell_blk [_, _, _, _, _, _, _] rfl | exact cell_blk [_, _, _, _, _, _, _, _] rfl | exact cellR_blk (by assumption) rfl)) ?_
              refine wl_y rfl (y_move rfl) ?_
              refine wl_y rfl (y_indexAddr Try.underlying39 T36 rfl rfl rfl (by omega) (by first | assumption | exact fun _ _ => rfl | exact fun w hw => hw.slc_isSome [] (by omega) | exact fun w hw => hw.slc_isSome [_] (by omega) | exact fun w hw => hw.slc_isSome [_, _] (by omega) | exact fun w hw => hw.slc_isSome [_, _, _] (by omega) | exact fun w hw => hw.slc_isSome [_, _, _, _] (by omega) | exact fun w hw => hw.slc_isSome [_, _, _, _, _] (by omega) | exact fun w hw => hw.slc_isSome [_, _, _, _, _, _] (by omega) | exact fun w hw => hw.slc_isSome [_, _, _, _, _, _, _] (by omega) | exact fun w hw => hw.slc_isSome [_, _, _, _, _, _, _, _] (by omega))) ?_
              refine wl_y rfl (y_fieldAddr_adr F36_0 rfl) ?_
              refine wl_y rfl (y_fieldAddr_adr F30_0 rfl) ?_
              refine wl_y rfl (y_load NA9 rfl (by first | exact cell_own [] (rows_get encL_len hl rfl) | exact cell_own [_] (rows_get encL_len hl rfl) | exact cell_own [_, _] (rows_get encL_len hl rfl) | exact cell_own [_, _, _] (rows_get encL_len hl rfl) | exact cell_own [_, _, _, _] (rows_get encL_len hl rfl) | exact cell_own [_, _, _, _, _] (rows_get encL_len hl rfl) | exact cell_own [_, _, _, _, _, _] (rows_get encL_len hl rfl) | exact cell_own [_, _, _, _, _, _, _] (rows_get encL_len hl rfl) | exact cell_own [_, _, _, _, _, _, _, _] (rows_get encL_len hl rfl))) ?_
              refine wl_y rfl (y_move rfl) ?_
              refine wl_y rfl (y_eqlS rfl rfl) ?_
              refine wl_nil ?_
              refine wq_then ?_
              refine wc_cond rfl (fun hc102 => ?_) (fun hc102 => ?_)
              ·
                simp at hc102
                refine wc_seq ?_
                refine wc_region ?_
                refine wl_y rfl (y_assign rfl) ?_
                refine wl_nil ?_
                refine wq_then ?_
                refine wc_ret ?_
                refine wq_block_ret (wq_then_ret (wq_then_ret (wq_block_ret (wq_then_ret ?_))))
                refine wq_ret1 rfl rfl (fun w hw => ?_)
                exact ⟨(), trivial, by rw [knows_t hl hc102], rf_shut2 x hx hw⟩
              ·
                simp at hc102
                refine wc_skip ?_
                refine wq_block_normal ?_
                refine wq_then ?_
                refine wc_region ?_
                refine wl_y rfl (y_move rfl) ?_
                refine wl_y rfl (y_add rfl rfl (by omega)) ?_
                refine wl_y rfl (y_assign rfl) ?_
                refine wl_nil ?_
                exact wq_round (d + 1) (by omega) ⟨by omega, step_of halt hl hc102⟩ ⟨rfl, rfl, rfl, trivial⟩ (fun w hw => hw)
            ·
              simp at hc86
              refine wc_exit ?_
              refine wq_then_exit (wq_then_exit (wq_block_exit ?_))
              refine wq_then ?_
              refine wc_seq ?_
              refine wc_region ?_
              refine wl_y rfl (y_assign rfl) ?_
              refine wl_nil ?_
              refine wq_then ?_
              refine wc_ret ?_
              refine wq_ret1 rfl rfl (fun w hw => ?_)
              exact ⟨(), trivial, by rw [knows_no hx (by omega) (by omega) (by omega) hall halw halt], rf_shut2 x hx hw⟩

end Go.Proofs.Ytfnpjmlpiedgdaa
