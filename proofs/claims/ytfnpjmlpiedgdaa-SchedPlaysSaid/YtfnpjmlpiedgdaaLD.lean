/-
  The reference's table: its leases by rising key; walks.
-/
import Derived.Test.YtfnpjmlpiedgdaaLC
namespace Go.Proofs.Ytfnpjmlpiedgdaa
open Go.Eng


theorem encL_one (x : Ls) : ∀ v ∈ encL x, v.oneCell' = true := by simp [encL, Value.oneCell']
theorem encJ_one (x : Jb) : ∀ v ∈ encJ x, v.oneCell' = true := by simp [encJ, Value.oneCell']
theorem E30 (x y : Jb) : EQ Try.prog 30 (encJ x) (encJ y) (decide (x = y)) :=
  eq_of (k := 2) (by kernel_rfl) rfl (ceq_struct Try.underlying30 (by kernel_rfl) (feq_one (by decide) NA9 rfl rfl (ceq_str Try.underlying9) (feq_one (by decide) NA3 rfl rfl (ceq_int Try.underlying3) (feq_one (by decide) NA3 rfl rfl (ceq_int Try.underlying3) feq_nil)))) (by
    obtain ⟨a, b, c⟩ := x
    obtain ⟨a', b', c'⟩ := y
    rw [Bool.eq_iff_iff]; simp)
theorem E36 (x y : Ls) : EQ Try.prog 36 (encL x) (encL y) (decide (x = y)) :=
  eq_of (k := 3) (by kernel_rfl) rfl (ceq_struct Try.underlying36 (by kernel_rfl) (feq_agg (lu := encJ x.job) (mv := encJ y.job) (by decide) AG30 rfl rfl (ceq_struct Try.underlying30 (by kernel_rfl) (feq_one (by decide) NA9 rfl rfl (ceq_str Try.underlying9) (feq_one (by decide) NA3 rfl rfl (ceq_int Try.underlying3) (feq_one (by decide) NA3 rfl rfl (ceq_int Try.underlying3) feq_nil))))
    (feq_one (by decide) NA9 rfl rfl (ceq_str Try.underlying9) (feq_one (by decide) NA3 rfl rfl (ceq_int Try.underlying3) (feq_one (by decide) NA3 rfl rfl (ceq_int Try.underlying3) feq_nil))))) (by
    obtain ⟨⟨a, b, c⟩, d, e, f⟩ := x
    obtain ⟨⟨a', b', c'⟩, d', e', f'⟩ := y
    rw [Bool.eq_iff_iff]; simp)
theorem take_same {α : Type} {l m : List α} {i : Nat} {x y : α} (h : l.take i = m.take i) (hx : l[i]? = some x) (hy : m[i]? = some y) (he : x = y) : l.take (i + 1) = m.take (i + 1) := by
  rw [List.take_add_one, List.take_add_one, h, hx, hy, he]
theorem step_of {α : Type} {p : α → Prop} {l : List α} {i : Nat} {x : α} (hall : ∀ j z, j < i → l[j]? = some z → p z) (hx : l[i]? = some x) (hp : p x) : ∀ j z, j < i + 1 → l[j]? = some z → p z := fun j z hj hz => by
  rcases Nat.lt_or_ge j i with h | h
  · exact hall j z h hz
  · obtain rfl : j = i := by omega
    rw [hx] at hz; cases hz; exact hp

structure Rt where
  l : List Ls
  ttl : Int
  epoch : Int
abbrev rtCells (r : Rt) (oc : Option Addr × Nat) : List Value := [.slice oc.1 r.l.length oc.2, vI r.ttl, vI r.epoch]
abbrev rtAs (b : Nat) (r : Rt) (oc : Option Addr × Nat) : List Atom := [blk b (.cells (rtCells r oc).toArray 48 (0, 0)), slc 36 6 oc.1 r.l.length oc.2 (r.l.flatMap encL)]
def rtA (b : Nat) (r : Rt) : Atom := fun h => ∃ oc, Own (rtAs b r oc) h
theorem rt_open {w0 : World} {O : Nat → Prop} {b : Nat} {r : Rt} {As : List Atom} : ∀ w, Hp w0 O (rtA b r :: As) w → ∃ oc, Hp w0 O (rtAs b r oc ++ As) w := ex_open (f := rtAs b r)
theorem rt_shut {w0 : World} {O : Nat → Prop} {b : Nat} {r : Rt} {As : List Atom} {w : World} (oc : Option Addr × Nat) (h : Hp w0 O (rtAs b r oc ++ As) w) : Hp w0 O (rtA b r :: As) w := ex_shut (f := rtAs b r) oc h
def Rt.ok (r : Rt) : Prop := 1 ≤ r.ttl ∧ r.ttl ≤ 1000000 ∧ 0 ≤ r.epoch ∧ r.epoch ≤ 1000000000 ∧ r.l.length ≤ 1000
/-- Is it not ahead of the key? -/
def geK (key : Str) (x : Ls) : Bool := !Op.bytesLess x.job.key key
def Rt.at (r : Rt) (key : Str) : Nat := r.l.findIdx (geK key)
def Rt.has (r : Rt) (key : Str) : Bool := match r.l[r.at key]? with
  | some x => decide (x.job.key = key)
  | none => false
theorem at_hit {r : Rt} {key : Str} {i : Nat} {x : Ls} (hx : r.l[i]? = some x) (hp : geK key x = true) (hall : ∀ j z, j < i → r.l[j]? = some z → geK key z = false) : r.at key = i ∧ r.has key = decide (x.job.key = key) := by
  have e : r.at key = i := by
    unfold Rt.at
    obtain ⟨hl, hxe⟩ := List.getElem?_eq_some_iff.1 hx
    refine (List.findIdx_eq hl).2 ⟨by rw [hxe]; exact hp, fun j hj => ?_⟩
    have := hall j _ hj (List.getElem?_eq_getElem (by omega))
    rw [this]
  exact ⟨e, by rw [Rt.has, e, hx]⟩
theorem at_miss {r : Rt} {key : Str} {i : Nat} (hi : r.l.length ≤ i) (hall : ∀ j z, j < i → r.l[j]? = some z → geK key z = false) : r.at key = r.l.length ∧ r.has key = false := by
  have e : r.at key = r.l.length := by
    unfold Rt.at
    rw [List.findIdx_eq_length]
    intro x hx
    obtain ⟨j, hj⟩ := List.mem_iff_getElem?.1 hx
    exact hall j x (by have := (List.getElem?_eq_some_iff.1 hj).1; omega) hj
  exact ⟨e, by rw [Rt.has, e, List.getElem?_eq_none (Nat.le_refl _)]⟩
theorem at_le (r : Rt) (key : Str) : r.at key ≤ r.l.length := List.findIdx_le_length
theorem has_get {r : Rt} {key : Str} (h : r.has key = true) : ∃ x, r.l[r.at key]? = some x ∧ x.job.key = key := by
  unfold Rt.has at h
  split at h
  · rename_i x hx; exact ⟨x, hx, by simpa using h⟩
  · cases h
def Rt.lease (r : Rt) (j : Jb) (w : Str) (now : Int) : Ls := ⟨j, w, r.epoch + 1, now + r.ttl⟩
def Rt.grant (r : Rt) (j : Jb) (w : Str) (now : Int) : Rt × Ls × Int :=
  if nameE w = 0 then
    if timeB now = true then
      if r.has j.key = true then (r, noL, 16)
      else ({ r with epoch := r.epoch + 1, l := r.l.take (r.at j.key) ++ [r.lease j w now] ++ r.l.drop (r.at j.key) }, r.lease j w now, 0)
    else (r, noL, 1)
  else (r, noL, 14)
def Rt.get (r : Rt) (key : Str) : Ls := (r.l[r.at key]?).getD noL
def Rt.renew (r : Rt) (key : Str) (epoch now : Int) : Rt × Int :=
  if timeB now = true then
    if r.has key = true then
      if (r.get key).epoch = epoch ∧ ¬ (r.get key).upto < now then ({ r with l := r.l.set (r.at key) { r.get key with upto := now + r.ttl } }, 0) else (r, 44)
    else (r, 17)
  else (r, 1)
def Rt.finish (r : Rt) (key : Str) (epoch : Int) : Rt × Int :=
  if r.has key = true then
    if (r.get key).epoch = epoch then ({ r with l := r.l.eraseIdx (r.at key) }, 0) else (r, 44)
  else (r, 17)
def Rt.take (r : Rt) (p : Ls → Bool) : Rt × List Jb := ({ r with l := r.l.filter (fun x => !p x) }, (r.l.filter p).map (·.job))

set_option maxHeartbeats 1000000 in
theorem rnew_lo (n : Int) (hn : n < 1 ∨ 1000000 < n) :
    Ctr Try.prog 38 #[vI n] [] [] (fun _ : Unit => True) (fun _ => .tuple #[.pointer none, vI 1]) (fun _ => []) := by
  refine spec_start (n := 13) [(0, vI n)] Try.func38 rfl rfl ⟨rfl, trivial⟩ rfl ?_
  intro w0 K hR
  refine wc_seq ?_
  refine wc_region ?_
  refine wl_y rfl (y_assign rfl) ?_
  refine wl_y rfl (y_assign rfl) ?_
  refine wl_nil ?_
  refine wq_then ?_
  refine wc_seq ?_
  refine wc_seq ?_
  refine wc_region ?_
  refine wl_y rfl (y_move rfl) ?_
  refine wl_y rfl (y_lss rfl rfl) ?_
  refine wl_y rfl (y_move rfl) ?_
  apply wl_or 3 9 [(0, _)] (t := 6) rfl ⟨rfl, trivial⟩
  · intro hg6 hM9
    refine wl_sk rfl rfl rfl rfl ?_
    refine wl_sk rfl rfl rfl rfl ?_
    refine wl_y rfl (y_pick_t rfl rfl) ?_
    exact wl_weaken hM9 ⟨rfl, rfl, trivial⟩
  · intro hg6 hM9
    try (simp at hg6)
    refine wl_yg rfl rfl rfl (y_move rfl) ?_
    refine wl_yg rfl rfl rfl (y_gtr rfl rfl) ?_
    refine wl_y rfl (y_pick_f rfl rfl) ?_
    exact wl_weaken hM9 ⟨rfl, rfl, trivial⟩
  ·
    refine wl_nil ?_
    refine wq_then ?_
    refine wc_known 9 true rfl (by simp; omega) ?_
    refine wc_cond_true rfl ?_
    refine wc_seq ?_
    refine wc_region ?_
    refine wl_y rfl (y_assign rfl) ?_
    refine wl_y rfl (y_assign rfl) ?_
    refine wl_nil ?_
    refine wq_then ?_
    refine wc_ret ?_
    refine wq_then_ret ?_
    refine wq_ret2 rfl rfl rfl (fun w hw => ?_)
    exact ⟨(), trivial, rfl, hw⟩

set_option maxHeartbeats 1000000 in
theorem rnew_ok (n : Int) (h1 : 1 ≤ n) (h2 : n ≤ 1000000) :
    Ctr Try.prog 38 #[vI n] [] [] (fun _ : Nat => True) (fun b => .tuple #[ptr b, vI 0]) (fun b => [rtA b ⟨[], n, 0⟩]) := by
  refine spec_start (n := 13) [(0, vI n)] Try.func38 rfl rfl ⟨rfl, trivial⟩ rfl ?_
  intro w0 K hR
  refine wc_seq ?_
  refine wc_region ?_
  refine wl_y rfl (y_assign rfl) ?_
  refine wl_y rfl (y_assign rfl) ?_
  refine wl_nil ?_
  refine wq_then ?_
  refine wc_seq ?_
  refine wc_seq ?_
  refine wc_region ?_
  refine wl_y rfl (y_move rfl) ?_
  refine wl_y rfl (y_lss rfl rfl) ?_
  refine wl_y rfl (y_move rfl) ?_
  apply wl_or 3 9 [(0, _)] (t := 6) rfl ⟨rfl, trivial⟩
  · intro hg6 hM9
    refine wl_sk rfl rfl rfl rfl ?_
    refine wl_sk rfl rfl rfl rfl ?_
    refine wl_y rfl (y_pick_t rfl rfl) ?_
    exact wl_weaken hM9 ⟨rfl, rfl, trivial⟩
  · intro hg6 hM9
    try (simp at hg6)
    refine wl_yg rfl rfl rfl (y_move rfl) ?_
    refine wl_yg rfl rfl rfl (y_gtr rfl rfl) ?_
    refine wl_y rfl (y_pick_f rfl rfl) ?_
    exact wl_weaken hM9 ⟨rfl, rfl, trivial⟩
  ·
    refine wl_nil ?_
    refine wq_then ?_
    refine wc_known 9 false rfl (by simp; omega) ?_
    refine wc_cond_false rfl ?_
    refine wc_skip ?_
    refine wq_then ?_
    refine wc_seq ?_
    refine wc_region ?_
    refine wl_y rfl (y_move rfl) ?_
    refine wl_y rfl (y_build (cs := [_, _, _]) T48 PL48 rfl rfl rfl) ?_
    refine wl_w (fun _ _ => want_none) rfl (yw_box rfl rfl) (wl_ex fun b12 _ => ?_)
    refine wl_y rfl (y_assign rfl) ?_
    refine wl_y rfl (y_assign rfl) ?_
    refine wl_nil ?_
    refine wq_then ?_
    refine wc_ret ?_
    refine wq_ret2 rfl rfl rfl (fun w hw => ?_)
    exact ⟨b12, trivial, rfl, rt_shut (none, 0) (Hp.addNil [_] [] hw)⟩

set_option maxHeartbeats 1000000 in
theorem at_c (b : Nat) (r : Rt) (oc : Option Addr × Nat) (key : Str) (h5 : r.l.length ≤ 1000) :
    Ctr Try.prog 46 #[ptr b, vS key] [] (rtAs b r oc) (fun _ : Unit => True) (fun _ => .tuple #[vI (r.at key : Nat), vB (r.has key)]) (fun _ => rtAs b r oc) := by
  refine spec_start (n := 44) [(0, ptr b), (1, vS key)] Try.func46 rfl rfl ⟨rfl, rfl, trivial⟩ rfl ?_
  intro w0 K hR
  refine wc_seq ?_
  refine wc_region ?_
  refine wl_y rfl (y_assign rfl) ?_
  refine wl_y rfl (y_assign rfl) ?_
  refine wl_nil ?_
  refine wq_then ?_
  refine wc_seq ?_
  refine wc_seq ?_
  refine wc_region ?_
  refine wl_y rfl (y_assign rfl) ?_
  refine wl_nil ?_
  refine wq_then ?_
  refine wc_block ?_
  refine wc_loop (α := Nat) (fun y => y ≤ r.l.length ∧ ∀ j z, j < y → r.l[j]? = some z → geK key z = false) [(0, _), (1, _)] (fun y => [(6, vI y)]) (fun y => Hp w0 K (rtAs b r oc)) (fun y => r.l.length - y) 0 ?_ ⟨rfl, rfl, rfl, trivial⟩ ?_ ?_
  · exact ⟨Nat.zero_le _, fun j _ hj => absurd hj (Nat.not_lt_zero _)⟩
  · exact fun w hw => hw
  · rintro i ⟨hi, hall⟩
    refine wc_seq ?_
    refine wc_seq ?_
    refine wc_region ?_
    refine wl_y rfl (y_move rfl) ?_
    refine wl_y rfl (y_move rfl) ?_
    refine wl_y rfl (y_nilCheck rfl) ?_
    refine wl_y rfl (y_fieldAddr F48_0 rfl) ?_
    refine wl_y rfl (y_load NA39 rfl (by first | exact cell_blk [] rfl | exact cell_blk [_] rfl | exact cell_blk [_, _] rfl | exact cell_blk [_, _, _] rfl | exact cellR_blk (by assumption) rfl)) ?_
    refine wl_y rfl (y_lenSl Try.underlying39 rfl) ?_
    refine wl_y rfl (y_lss rfl rfl) ?_
    refine wl_nil ?_
    refine wq_then ?_
    refine wc_cond rfl (fun hc13 => ?_) (fun hc13 => ?_)
    ·
      simp at hc13
      refine wc_skip ?_
      refine wq_then ?_
      refine wc_seq ?_
      refine wc_block ?_
      refine wc_seq ?_
      refine wc_region ?_
      obtain ⟨x, hx⟩ : ∃ x, r.l[i]? = some x := ⟨_, List.getElem?_eq_getElem (by omega)⟩
      refine wl_y rfl (y_move rfl) ?_
      refine wl_y rfl (y_nilCheck rfl) ?_
      refine wl_y rfl (y_fieldAddr F48_0 rfl) ?_
      refine wl_y rfl (y_load NA39 rfl (by first | exact cell_blk [] rfl | exact cell_blk [_] rfl | exact cell_blk [_, _] rfl | exact cell_blk [_, _, _] rfl | exact cellR_blk (by assumption) rfl)) ?_
      refine wl_y rfl (y_move rfl) ?_
      refine wl_y rfl (y_indexAddr Try.underlying39 T36 rfl rfl rfl (by omega) (by first | assumption | exact fun _ _ => rfl | exact fun w hw => hw.slc_isSome [] (by omega) | exact fun w hw => hw.slc_isSome [_] (by omega) | exact fun w hw => hw.slc_isSome [_, _] (by omega) | exact fun w hw => hw.slc_isSome [_, _, _] (by omega))) ?_
      refine wl_y rfl (y_fieldAddr_adr F36_0 rfl) ?_
      refine wl_y rfl (y_fieldAddr_adr F30_0 rfl) ?_
      refine wl_y rfl (y_load NA9 rfl (by first | exact cell_own [] (rows_get encL_len hx rfl) | exact cell_own [_] (rows_get encL_len hx rfl) | exact cell_own [_, _] (rows_get encL_len hx rfl) | exact cell_own [_, _, _] (rows_get encL_len hx rfl))) ?_
      refine wl_y rfl (y_move rfl) ?_
      refine wl_y rfl (y_geqS rfl rfl) ?_
      refine wl_nil ?_
      refine wq_then ?_
      refine wc_cond rfl (fun hc26 => ?_) (fun hc26 => ?_)
      ·
        refine wc_seq ?_
        refine wc_quiet MO (by kernel_rfl) (Hp.drawless _ _ _) ?_
        refine wt_y rfl (y_move rfl) ?_
        refine wt_y rfl (y_move rfl) ?_
        refine wt_y rfl (y_nilCheck rfl) ?_
        refine wt_y rfl (y_fieldAddr F48_0 rfl) ?_
        refine wt_y rfl (y_load NA39 rfl (by first | exact cell_blk [] rfl | exact cell_blk [_] rfl | exact cell_blk [_, _] rfl | exact cell_blk [_, _, _] rfl | exact cellR_blk (by assumption) rfl)) ?_
        refine wt_y rfl (y_move rfl) ?_
        refine wt_y rfl (y_indexAddr Try.underlying39 T36 rfl rfl rfl (by omega) (by first | assumption | exact fun _ _ => rfl | exact fun w hw => hw.slc_isSome [] (by omega) | exact fun w hw => hw.slc_isSome [_] (by omega) | exact fun w hw => hw.slc_isSome [_, _] (by omega) | exact fun w hw => hw.slc_isSome [_, _, _] (by omega))) ?_
        refine wt_y rfl (y_fieldAddr_adr F36_0 rfl) ?_
        refine wt_y rfl (y_fieldAddr_adr F30_0 rfl) ?_
        refine wt_y rfl (y_load NA9 rfl (by first | exact cell_own [] (rows_get encL_len hx rfl) | exact cell_own [_] (rows_get encL_len hx rfl) | exact cell_own [_, _] (rows_get encL_len hx rfl) | exact cell_own [_, _, _] (rows_get encL_len hx rfl))) ?_
        refine wt_y rfl (y_move rfl) ?_
        refine wt_y rfl (y_eqlS rfl rfl) ?_
        refine wt_y rfl (y_assign rfl) ?_
        refine wt_y rfl (y_assign rfl) ?_
        refine wt_nil ?_
        refine wq_then ?_
        refine wc_ret ?_
        refine wq_block_ret (wq_then_ret (wq_then_ret (wq_block_ret (wq_then_ret ?_))))
        refine wq_ret2 rfl rfl rfl (fun w hw => ?_)
        obtain ⟨e1, e2⟩ := at_hit hx hc26 hall
        exact ⟨(), trivial, by rw [e1, e2], hw⟩
      ·
        refine wc_skip ?_
        refine wq_block_normal ?_
        refine wq_then ?_
        refine wc_region ?_
        refine wl_y rfl (y_move rfl) ?_
        refine wl_y rfl (y_add rfl rfl (by omega)) ?_
        refine wl_y rfl (y_assign rfl) ?_
        refine wl_nil ?_
        exact wq_round (i + 1) (by omega) ⟨by omega, step_of hall hx hc26⟩ ⟨rfl, rfl, rfl, trivial⟩ (fun w hw => hw)
    ·
      simp at hc13
      refine wc_exit ?_
      refine wq_then_exit (wq_then_exit (wq_block_exit ?_))
      refine wq_then ?_
      refine wc_seq ?_
      refine wc_region ?_
      refine wl_y rfl (y_move rfl) ?_
      refine wl_y rfl (y_nilCheck rfl) ?_
      refine wl_y rfl (y_fieldAddr F48_0 rfl) ?_
      refine wl_y rfl (y_load NA39 rfl (by first | exact cell_blk [] rfl | exact cell_blk [_] rfl | exact cell_blk [_, _] rfl | exact cell_blk [_, _, _] rfl | exact cellR_blk (by assumption) rfl)) ?_
      refine wl_y rfl (y_lenSl Try.underlying39 rfl) ?_
      refine wl_y rfl (y_assign rfl) ?_
      refine wl_y rfl (y_assign rfl) ?_
      refine wl_nil ?_
      refine wq_then ?_
      refine wc_ret ?_
      refine wq_ret2 rfl rfl rfl (fun w hw => ?_)
      obtain ⟨e1, e2⟩ := at_miss (show r.l.length ≤ i by omega) hall
      exact ⟨(), trivial, by rw [e1, e2], hw⟩


set_option maxHeartbeats 1000000 in
theorem rgrant_c (b : Nat) (r : Rt) (j : Jb) (wk : Str) (now : Int) (hr : r.ok) :
    Ctr Try.prog 45 #[ptr b, agJ j, vS wk, vI now] [] [rtA b r] (fun _ : Unit => True) (fun _ => .tuple #[agL (r.grant j wk now).2.1, vI (r.grant j wk now).2.2]) (fun _ => [rtA b (r.grant j wk now).1]) := by
  refine spec_start (n := 76) [(0, ptr b), (1, agJ j), (2, vS wk), (3, vI now)] Try.func45 rfl rfl ⟨rfl, rfl, rfl, rfl, trivial⟩ rfl ?_
  intro w0 K hR
  obtain ⟨h1, h2, h3, h4, h5⟩ := id hr
  refine wc_ex rt_open (fun oc => ?_)
  refine wc_seq ?_
  refine wc_region ?_
  refine wl_w (fun _ _ => want_none) rfl (yw_box rfl rfl) (wl_ex fun b5 _ => ?_)
  refine wl_w (fun _ _ => want_none) rfl (yw_alloc T36 rfl) (wl_ex fun b8 _ => ?_)
  refine wl_y rfl (y_assign rfl) ?_
  refine wl_nil ?_
  refine wq_then ?_
  refine wc_seq ?_
  refine wc_seq ?_
  refine wc_region ?_
  refine wl_y rfl (y_move rfl) ?_
  refine wl_q (fun _ _ => want_none) rfl (yq_spec (fst := []) (cap := []) _ FN41 (rname_c wk) rfl rfl rfl (by (repeat (first | exact pt_nil | apply pt0 | apply pt1 | apply pt2 | apply pt3 | apply pt4 | apply pt5 | apply pt6 | apply pt7 | apply pt8 | apply pt9 | apply pt10 | apply pt11 | apply pt12 | apply pt13 | apply pt14 | apply pt15 | apply pt16 | apply pt17))) (by (repeat (first | exact ro_nil | exact ro_rest (by assumption) | refine ro_cons (by first | exact .inl (by assumption) | exact ro_f0 (fun _ h => h) | exact ro_f0 (fun _ => slc_rsl) | exact ro_f1 (fun _ h => h) | exact ro_f1 (fun _ => slc_rsl) | exact ro_f2 (fun _ h => h) | exact ro_f2 (fun _ => slc_rsl) | exact ro_f3 (fun _ h => h) | exact ro_f3 (fun _ => slc_rsl) | exact ro_f4 (fun _ h => h) | exact ro_f4 (fun _ => slc_rsl) | exact ro_f5 (fun _ h => h) | exact ro_f5 (fun _ => slc_rsl) | exact ro_f6 (fun _ h => h) | exact ro_f6 (fun _ => slc_rsl)) ?_))) (fun _ _ => rfl) (fun _ _ _ h => h.sub (by (repeat (first | exact pt_nil | apply pt0 | apply pt1 | apply pt2 | apply pt3 | apply pt4 | apply pt5 | apply pt6 | apply pt7 | apply pt8 | apply pt9 | apply pt10 | apply pt11 | apply pt12 | apply pt13 | apply pt14 | apply pt15 | apply pt16 | apply pt17))))) ?_
  refine wl_y rfl (y_neqI rfl rfl) ?_
  refine wl_nil ?_
  refine wq_then ?_
  refine wc_cond rfl (fun hc16 => ?_) (fun hc16 => ?_)
  ·
    simp at hc16
    refine wc_seq ?_
    refine wc_region ?_
    refine wl_y rfl (y_build (cs := [_, _, _, _, _, _]) T36 PL36 rfl rfl rfl) ?_
    first | refine wl_u (yu_storeAgg [] (l' := [_, _, _, _, _, _]) T36 rfl rfl rfl (by simp [Value.oneCell', encL]) rfl rfl) ?_ | refine wl_u (yu_storeAgg [_] (l' := [_, _, _, _, _, _]) T36 rfl rfl rfl (by simp [Value.oneCell', encL]) rfl rfl) ?_ | refine wl_u (yu_storeAgg [_, _] (l' := [_, _, _, _, _, _]) T36 rfl rfl rfl (by simp [Value.oneCell', encL]) rfl rfl) ?_ | refine wl_u (yu_storeAgg [_, _, _] (l' := [_, _, _, _, _, _]) T36 rfl rfl rfl (by simp [Value.oneCell', encL]) rfl rfl) ?_ | refine wl_u (yu_storeAgg [_, _, _, _] (l' := [_, _, _, _, _, _]) T36 rfl rfl rfl (by simp [Value.oneCell', encL]) rfl rfl) ?_ | refine wl_u (yu_storeAgg [_, _, _, _, _] (l' := [_, _, _, _, _, _]) T36 rfl rfl rfl (by simp [Value.oneCell', encL]) rfl rfl) ?_ | refine wl_u (yu_storeAgg [_, _, _, _, _, _] (l' := [_, _, _, _, _, _]) T36 rfl rfl rfl (by simp [Value.oneCell', encL]) rfl rfl) ?_
    refine wl_y rfl (y_assign rfl) ?_
    refine wl_nil ?_
    refine wq_then ?_
    refine wc_ret ?_
    refine wq_then_ret ?_
    refine wq_retC2 (l := [_, _, _, _, _, _]) AG36 rfl rfl rfl rfl (by first | exact cells_blk [] rfl | exact cells_blk [_] rfl | exact cells_blk [_, _] rfl | exact cells_blk [_, _, _] rfl | exact cells_blk [_, _, _, _] rfl | exact cells_blk [_, _, _, _, _] rfl | exact cells_blk [_, _, _, _, _, _] rfl) (fun w hw => ?_)
    exact ⟨(), trivial, by simp only [Rt.grant, if_neg hc16], by simp only [Rt.grant, if_neg hc16]; exact rt_shut oc (hw.sub (by (repeat (first | exact pt_nil | apply pt0 | apply pt1 | apply pt2 | apply pt3 | apply pt4 | apply pt5 | apply pt6 | apply pt7 | apply pt8 | apply pt9 | apply pt10 | apply pt11 | apply pt12 | apply pt13 | apply pt14 | apply pt15 | apply pt16 | apply pt17))))⟩
  ·
    simp at hc16
    refine wc_skip ?_
    refine wq_then ?_
    refine wc_seq ?_
    refine wc_seq ?_
    refine wc_region ?_
    refine wl_y rfl (y_move rfl) ?_
    refine wl_q (fun _ _ => want_none) rfl (yq_spec (fst := []) (cap := []) _ FN62 (rtime_c now) rfl rfl rfl (by (repeat (first | exact pt_nil | apply pt0 | apply pt1 | apply pt2 | apply pt3 | apply pt4 | apply pt5 | apply pt6 | apply pt7 | apply pt8 | apply pt9 | apply pt10 | apply pt11 | apply pt12 | apply pt13 | apply pt14 | apply pt15 | apply pt16 | apply pt17))) (by (repeat (first | exact ro_nil | exact ro_rest (by assumption) | refine ro_cons (by first | exact .inl (by assumption) | exact ro_f0 (fun _ h => h) | exact ro_f0 (fun _ => slc_rsl) | exact ro_f1 (fun _ h => h) | exact ro_f1 (fun _ => slc_rsl) | exact ro_f2 (fun _ h => h) | exact ro_f2 (fun _ => slc_rsl) | exact ro_f3 (fun _ h => h) | exact ro_f3 (fun _ => slc_rsl) | exact ro_f4 (fun _ h => h) | exact ro_f4 (fun _ => slc_rsl) | exact ro_f5 (fun _ h => h) | exact ro_f5 (fun _ => slc_rsl) | exact ro_f6 (fun _ h => h) | exact ro_f6 (fun _ => slc_rsl)) ?_))) (fun _ _ => rfl) (fun _ _ _ h => h.sub (by (repeat (first | exact pt_nil | apply pt0 | apply pt1 | apply pt2 | apply pt3 | apply pt4 | apply pt5 | apply pt6 | apply pt7 | apply pt8 | apply pt9 | apply pt10 | apply pt11 | apply pt12 | apply pt13 | apply pt14 | apply pt15 | apply pt16 | apply pt17))))) ?_
    refine wl_y rfl (y_not rfl) ?_
    refine wl_nil ?_
    refine wq_then ?_
    refine wc_cond rfl (fun hc20 => ?_) (fun hc20 => ?_)
    ·
      simp at hc20
      refine wc_seq ?_
      refine wc_region ?_
      refine wl_y rfl (y_build (cs := [_, _, _, _, _, _]) T36 PL36 rfl rfl rfl) ?_
      first | refine wl_u (yu_storeAgg [] (l' := [_, _, _, _, _, _]) T36 rfl rfl rfl (by simp [Value.oneCell', encL]) rfl rfl) ?_ | refine wl_u (yu_storeAgg [_] (l' := [_, _, _, _, _, _]) T36 rfl rfl rfl (by simp [Value.oneCell', encL]) rfl rfl) ?_ | refine wl_u (yu_storeAgg [_, _] (l' := [_, _, _, _, _, _]) T36 rfl rfl rfl (by simp [Value.oneCell', encL]) rfl rfl) ?_ | refine wl_u (yu_storeAgg [_, _, _] (l' := [_, _, _, _, _, _]) T36 rfl rfl rfl (by simp [Value.oneCell', encL]) rfl rfl) ?_ | refine wl_u (yu_storeAgg [_, _, _, _] (l' := [_, _, _, _, _, _]) T36 rfl rfl rfl (by simp [Value.oneCell', encL]) rfl rfl) ?_ | refine wl_u (yu_storeAgg [_, _, _, _, _] (l' := [_, _, _, _, _, _]) T36 rfl rfl rfl (by simp [Value.oneCell', encL]) rfl rfl) ?_ | refine wl_u (yu_storeAgg [_, _, _, _, _, _] (l' := [_, _, _, _, _, _]) T36 rfl rfl rfl (by simp [Value.oneCell', encL]) rfl rfl) ?_
      refine wl_y rfl (y_assign rfl) ?_
      refine wl_nil ?_
      refine wq_then ?_
      refine wc_ret ?_
      refine wq_then_ret ?_
      refine wq_retC2 (l := [_, _, _, _, _, _]) AG36 rfl rfl rfl rfl (by first | exact cells_blk [] rfl | exact cells_blk [_] rfl | exact cells_blk [_, _] rfl | exact cells_blk [_, _, _] rfl | exact cells_blk [_, _, _, _] rfl | exact cells_blk [_, _, _, _, _] rfl | exact cells_blk [_, _, _, _, _, _] rfl) (fun w hw => ?_)
      exact ⟨(), trivial, by simp only [Rt.grant, if_pos hc16, hc20, Bool.false_eq_true, if_false], by simp only [Rt.grant, if_pos hc16, hc20, Bool.false_eq_true, if_false]; exact rt_shut oc (hw.sub (by (repeat (first | exact pt_nil | apply pt0 | apply pt1 | apply pt2 | apply pt3 | apply pt4 | apply pt5 | apply pt6 | apply pt7 | apply pt8 | apply pt9 | apply pt10 | apply pt11 | apply pt12 | apply pt13 | apply pt14 | apply pt15 | apply pt16 | apply pt17))))⟩
    ·
      simp at hc20
      have htb : 0 ≤ now ∧ now ≤ 1000000000 := by simpa [timeB] using hc20
      refine wc_skip ?_
      refine wq_then ?_
      refine wc_seq ?_
      refine wc_region ?_
      refine wl_y rfl (y_move rfl) ?_
      refine wl_y rfl (y_fieldAddr F30_0 rfl) ?_
      refine wl_y rfl (y_load NA9 rfl (by first | exact cell_blk [] rfl | exact cell_blk [_] rfl | exact cell_blk [_, _] rfl | exact cell_blk [_, _, _] rfl | exact cell_blk [_, _, _, _] rfl | exact cell_blk [_, _, _, _, _] rfl | exact cell_blk [_, _, _, _, _, _] rfl | exact cellR_blk (by assumption) rfl)) ?_
      refine wl_q (fun _ _ => want_none) rfl (yq_spec (fst := []) (cap := []) _ FN46 (at_c b r oc j.key h5) rfl rfl rfl (by (repeat (first | exact pt_nil | apply pt0 | apply pt1 | apply pt2 | apply pt3 | apply pt4 | apply pt5 | apply pt6 | apply pt7 | apply pt8 | apply pt9 | apply pt10 | apply pt11 | apply pt12 | apply pt13 | apply pt14 | apply pt15 | apply pt16 | apply pt17))) (by (repeat (first | exact ro_nil | exact ro_rest (by assumption) | refine ro_cons (by first | exact .inl (by assumption) | exact ro_f0 (fun _ h => h) | exact ro_f0 (fun _ => slc_rsl) | exact ro_f1 (fun _ h => h) | exact ro_f1 (fun _ => slc_rsl) | exact ro_f2 (fun _ h => h) | exact ro_f2 (fun _ => slc_rsl) | exact ro_f3 (fun _ h => h) | exact ro_f3 (fun _ => slc_rsl) | exact ro_f4 (fun _ h => h) | exact ro_f4 (fun _ => slc_rsl) | exact ro_f5 (fun _ h => h) | exact ro_f5 (fun _ => slc_rsl) | exact ro_f6 (fun _ h => h) | exact ro_f6 (fun _ => slc_rsl)) ?_))) (fun _ _ => rfl) (fun _ _ _ h => h.sub (by (repeat (first | exact pt_nil | apply pt0 | apply pt1 | apply pt2 | apply pt3 | apply pt4 | apply pt5 | apply pt6 | apply pt7 | apply pt8 | apply pt9 | apply pt10 | apply pt11 | apply pt12 | apply pt13 | apply pt14 | apply pt15 | apply pt16 | apply pt17))))) ?_
      refine wl_y rfl (y_move rfl) ?_
      refine wl_y rfl (y_extract rfl rfl) ?_
      refine wl_y rfl (y_extract rfl rfl) ?_
      refine wl_y rfl (y_assign rfl) ?_
      refine wl_y rfl (y_assign rfl) ?_
      refine wl_nil ?_
      refine wq_then ?_
      refine wc_seq ?_
      refine wc_seq ?_
      refine wc_region ?_
      refine wl_y rfl (y_move rfl) ?_
      refine wl_nil ?_
      refine wq_then ?_
      refine wc_cond rfl (fun hc29 => ?_) (fun hc29 => ?_)
      ·
        refine wc_seq ?_
        refine wc_region ?_
        refine wl_y rfl (y_build (cs := [_, _, _, _, _, _]) T36 PL36 rfl rfl rfl) ?_
        first | refine wl_u (yu_storeAgg [] (l' := [_, _, _, _, _, _]) T36 rfl rfl rfl (by simp [Value.oneCell', encL]) rfl rfl) ?_ | refine wl_u (yu_storeAgg [_] (l' := [_, _, _, _, _, _]) T36 rfl rfl rfl (by simp [Value.oneCell', encL]) rfl rfl) ?_ | refine wl_u (yu_storeAgg [_, _] (l' := [_, _, _, _, _, _]) T36 rfl rfl rfl (by simp [Value.oneCell', encL]) rfl rfl) ?_ | refine wl_u (yu_storeAgg [_, _, _] (l' := [_, _, _, _, _, _]) T36 rfl rfl rfl (by simp [Value.oneCell', encL]) rfl rfl) ?_ | refine wl_u (yu_storeAgg [_, _, _, _] (l' := [_, _, _, _, _, _]) T36 rfl rfl rfl (by simp [Value.oneCell', encL]) rfl rfl) ?_ | refine wl_u (yu_storeAgg [_, _, _, _, _] (l' := [_, _, _, _, _, _]) T36 rfl rfl rfl (by simp [Value.oneCell', encL]) rfl rfl) ?_ | refine wl_u (yu_storeAgg [_, _, _, _, _, _] (l' := [_, _, _, _, _, _]) T36 rfl rfl rfl (by simp [Value.oneCell', encL]) rfl rfl) ?_
        refine wl_y rfl (y_assign rfl) ?_
        refine wl_nil ?_
        refine wq_then ?_
        refine wc_ret ?_
        refine wq_then_ret ?_
        refine wq_retC2 (l := [_, _, _, _, _, _]) AG36 rfl rfl rfl rfl (by first | exact cells_blk [] rfl | exact cells_blk [_] rfl | exact cells_blk [_, _] rfl | exact cells_blk [_, _, _] rfl | exact cells_blk [_, _, _, _] rfl | exact cells_blk [_, _, _, _, _] rfl | exact cells_blk [_, _, _, _, _, _] rfl) (fun w hw => ?_)
        exact ⟨(), trivial, by simp only [Rt.grant, if_pos hc16, hc20, if_true, hc29], by simp only [Rt.grant, if_pos hc16, hc20, if_true, hc29]; exact rt_shut oc (hw.sub (by (repeat (first | exact pt_nil | apply pt0 | apply pt1 | apply pt2 | apply pt3 | apply pt4 | apply pt5 | apply pt6 | apply pt7 | apply pt8 | apply pt9 | apply pt10 | apply pt11 | apply pt12 | apply pt13 | apply pt14 | apply pt15 | apply pt16 | apply pt17))))⟩
      ·
        refine wc_skip ?_
        refine wq_then ?_
        refine wc_seq ?_
        refine wc_region ?_
        refine wl_y rfl (y_move rfl) ?_
        refine wl_y rfl (y_move rfl) ?_
        refine wl_y rfl (y_nilCheck rfl) ?_
        refine wl_y rfl (y_fieldAddr F48_2 rfl) ?_
        refine wl_y rfl (y_load NA3 rfl (by first | exact cell_blk [] rfl | exact cell_blk [_] rfl | exact cell_blk [_, _] rfl | exact cell_blk [_, _, _] rfl | exact cell_blk [_, _, _, _] rfl | exact cell_blk [_, _, _, _, _] rfl | exact cell_blk [_, _, _, _, _, _] rfl | exact cellR_blk (by assumption) rfl)) ?_
        refine wl_y rfl (y_add rfl rfl (by omega)) ?_
        refine wl_y rfl (y_nilCheck rfl) ?_
        refine wl_y rfl (y_fieldAddr F48_2 rfl) ?_
        first | refine wl_u (yu_store [] (l' := [_, _, _]) T3 rfl rfl rfl rfl rfl rfl rfl) ?_ | refine wl_u (yu_store [_] (l' := [_, _, _]) T3 rfl rfl rfl rfl rfl rfl rfl) ?_ | refine wl_u (yu_store [_, _] (l' := [_, _, _]) T3 rfl rfl rfl rfl rfl rfl rfl) ?_ | refine wl_u (yu_store [_, _, _] (l' := [_, _, _]) T3 rfl rfl rfl rfl rfl rfl rfl) ?_ | refine wl_u (yu_store [_, _, _, _] (l' := [_, _, _]) T3 rfl rfl rfl rfl rfl rfl rfl) ?_ | refine wl_u (yu_store [_, _, _, _, _] (l' := [_, _, _]) T3 rfl rfl rfl rfl rfl rfl rfl) ?_ | refine wl_u (yu_store [_, _, _, _, _, _] (l' := [_, _, _]) T3 rfl rfl rfl rfl rfl rfl rfl) ?_
        refine wl_nil ?_
        refine wq_then ?_
        refine wc_seq ?_
        refine wc_mix (.q 0 0 (.q 1 0 (.q 2 0 (.q 3 0 (.q 4 0 (.q 5 0 (.q 6 0 (.q 7 0 (.q 8 0 (.q 9 0 (.q 10 0 (.q 11 0 (.q 12 0 (.w 13 2 (.w 14 2 .nil .nil) .nil)))))))))))))) (Sees [blk b (.cells #[.slice oc.1 r.l.length oc.2, vI r.ttl, vI (r.epoch + 1)] 48 (0, 0)), blk b5 (.cells (encJ j).toArray 30 (0, 0))]) MO (by kernel_rfl) (Hp.drawless _ _ _) (fun w hw => by refine ⟨?_, ?_, trivial⟩ <;> first | exact hw.seen [] | exact hw.seen [_] | exact hw.seen [_, _] | exact hw.seen [_, _, _] | exact hw.seen [_, _, _, _] | exact hw.seen [_, _, _, _, _] | exact hw.seen [_, _, _, _, _, _]) ?_
        refine wm_g rfl rfl (y_loadAgg (l := [_, _, _]) AG30 rfl rfl (fun w hw => by first | exact hw.1.cells rfl | exact hw.2.1.cells rfl)) ?_
        refine wm_g rfl rfl (y_move rfl) ?_
        refine wm_g rfl rfl (y_move rfl) ?_
        refine wm_g rfl rfl (y_nilCheck rfl) ?_
        refine wm_g rfl rfl (y_fieldAddr F48_2 rfl) ?_
        refine wm_g rfl rfl (y_load NA3 rfl (fun w hw => by first | exact cell_of_heap hw.1.blk rfl | exact cell_of_heap hw.2.1.blk rfl)) ?_
        refine wm_g rfl rfl (y_move rfl) ?_
        refine wm_g rfl rfl (y_move rfl) ?_
        refine wm_g rfl rfl (y_nilCheck rfl) ?_
        refine wm_g rfl rfl (y_fieldAddr F48_1 rfl) ?_
        refine wm_g rfl rfl (y_load NA3 rfl (fun w hw => by first | exact cell_of_heap hw.1.blk rfl | exact cell_of_heap hw.2.1.blk rfl)) ?_
        refine wm_g rfl rfl (y_add rfl rfl (by omega)) ?_
        refine wm_g rfl rfl (y_build (cs := [_, _, _, _, _, _]) T36 PL36 rfl rfl rfl) ?_
        refine wm_w rfl rfl ?hC (yw_alloc T36 rfl) (wm_ex fun b12 _ => ?_)
        case hC => exact (fun _ _ h => by obtain ⟨_, _, _, hw⟩ := h; exact (by refine ⟨?_, ?_, trivial⟩ <;> first | exact hw.seen [] | exact hw.seen [_] | exact hw.seen [_, _] | exact hw.seen [_, _, _] | exact hw.seen [_, _, _, _] | exact hw.seen [_, _, _, _, _] | exact hw.seen [_, _, _, _, _, _]))
        first | refine wm_u rfl (fun _ hw => by refine ⟨?_, ?_, trivial⟩ <;> first | exact hw.seen [] | exact hw.seen [_] | exact hw.seen [_, _] | exact hw.seen [_, _, _] | exact hw.seen [_, _, _, _] | exact hw.seen [_, _, _, _, _] | exact hw.seen [_, _, _, _, _, _]) (yu_storeAgg [] (l' := [_, _, _, _, _, _]) T36 rfl rfl rfl (by simp [Value.oneCell', encL]) rfl rfl) ?_ | refine wm_u rfl (fun _ hw => by refine ⟨?_, ?_, trivial⟩ <;> first | exact hw.seen [] | exact hw.seen [_] | exact hw.seen [_, _] | exact hw.seen [_, _, _] | exact hw.seen [_, _, _, _] | exact hw.seen [_, _, _, _, _] | exact hw.seen [_, _, _, _, _, _]) (yu_storeAgg [_] (l' := [_, _, _, _, _, _]) T36 rfl rfl rfl (by simp [Value.oneCell', encL]) rfl rfl) ?_ | refine wm_u rfl (fun _ hw => by refine ⟨?_, ?_, trivial⟩ <;> first | exact hw.seen [] | exact hw.seen [_] | exact hw.seen [_, _] | exact hw.seen [_, _, _] | exact hw.seen [_, _, _, _] | exact hw.seen [_, _, _, _, _] | exact hw.seen [_, _, _, _, _, _]) (yu_storeAgg [_, _] (l' := [_, _, _, _, _, _]) T36 rfl rfl rfl (by simp [Value.oneCell', encL]) rfl rfl) ?_ | refine wm_u rfl (fun _ hw => by refine ⟨?_, ?_, trivial⟩ <;> first | exact hw.seen [] | exact hw.seen [_] | exact hw.seen [_, _] | exact hw.seen [_, _, _] | exact hw.seen [_, _, _, _] | exact hw.seen [_, _, _, _, _] | exact hw.seen [_, _, _, _, _, _]) (yu_storeAgg [_, _, _] (l' := [_, _, _, _, _, _]) T36 rfl rfl rfl (by simp [Value.oneCell', encL]) rfl rfl) ?_ | refine wm_u rfl (fun _ hw => by refine ⟨?_, ?_, trivial⟩ <;> first | exact hw.seen [] | exact hw.seen [_] | exact hw.seen [_, _] | exact hw.seen [_, _, _] | exact hw.seen [_, _, _, _] | exact hw.seen [_, _, _, _, _] | exact hw.seen [_, _, _, _, _, _]) (yu_storeAgg [_, _, _, _] (l' := [_, _, _, _, _, _]) T36 rfl rfl rfl (by simp [Value.oneCell', encL]) rfl rfl) ?_ | refine wm_u rfl (fun _ hw => by refine ⟨?_, ?_, trivial⟩ <;> first | exact hw.seen [] | exact hw.seen [_] | exact hw.seen [_, _] | exact hw.seen [_, _, _] | exact hw.seen [_, _, _, _] | exact hw.seen [_, _, _, _, _] | exact hw.seen [_, _, _, _, _, _]) (yu_storeAgg [_, _, _, _, _] (l' := [_, _, _, _, _, _]) T36 rfl rfl rfl (by simp [Value.oneCell', encL]) rfl rfl) ?_ | refine wm_u rfl (fun _ hw => by refine ⟨?_, ?_, trivial⟩ <;> first | exact hw.seen [] | exact hw.seen [_] | exact hw.seen [_, _] | exact hw.seen [_, _, _] | exact hw.seen [_, _, _, _] | exact hw.seen [_, _, _, _, _] | exact hw.seen [_, _, _, _, _, _]) (yu_storeAgg [_, _, _, _, _, _] (l' := [_, _, _, _, _, _]) T36 rfl rfl rfl (by simp [Value.oneCell', encL]) rfl rfl) ?_
        refine wm_nil ?_
        refine all_wq ?_
        refine wq_then ?_
        refine wc_seq ?_
        refine wc_region ?_
        refine wl_y rfl (y_assign rfl) ?_
        refine wl_nil ?_
        refine wq_then ?_
        refine wc_seq ?_
        refine wc_region ?_
        refine wl_have (p := r.l.length ≤ oc.2) (fun w hw => hw.slc_le [_, _, _, _]) (fun hcap => ?_)
        have hat := at_le r j.key
        obtain ⟨i, hi⟩ : ∃ i, r.at j.key = i := ⟨_, rfl⟩
        rw [hi] at hat
        refine wl_same 10 (vI (i : Nat)) rfl (by rw [hi]) ?_
        refine wl_world (fun w hw => Hp.addNil (e := 36) (sz := 6) [] _ hw) ?_
        refine wl_y rfl (y_move rfl) ?_
        refine wl_y rfl (y_move rfl) ?_
        refine wl_y rfl (y_nilCheck rfl) ?_
        refine wl_y rfl (y_fieldAddr F48_0 rfl) ?_
        refine wl_y rfl (y_load NA39 rfl (by first | exact cell_blk [] rfl | exact cell_blk [_] rfl | exact cell_blk [_, _] rfl | exact cell_blk [_, _, _] rfl | exact cell_blk [_, _, _, _] rfl | exact cell_blk [_, _, _, _, _] rfl | exact cell_blk [_, _, _, _, _, _] rfl | exact cellR_blk (by assumption) rfl)) ?_
        refine wl_y rfl (y_move rfl) ?_
        refine wl_y rfl (y_sliceSl (i := 0) (j := i) Try.underlying39 T36 rfl rfl ⟨_, rfl, rfl⟩ (by omega) (by omega)) ?_
        refine wl_w (fun _ _ => want_none) rfl (yw_append [] Try.underlying39 Try.underlying39 (.inl ⟨_, rfl⟩) T36 rfl rfl rfl (fun w hw => Src.slice ((hw.seen [_, _, _, _, _]).mono fun _ h => slc_rsl (slc_take i h (by omega)))) (by omega) (by unfold maxLen; omega) (one_take (one_rows encL_one)) (by simp [rows_length encL_len]; omega)) (wl_ex fun p59 hp59 => ?_)
        refine wl_y rfl (y_assign rfl) ?_
        refine wl_nil ?_
        refine wq_then ?_
        refine wc_seq ?_
        refine wc_region ?_
        refine wl_y rfl (y_move rfl) ?_
        refine wl_y rfl (y_loadAgg (l := [_, _, _, _, _, _]) AG36 rfl rfl (by first | exact cells_blk [] rfl | exact cells_blk [_] rfl | exact cells_blk [_, _] rfl | exact cells_blk [_, _, _] rfl | exact cells_blk [_, _, _, _] rfl | exact cells_blk [_, _, _, _, _] rfl | exact cells_blk [_, _, _, _, _, _] rfl | exact cellsR_blk (by assumption) rfl)) ?_
        refine wl_w (fun _ _ => want_none) rfl (yw_buildSlice (cs := [_, _, _, _, _, _]) Try.underlying39 T36 rfl rfl rfl rfl rfl rfl rfl) (wl_ex fun b62 _ => ?_)
        refine wl_w (fun _ _ => want_none) rfl (yw_append [_] Try.underlying39 Try.underlying39 (.inl ⟨_, rfl⟩) T36 rfl rfl rfl (fun w hw => Src.slice ((hw.seen []).mono fun _ => slc_rsl)) (by omega) (by unfold maxLen; omega) (by simp [Value.oneCell', encL]) rfl) (wl_ex fun p63 hp63 => ?_)
        refine wl_y rfl (y_assign rfl) ?_
        refine wl_nil ?_
        refine wq_then ?_
        refine wc_seq ?_
        refine wc_region ?_
        refine wl_y rfl (y_move rfl) ?_
        refine wl_y rfl (y_move rfl) ?_
        refine wl_y rfl (y_move rfl) ?_
        refine wl_y rfl (y_nilCheck rfl) ?_
        refine wl_y rfl (y_fieldAddr F48_0 rfl) ?_
        refine wl_y rfl (y_load NA39 rfl (by first | exact cell_blk [] rfl | exact cell_blk [_] rfl | exact cell_blk [_, _] rfl | exact cell_blk [_, _, _] rfl | exact cell_blk [_, _, _, _] rfl | exact cell_blk [_, _, _, _, _] rfl | exact cell_blk [_, _, _, _, _, _] rfl | exact cellR_blk (by assumption) rfl)) ?_
        refine wl_y rfl (y_move rfl) ?_
        refine wl_y rfl (y_sliceSl (i := i) (j := r.l.length) Try.underlying39 T36 rfl ⟨_, rfl, rfl⟩ rfl (by omega) (by omega)) ?_
        refine wl_w (fun _ _ => want_none) rfl (yw_append [_] Try.underlying39 Try.underlying39 (.inl ⟨_, rfl⟩) T36 rfl rfl rfl (fun w hw => Src.slice ((hw.seen [_, _, _, _, _, _]).mono fun _ h => slc_rsl (slc_cut i h (by omega)))) (by omega) (by unfold maxLen; omega) (one_drop (one_rows encL_one)) (by simp [rows_length encL_len]; omega)) (wl_ex fun p72 hp72 => ?_)
        refine wl_y rfl (y_nilCheck rfl) ?_
        refine wl_y rfl (y_fieldAddr F48_0 rfl) ?_
        first | refine wl_u (yu_store [] (l' := [_, _, _]) T39 rfl rfl rfl rfl rfl rfl rfl) ?_ | refine wl_u (yu_store [_] (l' := [_, _, _]) T39 rfl rfl rfl rfl rfl rfl rfl) ?_ | refine wl_u (yu_store [_, _] (l' := [_, _, _]) T39 rfl rfl rfl rfl rfl rfl rfl) ?_ | refine wl_u (yu_store [_, _, _] (l' := [_, _, _]) T39 rfl rfl rfl rfl rfl rfl rfl) ?_ | refine wl_u (yu_store [_, _, _, _] (l' := [_, _, _]) T39 rfl rfl rfl rfl rfl rfl rfl) ?_ | refine wl_u (yu_store [_, _, _, _, _] (l' := [_, _, _]) T39 rfl rfl rfl rfl rfl rfl rfl) ?_ | refine wl_u (yu_store [_, _, _, _, _, _] (l' := [_, _, _]) T39 rfl rfl rfl rfl rfl rfl rfl) ?_
        refine wl_nil ?_
        refine wq_then ?_
        refine wc_seq ?_
        refine wc_region ?_
        refine wl_y rfl (y_loadAgg (l := [_, _, _, _, _, _]) AG36 rfl rfl (by first | exact cells_blk [] rfl | exact cells_blk [_] rfl | exact cells_blk [_, _] rfl | exact cells_blk [_, _, _] rfl | exact cells_blk [_, _, _, _] rfl | exact cells_blk [_, _, _, _, _] rfl | exact cells_blk [_, _, _, _, _, _] rfl | exact cellsR_blk (by assumption) rfl)) ?_
        first | refine wl_u (yu_storeAgg [] (l' := [_, _, _, _, _, _]) T36 rfl rfl rfl (by simp [Value.oneCell', encL]) rfl rfl) ?_ | refine wl_u (yu_storeAgg [_] (l' := [_, _, _, _, _, _]) T36 rfl rfl rfl (by simp [Value.oneCell', encL]) rfl rfl) ?_ | refine wl_u (yu_storeAgg [_, _] (l' := [_, _, _, _, _, _]) T36 rfl rfl rfl (by simp [Value.oneCell', encL]) rfl rfl) ?_ | refine wl_u (yu_storeAgg [_, _, _] (l' := [_, _, _, _, _, _]) T36 rfl rfl rfl (by simp [Value.oneCell', encL]) rfl rfl) ?_ | refine wl_u (yu_storeAgg [_, _, _, _] (l' := [_, _, _, _, _, _]) T36 rfl rfl rfl (by simp [Value.oneCell', encL]) rfl rfl) ?_ | refine wl_u (yu_storeAgg [_, _, _, _, _] (l' := [_, _, _, _, _, _]) T36 rfl rfl rfl (by simp [Value.oneCell', encL]) rfl rfl) ?_ | refine wl_u (yu_storeAgg [_, _, _, _, _, _] (l' := [_, _, _, _, _, _]) T36 rfl rfl rfl (by simp [Value.oneCell', encL]) rfl rfl) ?_
        refine wl_y rfl (y_assign rfl) ?_
        refine wl_nil ?_
        refine wq_then ?_
        refine wc_ret ?_
        refine wq_retC2 (l := [_, _, _, _, _, _]) AG36 rfl rfl rfl rfl (by first | exact cells_blk [] rfl | exact cells_blk [_] rfl | exact cells_blk [_, _] rfl | exact cells_blk [_, _, _] rfl | exact cells_blk [_, _, _, _] rfl | exact cells_blk [_, _, _, _, _] rfl | exact cells_blk [_, _, _, _, _, _] rfl) (fun w hw => ?_)
        have e : r.grant j wk now = ({ r with epoch := r.epoch + 1, l := r.l.take i ++ [r.lease j wk now] ++ r.l.drop i }, r.lease j wk now, 0) := by simp only [Rt.grant, if_pos hc16, hc20, if_true, hc29, hi, Bool.false_eq_true, if_false]
        have e1 : (r.l.take i ++ [r.lease j wk now] ++ r.l.drop i).length = 0 + (i - 0) + 1 + (r.l.length - i) := by simp; omega
        have e2 : (r.l.take i ++ [r.lease j wk now] ++ r.l.drop i).flatMap encL = [] ++ (r.l.flatMap encL).take (i * 6) ++ encL (r.lease j wk now) ++ (r.l.flatMap encL).drop (i * 6) := by rw [rows_take encL_len _ (by omega), rows_drop encL_len _ (by omega), List.flatMap_append, List.flatMap_append, List.flatMap_singleton]; rfl
        rw [e]
        exact ⟨(), trivial, rfl, rt_shut p72 (by simp only [rtAs, rtCells]; rw [e1, e2]; exact hw.sub (by (repeat (first | exact pt_nil | apply pt0 | apply pt1 | apply pt2 | apply pt3 | apply pt4 | apply pt5 | apply pt6 | apply pt7 | apply pt8 | apply pt9 | apply pt10 | apply pt11 | apply pt12 | apply pt13 | apply pt14 | apply pt15 | apply pt16 | apply pt17))))⟩



set_option maxHeartbeats 1000000 in
theorem rfinish_c (b : Nat) (r : Rt) (key : Str) (epoch : Int) (hr : r.ok) :
    Ctr Try.prog 21 #[ptr b, vS key, vI epoch] [] [rtA b r] (fun _ : Unit => True) (fun _ => vI (r.finish key epoch).2) (fun _ => [rtA b (r.finish key epoch).1]) := by
  refine spec_start (n := 48) [(0, ptr b), (1, vS key), (2, vI epoch)] Try.func21 rfl rfl ⟨rfl, rfl, rfl, trivial⟩ rfl ?_
  intro w0 K hR
  obtain ⟨h1, h2, h3, h4, h5⟩ := id hr
  refine wc_ex rt_open (fun oc => ?_)
  refine wc_seq ?_
  refine wc_region ?_
  refine wl_y rfl (y_assign rfl) ?_
  refine wl_nil ?_
  refine wq_then ?_
  refine wc_seq ?_
  refine wc_region ?_
  refine wl_y rfl (y_move rfl) ?_
  refine wl_y rfl (y_move rfl) ?_
  refine wl_q (fun _ _ => want_none) rfl (yq_spec (fst := []) (cap := []) _ FN46 (at_c b r oc key h5) rfl rfl rfl (by (repeat (first | exact pt_nil | apply pt0 | apply pt1 | apply pt2 | apply pt3 | apply pt4 | apply pt5 | apply pt6 | apply pt7 | apply pt8 | apply pt9 | apply pt10 | apply pt11 | apply pt12 | apply pt13 | apply pt14 | apply pt15 | apply pt16 | apply pt17))) (by (repeat (first | exact ro_nil | exact ro_rest (by assumption) | refine ro_cons (by first | exact .inl (by assumption) | exact ro_f0 (fun _ h => h) | exact ro_f0 (fun _ => slc_rsl) | exact ro_f1 (fun _ h => h) | exact ro_f1 (fun _ => slc_rsl) | exact ro_f2 (fun _ h => h) | exact ro_f2 (fun _ => slc_rsl) | exact ro_f3 (fun _ h => h) | exact ro_f3 (fun _ => slc_rsl) | exact ro_f4 (fun _ h => h) | exact ro_f4 (fun _ => slc_rsl) | exact ro_f5 (fun _ h => h) | exact ro_f5 (fun _ => slc_rsl) | exact ro_f6 (fun _ h => h) | exact ro_f6 (fun _ => slc_rsl)) ?_))) (fun _ _ => rfl) (fun _ _ _ h => h.sub (by (repeat (first | exact pt_nil | apply pt0 | apply pt1 | apply pt2 | apply pt3 | apply pt4 | apply pt5 | apply pt6 | apply pt7 | apply pt8 | apply pt9 | apply pt10 | apply pt11 | apply pt12 | apply pt13 | apply pt14 | apply pt15 | apply pt16 | apply pt17))))) ?_
  refine wl_y rfl (y_move rfl) ?_
  refine wl_y rfl (y_extract rfl rfl) ?_
  refine wl_y rfl (y_extract rfl rfl) ?_
  refine wl_y rfl (y_assign rfl) ?_
  refine wl_y rfl (y_assign rfl) ?_
  refine wl_nil ?_
  refine wq_then ?_
  refine wc_seq ?_
  refine wc_seq ?_
  refine wc_region ?_
  refine wl_y rfl (y_move rfl) ?_
  refine wl_y rfl (y_not rfl) ?_
  refine wl_nil ?_
  refine wq_then ?_
  refine wc_cond rfl (fun hc17 => ?_) (fun hc17 => ?_)
  ·
    simp at hc17
    refine wc_seq ?_
    refine wc_region ?_
    refine wl_y rfl (y_assign rfl) ?_
    refine wl_nil ?_
    refine wq_then ?_
    refine wc_ret ?_
    refine wq_then_ret ?_
    refine wq_ret1 rfl rfl (fun w hw => ?_)
    have e : r.finish key epoch = (r, 17) := by simp only [Rt.finish, hc17, Bool.false_eq_true, if_false]
    rw [e]; exact ⟨(), trivial, rfl, rt_shut oc (hw.sub (by (repeat (first | exact pt_nil | apply pt0 | apply pt1 | apply pt2 | apply pt3 | apply pt4 | apply pt5 | apply pt6 | apply pt7 | apply pt8 | apply pt9 | apply pt10 | apply pt11 | apply pt12 | apply pt13 | apply pt14 | apply pt15 | apply pt16 | apply pt17))))⟩
  ·
    simp at hc17
    obtain ⟨x, hx, hxk⟩ := has_get hc17
    have hgx : r.get key = x := by simp [Rt.get, hx]
    have hil := (List.getElem?_eq_some_iff.1 hx).1
    refine wc_ex (S' := fun (_ : Unit) w => Hp w0 K (rtAs b r oc) w) (fun w hw => ⟨(), hw.sub (by (repeat (first | exact pt_nil | apply pt0 | apply pt1 | apply pt2 | apply pt3 | apply pt4 | apply pt5 | apply pt6 | apply pt7 | apply pt8 | apply pt9 | apply pt10 | apply pt11 | apply pt12 | apply pt13 | apply pt14 | apply pt15 | apply pt16 | apply pt17)))⟩) (fun _ => ?_)
    refine wc_skip ?_
    refine wq_then ?_
    refine wc_seq ?_
    refine wc_seq ?_
    refine wc_region ?_
    refine wl_y rfl (y_move rfl) ?_
    refine wl_y rfl (y_nilCheck rfl) ?_
    refine wl_y rfl (y_fieldAddr F48_0 rfl) ?_
    refine wl_y rfl (y_load NA39 rfl (by first | exact cell_blk [] rfl | exact cell_blk [_] rfl | exact cell_blk [_, _] rfl | exact cell_blk [_, _, _] rfl | exact cell_blk [_, _, _, _] rfl | exact cellR_blk (by assumption) rfl)) ?_
    refine wl_y rfl (y_move rfl) ?_
    refine wl_y rfl (y_indexAddr Try.underlying39 T36 rfl rfl rfl (by omega) (by first | assumption | exact fun _ _ => rfl | exact fun w hw => hw.slc_isSome [] (by omega) | exact fun w hw => hw.slc_isSome [_] (by omega) | exact fun w hw => hw.slc_isSome [_, _] (by omega) | exact fun w hw => hw.slc_isSome [_, _, _] (by omega) | exact fun w hw => hw.slc_isSome [_, _, _, _] (by omega))) ?_
    refine wl_y rfl (y_fieldAddr_adr F36_2 rfl) ?_
    refine wl_y rfl (y_load NA3 rfl (by first | exact cell_own [] (rows_get encL_len hx rfl) | exact cell_own [_] (rows_get encL_len hx rfl) | exact cell_own [_, _] (rows_get encL_len hx rfl) | exact cell_own [_, _, _] (rows_get encL_len hx rfl) | exact cell_own [_, _, _, _] (rows_get encL_len hx rfl))) ?_
    refine wl_y rfl (y_move rfl) ?_
    refine wl_y rfl (y_neqI rfl rfl) ?_
    refine wl_nil ?_
    refine wq_then ?_
    refine wc_cond rfl (fun hc27 => ?_) (fun hc27 => ?_)
    ·
      simp at hc27
      refine wc_seq ?_
      refine wc_region ?_
      refine wl_y rfl (y_assign rfl) ?_
      refine wl_nil ?_
      refine wq_then ?_
      refine wc_ret ?_
      refine wq_then_ret ?_
      refine wq_ret1 rfl rfl (fun w hw => ?_)
      have e : r.finish key epoch = (r, 44) := by simp only [Rt.finish, hc17, if_true, hgx]; rw [if_neg hc27]
      rw [e]; exact ⟨(), trivial, rfl, rt_shut oc (hw.sub (by (repeat (first | exact pt_nil | apply pt0 | apply pt1 | apply pt2 | apply pt3 | apply pt4 | apply pt5 | apply pt6 | apply pt7 | apply pt8 | apply pt9 | apply pt10 | apply pt11 | apply pt12 | apply pt13 | apply pt14 | apply pt15 | apply pt16 | apply pt17))))⟩
    ·
      simp at hc27
      refine wc_skip ?_
      refine wq_then ?_
      refine wc_seq ?_
      refine wc_region ?_
      refine wl_y rfl (y_assign rfl) ?_
      refine wl_nil ?_
      refine wq_then ?_
      refine wc_seq ?_
      refine wc_region ?_
      refine wl_have (p := r.l.length ≤ oc.2) (fun w hw => hw.slc_le [_]) (fun hcap => ?_)
      refine wl_world (fun w hw => Hp.addNil (e := 36) (sz := 6) [] _ hw) ?_
      refine wl_y rfl (y_move rfl) ?_
      refine wl_y rfl (y_move rfl) ?_
      refine wl_y rfl (y_nilCheck rfl) ?_
      refine wl_y rfl (y_fieldAddr F48_0 rfl) ?_
      refine wl_y rfl (y_load NA39 rfl (by first | exact cell_blk [] rfl | exact cell_blk [_] rfl | exact cell_blk [_, _] rfl | exact cell_blk [_, _, _] rfl | exact cell_blk [_, _, _, _] rfl | exact cellR_blk (by assumption) rfl)) ?_
      refine wl_y rfl (y_move rfl) ?_
      refine wl_y rfl (y_sliceSl (i := 0) (j := r.at key) Try.underlying39 T36 rfl rfl ⟨_, rfl, rfl⟩ (by omega) (by omega)) ?_
      refine wl_w (fun _ _ => want_none) rfl (yw_append [] Try.underlying39 Try.underlying39 (.inl ⟨_, rfl⟩) T36 rfl rfl rfl (fun w hw => Src.slice ((hw.seen [_, _]).mono fun _ h => slc_rsl (slc_take (r.at key) h (by omega)))) (by omega) (by unfold maxLen; omega) (one_take (one_rows encL_one)) (by simp [rows_length encL_len]; omega)) (wl_ex fun p35 hp35 => ?_)
      refine wl_y rfl (y_assign rfl) ?_
      refine wl_nil ?_
      refine wq_then ?_
      refine wc_seq ?_
      refine wc_region ?_
      refine wl_y rfl (y_move rfl) ?_
      refine wl_y rfl (y_move rfl) ?_
      refine wl_y rfl (y_move rfl) ?_
      refine wl_y rfl (y_nilCheck rfl) ?_
      refine wl_y rfl (y_fieldAddr F48_0 rfl) ?_
      refine wl_y rfl (y_load NA39 rfl (by first | exact cell_blk [] rfl | exact cell_blk [_] rfl | exact cell_blk [_, _] rfl | exact cell_blk [_, _, _] rfl | exact cell_blk [_, _, _, _] rfl | exact cellR_blk (by assumption) rfl)) ?_
      refine wl_y rfl (y_move rfl) ?_
      refine wl_y rfl (y_add rfl rfl (by omega)) ?_
      refine wl_y rfl (y_sliceSl (i := r.at key + 1) (j := r.l.length) Try.underlying39 T36 rfl ⟨_, rfl, by omega⟩ rfl (by omega) (by omega)) ?_
      refine wl_w (fun _ _ => want_none) rfl (yw_append [] Try.underlying39 Try.underlying39 (.inl ⟨_, rfl⟩) T36 rfl rfl rfl (fun w hw => Src.slice ((hw.seen [_, _]).mono fun _ h => slc_rsl (slc_cut (r.at key + 1) h (by omega)))) (by omega) (by unfold maxLen; omega) (one_drop (one_rows encL_one)) (by simp [rows_length encL_len]; omega)) (wl_ex fun p45 hp45 => ?_)
      refine wl_y rfl (y_nilCheck rfl) ?_
      refine wl_y rfl (y_fieldAddr F48_0 rfl) ?_
      first | refine wl_u (yu_store [] (l' := [_, _, _]) T39 rfl rfl rfl rfl rfl rfl rfl) ?_ | refine wl_u (yu_store [_] (l' := [_, _, _]) T39 rfl rfl rfl rfl rfl rfl rfl) ?_ | refine wl_u (yu_store [_, _] (l' := [_, _, _]) T39 rfl rfl rfl rfl rfl rfl rfl) ?_ | refine wl_u (yu_store [_, _, _] (l' := [_, _, _]) T39 rfl rfl rfl rfl rfl rfl rfl) ?_ | refine wl_u (yu_store [_, _, _, _] (l' := [_, _, _]) T39 rfl rfl rfl rfl rfl rfl rfl) ?_
      refine wl_nil ?_
      refine wq_then ?_
      refine wc_seq ?_
      refine wc_region ?_
      refine wl_y rfl (y_assign rfl) ?_
      refine wl_nil ?_
      refine wq_then ?_
      refine wc_ret ?_
      refine wq_ret1 rfl rfl (fun w hw => ?_)
      have e : r.finish key epoch = ({ r with l := r.l.eraseIdx (r.at key) }, 0) := by simp only [Rt.finish, hc17, if_true, hgx]; rw [if_pos hc27]
      have e1 : (r.l.eraseIdx (r.at key)).length = 0 + (r.at key - 0) + (r.l.length - (r.at key + 1)) := by rw [List.length_eraseIdx_of_lt hil]; omega
      have e2 : (r.l.eraseIdx (r.at key)).flatMap encL = [] ++ (r.l.flatMap encL).take (r.at key * 6) ++ (r.l.flatMap encL).drop ((r.at key + 1) * 6) := by rw [rows_take encL_len _ (by omega), rows_drop encL_len _ (by omega), List.eraseIdx_eq_take_drop_succ, List.flatMap_append]; rfl
      rw [e]; exact ⟨(), trivial, rfl, rt_shut p45 (by simp only [rtAs, rtCells]; rw [e1, e2]; exact hw.sub (by (repeat (first | exact pt_nil | apply pt0 | apply pt1 | apply pt2 | apply pt3 | apply pt4 | apply pt5 | apply pt6 | apply pt7 | apply pt8 | apply pt9 | apply pt10 | apply pt11 | apply pt12 | apply pt13 | apply pt14 | apply pt15 | apply pt16 | apply pt17))))⟩

end Go.Proofs.Ytfnpjmlpiedgdaa
