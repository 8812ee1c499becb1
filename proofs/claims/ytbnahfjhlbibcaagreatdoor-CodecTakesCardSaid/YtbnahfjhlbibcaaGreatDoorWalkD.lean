/-
  Walks: readers, their numbers and lists.
-/
import Derived.Test.YtbnahfjhlbibcaaGreatDoorWalkC
namespace Go.Proofs.YtbnahfjhlbibcaaGreatDoor
open Go.Eng

open Go.Lib
theorem num_cases (r : Rdr') (h : r.text.1.bad = 0) : (∃ n, numF r.text.2 = some n ∧ r.num = (r.text.1, n)) ∨ (numF r.text.2 = none ∧ r.num = ({ r.text.1 with bad := 11 }, 0)) := by
  unfold Rdr'.num
  rw [if_neg (by omega)]
  cases numF r.text.2 with
  | some n => exact .inl ⟨n, rfl, rfl⟩
  | none => exact .inr ⟨rfl, rfl⟩
theorem num_of {r : Rdr'} {n : Int} (h : r.text.1.bad = 0) (hn : numF r.text.2 = some n) : r.num = (r.text.1, n) := by rw [Rdr'.num, if_neg (by omega), hn]
theorem num_off {r : Rdr'} (h : r.text.1.bad = 0) (hn : numF r.text.2 = none) : r.num = ({ r.text.1 with bad := 11 }, 0) := by rw [Rdr'.num, if_neg (by omega), hn]
theorem numF_val {s : Str} {v : Int} (h : parseIntB 64 s = .ok v) : numF s = if itoa v = s then some v else none := by rw [numF, h]
theorem numF_bad {s : Str} (h : ∀ v, parseIntB 64 s ≠ .ok v) : numF s = none := by
  unfold numF
  split
  · rename_i v hv; exact absurd hv (h v)
  · rfl
theorem parse_inR {s : Str} {v : Int} (h : parseIntB 64 s = .ok v) : inR v := by have := parseIntB_bounds h; unfold inR; omega
set_option maxHeartbeats 1000000 in
theorem num_ok (b : Nat) (r : Rdr') (hl : r.rest.length ≤ 1000000000) (v : Int) (hv : parseIntB 64 r.text.2 = .ok v) :
    Ctr Tryz.prog 20 #[ptr b] [libS] [rdA 92 b r] (fun _ : Unit => True) (fun _ => vI r.num.2) (fun _ => [rdA 92 b r.num.1]) := by
  refine spec_start (n := 34) [(0, ptr b)] Tryz.func20 rfl rfl ⟨rfl, trivial⟩ rfl ?_
  intro w0 K hR
  have hA := hR libS (by simp)
  refine wc_seq ?_
  refine wc_region ?_
  refine wl_y rfl (y_assign rfl) ?_
  refine wl_nil ?_
  refine wq_then ?_
  refine wc_seq ?_
  refine wc_region ?_
  refine wl_y rfl (y_move rfl) ?_
  refine wl_c (fun _ _ => want_none) rfl (yc_spec (fst := []) (cap := []) _ FN36 (text_p b r hl) rfl rfl rfl (by (repeat (first | exact pt_nil | apply pt0 | apply pt1 | apply pt2 | apply pt3 | apply pt4 | apply pt5 | apply pt6 | apply pt7 | apply pt8 | apply pt9 | apply pt10 | apply pt11 | apply pt12 | apply pt13 | apply pt14 | apply pt15 | apply pt16 | apply pt17))) (by (repeat (first | exact ro_nil | exact ro_rest (by assumption) | refine ro_cons (by first | exact .inl (by assumption) | exact ro_f0 (fun _ h => h) | exact ro_f0 (fun _ => slc_rsl) | exact ro_f1 (fun _ h => h) | exact ro_f1 (fun _ => slc_rsl) | exact ro_f2 (fun _ h => h) | exact ro_f2 (fun _ => slc_rsl) | exact ro_f3 (fun _ h => h) | exact ro_f3 (fun _ => slc_rsl) | exact ro_f4 (fun _ h => h) | exact ro_f4 (fun _ => slc_rsl) | exact ro_f5 (fun _ h => h) | exact ro_f5 (fun _ => slc_rsl) | exact ro_f6 (fun _ h => h) | exact ro_f6 (fun _ => slc_rsl)) ?_)))) (wl_ex fun x7 hx7 => ?_)
  refine wl_y rfl (y_assign rfl) ?_
  refine wl_nil ?_
  refine wq_then ?_
  refine wc_seq ?_
  refine wc_seq ?_
  refine wc_region ?_
  refine wl_y rfl (y_move rfl) ?_
  refine wl_y rfl (y_eqlP Tryz.underlying57 rfl rfl) ?_
  refine wl_y rfl (y_move rfl) ?_
  refine wl_known 10 false rfl (rfl) ?_
  refine wl_yg rfl rfl rfl (y_move rfl) ?_
  refine wl_yg rfl rfl rfl (y_nilCheck rfl) ?_
  refine wl_yg rfl rfl rfl (y_fieldAddr F92_1 rfl) ?_
  refine wl_yg rfl rfl rfl (y_load NA25 rfl (by first | exact cell_blk [] rfl | exact cell_blk [_] rfl | exact cell_blk [_, _] rfl | exact cellR_blk (by assumption) rfl)) ?_
  refine wl_yg rfl rfl rfl (y_neqI rfl rfl) ?_
  refine wl_y rfl (y_pick_f rfl rfl) ?_
  refine wl_nil ?_
  refine wq_then ?_
  refine wc_cond rfl (fun hc16 => ?_) (fun hc16 => ?_)
  ·
    simp at hc16
    refine wc_seq ?_
    refine wc_region ?_
    refine wl_y rfl (y_assign rfl) ?_
    refine wl_nil ?_
    refine wq_then ?_
    refine wc_ret ?_
    refine wq_then_ret ?_
    refine wq_ret1 rfl rfl (fun w hw => ?_)
    have e : r.num = (r.text.1, 0) := if_pos (by omega)
    rw [e]; exact ⟨(), trivial, rfl, hw⟩
  ·
    simp at hc16
    refine wc_skip ?_
    refine wq_then ?_
    refine wc_seq ?_
    refine wc_region ?_
    refine wl_y rfl (y_move rfl) ?_
    refine wl_c (fun _ _ => want_none) rfl (yc_spec (fst := []) (cap := []) _ FN46 (parse_ok r.text.2 v (by have := (text_bounds r).1; omega) hv) rfl rfl rfl (by (repeat (first | exact pt_nil | apply pt0 | apply pt1 | apply pt2 | apply pt3 | apply pt4 | apply pt5 | apply pt6 | apply pt7 | apply pt8 | apply pt9 | apply pt10 | apply pt11 | apply pt12 | apply pt13 | apply pt14 | apply pt15 | apply pt16 | apply pt17))) (by (repeat (first | exact ro_nil | exact ro_rest (by assumption) | refine ro_cons (by first | exact .inl (by assumption) | exact ro_f0 (fun _ h => h) | exact ro_f0 (fun _ => slc_rsl) | exact ro_f1 (fun _ h => h) | exact ro_f1 (fun _ => slc_rsl) | exact ro_f2 (fun _ h => h) | exact ro_f2 (fun _ => slc_rsl) | exact ro_f3 (fun _ h => h) | exact ro_f3 (fun _ => slc_rsl) | exact ro_f4 (fun _ h => h) | exact ro_f4 (fun _ => slc_rsl) | exact ro_f5 (fun _ h => h) | exact ro_f5 (fun _ => slc_rsl) | exact ro_f6 (fun _ h => h) | exact ro_f6 (fun _ => slc_rsl)) ?_)))) (wl_ex fun x19 hx19 => ?_)
    refine wl_y rfl (y_move rfl) ?_
    refine wl_y rfl (y_extract rfl rfl) ?_
    refine wl_y rfl (y_extract rfl rfl) ?_
    refine wl_y rfl (y_assign rfl) ?_
    refine wl_y rfl (y_assign rfl) ?_
    refine wl_nil ?_
    refine wq_then ?_
    refine wc_seq ?_
    refine wc_seq ?_
    refine wc_region ?_
    refine wl_y rfl (y_move rfl) ?_
    refine wl_y rfl (y_neqIf Tryz.underlying94 ⟨_, rfl⟩ rfl rfl ⟨_, rfl⟩ (.inl rfl)) ?_
    refine wl_y rfl (y_move rfl) ?_
    refine wl_known 24 false rfl (rfl) ?_
    refine wl_yg rfl rfl rfl (y_move rfl) ?_
    refine wl_q (want_some rfl rfl) rfl (yq_spec (fst := []) (cap := []) _ FN47 (fmt_c v (parse_inR hv)) rfl rfl rfl (by (repeat (first | exact pt_nil | apply pt0 | apply pt1 | apply pt2 | apply pt3 | apply pt4 | apply pt5 | apply pt6 | apply pt7 | apply pt8 | apply pt9 | apply pt10 | apply pt11 | apply pt12 | apply pt13 | apply pt14 | apply pt15 | apply pt16 | apply pt17))) (by (repeat (first | exact ro_nil | exact ro_rest (by assumption) | refine ro_cons (by first | exact .inl (by assumption) | exact ro_f0 (fun _ h => h) | exact ro_f0 (fun _ => slc_rsl) | exact ro_f1 (fun _ h => h) | exact ro_f1 (fun _ => slc_rsl) | exact ro_f2 (fun _ h => h) | exact ro_f2 (fun _ => slc_rsl) | exact ro_f3 (fun _ h => h) | exact ro_f3 (fun _ => slc_rsl) | exact ro_f4 (fun _ h => h) | exact ro_f4 (fun _ => slc_rsl) | exact ro_f5 (fun _ h => h) | exact ro_f5 (fun _ => slc_rsl) | exact ro_f6 (fun _ h => h) | exact ro_f6 (fun _ => slc_rsl)) ?_))) (fun _ _ => rfl) (fun _ _ _ h => h.sub (by (repeat (first | exact pt_nil | apply pt0 | apply pt1 | apply pt2 | apply pt3 | apply pt4 | apply pt5 | apply pt6 | apply pt7 | apply pt8 | apply pt9 | apply pt10 | apply pt11 | apply pt12 | apply pt13 | apply pt14 | apply pt15 | apply pt16 | apply pt17))))) ?_
    refine wl_yg rfl rfl rfl (y_move rfl) ?_
    refine wl_yg rfl rfl rfl (y_neqS rfl rfl) ?_
    refine wl_y rfl (y_pick_f rfl rfl) ?_
    refine wl_nil ?_
    refine wq_then ?_
    refine wc_cond rfl (fun hc29 => ?_) (fun hc29 => ?_)
    ·
      simp at hc29
      refine wc_seq ?_
      refine wc_region ?_
      refine wl_y rfl (y_move rfl) ?_
      refine wl_y rfl (y_nilCheck rfl) ?_
      refine wl_y rfl (y_fieldAddr F92_1 rfl) ?_
      first | refine wl_u (yu_store [] (l' := [_, _]) T25 rfl rfl rfl rfl rfl rfl rfl) ?_ | refine wl_u (yu_store [_] (l' := [_, _]) T25 rfl rfl rfl rfl rfl rfl rfl) ?_ | refine wl_u (yu_store [_, _] (l' := [_, _]) T25 rfl rfl rfl rfl rfl rfl rfl) ?_
      refine wl_nil ?_
      refine wq_then ?_
      refine wc_seq ?_
      refine wc_region ?_
      refine wl_y rfl (y_assign rfl) ?_
      refine wl_nil ?_
      refine wq_then ?_
      refine wc_ret ?_
      refine wq_then_ret ?_
      refine wq_ret1 rfl rfl (fun w hw => ?_)
      rw [num_off (by omega) (by rw [numF_val hv, if_neg (by simpa using hc29)])]; exact ⟨(), trivial, rfl, hw⟩
    ·
      simp at hc29
      refine wc_skip ?_
      refine wq_then ?_
      refine wc_seq ?_
      refine wc_region ?_
      refine wl_y rfl (y_move rfl) ?_
      refine wl_y rfl (y_assign rfl) ?_
      refine wl_nil ?_
      refine wq_then ?_
      refine wc_ret ?_
      refine wq_ret1 rfl rfl (fun w hw => ?_)
      rw [num_of (by omega) (by rw [numF_val hv, if_pos (by simpa using hc29)])]; exact ⟨(), trivial, rfl, hw⟩

set_option maxHeartbeats 1000000 in
theorem num_bad (b : Nat) (r : Rdr') (hl : r.rest.length ≤ 1000000000) (hv : ∀ v, parseIntB 64 r.text.2 ≠ .ok v) :
    Ctr Tryz.prog 20 #[ptr b] [libS] [rdA 92 b r] (fun _ : Unit => True) (fun _ => vI r.num.2) (fun _ => [rdA 92 b r.num.1]) := by
  refine spec_start (n := 34) [(0, ptr b)] Tryz.func20 rfl rfl ⟨rfl, trivial⟩ rfl ?_
  intro w0 K hR
  have hA := hR libS (by simp)
  refine wc_seq ?_
  refine wc_region ?_
  refine wl_y rfl (y_assign rfl) ?_
  refine wl_nil ?_
  refine wq_then ?_
  refine wc_seq ?_
  refine wc_region ?_
  refine wl_y rfl (y_move rfl) ?_
  refine wl_c (fun _ _ => want_none) rfl (yc_spec (fst := []) (cap := []) _ FN36 (text_p b r hl) rfl rfl rfl (by (repeat (first | exact pt_nil | apply pt0 | apply pt1 | apply pt2 | apply pt3 | apply pt4 | apply pt5 | apply pt6 | apply pt7 | apply pt8 | apply pt9 | apply pt10 | apply pt11 | apply pt12 | apply pt13 | apply pt14 | apply pt15 | apply pt16 | apply pt17))) (by (repeat (first | exact ro_nil | exact ro_rest (by assumption) | refine ro_cons (by first | exact .inl (by assumption) | exact ro_f0 (fun _ h => h) | exact ro_f0 (fun _ => slc_rsl) | exact ro_f1 (fun _ h => h) | exact ro_f1 (fun _ => slc_rsl) | exact ro_f2 (fun _ h => h) | exact ro_f2 (fun _ => slc_rsl) | exact ro_f3 (fun _ h => h) | exact ro_f3 (fun _ => slc_rsl) | exact ro_f4 (fun _ h => h) | exact ro_f4 (fun _ => slc_rsl) | exact ro_f5 (fun _ h => h) | exact ro_f5 (fun _ => slc_rsl) | exact ro_f6 (fun _ h => h) | exact ro_f6 (fun _ => slc_rsl)) ?_)))) (wl_ex fun x7 hx7 => ?_)
  refine wl_y rfl (y_assign rfl) ?_
  refine wl_nil ?_
  refine wq_then ?_
  refine wc_seq ?_
  refine wc_seq ?_
  refine wc_region ?_
  refine wl_y rfl (y_move rfl) ?_
  refine wl_y rfl (y_eqlP Tryz.underlying57 rfl rfl) ?_
  refine wl_y rfl (y_move rfl) ?_
  refine wl_known 10 false rfl (rfl) ?_
  refine wl_yg rfl rfl rfl (y_move rfl) ?_
  refine wl_yg rfl rfl rfl (y_nilCheck rfl) ?_
  refine wl_yg rfl rfl rfl (y_fieldAddr F92_1 rfl) ?_
  refine wl_yg rfl rfl rfl (y_load NA25 rfl (by first | exact cell_blk [] rfl | exact cell_blk [_] rfl | exact cell_blk [_, _] rfl | exact cellR_blk (by assumption) rfl)) ?_
  refine wl_yg rfl rfl rfl (y_neqI rfl rfl) ?_
  refine wl_y rfl (y_pick_f rfl rfl) ?_
  refine wl_nil ?_
  refine wq_then ?_
  refine wc_cond rfl (fun hc16 => ?_) (fun hc16 => ?_)
  ·
    simp at hc16
    refine wc_seq ?_
    refine wc_region ?_
    refine wl_y rfl (y_assign rfl) ?_
    refine wl_nil ?_
    refine wq_then ?_
    refine wc_ret ?_
    refine wq_then_ret ?_
    refine wq_ret1 rfl rfl (fun w hw => ?_)
    have e : r.num = (r.text.1, 0) := if_pos (by omega)
    rw [e]; exact ⟨(), trivial, rfl, hw⟩
  ·
    simp at hc16
    refine wc_skip ?_
    refine wq_then ?_
    refine wc_seq ?_
    refine wc_region ?_
    refine wl_y rfl (y_move rfl) ?_
    refine wl_c (fun _ _ => want_none) rfl (yc_spec (fst := []) (cap := []) _ FN46 (parse_bad r.text.2 (by have := (text_bounds r).1; omega) hv) rfl rfl rfl (by (repeat (first | exact pt_nil | apply pt0 | apply pt1 | apply pt2 | apply pt3 | apply pt4 | apply pt5 | apply pt6 | apply pt7 | apply pt8 | apply pt9 | apply pt10 | apply pt11 | apply pt12 | apply pt13 | apply pt14 | apply pt15 | apply pt16 | apply pt17))) (by (repeat (first | exact ro_nil | exact ro_rest (by assumption) | refine ro_cons (by first | exact .inl (by assumption) | exact ro_f0 (fun _ h => h) | exact ro_f0 (fun _ => slc_rsl) | exact ro_f1 (fun _ h => h) | exact ro_f1 (fun _ => slc_rsl) | exact ro_f2 (fun _ h => h) | exact ro_f2 (fun _ => slc_rsl) | exact ro_f3 (fun _ h => h) | exact ro_f3 (fun _ => slc_rsl) | exact ro_f4 (fun _ h => h) | exact ro_f4 (fun _ => slc_rsl) | exact ro_f5 (fun _ h => h) | exact ro_f5 (fun _ => slc_rsl) | exact ro_f6 (fun _ h => h) | exact ro_f6 (fun _ => slc_rsl)) ?_)))) (wl_ex fun x19 hx19 => ?_)
    refine wl_y rfl (y_move rfl) ?_
    refine wl_y rfl (y_extract rfl rfl) ?_
    refine wl_y rfl (y_extract rfl rfl) ?_
    refine wl_y rfl (y_assign rfl) ?_
    refine wl_y rfl (y_assign rfl) ?_
    refine wl_nil ?_
    refine wq_then ?_
    refine wc_seq ?_
    refine wc_seq ?_
    refine wc_region ?_
    refine wl_y rfl (y_move rfl) ?_
    refine wl_y rfl (y_neqIf Tryz.underlying94 ⟨_, rfl⟩ rfl rfl ⟨_, rfl⟩ (.inr ⟨_, _, rfl⟩)) ?_
    refine wl_y rfl (y_move rfl) ?_
    refine wl_known 24 true rfl (rfl) ?_
    refine wl_sk rfl rfl rfl rfl ?_
    refine wl_sk rfl rfl rfl rfl ?_
    refine wl_sk rfl rfl rfl rfl ?_
    refine wl_sk rfl rfl rfl rfl ?_
    refine wl_y rfl (y_pick_t rfl rfl) ?_
    refine wl_nil ?_
    refine wq_then ?_
    refine wc_known 29 true rfl (rfl) ?_
    refine wc_cond_true rfl ?_
    refine wc_seq ?_
    refine wc_region ?_
    refine wl_y rfl (y_move rfl) ?_
    refine wl_y rfl (y_nilCheck rfl) ?_
    refine wl_y rfl (y_fieldAddr F92_1 rfl) ?_
    first | refine wl_u (yu_store [] (l' := [_, _]) T25 rfl rfl rfl rfl rfl rfl rfl) ?_ | refine wl_u (yu_store [_] (l' := [_, _]) T25 rfl rfl rfl rfl rfl rfl rfl) ?_ | refine wl_u (yu_store [_, _] (l' := [_, _]) T25 rfl rfl rfl rfl rfl rfl rfl) ?_
    refine wl_nil ?_
    refine wq_then ?_
    refine wc_seq ?_
    refine wc_region ?_
    refine wl_y rfl (y_assign rfl) ?_
    refine wl_nil ?_
    refine wq_then ?_
    refine wc_ret ?_
    refine wq_then_ret ?_
    refine wq_ret1 rfl rfl (fun w hw => ?_)
    rw [num_off (by omega) (numF_bad hv)]; exact ⟨(), trivial, rfl, hw⟩

theorem num_p (b : Nat) (r : Rdr') (hl : r.rest.length ≤ 1000000000) : Ctr Tryz.prog 20 #[ptr b] [libS] [rdA 92 b r] (fun _ : Unit => True) (fun _ => vI r.num.2) (fun _ => [rdA 92 b r.num.1]) := by
  by_cases hv : ∃ v, parseIntB 64 r.text.2 = .ok v
  · obtain ⟨v, hv⟩ := hv; exact num_ok b r hl v hv
  · exact num_bad b r hl fun v h => hv ⟨v, h⟩
theorem texts_nil : textsF [] = some [] := by rw [textsF]; simp
theorem texts_bad {s : Str} (h : s ≠ []) (he : (nextF s).2.2 ≠ 0) : textsF s = none := by
  rw [textsF, dif_neg h]
  split
  rename_i t r e hn
  rw [hn] at he
  rw [dif_neg he]
theorem texts_cons {s : Str} (h : s ≠ []) (he : (nextF s).2.2 = 0) : textsF s = (textsF (nextF s).2.1).map ((nextF s).1 :: ·) := by
  rw [textsF, dif_neg h]
  split
  rename_i t r e hn
  rw [hn] at he ⊢
  rw [dif_pos he]
theorem next_less {s : Str} (he : (nextF s).2.2 = 0) : (nextF s).2.1.length < s.length := next_lt (t := (nextF s).1) (r := (nextF s).2.1) (by rw [← he])
theorem map_acc {o : Option (List Str)} {acc : List Str} {t : Str} {q : Option (List Str)} (h : q = o.map (t :: ·)) : q.map (acc ++ ·) = o.map ((acc ++ [t]) ++ ·) := by
  subst h; cases o <;> simp
set_option maxHeartbeats 1000000 in
theorem list_p (b : Nat) (r : Rdr') (hl : r.rest.length ≤ 1000000000) :
    Ctr Tryz.prog 27 #[ptr b] [] [rdA 92 b r] (fun _ : Option Addr × Nat => True) (fun x => .slice x.1 r.list.2.length x.2) (fun x : Option Addr × Nat => [slc 9 1 x.1 r.list.2.length x.2 (r.list.2.map vS), rdA 92 b r.list.1]) := by
  refine spec_start (n := 31) [(0, ptr b)] Tryz.func27 rfl rfl ⟨rfl, trivial⟩ rfl ?_
  intro w0 K hR
  refine wc_seq ?_
  refine wc_region ?_
  refine wl_y rfl (y_assign rfl) ?_
  refine wl_nil ?_
  refine wq_then ?_
  refine wc_seq ?_
  refine wc_region ?_
  refine wl_y rfl (y_move rfl) ?_
  refine wl_c (fun _ _ => want_none) rfl (yc_spec (fst := []) (cap := []) _ FN36 (text_p b r hl) rfl rfl rfl (by (repeat (first | exact pt_nil | apply pt0 | apply pt1 | apply pt2 | apply pt3 | apply pt4 | apply pt5 | apply pt6 | apply pt7 | apply pt8 | apply pt9 | apply pt10 | apply pt11 | apply pt12 | apply pt13 | apply pt14 | apply pt15 | apply pt16 | apply pt17))) (by (repeat (first | exact ro_nil | exact ro_rest (by assumption) | refine ro_cons (by first | exact .inl (by assumption) | exact ro_f0 (fun _ h => h) | exact ro_f0 (fun _ => slc_rsl) | exact ro_f1 (fun _ h => h) | exact ro_f1 (fun _ => slc_rsl) | exact ro_f2 (fun _ h => h) | exact ro_f2 (fun _ => slc_rsl) | exact ro_f3 (fun _ h => h) | exact ro_f3 (fun _ => slc_rsl) | exact ro_f4 (fun _ h => h) | exact ro_f4 (fun _ => slc_rsl) | exact ro_f5 (fun _ h => h) | exact ro_f5 (fun _ => slc_rsl) | exact ro_f6 (fun _ h => h) | exact ro_f6 (fun _ => slc_rsl)) ?_)))) (wl_ex fun x9 hx9 => ?_)
  refine wl_y rfl (y_assign rfl) ?_
  refine wl_nil ?_
  refine wq_then ?_
  refine wc_seq ?_
  refine wc_seq ?_
  refine wc_region ?_
  refine wl_y rfl (y_move rfl) ?_
  refine wl_y rfl (y_eqlP Tryz.underlying57 rfl rfl) ?_
  refine wl_nil ?_
  refine wq_then ?_
  refine wc_known 11 false rfl (rfl) ?_
  refine wc_cond_false rfl ?_
  refine wc_skip ?_
  refine wq_then ?_
  refine wc_seq ?_
  refine wc_region ?_
  refine wl_y rfl (y_assign rfl) ?_
  refine wl_nil ?_
  refine wq_then ?_
  refine wc_seq ?_
  refine wc_block ?_
  refine wc_loop (α := Str × List Str × Option Addr × Nat) (fun y => y.2.1.length + y.1.length ≤ 1000000000 ∧ textsF r.text.2 = (textsF y.1).map (y.2.1 ++ ·)) [(0, _)] (fun y => [(3, vS y.1), (4, .slice y.2.2.1 y.2.1.length y.2.2.2)]) (fun y => Hp w0 K [slc 9 1 y.2.2.1 y.2.1.length y.2.2.2 (y.2.1.map vS), rdA 92 b r.text.1]) (fun y => y.1.length) (r.text.2, [], none, 0) ?_ ⟨rfl, rfl, rfl, trivial⟩ ?_ ?_
  · exact ⟨by have := (text_bounds r).1; simp only [List.length_nil]; omega, by simp⟩
  · exact fun w hw => Hp.addNil [] _ hw
  · rintro ⟨s, acc, a, cap⟩ ⟨hsl, hI⟩; simp only at hsl hI
    refine wc_world (S' := Hp w0 K [slc 9 1 a acc.length cap (acc.map vS), rdA 92 b r.text.1]) (fun w hw => hw) ?_
    refine wc_same 3 (vS s) rfl rfl ?_
    refine wc_same 4 (.slice a acc.length cap) rfl rfl ?_
    refine wc_seq ?_
    refine wc_seq ?_
    refine wc_region ?_
    refine wl_y rfl (y_move rfl) ?_
    refine wl_y rfl (y_neqS rfl rfl) ?_
    refine wl_nil ?_
    refine wq_then ?_
    refine wc_cond rfl (fun hc13 => ?_) (fun hc13 => ?_)
    ·
      simp at hc13
      refine wc_skip ?_
      refine wq_then ?_
      refine wc_block ?_
      refine wc_seq ?_
      refine wc_region ?_
      refine wl_y rfl (y_move rfl) ?_
      refine wl_q (fun _ _ => want_none) rfl (yq_spec (fst := []) (cap := []) _ FN53 (next_c s (by omega)) rfl rfl rfl (by (repeat (first | exact pt_nil | apply pt0 | apply pt1 | apply pt2 | apply pt3 | apply pt4 | apply pt5 | apply pt6 | apply pt7 | apply pt8 | apply pt9 | apply pt10 | apply pt11 | apply pt12 | apply pt13 | apply pt14 | apply pt15 | apply pt16 | apply pt17))) (by (repeat (first | exact ro_nil | exact ro_rest (by assumption) | refine ro_cons (by first | exact .inl (by assumption) | exact ro_f0 (fun _ h => h) | exact ro_f0 (fun _ => slc_rsl) | exact ro_f1 (fun _ h => h) | exact ro_f1 (fun _ => slc_rsl) | exact ro_f2 (fun _ h => h) | exact ro_f2 (fun _ => slc_rsl) | exact ro_f3 (fun _ h => h) | exact ro_f3 (fun _ => slc_rsl) | exact ro_f4 (fun _ h => h) | exact ro_f4 (fun _ => slc_rsl) | exact ro_f5 (fun _ h => h) | exact ro_f5 (fun _ => slc_rsl) | exact ro_f6 (fun _ h => h) | exact ro_f6 (fun _ => slc_rsl)) ?_))) (fun _ _ => rfl) (fun _ _ _ h => h.sub (by (repeat (first | exact pt_nil | apply pt0 | apply pt1 | apply pt2 | apply pt3 | apply pt4 | apply pt5 | apply pt6 | apply pt7 | apply pt8 | apply pt9 | apply pt10 | apply pt11 | apply pt12 | apply pt13 | apply pt14 | apply pt15 | apply pt16 | apply pt17))))) ?_
      refine wl_y rfl (y_move rfl) ?_
      refine wl_y rfl (y_extract rfl rfl) ?_
      refine wl_y rfl (y_extract rfl rfl) ?_
      refine wl_y rfl (y_extract rfl rfl) ?_
      refine wl_y rfl (y_assign rfl) ?_
      refine wl_y rfl (y_assign rfl) ?_
      refine wl_y rfl (y_assign rfl) ?_
      refine wl_nil ?_
      refine wq_then ?_
      refine wc_seq ?_
      refine wc_seq ?_
      refine wc_region ?_
      refine wl_y rfl (y_move rfl) ?_
      refine wl_y rfl (y_neqI rfl rfl) ?_
      refine wl_nil ?_
      refine wq_then ?_
      refine wc_cond rfl (fun hc21 => ?_) (fun hc21 => ?_)
      ·
        simp at hc21
        refine wc_seq ?_
        refine wc_region ?_
        refine wl_y rfl (y_move rfl) ?_
        refine wl_y rfl (y_nilCheck rfl) ?_
        refine wl_y rfl (y_fieldAddr F92_1 rfl) ?_
        first | refine wl_u (yu_store [] (l' := [_, _]) T25 rfl rfl rfl rfl rfl rfl rfl) ?_ | refine wl_u (yu_store [_] (l' := [_, _]) T25 rfl rfl rfl rfl rfl rfl rfl) ?_ | refine wl_u (yu_store [_, _] (l' := [_, _]) T25 rfl rfl rfl rfl rfl rfl rfl) ?_ | refine wl_u (yu_store [_, _, _] (l' := [_, _]) T25 rfl rfl rfl rfl rfl rfl rfl) ?_ | refine wl_u (yu_store [_, _, _, _] (l' := [_, _]) T25 rfl rfl rfl rfl rfl rfl rfl) ?_
        refine wl_nil ?_
        refine wq_then ?_
        refine wc_seq ?_
        refine wc_region ?_
        refine wl_y rfl (y_assign rfl) ?_
        refine wl_nil ?_
        refine wq_then ?_
        refine wc_ret ?_
        refine wq_then_ret (wq_block_ret (wq_then_ret (wq_block_ret (wq_then_ret ?_))))
        refine wq_ret1 rfl rfl (fun w hw => ?_)
        have e : r.list = ({ r.text.1 with bad := 11 }, []) := by rw [Rdr'.list, hI, texts_bad (by simpa using hc13) (by omega)]; rfl
        rw [e]; exact ⟨(none, 0), trivial, rfl, Hp.addNil [] _ hw.drop⟩
      ·
        simp at hc21
        refine wc_skip ?_
        refine wq_then ?_
        refine wc_region ?_
        refine wl_y rfl (y_move rfl) ?_
        refine wl_y rfl (y_move rfl) ?_
        refine wl_w (fun _ _ => want_none) rfl (yw_buildSlice (cs := [vS (nextF s).1]) Tryz.underlying39 T9 rfl rfl rfl rfl rfl rfl rfl) (wl_ex fun b27 _ => ?_)
        refine wl_w (fun _ _ => want_none) rfl (yw_append [_] (cs := acc.map vS) (news := [vS (nextF s).1]) Tryz.underlying39 Tryz.underlying39 (.inl ⟨_, rfl⟩) T9 rfl rfl rfl (fun w hw => Src.slice ((hw.seen []).mono fun _ => slc_rsl)) (by omega) (by unfold maxLen; omega) (by simp [Value.oneCell']) rfl) (wl_ex fun p28 hp28 => ?_)
        refine wl_y rfl (y_move rfl) ?_
        refine wl_y rfl (y_assign rfl) ?_
        refine wl_y rfl (y_assign rfl) ?_
        refine wl_nil ?_
        refine wq_block_normal ?_
        have hlt := next_less (s := s) (by omega)
        exact wq_round ((nextF s).2.1, acc ++ [(nextF s).1], p28.1, p28.2) (by simp only; omega) ⟨by simp only [List.length_append, List.length_singleton]; omega, by simp only; rw [hI]; exact map_acc (texts_cons (by simpa using hc13) (by omega))⟩ ⟨rfl, by simp only [List.length_append, List.length_singleton]; rfl, rfl, trivial⟩ (fun w hw => by simp only [List.length_append, List.length_singleton, List.map_append, List.map_singleton]; exact hw.sub (by (repeat (first | exact pt_nil | apply pt0 | apply pt1 | apply pt2 | apply pt3 | apply pt4 | apply pt5 | apply pt6 | apply pt7 | apply pt8 | apply pt9 | apply pt10 | apply pt11 | apply pt12 | apply pt13 | apply pt14 | apply pt15 | apply pt16 | apply pt17))))
    ·
      simp at hc13
      refine wc_exit ?_
      refine wq_then_exit (wq_then_exit (wq_block_exit ?_))
      refine wq_then ?_
      refine wc_seq ?_
      refine wc_region ?_
      refine wl_y rfl (y_move rfl) ?_
      refine wl_y rfl (y_assign rfl) ?_
      refine wl_nil ?_
      refine wq_then ?_
      refine wc_ret ?_
      refine wq_ret1 rfl rfl (fun w hw => ?_)
      obtain rfl : s = [] := by simpa using hc13
      have e : r.list = (r.text.1, acc) := by rw [Rdr'.list, hI, texts_nil]; simp
      rw [e]; exact ⟨(a, cap), trivial, rfl, hw⟩

end Go.Proofs.YtbnahfjhlbibcaaGreatDoor
