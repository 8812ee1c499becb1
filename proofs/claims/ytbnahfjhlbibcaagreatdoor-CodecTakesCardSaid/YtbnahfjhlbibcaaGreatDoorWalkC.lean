/-
  Walks: readers, their texts and ends.
-/
import Derived.Test.YtbnahfjhlbibcaaGreatDoorWalkB
namespace Go.Proofs.YtbnahfjhlbibcaaGreatDoor
open Go.Eng

open Go.Lib
abbrev rdCells (r : Rdr') : List Value := [vS r.rest, vI r.bad]
abbrev rdA (T b : Nat) (r : Rdr') : Atom := blk b (.cells (rdCells r).toArray T (0, 0))
theorem lenF_bounds {s r : Str} {n : Nat} {e : Int} (h : lenF s = (((n : Nat) : Int), r, e)) : n < 10000000 ∧ r.length ≤ s.length := by
  unfold lenF at h
  split at h
  · cases h; simp
  · split at h
    · cases h; simp
    · simp only [Prod.mk.injEq] at h
      obtain ⟨h1, rfl, _⟩ := h
      have h3 := valF_lt (preF s) (preF_dig s)
      have h4 : 10 ^ (preF s).length ≤ 10 ^ 7 := Nat.pow_le_pow_right (by omega) (by rw [preF_len]; exact kLen_7 s)
      exact ⟨by omega, by simp⟩
theorem lenF_some (s : Str) : ∃ (n : Nat) (r : Str) (e : Int), lenF s = (((n : Nat) : Int), r, e) := by
  unfold lenF
  split
  · exact ⟨0, _, _, rfl⟩
  · split
    · exact ⟨0, _, _, rfl⟩
    · exact ⟨_, _, _, rfl⟩
theorem next_len {s r : Str} {n : Nat} {e : Int} (h : lenF s = (((n : Nat) : Int), r, e)) : nextF s = if e ≠ 0 then ([], [], e) else if r.length ≤ n then ([], [], 10) else if r[n]? ≠ some cCom then ([], [], 11) else (r.take n, r.drop (n + 1), 0) := by
  unfold lenF at h
  unfold nextF
  split at h
  · rename_i hk; simp only [Prod.mk.injEq] at h; obtain ⟨_, rfl, rfl⟩ := h; rw [if_pos hk, if_pos (by decide)]
  · rename_i hk
    split at h
    · rename_i hb; simp only [Prod.mk.injEq] at h; obtain ⟨_, rfl, rfl⟩ := h; rw [if_neg hk, if_pos hb, if_pos (by decide)]
    · rename_i hb
      simp only [Prod.mk.injEq] at h; obtain ⟨h1, rfl, rfl⟩ := h
      obtain rfl : valF (preF s) = n := by omega
      rw [if_neg hk, if_neg hb]
      simp
theorem length_e {s r : Str} {n : Nat} {e : Int} (hL : lenF s = (((n : Nat) : Int), r, e)) (hl : s.length ≤ 1000000000) : Ctr Tryz.prog 71 #[vS s] [] [] (fun _ : Unit => True) (fun _ => .tuple #[vI n, vS r, vI e]) (fun _ => []) := by
  have := length_c s hl
  rw [hL] at this
  exact this
theorem next_bounds (s : Str) : (nextF s).1.length ≤ s.length ∧ (nextF s).2.1.length ≤ s.length := by
  obtain ⟨n, r, e, h⟩ := lenF_some s
  have := (lenF_bounds h).2
  rw [next_len h]
  split
  · simp
  · split
    · simp
    · split
      · simp
      · simp; omega
theorem text_bounds (r : Rdr') : r.text.2.length ≤ r.rest.length ∧ r.text.1.rest.length ≤ r.rest.length := by
  have := next_bounds r.rest
  unfold Rdr'.text
  split
  · simp
  · split
    · simp
    · exact this
set_option maxHeartbeats 1000000 in
theorem next_c (s : Str) (hl : s.length ≤ 1000000000) :
    Ctr Tryz.prog 53 #[vS s] [] [] (fun _ : Unit => True) (fun _ => .tuple #[vS (nextF s).1, vS (nextF s).2.1, vI (nextF s).2.2]) (fun _ => []) := by
  refine spec_start (n := 35) [(0, vS s)] Tryz.func53 rfl rfl ⟨rfl, trivial⟩ rfl ?_
  intro w0 K hR
  obtain ⟨n, r, e, hL⟩ := lenF_some s
  obtain ⟨hn, hrl⟩ := lenF_bounds hL
  refine wc_seq ?_
  refine wc_region ?_
  refine wl_y rfl (y_assign rfl) ?_
  refine wl_y rfl (y_assign rfl) ?_
  refine wl_y rfl (y_assign rfl) ?_
  refine wl_nil ?_
  refine wq_then ?_
  refine wc_seq ?_
  refine wc_region ?_
  refine wl_y rfl (y_move rfl) ?_
  refine wl_q (fun _ _ => want_none) rfl (yq_spec (fst := []) (cap := []) _ FN71 (length_e hL hl) rfl rfl rfl (by (repeat (first | exact pt_nil | apply pt0 | apply pt1 | apply pt2 | apply pt3 | apply pt4 | apply pt5 | apply pt6 | apply pt7 | apply pt8 | apply pt9 | apply pt10 | apply pt11 | apply pt12 | apply pt13 | apply pt14 | apply pt15 | apply pt16 | apply pt17))) (by (repeat (first | exact ro_nil | exact ro_rest (by assumption) | refine ro_cons (by first | exact .inl (by assumption) | exact ro_f0 (fun _ h => h) | exact ro_f0 (fun _ => slc_rsl) | exact ro_f1 (fun _ h => h) | exact ro_f1 (fun _ => slc_rsl) | exact ro_f2 (fun _ h => h) | exact ro_f2 (fun _ => slc_rsl) | exact ro_f3 (fun _ h => h) | exact ro_f3 (fun _ => slc_rsl) | exact ro_f4 (fun _ h => h) | exact ro_f4 (fun _ => slc_rsl) | exact ro_f5 (fun _ h => h) | exact ro_f5 (fun _ => slc_rsl) | exact ro_f6 (fun _ h => h) | exact ro_f6 (fun _ => slc_rsl)) ?_))) (fun _ _ => rfl) (fun _ _ _ h => h.sub (by (repeat (first | exact pt_nil | apply pt0 | apply pt1 | apply pt2 | apply pt3 | apply pt4 | apply pt5 | apply pt6 | apply pt7 | apply pt8 | apply pt9 | apply pt10 | apply pt11 | apply pt12 | apply pt13 | apply pt14 | apply pt15 | apply pt16 | apply pt17))))) ?_
  refine wl_y rfl (y_move rfl) ?_
  refine wl_y rfl (y_extract rfl rfl) ?_
  refine wl_y rfl (y_extract rfl rfl) ?_
  refine wl_y rfl (y_extract rfl rfl) ?_
  refine wl_y rfl (y_assign rfl) ?_
  refine wl_y rfl (y_assign rfl) ?_
  refine wl_y rfl (y_assign rfl) ?_
  refine wl_nil ?_
  refine wq_then ?_
  refine wc_seq ?_
  refine wc_block ?_
  refine wc_seq ?_
  refine wc_region ?_
  refine wl_y rfl (y_move rfl) ?_
  refine wl_y rfl (y_neqI rfl rfl) ?_
  refine wl_y rfl (y_assign rfl) ?_
  refine wl_nil ?_
  refine wq_then ?_
  refine wc_cond rfl (fun hc14 => ?_) (fun hc14 => ?_)
  ·
    simp at hc14
    refine wc_seq ?_
    refine wc_region ?_
    refine wl_y rfl (y_move rfl) ?_
    refine wl_y rfl (y_assign rfl) ?_
    refine wl_y rfl (y_assign rfl) ?_
    refine wl_y rfl (y_assign rfl) ?_
    refine wl_nil ?_
    refine wq_then ?_
    refine wc_ret ?_
    refine wq_block_ret (wq_then_ret ?_)
    refine wq_ret3 rfl rfl rfl rfl (fun w hw => ?_)
    rw [next_len hL, if_pos (by omega)]; exact ⟨(), trivial, rfl, hw.bare⟩
  ·
    simp at hc14
    refine wc_seq ?_
    refine wc_region ?_
    refine wl_y rfl (y_move rfl) ?_
    refine wl_y rfl (y_lenS Tryz.underlying9 rfl) ?_
    refine wl_y rfl (y_move rfl) ?_
    refine wl_y rfl (y_leq rfl rfl) ?_
    refine wl_y rfl (y_assign rfl) ?_
    refine wl_nil ?_
    refine wq_then ?_
    refine wc_cond rfl (fun hc18 => ?_) (fun hc18 => ?_)
    ·
      simp at hc18
      refine wc_seq ?_
      refine wc_region ?_
      refine wl_y rfl (y_assign rfl) ?_
      refine wl_y rfl (y_assign rfl) ?_
      refine wl_y rfl (y_assign rfl) ?_
      refine wl_nil ?_
      refine wq_then ?_
      refine wc_ret ?_
      refine wq_block_ret (wq_then_ret ?_)
      refine wq_ret3 rfl rfl rfl rfl (fun w hw => ?_)
      rw [next_len hL, if_neg (by omega), if_pos (by omega)]; exact ⟨(), trivial, rfl, hw.bare⟩
    ·
      simp at hc18
      refine wc_seq ?_
      refine wc_region ?_
      obtain ⟨c, hc⟩ := at_get (s := r) (k := n) (by omega)
      refine wl_y rfl (y_move rfl) ?_
      refine wl_y rfl (y_move rfl) ?_
      refine wl_y rfl (y_indexS Tryz.underlying9 rfl rfl rfl (by assumption)) ?_
      refine wl_y rfl (y_neqI rfl rfl) ?_
      refine wl_y rfl (y_assign rfl) ?_
      refine wl_nil ?_
      refine wq_then ?_
      refine wc_cond rfl (fun hc23 => ?_) (fun hc23 => ?_)
      ·
        simp at hc23
        refine wc_seq ?_
        refine wc_region ?_
        refine wl_y rfl (y_assign rfl) ?_
        refine wl_y rfl (y_assign rfl) ?_
        refine wl_y rfl (y_assign rfl) ?_
        refine wl_nil ?_
        refine wq_then ?_
        refine wc_ret ?_
        refine wq_block_ret (wq_then_ret ?_)
        refine wq_ret3 rfl rfl rfl rfl (fun w hw => ?_)
        rw [next_len hL, if_neg (by omega), if_neg (by omega), if_pos (by rw [hc]; exact fun h => u8_ne (k := 44) (d := 44) (by omega) rfl (Option.some.inj h))]; exact ⟨(), trivial, rfl, hw.bare⟩
      ·
        simp at hc23
        refine wc_skip ?_
        refine wq_block_normal ?_
        refine wq_then ?_
        refine wc_seq ?_
        refine wc_quiet MO (by kernel_rfl) (Hp.drawless _ _ _) ?_
        refine wt_y rfl (y_move rfl) ?_
        refine wt_y rfl (y_move rfl) ?_
        refine wt_y rfl (y_sliceS (i := 0) (j := n) Tryz.underlying9 rfl rfl ⟨_, rfl, rfl⟩ (by first | omega | (simp; omega)) (by first | omega | (simp; omega)) rfl) ?_
        refine wt_y rfl (y_move rfl) ?_
        refine wt_y rfl (y_move rfl) ?_
        refine wt_y rfl (y_add rfl rfl (by omega)) ?_
        refine wt_y rfl (y_sliceS (i := n + 1) (j := r.length) Tryz.underlying9 rfl ⟨_, rfl, rfl⟩ rfl (by first | omega | (simp; omega)) (by first | omega | (simp; omega)) rfl) ?_
        refine wt_y rfl (y_assign rfl) ?_
        refine wt_y rfl (y_assign rfl) ?_
        refine wt_y rfl (y_assign rfl) ?_
        refine wt_nil ?_
        refine wq_then ?_
        refine wc_ret ?_
        refine wq_ret3 rfl rfl rfl rfl (fun w hw => ?_)
        rw [next_len hL, if_neg (by omega), if_neg (by omega), if_neg (by rw [hc]; exact fun h => h (congrArg some (u8_eq (k := 44) (by omega) (by omega))))]; exact ⟨(), trivial, by rw [List.take_of_length_le (Nat.le_refl _)]; rfl, hw.bare⟩

set_option maxHeartbeats 1000000 in
theorem read_c (s : Str) :
    Ctr Tryz.prog 26 #[vS s] [] [] (fun _ : Nat => True) (fun b => ptr b) (fun b => [rdA 92 b ⟨s, 0⟩]) := by
  refine spec_start (n := 6) [(0, vS s)] Tryz.func26 rfl rfl ⟨rfl, trivial⟩ rfl ?_
  intro w0 K hR
  refine wc_seq ?_
  refine wc_region ?_
  refine wl_y rfl (y_assign rfl) ?_
  refine wl_nil ?_
  refine wq_then ?_
  refine wc_seq ?_
  refine wc_region ?_
  refine wl_y rfl (y_move rfl) ?_
  refine wl_y rfl (y_build (cs := [_, _]) T92 PL92 rfl rfl rfl) ?_
  refine wl_w (fun _ _ => want_none) rfl (yw_box rfl rfl) (wl_ex fun b5 _ => ?_)
  refine wl_y rfl (y_assign rfl) ?_
  refine wl_nil ?_
  refine wq_then ?_
  refine wc_ret ?_
  refine wq_ret1 rfl rfl (fun w hw => ?_)
  exact ⟨b5, trivial, rfl, hw⟩

set_option maxHeartbeats 1000000 in
theorem text_p (b : Nat) (r : Rdr') (hl : r.rest.length ≤ 1000000000) :
    Ctr Tryz.prog 36 #[ptr b] [] [rdA 92 b r] (fun _ : Unit => True) (fun _ => vS r.text.2) (fun _ => [rdA 92 b r.text.1]) := by
  refine spec_start (n := 35) [(0, ptr b)] Tryz.func36 rfl rfl ⟨rfl, trivial⟩ rfl ?_
  intro w0 K hR
  refine wc_seq ?_
  refine wc_region ?_
  refine wl_y rfl (y_assign rfl) ?_
  refine wl_nil ?_
  refine wq_then ?_
  refine wc_seq ?_
  refine wc_seq ?_
  refine wc_region ?_
  refine wl_y rfl (y_move rfl) ?_
  refine wl_y rfl (y_eqlP Tryz.underlying57 rfl rfl) ?_
  refine wl_y rfl (y_move rfl) ?_
  refine wl_known 8 false rfl (rfl) ?_
  refine wl_yg rfl rfl rfl (y_move rfl) ?_
  refine wl_yg rfl rfl rfl (y_nilCheck rfl) ?_
  refine wl_yg rfl rfl rfl (y_fieldAddr F92_1 rfl) ?_
  refine wl_yg rfl rfl rfl (y_load NA25 rfl (by first | exact cell_blk [] rfl | exact cell_blk [_] rfl | exact cell_blk [_, _] rfl | exact cellR_blk (by assumption) rfl)) ?_
  refine wl_yg rfl rfl rfl (y_neqI rfl rfl) ?_
  refine wl_y rfl (y_pick_f rfl rfl) ?_
  refine wl_nil ?_
  refine wq_then ?_
  refine wc_cond rfl (fun hc14 => ?_) (fun hc14 => ?_)
  ·
    simp at hc14
    refine wc_seq ?_
    refine wc_region ?_
    refine wl_y rfl (y_assign rfl) ?_
    refine wl_nil ?_
    refine wq_then ?_
    refine wc_ret ?_
    refine wq_then_ret ?_
    refine wq_ret1 rfl rfl (fun w hw => ?_)
    have e : r.text = (r, []) := if_pos (by omega)
    rw [e]; exact ⟨(), trivial, rfl, hw⟩
  ·
    simp at hc14
    refine wc_skip ?_
    refine wq_then ?_
    refine wc_seq ?_
    refine wc_region ?_
    refine wl_y rfl (y_move rfl) ?_
    refine wl_y rfl (y_nilCheck rfl) ?_
    refine wl_y rfl (y_fieldAddr F92_0 rfl) ?_
    refine wl_y rfl (y_load NA9 rfl (by first | exact cell_blk [] rfl | exact cell_blk [_] rfl | exact cell_blk [_, _] rfl | exact cellR_blk (by assumption) rfl)) ?_
    refine wl_q (fun _ _ => want_none) rfl (yq_spec (fst := []) (cap := []) _ FN53 (next_c r.rest hl) rfl rfl rfl (by (repeat (first | exact pt_nil | apply pt0 | apply pt1 | apply pt2 | apply pt3 | apply pt4 | apply pt5 | apply pt6 | apply pt7 | apply pt8 | apply pt9 | apply pt10 | apply pt11 | apply pt12 | apply pt13 | apply pt14 | apply pt15 | apply pt16 | apply pt17))) (by (repeat (first | exact ro_nil | exact ro_rest (by assumption) | refine ro_cons (by first | exact .inl (by assumption) | exact ro_f0 (fun _ h => h) | exact ro_f0 (fun _ => slc_rsl) | exact ro_f1 (fun _ h => h) | exact ro_f1 (fun _ => slc_rsl) | exact ro_f2 (fun _ h => h) | exact ro_f2 (fun _ => slc_rsl) | exact ro_f3 (fun _ h => h) | exact ro_f3 (fun _ => slc_rsl) | exact ro_f4 (fun _ h => h) | exact ro_f4 (fun _ => slc_rsl) | exact ro_f5 (fun _ h => h) | exact ro_f5 (fun _ => slc_rsl) | exact ro_f6 (fun _ h => h) | exact ro_f6 (fun _ => slc_rsl)) ?_))) (fun _ _ => rfl) (fun _ _ _ h => h.sub (by (repeat (first | exact pt_nil | apply pt0 | apply pt1 | apply pt2 | apply pt3 | apply pt4 | apply pt5 | apply pt6 | apply pt7 | apply pt8 | apply pt9 | apply pt10 | apply pt11 | apply pt12 | apply pt13 | apply pt14 | apply pt15 | apply pt16 | apply pt17))))) ?_
    refine wl_y rfl (y_move rfl) ?_
    refine wl_y rfl (y_extract rfl rfl) ?_
    refine wl_y rfl (y_extract rfl rfl) ?_
    refine wl_y rfl (y_extract rfl rfl) ?_
    refine wl_y rfl (y_assign rfl) ?_
    refine wl_y rfl (y_assign rfl) ?_
    refine wl_y rfl (y_assign rfl) ?_
    refine wl_nil ?_
    refine wq_then ?_
    refine wc_seq ?_
    refine wc_seq ?_
    refine wc_region ?_
    refine wl_y rfl (y_move rfl) ?_
    refine wl_y rfl (y_neqI rfl rfl) ?_
    refine wl_nil ?_
    refine wq_then ?_
    refine wc_cond rfl (fun hc25 => ?_) (fun hc25 => ?_)
    ·
      simp at hc25
      refine wc_seq ?_
      refine wc_region ?_
      refine wl_y rfl (y_move rfl) ?_
      refine wl_y rfl (y_move rfl) ?_
      refine wl_y rfl (y_nilCheck rfl) ?_
      refine wl_y rfl (y_fieldAddr F92_1 rfl) ?_
      first | refine wl_u (yu_store [] (l' := [_, _]) T25 rfl rfl rfl rfl rfl rfl rfl) ?_ | refine wl_u (yu_store [_] (l' := [_, _]) T25 rfl rfl rfl rfl rfl rfl rfl) ?_ | refine wl_u (yu_store [_, _] (l' := [_, _]) T25 rfl rfl rfl rfl rfl rfl rfl) ?_
      refine wl_nil ?_
      refine wq_then ?_
      refine wc_seq ?_
      refine wc_region ?_
      refine wl_y rfl (y_assign rfl) ?_
      refine wl_nil ?_
      refine wq_then ?_
      refine wc_ret ?_
      refine wq_then_ret ?_
      refine wq_ret1 rfl rfl (fun w hw => ?_)
      have e : r.text = ({ r with bad := (nextF r.rest).2.2 }, []) := by rw [Rdr'.text, if_neg (by omega), if_pos (by omega)]
      rw [e]; exact ⟨(), trivial, rfl, hw⟩
    ·
      simp at hc25
      refine wc_skip ?_
      refine wq_then ?_
      refine wc_seq ?_
      refine wc_region ?_
      refine wl_y rfl (y_move rfl) ?_
      refine wl_y rfl (y_move rfl) ?_
      refine wl_y rfl (y_nilCheck rfl) ?_
      refine wl_y rfl (y_fieldAddr F92_0 rfl) ?_
      first | refine wl_u (yu_store [] (l' := [_, _]) T9 rfl rfl rfl rfl rfl rfl rfl) ?_ | refine wl_u (yu_store [_] (l' := [_, _]) T9 rfl rfl rfl rfl rfl rfl rfl) ?_ | refine wl_u (yu_store [_, _] (l' := [_, _]) T9 rfl rfl rfl rfl rfl rfl rfl) ?_
      refine wl_nil ?_
      refine wq_then ?_
      refine wc_seq ?_
      refine wc_region ?_
      refine wl_y rfl (y_move rfl) ?_
      refine wl_y rfl (y_assign rfl) ?_
      refine wl_nil ?_
      refine wq_then ?_
      refine wc_ret ?_
      refine wq_ret1 rfl rfl (fun w hw => ?_)
      have e : r.text = ({ r with rest := (nextF r.rest).2.1 }, (nextF r.rest).1) := by rw [Rdr'.text, if_neg (by omega), if_neg (by omega)]
      rw [e]; exact ⟨(), trivial, rfl, hw⟩

set_option maxHeartbeats 1000000 in
theorem end_p (b : Nat) (r : Rdr') :
    Ctr Tryz.prog 28 #[ptr b] [] [rdA 92 b r] (fun _ : Unit => True) (fun _ => vI r.fin) (fun _ => [rdA 92 b r]) := by
  refine spec_start (n := 23) [(0, ptr b)] Tryz.func28 rfl rfl ⟨rfl, trivial⟩ rfl ?_
  intro w0 K hR
  refine wc_seq ?_
  refine wc_region ?_
  refine wl_y rfl (y_assign rfl) ?_
  refine wl_nil ?_
  refine wq_then ?_
  refine wc_seq ?_
  refine wc_block ?_
  refine wc_seq ?_
  refine wc_region ?_
  refine wl_y rfl (y_move rfl) ?_
  refine wl_y rfl (y_eqlP Tryz.underlying57 rfl rfl) ?_
  refine wl_y rfl (y_assign rfl) ?_
  refine wl_nil ?_
  refine wq_then ?_
  refine wc_known 3 false rfl (rfl) ?_
  refine wc_cond_false rfl ?_
  refine wc_seq ?_
  refine wc_region ?_
  refine wl_y rfl (y_move rfl) ?_
  refine wl_y rfl (y_nilCheck rfl) ?_
  refine wl_y rfl (y_fieldAddr F92_1 rfl) ?_
  refine wl_y rfl (y_load NA25 rfl (by first | exact cell_blk [] rfl | exact cell_blk [_] rfl | exact cell_blk [_, _] rfl | exact cellR_blk (by assumption) rfl)) ?_
  refine wl_y rfl (y_eqlI rfl rfl) ?_
  refine wl_y rfl (y_move rfl) ?_
  apply wl_and 6 18 [(0, _)] (t := 12) rfl ⟨rfl, trivial⟩
  · intro hg12 hM18
    try (simp at hg12)
    refine wl_yg rfl rfl rfl (y_move rfl) ?_
    refine wl_yg rfl rfl rfl (y_nilCheck rfl) ?_
    refine wl_yg rfl rfl rfl (y_fieldAddr F92_0 rfl) ?_
    refine wl_yg rfl rfl rfl (y_load NA9 rfl (by first | exact cell_blk [] rfl | exact cell_blk [_] rfl | exact cell_blk [_, _] rfl | exact cellR_blk (by assumption) rfl)) ?_
    refine wl_yg rfl rfl rfl (y_neqS rfl rfl) ?_
    refine wl_y rfl (y_pick_t rfl rfl) ?_
    exact wl_weaken hM18 ⟨rfl, rfl, trivial⟩
  · intro hg12 hM18
    refine wl_sk rfl rfl rfl rfl ?_
    refine wl_sk rfl rfl rfl rfl ?_
    refine wl_sk rfl rfl rfl rfl ?_
    refine wl_sk rfl rfl rfl rfl ?_
    refine wl_sk rfl rfl rfl rfl ?_
    refine wl_y rfl (y_pick_f rfl rfl) ?_
    exact wl_weaken hM18 ⟨rfl, rfl, trivial⟩
  ·
    refine wl_y rfl (y_assign rfl) ?_
    refine wl_nil ?_
    refine wq_then ?_
    refine wc_cond rfl (fun hc6 => ?_) (fun hc6 => ?_)
    ·
      simp at hc6
      refine wc_seq ?_
      refine wc_region ?_
      refine wl_y rfl (y_assign rfl) ?_
      refine wl_nil ?_
      refine wq_then ?_
      refine wc_ret ?_
      refine wq_block_ret (wq_then_ret ?_)
      refine wq_ret1 rfl rfl (fun w hw => ?_)
      have e : r.fin = 12 := if_pos (by simpa using hc6)
      rw [e]; exact ⟨(), trivial, rfl, hw⟩
    ·
      simp at hc6
      refine wc_skip ?_
      refine wq_block_normal ?_
      refine wq_then ?_
      refine wc_seq ?_
      refine wc_region ?_
      refine wl_y rfl (y_move rfl) ?_
      refine wl_y rfl (y_nilCheck rfl) ?_
      refine wl_y rfl (y_fieldAddr F92_1 rfl) ?_
      refine wl_y rfl (y_load NA25 rfl (by first | exact cell_blk [] rfl | exact cell_blk [_] rfl | exact cell_blk [_, _] rfl | exact cellR_blk (by assumption) rfl)) ?_
      refine wl_y rfl (y_assign rfl) ?_
      refine wl_nil ?_
      refine wq_then ?_
      refine wc_ret ?_
      refine wq_ret1 rfl rfl (fun w hw => ?_)
      have e : r.fin = r.bad := if_neg (by simpa using hc6)
      rw [e]; exact ⟨(), trivial, rfl, hw⟩

end Go.Proofs.YtbnahfjhlbibcaaGreatDoor
