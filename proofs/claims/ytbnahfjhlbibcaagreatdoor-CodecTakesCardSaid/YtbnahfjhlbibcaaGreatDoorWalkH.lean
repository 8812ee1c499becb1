/-
  Walks: the reference's readers, their texts and ends.
-/
import Derived.Test.YtbnahfjhlbibcaaGreatDoorWalkE
namespace Go.Proofs.YtbnahfjhlbibcaaGreatDoor
open Go.Eng

open Go.Lib
theorem val_step {s : Str} {k : Nat} {c : UInt8} (hc : s[k]? = some c) : valF (s.take (k + 1)) = 10 * valF (s.take k) + (c.toNat - 48) := by
  rw [List.take_add_one, hc]; exact valF_snoc _ _
theorem take_dig {s : Str} {k : Nat} (hall : ∀ j b, j < k → s[j]? = some b → isD b = true) : ∀ b ∈ s.take k, isD b = true := fun b hb => by
  obtain ⟨j, hj⟩ := List.mem_iff_getElem?.1 hb
  rw [List.getElem?_take] at hj
  split at hj
  · exact hall j b ‹_› hj
  · cases hj
theorem sub_dig {c : UInt8} (h : 48 ≤ (c.toNat : Int)) : IntKind.u8.wrap ((c.toNat : Int) - 48) = ((c.toNat - 48 : Nat) : Int) := by
  have := c.toNat_lt
  simp only [IntKind.wrap]
  first
  | decide
  | (simp [IntKind.bits, IntKind.signed]; omega)
theorem val_7 {s : Str} {k : Nat} (h7 : k ≤ 7) (hall : ∀ j b, j < k → s[j]? = some b → isD b = true) : valF (s.take k) < 10000000 := by
  have h3 := valF_lt (s.take k) (take_dig hall)
  have h4 : 10 ^ (s.take k).length ≤ 10 ^ 7 := Nat.pow_le_pow_right (by omega) (by rw [List.length_take]; omega)
  omega
theorem text_stay {r : Rdr'} (h : r.bad ≠ 0) : r.text = (r, []) := if_pos h
theorem text_bad {r : Rdr'} {e : Int} (h0 : r.bad = 0) (hn : nextF r.rest = ([], [], e)) (he : e ≠ 0) : r.text = ({ r with bad := e }, []) := by
  rw [Rdr'.text, if_neg (by omega), hn, if_pos he]
theorem text_good {r : Rdr'} {t q : Str} (h0 : r.bad = 0) (hn : nextF r.rest = (t, q, 0)) : r.text = ({ r with rest := q }, t) := by
  rw [Rdr'.text, if_neg (by omega), hn, if_neg (fun h => h rfl)]
theorem next_e1 {s : Str} (h : kLen s = s.length) : nextF s = ([], [], 10) := by rw [nextF, if_pos h]
theorem next_e2 {s : Str} (h : kLen s ≠ s.length) (h2 : badL s = true) : nextF s = ([], [], 11) := by rw [nextF, if_neg h, if_pos h2]
theorem next_e3 {s : Str} (h : kLen s ≠ s.length) (h2 : badL s = false) (h3 : (s.drop (kLen s + 1)).length ≤ valF (preF s)) : nextF s = ([], [], 10) := by rw [nextF, if_neg h, if_neg (by rw [h2]; decide), if_pos h3]
theorem next_e4 {s : Str} (h : kLen s ≠ s.length) (h2 : badL s = false) (h3 : ¬ (s.drop (kLen s + 1)).length ≤ valF (preF s)) (h4 : (s.drop (kLen s + 1))[valF (preF s)]? ≠ some cCom) : nextF s = ([], [], 11) := by rw [nextF, if_neg h, if_neg (by rw [h2]; decide), if_neg h3, if_pos h4]
theorem next_ok {s : Str} (h : kLen s ≠ s.length) (h2 : badL s = false) (h3 : ¬ (s.drop (kLen s + 1)).length ≤ valF (preF s)) (h4 : (s.drop (kLen s + 1))[valF (preF s)]? = some cCom) : nextF s = ((s.drop (kLen s + 1)).take (valF (preF s)), (s.drop (kLen s + 1)).drop (valF (preF s) + 1), 0) := by rw [nextF, if_neg h, if_neg (by rw [h2]; decide), if_neg h3, if_neg (by rw [h4]; exact fun h => h rfl)]
theorem val_pre (s : Str) : valF (preF s) < 10000000 := by
  have h3 := valF_lt (preF s) (preF_dig s)
  have h4 : 10 ^ (preF s).length ≤ 10 ^ 7 := Nat.pow_le_pow_right (by omega) (by rw [preF_len]; exact kLen_7 s)
  omega
set_option maxHeartbeats 1000000 in
theorem rwrong_c (b : Nat) (r : Rdr') (e : Int) :
    Ctr Tryz.prog 56 #[ptr b, vI e] [] [rdA 72 b r] (fun _ : Unit => True) (fun _ => vS []) (fun _ => [rdA 72 b { r with bad := e }]) := by
  refine spec_start (n := 9) [(0, ptr b), (1, vI e)] Tryz.func56 rfl rfl ⟨rfl, rfl, trivial⟩ rfl ?_
  intro w0 K hR
  refine wc_seq ?_
  refine wc_region ?_
  refine wl_y rfl (y_assign rfl) ?_
  refine wl_nil ?_
  refine wq_then ?_
  refine wc_seq ?_
  refine wc_region ?_
  refine wl_y rfl (y_move rfl) ?_
  refine wl_y rfl (y_move rfl) ?_
  refine wl_y rfl (y_nilCheck rfl) ?_
  refine wl_y rfl (y_fieldAddr F72_1 rfl) ?_
  first | refine wl_u (yu_store [] (l' := [_, _]) T25 rfl rfl rfl rfl rfl rfl rfl) ?_ | refine wl_u (yu_store [_] (l' := [_, _]) T25 rfl rfl rfl rfl rfl rfl rfl) ?_ | refine wl_u (yu_store [_, _] (l' := [_, _]) T25 rfl rfl rfl rfl rfl rfl rfl) ?_
  refine wl_nil ?_
  refine wq_then ?_
  refine wc_seq ?_
  refine wc_region ?_
  refine wl_y rfl (y_assign rfl) ?_
  refine wl_nil ?_
  refine wq_then ?_
  refine wc_ret ?_
  refine wq_ret1 rfl rfl (fun w hw => ?_)
  exact ⟨(), trivial, rfl, hw⟩

set_option maxHeartbeats 1000000 in
theorem rend_p (b : Nat) (r : Rdr') :
    Ctr Tryz.prog 31 #[ptr b] [] [rdA 72 b r] (fun _ : Unit => True) (fun _ => vI r.fin) (fun _ => [rdA 72 b r]) := by
  refine spec_start (n := 19) [(0, ptr b)] Tryz.func31 rfl rfl ⟨rfl, trivial⟩ rfl ?_
  intro w0 K hR
  refine wc_seq ?_
  refine wc_region ?_
  refine wl_y rfl (y_assign rfl) ?_
  refine wl_nil ?_
  refine wq_then ?_
  refine wc_seq ?_
  refine wc_seq ?_
  refine wc_region ?_
  refine wl_y rfl (y_move rfl) ?_
  refine wl_y rfl (y_nilCheck rfl) ?_
  refine wl_y rfl (y_fieldAddr F72_1 rfl) ?_
  refine wl_y rfl (y_load NA25 rfl (by first | exact cell_blk [] rfl | exact cell_blk [_] rfl | exact cell_blk [_, _] rfl | exact cellR_blk (by assumption) rfl)) ?_
  refine wl_y rfl (y_eqlI rfl rfl) ?_
  refine wl_y rfl (y_move rfl) ?_
  apply wl_and 6 14 [(0, _)] (t := 8) rfl ⟨rfl, trivial⟩
  · intro hg8 hM14
    try (simp at hg8)
    refine wl_yg rfl rfl rfl (y_move rfl) ?_
    refine wl_yg rfl rfl rfl (y_nilCheck rfl) ?_
    refine wl_yg rfl rfl rfl (y_fieldAddr F72_0 rfl) ?_
    refine wl_yg rfl rfl rfl (y_load NA9 rfl (by first | exact cell_blk [] rfl | exact cell_blk [_] rfl | exact cell_blk [_, _] rfl | exact cellR_blk (by assumption) rfl)) ?_
    refine wl_yg rfl rfl rfl (y_neqS rfl rfl) ?_
    refine wl_y rfl (y_pick_t rfl rfl) ?_
    exact wl_weaken hM14 ⟨rfl, rfl, trivial⟩
  · intro hg8 hM14
    refine wl_sk rfl rfl rfl rfl ?_
    refine wl_sk rfl rfl rfl rfl ?_
    refine wl_sk rfl rfl rfl rfl ?_
    refine wl_sk rfl rfl rfl rfl ?_
    refine wl_sk rfl rfl rfl rfl ?_
    refine wl_y rfl (y_pick_f rfl rfl) ?_
    exact wl_weaken hM14 ⟨rfl, rfl, trivial⟩
  ·
    refine wl_nil ?_
    refine wq_then ?_
    refine wc_cond rfl (fun hc14 => ?_) (fun hc14 => ?_)
    ·
      simp at hc14
      refine wc_seq ?_
      refine wc_region ?_
      refine wl_y rfl (y_assign rfl) ?_
      refine wl_nil ?_
      refine wq_then ?_
      refine wc_ret ?_
      refine wq_then_ret ?_
      refine wq_ret1 rfl rfl (fun w hw => ?_)
      have e : r.fin = 12 := if_pos (by simpa using hc14)
      rw [e]; exact ⟨(), trivial, rfl, hw⟩
    ·
      simp at hc14
      refine wc_skip ?_
      refine wq_then ?_
      refine wc_seq ?_
      refine wc_region ?_
      refine wl_y rfl (y_move rfl) ?_
      refine wl_y rfl (y_nilCheck rfl) ?_
      refine wl_y rfl (y_fieldAddr F72_1 rfl) ?_
      refine wl_y rfl (y_load NA25 rfl (by first | exact cell_blk [] rfl | exact cell_blk [_] rfl | exact cell_blk [_, _] rfl | exact cellR_blk (by assumption) rfl)) ?_
      refine wl_y rfl (y_assign rfl) ?_
      refine wl_nil ?_
      refine wq_then ?_
      refine wc_ret ?_
      refine wq_ret1 rfl rfl (fun w hw => ?_)
      have e : r.fin = r.bad := if_neg (by simpa using hc14)
      rw [e]; exact ⟨(), trivial, rfl, hw⟩

set_option maxHeartbeats 1000000 in
theorem rtext_p (b : Nat) (r : Rdr') (hl : r.rest.length ≤ 1000000000) :
    Ctr Tryz.prog 38 #[ptr b] [] [rdA 72 b r] (fun _ : Unit => True) (fun _ => vS r.text.2) (fun _ => [rdA 72 b r.text.1]) := by
  refine spec_start (n := 117) [(0, ptr b)] Tryz.func38 rfl rfl ⟨rfl, trivial⟩ rfl ?_
  intro w0 K hR
  refine wc_seq ?_
  refine wc_region ?_
  refine wl_y rfl (y_assign rfl) ?_
  refine wl_nil ?_
  refine wq_then ?_
  refine wc_seq ?_
  refine wc_seq ?_
  refine wc_region ?_
  refine wl_y rfl (y_move rfl) ?_
  refine wl_y rfl (y_nilCheck rfl) ?_
  refine wl_y rfl (y_fieldAddr F72_1 rfl) ?_
  refine wl_y rfl (y_load NA25 rfl (by first | exact cell_blk [] rfl | exact cell_blk [_] rfl | exact cell_blk [_, _] rfl | exact cellR_blk (by assumption) rfl)) ?_
  refine wl_y rfl (y_neqI rfl rfl) ?_
  refine wl_nil ?_
  refine wq_then ?_
  refine wc_cond rfl (fun hc10 => ?_) (fun hc10 => ?_)
  ·
    simp at hc10
    refine wc_seq ?_
    refine wc_region ?_
    refine wl_y rfl (y_assign rfl) ?_
    refine wl_nil ?_
    refine wq_then ?_
    refine wc_ret ?_
    refine wq_then_ret ?_
    refine wq_ret1 rfl rfl (fun w hw => ?_)
    rw [text_stay (by omega)]; exact ⟨(), trivial, rfl, hw⟩
  ·
    simp at hc10
    refine wc_skip ?_
    refine wq_then ?_
    refine wc_seq ?_
    refine wc_region ?_
    refine wl_y rfl (y_assign rfl) ?_
    refine wl_nil ?_
    refine wq_then ?_
    refine wc_seq ?_
    refine wc_region ?_
    refine wl_y rfl (y_assign rfl) ?_
    refine wl_nil ?_
    refine wq_then ?_
    refine wc_seq (wc_cut (α := Unit) (fun x => True) [(0, _)] (fun x => [(4, vI (kLen r.rest)), (3, vI (valF (preF r.rest) : Nat))]) (fun x => Hp w0 K [rdA 72 b r]) ⟨rfl, trivial⟩ ?_ ?_)
    ·
      refine wc_block ?_
      refine wc_loop (α := Nat) (fun y => y ≤ 7 ∧ y ≤ r.rest.length ∧ ∀ j b, j < y → r.rest[j]? = some b → isD b = true) [(0, _)] (fun y => [(4, vI y), (3, vI (valF (r.rest.take y) : Nat))]) (fun y => Hp w0 K [rdA 72 b r]) (fun y => 7 - y) 0 ?_ ⟨rfl, rfl, rfl, trivial⟩ ?_ ?_
      · exact ⟨Nat.zero_le _, Nat.zero_le _, fun j _ hj => absurd hj (Nat.not_lt_zero _)⟩
      · exact fun w hw => hw
      · rintro k ⟨h7, hk, hall⟩
        refine wc_seq ?_
        refine wc_seq ?_
        refine wc_region ?_
        refine wl_y rfl (y_move rfl) ?_
        refine wl_y rfl (y_move rfl) ?_
        refine wl_y rfl (y_nilCheck rfl) ?_
        refine wl_y rfl (y_fieldAddr F72_0 rfl) ?_
        refine wl_y rfl (y_load NA9 rfl (by first | exact cell_blk [] rfl | exact cell_blk [_] rfl | exact cell_blk [_, _] rfl | exact cellR_blk (by assumption) rfl)) ?_
        refine wl_y rfl (y_lenS Tryz.underlying9 rfl) ?_
        refine wl_y rfl (y_lss rfl rfl) ?_
        refine wl_y rfl (y_move rfl) ?_
        refine wl_case 18 rfl (fun hg18 => ?_) (fun hg18 => ?_)
        ·
          simp at hg18
          refine wl_yg rfl rfl rfl (y_move rfl) ?_
          refine wl_yg rfl rfl rfl (y_lss rfl rfl) ?_
          refine wl_y rfl (y_pick_t rfl rfl) ?_
          refine wl_y rfl (y_move rfl) ?_
          refine wl_case 22 rfl (fun hg22 => ?_) (fun hg22 => ?_)
          ·
            simp at hg22
            obtain ⟨c, hc⟩ := at_get (s := r.rest) (k := k) (by omega)
            refine wl_yg rfl rfl rfl (y_move rfl) ?_
            refine wl_yg rfl rfl rfl (y_nilCheck rfl) ?_
            refine wl_yg rfl rfl rfl (y_fieldAddr F72_0 rfl) ?_
            refine wl_yg rfl rfl rfl (y_load NA9 rfl (by first | exact cell_blk [] rfl | exact cell_blk [_] rfl | exact cell_blk [_, _] rfl | exact cellR_blk (by assumption) rfl)) ?_
            refine wl_yg rfl rfl rfl (y_move rfl) ?_
            refine wl_yg rfl rfl rfl (y_indexS Tryz.underlying9 rfl rfl rfl (by assumption)) ?_
            refine wl_yg rfl rfl rfl (y_geq rfl rfl) ?_
            refine wl_y rfl (y_pick_t rfl rfl) ?_
            refine wl_y rfl (y_move rfl) ?_
            refine wl_case 31 rfl (fun hg31 => ?_) (fun hg31 => ?_)
            ·
              simp at hg31
              refine wl_yg rfl rfl rfl (y_move rfl) ?_
              refine wl_yg rfl rfl rfl (y_nilCheck rfl) ?_
              refine wl_yg rfl rfl rfl (y_fieldAddr F72_0 rfl) ?_
              refine wl_yg rfl rfl rfl (y_load NA9 rfl (by first | exact cell_blk [] rfl | exact cell_blk [_] rfl | exact cell_blk [_, _] rfl | exact cellR_blk (by assumption) rfl)) ?_
              refine wl_yg rfl rfl rfl (y_move rfl) ?_
              refine wl_yg rfl rfl rfl (y_indexS Tryz.underlying9 rfl rfl rfl (by assumption)) ?_
              refine wl_yg rfl rfl rfl (y_leq rfl rfl) ?_
              refine wl_y rfl (y_pick_t rfl rfl) ?_
              refine wl_nil ?_
              refine wq_then ?_
              refine wc_cond rfl (fun hc39 => ?_) (fun hc39 => ?_)
              ·
                simp at hc39
                refine wc_skip ?_
                refine wq_then ?_
                refine wc_block ?_
                refine wc_seq ?_
                refine wc_region ?_
                have hv7 := val_7 (s := r.rest) h7 hall
                refine wl_y rfl (y_move rfl) ?_
                refine wl_y rfl (y_mul rfl rfl (by omega)) ?_
                refine wl_y rfl (y_move rfl) ?_
                refine wl_y rfl (y_nilCheck rfl) ?_
                refine wl_y rfl (y_fieldAddr F72_0 rfl) ?_
                refine wl_y rfl (y_load NA9 rfl (by first | exact cell_blk [] rfl | exact cell_blk [_] rfl | exact cell_blk [_, _] rfl | exact cellR_blk (by assumption) rfl)) ?_
                refine wl_y rfl (y_move rfl) ?_
                refine wl_y rfl (y_indexS Tryz.underlying9 rfl rfl rfl (by assumption)) ?_
                refine wl_y rfl (y_subE (r := ((c.toNat - 48 : Nat) : Int)) rfl rfl (sub_dig (by omega))) ?_
                refine wl_y rfl (y_convInt (q := ((c.toNat - 48 : Nat) : Int)) Tryz.underlying5 Tryz.underlying3 rfl (IntWalk.i64_in _ (by have := c.toNat_lt; omega))) ?_
                refine wl_y rfl (y_add rfl rfl (by omega)) ?_
                refine wl_y rfl (y_assign rfl) ?_
                refine wl_nil ?_
                refine wq_then ?_
                refine wc_region ?_
                refine wl_y rfl (y_move rfl) ?_
                refine wl_y rfl (y_add rfl rfl (by omega)) ?_
                refine wl_y rfl (y_assign rfl) ?_
                refine wl_nil ?_
                refine wq_block_normal ?_
                refine wq_same 3 (vI (valF (r.rest.take (k + 1)) : Nat)) rfl (congrArg vI (by rw [val_step hc]; omega)) ?_
                exact wq_round (k + 1) (by omega) ⟨by omega, by omega, dig_snoc hall hc (isDD hg31 hc39)⟩ ⟨rfl, rfl, rfl, trivial⟩ (fun w hw => hw)
              ·
                simp at hc39
                refine wc_exit ?_
                refine wq_then_exit (wq_then_exit (wq_block_exit ?_))
                have hke := kLen_eq h7 hk hall (.inr (.inr ⟨c, hc, notD2 hc39⟩))
                refine wq_same 4 (vI (kLen r.rest)) rfl (by rw [hke]) ?_
                refine wq_same 3 (vI (valF (preF r.rest) : Nat)) rfl (by rw [preF, hke]) ?_
                exact wq_cut () trivial ⟨rfl, rfl, rfl, trivial⟩ (fun w hw => hw)
            ·
              simp at hg31
              refine wl_sk rfl rfl rfl rfl ?_
              refine wl_sk rfl rfl rfl rfl ?_
              refine wl_sk rfl rfl rfl rfl ?_
              refine wl_sk rfl rfl rfl rfl ?_
              refine wl_sk rfl rfl rfl rfl ?_
              refine wl_sk rfl rfl rfl rfl ?_
              refine wl_sk rfl rfl rfl rfl ?_
              refine wl_y rfl (y_pick_f rfl rfl) ?_
              refine wl_nil ?_
              refine wq_then ?_
              refine wc_cond_false rfl ?_
              refine wc_exit ?_
              refine wq_then_exit (wq_then_exit (wq_block_exit ?_))
              have hke := kLen_eq h7 hk hall (.inr (.inr ⟨c, hc, notD hg31⟩))
              refine wq_same 4 (vI (kLen r.rest)) rfl (by rw [hke]) ?_
              refine wq_same 3 (vI (valF (preF r.rest) : Nat)) rfl (by rw [preF, hke]) ?_
              exact wq_cut () trivial ⟨rfl, rfl, rfl, trivial⟩ (fun w hw => hw)
          ·
            simp at hg22
            refine wl_sk rfl rfl rfl rfl ?_
            refine wl_sk rfl rfl rfl rfl ?_
            refine wl_sk rfl rfl rfl rfl ?_
            refine wl_sk rfl rfl rfl rfl ?_
            refine wl_sk rfl rfl rfl rfl ?_
            refine wl_sk rfl rfl rfl rfl ?_
            refine wl_sk rfl rfl rfl rfl ?_
            refine wl_y rfl (y_pick_f rfl rfl) ?_
            refine wl_y rfl (y_move rfl) ?_
            refine wl_sk rfl rfl rfl rfl ?_
            refine wl_sk rfl rfl rfl rfl ?_
            refine wl_sk rfl rfl rfl rfl ?_
            refine wl_sk rfl rfl rfl rfl ?_
            refine wl_sk rfl rfl rfl rfl ?_
            refine wl_sk rfl rfl rfl rfl ?_
            refine wl_sk rfl rfl rfl rfl ?_
            refine wl_y rfl (y_pick_f rfl rfl) ?_
            refine wl_nil ?_
            refine wq_then ?_
            refine wc_cond_false rfl ?_
            refine wc_exit ?_
            refine wq_then_exit (wq_then_exit (wq_block_exit ?_))
            have hke := kLen_eq h7 hk hall (.inl (by omega))
            refine wq_same 4 (vI (kLen r.rest)) rfl (by rw [hke]) ?_
            refine wq_same 3 (vI (valF (preF r.rest) : Nat)) rfl (by rw [preF, hke]) ?_
            exact wq_cut () trivial ⟨rfl, rfl, rfl, trivial⟩ (fun w hw => hw)
        ·
          simp at hg18
          refine wl_sk rfl rfl rfl rfl ?_
          refine wl_sk rfl rfl rfl rfl ?_
          refine wl_y rfl (y_pick_f rfl rfl) ?_
          refine wl_y rfl (y_move rfl) ?_
          refine wl_sk rfl rfl rfl rfl ?_
          refine wl_sk rfl rfl rfl rfl ?_
          refine wl_sk rfl rfl rfl rfl ?_
          refine wl_sk rfl rfl rfl rfl ?_
          refine wl_sk rfl rfl rfl rfl ?_
          refine wl_sk rfl rfl rfl rfl ?_
          refine wl_sk rfl rfl rfl rfl ?_
          refine wl_y rfl (y_pick_f rfl rfl) ?_
          refine wl_y rfl (y_move rfl) ?_
          refine wl_sk rfl rfl rfl rfl ?_
          refine wl_sk rfl rfl rfl rfl ?_
          refine wl_sk rfl rfl rfl rfl ?_
          refine wl_sk rfl rfl rfl rfl ?_
          refine wl_sk rfl rfl rfl rfl ?_
          refine wl_sk rfl rfl rfl rfl ?_
          refine wl_sk rfl rfl rfl rfl ?_
          refine wl_y rfl (y_pick_f rfl rfl) ?_
          refine wl_nil ?_
          refine wq_then ?_
          refine wc_cond_false rfl ?_
          refine wc_exit ?_
          refine wq_then_exit (wq_then_exit (wq_block_exit ?_))
          have hke := kLen_eq h7 hk hall (.inr (.inl (by omega)))
          refine wq_same 4 (vI (kLen r.rest)) rfl (by rw [hke]) ?_
          refine wq_same 3 (vI (valF (preF r.rest) : Nat)) rfl (by rw [preF, hke]) ?_
          exact wq_cut () trivial ⟨rfl, rfl, rfl, trivial⟩ (fun w hw => hw)
    · intro _ _
      have h7 := kLen_7 r.rest
      have hk := kLen_le r.rest
      have hvp := val_pre r.rest
      refine all_wc ?_
      refine wc_seq ?_
      refine wc_seq ?_
      refine wc_region ?_
      refine wl_y rfl (y_move rfl) ?_
      refine wl_y rfl (y_move rfl) ?_
      refine wl_y rfl (y_nilCheck rfl) ?_
      refine wl_y rfl (y_fieldAddr F72_0 rfl) ?_
      refine wl_y rfl (y_load NA9 rfl (by first | exact cell_blk [] rfl | exact cell_blk [_] rfl | exact cell_blk [_, _] rfl | exact cellR_blk (by assumption) rfl)) ?_
      refine wl_y rfl (y_lenS Tryz.underlying9 rfl) ?_
      refine wl_y rfl (y_eqlI rfl rfl) ?_
      refine wl_nil ?_
      refine wq_then ?_
      refine wc_cond rfl (fun hc59 => ?_) (fun hc59 => ?_)
      ·
        simp at hc59
        refine wc_seq ?_
        refine wc_region ?_
        refine wl_y rfl (y_move rfl) ?_
        refine wl_c (fun _ _ => want_none) rfl (yc_spec (fst := []) (cap := []) _ FN56 (rwrong_c b r 10) rfl rfl rfl (by (repeat (first | exact pt_nil | apply pt0 | apply pt1 | apply pt2 | apply pt3 | apply pt4 | apply pt5 | apply pt6 | apply pt7 | apply pt8 | apply pt9 | apply pt10 | apply pt11 | apply pt12 | apply pt13 | apply pt14 | apply pt15 | apply pt16 | apply pt17))) (by (repeat (first | exact ro_nil | exact ro_rest (by assumption) | refine ro_cons (by first | exact .inl (by assumption) | exact ro_f0 (fun _ h => h) | exact ro_f0 (fun _ => slc_rsl) | exact ro_f1 (fun _ h => h) | exact ro_f1 (fun _ => slc_rsl) | exact ro_f2 (fun _ h => h) | exact ro_f2 (fun _ => slc_rsl) | exact ro_f3 (fun _ h => h) | exact ro_f3 (fun _ => slc_rsl) | exact ro_f4 (fun _ h => h) | exact ro_f4 (fun _ => slc_rsl) | exact ro_f5 (fun _ h => h) | exact ro_f5 (fun _ => slc_rsl) | exact ro_f6 (fun _ h => h) | exact ro_f6 (fun _ => slc_rsl)) ?_)))) (wl_ex fun x61 hx61 => ?_)
        refine wl_y rfl (y_assign rfl) ?_
        refine wl_nil ?_
        refine wq_then ?_
        refine wc_ret ?_
        refine wq_then_ret ?_
        refine wq_ret1 rfl rfl (fun w hw => ?_)
        rw [text_bad (by omega) (next_e1 (by omega)) (by decide)]; exact ⟨(), trivial, rfl, hw⟩
      ·
        simp at hc59
        refine wc_skip ?_
        refine wq_then ?_
        refine wc_seq (wc_cut (α := Unit) (fun x => kLen r.rest ≠ r.rest.length ∧ badL r.rest = false) [(0, _), (3, _), (4, _)] (fun x => []) (fun x => Hp w0 K [rdA 72 b r]) ⟨rfl, rfl, rfl, trivial⟩ ?_ ?_)
        ·
          refine wc_seq ?_
          refine wc_region ?_
          obtain ⟨c, hc⟩ := at_get (s := r.rest) (k := kLen r.rest) (by omega)
          refine wl_y rfl (y_move rfl) ?_
          refine wl_y rfl (y_nilCheck rfl) ?_
          refine wl_y rfl (y_fieldAddr F72_0 rfl) ?_
          refine wl_y rfl (y_load NA9 rfl (by first | exact cell_blk [] rfl | exact cell_blk [_] rfl | exact cell_blk [_, _] rfl | exact cellR_blk (by assumption) rfl)) ?_
          refine wl_y rfl (y_move rfl) ?_
          refine wl_y rfl (y_indexS Tryz.underlying9 rfl rfl rfl (by assumption)) ?_
          refine wl_y rfl (y_neqI rfl rfl) ?_
          refine wl_y rfl (y_move rfl) ?_
          refine wl_case 69 rfl (fun hg69 => ?_) (fun hg69 => ?_)
          ·
            simp at hg69
            refine wl_sk rfl rfl rfl rfl ?_
            refine wl_sk rfl rfl rfl rfl ?_
            refine wl_y rfl (y_pick_t rfl rfl) ?_
            refine wl_y rfl (y_move rfl) ?_
            refine wl_sk rfl rfl rfl rfl ?_
            refine wl_sk rfl rfl rfl rfl ?_
            refine wl_sk rfl rfl rfl rfl ?_
            refine wl_sku rfl rfl rfl ?_
            refine wl_sku rfl rfl rfl ?_
            refine wl_sku rfl rfl rfl ?_
            refine wl_sku rfl rfl rfl ?_
            refine wl_sku rfl rfl rfl ?_
            refine wl_sku rfl rfl rfl ?_
            refine wl_sk rfl rfl rfl rfl ?_
            refine wl_y rfl (y_pick_t rfl rfl) ?_
            refine wl_nil ?_
            refine wq_then ?_
            refine wc_cond_true rfl ?_
            refine wc_seq ?_
            refine wc_region ?_
            refine wl_y rfl (y_move rfl) ?_
            refine wl_c (fun _ _ => want_none) rfl (yc_spec (fst := []) (cap := []) _ FN56 (rwrong_c b r 11) rfl rfl rfl (by (repeat (first | exact pt_nil | apply pt0 | apply pt1 | apply pt2 | apply pt3 | apply pt4 | apply pt5 | apply pt6 | apply pt7 | apply pt8 | apply pt9 | apply pt10 | apply pt11 | apply pt12 | apply pt13 | apply pt14 | apply pt15 | apply pt16 | apply pt17))) (by (repeat (first | exact ro_nil | exact ro_rest (by assumption) | refine ro_cons (by first | exact .inl (by assumption) | exact ro_f0 (fun _ h => h) | exact ro_f0 (fun _ => slc_rsl) | exact ro_f1 (fun _ h => h) | exact ro_f1 (fun _ => slc_rsl) | exact ro_f2 (fun _ h => h) | exact ro_f2 (fun _ => slc_rsl) | exact ro_f3 (fun _ h => h) | exact ro_f3 (fun _ => slc_rsl) | exact ro_f4 (fun _ h => h) | exact ro_f4 (fun _ => slc_rsl) | exact ro_f5 (fun _ h => h) | exact ro_f5 (fun _ => slc_rsl) | exact ro_f6 (fun _ h => h) | exact ro_f6 (fun _ => slc_rsl)) ?_)))) (wl_ex fun x86 hx86 => ?_)
            refine wl_y rfl (y_assign rfl) ?_
            refine wl_nil ?_
            refine wq_then ?_
            refine wc_ret ?_
            refine wq_then_ret ?_
            refine wq_ret1 rfl rfl (fun w hw => ?_)
            rw [text_bad (by omega) (next_e2 (by omega) (bad1 hc (u8_ne (k := 58) (by omega) rfl))) (by decide)]; exact ⟨(), trivial, rfl, hw⟩
          ·
            simp at hg69
            refine wl_yg rfl rfl rfl (y_move rfl) ?_
            refine wl_yg rfl rfl rfl (y_eqlI rfl rfl) ?_
            refine wl_y rfl (y_pick_f rfl rfl) ?_
            refine wl_y rfl (y_move rfl) ?_
            refine wl_case 73 rfl (fun hg73 => ?_) (fun hg73 => ?_)
            ·
              simp at hg73
              refine wl_sk rfl rfl rfl rfl ?_
              refine wl_sk rfl rfl rfl rfl ?_
              refine wl_sk rfl rfl rfl rfl ?_
              refine wl_sku rfl rfl rfl ?_
              refine wl_sku rfl rfl rfl ?_
              refine wl_sku rfl rfl rfl ?_
              refine wl_sku rfl rfl rfl ?_
              refine wl_sku rfl rfl rfl ?_
              refine wl_sku rfl rfl rfl ?_
              refine wl_sk rfl rfl rfl rfl ?_
              refine wl_y rfl (y_pick_t rfl rfl) ?_
              refine wl_nil ?_
              refine wq_then ?_
              refine wc_cond_true rfl ?_
              refine wc_seq ?_
              refine wc_region ?_
              refine wl_y rfl (y_move rfl) ?_
              refine wl_c (fun _ _ => want_none) rfl (yc_spec (fst := []) (cap := []) _ FN56 (rwrong_c b r 11) rfl rfl rfl (by (repeat (first | exact pt_nil | apply pt0 | apply pt1 | apply pt2 | apply pt3 | apply pt4 | apply pt5 | apply pt6 | apply pt7 | apply pt8 | apply pt9 | apply pt10 | apply pt11 | apply pt12 | apply pt13 | apply pt14 | apply pt15 | apply pt16 | apply pt17))) (by (repeat (first | exact ro_nil | exact ro_rest (by assumption) | refine ro_cons (by first | exact .inl (by assumption) | exact ro_f0 (fun _ h => h) | exact ro_f0 (fun _ => slc_rsl) | exact ro_f1 (fun _ h => h) | exact ro_f1 (fun _ => slc_rsl) | exact ro_f2 (fun _ h => h) | exact ro_f2 (fun _ => slc_rsl) | exact ro_f3 (fun _ h => h) | exact ro_f3 (fun _ => slc_rsl) | exact ro_f4 (fun _ h => h) | exact ro_f4 (fun _ => slc_rsl) | exact ro_f5 (fun _ h => h) | exact ro_f5 (fun _ => slc_rsl) | exact ro_f6 (fun _ h => h) | exact ro_f6 (fun _ => slc_rsl)) ?_)))) (wl_ex fun x86 hx86 => ?_)
              refine wl_y rfl (y_assign rfl) ?_
              refine wl_nil ?_
              refine wq_then ?_
              refine wc_ret ?_
              refine wq_then_ret ?_
              refine wq_ret1 rfl rfl (fun w hw => ?_)
              rw [text_bad (by omega) (next_e2 (by omega) (bad2 (by omega))) (by decide)]; exact ⟨(), trivial, rfl, hw⟩
            ·
              simp at hg73
              refine wl_yg rfl rfl rfl (y_move rfl) ?_
              refine wl_yg rfl rfl rfl (y_gtr rfl rfl) ?_
              refine wl_yg rfl rfl rfl (y_move rfl) ?_
              refine wl_case 76 rfl (fun hg76 => ?_) (fun hg76 => ?_)
              ·
                simp at hg76
                obtain ⟨c0, hc0⟩ := at_get (s := r.rest) (k := 0) (by omega)
                refine wl_yg rfl rfl rfl (y_move rfl) ?_
                refine wl_yg rfl rfl rfl (y_nilCheck rfl) ?_
                refine wl_yg rfl rfl rfl (y_fieldAddr F72_0 rfl) ?_
                refine wl_yg rfl rfl rfl (y_load NA9 rfl (by first | exact cell_blk [] rfl | exact cell_blk [_] rfl | exact cell_blk [_, _] rfl | exact cellR_blk (by assumption) rfl)) ?_
                refine wl_yg rfl rfl rfl (y_indexS Tryz.underlying9 rfl rfl rfl (by assumption)) ?_
                refine wl_yg rfl rfl rfl (y_eqlI rfl rfl) ?_
                refine wl_yg rfl rfl rfl (y_pick_t rfl rfl) ?_
                refine wl_y rfl (y_pick_f rfl rfl) ?_
                refine wl_nil ?_
                refine wq_then ?_
                refine wc_cond rfl (fun hc84 => ?_) (fun hc84 => ?_)
                ·
                  simp at hc84
                  refine wc_seq ?_
                  refine wc_region ?_
                  refine wl_y rfl (y_move rfl) ?_
                  refine wl_c (fun _ _ => want_none) rfl (yc_spec (fst := []) (cap := []) _ FN56 (rwrong_c b r 11) rfl rfl rfl (by (repeat (first | exact pt_nil | apply pt0 | apply pt1 | apply pt2 | apply pt3 | apply pt4 | apply pt5 | apply pt6 | apply pt7 | apply pt8 | apply pt9 | apply pt10 | apply pt11 | apply pt12 | apply pt13 | apply pt14 | apply pt15 | apply pt16 | apply pt17))) (by (repeat (first | exact ro_nil | exact ro_rest (by assumption) | refine ro_cons (by first | exact .inl (by assumption) | exact ro_f0 (fun _ h => h) | exact ro_f0 (fun _ => slc_rsl) | exact ro_f1 (fun _ h => h) | exact ro_f1 (fun _ => slc_rsl) | exact ro_f2 (fun _ h => h) | exact ro_f2 (fun _ => slc_rsl) | exact ro_f3 (fun _ h => h) | exact ro_f3 (fun _ => slc_rsl) | exact ro_f4 (fun _ h => h) | exact ro_f4 (fun _ => slc_rsl) | exact ro_f5 (fun _ h => h) | exact ro_f5 (fun _ => slc_rsl) | exact ro_f6 (fun _ h => h) | exact ro_f6 (fun _ => slc_rsl)) ?_)))) (wl_ex fun x86 hx86 => ?_)
                  refine wl_y rfl (y_assign rfl) ?_
                  refine wl_nil ?_
                  refine wq_then ?_
                  refine wc_ret ?_
                  refine wq_then_ret ?_
                  refine wq_ret1 rfl rfl (fun w hw => ?_)
                  rw [text_bad (by omega) (next_e2 (by omega) (bad3 (by omega) (by rw [hc0]; exact congrArg some (u8_eq (k := 48) (by omega) (by omega))))) (by decide)]; exact ⟨(), trivial, rfl, hw⟩
                ·
                  simp at hc84
                  refine wc_skip ?_
                  exact wq_cut () ⟨by omega, good1 hc (u8_eq (k := 58) (by omega) (by omega)) (by omega) (fun h => u8_ne (k := 48) (by omega) rfl (Option.some.inj (hc0.symm.trans h.2)))⟩ ⟨rfl, rfl, rfl, trivial⟩ (fun w hw => hw)
              ·
                simp at hg76
                refine wl_sk rfl rfl rfl rfl ?_
                refine wl_sk rfl rfl rfl rfl ?_
                refine wl_sk rfl rfl rfl rfl ?_
                refine wl_sk rfl rfl rfl rfl ?_
                refine wl_sk rfl rfl rfl rfl ?_
                refine wl_sk rfl rfl rfl rfl ?_
                refine wl_yg rfl rfl rfl (y_pick_f rfl rfl) ?_
                refine wl_y rfl (y_pick_f rfl rfl) ?_
                refine wl_nil ?_
                refine wq_then ?_
                refine wc_cond_false rfl ?_
                refine wc_skip ?_
                exact wq_cut () ⟨by omega, good1 hc (u8_eq (k := 58) (by omega) (by omega)) (by omega) (fun h => by omega)⟩ ⟨rfl, rfl, rfl, trivial⟩ (fun w hw => hw)
        · rintro _ ⟨hne, hbl⟩
          obtain ⟨hcol, hk0, hz⟩ := badL_false hbl
          have hdl : (r.rest.drop (kLen r.rest + 1)).length = r.rest.length - (kLen r.rest + 1) := List.length_drop
          refine all_wc ?_
          refine wc_seq ?_
          refine wc_region ?_
          refine wl_y rfl (y_move rfl) ?_
          refine wl_y rfl (y_nilCheck rfl) ?_
          refine wl_y rfl (y_fieldAddr F72_0 rfl) ?_
          refine wl_y rfl (y_load NA9 rfl (by first | exact cell_blk [] rfl | exact cell_blk [_] rfl | exact cell_blk [_, _] rfl | exact cellR_blk (by assumption) rfl)) ?_
          refine wl_y rfl (y_move rfl) ?_
          refine wl_y rfl (y_add rfl rfl (by omega)) ?_
          refine wl_y rfl (y_sliceS (i := kLen r.rest + 1) (j := r.rest.length) (r := (r.rest.drop (kLen r.rest + 1))) Tryz.underlying9 rfl ⟨_, rfl, rfl⟩ rfl (by omega) (Nat.le_refl _) (by rw [List.take_of_length_le (Nat.le_refl _)])) ?_
          skip
          refine wl_y rfl (y_assign rfl) ?_
          refine wl_nil ?_
          refine wq_then ?_
          refine wc_seq ?_
          refine wc_seq ?_
          refine wc_region ?_
          refine wl_y rfl (y_move rfl) ?_
          refine wl_y rfl (y_lenS Tryz.underlying9 rfl) ?_
          refine wl_y rfl (y_move rfl) ?_
          refine wl_y rfl (y_add rfl rfl (by omega)) ?_
          refine wl_y rfl (y_lss rfl rfl) ?_
          refine wl_nil ?_
          refine wq_then ?_
          refine wc_cond rfl (fun hc98 => ?_) (fun hc98 => ?_)
          ·
            simp at hc98
            refine wc_seq ?_
            refine wc_region ?_
            refine wl_y rfl (y_move rfl) ?_
            refine wl_c (fun _ _ => want_none) rfl (yc_spec (fst := []) (cap := []) _ FN56 (rwrong_c b r 10) rfl rfl rfl (by (repeat (first | exact pt_nil | apply pt0 | apply pt1 | apply pt2 | apply pt3 | apply pt4 | apply pt5 | apply pt6 | apply pt7 | apply pt8 | apply pt9 | apply pt10 | apply pt11 | apply pt12 | apply pt13 | apply pt14 | apply pt15 | apply pt16 | apply pt17))) (by (repeat (first | exact ro_nil | exact ro_rest (by assumption) | refine ro_cons (by first | exact .inl (by assumption) | exact ro_f0 (fun _ h => h) | exact ro_f0 (fun _ => slc_rsl) | exact ro_f1 (fun _ h => h) | exact ro_f1 (fun _ => slc_rsl) | exact ro_f2 (fun _ h => h) | exact ro_f2 (fun _ => slc_rsl) | exact ro_f3 (fun _ h => h) | exact ro_f3 (fun _ => slc_rsl) | exact ro_f4 (fun _ h => h) | exact ro_f4 (fun _ => slc_rsl) | exact ro_f5 (fun _ h => h) | exact ro_f5 (fun _ => slc_rsl) | exact ro_f6 (fun _ h => h) | exact ro_f6 (fun _ => slc_rsl)) ?_)))) (wl_ex fun x100 hx100 => ?_)
            refine wl_y rfl (y_assign rfl) ?_
            refine wl_nil ?_
            refine wq_then ?_
            refine wc_ret ?_
            refine wq_then_ret ?_
            refine wq_ret1 rfl rfl (fun w hw => ?_)
            rw [text_bad (by omega) (next_e3 hne hbl (by omega)) (by decide)]; exact ⟨(), trivial, rfl, hw⟩
          ·
            simp at hc98
            refine wc_skip ?_
            refine wq_then ?_
            refine wc_seq ?_
            refine wc_seq ?_
            refine wc_region ?_
            obtain ⟨cc, hcc⟩ := at_get (s := (r.rest.drop (kLen r.rest + 1))) (k := valF (preF r.rest)) (by omega)
            refine wl_y rfl (y_move rfl) ?_
            refine wl_y rfl (y_move rfl) ?_
            refine wl_y rfl (y_indexS Tryz.underlying9 rfl rfl rfl (by assumption)) ?_
            refine wl_y rfl (y_neqI rfl rfl) ?_
            refine wl_nil ?_
            refine wq_then ?_
            refine wc_cond rfl (fun hc104 => ?_) (fun hc104 => ?_)
            ·
              simp at hc104
              refine wc_seq ?_
              refine wc_region ?_
              refine wl_y rfl (y_move rfl) ?_
              refine wl_c (fun _ _ => want_none) rfl (yc_spec (fst := []) (cap := []) _ FN56 (rwrong_c b r 11) rfl rfl rfl (by (repeat (first | exact pt_nil | apply pt0 | apply pt1 | apply pt2 | apply pt3 | apply pt4 | apply pt5 | apply pt6 | apply pt7 | apply pt8 | apply pt9 | apply pt10 | apply pt11 | apply pt12 | apply pt13 | apply pt14 | apply pt15 | apply pt16 | apply pt17))) (by (repeat (first | exact ro_nil | exact ro_rest (by assumption) | refine ro_cons (by first | exact .inl (by assumption) | exact ro_f0 (fun _ h => h) | exact ro_f0 (fun _ => slc_rsl) | exact ro_f1 (fun _ h => h) | exact ro_f1 (fun _ => slc_rsl) | exact ro_f2 (fun _ h => h) | exact ro_f2 (fun _ => slc_rsl) | exact ro_f3 (fun _ h => h) | exact ro_f3 (fun _ => slc_rsl) | exact ro_f4 (fun _ h => h) | exact ro_f4 (fun _ => slc_rsl) | exact ro_f5 (fun _ h => h) | exact ro_f5 (fun _ => slc_rsl) | exact ro_f6 (fun _ h => h) | exact ro_f6 (fun _ => slc_rsl)) ?_)))) (wl_ex fun x106 hx106 => ?_)
              refine wl_y rfl (y_assign rfl) ?_
              refine wl_nil ?_
              refine wq_then ?_
              refine wc_ret ?_
              refine wq_then_ret ?_
              refine wq_ret1 rfl rfl (fun w hw => ?_)
              rw [text_bad (by omega) (next_e4 hne hbl (by omega) (by rw [hcc]; exact fun h => u8_ne (k := 44) (d := 44) (by omega) rfl (Option.some.inj h))) (by decide)]; exact ⟨(), trivial, rfl, hw⟩
            ·
              simp at hc104
              refine wc_skip ?_
              refine wq_then ?_
              refine wc_seq ?_
              refine wc_region ?_
              refine wl_y rfl (y_move rfl) ?_
              refine wl_y rfl (y_move rfl) ?_
              refine wl_y rfl (y_move rfl) ?_
              refine wl_y rfl (y_add rfl rfl (by omega)) ?_
              refine wl_y rfl (y_sliceS (i := valF (preF r.rest) + 1) (j := (r.rest.drop (kLen r.rest + 1)).length) (r := (r.rest.drop (kLen r.rest + 1)).drop (valF (preF r.rest) + 1)) Tryz.underlying9 rfl ⟨_, rfl, rfl⟩ rfl (by omega) (Nat.le_refl _) (by rw [List.take_of_length_le (Nat.le_refl _)])) ?_
              refine wl_y rfl (y_nilCheck rfl) ?_
              refine wl_y rfl (y_fieldAddr F72_0 rfl) ?_
              first | refine wl_u (yu_store [] (l' := [_, _]) T9 rfl rfl rfl rfl rfl rfl rfl) ?_ | refine wl_u (yu_store [_] (l' := [_, _]) T9 rfl rfl rfl rfl rfl rfl rfl) ?_ | refine wl_u (yu_store [_, _] (l' := [_, _]) T9 rfl rfl rfl rfl rfl rfl rfl) ?_
              refine wl_nil ?_
              refine wq_then ?_
              refine wc_seq ?_
              refine wc_region ?_
              refine wl_y rfl (y_move rfl) ?_
              refine wl_y rfl (y_move rfl) ?_
              refine wl_y rfl (y_sliceS (i := 0) (j := valF (preF r.rest)) Tryz.underlying9 rfl rfl ⟨_, rfl, rfl⟩ (by first | omega | (simp; omega)) (by first | omega | (simp; omega)) rfl) ?_
              refine wl_y rfl (y_assign rfl) ?_
              refine wl_nil ?_
              refine wq_then ?_
              refine wc_ret ?_
              refine wq_ret1 rfl rfl (fun w hw => ?_)
              rw [text_good (by omega) (next_ok hne hbl (by omega) (by rw [hcc]; exact congrArg some (u8_eq (k := 44) (by omega) (by omega))))]; exact ⟨(), trivial, rfl, hw⟩

end Go.Proofs.YtbnahfjhlbibcaaGreatDoor
