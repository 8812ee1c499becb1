/-
  Walks: where the most wait.
-/
import Derived.Test.YtfnpjmlpiedgdaaSE
namespace Go.Proofs.Ytfnpjmlpiedgdaa
open Go.Eng


/-- The best among those that came up. -/
def BestI (rows : List (Str × List Jb)) (dn : List Str) (v : Str) : Prop :=
  (v = [] ∧ ∀ p ∈ rows, p.1 ∈ dn → p.2 = []) ∨ (∃ l, mget rows v = some l ∧ l ≠ [] ∧ ∀ p ∈ rows, p.1 ∈ dn → p.2.length < l.length ∨ (p.2.length = l.length ∧ v ≤ p.1))
theorem best_end {rows : List (Str × List Jb)} {dn : List Str} {v : Str} (h : BestI rows dn v) (hall : ∀ p ∈ rows, p.1 ∈ dn) : IsVic rows v := by
  rcases h with ⟨h1, h2⟩ | ⟨l, h1, h2, h3⟩
  · exact .inl ⟨h1, fun p hp => h2 p hp (hall p hp)⟩
  · exact .inr ⟨l, h1, h2, fun p hp => h3 p hp (hall p hp)⟩
theorem best_up {rows : List (Str × List Jb)} {dn : List Str} {v k : Str} {l : List Jb} (h : BestI rows dn v) (hk : Keyed1 rows) (hm : (k, l) ∈ rows) (hc : ((mget rows v).getD []).length < l.length ∨ (l.length = ((mget rows v).getD []).length ∧ 0 < ((mget rows v).getD []).length ∧ k < v)) : BestI rows (k :: dn) k := by
  have hg := mget_of_mem hk hm
  refine .inr ⟨l, hg, ?_, fun p hp hd => ?_⟩
  · intro e; subst e; simp only [List.length_nil] at hc; omega
  · rcases List.mem_cons.1 hd with hpk | hd
    · have hp2 := mget_of_mem hk (k := p.1) (v := p.2) hp
      rw [hpk, hg] at hp2
      rw [← Option.some.inj hp2]; exact .inr ⟨rfl, by rw [hpk]; exact List.le_refl _⟩
    · rcases h with ⟨rfl, h2⟩ | ⟨m, h1, h2, h3⟩
      · rw [h2 p hp hd]
        left
        rw [List.length_nil]
        rcases hc with hc | ⟨_, hc, _⟩ <;> omega
      · rw [h1, Option.getD_some] at hc
        rcases h3 p hp hd with h4 | ⟨h4, h5⟩ <;> rcases hc with hc | ⟨hc, _, hkv⟩
        · exact .inl (by omega)
        · exact .inl (by omega)
        · exact .inl (by omega)
        · exact .inr ⟨by omega, List.le_trans (List.le_of_lt hkv) h5⟩
theorem best_stay {rows : List (Str × List Jb)} {dn : List Str} {v k : Str} {l : List Jb} (h : BestI rows dn v) (hk : Keyed1 rows) (hn : mget rows [] = none) (hm : (k, l) ∈ rows) (hc : ¬ (((mget rows v).getD []).length < l.length ∨ (l.length = ((mget rows v).getD []).length ∧ 0 < ((mget rows v).getD []).length ∧ k < v))) : BestI rows (k :: dn) v := by
  have hg := mget_of_mem hk hm
  have same : ∀ p ∈ rows, p.1 = k → p.2 = l := fun p hp hpk => by
    have hp2 := mget_of_mem hk (k := p.1) (v := p.2) hp
    rw [hpk, hg] at hp2; exact (Option.some.inj hp2).symm
  rcases h with ⟨rfl, h2⟩ | ⟨m, h1, h2, h3⟩
  · rw [hn] at hc
    refine .inl ⟨rfl, fun p hp hd => ?_⟩
    rcases List.mem_cons.1 hd with hpk | hd
    · rw [same p hp hpk]
      simp only [Option.getD_none, List.length_nil] at hc
      exact List.eq_nil_of_length_eq_zero (by omega)
    · exact h2 p hp hd
  · rw [h1, Option.getD_some] at hc
    have h0 := List.length_pos_iff.2 h2
    refine .inr ⟨m, h1, h2, fun p hp hd => ?_⟩
    rcases List.mem_cons.1 hd with hpk | hd
    · rw [same p hp hpk, hpk]
      rcases Nat.lt_trichotomy l.length m.length with h4 | h4 | h4
      · exact .inl h4
      · refine .inr ⟨h4, List.not_lt.1 fun h5 => hc (.inr ⟨h4, h0, h5⟩)⟩
      · exact absurd (.inl h4) hc
    · exact h3 p hp hd
theorem keyed_rs {rs : List (Str × Sl Jb)} {s : Sc} (hx : mval Sl.xs rs = s.rows) (hk : Keyed1 s.rows) : Keyed1 rs := by
  unfold Keyed1 at *
  rw [← hx, mval_keys] at hk; exact hk
theorem mem_rs {rs : List (Str × Sl Jb)} {s : Sc} (hx : mval Sl.xs rs = s.rows) {q : Str × Sl Jb} (h : q ∈ rs) : (q.1, q.2.xs) ∈ s.rows := by
  rw [← hx]; exact List.mem_map.2 ⟨q, h, rfl⟩
theorem all_rs {rs : List (Str × Sl Jb)} {s : Sc} (hx : mval Sl.xs rs = s.rows) {dn : List Str} (h : ∀ q ∈ rs, q.1 ∈ dn) : ∀ p ∈ s.rows, p.1 ∈ dn := by
  rw [← hx]; intro p hp
  obtain ⟨q, hq, rfl⟩ := List.mem_map.1 hp
  exact h q hq
set_option maxHeartbeats 1000000 in
theorem svictim_c (b : Nat) (s : Sc) (hk : Keyed1 s.rows) (hn : mget s.rows [] = none) :
    Ctr Try.prog 52 #[ptr b] [] [scA b s] (fun _ : Unit => True) (fun _ => vS (vic s.rows)) (fun _ => [scA b s]) := by
  refine spec_start (n := 45) [(0, ptr b)] Try.func52 rfl rfl ⟨rfl, trivial⟩ rfl ?_
  intro w0 K hR
  refine wc_ex sc_open (fun x => ?_)
  obtain ⟨x, hx⟩ := x
  have hkr := keyed_rs hx hk
  refine wc_seq ?_
  refine wc_region ?_
  refine wl_y rfl (y_assign rfl) ?_
  refine wl_nil ?_
  refine wq_then ?_
  refine wc_seq ?_
  refine wc_region ?_
  refine wl_y rfl (y_assign rfl) ?_
  refine wl_nil ?_
  refine wq_then ?_
  refine wc_seq ?_
  refine wc_seq ?_
  refine wc_region ?_
  refine wl_y rfl (y_move rfl) ?_
  refine wl_y rfl (y_nilCheck rfl) ?_
  refine wl_y rfl (y_fieldAddr F66_2 rfl) ?_
  refine wl_y rfl (y_load NA64 rfl (by first | exact cell_blk [] rfl | exact cell_blk [_] rfl | exact cell_blk [_, _] rfl | exact cell_blk [_, _, _] rfl | exact cell_blk [_, _, _, _] rfl | exact cell_blk [_, _, _, _, _] rfl | exact cell_blk [_, _, _, _, _, _] rfl | exact cell_blk [_, _, _, _, _, _, _] rfl | exact cellR_blk (by assumption) rfl)) ?_
  first | refine wl_w (fun _ _ => want_none) rfl (yw_range [] Try.underlying64 rfl) (wl_ex fun b11 _ => ?_) | refine wl_w (fun _ _ => want_none) rfl (yw_range [_] Try.underlying64 rfl) (wl_ex fun b11 _ => ?_) | refine wl_w (fun _ _ => want_none) rfl (yw_range [_, _] Try.underlying64 rfl) (wl_ex fun b11 _ => ?_) | refine wl_w (fun _ _ => want_none) rfl (yw_range [_, _, _] Try.underlying64 rfl) (wl_ex fun b11 _ => ?_) | refine wl_w (fun _ _ => want_none) rfl (yw_range [_, _, _, _] Try.underlying64 rfl) (wl_ex fun b11 _ => ?_) | refine wl_w (fun _ _ => want_none) rfl (yw_range [_, _, _, _, _] Try.underlying64 rfl) (wl_ex fun b11 _ => ?_) | refine wl_w (fun _ _ => want_none) rfl (yw_range [_, _, _, _, _, _] Try.underlying64 rfl) (wl_ex fun b11 _ => ?_) | refine wl_w (fun _ _ => want_none) rfl (yw_range [_, _, _, _, _, _, _] Try.underlying64 rfl) (wl_ex fun b11 _ => ?_)
  refine wl_nil ?_
  refine wq_then ?_
  refine wc_block ?_
  refine wc_loop (α := List Str × Str) (fun y => BestI s.rows y.1 y.2) [(0, _), (11, _)] (fun y => [(3, vS y.2)]) (fun y => Hp w0 K [rngA vS vJs x.rm b11 x.rs y.1, blk b (.cells #[ptr x.qb, ptr x.tb, .map (some x.rm), .map (some x.tm)] 66 (0, 0)), qA x.qb s.age s.n s.R, tbA x.tb s.t, rowsA x.rs, mapA vS vB x.tm s.th]) (fun y => leftM x.rs y.1) ([], []) ?_ ⟨rfl, rfl, rfl, trivial⟩ ?_ ?_
  · exact .inl ⟨rfl, fun p _ h => by cases h⟩
  · exact fun w hw => hw.sub (by (repeat (first | exact pt_nil | apply pt0 | apply pt1 | apply pt2 | apply pt3 | apply pt4 | apply pt5 | apply pt6 | apply pt7 | apply pt8 | apply pt9 | apply pt10 | apply pt11 | apply pt12 | apply pt13 | apply pt14 | apply pt15 | apply pt16 | apply pt17)))
  · rintro ⟨dn, v⟩ hB; simp only at hB
    refine wc_world (S' := Hp w0 K [rngA vS vJs x.rm b11 x.rs dn, blk b (.cells #[ptr x.qb, ptr x.tb, .map (some x.rm), .map (some x.tm)] 66 (0, 0)), qA x.qb s.age s.n s.R, tbA x.tb s.t, rowsA x.rs, mapA vS vB x.tm s.th]) (fun w hw => hw) ?_
    refine wc_same 3 (vS v) rfl rfl ?_
    have hsl := slOf_xs hx v
    refine wc_seq ?_
    refine wc_region ?_
    first | refine wl_w (fun _ _ => want_none) rfl (yw_next [] rfl) (wl_ex fun x12 hx12 => ?_) | refine wl_w (fun _ _ => want_none) rfl (yw_next [_] rfl) (wl_ex fun x12 hx12 => ?_) | refine wl_w (fun _ _ => want_none) rfl (yw_next [_, _] rfl) (wl_ex fun x12 hx12 => ?_) | refine wl_w (fun _ _ => want_none) rfl (yw_next [_, _, _] rfl) (wl_ex fun x12 hx12 => ?_) | refine wl_w (fun _ _ => want_none) rfl (yw_next [_, _, _, _] rfl) (wl_ex fun x12 hx12 => ?_) | refine wl_w (fun _ _ => want_none) rfl (yw_next [_, _, _, _, _] rfl) (wl_ex fun x12 hx12 => ?_) | refine wl_w (fun _ _ => want_none) rfl (yw_next [_, _, _, _, _, _] rfl) (wl_ex fun x12 hx12 => ?_) | refine wl_w (fun _ _ => want_none) rfl (yw_next [_, _, _, _, _, _, _] rfl) (wl_ex fun x12 hx12 => ?_)
    rcases x12 with _ | q12
    ·
      refine wl_y rfl (y_extract rfl rfl) ?_
      refine wl_nil ?_
      refine wq_then ?_
      refine wc_seq ?_
      refine wc_known 13 false rfl (rfl) ?_
      refine wc_cond_false rfl ?_
      refine wc_exit ?_
      refine wq_then_exit (wq_then_exit (wq_block_exit ?_))
      refine wq_then ?_
      refine wc_seq ?_
      refine wc_region ?_
      refine wl_y rfl (y_move rfl) ?_
      refine wl_y rfl (y_assign rfl) ?_
      refine wl_nil ?_
      refine wq_then ?_
      refine wc_ret ?_
      refine wq_ret1 rfl rfl (fun w hw => ?_)
      rw [the_vic (best_end hB (all_rs hx hx12))]
      exact ⟨(), trivial, rfl, sc_shut x hx ((Hp.rngEnd hw).sub (by (repeat (first | exact pt_nil | apply pt0 | apply pt1 | apply pt2 | apply pt3 | apply pt4 | apply pt5 | apply pt6 | apply pt7 | apply pt8 | apply pt9 | apply pt10 | apply pt11 | apply pt12 | apply pt13 | apply pt14 | apply pt15 | apply pt16 | apply pt17))))⟩
    ·
      refine wl_y rfl (y_extract rfl rfl) ?_
      refine wl_nil ?_
      refine wq_then ?_
      refine wc_seq ?_
      refine wc_known 13 true rfl (rfl) ?_
      refine wc_cond_true rfl ?_
      refine wc_skip ?_
      refine wq_then ?_
      refine wc_block ?_
      refine wc_seq ?_
      refine wc_region ?_
      refine wl_y rfl (y_entry rfl (mget_of_mem (k := q12.1) (v := q12.2) hkr hx12.1) (by first | exact fun w hw => hw.seen [] | exact fun w hw => hw.seen [_] | exact fun w hw => hw.seen [_, _] | exact fun w hw => hw.seen [_, _, _] | exact fun w hw => hw.seen [_, _, _, _] | exact fun w hw => hw.seen [_, _, _, _, _] | exact fun w hw => hw.seen [_, _, _, _, _, _] | exact fun w hw => hw.seen [_, _, _, _, _, _, _])) ?_
      refine wl_y rfl (y_extract rfl rfl) ?_
      refine wl_y rfl (y_extract rfl rfl) ?_
      refine wl_y rfl (y_assign rfl) ?_
      refine wl_y rfl (y_assign rfl) ?_
      refine wl_nil ?_
      refine wq_then ?_
      refine wc_seq ?_
      refine wc_region ?_
      refine wl_y rfl (y_move rfl) ?_
      refine wl_y rfl (y_nilCheck rfl) ?_
      refine wl_y rfl (y_fieldAddr F66_2 rfl) ?_
      refine wl_y rfl (y_load NA64 rfl (by first | exact cell_blk [] rfl | exact cell_blk [_] rfl | exact cell_blk [_, _] rfl | exact cell_blk [_, _, _] rfl | exact cell_blk [_, _, _, _] rfl | exact cell_blk [_, _, _, _, _] rfl | exact cell_blk [_, _, _, _, _, _] rfl | exact cell_blk [_, _, _, _, _, _, _] rfl | exact cellR_blk (by assumption) rfl)) ?_
      refine wl_y rfl (y_move rfl) ?_
      refine wl_y rfl (y_lookup Try.underlying64 (keyE_str Try.underlying9) T49 rfl rfl (by first | exact fun w hw => hw.seen [] | exact fun w hw => hw.seen [_] | exact fun w hw => hw.seen [_, _] | exact fun w hw => hw.seen [_, _, _] | exact fun w hw => hw.seen [_, _, _, _] | exact fun w hw => hw.seen [_, _, _, _, _] | exact fun w hw => hw.seen [_, _, _, _, _, _] | exact fun w hw => hw.seen [_, _, _, _, _, _, _] | exact fun w hw => Seen.rngMap (hw.seen []) | exact fun w hw => Seen.rngMap (hw.seen [_]) | exact fun w hw => Seen.rngMap (hw.seen [_, _]) | exact fun w hw => Seen.rngMap (hw.seen [_, _, _]) | exact fun w hw => Seen.rngMap (hw.seen [_, _, _, _]) | exact fun w hw => Seen.rngMap (hw.seen [_, _, _, _, _]) | exact fun w hw => Seen.rngMap (hw.seen [_, _, _, _, _, _]) | exact fun w hw => Seen.rngMap (hw.seen [_, _, _, _, _, _, _]))) ?_
      refine wl_same 22 (vJs (slOf x.rs v)) rfl (look_sl _ _) ?_
      refine wl_y rfl (y_lenSl Try.underlying49 rfl) ?_
      refine wl_y rfl (y_assign rfl) ?_
      refine wl_nil ?_
      refine wq_then ?_
      refine wc_seq ?_
      refine wc_region ?_
      refine wl_y rfl (y_move rfl) ?_
      refine wl_y rfl (y_lenSl Try.underlying49 rfl) ?_
      refine wl_y rfl (y_move rfl) ?_
      refine wl_y rfl (y_gtr rfl rfl) ?_
      refine wl_y rfl (y_move rfl) ?_
      apply wl_or 14 42 [(0, _), (3, _), (4, _), (11, _)] (t := 28) rfl ⟨rfl, rfl, rfl, rfl, trivial⟩
      · intro hg28 hM42
        refine wl_sk rfl rfl rfl rfl ?_
        refine wl_sk rfl rfl rfl rfl ?_
        refine wl_sk rfl rfl rfl rfl ?_
        refine wl_sk rfl rfl rfl rfl ?_
        refine wl_sk rfl rfl rfl rfl ?_
        refine wl_sku rfl rfl rfl ?_
        refine wl_sku rfl rfl rfl ?_
        refine wl_sk rfl rfl rfl rfl ?_
        refine wl_sk rfl rfl rfl rfl ?_
        refine wl_sku rfl rfl rfl ?_
        refine wl_sku rfl rfl rfl ?_
        refine wl_sku rfl rfl rfl ?_
        refine wl_sk rfl rfl rfl rfl ?_
        refine wl_y rfl (y_pick_t rfl rfl) ?_
        exact wl_weaken hM42 ⟨rfl, rfl, rfl, rfl, rfl, trivial⟩
      · intro hg28 hM42
        try (simp at hg28)
        refine wl_yg rfl rfl rfl (y_move rfl) ?_
        refine wl_yg rfl rfl rfl (y_lenSl Try.underlying49 rfl) ?_
        refine wl_yg rfl rfl rfl (y_move rfl) ?_
        refine wl_yg rfl rfl rfl (y_eqlI rfl rfl) ?_
        refine wl_yg rfl rfl rfl (y_move rfl) ?_
        apply wl_and 3 36 [(0, _), (3, _), (4, _), (11, _), (28, _)] (t := 33) rfl ⟨rfl, rfl, rfl, rfl, rfl, trivial⟩
        · intro hg33 hM36
          try (simp at hg33)
          refine wl_yg rfl rfl rfl (y_move rfl) ?_
          refine wl_yg rfl rfl rfl (y_gtr rfl rfl) ?_
          refine wl_yg rfl rfl rfl (y_pick_t rfl rfl) ?_
          exact wl_weaken hM36 ⟨rfl, rfl, rfl, rfl, rfl, rfl, trivial⟩
        · intro hg33 hM36
          refine wl_sk rfl rfl rfl rfl ?_
          refine wl_sk rfl rfl rfl rfl ?_
          refine wl_yg rfl rfl rfl (y_pick_f rfl rfl) ?_
          exact wl_weaken hM36 ⟨rfl, rfl, rfl, rfl, rfl, rfl, trivial⟩
        ·
          refine wl_yg rfl rfl rfl (y_move rfl) ?_
          apply wl_and 4 41 [(0, _), (3, _), (4, _), (11, _), (28, _)] (t := 37) rfl ⟨rfl, rfl, rfl, rfl, rfl, trivial⟩
          · intro hg37 hM41
            try (simp at hg37)
            refine wl_yg rfl rfl rfl (y_move rfl) ?_
            refine wl_yg rfl rfl rfl (y_move rfl) ?_
            refine wl_yg rfl rfl rfl (y_lssS rfl rfl) ?_
            refine wl_yg rfl rfl rfl (y_pick_t rfl rfl) ?_
            exact wl_weaken hM41 ⟨rfl, rfl, rfl, rfl, rfl, rfl, trivial⟩
          · intro hg37 hM41
            refine wl_sk rfl rfl rfl rfl ?_
            refine wl_sk rfl rfl rfl rfl ?_
            refine wl_sk rfl rfl rfl rfl ?_
            refine wl_yg rfl rfl rfl (y_pick_f rfl rfl) ?_
            exact wl_weaken hM41 ⟨rfl, rfl, rfl, rfl, rfl, rfl, trivial⟩
          ·
            refine wl_y rfl (y_pick_f rfl rfl) ?_
            exact wl_weaken hM42 ⟨rfl, rfl, rfl, rfl, rfl, trivial⟩
      ·
        refine wl_nil ?_
        refine wq_then ?_
        refine wc_cond rfl (fun hc42 => ?_) (fun hc42 => ?_)
        ·
          simp only [bytesLess_eq] at hc42
          simp at hc42
          refine wc_region ?_
          refine wl_y rfl (y_move rfl) ?_
          refine wl_y rfl (y_assign rfl) ?_
          refine wl_nil ?_
          refine wq_block_normal ?_
          exact wq_round (q12.1 :: dn, q12.1) (leftM_lt hx12) (best_up hB hk (mem_rs hx hx12.1) (by rw [hsl] at hc42; unfold Sc.row at hc42; exact hc42.imp id (fun h => ⟨Int.ofNat.inj h.1.1, h.1.2, h.2⟩))) ⟨rfl, rfl, rfl, trivial⟩ (fun w hw => hw)
        ·
          simp only [bytesLess_eq] at hc42
          simp at hc42
          refine wc_skip ?_
          refine wq_block_normal ?_
          exact wq_round (q12.1 :: dn, v) (leftM_lt hx12) (best_stay (v := v) hB hk hn (mem_rs hx hx12.1) (fun hc => by rw [hsl] at hc42; unfold Sc.row at hc42; rcases hc with hc | ⟨c1, c2, c3⟩; exact absurd hc (Nat.not_lt.2 hc42.1); exact absurd c3 (List.not_lt.2 (hc42.2 (by rw [c1]) c2)))) ⟨rfl, rfl, rfl, trivial⟩ (fun w hw => hw)

end Go.Proofs.Ytfnpjmlpiedgdaa
