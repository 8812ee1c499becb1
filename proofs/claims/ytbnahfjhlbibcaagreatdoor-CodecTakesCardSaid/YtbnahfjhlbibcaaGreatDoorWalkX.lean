/-
  Walks: what is the same.
-/
import Derived.Test.YtbnahfjhlbibcaaGreatDoorWalkU
namespace Go.Proofs.YtbnahfjhlbibcaaGreatDoor
open Go.Eng

open Go.Lib
theorem E108 (x y : PF) : EQ Tryz.prog 108 (encF x) (encF y) (decide (x = y)) :=
  eq_of (k := 2) (by kernel_rfl) rfl (ceq_struct Tryz.underlying108 (by kernel_rfl) (feq_one (by decide) NA9 rfl rfl (ceq_str Tryz.underlying9) (feq_one (by decide) NA9 rfl rfl (ceq_str Tryz.underlying9) feq_nil))) (by
    obtain ⟨a, b⟩ := x
    obtain ⟨c, d⟩ := y
    rw [Bool.eq_iff_iff]; simp [Prod.ext_iff])
theorem take_same {α : Type} {l m : List α} {i : Nat} {x y : α} (h : l.take i = m.take i) (hx : l[i]? = some x) (hy : m[i]? = some y) (he : x = y) : l.take (i + 1) = m.take (i + 1) := by
  rw [List.take_add_one, List.take_add_one, h, hx, hy, he]
theorem out_b (a b : OutV) : (((((decide (a.kind = b.kind) && decide (a.need = b.need)) && decide (a.err = b.err)) && decide (a.text = b.text)) && decide (a.used = b.used)) && decide (a.files.xs = b.files.xs)) = decide (a.er = b.er) := by
  rw [Bool.eq_iff_iff]
  simp only [Bool.and_eq_true, decide_eq_true_eq, OutV.er, PU.mk.injEq]
  constructor
  · rintro ⟨⟨⟨⟨⟨h1, h2⟩, h3⟩, h4⟩, h5⟩, h6⟩; exact ⟨h1, h6, h2, h3, h4, h5⟩
  · rintro ⟨h1, h6, h2, h3, h4, h5⟩; exact ⟨⟨⟨⟨⟨h1, h2⟩, h3⟩, h4⟩, h5⟩, h6⟩
theorem rep_b (a b : RepV) : ((decide (a.key = b.key) && decide (a.epoch = b.epoch)) && decide (a.out.er = b.out.er)) = decide (a.er = b.er) := by
  rw [Bool.eq_iff_iff]
  simp only [Bool.and_eq_true, decide_eq_true_eq, RepV.er, PP.mk.injEq, and_assoc]
set_option maxHeartbeats 1000000 in
theorem same_c (a b : Sl PF) (hl : a.xs.length ≤ 1000000000) :
    Ctr Tryz.prog 33 #[vSl a, vSl b] [filesA a, filesA b] [] (fun _ : Unit => True) (fun _ => vB (decide (a.xs = b.xs))) (fun _ => []) := by
  refine spec_start (n := 26) [(0, vSl a), (1, vSl b)] Tryz.func33 rfl rfl ⟨rfl, rfl, trivial⟩ rfl ?_
  intro w0 K hR
  have hA := hR (filesA a) (by simp)
  have hB2 := hR (filesA b) (by simp)
  unfold filesA at hA hB2
  refine wc_seq ?_
  refine wc_region ?_
  refine wl_y rfl (y_assign rfl) ?_
  refine wl_nil ?_
  refine wq_then ?_
  refine wc_seq ?_
  refine wc_seq ?_
  refine wc_region ?_
  refine wl_y rfl (y_move rfl) ?_
  refine wl_y rfl (y_lenSl Tryz.underlying24 rfl) ?_
  refine wl_y rfl (y_move rfl) ?_
  refine wl_y rfl (y_lenSl Tryz.underlying24 rfl) ?_
  refine wl_y rfl (y_neqI rfl rfl) ?_
  refine wl_nil ?_
  refine wq_then ?_
  refine wc_cond rfl (fun hc10 => ?_) (fun hc10 => ?_)
  ·
    simp at hc10
    refine wc_seq ?_
    refine wc_region ?_
    refine wl_y rfl (y_assign rfl) ?_
    refine wl_nil ?_
    refine wq_then ?_
    refine wc_ret ?_
    refine wq_then_ret ?_
    refine wq_ret1 rfl rfl (fun w hw => ?_)
    exact ⟨(), trivial, by rw [decide_eq_false (fun e => hc10 (by rw [e]))], hw⟩
  ·
    simp at hc10
    refine wc_skip ?_
    refine wq_then ?_
    refine wc_seq ?_
    refine wc_seq ?_
    refine wc_region ?_
    refine wl_y rfl (y_assign rfl) ?_
    refine wl_nil ?_
    refine wq_then ?_
    refine wc_block ?_
    refine wc_loop (α := Nat) (fun y => y ≤ a.xs.length ∧ a.xs.take y = b.xs.take y) [(0, _), (1, _)] (fun y => [(5, vI y)]) (fun y => Hp w0 K []) (fun y => a.xs.length - y) 0 ?_ ⟨rfl, rfl, rfl, trivial⟩ ?_ ?_
    · exact ⟨Nat.zero_le _, rfl⟩
    · exact fun w hw => hw
    · rintro i ⟨hi, hall⟩
      refine wc_seq ?_
      refine wc_seq ?_
      refine wc_region ?_
      refine wl_y rfl (y_move rfl) ?_
      refine wl_y rfl (y_move rfl) ?_
      refine wl_y rfl (y_lenSl Tryz.underlying24 rfl) ?_
      refine wl_y rfl (y_lss rfl rfl) ?_
      refine wl_nil ?_
      refine wq_then ?_
      refine wc_cond rfl (fun hc14 => ?_) (fun hc14 => ?_)
      ·
        simp at hc14
        refine wc_skip ?_
        refine wq_then ?_
        refine wc_seq ?_
        refine wc_block ?_
        refine wc_seq ?_
        refine wc_quiet MO (by kernel_rfl) (Hp.drawless _ _ _) ?_
        obtain ⟨x, hx⟩ : ∃ x, a.xs[i]? = some x := ⟨_, List.getElem?_eq_getElem (by omega)⟩
        obtain ⟨y, hy⟩ : ∃ x, b.xs[i]? = some x := ⟨_, List.getElem?_eq_getElem (by omega)⟩
        refine wt_y rfl (y_move rfl) ?_
        refine wt_y rfl (y_move rfl) ?_
        refine wt_y rfl (y_indexAddr Tryz.underlying24 T108 rfl rfl rfl (by omega) (by first | assumption | exact fun _ _ => rfl | exact fun _ _ => hA.isSome (by omega) | exact fun _ _ => hB2.isSome (by omega) | exact fun w hw => hw.slc_isSome [] (by omega) | exact fun w hw => hw.slc_isSome [_] (by omega) | exact fun w hw => hw.slc_isSome [_, _] (by omega) | exact fun w hw => hw.slc_isSome [_, _, _] (by omega))) ?_
        refine wt_y rfl (y_loadAgg (l := encF x) AG108 rfl rfl (by first | exact agg_ro hA (fun i u h => rows_get encF_len hx h) | exact agg_ro hB2 (fun i u h => rows_get encF_len hx h) | exact agg_own [] (fun i u h => rows_get encF_len hx h) | exact agg_own [_] (fun i u h => rows_get encF_len hx h) | exact agg_own [_, _] (fun i u h => rows_get encF_len hx h) | exact agg_own [_, _, _] (fun i u h => rows_get encF_len hx h))) ?_
        refine wt_y rfl (y_move rfl) ?_
        refine wt_y rfl (y_move rfl) ?_
        refine wt_y rfl (y_indexAddr Tryz.underlying24 T108 rfl rfl rfl (by omega) (by first | assumption | exact fun _ _ => rfl | exact fun _ _ => hA.isSome (by omega) | exact fun _ _ => hB2.isSome (by omega) | exact fun w hw => hw.slc_isSome [] (by omega) | exact fun w hw => hw.slc_isSome [_] (by omega) | exact fun w hw => hw.slc_isSome [_, _] (by omega) | exact fun w hw => hw.slc_isSome [_, _, _] (by omega))) ?_
        refine wt_y rfl (y_loadAgg (l := encF y) AG108 rfl rfl (by first | exact agg_ro hA (fun i u h => rows_get encF_len hy h) | exact agg_ro hB2 (fun i u h => rows_get encF_len hy h) | exact agg_own [] (fun i u h => rows_get encF_len hy h) | exact agg_own [_] (fun i u h => rows_get encF_len hy h) | exact agg_own [_, _] (fun i u h => rows_get encF_len hy h) | exact agg_own [_, _, _] (fun i u h => rows_get encF_len hy h))) ?_
        refine wt_y rfl (y_neqAgg (E108 x y) rfl rfl) ?_
        refine wt_nil ?_
        refine wq_then ?_
        refine wc_cond rfl (fun hc25 => ?_) (fun hc25 => ?_)
        ·
          simp at hc25
          refine wc_seq ?_
          refine wc_region ?_
          refine wl_y rfl (y_assign rfl) ?_
          refine wl_nil ?_
          refine wq_then ?_
          refine wc_ret ?_
          refine wq_block_ret (wq_then_ret (wq_then_ret (wq_block_ret (wq_then_ret ?_))))
          refine wq_ret1 rfl rfl (fun w hw => ?_)
          exact ⟨(), trivial, by rw [decide_eq_false (fun e => hc25 (by rw [e, hy] at hx; exact (Option.some.inj hx).symm))], hw⟩
        ·
          simp at hc25
          refine wc_skip ?_
          refine wq_block_normal ?_
          refine wq_then ?_
          refine wc_region ?_
          refine wl_y rfl (y_move rfl) ?_
          refine wl_y rfl (y_add rfl rfl (by omega)) ?_
          refine wl_y rfl (y_assign rfl) ?_
          refine wl_nil ?_
          exact wq_round (i + 1) (by omega) ⟨by omega, take_same hall hx hy hc25⟩ ⟨rfl, rfl, rfl, trivial⟩ (fun w hw => hw)
      ·
        simp at hc14
        refine wc_exit ?_
        refine wq_then_exit (wq_then_exit (wq_block_exit ?_))
        refine wq_then ?_
        refine wc_seq ?_
        refine wc_region ?_
        refine wl_y rfl (y_assign rfl) ?_
        refine wl_nil ?_
        refine wq_then ?_
        refine wc_ret ?_
        refine wq_ret1 rfl rfl (fun w hw => ?_)
        exact ⟨(), trivial, by rw [decide_eq_true (by rw [List.take_of_length_le (by omega), List.take_of_length_le (by omega)] at hall; exact hall)], hw⟩

set_option maxHeartbeats 1000000 in
theorem same06_c (a b : OutV) (hl : a.files.xs.length ≤ 1000000000) :
    Ctr Tryz.prog 42 #[.agg (encU a).toArray, .agg (encU b).toArray] [filesA a.files, filesA b.files] [] (fun _ : Unit => True) (fun _ => vB (decide (a.er = b.er))) (fun _ => []) := by
  refine spec_start (n := 45) [(0, .agg (encU a).toArray), (1, .agg (encU b).toArray)] Tryz.func42 rfl rfl ⟨rfl, rfl, trivial⟩ rfl ?_
  intro w0 K hR
  have hA := hR (filesA a.files) (by simp)
  have hB2 := hR (filesA b.files) (by simp)
  refine wc_seq ?_
  refine wc_region ?_
  refine wl_w (fun _ _ => want_none) rfl (yw_box rfl rfl) (wl_ex fun b2 _ => ?_)
  refine wl_w (fun _ _ => want_none) rfl (yw_box rfl rfl) (wl_ex fun b3 _ => ?_)
  refine wl_y rfl (y_assign rfl) ?_
  refine wl_nil ?_
  refine wq_then ?_
  refine wc_seq ?_
  refine wc_region ?_
  refine wl_y rfl (y_fieldAddr F45_0 rfl) ?_
  refine wl_y rfl (y_load NA3 rfl (by first | exact cell_blk [] rfl | exact cell_blk [_] rfl | exact cell_blk [_, _] rfl | exact cell_blk [_, _, _] rfl | exact cellR_blk (by assumption) rfl)) ?_
  refine wl_y rfl (y_fieldAddr F45_0 rfl) ?_
  refine wl_y rfl (y_load NA3 rfl (by first | exact cell_blk [] rfl | exact cell_blk [_] rfl | exact cell_blk [_, _] rfl | exact cell_blk [_, _, _] rfl | exact cellR_blk (by assumption) rfl)) ?_
  refine wl_y rfl (y_eqlI rfl rfl) ?_
  refine wl_y rfl (y_move rfl) ?_
  apply wl_and 6 16 [(2, _), (3, _)] (t := 10) rfl ⟨rfl, rfl, trivial⟩
  · intro hg10 hM16
    try (simp at hg10)
    refine wl_yg rfl rfl rfl (y_fieldAddr F45_2 rfl) ?_
    refine wl_yg rfl rfl rfl (y_load NA9 rfl (by first | exact cell_blk [] rfl | exact cell_blk [_] rfl | exact cell_blk [_, _] rfl | exact cell_blk [_, _, _] rfl | exact cellR_blk (by assumption) rfl)) ?_
    refine wl_yg rfl rfl rfl (y_fieldAddr F45_2 rfl) ?_
    refine wl_yg rfl rfl rfl (y_load NA9 rfl (by first | exact cell_blk [] rfl | exact cell_blk [_] rfl | exact cell_blk [_, _] rfl | exact cell_blk [_, _, _] rfl | exact cellR_blk (by assumption) rfl)) ?_
    refine wl_yg rfl rfl rfl (y_eqlS rfl rfl) ?_
    refine wl_y rfl (y_pick_t rfl rfl) ?_
    exact wl_weaken hM16 ⟨rfl, rfl, rfl, trivial⟩
  · intro hg10 hM16
    refine wl_sk rfl rfl rfl rfl ?_
    refine wl_sk rfl rfl rfl rfl ?_
    refine wl_sk rfl rfl rfl rfl ?_
    refine wl_sk rfl rfl rfl rfl ?_
    refine wl_sk rfl rfl rfl rfl ?_
    refine wl_y rfl (y_pick_f rfl rfl) ?_
    exact wl_weaken hM16 ⟨rfl, rfl, rfl, trivial⟩
  ·
    refine wl_y rfl (y_move rfl) ?_
    apply wl_and 6 23 [(2, _), (3, _)] (t := 17) rfl ⟨rfl, rfl, trivial⟩
    · intro hg17 hM23
      try (simp at hg17)
      refine wl_yg rfl rfl rfl (y_fieldAddr F45_3 rfl) ?_
      refine wl_yg rfl rfl rfl (y_load NA25 rfl (by first | exact cell_blk [] rfl | exact cell_blk [_] rfl | exact cell_blk [_, _] rfl | exact cell_blk [_, _, _] rfl | exact cellR_blk (by assumption) rfl)) ?_
      refine wl_yg rfl rfl rfl (y_fieldAddr F45_3 rfl) ?_
      refine wl_yg rfl rfl rfl (y_load NA25 rfl (by first | exact cell_blk [] rfl | exact cell_blk [_] rfl | exact cell_blk [_, _] rfl | exact cell_blk [_, _, _] rfl | exact cellR_blk (by assumption) rfl)) ?_
      refine wl_yg rfl rfl rfl (y_eqlI rfl rfl) ?_
      refine wl_y rfl (y_pick_t rfl rfl) ?_
      exact wl_weaken hM23 ⟨rfl, rfl, rfl, trivial⟩
    · intro hg17 hM23
      refine wl_sk rfl rfl rfl rfl ?_
      refine wl_sk rfl rfl rfl rfl ?_
      refine wl_sk rfl rfl rfl rfl ?_
      refine wl_sk rfl rfl rfl rfl ?_
      refine wl_sk rfl rfl rfl rfl ?_
      refine wl_y rfl (y_pick_f rfl rfl) ?_
      exact wl_weaken hM23 ⟨rfl, rfl, rfl, trivial⟩
    ·
      refine wl_y rfl (y_move rfl) ?_
      apply wl_and 6 30 [(2, _), (3, _)] (t := 24) rfl ⟨rfl, rfl, trivial⟩
      · intro hg24 hM30
        try (simp at hg24)
        refine wl_yg rfl rfl rfl (y_fieldAddr F45_4 rfl) ?_
        refine wl_yg rfl rfl rfl (y_load NA9 rfl (by first | exact cell_blk [] rfl | exact cell_blk [_] rfl | exact cell_blk [_, _] rfl | exact cell_blk [_, _, _] rfl | exact cellR_blk (by assumption) rfl)) ?_
        refine wl_yg rfl rfl rfl (y_fieldAddr F45_4 rfl) ?_
        refine wl_yg rfl rfl rfl (y_load NA9 rfl (by first | exact cell_blk [] rfl | exact cell_blk [_] rfl | exact cell_blk [_, _] rfl | exact cell_blk [_, _, _] rfl | exact cellR_blk (by assumption) rfl)) ?_
        refine wl_yg rfl rfl rfl (y_eqlS rfl rfl) ?_
        refine wl_y rfl (y_pick_t rfl rfl) ?_
        exact wl_weaken hM30 ⟨rfl, rfl, rfl, trivial⟩
      · intro hg24 hM30
        refine wl_sk rfl rfl rfl rfl ?_
        refine wl_sk rfl rfl rfl rfl ?_
        refine wl_sk rfl rfl rfl rfl ?_
        refine wl_sk rfl rfl rfl rfl ?_
        refine wl_sk rfl rfl rfl rfl ?_
        refine wl_y rfl (y_pick_f rfl rfl) ?_
        exact wl_weaken hM30 ⟨rfl, rfl, rfl, trivial⟩
      ·
        refine wl_y rfl (y_move rfl) ?_
        apply wl_and 6 37 [(2, _), (3, _)] (t := 31) rfl ⟨rfl, rfl, trivial⟩
        · intro hg31 hM37
          try (simp at hg31)
          refine wl_yg rfl rfl rfl (y_fieldAddr F45_5 rfl) ?_
          refine wl_yg rfl rfl rfl (y_load NA3 rfl (by first | exact cell_blk [] rfl | exact cell_blk [_] rfl | exact cell_blk [_, _] rfl | exact cell_blk [_, _, _] rfl | exact cellR_blk (by assumption) rfl)) ?_
          refine wl_yg rfl rfl rfl (y_fieldAddr F45_5 rfl) ?_
          refine wl_yg rfl rfl rfl (y_load NA3 rfl (by first | exact cell_blk [] rfl | exact cell_blk [_] rfl | exact cell_blk [_, _] rfl | exact cell_blk [_, _, _] rfl | exact cellR_blk (by assumption) rfl)) ?_
          refine wl_yg rfl rfl rfl (y_eqlI rfl rfl) ?_
          refine wl_y rfl (y_pick_t rfl rfl) ?_
          exact wl_weaken hM37 ⟨rfl, rfl, rfl, trivial⟩
        · intro hg31 hM37
          refine wl_sk rfl rfl rfl rfl ?_
          refine wl_sk rfl rfl rfl rfl ?_
          refine wl_sk rfl rfl rfl rfl ?_
          refine wl_sk rfl rfl rfl rfl ?_
          refine wl_sk rfl rfl rfl rfl ?_
          refine wl_y rfl (y_pick_f rfl rfl) ?_
          exact wl_weaken hM37 ⟨rfl, rfl, rfl, trivial⟩
        ·
          refine wl_y rfl (y_move rfl) ?_
          apply wl_and 6 44 [] (t := 38) rfl trivial
          · intro hg38 hM44
            try (simp at hg38)
            refine wl_yg rfl rfl rfl (y_fieldAddr F45_1 rfl) ?_
            refine wl_yg rfl rfl rfl (y_load NA24 rfl (by first | exact cell_blk [] rfl | exact cell_blk [_] rfl | exact cell_blk [_, _] rfl | exact cell_blk [_, _, _] rfl | exact cellR_blk (by assumption) rfl)) ?_
            refine wl_yg rfl rfl rfl (y_fieldAddr F45_1 rfl) ?_
            refine wl_yg rfl rfl rfl (y_load NA24 rfl (by first | exact cell_blk [] rfl | exact cell_blk [_] rfl | exact cell_blk [_, _] rfl | exact cell_blk [_, _, _] rfl | exact cellR_blk (by assumption) rfl)) ?_
            refine wl_q (want_some rfl rfl) rfl (yq_spec (fst := []) (cap := []) _ FN33 (same_c a.files b.files hl) rfl rfl rfl (by (repeat (first | exact pt_nil | apply pt0 | apply pt1 | apply pt2 | apply pt3 | apply pt4 | apply pt5 | apply pt6 | apply pt7 | apply pt8 | apply pt9 | apply pt10 | apply pt11 | apply pt12 | apply pt13 | apply pt14 | apply pt15 | apply pt16 | apply pt17))) (by (repeat (first | exact ro_nil | exact ro_rest (by assumption) | refine ro_cons (by first | exact .inl (by assumption) | exact ro_f0 (fun _ h => h) | exact ro_f0 (fun _ => slc_rsl) | exact ro_f1 (fun _ h => h) | exact ro_f1 (fun _ => slc_rsl) | exact ro_f2 (fun _ h => h) | exact ro_f2 (fun _ => slc_rsl) | exact ro_f3 (fun _ h => h) | exact ro_f3 (fun _ => slc_rsl) | exact ro_f4 (fun _ h => h) | exact ro_f4 (fun _ => slc_rsl) | exact ro_f5 (fun _ h => h) | exact ro_f5 (fun _ => slc_rsl) | exact ro_f6 (fun _ h => h) | exact ro_f6 (fun _ => slc_rsl)) ?_))) (fun _ _ => rfl) (fun _ _ _ h => h.sub (by (repeat (first | exact pt_nil | apply pt0 | apply pt1 | apply pt2 | apply pt3 | apply pt4 | apply pt5 | apply pt6 | apply pt7 | apply pt8 | apply pt9 | apply pt10 | apply pt11 | apply pt12 | apply pt13 | apply pt14 | apply pt15 | apply pt16 | apply pt17))))) ?_
            refine wl_y rfl (y_pick_t rfl rfl) ?_
            exact wl_weaken hM44 ⟨rfl, trivial⟩
          · intro hg38 hM44
            refine wl_sk rfl rfl rfl rfl ?_
            refine wl_sk rfl rfl rfl rfl ?_
            refine wl_sk rfl rfl rfl rfl ?_
            refine wl_sk rfl rfl rfl rfl ?_
            refine wl_sk rfl rfl rfl rfl ?_
            refine wl_y rfl (y_pick_f rfl rfl) ?_
            exact wl_weaken hM44 ⟨rfl, trivial⟩
          ·
            refine wl_y rfl (y_assign rfl) ?_
            refine wl_nil ?_
            refine wq_then ?_
            refine wc_ret ?_
            refine wq_ret1 rfl rfl (fun w hw => ?_)
            exact ⟨(), trivial, by rw [← out_b], hw.bare⟩

set_option maxHeartbeats 1000000 in
theorem reports_c (a b : RepV) (hl : a.out.files.xs.length ≤ 1000000000) :
    Ctr Tryz.prog 16 #[.agg (encP a).toArray, .agg (encP b).toArray] [filesA a.out.files, filesA b.out.files] [] (fun _ : Unit => True) (fun _ => vB (decide (a.er = b.er))) (fun _ => []) := by
  refine spec_start (n := 24) [(0, .agg (encP a).toArray), (1, .agg (encP b).toArray)] Tryz.func16 rfl rfl ⟨rfl, rfl, trivial⟩ rfl ?_
  intro w0 K hR
  have hA := hR (filesA a.out.files) (by simp)
  have hB2 := hR (filesA b.out.files) (by simp)
  refine wc_seq ?_
  refine wc_region ?_
  refine wl_w (fun _ _ => want_none) rfl (yw_box rfl rfl) (wl_ex fun b2 _ => ?_)
  refine wl_w (fun _ _ => want_none) rfl (yw_box rfl rfl) (wl_ex fun b3 _ => ?_)
  refine wl_y rfl (y_assign rfl) ?_
  refine wl_nil ?_
  refine wq_then ?_
  refine wc_seq ?_
  refine wc_region ?_
  refine wl_y rfl (y_fieldAddr F47_0 rfl) ?_
  refine wl_y rfl (y_load NA9 rfl (by first | exact cell_blk [] rfl | exact cell_blk [_] rfl | exact cell_blk [_, _] rfl | exact cell_blk [_, _, _] rfl | exact cellR_blk (by assumption) rfl)) ?_
  refine wl_y rfl (y_fieldAddr F47_0 rfl) ?_
  refine wl_y rfl (y_load NA9 rfl (by first | exact cell_blk [] rfl | exact cell_blk [_] rfl | exact cell_blk [_, _] rfl | exact cell_blk [_, _, _] rfl | exact cellR_blk (by assumption) rfl)) ?_
  refine wl_y rfl (y_eqlS rfl rfl) ?_
  refine wl_y rfl (y_move rfl) ?_
  apply wl_and 6 16 [(2, _), (3, _)] (t := 10) rfl ⟨rfl, rfl, trivial⟩
  · intro hg10 hM16
    try (simp at hg10)
    refine wl_yg rfl rfl rfl (y_fieldAddr F47_1 rfl) ?_
    refine wl_yg rfl rfl rfl (y_load NA3 rfl (by first | exact cell_blk [] rfl | exact cell_blk [_] rfl | exact cell_blk [_, _] rfl | exact cell_blk [_, _, _] rfl | exact cellR_blk (by assumption) rfl)) ?_
    refine wl_yg rfl rfl rfl (y_fieldAddr F47_1 rfl) ?_
    refine wl_yg rfl rfl rfl (y_load NA3 rfl (by first | exact cell_blk [] rfl | exact cell_blk [_] rfl | exact cell_blk [_, _] rfl | exact cell_blk [_, _, _] rfl | exact cellR_blk (by assumption) rfl)) ?_
    refine wl_yg rfl rfl rfl (y_eqlI rfl rfl) ?_
    refine wl_y rfl (y_pick_t rfl rfl) ?_
    exact wl_weaken hM16 ⟨rfl, rfl, rfl, trivial⟩
  · intro hg10 hM16
    refine wl_sk rfl rfl rfl rfl ?_
    refine wl_sk rfl rfl rfl rfl ?_
    refine wl_sk rfl rfl rfl rfl ?_
    refine wl_sk rfl rfl rfl rfl ?_
    refine wl_sk rfl rfl rfl rfl ?_
    refine wl_y rfl (y_pick_f rfl rfl) ?_
    exact wl_weaken hM16 ⟨rfl, rfl, rfl, trivial⟩
  ·
    refine wl_y rfl (y_move rfl) ?_
    apply wl_and 6 23 [] (t := 17) rfl trivial
    · intro hg17 hM23
      try (simp at hg17)
      refine wl_yg rfl rfl rfl (y_fieldAddr F47_2 rfl) ?_
      refine wl_yg rfl rfl rfl (y_loadAgg (l := [_, _, _, _, _, _]) AG45 rfl rfl (by first | exact cells_blk [] rfl | exact cells_blk [_] rfl | exact cells_blk [_, _] rfl | exact cells_blk [_, _, _] rfl | exact cellsR_blk (by assumption) rfl)) ?_
      refine wl_yg rfl rfl rfl (y_fieldAddr F47_2 rfl) ?_
      refine wl_yg rfl rfl rfl (y_loadAgg (l := [_, _, _, _, _, _]) AG45 rfl rfl (by first | exact cells_blk [] rfl | exact cells_blk [_] rfl | exact cells_blk [_, _] rfl | exact cells_blk [_, _, _] rfl | exact cellsR_blk (by assumption) rfl)) ?_
      refine wl_q (want_some rfl rfl) rfl (yq_spec (fst := []) (cap := []) _ FN42 (same06_c a.out b.out hl) rfl rfl rfl (by (repeat (first | exact pt_nil | apply pt0 | apply pt1 | apply pt2 | apply pt3 | apply pt4 | apply pt5 | apply pt6 | apply pt7 | apply pt8 | apply pt9 | apply pt10 | apply pt11 | apply pt12 | apply pt13 | apply pt14 | apply pt15 | apply pt16 | apply pt17))) (by (repeat (first | exact ro_nil | exact ro_rest (by assumption) | refine ro_cons (by first | exact .inl (by assumption) | exact ro_f0 (fun _ h => h) | exact ro_f0 (fun _ => slc_rsl) | exact ro_f1 (fun _ h => h) | exact ro_f1 (fun _ => slc_rsl) | exact ro_f2 (fun _ h => h) | exact ro_f2 (fun _ => slc_rsl) | exact ro_f3 (fun _ h => h) | exact ro_f3 (fun _ => slc_rsl) | exact ro_f4 (fun _ h => h) | exact ro_f4 (fun _ => slc_rsl) | exact ro_f5 (fun _ h => h) | exact ro_f5 (fun _ => slc_rsl) | exact ro_f6 (fun _ h => h) | exact ro_f6 (fun _ => slc_rsl)) ?_))) (fun _ _ => rfl) (fun _ _ _ h => h.sub (by (repeat (first | exact pt_nil | apply pt0 | apply pt1 | apply pt2 | apply pt3 | apply pt4 | apply pt5 | apply pt6 | apply pt7 | apply pt8 | apply pt9 | apply pt10 | apply pt11 | apply pt12 | apply pt13 | apply pt14 | apply pt15 | apply pt16 | apply pt17))))) ?_
      refine wl_y rfl (y_pick_t rfl rfl) ?_
      exact wl_weaken hM23 ⟨rfl, trivial⟩
    · intro hg17 hM23
      refine wl_sk rfl rfl rfl rfl ?_
      refine wl_sk rfl rfl rfl rfl ?_
      refine wl_sk rfl rfl rfl rfl ?_
      refine wl_sk rfl rfl rfl rfl ?_
      refine wl_sk rfl rfl rfl rfl ?_
      refine wl_y rfl (y_pick_f rfl rfl) ?_
      exact wl_weaken hM23 ⟨rfl, trivial⟩
    ·
      refine wl_y rfl (y_assign rfl) ?_
      refine wl_nil ?_
      refine wq_then ?_
      refine wc_ret ?_
      refine wq_ret1 rfl rfl (fun w hw => ?_)
      exact ⟨(), trivial, by rw [← rep_b], hw.bare⟩

set_option maxHeartbeats 1000000 in
theorem tasks_c (a b : TaskV) (hl : a.files.xs.length ≤ 1000000000) (hl2 : a.names.xs.length ≤ 1000000000) :
    Ctr Tryz.prog 15 #[.agg (encK a).toArray, .agg (encK b).toArray] [filesA a.files, filesA b.files, strsA a.names, strsA b.names] [] (fun _ : Unit => True) (fun _ => vB (decide (a.er = b.er))) (fun _ => []) := by
  refine spec_start (n := 67) [(0, .agg (encK a).toArray), (1, .agg (encK b).toArray)] Tryz.func15 rfl rfl ⟨rfl, rfl, trivial⟩ rfl ?_
  intro w0 K hR
  have hA := hR (filesA a.files) (by simp)
  have hB2 := hR (filesA b.files) (by simp)
  have hN := hR (strsA a.names) (by simp)
  have hM := hR (strsA b.names) (by simp)
  unfold strsA at hN hM
  refine wc_seq ?_
  refine wc_region ?_
  refine wl_w (fun _ _ => want_none) rfl (yw_box rfl rfl) (wl_ex fun b2 _ => ?_)
  refine wl_w (fun _ _ => want_none) rfl (yw_box rfl rfl) (wl_ex fun b3 _ => ?_)
  refine wl_y rfl (y_assign rfl) ?_
  refine wl_nil ?_
  refine wq_then ?_
  refine wc_seq ?_
  refine wc_seq ?_
  refine wc_region ?_
  refine wl_y rfl (y_fieldAddr F41_0 rfl) ?_
  refine wl_y rfl (y_load NA9 rfl (by first | exact cell_blk [] rfl | exact cell_blk [_] rfl | exact cell_blk [_, _] rfl | exact cell_blk [_, _, _] rfl | exact cellR_blk (by assumption) rfl)) ?_
  refine wl_y rfl (y_fieldAddr F41_0 rfl) ?_
  refine wl_y rfl (y_load NA9 rfl (by first | exact cell_blk [] rfl | exact cell_blk [_] rfl | exact cell_blk [_, _] rfl | exact cell_blk [_, _, _] rfl | exact cellR_blk (by assumption) rfl)) ?_
  refine wl_y rfl (y_neqS rfl rfl) ?_
  refine wl_y rfl (y_move rfl) ?_
  apply wl_or 6 17 [(2, _), (3, _)] (t := 11) rfl ⟨rfl, rfl, trivial⟩
  · intro hg11 hM17
    refine wl_sk rfl rfl rfl rfl ?_
    refine wl_sk rfl rfl rfl rfl ?_
    refine wl_sk rfl rfl rfl rfl ?_
    refine wl_sk rfl rfl rfl rfl ?_
    refine wl_sk rfl rfl rfl rfl ?_
    refine wl_y rfl (y_pick_t rfl rfl) ?_
    exact wl_weaken hM17 ⟨rfl, rfl, rfl, trivial⟩
  · intro hg11 hM17
    try (simp at hg11)
    refine wl_yg rfl rfl rfl (y_fieldAddr F41_1 rfl) ?_
    refine wl_yg rfl rfl rfl (y_load NA3 rfl (by first | exact cell_blk [] rfl | exact cell_blk [_] rfl | exact cell_blk [_, _] rfl | exact cell_blk [_, _, _] rfl | exact cellR_blk (by assumption) rfl)) ?_
    refine wl_yg rfl rfl rfl (y_fieldAddr F41_1 rfl) ?_
    refine wl_yg rfl rfl rfl (y_load NA3 rfl (by first | exact cell_blk [] rfl | exact cell_blk [_] rfl | exact cell_blk [_, _] rfl | exact cell_blk [_, _, _] rfl | exact cellR_blk (by assumption) rfl)) ?_
    refine wl_yg rfl rfl rfl (y_neqI rfl rfl) ?_
    refine wl_y rfl (y_pick_f rfl rfl) ?_
    exact wl_weaken hM17 ⟨rfl, rfl, rfl, trivial⟩
  ·
    refine wl_y rfl (y_move rfl) ?_
    apply wl_or 6 24 [(2, _), (3, _)] (t := 18) rfl ⟨rfl, rfl, trivial⟩
    · intro hg18 hM24
      refine wl_sk rfl rfl rfl rfl ?_
      refine wl_sk rfl rfl rfl rfl ?_
      refine wl_sk rfl rfl rfl rfl ?_
      refine wl_sk rfl rfl rfl rfl ?_
      refine wl_sk rfl rfl rfl rfl ?_
      refine wl_y rfl (y_pick_t rfl rfl) ?_
      exact wl_weaken hM24 ⟨rfl, rfl, rfl, trivial⟩
    · intro hg18 hM24
      try (simp at hg18)
      refine wl_yg rfl rfl rfl (y_fieldAddr F41_2 rfl) ?_
      refine wl_yg rfl rfl rfl (y_load NA9 rfl (by first | exact cell_blk [] rfl | exact cell_blk [_] rfl | exact cell_blk [_, _] rfl | exact cell_blk [_, _, _] rfl | exact cellR_blk (by assumption) rfl)) ?_
      refine wl_yg rfl rfl rfl (y_fieldAddr F41_2 rfl) ?_
      refine wl_yg rfl rfl rfl (y_load NA9 rfl (by first | exact cell_blk [] rfl | exact cell_blk [_] rfl | exact cell_blk [_, _] rfl | exact cell_blk [_, _, _] rfl | exact cellR_blk (by assumption) rfl)) ?_
      refine wl_yg rfl rfl rfl (y_neqS rfl rfl) ?_
      refine wl_y rfl (y_pick_f rfl rfl) ?_
      exact wl_weaken hM24 ⟨rfl, rfl, rfl, trivial⟩
    ·
      refine wl_y rfl (y_move rfl) ?_
      apply wl_or 6 31 [(2, _), (3, _)] (t := 25) rfl ⟨rfl, rfl, trivial⟩
      · intro hg25 hM31
        refine wl_sk rfl rfl rfl rfl ?_
        refine wl_sk rfl rfl rfl rfl ?_
        refine wl_sk rfl rfl rfl rfl ?_
        refine wl_sk rfl rfl rfl rfl ?_
        refine wl_sk rfl rfl rfl rfl ?_
        refine wl_y rfl (y_pick_t rfl rfl) ?_
        exact wl_weaken hM31 ⟨rfl, rfl, rfl, trivial⟩
      · intro hg25 hM31
        try (simp at hg25)
        refine wl_yg rfl rfl rfl (y_fieldAddr F41_5 rfl) ?_
        refine wl_yg rfl rfl rfl (y_load NA3 rfl (by first | exact cell_blk [] rfl | exact cell_blk [_] rfl | exact cell_blk [_, _] rfl | exact cell_blk [_, _, _] rfl | exact cellR_blk (by assumption) rfl)) ?_
        refine wl_yg rfl rfl rfl (y_fieldAddr F41_5 rfl) ?_
        refine wl_yg rfl rfl rfl (y_load NA3 rfl (by first | exact cell_blk [] rfl | exact cell_blk [_] rfl | exact cell_blk [_, _] rfl | exact cell_blk [_, _, _] rfl | exact cellR_blk (by assumption) rfl)) ?_
        refine wl_yg rfl rfl rfl (y_neqI rfl rfl) ?_
        refine wl_y rfl (y_pick_f rfl rfl) ?_
        exact wl_weaken hM31 ⟨rfl, rfl, rfl, trivial⟩
      ·
        refine wl_y rfl (y_move rfl) ?_
        apply wl_or 8 40 [(2, _), (3, _)] (t := 32) rfl ⟨rfl, rfl, trivial⟩
        · intro hg32 hM40
          refine wl_sk rfl rfl rfl rfl ?_
          refine wl_sk rfl rfl rfl rfl ?_
          refine wl_sk rfl rfl rfl rfl ?_
          refine wl_sk rfl rfl rfl rfl ?_
          refine wl_sk rfl rfl rfl rfl ?_
          refine wl_sk rfl rfl rfl rfl ?_
          refine wl_sk rfl rfl rfl rfl ?_
          refine wl_y rfl (y_pick_t rfl rfl) ?_
          exact wl_weaken hM40 ⟨rfl, rfl, rfl, trivial⟩
        · intro hg32 hM40
          try (simp at hg32)
          refine wl_yg rfl rfl rfl (y_fieldAddr F41_4 rfl) ?_
          refine wl_yg rfl rfl rfl (y_load NA39 rfl (by first | exact cell_blk [] rfl | exact cell_blk [_] rfl | exact cell_blk [_, _] rfl | exact cell_blk [_, _, _] rfl | exact cellR_blk (by assumption) rfl)) ?_
          refine wl_yg rfl rfl rfl (y_lenSl Tryz.underlying39 rfl) ?_
          refine wl_yg rfl rfl rfl (y_fieldAddr F41_4 rfl) ?_
          refine wl_yg rfl rfl rfl (y_load NA39 rfl (by first | exact cell_blk [] rfl | exact cell_blk [_] rfl | exact cell_blk [_, _] rfl | exact cell_blk [_, _, _] rfl | exact cellR_blk (by assumption) rfl)) ?_
          refine wl_yg rfl rfl rfl (y_lenSl Tryz.underlying39 rfl) ?_
          refine wl_yg rfl rfl rfl (y_neqI rfl rfl) ?_
          refine wl_y rfl (y_pick_f rfl rfl) ?_
          exact wl_weaken hM40 ⟨rfl, rfl, rfl, trivial⟩
        ·
          refine wl_y rfl (y_move rfl) ?_
          apply wl_or 7 48 [(2, _), (3, _)] (t := 41) rfl ⟨rfl, rfl, trivial⟩
          · intro hg41 hM48
            refine wl_sk rfl rfl rfl rfl ?_
            refine wl_sk rfl rfl rfl rfl ?_
            refine wl_sk rfl rfl rfl rfl ?_
            refine wl_sk rfl rfl rfl rfl ?_
            refine wl_sk rfl rfl rfl rfl ?_
            refine wl_sk rfl rfl rfl rfl ?_
            refine wl_y rfl (y_pick_t rfl rfl) ?_
            exact wl_weaken hM48 ⟨rfl, rfl, rfl, trivial⟩
          · intro hg41 hM48
            try (simp at hg41)
            refine wl_yg rfl rfl rfl (y_fieldAddr F41_3 rfl) ?_
            refine wl_yg rfl rfl rfl (y_load NA24 rfl (by first | exact cell_blk [] rfl | exact cell_blk [_] rfl | exact cell_blk [_, _] rfl | exact cell_blk [_, _, _] rfl | exact cellR_blk (by assumption) rfl)) ?_
            refine wl_yg rfl rfl rfl (y_fieldAddr F41_3 rfl) ?_
            refine wl_yg rfl rfl rfl (y_load NA24 rfl (by first | exact cell_blk [] rfl | exact cell_blk [_] rfl | exact cell_blk [_, _] rfl | exact cell_blk [_, _, _] rfl | exact cellR_blk (by assumption) rfl)) ?_
            refine wl_q (want_some rfl rfl) rfl (yq_spec (fst := []) (cap := []) _ FN33 (same_c a.files b.files hl) rfl rfl rfl (by (repeat (first | exact pt_nil | apply pt0 | apply pt1 | apply pt2 | apply pt3 | apply pt4 | apply pt5 | apply pt6 | apply pt7 | apply pt8 | apply pt9 | apply pt10 | apply pt11 | apply pt12 | apply pt13 | apply pt14 | apply pt15 | apply pt16 | apply pt17))) (by (repeat (first | exact ro_nil | exact ro_rest (by assumption) | refine ro_cons (by first | exact .inl (by assumption) | exact ro_f0 (fun _ h => h) | exact ro_f0 (fun _ => slc_rsl) | exact ro_f1 (fun _ h => h) | exact ro_f1 (fun _ => slc_rsl) | exact ro_f2 (fun _ h => h) | exact ro_f2 (fun _ => slc_rsl) | exact ro_f3 (fun _ h => h) | exact ro_f3 (fun _ => slc_rsl) | exact ro_f4 (fun _ h => h) | exact ro_f4 (fun _ => slc_rsl) | exact ro_f5 (fun _ h => h) | exact ro_f5 (fun _ => slc_rsl) | exact ro_f6 (fun _ h => h) | exact ro_f6 (fun _ => slc_rsl)) ?_))) (fun _ _ => rfl) (fun _ _ _ h => h.sub (by (repeat (first | exact pt_nil | apply pt0 | apply pt1 | apply pt2 | apply pt3 | apply pt4 | apply pt5 | apply pt6 | apply pt7 | apply pt8 | apply pt9 | apply pt10 | apply pt11 | apply pt12 | apply pt13 | apply pt14 | apply pt15 | apply pt16 | apply pt17))))) ?_
            refine wl_yg rfl rfl rfl (y_not rfl) ?_
            refine wl_y rfl (y_pick_f rfl rfl) ?_
            exact wl_weaken hM48 ⟨rfl, rfl, rfl, trivial⟩
          ·
            refine wl_nil ?_
            refine wq_then ?_
            refine wc_cond rfl (fun hc48 => ?_) (fun hc48 => ?_)
            ·
              simp at hc48
              refine wc_seq ?_
              refine wc_region ?_
              refine wl_y rfl (y_assign rfl) ?_
              refine wl_nil ?_
              refine wq_then ?_
              refine wc_ret ?_
              refine wq_then_ret ?_
              refine wq_ret1 rfl rfl (fun w hw => ?_)
              exact ⟨(), trivial, by rw [decide_eq_false (fun e => by have k1 : a.key = b.key := congrArg PK.key e; have k2 : a.epoch = b.epoch := congrArg PK.epoch e; have k3 : a.cmd = b.cmd := congrArg PK.cmd e; have k4 : a.fuel = b.fuel := congrArg PK.fuel e; have k5 : a.names.xs = b.names.xs := congrArg PK.names e; have k6 : a.files.xs = b.files.xs := congrArg PK.files e; simp [k1, k2, k3, k4, k5, k6] at hc48)], hw.bare⟩
            ·
              simp at hc48
              refine wc_skip ?_
              refine wq_then ?_
              refine wc_seq ?_
              refine wc_seq ?_
              refine wc_region ?_
              refine wl_y rfl (y_assign rfl) ?_
              refine wl_nil ?_
              refine wq_then ?_
              refine wc_block ?_
              refine wc_loop (α := Nat) (fun y => y ≤ a.names.xs.length ∧ a.names.xs.take y = b.names.xs.take y) [(2, _), (3, _)] (fun y => [(5, vI y)]) (fun y => Hp w0 K [blk b3 (.cells (encK b).toArray 41 (0, 0)), blk b2 (.cells (encK a).toArray 41 (0, 0))]) (fun y => a.names.xs.length - y) 0 ?_ ⟨rfl, rfl, rfl, trivial⟩ ?_ ?_
              · exact ⟨Nat.zero_le _, rfl⟩
              · exact fun w hw => hw
              · rintro i ⟨hi, hall⟩
                obtain ⟨⟨⟨⟨⟨k1, k2⟩, k3⟩, k4⟩, k5⟩, k6⟩ := hc48
                refine wc_seq ?_
                refine wc_seq ?_
                refine wc_region ?_
                refine wl_y rfl (y_move rfl) ?_
                refine wl_y rfl (y_fieldAddr F41_4 rfl) ?_
                refine wl_y rfl (y_load NA39 rfl (by first | exact cell_blk [] rfl | exact cell_blk [_] rfl | exact cell_blk [_, _] rfl | exact cell_blk [_, _, _] rfl | exact cellR_blk (by assumption) rfl)) ?_
                refine wl_y rfl (y_lenSl Tryz.underlying39 rfl) ?_
                refine wl_y rfl (y_lss rfl rfl) ?_
                refine wl_nil ?_
                refine wq_then ?_
                refine wc_cond rfl (fun hc53 => ?_) (fun hc53 => ?_)
                ·
                  simp at hc53
                  refine wc_skip ?_
                  refine wq_then ?_
                  refine wc_seq ?_
                  refine wc_block ?_
                  refine wc_seq ?_
                  refine wc_quiet MO (by kernel_rfl) (Hp.drawless _ _ _) ?_
                  obtain ⟨x, hx⟩ : ∃ x, a.names.xs[i]? = some x := ⟨_, List.getElem?_eq_getElem (by omega)⟩
                  obtain ⟨y, hy⟩ : ∃ x, b.names.xs[i]? = some x := ⟨_, List.getElem?_eq_getElem (by omega)⟩
                  refine wt_y rfl (y_fieldAddr F41_4 rfl) ?_
                  refine wt_y rfl (y_load NA39 rfl (by first | exact cell_blk [] rfl | exact cell_blk [_] rfl | exact cell_blk [_, _] rfl | exact cell_blk [_, _, _] rfl | exact cellR_blk (by assumption) rfl)) ?_
                  refine wt_y rfl (y_move rfl) ?_
                  refine wt_y rfl (y_indexAddr Tryz.underlying39 T9 rfl rfl rfl (by omega) (by first | assumption | exact fun _ _ => rfl | exact fun _ _ => hN.isSome (by omega) | exact fun _ _ => hM.isSome (by omega) | exact fun w hw => hw.slc_isSome [] (by omega) | exact fun w hw => hw.slc_isSome [_] (by omega) | exact fun w hw => hw.slc_isSome [_, _] (by omega) | exact fun w hw => hw.slc_isSome [_, _, _] (by omega))) ?_
                  refine wt_y rfl (y_load NA9 rfl (cell_ro hN (row_at hx))) ?_
                  refine wt_y rfl (y_fieldAddr F41_4 rfl) ?_
                  refine wt_y rfl (y_load NA39 rfl (by first | exact cell_blk [] rfl | exact cell_blk [_] rfl | exact cell_blk [_, _] rfl | exact cell_blk [_, _, _] rfl | exact cellR_blk (by assumption) rfl)) ?_
                  refine wt_y rfl (y_move rfl) ?_
                  refine wt_y rfl (y_indexAddr Tryz.underlying39 T9 rfl rfl rfl (by omega) (by first | assumption | exact fun _ _ => rfl | exact fun _ _ => hN.isSome (by omega) | exact fun _ _ => hM.isSome (by omega) | exact fun w hw => hw.slc_isSome [] (by omega) | exact fun w hw => hw.slc_isSome [_] (by omega) | exact fun w hw => hw.slc_isSome [_, _] (by omega) | exact fun w hw => hw.slc_isSome [_, _, _] (by omega))) ?_
                  refine wt_y rfl (y_load NA9 rfl (cell_ro hM (row_at hy))) ?_
                  refine wt_y rfl (y_neqS rfl rfl) ?_
                  refine wt_nil ?_
                  refine wq_then ?_
                  refine wc_cond rfl (fun hc66 => ?_) (fun hc66 => ?_)
                  ·
                    simp at hc66
                    refine wc_seq ?_
                    refine wc_region ?_
                    refine wl_y rfl (y_assign rfl) ?_
                    refine wl_nil ?_
                    refine wq_then ?_
                    refine wc_ret ?_
                    refine wq_block_ret (wq_then_ret (wq_then_ret (wq_block_ret (wq_then_ret ?_))))
                    refine wq_ret1 rfl rfl (fun w hw => ?_)
                    exact ⟨(), trivial, by rw [decide_eq_false (fun e => by have k7 : a.names.xs = b.names.xs := congrArg PK.names e; rw [k7, hy] at hx; exact hc66 (Option.some.inj hx).symm)], hw.bare⟩
                  ·
                    simp at hc66
                    refine wc_skip ?_
                    refine wq_block_normal ?_
                    refine wq_then ?_
                    refine wc_region ?_
                    refine wl_y rfl (y_move rfl) ?_
                    refine wl_y rfl (y_add rfl rfl (by omega)) ?_
                    refine wl_y rfl (y_assign rfl) ?_
                    refine wl_nil ?_
                    exact wq_round (i + 1) (by omega) ⟨by omega, take_same hall hx hy hc66⟩ ⟨rfl, rfl, rfl, trivial⟩ (fun w hw => hw)
                ·
                  simp at hc53
                  refine wc_exit ?_
                  refine wq_then_exit (wq_then_exit (wq_block_exit ?_))
                  refine wq_then ?_
                  refine wc_seq ?_
                  refine wc_region ?_
                  refine wl_y rfl (y_assign rfl) ?_
                  refine wl_nil ?_
                  refine wq_then ?_
                  refine wc_ret ?_
                  refine wq_ret1 rfl rfl (fun w hw => ?_)
                  have k7 : a.names.xs = b.names.xs := by rw [List.take_of_length_le (by omega), List.take_of_length_le (by omega)] at hall; exact hall
                  exact ⟨(), trivial, by rw [decide_eq_true (show a.er = b.er by unfold TaskV.er; rw [k1, k2, k3, k4, k6, k7])], hw.bare⟩

end Go.Proofs.YtbnahfjhlbibcaaGreatDoor
