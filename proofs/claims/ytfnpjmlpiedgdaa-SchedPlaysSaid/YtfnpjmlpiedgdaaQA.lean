/-
  Walks: compared, changed about, what is first sinks.
-/
import Derived.Test.YtfnpjmlpiedgdaaQDef
namespace Go.Proofs.Ytfnpjmlpiedgdaa
open Go.Eng

set_option maxHeartbeats 1000000 in
theorem less_j (b : Nat) (age n : Int) (H : List (It Jb)) (oc : Option Addr × Nat) (i j : Nat) (x y : It Jb) (hi : H[i]? = some x) (hj : H[j]? = some y) :
    Ctr Try.prog 49 #[ptr b, vI i, vI j] [] (rawAs b age n H oc) (fun _ : Unit => True) (fun _ => .bool (x.lt y)) (fun _ => rawAs b age n H oc) := by
  refine spec_start (n := 52) [(0, ptr b), (1, vI i), (2, vI j)] Try.func49 rfl rfl ⟨rfl, rfl, rfl, trivial⟩ rfl ?_
  intro w0 K hR
  have hil := (List.getElem?_eq_some_iff.1 hi).1
  have hjl := (List.getElem?_eq_some_iff.1 hj).1
  refine wc_seq ?_
  refine wc_region ?_
  refine wl_y rfl (y_assign rfl) ?_
  refine wl_nil ?_
  refine wq_then ?_
  refine wc_seq ?_
  refine wc_quiet MO (by kernel_rfl) (Hp.drawless _ _ _) ?_
  refine wt_y rfl (y_move rfl) ?_
  refine wt_y rfl (y_nilCheck rfl) ?_
  refine wt_y rfl (y_fieldAddr F92_2 rfl) ?_
  refine wt_y rfl (y_load NA90 rfl (by first | exact cell_blk [] rfl | exact cell_blk [_] rfl | exact cell_blk [_, _] rfl | exact cellR_blk (by assumption) rfl)) ?_
  refine wt_y rfl (y_move rfl) ?_
  refine wt_y rfl (y_indexAddr (i := i) Try.underlying90 T97 rfl rfl rfl (by omega) (fun w hw => hw.slc_isSome [_] (by omega))) ?_
  refine wt_y rfl (y_move rfl) ?_
  refine wt_y rfl (y_nilCheck rfl) ?_
  refine wt_y rfl (y_fieldAddr F92_2 rfl) ?_
  refine wt_y rfl (y_load NA90 rfl (by first | exact cell_blk [] rfl | exact cell_blk [_] rfl | exact cell_blk [_, _] rfl | exact cellR_blk (by assumption) rfl)) ?_
  refine wt_y rfl (y_move rfl) ?_
  refine wt_y rfl (y_indexAddr (i := j) Try.underlying90 T97 rfl rfl rfl (by omega) (fun w hw => hw.slc_isSome [_] (by omega))) ?_
  refine wt_y rfl (y_assign rfl) ?_
  refine wt_y rfl (y_assign rfl) ?_
  refine wt_nil ?_
  refine wq_then ?_
  refine wc_seq ?_
  refine wc_quiet MO (by kernel_rfl) (Hp.drawless _ _ _) ?_
  refine wt_y rfl (y_move rfl) ?_
  refine wt_y rfl (y_nilCheck rfl) ?_
  refine wt_y rfl (y_fieldAddr_adr F97_3 rfl) ?_
  refine wt_y rfl (y_load NA3 rfl (cell_own [_] (rows_get encIt_len hi rfl))) ?_
  refine wt_y rfl (y_move rfl) ?_
  refine wt_y rfl (y_nilCheck rfl) ?_
  refine wt_y rfl (y_fieldAddr_adr F97_3 rfl) ?_
  refine wt_y rfl (y_load NA3 rfl (cell_own [_] (rows_get encIt_len hj rfl))) ?_
  refine wt_y rfl (y_lss rfl rfl) ?_
  refine wt_y rfl (y_move rfl) ?_
  refine wt_case 30 rfl (fun hg30 => ?_) (fun hg30 => ?_)
  ·
    simp at hg30
    refine wt_sk rfl rfl rfl rfl ?_
    refine wt_sk rfl rfl rfl rfl ?_
    refine wt_sk rfl rfl rfl rfl ?_
    refine wt_sk rfl rfl rfl rfl ?_
    refine wt_sk rfl rfl rfl rfl ?_
    refine wt_sk rfl rfl rfl rfl ?_
    refine wt_sk rfl rfl rfl rfl ?_
    refine wt_sk rfl rfl rfl rfl ?_
    refine wt_sk rfl rfl rfl rfl ?_
    refine wt_sk rfl rfl rfl rfl ?_
    refine wt_sku rfl rfl rfl ?_
    refine wt_sku rfl rfl rfl ?_
    refine wt_sku rfl rfl rfl ?_
    refine wt_sku rfl rfl rfl ?_
    refine wt_sku rfl rfl rfl ?_
    refine wt_sku rfl rfl rfl ?_
    refine wt_sku rfl rfl rfl ?_
    refine wt_sku rfl rfl rfl ?_
    refine wt_sku rfl rfl rfl ?_
    refine wt_sk rfl rfl rfl rfl ?_
    refine wt_y rfl (y_pick_t rfl rfl) ?_
    refine wt_y rfl (y_assign rfl) ?_
    refine wt_nil ?_
    refine wq_then ?_
    refine wc_ret ?_
    refine wq_ret1 rfl rfl (fun w hw => ?_)
    exact ⟨(), trivial, by rw [It.lt_iff.2 (.inl hg30)], hw⟩
  ·
    simp at hg30
    refine wt_yg rfl rfl rfl (y_move rfl) ?_
    refine wt_yg rfl rfl rfl (y_nilCheck rfl) ?_
    refine wt_yg rfl rfl rfl (y_fieldAddr_adr F97_3 rfl) ?_
    refine wt_yg rfl rfl rfl (y_load NA3 rfl (cell_own [_] (rows_get encIt_len hi rfl))) ?_
    refine wt_yg rfl rfl rfl (y_move rfl) ?_
    refine wt_yg rfl rfl rfl (y_nilCheck rfl) ?_
    refine wt_yg rfl rfl rfl (y_fieldAddr_adr F97_3 rfl) ?_
    refine wt_yg rfl rfl rfl (y_load NA3 rfl (cell_own [_] (rows_get encIt_len hj rfl))) ?_
    refine wt_yg rfl rfl rfl (y_eqlI rfl rfl) ?_
    refine wt_yg rfl rfl rfl (y_move rfl) ?_
    refine wt_case 40 rfl (fun hg40 => ?_) (fun hg40 => ?_)
    ·
      simp at hg40
      refine wt_yg rfl rfl rfl (y_move rfl) ?_
      refine wt_yg rfl rfl rfl (y_nilCheck rfl) ?_
      refine wt_yg rfl rfl rfl (y_fieldAddr_adr F97_4 rfl) ?_
      refine wt_yg rfl rfl rfl (y_load NA3 rfl (cell_own [_] (rows_get encIt_len hi rfl))) ?_
      refine wt_yg rfl rfl rfl (y_move rfl) ?_
      refine wt_yg rfl rfl rfl (y_nilCheck rfl) ?_
      refine wt_yg rfl rfl rfl (y_fieldAddr_adr F97_4 rfl) ?_
      refine wt_yg rfl rfl rfl (y_load NA3 rfl (cell_own [_] (rows_get encIt_len hj rfl))) ?_
      refine wt_yg rfl rfl rfl (y_lss rfl rfl) ?_
      refine wt_yg rfl rfl rfl (y_pick_t rfl rfl) ?_
      refine wt_y rfl (y_pick_f rfl rfl) ?_
      refine wt_y rfl (y_assign rfl) ?_
      refine wt_nil ?_
      refine wq_then ?_
      refine wc_ret ?_
      refine wq_ret1 rfl rfl (fun w hw => ?_)
      have hnn : ¬ x.turn < y.turn := by omega
      exact ⟨(), trivial, by simp [It.lt, hg40], hw⟩
    ·
      simp at hg40
      refine wt_sk rfl rfl rfl rfl ?_
      refine wt_sk rfl rfl rfl rfl ?_
      refine wt_sk rfl rfl rfl rfl ?_
      refine wt_sk rfl rfl rfl rfl ?_
      refine wt_sk rfl rfl rfl rfl ?_
      refine wt_sk rfl rfl rfl rfl ?_
      refine wt_sk rfl rfl rfl rfl ?_
      refine wt_sk rfl rfl rfl rfl ?_
      refine wt_sk rfl rfl rfl rfl ?_
      refine wt_yg rfl rfl rfl (y_pick_f rfl rfl) ?_
      refine wt_y rfl (y_pick_f rfl rfl) ?_
      refine wt_y rfl (y_assign rfl) ?_
      refine wt_nil ?_
      refine wq_then ?_
      refine wc_ret ?_
      refine wq_ret1 rfl rfl (fun w hw => ?_)
      exact ⟨(), trivial, by rw [It.not_iff.2 (by omega)], hw⟩

set_option maxHeartbeats 1000000 in
theorem swap_j (b : Nat) (age n : Int) (H : List (It Jb)) (oc : Option Addr × Nat) (i j : Nat) (x y : It Jb) (hi : H[i]? = some x) (hj : H[j]? = some y) :
    Ctr Try.prog 50 #[ptr b, vI i, vI j] [] (rawAs b age n H oc) (fun _ : Unit => True) (fun _ => .tuple #[]) (fun _ => rawAs b age n (sw H i j x y) oc) := by
  refine spec_start (n := 32) [(0, ptr b), (1, vI i), (2, vI j)] Try.func50 rfl rfl ⟨rfl, rfl, rfl, trivial⟩ rfl ?_
  intro w0 K hR
  have hil := (List.getElem?_eq_some_iff.1 hi).1
  have hjl := (List.getElem?_eq_some_iff.1 hj).1
  refine wc_mix (.q 0 0 (.q 1 0 (.q 2 0 (.q 3 1 (.q 4 0 (.q 5 0 (.q 6 0 (.q 7 0 (.q 8 1 (.q 9 0 (.q 10 0 (.q 11 0 (.q 12 0 (.q 13 1 (.q 14 0 (.q 15 0 (.q 16 1 (.q 17 0 (.q 18 0 (.q 19 0 (.q 20 1 (.q 21 0 (.q 22 0 (.q 23 1 (.q 24 0 (.w 25 2 (.q 26 0 (.w 27 2 .nil .nil)) .nil)))))))))))))))))))))))))) (fun _ => True) MO (by kernel_rfl) (Hp.drawless _ _ _) (fun _ _ => trivial) ?_
  refine wm_have (p := oc.1.isSome = true) (fun w hw => hw.slc_isSome [_] (by omega)) (fun hos => ?_)
  refine wm_g rfl rfl (y_move rfl) ?_
  refine wm_g rfl rfl (y_nilCheck rfl) ?_
  refine wm_g rfl rfl (y_fieldAddr F92_2 rfl) ?_
  refine wm_l rfl rfl (y_load NA90 rfl (by first | exact cell_blk [] rfl | exact cell_blk [_] rfl | exact cell_blk [_, _] rfl | exact cellR_blk (by assumption) rfl)) ?_
  refine wm_g rfl rfl (y_move rfl) ?_
  refine wm_g rfl rfl (y_move rfl) ?_
  refine wm_g rfl rfl (y_nilCheck rfl) ?_
  refine wm_g rfl rfl (y_fieldAddr F92_2 rfl) ?_
  refine wm_l rfl rfl (y_load NA90 rfl (by first | exact cell_blk [] rfl | exact cell_blk [_] rfl | exact cell_blk [_, _] rfl | exact cellR_blk (by assumption) rfl)) ?_
  refine wm_g rfl rfl (y_move rfl) ?_
  refine wm_g rfl rfl (y_move rfl) ?_
  refine wm_g rfl rfl (y_nilCheck rfl) ?_
  refine wm_g rfl rfl (y_fieldAddr F92_2 rfl) ?_
  refine wm_l rfl rfl (y_load NA90 rfl (by first | exact cell_blk [] rfl | exact cell_blk [_] rfl | exact cell_blk [_, _] rfl | exact cellR_blk (by assumption) rfl)) ?_
  refine wm_g rfl rfl (y_move rfl) ?_
  refine wm_g rfl rfl (y_indexAddr (i := j) Try.underlying90 T97 rfl rfl rfl (by omega) (fun _ _ => hos)) ?_
  refine wm_l rfl rfl (y_loadAgg (l := encIt y) AG97 rfl rfl (agg_own [_] (fun i u h => rows_get encIt_len hj h))) ?_
  refine wm_g rfl rfl (y_move rfl) ?_
  refine wm_g rfl rfl (y_nilCheck rfl) ?_
  refine wm_g rfl rfl (y_fieldAddr F92_2 rfl) ?_
  refine wm_l rfl rfl (y_load NA90 rfl (by first | exact cell_blk [] rfl | exact cell_blk [_] rfl | exact cell_blk [_, _] rfl | exact cellR_blk (by assumption) rfl)) ?_
  refine wm_g rfl rfl (y_move rfl) ?_
  refine wm_g rfl rfl (y_indexAddr (i := i) Try.underlying90 T97 rfl rfl rfl (by omega) (fun _ _ => hos)) ?_
  refine wm_l rfl rfl (y_loadAgg (l := encIt x) AG97 rfl rfl (agg_own [_] (fun i u h => rows_get encIt_len hi h))) ?_
  refine wm_g rfl rfl (y_indexAddr (i := i) Try.underlying90 T97 rfl rfl rfl (by omega) (fun _ _ => hos)) ?_
  refine wm_u rfl (fun _ _ => trivial) (yu_storeAggSl [_] (vs := encIt y) T97 rfl rfl rfl (by simp [encIt, Value.oneCell']) (by simp only [rows_length encIt_len, encIt_len, List.length_set]; omega)) ?_
  refine wm_world (S' := Hp w0 K [blk b (.cells [vI age, vI n, .slice oc.1 H.length oc.2].toArray 92 (0, 0)), slc 97 7 oc.1 H.length oc.2 ((H.set i y).flatMap encIt)]) (fun w hw => by rw [rows_set encIt_len _ (by first | omega | (simp; omega))] at hw; exact hw) ?_
  refine wm_g rfl rfl (y_indexAddr (i := j) Try.underlying90 T97 rfl rfl rfl (by omega) (fun _ _ => hos)) ?_
  refine wm_u rfl (fun _ _ => trivial) (yu_storeAggSl [_] (vs := encIt x) T97 rfl rfl rfl (by simp [encIt, Value.oneCell']) (by simp only [rows_length encIt_len, encIt_len, List.length_set]; omega)) ?_
  refine wm_world (S' := Hp w0 K [blk b (.cells [vI age, vI n, .slice oc.1 H.length oc.2].toArray 92 (0, 0)), slc 97 7 oc.1 H.length oc.2 (((H.set i y).set j x).flatMap encIt)]) (fun w hw => by rw [rows_set encIt_len _ (by first | omega | (simp; omega))] at hw; exact hw) ?_
  refine wm_nil ?_
  refine all_wq ?_
  refine wq_end0 rfl (fun w hw => ?_)
  exact ⟨(), trivial, rfl, by rw [rawAs, sw_length]; exact hw⟩

set_option maxHeartbeats 1000000 in
theorem sink_j (b : Nat) (age n : Int) (H : List (It Jb)) (oc : Option Addr × Nat) (hd : Down H 0) (hl : H.length ≤ 1000000) :
    Ctr Try.prog 69 #[ptr b] [] (rawAs b age n H oc) (fun H' : List (It Jb) => H'.Perm H ∧ Heap H') (fun _ => .tuple #[]) (fun H' => rawAs b age n H' oc) := by
  refine spec_start (n := 43) [(0, ptr b)] Try.func69 rfl rfl ⟨rfl, trivial⟩ rfl ?_
  intro w0 K hR
  refine wc_seq ?_
  refine wc_region ?_
  refine wl_y rfl (y_assign rfl) ?_
  refine wl_nil ?_
  refine wq_then ?_
  refine wc_block ?_
  refine wc_loop (α := List (It Jb) × Nat) (fun y => Down y.1 y.2 ∧ y.1.Perm H ∧ (y.2 = 0 ∨ y.2 < H.length)) [(0, _)] (fun y => [(2, vI y.2)]) (fun y => Hp w0 K (rawAs b age n y.1 oc)) (fun y => H.length - y.2) (H, 0) ?_ ⟨rfl, rfl, trivial⟩ ?_ ?_
  · exact ⟨hd, List.Perm.refl _, .inl rfl⟩
  · exact fun w hw => hw
  · rintro ⟨G, p⟩ ⟨hG, hp, hpl⟩; simp only at hG hp hpl
    have hgl := hp.length_eq
    refine wc_world (S' := Hp w0 K (rawAs b age n G oc)) (fun w hw => hw) ?_
    refine wc_block ?_
    refine wc_seq ?_
    refine wc_region ?_
    refine wl_y rfl (y_move rfl) ?_
    refine wl_y rfl (y_mul rfl rfl (by omega)) ?_
    refine wl_y rfl (y_add rfl rfl (by omega)) ?_
    refine wl_y rfl (y_assign rfl) ?_
    refine wl_same 3 (vI (2 * p + 1 : Nat)) rfl (by rw [show ((2 * p + 1 : Nat) : Int) = 2 * (p : Int) + 1 by omega]) ?_
    refine wl_nil ?_
    refine wq_then ?_
    refine wc_seq (wc_cut (α := Nat) (fun c => (c - 1) / 2 = p ∧ 0 < c ∧ (∀ i z u, (i - 1) / 2 = p → 0 < i → G[i]? = some z → G[c]? = some u → z.lt u = false) ∧ (c < G.length ∨ c = 2 * p + 1)) [(0, _), (2, _)] (fun c => [(3, vI c)]) (fun c => Hp w0 K (rawAs b age n G oc)) ⟨rfl, rfl, trivial⟩ ?_ ?_)
    ·
      refine wc_seq ?_
      refine wc_region ?_
      refine wl_y rfl (y_move rfl) ?_
      refine wl_y rfl (y_add rfl rfl (by omega)) ?_
      refine wl_same 8 (vI (2 * p + 2 : Nat)) rfl (by rw [show ((2 * p + 2 : Nat) : Int) = ((2 * p + 1 : Nat) : Int) + 1 by omega]) ?_
      refine wl_y rfl (y_move rfl) ?_
      refine wl_y rfl (y_nilCheck rfl) ?_
      refine wl_y rfl (y_fieldAddr F92_2 rfl) ?_
      refine wl_y rfl (y_load NA90 rfl (by first | exact cell_blk [] rfl | exact cell_blk [_] rfl | exact cell_blk [_, _] rfl | exact cellR_blk (by assumption) rfl)) ?_
      refine wl_y rfl (y_lenSl Try.underlying90 rfl) ?_
      refine wl_y rfl (y_lss rfl rfl) ?_
      refine wl_y rfl (y_move rfl) ?_
      refine wl_case 15 rfl (fun hg15 => ?_) (fun hg15 => ?_)
      ·
        simp at hg15
        refine wl_yg rfl rfl rfl (y_move rfl) ?_
        refine wl_yg rfl rfl rfl (y_move rfl) ?_
        refine wl_yg rfl rfl rfl (y_add rfl rfl (by omega)) ?_
        refine wl_same 18 (vI (2 * p + 2 : Nat)) rfl (by rw [show ((2 * p + 2 : Nat) : Int) = ((2 * p + 1 : Nat) : Int) + 1 by omega]) ?_
        refine wl_yg rfl rfl rfl (y_move rfl) ?_
        obtain ⟨u2, hu2⟩ : ∃ u, G[2 * p + 2]? = some u := ⟨_, List.getElem?_eq_getElem (by omega)⟩
        obtain ⟨u1, hu1⟩ : ∃ u, G[2 * p + 1]? = some u := ⟨_, List.getElem?_eq_getElem (by omega)⟩
        refine wl_c (want_some rfl rfl) rfl (yc_spec (fst := []) (cap := []) _ FN49 (less_j b age n G oc (2 * p + 2) (2 * p + 1) u2 u1 hu2 hu1) rfl rfl rfl (by (repeat (first | exact pt_nil | apply pt0 | apply pt1 | apply pt2 | apply pt3 | apply pt4 | apply pt5 | apply pt6 | apply pt7 | apply pt8 | apply pt9 | apply pt10 | apply pt11 | apply pt12 | apply pt13 | apply pt14 | apply pt15 | apply pt16 | apply pt17))) (by (repeat (first | exact ro_nil | exact ro_rest (by assumption) | refine ro_cons (by first | exact .inl (by assumption) | exact ro_f0 (fun _ h => h) | exact ro_f0 (fun _ => slc_rsl) | exact ro_f1 (fun _ h => h) | exact ro_f1 (fun _ => slc_rsl) | exact ro_f2 (fun _ h => h) | exact ro_f2 (fun _ => slc_rsl) | exact ro_f3 (fun _ h => h) | exact ro_f3 (fun _ => slc_rsl) | exact ro_f4 (fun _ h => h) | exact ro_f4 (fun _ => slc_rsl) | exact ro_f5 (fun _ h => h) | exact ro_f5 (fun _ => slc_rsl) | exact ro_f6 (fun _ h => h) | exact ro_f6 (fun _ => slc_rsl)) ?_)))) (wl_ex fun x20 hx20 => ?_)
        refine wl_y rfl (y_pick_t rfl rfl) ?_
        refine wl_nil ?_
        refine wq_then ?_
        refine wc_cond rfl (fun hc21 => ?_) (fun hc21 => ?_)
        ·
          refine wc_region ?_
          refine wl_y rfl (y_move rfl) ?_
          refine wl_y rfl (y_add rfl rfl (by omega)) ?_
          refine wl_y rfl (y_assign rfl) ?_
          refine wl_same 3 (vI (2 * p + 2 : Nat)) rfl (by rw [show ((2 * p + 2 : Nat) : Int) = ((2 * p + 1 : Nat) : Int) + 1 by omega]) ?_
          refine wl_nil ?_
          exact wq_cut (2 * p + 2) ⟨by omega, by omega, fun i z u hip hi hz hu => by
            rw [hu2] at hu; cases hu
            obtain rfl | rfl : i = 2 * p + 1 ∨ i = 2 * p + 2 := by omega
            · rw [hu1] at hz; cases hz; exact It.not_of_lt hc21
            · rw [hu2] at hz; cases hz; rw [It.not_iff]; omega, by omega⟩ ⟨rfl, rfl, rfl, trivial⟩ (fun w hw => hw)
        ·
          refine wc_skip ?_
          exact wq_cut (2 * p + 1) ⟨by omega, by omega, fun i z u hip hi hz hu => by
            rw [hu1] at hu; cases hu
            obtain rfl | rfl : i = 2 * p + 1 ∨ i = 2 * p + 2 := by omega
            · rw [hu1] at hz; cases hz; rw [It.not_iff]; omega
            · rw [hu2] at hz; cases hz; exact hc21, by omega⟩ ⟨rfl, rfl, rfl, trivial⟩ (fun w hw => hw)
      ·
        simp at hg15
        refine wl_sk rfl rfl rfl rfl ?_
        refine wl_sk rfl rfl rfl rfl ?_
        refine wl_sk rfl rfl rfl rfl ?_
        refine wl_sk rfl rfl rfl rfl ?_
        refine wl_sk rfl rfl rfl rfl ?_
        refine wl_y rfl (y_pick_f rfl rfl) ?_
        refine wl_nil ?_
        refine wq_then ?_
        refine wc_cond_false rfl ?_
        refine wc_skip ?_
        exact wq_cut (2 * p + 1) ⟨by omega, by omega, fun i z u hip hi hz hu => by
          have hzl := (List.getElem?_eq_some_iff.1 hz).1
          obtain rfl : i = 2 * p + 1 := by omega
          rw [hz] at hu; cases hu; rw [It.not_iff]; omega, by omega⟩ ⟨rfl, rfl, rfl, trivial⟩ (fun w hw => hw)
    · intro c hc
      refine all_wc ?_
      refine wc_seq ?_
      refine wc_seq ?_
      refine wc_region ?_
      refine wl_y rfl (y_move rfl) ?_
      refine wl_y rfl (y_move rfl) ?_
      refine wl_y rfl (y_nilCheck rfl) ?_
      refine wl_y rfl (y_fieldAddr F92_2 rfl) ?_
      refine wl_y rfl (y_load NA90 rfl (by first | exact cell_blk [] rfl | exact cell_blk [_] rfl | exact cell_blk [_, _] rfl | exact cellR_blk (by assumption) rfl)) ?_
      refine wl_y rfl (y_lenSl Try.underlying90 rfl) ?_
      refine wl_y rfl (y_geq rfl rfl) ?_
      refine wl_y rfl (y_move rfl) ?_
      refine wl_case 31 rfl (fun hg31 => ?_) (fun hg31 => ?_)
      ·
        simp at hg31
        refine wl_sk rfl rfl rfl rfl ?_
        refine wl_sk rfl rfl rfl rfl ?_
        refine wl_sk rfl rfl rfl rfl ?_
        refine wl_sk rfl rfl rfl rfl ?_
        refine wl_sk rfl rfl rfl rfl ?_
        refine wl_y rfl (y_pick_t rfl rfl) ?_
        refine wl_nil ?_
        refine wq_then ?_
        refine wc_cond_true rfl ?_
        refine wc_ret ?_
        refine wq_then_ret (wq_block_ret (wq_then_ret (wq_block_ret ?_)))
        refine wq_ret0 rfl (fun w hw => ?_)
        exact ⟨G, ⟨hp, hG.done fun i x y hi hip hx _ => by have := (List.getElem?_eq_some_iff.1 hx).1; omega⟩, rfl, hw⟩
      ·
        simp at hg31
        refine wl_yg rfl rfl rfl (y_move rfl) ?_
        refine wl_yg rfl rfl rfl (y_move rfl) ?_
        refine wl_yg rfl rfl rfl (y_move rfl) ?_
        obtain ⟨u, hu⟩ : ∃ u, G[c]? = some u := ⟨_, List.getElem?_eq_getElem (by omega)⟩
        obtain ⟨v, hv⟩ : ∃ u, G[p]? = some u := ⟨_, List.getElem?_eq_getElem (by omega)⟩
        refine wl_c (want_some rfl rfl) rfl (yc_spec (fst := []) (cap := []) _ FN49 (less_j b age n G oc c p u v hu hv) rfl rfl rfl (by (repeat (first | exact pt_nil | apply pt0 | apply pt1 | apply pt2 | apply pt3 | apply pt4 | apply pt5 | apply pt6 | apply pt7 | apply pt8 | apply pt9 | apply pt10 | apply pt11 | apply pt12 | apply pt13 | apply pt14 | apply pt15 | apply pt16 | apply pt17))) (by (repeat (first | exact ro_nil | exact ro_rest (by assumption) | refine ro_cons (by first | exact .inl (by assumption) | exact ro_f0 (fun _ h => h) | exact ro_f0 (fun _ => slc_rsl) | exact ro_f1 (fun _ h => h) | exact ro_f1 (fun _ => slc_rsl) | exact ro_f2 (fun _ h => h) | exact ro_f2 (fun _ => slc_rsl) | exact ro_f3 (fun _ h => h) | exact ro_f3 (fun _ => slc_rsl) | exact ro_f4 (fun _ h => h) | exact ro_f4 (fun _ => slc_rsl) | exact ro_f5 (fun _ h => h) | exact ro_f5 (fun _ => slc_rsl) | exact ro_f6 (fun _ h => h) | exact ro_f6 (fun _ => slc_rsl)) ?_)))) (wl_ex fun x35 hx35 => ?_)
        refine wl_yg rfl rfl rfl (y_not rfl) ?_
        refine wl_y rfl (y_pick_f rfl rfl) ?_
        refine wl_nil ?_
        refine wq_then ?_
        refine wc_cond rfl (fun hc37 => ?_) (fun hc37 => ?_)
        ·
          simp at hc37
          refine wc_ret ?_
          refine wq_then_ret (wq_block_ret (wq_then_ret (wq_block_ret ?_)))
          refine wq_ret0 rfl (fun w hw => ?_)
          exact ⟨G, ⟨hp, hG.done fun i x y hi hip hx hy => by rw [hv] at hy; cases hy; exact It.not_trans (hc.2.2.1 i x u hip hi hx hu) hc37⟩, rfl, hw⟩
        ·
          simp at hc37
          refine wc_skip ?_
          refine wq_then ?_
          refine wc_seq ?_
          refine wc_region ?_
          refine wl_y rfl (y_move rfl) ?_
          refine wl_y rfl (y_move rfl) ?_
          refine wl_y rfl (y_move rfl) ?_
          refine wl_c (fun _ _ => want_none) rfl (yc_spec (fst := []) (cap := []) _ FN50 (swap_j b age n G oc p c v u hv hu) rfl rfl rfl (by (repeat (first | exact pt_nil | apply pt0 | apply pt1 | apply pt2 | apply pt3 | apply pt4 | apply pt5 | apply pt6 | apply pt7 | apply pt8 | apply pt9 | apply pt10 | apply pt11 | apply pt12 | apply pt13 | apply pt14 | apply pt15 | apply pt16 | apply pt17))) (by (repeat (first | exact ro_nil | exact ro_rest (by assumption) | refine ro_cons (by first | exact .inl (by assumption) | exact ro_f0 (fun _ h => h) | exact ro_f0 (fun _ => slc_rsl) | exact ro_f1 (fun _ h => h) | exact ro_f1 (fun _ => slc_rsl) | exact ro_f2 (fun _ h => h) | exact ro_f2 (fun _ => slc_rsl) | exact ro_f3 (fun _ h => h) | exact ro_f3 (fun _ => slc_rsl) | exact ro_f4 (fun _ h => h) | exact ro_f4 (fun _ => slc_rsl) | exact ro_f5 (fun _ h => h) | exact ro_f5 (fun _ => slc_rsl) | exact ro_f6 (fun _ h => h) | exact ro_f6 (fun _ => slc_rsl)) ?_)))) (wl_ex fun x41 hx41 => ?_)
          refine wl_nil ?_
          refine wq_then ?_
          refine wc_region ?_
          refine wl_y rfl (y_move rfl) ?_
          refine wl_y rfl (y_assign rfl) ?_
          refine wl_nil ?_
          refine wq_block_normal ?_
          exact wq_round (sw G p c v u, c) (by simp only; omega) ⟨hG.step hc.1 hc.2.1 hv hu hc37 (fun i z hi hip hz => hc.2.2.1 i z u hip hi hz hu), (sw_perm hv hu).trans hp, .inr (by omega)⟩ ⟨rfl, rfl, trivial⟩ (fun w hw => hw)

end Go.Proofs.Ytfnpjmlpiedgdaa
