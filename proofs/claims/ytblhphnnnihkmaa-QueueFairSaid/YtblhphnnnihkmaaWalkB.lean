/-
  Walks: what is first sinks.
-/
import Derived.Test.YtblhphnnnihkmaaWalkA

namespace Go.Proofs.Ytblhphnnnihkmaa
open Go.Eng

set_option maxHeartbeats 1000000 in
theorem sink_i (b : Nat) (age n : Int) (H : List (It Int)) (oc : Option Addr × Nat) (hd : Down H 0) (hl : H.length ≤ 1000000) :
    Ctr Try.prog 23 #[ptr b] [] (rawAs 50 58 vI b age n H oc) (fun H' : List (It Int) => H'.Perm H ∧ Heap H') (fun _ => .tuple #[]) (fun H' => rawAs 50 58 vI b age n H' oc) := by
  refine spec_start (n := 43) [(0, ptr b)] Try.func23 rfl rfl ⟨rfl, trivial⟩ rfl ?_
  intro w0 K hR
  refine wc_seq ?_
  refine wc_region ?_
  refine wl_y rfl (y_assign rfl) ?_
  refine wl_nil ?_
  refine wq_then ?_
  refine wc_block ?_
  refine wc_loop (α := List (It Int) × Nat) (fun y => Down y.1 y.2 ∧ y.1.Perm H ∧ (y.2 = 0 ∨ y.2 < H.length)) [(0, _)] (fun y => [(2, vI y.2)]) (fun y => Hp w0 K (rawAs 50 58 vI b age n y.1 oc)) (fun y => H.length - y.2) (H, 0) ?_ ⟨rfl, rfl, trivial⟩ ?_ ?_
  · exact ⟨hd, List.Perm.refl _, .inl rfl⟩
  · exact fun w hw => hw
  · rintro ⟨G, p⟩ ⟨hG, hp, hpl⟩; simp only at hG hp hpl
    have hgl := hp.length_eq
    refine wc_world (S' := Hp w0 K (rawAs 50 58 vI b age n G oc)) (fun w hw => hw) ?_
    refine wc_block ?_
    refine wc_seq ?_
    refine wc_region ?_
    refine wl_y rfl (y_move rfl) ?_
    refine wl_y rfl (y_mul rfl rfl (by omega)) ?_
    refine wl_y rfl (y_add rfl rfl (by omega)) ?_
    refine wl_y rfl (y_assign rfl) ?_
    refine wl_same 3 (vI (2 * p + 1 : Nat)) rfl (by rw [show ((2 * p + 1 : Nat) : Int) = 2 * (p : Int) + 1 by omega]) ?_
    refine wl_nil ?_
    refine wq_then ?_
    refine wc_seq (wc_cut (α := Nat) (fun c => (c - 1) / 2 = p ∧ 0 < c ∧ (∀ i z u, (i - 1) / 2 = p → 0 < i → G[i]? = some z → G[c]? = some u → z.lt u = false) ∧ (c < G.length ∨ c = 2 * p + 1)) [(0, _), (2, _)] (fun c => [(3, vI c)]) (fun c => Hp w0 K (rawAs 50 58 vI b age n G oc)) ⟨rfl, rfl, trivial⟩ ?_ ?_)
    ·
      refine wc_seq ?_
      refine wc_region ?_
      refine wl_y rfl (y_move rfl) ?_
      refine wl_y rfl (y_add rfl rfl (by omega)) ?_
      refine wl_same 8 (vI (2 * p + 2 : Nat)) rfl (by rw [show ((2 * p + 2 : Nat) : Int) = ((2 * p + 1 : Nat) : Int) + 1 by omega]) ?_
      refine wl_y rfl (y_move rfl) ?_
      refine wl_y rfl (y_nilCheck rfl) ?_
      refine wl_y rfl (y_fieldAddr F50_2 rfl) ?_
      refine wl_y rfl (y_load NA48 rfl (by first | exact cell_blk [] rfl | exact cell_blk [_] rfl | exact cell_blk [_, _] rfl)) ?_
      refine wl_y rfl (y_lenSl Try.underlying48 rfl) ?_
      refine wl_y rfl (y_lss rfl rfl) ?_
      refine wl_y rfl (y_move rfl) ?_
      refine wl_case 15 rfl (fun hg15 => ?_) (fun hg15 => ?_)
      ·
        simp at hg15
        refine wl_yg rfl rfl rfl (y_move rfl) ?_
        refine wl_yg rfl rfl rfl (y_move rfl) ?_
        refine wl_yg rfl rfl rfl (y_add rfl rfl (by omega)) ?_
        refine wl_same 18 (vI (2 * p + 2 : Nat)) rfl (by rw [show ((2 * p + 2 : Nat) : Int) = ((2 * p + 1 : Nat) : Int) + 1 by omega]) ?_
        refine wl_yg rfl rfl rfl (y_move rfl) ?_
        obtain ⟨u2, hu2⟩ : ∃ u, G[2 * p + 2]? = some u := ⟨_, List.getElem?_eq_getElem (by omega)⟩
        obtain ⟨u1, hu1⟩ : ∃ u, G[2 * p + 1]? = some u := ⟨_, List.getElem?_eq_getElem (by omega)⟩
        refine wl_c (want_some rfl rfl) rfl (yc_spec (fst := []) (cap := []) _ FN21 (less_i b age n G oc (2 * p + 2) (2 * p + 1) u2 u1 hu2 hu1) rfl rfl rfl (by simp) (by (repeat (first | exact pt_nil | apply pt0 | apply pt1 | apply pt2 | apply pt3 | apply pt4 | apply pt5 | apply pt6 | apply pt7 | apply pt8 | apply pt9 | apply pt10 | apply pt11 | apply pt12 | apply pt13 | apply pt14 | apply pt15 | apply pt16 | apply pt17)))) (wl_ex fun x20 hx20 => ?_)
        refine wl_y rfl (y_pick_t rfl rfl) ?_
        refine wl_nil ?_
        refine wq_then ?_
        refine wc_cond rfl (fun hc21 => ?_) (fun hc21 => ?_)
        ·
          refine wc_region ?_
          refine wl_y rfl (y_move rfl) ?_
          refine wl_y rfl (y_add rfl rfl (by omega)) ?_
          refine wl_y rfl (y_assign rfl) ?_
          refine wl_same 3 (vI (2 * p + 2 : Nat)) rfl (by rw [show ((2 * p + 2 : Nat) : Int) = ((2 * p + 1 : Nat) : Int) + 1 by omega]) ?_
          refine wl_nil ?_
          exact wq_cut (2 * p + 2) ⟨by omega, by omega, fun i z u hip hi hz hu => by
            rw [hu2] at hu; cases hu
            obtain rfl | rfl : i = 2 * p + 1 ∨ i = 2 * p + 2 := by omega
            · rw [hu1] at hz; cases hz; exact It.not_of_lt hc21
            · rw [hu2] at hz; cases hz; rw [It.not_iff]; omega, by omega⟩ ⟨rfl, rfl, rfl, trivial⟩ (fun w hw => hw)
        ·
          refine wc_skip ?_
          exact wq_cut (2 * p + 1) ⟨by omega, by omega, fun i z u hip hi hz hu => by
            rw [hu1] at hu; cases hu
            obtain rfl | rfl : i = 2 * p + 1 ∨ i = 2 * p + 2 := by omega
            · rw [hu1] at hz; cases hz; rw [It.not_iff]; omega
            · rw [hu2] at hz; cases hz; exact hc21, by omega⟩ ⟨rfl, rfl, rfl, trivial⟩ (fun w hw => hw)
      ·
        simp at hg15
        refine wl_sk rfl rfl rfl rfl ?_
        refine wl_sk rfl rfl rfl rfl ?_
        refine wl_sk rfl rfl rfl rfl ?_
        refine wl_sk rfl rfl rfl rfl ?_
        refine wl_sk rfl rfl rfl rfl ?_
        refine wl_y rfl (y_pick_f rfl rfl) ?_
        refine wl_nil ?_
        refine wq_then ?_
        refine wc_cond_false rfl ?_
        refine wc_skip ?_
        exact wq_cut (2 * p + 1) ⟨by omega, by omega, fun i z u hip hi hz hu => by
          have hzl := (List.getElem?_eq_some_iff.1 hz).1
          obtain rfl : i = 2 * p + 1 := by omega
          rw [hz] at hu; cases hu; rw [It.not_iff]; omega, by omega⟩ ⟨rfl, rfl, rfl, trivial⟩ (fun w hw => hw)
    · intro c hc
      refine all_wc ?_
      refine wc_seq ?_
      refine wc_seq ?_
      refine wc_region ?_
      refine wl_y rfl (y_move rfl) ?_
      refine wl_y rfl (y_move rfl) ?_
      refine wl_y rfl (y_nilCheck rfl) ?_
      refine wl_y rfl (y_fieldAddr F50_2 rfl) ?_
      refine wl_y rfl (y_load NA48 rfl (by first | exact cell_blk [] rfl | exact cell_blk [_] rfl | exact cell_blk [_, _] rfl)) ?_
      refine wl_y rfl (y_lenSl Try.underlying48 rfl) ?_
      refine wl_y rfl (y_geq rfl rfl) ?_
      refine wl_y rfl (y_move rfl) ?_
      refine wl_case 31 rfl (fun hg31 => ?_) (fun hg31 => ?_)
      ·
        simp at hg31
        refine wl_sk rfl rfl rfl rfl ?_
        refine wl_sk rfl rfl rfl rfl ?_
        refine wl_sk rfl rfl rfl rfl ?_
        refine wl_sk rfl rfl rfl rfl ?_
        refine wl_sk rfl rfl rfl rfl ?_
        refine wl_y rfl (y_pick_t rfl rfl) ?_
        refine wl_nil ?_
        refine wq_then ?_
        refine wc_cond_true rfl ?_
        refine wc_ret ?_
        refine wq_then_ret (wq_block_ret (wq_then_ret (wq_block_ret ?_)))
        refine wq_ret0 rfl (fun w hw => ?_)
        exact ⟨G, ⟨hp, hG.done fun i x y hi hip hx _ => by have := (List.getElem?_eq_some_iff.1 hx).1; omega⟩, rfl, hw⟩
      ·
        simp at hg31
        refine wl_yg rfl rfl rfl (y_move rfl) ?_
        refine wl_yg rfl rfl rfl (y_move rfl) ?_
        refine wl_yg rfl rfl rfl (y_move rfl) ?_
        obtain ⟨u, hu⟩ : ∃ u, G[c]? = some u := ⟨_, List.getElem?_eq_getElem (by omega)⟩
        obtain ⟨v, hv⟩ : ∃ u, G[p]? = some u := ⟨_, List.getElem?_eq_getElem (by omega)⟩
        refine wl_c (want_some rfl rfl) rfl (yc_spec (fst := []) (cap := []) _ FN21 (less_i b age n G oc c p u v hu hv) rfl rfl rfl (by simp) (by (repeat (first | exact pt_nil | apply pt0 | apply pt1 | apply pt2 | apply pt3 | apply pt4 | apply pt5 | apply pt6 | apply pt7 | apply pt8 | apply pt9 | apply pt10 | apply pt11 | apply pt12 | apply pt13 | apply pt14 | apply pt15 | apply pt16 | apply pt17)))) (wl_ex fun x35 hx35 => ?_)
        refine wl_yg rfl rfl rfl (y_not rfl) ?_
        refine wl_y rfl (y_pick_f rfl rfl) ?_
        refine wl_nil ?_
        refine wq_then ?_
        refine wc_cond rfl (fun hc37 => ?_) (fun hc37 => ?_)
        ·
          simp at hc37
          refine wc_ret ?_
          refine wq_then_ret (wq_block_ret (wq_then_ret (wq_block_ret ?_)))
          refine wq_ret0 rfl (fun w hw => ?_)
          exact ⟨G, ⟨hp, hG.done fun i x y hi hip hx hy => by rw [hv] at hy; cases hy; exact It.not_trans (hc.2.2.1 i x u hip hi hx hu) hc37⟩, rfl, hw⟩
        ·
          simp at hc37
          refine wc_skip ?_
          refine wq_then ?_
          refine wc_seq ?_
          refine wc_region ?_
          refine wl_y rfl (y_move rfl) ?_
          refine wl_y rfl (y_move rfl) ?_
          refine wl_y rfl (y_move rfl) ?_
          refine wl_c (fun _ _ => want_none) rfl (yc_spec (fst := []) (cap := []) _ FN22 (swap_i b age n G oc p c v u hv hu) rfl rfl rfl (by simp) (by (repeat (first | exact pt_nil | apply pt0 | apply pt1 | apply pt2 | apply pt3 | apply pt4 | apply pt5 | apply pt6 | apply pt7 | apply pt8 | apply pt9 | apply pt10 | apply pt11 | apply pt12 | apply pt13 | apply pt14 | apply pt15 | apply pt16 | apply pt17)))) (wl_ex fun x41 hx41 => ?_)
          refine wl_nil ?_
          refine wq_then ?_
          refine wc_region ?_
          refine wl_y rfl (y_move rfl) ?_
          refine wl_y rfl (y_assign rfl) ?_
          refine wl_nil ?_
          refine wq_block_normal ?_
          exact wq_round (sw G p c v u, c) (by simp only; omega) ⟨hG.step hc.1 hc.2.1 hv hu hc37 (fun i z hi hip hz => hc.2.2.1 i z u hip hi hz hu), (sw_perm hv hu).trans hp, .inr (by omega)⟩ ⟨rfl, rfl, trivial⟩ (fun w hw => hw)

set_option maxHeartbeats 1000000 in
theorem sink_s (b : Nat) (age n : Int) (H : List (It Str)) (oc : Option Addr × Nat) (hd : Down H 0) (hl : H.length ≤ 1000000) :
    Ctr Try.prog 28 #[ptr b] [] (rawAs 64 66 vS b age n H oc) (fun H' : List (It Str) => H'.Perm H ∧ Heap H') (fun _ => .tuple #[]) (fun H' => rawAs 64 66 vS b age n H' oc) := by
  refine spec_start (n := 43) [(0, ptr b)] Try.func28 rfl rfl ⟨rfl, trivial⟩ rfl ?_
  intro w0 K hR
  refine wc_seq ?_
  refine wc_region ?_
  refine wl_y rfl (y_assign rfl) ?_
  refine wl_nil ?_
  refine wq_then ?_
  refine wc_block ?_
  refine wc_loop (α := List (It Str) × Nat) (fun y => Down y.1 y.2 ∧ y.1.Perm H ∧ (y.2 = 0 ∨ y.2 < H.length)) [(0, _)] (fun y => [(2, vI y.2)]) (fun y => Hp w0 K (rawAs 64 66 vS b age n y.1 oc)) (fun y => H.length - y.2) (H, 0) ?_ ⟨rfl, rfl, trivial⟩ ?_ ?_
  · exact ⟨hd, List.Perm.refl _, .inl rfl⟩
  · exact fun w hw => hw
  · rintro ⟨G, p⟩ ⟨hG, hp, hpl⟩; simp only at hG hp hpl
    have hgl := hp.length_eq
    refine wc_world (S' := Hp w0 K (rawAs 64 66 vS b age n G oc)) (fun w hw => hw) ?_
    refine wc_block ?_
    refine wc_seq ?_
    refine wc_region ?_
    refine wl_y rfl (y_move rfl) ?_
    refine wl_y rfl (y_mul rfl rfl (by omega)) ?_
    refine wl_y rfl (y_add rfl rfl (by omega)) ?_
    refine wl_y rfl (y_assign rfl) ?_
    refine wl_same 3 (vI (2 * p + 1 : Nat)) rfl (by rw [show ((2 * p + 1 : Nat) : Int) = 2 * (p : Int) + 1 by omega]) ?_
    refine wl_nil ?_
    refine wq_then ?_
    refine wc_seq (wc_cut (α := Nat) (fun c => (c - 1) / 2 = p ∧ 0 < c ∧ (∀ i z u, (i - 1) / 2 = p → 0 < i → G[i]? = some z → G[c]? = some u → z.lt u = false) ∧ (c < G.length ∨ c = 2 * p + 1)) [(0, _), (2, _)] (fun c => [(3, vI c)]) (fun c => Hp w0 K (rawAs 64 66 vS b age n G oc)) ⟨rfl, rfl, trivial⟩ ?_ ?_)
    ·
      refine wc_seq ?_
      refine wc_region ?_
      refine wl_y rfl (y_move rfl) ?_
      refine wl_y rfl (y_add rfl rfl (by omega)) ?_
      refine wl_same 8 (vI (2 * p + 2 : Nat)) rfl (by rw [show ((2 * p + 2 : Nat) : Int) = ((2 * p + 1 : Nat) : Int) + 1 by omega]) ?_
      refine wl_y rfl (y_move rfl) ?_
      refine wl_y rfl (y_nilCheck rfl) ?_
      refine wl_y rfl (y_fieldAddr F64_2 rfl) ?_
      refine wl_y rfl (y_load NA62 rfl (by first | exact cell_blk [] rfl | exact cell_blk [_] rfl | exact cell_blk [_, _] rfl)) ?_
      refine wl_y rfl (y_lenSl Try.underlying62 rfl) ?_
      refine wl_y rfl (y_lss rfl rfl) ?_
      refine wl_y rfl (y_move rfl) ?_
      refine wl_case 15 rfl (fun hg15 => ?_) (fun hg15 => ?_)
      ·
        simp at hg15
        refine wl_yg rfl rfl rfl (y_move rfl) ?_
        refine wl_yg rfl rfl rfl (y_move rfl) ?_
        refine wl_yg rfl rfl rfl (y_add rfl rfl (by omega)) ?_
        refine wl_same 18 (vI (2 * p + 2 : Nat)) rfl (by rw [show ((2 * p + 2 : Nat) : Int) = ((2 * p + 1 : Nat) : Int) + 1 by omega]) ?_
        refine wl_yg rfl rfl rfl (y_move rfl) ?_
        obtain ⟨u2, hu2⟩ : ∃ u, G[2 * p + 2]? = some u := ⟨_, List.getElem?_eq_getElem (by omega)⟩
        obtain ⟨u1, hu1⟩ : ∃ u, G[2 * p + 1]? = some u := ⟨_, List.getElem?_eq_getElem (by omega)⟩
        refine wl_c (want_some rfl rfl) rfl (yc_spec (fst := []) (cap := []) _ FN25 (less_s b age n G oc (2 * p + 2) (2 * p + 1) u2 u1 hu2 hu1) rfl rfl rfl (by simp) (by (repeat (first | exact pt_nil | apply pt0 | apply pt1 | apply pt2 | apply pt3 | apply pt4 | apply pt5 | apply pt6 | apply pt7 | apply pt8 | apply pt9 | apply pt10 | apply pt11 | apply pt12 | apply pt13 | apply pt14 | apply pt15 | apply pt16 | apply pt17)))) (wl_ex fun x20 hx20 => ?_)
        refine wl_y rfl (y_pick_t rfl rfl) ?_
        refine wl_nil ?_
        refine wq_then ?_
        refine wc_cond rfl (fun hc21 => ?_) (fun hc21 => ?_)
        ·
          refine wc_region ?_
          refine wl_y rfl (y_move rfl) ?_
          refine wl_y rfl (y_add rfl rfl (by omega)) ?_
          refine wl_y rfl (y_assign rfl) ?_
          refine wl_same 3 (vI (2 * p + 2 : Nat)) rfl (by rw [show ((2 * p + 2 : Nat) : Int) = ((2 * p + 1 : Nat) : Int) + 1 by omega]) ?_
          refine wl_nil ?_
          exact wq_cut (2 * p + 2) ⟨by omega, by omega, fun i z u hip hi hz hu => by
            rw [hu2] at hu; cases hu
            obtain rfl | rfl : i = 2 * p + 1 ∨ i = 2 * p + 2 := by omega
            · rw [hu1] at hz; cases hz; exact It.not_of_lt hc21
            · rw [hu2] at hz; cases hz; rw [It.not_iff]; omega, by omega⟩ ⟨rfl, rfl, rfl, trivial⟩ (fun w hw => hw)
        ·
          refine wc_skip ?_
          exact wq_cut (2 * p + 1) ⟨by omega, by omega, fun i z u hip hi hz hu => by
            rw [hu1] at hu; cases hu
            obtain rfl | rfl : i = 2 * p + 1 ∨ i = 2 * p + 2 := by omega
            · rw [hu1] at hz; cases hz; rw [It.not_iff]; omega
            · rw [hu2] at hz; cases hz; exact hc21, by omega⟩ ⟨rfl, rfl, rfl, trivial⟩ (fun w hw => hw)
      ·
        simp at hg15
        refine wl_sk rfl rfl rfl rfl ?_
        refine wl_sk rfl rfl rfl rfl ?_
        refine wl_sk rfl rfl rfl rfl ?_
        refine wl_sk rfl rfl rfl rfl ?_
        refine wl_sk rfl rfl rfl rfl ?_
        refine wl_y rfl (y_pick_f rfl rfl) ?_
        refine wl_nil ?_
        refine wq_then ?_
        refine wc_cond_false rfl ?_
        refine wc_skip ?_
        exact wq_cut (2 * p + 1) ⟨by omega, by omega, fun i z u hip hi hz hu => by
          have hzl := (List.getElem?_eq_some_iff.1 hz).1
          obtain rfl : i = 2 * p + 1 := by omega
          rw [hz] at hu; cases hu; rw [It.not_iff]; omega, by omega⟩ ⟨rfl, rfl, rfl, trivial⟩ (fun w hw => hw)
    · intro c hc
      refine all_wc ?_
      refine wc_seq ?_
      refine wc_seq ?_
      refine wc_region ?_
      refine wl_y rfl (y_move rfl) ?_
      refine wl_y rfl (y_move rfl) ?_
      refine wl_y rfl (y_nilCheck rfl) ?_
      refine wl_y rfl (y_fieldAddr F64_2 rfl) ?_
      refine wl_y rfl (y_load NA62 rfl (by first | exact cell_blk [] rfl | exact cell_blk [_] rfl | exact cell_blk [_, _] rfl)) ?_
      refine wl_y rfl (y_lenSl Try.underlying62 rfl) ?_
      refine wl_y rfl (y_geq rfl rfl) ?_
      refine wl_y rfl (y_move rfl) ?_
      refine wl_case 31 rfl (fun hg31 => ?_) (fun hg31 => ?_)
      ·
        simp at hg31
        refine wl_sk rfl rfl rfl rfl ?_
        refine wl_sk rfl rfl rfl rfl ?_
        refine wl_sk rfl rfl rfl rfl ?_
        refine wl_sk rfl rfl rfl rfl ?_
        refine wl_sk rfl rfl rfl rfl ?_
        refine wl_y rfl (y_pick_t rfl rfl) ?_
        refine wl_nil ?_
        refine wq_then ?_
        refine wc_cond_true rfl ?_
        refine wc_ret ?_
        refine wq_then_ret (wq_block_ret (wq_then_ret (wq_block_ret ?_)))
        refine wq_ret0 rfl (fun w hw => ?_)
        exact ⟨G, ⟨hp, hG.done fun i x y hi hip hx _ => by have := (List.getElem?_eq_some_iff.1 hx).1; omega⟩, rfl, hw⟩
      ·
        simp at hg31
        refine wl_yg rfl rfl rfl (y_move rfl) ?_
        refine wl_yg rfl rfl rfl (y_move rfl) ?_
        refine wl_yg rfl rfl rfl (y_move rfl) ?_
        obtain ⟨u, hu⟩ : ∃ u, G[c]? = some u := ⟨_, List.getElem?_eq_getElem (by omega)⟩
        obtain ⟨v, hv⟩ : ∃ u, G[p]? = some u := ⟨_, List.getElem?_eq_getElem (by omega)⟩
        refine wl_c (want_some rfl rfl) rfl (yc_spec (fst := []) (cap := []) _ FN25 (less_s b age n G oc c p u v hu hv) rfl rfl rfl (by simp) (by (repeat (first | exact pt_nil | apply pt0 | apply pt1 | apply pt2 | apply pt3 | apply pt4 | apply pt5 | apply pt6 | apply pt7 | apply pt8 | apply pt9 | apply pt10 | apply pt11 | apply pt12 | apply pt13 | apply pt14 | apply pt15 | apply pt16 | apply pt17)))) (wl_ex fun x35 hx35 => ?_)
        refine wl_yg rfl rfl rfl (y_not rfl) ?_
        refine wl_y rfl (y_pick_f rfl rfl) ?_
        refine wl_nil ?_
        refine wq_then ?_
        refine wc_cond rfl (fun hc37 => ?_) (fun hc37 => ?_)
        ·
          simp at hc37
          refine wc_ret ?_
          refine wq_then_ret (wq_block_ret (wq_then_ret (wq_block_ret ?_)))
          refine wq_ret0 rfl (fun w hw => ?_)
          exact ⟨G, ⟨hp, hG.done fun i x y hi hip hx hy => by rw [hv] at hy; cases hy; exact It.not_trans (hc.2.2.1 i x u hip hi hx hu) hc37⟩, rfl, hw⟩
        ·
          simp at hc37
          refine wc_skip ?_
          refine wq_then ?_
          refine wc_seq ?_
          refine wc_region ?_
          refine wl_y rfl (y_move rfl) ?_
          refine wl_y rfl (y_move rfl) ?_
          refine wl_y rfl (y_move rfl) ?_
          refine wl_c (fun _ _ => want_none) rfl (yc_spec (fst := []) (cap := []) _ FN26 (swap_s b age n G oc p c v u hv hu) rfl rfl rfl (by simp) (by (repeat (first | exact pt_nil | apply pt0 | apply pt1 | apply pt2 | apply pt3 | apply pt4 | apply pt5 | apply pt6 | apply pt7 | apply pt8 | apply pt9 | apply pt10 | apply pt11 | apply pt12 | apply pt13 | apply pt14 | apply pt15 | apply pt16 | apply pt17)))) (wl_ex fun x41 hx41 => ?_)
          refine wl_nil ?_
          refine wq_then ?_
          refine wc_region ?_
          refine wl_y rfl (y_move rfl) ?_
          refine wl_y rfl (y_assign rfl) ?_
          refine wl_nil ?_
          refine wq_block_normal ?_
          exact wq_round (sw G p c v u, c) (by simp only; omega) ⟨hG.step hc.1 hc.2.1 hv hu hc37 (fun i z hi hip hz => hc.2.2.1 i z u hip hi hz hu), (sw_perm hv hu).trans hp, .inr (by omega)⟩ ⟨rfl, rfl, trivial⟩ (fun w hw => hw)

end Go.Proofs.Ytblhphnnnihkmaa
