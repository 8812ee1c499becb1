/-
  Walks: pushed.
-/
import Derived.Test.YtblhphnnnihkmaaWalkD

namespace Go.Proofs.Ytblhphnnnihkmaa
open Go.Eng

set_option maxHeartbeats 1000000 in
theorem push_nil_i (v : Int) (rank tm : Int) :
    Ctr Try.prog 11 #[.pointer none, vI v, vI rank, vI tm] [] [] (fun _ : Unit => True) (fun _ => vI 2) (fun _ => []) := by
  refine spec_start (n := 85) [(0, .pointer none), (1, vI v), (2, vI rank), (3, vI tm)] Try.func11 rfl rfl ⟨rfl, rfl, rfl, rfl, trivial⟩ rfl ?_
  intro w0 K hR
  refine wc_seq ?_
  refine wc_region ?_
  refine wl_y rfl (y_assign rfl) ?_
  refine wl_nil ?_
  refine wq_then ?_
  refine wc_seq ?_
  refine wc_block ?_
  refine wc_seq ?_
  refine wc_region ?_
  refine wl_y rfl (y_move rfl) ?_
  refine wl_y rfl (y_eqlP Try.underlying23 rfl rfl) ?_
  refine wl_y rfl (y_assign rfl) ?_
  refine wl_nil ?_
  refine wq_then ?_
  refine wc_known 10 true rfl (rfl) ?_
  refine wc_cond_true rfl ?_
  refine wc_seq ?_
  refine wc_region ?_
  refine wl_y rfl (y_assign rfl) ?_
  refine wl_nil ?_
  refine wq_then ?_
  refine wc_ret ?_
  refine wq_block_ret (wq_then_ret ?_)
  refine wq_ret1 rfl rfl (fun w hw => ?_)
  exact ⟨(), trivial, rfl, hw⟩

set_option maxHeartbeats 1000000 in
theorem push_bad_i (b : Nat) (age n : Int) (H : List (It Int)) (oc : Option Addr × Nat) (v : Int) (rank tm : Int) (hb : rank < 0 ∨ 9 < rank ∨ tm < 0 ∨ 1000000000 < tm) :
    Ctr Try.prog 11 #[ptr b, vI v, vI rank, vI tm] [] (rawAs 50 58 vI b age n H oc) (fun _ : Unit => True) (fun _ => vI 1) (fun _ => rawAs 50 58 vI b age n H oc) := by
  refine spec_start (n := 85) [(0, ptr b), (1, vI v), (2, vI rank), (3, vI tm)] Try.func11 rfl rfl ⟨rfl, rfl, rfl, rfl, trivial⟩ rfl ?_
  intro w0 K hR
  refine wc_seq ?_
  refine wc_region ?_
  refine wl_y rfl (y_assign rfl) ?_
  refine wl_nil ?_
  refine wq_then ?_
  refine wc_seq ?_
  refine wc_block ?_
  refine wc_seq ?_
  refine wc_region ?_
  refine wl_y rfl (y_move rfl) ?_
  refine wl_y rfl (y_eqlP Try.underlying23 rfl rfl) ?_
  refine wl_y rfl (y_assign rfl) ?_
  refine wl_nil ?_
  refine wq_then ?_
  refine wc_known 10 false rfl (rfl) ?_
  refine wc_cond_false rfl ?_
  refine wc_seq ?_
  refine wc_region ?_
  refine wl_y rfl (y_move rfl) ?_
  refine wl_y rfl (y_lss rfl rfl) ?_
  refine wl_y rfl (y_move rfl) ?_
  refine wl_case 16 rfl (fun hg16 => ?_) (fun hg16 => ?_)
  ·
    simp at hg16
    refine wl_sk rfl rfl rfl rfl ?_
    refine wl_sk rfl rfl rfl rfl ?_
    refine wl_y rfl (y_pick_t rfl rfl) ?_
    refine wl_y rfl (y_move rfl) ?_
    refine wl_sk rfl rfl rfl rfl ?_
    refine wl_sk rfl rfl rfl rfl ?_
    refine wl_y rfl (y_pick_t rfl rfl) ?_
    refine wl_y rfl (y_move rfl) ?_
    refine wl_sk rfl rfl rfl rfl ?_
    refine wl_sk rfl rfl rfl rfl ?_
    refine wl_y rfl (y_pick_t rfl rfl) ?_
    refine wl_y rfl (y_assign rfl) ?_
    refine wl_nil ?_
    refine wq_then ?_
    refine wc_known 13 true rfl (by first | rfl | (simp; omega)) ?_
    refine wc_cond_true rfl ?_
    refine wc_seq ?_
    refine wc_region ?_
    refine wl_y rfl (y_assign rfl) ?_
    refine wl_nil ?_
    refine wq_then ?_
    refine wc_ret ?_
    refine wq_block_ret (wq_then_ret ?_)
    refine wq_ret1 rfl rfl (fun w hw => ?_)
    exact ⟨(), trivial, rfl, hw⟩
  ·
    simp at hg16
    refine wl_yg rfl rfl rfl (y_move rfl) ?_
    refine wl_yg rfl rfl rfl (y_geq rfl rfl) ?_
    refine wl_y rfl (y_pick_f rfl rfl) ?_
    refine wl_y rfl (y_move rfl) ?_
    refine wl_case 20 rfl (fun hg20 => ?_) (fun hg20 => ?_)
    ·
      simp at hg20
      refine wl_sk rfl rfl rfl rfl ?_
      refine wl_sk rfl rfl rfl rfl ?_
      refine wl_y rfl (y_pick_t rfl rfl) ?_
      refine wl_y rfl (y_move rfl) ?_
      refine wl_sk rfl rfl rfl rfl ?_
      refine wl_sk rfl rfl rfl rfl ?_
      refine wl_y rfl (y_pick_t rfl rfl) ?_
      refine wl_y rfl (y_assign rfl) ?_
      refine wl_nil ?_
      refine wq_then ?_
      refine wc_known 13 true rfl (by first | rfl | (simp; omega)) ?_
      refine wc_cond_true rfl ?_
      refine wc_seq ?_
      refine wc_region ?_
      refine wl_y rfl (y_assign rfl) ?_
      refine wl_nil ?_
      refine wq_then ?_
      refine wc_ret ?_
      refine wq_block_ret (wq_then_ret ?_)
      refine wq_ret1 rfl rfl (fun w hw => ?_)
      exact ⟨(), trivial, rfl, hw⟩
    ·
      simp at hg20
      refine wl_yg rfl rfl rfl (y_move rfl) ?_
      refine wl_yg rfl rfl rfl (y_lss rfl rfl) ?_
      refine wl_y rfl (y_pick_f rfl rfl) ?_
      refine wl_y rfl (y_move rfl) ?_
      refine wl_case 24 rfl (fun hg24 => ?_) (fun hg24 => ?_)
      ·
        simp at hg24
        refine wl_sk rfl rfl rfl rfl ?_
        refine wl_sk rfl rfl rfl rfl ?_
        refine wl_y rfl (y_pick_t rfl rfl) ?_
        refine wl_y rfl (y_assign rfl) ?_
        refine wl_nil ?_
        refine wq_then ?_
        refine wc_known 13 true rfl (by first | rfl | (simp; omega)) ?_
        refine wc_cond_true rfl ?_
        refine wc_seq ?_
        refine wc_region ?_
        refine wl_y rfl (y_assign rfl) ?_
        refine wl_nil ?_
        refine wq_then ?_
        refine wc_ret ?_
        refine wq_block_ret (wq_then_ret ?_)
        refine wq_ret1 rfl rfl (fun w hw => ?_)
        exact ⟨(), trivial, rfl, hw⟩
      ·
        simp at hg24
        refine wl_yg rfl rfl rfl (y_move rfl) ?_
        refine wl_yg rfl rfl rfl (y_gtr rfl rfl) ?_
        refine wl_y rfl (y_pick_f rfl rfl) ?_
        refine wl_y rfl (y_assign rfl) ?_
        refine wl_nil ?_
        refine wq_then ?_
        refine wc_known 13 true rfl (by first | rfl | (simp; omega)) ?_
        refine wc_cond_true rfl ?_
        refine wc_seq ?_
        refine wc_region ?_
        refine wl_y rfl (y_assign rfl) ?_
        refine wl_nil ?_
        refine wq_then ?_
        refine wc_ret ?_
        refine wq_block_ret (wq_then_ret ?_)
        refine wq_ret1 rfl rfl (fun w hw => ?_)
        exact ⟨(), trivial, rfl, hw⟩

set_option maxHeartbeats 1000000 in
theorem push_raw_i (b : Nat) (age n : Int) (H : List (It Int)) (oc : Option Addr × Nat) (v : Int) (rank tm : Int) (ha : 0 ≤ age ∧ age ≤ 1000000) (hn : 0 ≤ n ∧ n ≤ 1000000) (hr : 0 ≤ rank ∧ rank ≤ 9) (ht : 0 ≤ tm ∧ tm ≤ 1000000000) (hl : H.length ≤ 1000000) (hh : Heap H) :
    Ctr Try.prog 11 #[ptr b, vI v, vI rank, vI tm] [] (rawAs 50 58 vI b age n H oc) (fun x : List (It Int) × Option Addr × Nat => x.1.Perm (H ++ [(⟨v, rank, tm, tm + age * rank, n + 1⟩ : It Int)]) ∧ Heap x.1) (fun _ => vI 0) (fun x => rawAs 50 58 vI b age (n + 1) x.1 x.2) := by
  refine spec_start (n := 85) [(0, ptr b), (1, vI v), (2, vI rank), (3, vI tm)] Try.func11 rfl rfl ⟨rfl, rfl, rfl, rfl, trivial⟩ rfl ?_
  intro w0 K hR
  have hm1 : 0 ≤ age * rank := Int.mul_nonneg ha.1 hr.1
  have hm2 : age * rank ≤ 1000000 * 9 := Int.mul_le_mul ha.2 hr.2 hr.1 (by omega)
  refine wc_seq ?_
  refine wc_region ?_
  refine wl_y rfl (y_assign rfl) ?_
  refine wl_nil ?_
  refine wq_then ?_
  refine wc_seq ?_
  refine wc_block ?_
  refine wc_seq ?_
  refine wc_region ?_
  refine wl_y rfl (y_move rfl) ?_
  refine wl_y rfl (y_eqlP Try.underlying23 rfl rfl) ?_
  refine wl_y rfl (y_assign rfl) ?_
  refine wl_nil ?_
  refine wq_then ?_
  refine wc_known 10 false rfl (rfl) ?_
  refine wc_cond_false rfl ?_
  refine wc_seq ?_
  refine wc_region ?_
  refine wl_y rfl (y_move rfl) ?_
  refine wl_y rfl (y_lss rfl rfl) ?_
  refine wl_y rfl (y_move rfl) ?_
  refine wl_known 16 false rfl (by simp; omega) ?_
  refine wl_yg rfl rfl rfl (y_move rfl) ?_
  refine wl_yg rfl rfl rfl (y_geq rfl rfl) ?_
  refine wl_y rfl (y_pick_f rfl rfl) ?_
  refine wl_y rfl (y_move rfl) ?_
  refine wl_known 20 false rfl (by simp; omega) ?_
  refine wl_yg rfl rfl rfl (y_move rfl) ?_
  refine wl_yg rfl rfl rfl (y_lss rfl rfl) ?_
  refine wl_y rfl (y_pick_f rfl rfl) ?_
  refine wl_y rfl (y_move rfl) ?_
  refine wl_known 24 false rfl (by simp; omega) ?_
  refine wl_yg rfl rfl rfl (y_move rfl) ?_
  refine wl_yg rfl rfl rfl (y_gtr rfl rfl) ?_
  refine wl_y rfl (y_pick_f rfl rfl) ?_
  refine wl_y rfl (y_assign rfl) ?_
  refine wl_nil ?_
  refine wq_then ?_
  refine wc_known 13 false rfl (by simp; omega) ?_
  refine wc_cond_false rfl ?_
  refine wc_skip ?_
  refine wq_block_normal ?_
  refine wq_then ?_
  refine wc_seq ?_
  refine wc_region ?_
  refine wl_y rfl (y_move rfl) ?_
  refine wl_y rfl (y_nilCheck rfl) ?_
  refine wl_y rfl (y_fieldAddr F50_1 rfl) ?_
  refine wl_y rfl (y_load NA3 rfl (by first | exact cell_blk [] rfl | exact cell_blk [_] rfl | exact cell_blk [_, _] rfl)) ?_
  refine wl_y rfl (y_add rfl rfl (by omega)) ?_
  refine wl_y rfl (y_nilCheck rfl) ?_
  refine wl_y rfl (y_fieldAddr F50_1 rfl) ?_
  first | refine wl_u (yu_store [] (l' := [_, _, _]) T3 rfl rfl rfl rfl rfl rfl rfl) ?_ | refine wl_u (yu_store [_] (l' := [_, _, _]) T3 rfl rfl rfl rfl rfl rfl rfl) ?_ | refine wl_u (yu_store [_, _] (l' := [_, _, _]) T3 rfl rfl rfl rfl rfl rfl rfl) ?_
  refine wl_nil ?_
  refine wq_then ?_
  refine wc_seq ?_
  refine wc_mix (.q 0 0 (.q 1 0 (.q 2 0 (.q 3 0 (.q 4 0 (.q 5 0 (.q 6 0 (.q 7 0 (.q 8 0 (.q 9 0 (.q 10 0 (.q 11 0 (.q 12 1 (.q 13 0 (.q 14 0 (.q 15 0 (.q 16 0 (.q 17 0 (.q 18 0 (.q 19 1 (.q 20 0 (.w 21 2 (.w 22 2 (.q 23 0 (.q 24 0 (.w 25 3 .nil .nil))) .nil) .nil)))))))))))))))))))))) (Seen (blk b (.cells [vI age, vI (n + 1), .slice oc.1 H.length oc.2].toArray 50 (0, 0)))) MO (by kernel_rfl) (Hp.drawless _ _ _) (fun w hw => by first | exact hw.seen [] | exact hw.seen [_] | exact hw.seen [_, _] | exact hw.seen [_, _, _] | exact hw.seen [_, _, _, _]) ?_
  refine wm_g rfl rfl (y_move rfl) ?_
  refine wm_g rfl rfl (y_move rfl) ?_
  refine wm_g rfl rfl (y_nilCheck rfl) ?_
  refine wm_g rfl rfl (y_fieldAddr F50_2 rfl) ?_
  refine wm_g rfl rfl (y_load NA48 rfl (fun w hw => cell_of_heap hw.blk rfl)) ?_
  refine wm_g rfl rfl (y_move rfl) ?_
  refine wm_g rfl rfl (y_move rfl) ?_
  refine wm_g rfl rfl (y_move rfl) ?_
  refine wm_g rfl rfl (y_move rfl) ?_
  refine wm_g rfl rfl (y_move rfl) ?_
  refine wm_g rfl rfl (y_nilCheck rfl) ?_
  refine wm_g rfl rfl (y_fieldAddr F50_0 rfl) ?_
  refine wm_l rfl rfl (y_load NA3 rfl (by first | exact cell_blk [] rfl | exact cell_blk [_] rfl | exact cell_blk [_, _] rfl)) ?_
  refine wm_g rfl rfl (y_move rfl) ?_
  refine wm_g rfl rfl (y_mul rfl rfl (by omega)) ?_
  refine wm_g rfl rfl (y_add rfl rfl (by omega)) ?_
  refine wm_g rfl rfl (y_move rfl) ?_
  refine wm_g rfl rfl (y_nilCheck rfl) ?_
  refine wm_g rfl rfl (y_fieldAddr F50_1 rfl) ?_
  refine wm_l rfl rfl (y_load NA3 rfl (by first | exact cell_blk [] rfl | exact cell_blk [_] rfl | exact cell_blk [_, _] rfl)) ?_
  refine wm_g rfl rfl (y_build (cs := [_, _, _, _, _]) T58 PL58 rfl rfl rfl) ?_
  refine wm_w rfl rfl (fun _ _ h => by obtain ⟨_, _, _, hw⟩ := h; first | exact hw.seen [] | exact hw.seen [_] | exact hw.seen [_, _] | exact hw.seen [_, _, _] | exact hw.seen [_, _, _, _] | exact hw.seen [_, _, _, _, _]) (yw_buildSlice (cs := encIt vI (⟨v, rank, tm, tm + age * rank, n + 1⟩ : It Int)) Try.underlying48 T58 rfl rfl rfl rfl rfl rfl rfl) (wm_ex fun b56 _ => ?_)
  refine wm_w rfl rfl (fun _ _ h => by obtain ⟨_, _, _, hw⟩ := h; first | exact hw.seen [] | exact hw.seen [_] | exact hw.seen [_, _] | exact hw.seen [_, _, _] | exact hw.seen [_, _, _, _] | exact hw.seen [_, _, _, _, _]) (yw_append [_, _] Try.underlying48 Try.underlying48 (.inl ⟨_, rfl⟩) T58 rfl rfl rfl (fun w hw => Src.slice ((hw.seen []).mono fun _ => slc_rsl)) (by omega) (by unfold maxLen; omega) (by simp [Value.oneCell', encIt]) rfl) (wm_ex fun p hp => ?_)
  refine wm_g rfl rfl (y_nilCheck rfl) ?_
  refine wm_g rfl rfl (y_fieldAddr F50_2 rfl) ?_
  first | refine wm_u3 rfl (yu_store [] (l' := [_, _, _]) T48 rfl rfl rfl rfl rfl rfl rfl) ?_ | refine wm_u3 rfl (yu_store [_] (l' := [_, _, _]) T48 rfl rfl rfl rfl rfl rfl rfl) ?_ | refine wm_u3 rfl (yu_store [_, _] (l' := [_, _, _]) T48 rfl rfl rfl rfl rfl rfl rfl) ?_
  refine wm_world (S' := Hp w0 K (rawAs 50 58 vI b age (n + 1) (H ++ [(⟨v, rank, tm, tm + age * rank, n + 1⟩ : It Int)]) p)) (fun w hw => by
    have h3 := hw.drop
    have e : (H ++ [(⟨v, rank, tm, tm + age * rank, n + 1⟩ : It Int)]).length = H.length + 1 := by simp
    rw [rawAs, e, List.flatMap_append, List.flatMap_singleton]; exact h3) ?_
  refine wm_nil ?_
  refine all_wq ?_
  refine wq_then ?_
  refine wc_seq ?_
  refine wc_seq ?_
  refine wc_region ?_
  refine wl_y rfl (y_move rfl) ?_
  refine wl_y rfl (y_nilCheck rfl) ?_
  refine wl_y rfl (y_fieldAddr F50_2 rfl) ?_
  refine wl_y rfl (y_load NA48 rfl (by first | exact cell_blk [] rfl | exact cell_blk [_] rfl | exact cell_blk [_, _] rfl)) ?_
  refine wl_y rfl (y_lenSl Try.underlying48 rfl) ?_
  refine wl_y rfl (y_sub rfl rfl (by simp only [List.length_append, List.length_singleton]; omega)) ?_
  refine wl_y rfl (y_assign rfl) ?_
  refine wl_same 9 (vI (H.length : Nat)) rfl (by rw [show ((H.length : Nat) : Int) = ((H ++ [(⟨v, rank, tm, tm + age * rank, n + 1⟩ : It Int)]).length : Int) - 1 by simp]) ?_
  refine wl_nil ?_
  refine wq_then ?_
  refine wc_block ?_
  refine wc_loop (α := List (It Int) × Nat) (fun y => Up y.1 y.2 ∧ y.1.Perm (H ++ [(⟨v, rank, tm, tm + age * rank, n + 1⟩ : It Int)]) ∧ y.2 < y.1.length) [(0, _)] (fun y => [(9, vI y.2)]) (fun y => Hp w0 K (rawAs 50 58 vI b age (n + 1) y.1 p)) (fun y => y.2) (H ++ [(⟨v, rank, tm, tm + age * rank, n + 1⟩ : It Int)], H.length) ?_ ⟨rfl, rfl, trivial⟩ ?_ ?_
  · exact ⟨Up.start hh, List.Perm.refl _, by simp⟩
  · exact fun w hw => hw
  · rintro ⟨G, c⟩ ⟨hG, hp2, hc⟩; simp only at hG hp2 hc
    have hgl := hp2.length_eq
    rw [List.length_append, List.length_singleton] at hgl
    refine wc_world (S' := Hp w0 K (rawAs 50 58 vI b age (n + 1) G p)) (fun w hw => hw) ?_
    refine wc_seq ?_
    refine wc_seq ?_
    refine wc_region ?_
    refine wl_y rfl (y_move rfl) ?_
    refine wl_y rfl (y_gtr rfl rfl) ?_
    refine wl_y rfl (y_move rfl) ?_
    refine wl_case 68 rfl (fun hg68 => ?_) (fun hg68 => ?_)
    ·
      simp at hg68
      refine wl_yg rfl rfl rfl (y_move rfl) ?_
      refine wl_yg rfl rfl rfl (y_move rfl) ?_
      refine wl_yg rfl rfl rfl (y_move rfl) ?_
      refine wl_yg rfl rfl rfl (y_sub rfl rfl (by omega)) ?_
      refine wl_yg rfl rfl rfl (y_quoN rfl rfl (by omega)) ?_
      refine wl_same 73 (vI ((c - 1) / 2 : Nat)) rfl (by rw [show ((((c - 1) / 2 : Nat)) : Int) = ((c : Int) - 1) / 2 by omega]) ?_
      obtain ⟨u, hu⟩ : ∃ u, G[c]? = some u := ⟨_, List.getElem?_eq_getElem (by omega)⟩
      obtain ⟨z, hz⟩ : ∃ u, G[(c - 1) / 2]? = some u := ⟨_, List.getElem?_eq_getElem (by omega)⟩
      refine wl_c (want_some rfl rfl) rfl (yc_spec (fst := []) (cap := []) _ FN21 (less_i b age (n + 1) G p c ((c - 1) / 2) u z hu hz) rfl rfl rfl (by simp) (by (repeat (first | exact pt_nil | apply pt0 | apply pt1 | apply pt2 | apply pt3 | apply pt4 | apply pt5 | apply pt6 | apply pt7 | apply pt8 | apply pt9 | apply pt10 | apply pt11 | apply pt12 | apply pt13 | apply pt14 | apply pt15 | apply pt16 | apply pt17)))) (wl_ex fun x74 hx74 => ?_)
      refine wl_y rfl (y_pick_t rfl rfl) ?_
      refine wl_nil ?_
      refine wq_then ?_
      refine wc_cond rfl (fun hc75 => ?_) (fun hc75 => ?_)
      ·
        refine wc_skip ?_
        refine wq_then ?_
        refine wc_seq ?_
        refine wc_block ?_
        refine wc_region ?_
        refine wl_y rfl (y_move rfl) ?_
        refine wl_y rfl (y_move rfl) ?_
        refine wl_y rfl (y_move rfl) ?_
        refine wl_y rfl (y_sub rfl rfl (by omega)) ?_
        refine wl_y rfl (y_quoN rfl rfl (by omega)) ?_
        refine wl_same 83 (vI ((c - 1) / 2 : Nat)) rfl (by rw [show ((((c - 1) / 2 : Nat)) : Int) = ((c : Int) - 1) / 2 by omega]) ?_
        refine wl_c (fun _ _ => want_none) rfl (yc_spec (fst := []) (cap := []) _ FN22 (swap_i b age (n + 1) G p c ((c - 1) / 2) u z hu hz) rfl rfl rfl (by simp) (by (repeat (first | exact pt_nil | apply pt0 | apply pt1 | apply pt2 | apply pt3 | apply pt4 | apply pt5 | apply pt6 | apply pt7 | apply pt8 | apply pt9 | apply pt10 | apply pt11 | apply pt12 | apply pt13 | apply pt14 | apply pt15 | apply pt16 | apply pt17)))) (wl_ex fun x84 hx84 => ?_)
        refine wl_nil ?_
        refine wq_block_normal ?_
        refine wq_then ?_
        refine wc_region ?_
        refine wl_y rfl (y_move rfl) ?_
        refine wl_y rfl (y_sub rfl rfl (by omega)) ?_
        refine wl_y rfl (y_quoN rfl rfl (by omega)) ?_
        refine wl_y rfl (y_assign rfl) ?_
        refine wl_same 9 (vI ((c - 1) / 2 : Nat)) rfl (by rw [show ((((c - 1) / 2 : Nat)) : Int) = ((c : Int) - 1) / 2 by omega]) ?_
        refine wl_nil ?_
        exact wq_round (sw G c ((c - 1) / 2) u z, (c - 1) / 2) (by simp only; omega) ⟨hG.step (by omega) hu hz hc75, (sw_perm hu hz).trans hp2, by simp only [sw_length]; omega⟩ ⟨rfl, rfl, trivial⟩ (fun w hw => hw.left (Bs := []))
      ·
        refine wc_exit ?_
        refine wq_then_exit (wq_then_exit (wq_block_exit ?_))
        refine wq_then ?_
        refine wc_seq ?_
        refine wc_region ?_
        refine wl_y rfl (y_assign rfl) ?_
        refine wl_nil ?_
        refine wq_then ?_
        refine wc_ret ?_
        refine wq_ret1 rfl rfl (fun w hw => ?_)
        exact ⟨(G, p), ⟨hp2, hG.done fun x y _ hx hy => by rw [hu] at hx; rw [hz] at hy; cases hx; cases hy; exact hc75⟩, rfl, hw.left (Bs := [])⟩
    ·
      simp at hg68
      refine wl_sk rfl rfl rfl rfl ?_
      refine wl_sk rfl rfl rfl rfl ?_
      refine wl_sk rfl rfl rfl rfl ?_
      refine wl_sk rfl rfl rfl rfl ?_
      refine wl_sk rfl rfl rfl rfl ?_
      refine wl_sk rfl rfl rfl rfl ?_
      refine wl_y rfl (y_pick_f rfl rfl) ?_
      refine wl_nil ?_
      refine wq_then ?_
      refine wc_cond_false rfl ?_
      refine wc_exit ?_
      refine wq_then_exit (wq_then_exit (wq_block_exit ?_))
      refine wq_then ?_
      refine wc_seq ?_
      refine wc_region ?_
      refine wl_y rfl (y_assign rfl) ?_
      refine wl_nil ?_
      refine wq_then ?_
      refine wc_ret ?_
      refine wq_ret1 rfl rfl (fun w hw => ?_)
      exact ⟨(G, p), ⟨hp2, hG.done fun x y h0 _ _ => by omega⟩, rfl, hw⟩

set_option maxHeartbeats 1000000 in
theorem push_nil_s (v : Str) (rank tm : Int) :
    Ctr Try.prog 19 #[.pointer none, vS v, vI rank, vI tm] [] [] (fun _ : Unit => True) (fun _ => vI 2) (fun _ => []) := by
  refine spec_start (n := 85) [(0, .pointer none), (1, vS v), (2, vI rank), (3, vI tm)] Try.func19 rfl rfl ⟨rfl, rfl, rfl, rfl, trivial⟩ rfl ?_
  intro w0 K hR
  refine wc_seq ?_
  refine wc_region ?_
  refine wl_y rfl (y_assign rfl) ?_
  refine wl_nil ?_
  refine wq_then ?_
  refine wc_seq ?_
  refine wc_block ?_
  refine wc_seq ?_
  refine wc_region ?_
  refine wl_y rfl (y_move rfl) ?_
  refine wl_y rfl (y_eqlP Try.underlying51 rfl rfl) ?_
  refine wl_y rfl (y_assign rfl) ?_
  refine wl_nil ?_
  refine wq_then ?_
  refine wc_known 10 true rfl (rfl) ?_
  refine wc_cond_true rfl ?_
  refine wc_seq ?_
  refine wc_region ?_
  refine wl_y rfl (y_assign rfl) ?_
  refine wl_nil ?_
  refine wq_then ?_
  refine wc_ret ?_
  refine wq_block_ret (wq_then_ret ?_)
  refine wq_ret1 rfl rfl (fun w hw => ?_)
  exact ⟨(), trivial, rfl, hw⟩

set_option maxHeartbeats 1000000 in
theorem push_bad_s (b : Nat) (age n : Int) (H : List (It Str)) (oc : Option Addr × Nat) (v : Str) (rank tm : Int) (hb : rank < 0 ∨ 9 < rank ∨ tm < 0 ∨ 1000000000 < tm) :
    Ctr Try.prog 19 #[ptr b, vS v, vI rank, vI tm] [] (rawAs 64 66 vS b age n H oc) (fun _ : Unit => True) (fun _ => vI 1) (fun _ => rawAs 64 66 vS b age n H oc) := by
  refine spec_start (n := 85) [(0, ptr b), (1, vS v), (2, vI rank), (3, vI tm)] Try.func19 rfl rfl ⟨rfl, rfl, rfl, rfl, trivial⟩ rfl ?_
  intro w0 K hR
  refine wc_seq ?_
  refine wc_region ?_
  refine wl_y rfl (y_assign rfl) ?_
  refine wl_nil ?_
  refine wq_then ?_
  refine wc_seq ?_
  refine wc_block ?_
  refine wc_seq ?_
  refine wc_region ?_
  refine wl_y rfl (y_move rfl) ?_
  refine wl_y rfl (y_eqlP Try.underlying51 rfl rfl) ?_
  refine wl_y rfl (y_assign rfl) ?_
  refine wl_nil ?_
  refine wq_then ?_
  refine wc_known 10 false rfl (rfl) ?_
  refine wc_cond_false rfl ?_
  refine wc_seq ?_
  refine wc_region ?_
  refine wl_y rfl (y_move rfl) ?_
  refine wl_y rfl (y_lss rfl rfl) ?_
  refine wl_y rfl (y_move rfl) ?_
  refine wl_case 16 rfl (fun hg16 => ?_) (fun hg16 => ?_)
  ·
    simp at hg16
    refine wl_sk rfl rfl rfl rfl ?_
    refine wl_sk rfl rfl rfl rfl ?_
    refine wl_y rfl (y_pick_t rfl rfl) ?_
    refine wl_y rfl (y_move rfl) ?_
    refine wl_sk rfl rfl rfl rfl ?_
    refine wl_sk rfl rfl rfl rfl ?_
    refine wl_y rfl (y_pick_t rfl rfl) ?_
    refine wl_y rfl (y_move rfl) ?_
    refine wl_sk rfl rfl rfl rfl ?_
    refine wl_sk rfl rfl rfl rfl ?_
    refine wl_y rfl (y_pick_t rfl rfl) ?_
    refine wl_y rfl (y_assign rfl) ?_
    refine wl_nil ?_
    refine wq_then ?_
    refine wc_known 13 true rfl (by first | rfl | (simp; omega)) ?_
    refine wc_cond_true rfl ?_
    refine wc_seq ?_
    refine wc_region ?_
    refine wl_y rfl (y_assign rfl) ?_
    refine wl_nil ?_
    refine wq_then ?_
    refine wc_ret ?_
    refine wq_block_ret (wq_then_ret ?_)
    refine wq_ret1 rfl rfl (fun w hw => ?_)
    exact ⟨(), trivial, rfl, hw⟩
  ·
    simp at hg16
    refine wl_yg rfl rfl rfl (y_move rfl) ?_
    refine wl_yg rfl rfl rfl (y_geq rfl rfl) ?_
    refine wl_y rfl (y_pick_f rfl rfl) ?_
    refine wl_y rfl (y_move rfl) ?_
    refine wl_case 20 rfl (fun hg20 => ?_) (fun hg20 => ?_)
    ·
      simp at hg20
      refine wl_sk rfl rfl rfl rfl ?_
      refine wl_sk rfl rfl rfl rfl ?_
      refine wl_y rfl (y_pick_t rfl rfl) ?_
      refine wl_y rfl (y_move rfl) ?_
      refine wl_sk rfl rfl rfl rfl ?_
      refine wl_sk rfl rfl rfl rfl ?_
      refine wl_y rfl (y_pick_t rfl rfl) ?_
      refine wl_y rfl (y_assign rfl) ?_
      refine wl_nil ?_
      refine wq_then ?_
      refine wc_known 13 true rfl (by first | rfl | (simp; omega)) ?_
      refine wc_cond_true rfl ?_
      refine wc_seq ?_
      refine wc_region ?_
      refine wl_y rfl (y_assign rfl) ?_
      refine wl_nil ?_
      refine wq_then ?_
      refine wc_ret ?_
      refine wq_block_ret (wq_then_ret ?_)
      refine wq_ret1 rfl rfl (fun w hw => ?_)
      exact ⟨(), trivial, rfl, hw⟩
    ·
      simp at hg20
      refine wl_yg rfl rfl rfl (y_move rfl) ?_
      refine wl_yg rfl rfl rfl (y_lss rfl rfl) ?_
      refine wl_y rfl (y_pick_f rfl rfl) ?_
      refine wl_y rfl (y_move rfl) ?_
      refine wl_case 24 rfl (fun hg24 => ?_) (fun hg24 => ?_)
      ·
        simp at hg24
        refine wl_sk rfl rfl rfl rfl ?_
        refine wl_sk rfl rfl rfl rfl ?_
        refine wl_y rfl (y_pick_t rfl rfl) ?_
        refine wl_y rfl (y_assign rfl) ?_
        refine wl_nil ?_
        refine wq_then ?_
        refine wc_known 13 true rfl (by first | rfl | (simp; omega)) ?_
        refine wc_cond_true rfl ?_
        refine wc_seq ?_
        refine wc_region ?_
        refine wl_y rfl (y_assign rfl) ?_
        refine wl_nil ?_
        refine wq_then ?_
        refine wc_ret ?_
        refine wq_block_ret (wq_then_ret ?_)
        refine wq_ret1 rfl rfl (fun w hw => ?_)
        exact ⟨(), trivial, rfl, hw⟩
      ·
        simp at hg24
        refine wl_yg rfl rfl rfl (y_move rfl) ?_
        refine wl_yg rfl rfl rfl (y_gtr rfl rfl) ?_
        refine wl_y rfl (y_pick_f rfl rfl) ?_
        refine wl_y rfl (y_assign rfl) ?_
        refine wl_nil ?_
        refine wq_then ?_
        refine wc_known 13 true rfl (by first | rfl | (simp; omega)) ?_
        refine wc_cond_true rfl ?_
        refine wc_seq ?_
        refine wc_region ?_
        refine wl_y rfl (y_assign rfl) ?_
        refine wl_nil ?_
        refine wq_then ?_
        refine wc_ret ?_
        refine wq_block_ret (wq_then_ret ?_)
        refine wq_ret1 rfl rfl (fun w hw => ?_)
        exact ⟨(), trivial, rfl, hw⟩

set_option maxHeartbeats 1000000 in
theorem push_raw_s (b : Nat) (age n : Int) (H : List (It Str)) (oc : Option Addr × Nat) (v : Str) (rank tm : Int) (ha : 0 ≤ age ∧ age ≤ 1000000) (hn : 0 ≤ n ∧ n ≤ 1000000) (hr : 0 ≤ rank ∧ rank ≤ 9) (ht : 0 ≤ tm ∧ tm ≤ 1000000000) (hl : H.length ≤ 1000000) (hh : Heap H) :
    Ctr Try.prog 19 #[ptr b, vS v, vI rank, vI tm] [] (rawAs 64 66 vS b age n H oc) (fun x : List (It Str) × Option Addr × Nat => x.1.Perm (H ++ [(⟨v, rank, tm, tm + age * rank, n + 1⟩ : It Str)]) ∧ Heap x.1) (fun _ => vI 0) (fun x => rawAs 64 66 vS b age (n + 1) x.1 x.2) := by
  refine spec_start (n := 85) [(0, ptr b), (1, vS v), (2, vI rank), (3, vI tm)] Try.func19 rfl rfl ⟨rfl, rfl, rfl, rfl, trivial⟩ rfl ?_
  intro w0 K hR
  have hm1 : 0 ≤ age * rank := Int.mul_nonneg ha.1 hr.1
  have hm2 : age * rank ≤ 1000000 * 9 := Int.mul_le_mul ha.2 hr.2 hr.1 (by omega)
  refine wc_seq ?_
  refine wc_region ?_
  refine wl_y rfl (y_assign rfl) ?_
  refine wl_nil ?_
  refine wq_then ?_
  refine wc_seq ?_
  refine wc_block ?_
  refine wc_seq ?_
  refine wc_region ?_
  refine wl_y rfl (y_move rfl) ?_
  refine wl_y rfl (y_eqlP Try.underlying51 rfl rfl) ?_
  refine wl_y rfl (y_assign rfl) ?_
  refine wl_nil ?_
  refine wq_then ?_
  refine wc_known 10 false rfl (rfl) ?_
  refine wc_cond_false rfl ?_
  refine wc_seq ?_
  refine wc_region ?_
  refine wl_y rfl (y_move rfl) ?_
  refine wl_y rfl (y_lss rfl rfl) ?_
  refine wl_y rfl (y_move rfl) ?_
  refine wl_known 16 false rfl (by simp; omega) ?_
  refine wl_yg rfl rfl rfl (y_move rfl) ?_
  refine wl_yg rfl rfl rfl (y_geq rfl rfl) ?_
  refine wl_y rfl (y_pick_f rfl rfl) ?_
  refine wl_y rfl (y_move rfl) ?_
  refine wl_known 20 false rfl (by simp; omega) ?_
  refine wl_yg rfl rfl rfl (y_move rfl) ?_
  refine wl_yg rfl rfl rfl (y_lss rfl rfl) ?_
  refine wl_y rfl (y_pick_f rfl rfl) ?_
  refine wl_y rfl (y_move rfl) ?_
  refine wl_known 24 false rfl (by simp; omega) ?_
  refine wl_yg rfl rfl rfl (y_move rfl) ?_
  refine wl_yg rfl rfl rfl (y_gtr rfl rfl) ?_
  refine wl_y rfl (y_pick_f rfl rfl) ?_
  refine wl_y rfl (y_assign rfl) ?_
  refine wl_nil ?_
  refine wq_then ?_
  refine wc_known 13 false rfl (by simp; omega) ?_
  refine wc_cond_false rfl ?_
  refine wc_skip ?_
  refine wq_block_normal ?_
  refine wq_then ?_
  refine wc_seq ?_
  refine wc_region ?_
  refine wl_y rfl (y_move rfl) ?_
  refine wl_y rfl (y_nilCheck rfl) ?_
  refine wl_y rfl (y_fieldAddr F64_1 rfl) ?_
  refine wl_y rfl (y_load NA3 rfl (by first | exact cell_blk [] rfl | exact cell_blk [_] rfl | exact cell_blk [_, _] rfl)) ?_
  refine wl_y rfl (y_add rfl rfl (by omega)) ?_
  refine wl_y rfl (y_nilCheck rfl) ?_
  refine wl_y rfl (y_fieldAddr F64_1 rfl) ?_
  first | refine wl_u (yu_store [] (l' := [_, _, _]) T3 rfl rfl rfl rfl rfl rfl rfl) ?_ | refine wl_u (yu_store [_] (l' := [_, _, _]) T3 rfl rfl rfl rfl rfl rfl rfl) ?_ | refine wl_u (yu_store [_, _] (l' := [_, _, _]) T3 rfl rfl rfl rfl rfl rfl rfl) ?_
  refine wl_nil ?_
  refine wq_then ?_
  refine wc_seq ?_
  refine wc_mix (.q 0 0 (.q 1 0 (.q 2 0 (.q 3 0 (.q 4 0 (.q 5 0 (.q 6 0 (.q 7 0 (.q 8 0 (.q 9 0 (.q 10 0 (.q 11 0 (.q 12 1 (.q 13 0 (.q 14 0 (.q 15 0 (.q 16 0 (.q 17 0 (.q 18 0 (.q 19 1 (.q 20 0 (.w 21 2 (.w 22 2 (.q 23 0 (.q 24 0 (.w 25 3 .nil .nil))) .nil) .nil)))))))))))))))))))))) (Seen (blk b (.cells [vI age, vI (n + 1), .slice oc.1 H.length oc.2].toArray 64 (0, 0)))) MO (by kernel_rfl) (Hp.drawless _ _ _) (fun w hw => by first | exact hw.seen [] | exact hw.seen [_] | exact hw.seen [_, _] | exact hw.seen [_, _, _] | exact hw.seen [_, _, _, _]) ?_
  refine wm_g rfl rfl (y_move rfl) ?_
  refine wm_g rfl rfl (y_move rfl) ?_
  refine wm_g rfl rfl (y_nilCheck rfl) ?_
  refine wm_g rfl rfl (y_fieldAddr F64_2 rfl) ?_
  refine wm_g rfl rfl (y_load NA62 rfl (fun w hw => cell_of_heap hw.blk rfl)) ?_
  refine wm_g rfl rfl (y_move rfl) ?_
  refine wm_g rfl rfl (y_move rfl) ?_
  refine wm_g rfl rfl (y_move rfl) ?_
  refine wm_g rfl rfl (y_move rfl) ?_
  refine wm_g rfl rfl (y_move rfl) ?_
  refine wm_g rfl rfl (y_nilCheck rfl) ?_
  refine wm_g rfl rfl (y_fieldAddr F64_0 rfl) ?_
  refine wm_l rfl rfl (y_load NA3 rfl (by first | exact cell_blk [] rfl | exact cell_blk [_] rfl | exact cell_blk [_, _] rfl)) ?_
  refine wm_g rfl rfl (y_move rfl) ?_
  refine wm_g rfl rfl (y_mul rfl rfl (by omega)) ?_
  refine wm_g rfl rfl (y_add rfl rfl (by omega)) ?_
  refine wm_g rfl rfl (y_move rfl) ?_
  refine wm_g rfl rfl (y_nilCheck rfl) ?_
  refine wm_g rfl rfl (y_fieldAddr F64_1 rfl) ?_
  refine wm_l rfl rfl (y_load NA3 rfl (by first | exact cell_blk [] rfl | exact cell_blk [_] rfl | exact cell_blk [_, _] rfl)) ?_
  refine wm_g rfl rfl (y_build (cs := [_, _, _, _, _]) T66 PL66 rfl rfl rfl) ?_
  refine wm_w rfl rfl (fun _ _ h => by obtain ⟨_, _, _, hw⟩ := h; first | exact hw.seen [] | exact hw.seen [_] | exact hw.seen [_, _] | exact hw.seen [_, _, _] | exact hw.seen [_, _, _, _] | exact hw.seen [_, _, _, _, _]) (yw_buildSlice (cs := encIt vS (⟨v, rank, tm, tm + age * rank, n + 1⟩ : It Str)) Try.underlying62 T66 rfl rfl rfl rfl rfl rfl rfl) (wm_ex fun b56 _ => ?_)
  refine wm_w rfl rfl (fun _ _ h => by obtain ⟨_, _, _, hw⟩ := h; first | exact hw.seen [] | exact hw.seen [_] | exact hw.seen [_, _] | exact hw.seen [_, _, _] | exact hw.seen [_, _, _, _] | exact hw.seen [_, _, _, _, _]) (yw_append [_, _] Try.underlying62 Try.underlying62 (.inl ⟨_, rfl⟩) T66 rfl rfl rfl (fun w hw => Src.slice ((hw.seen []).mono fun _ => slc_rsl)) (by omega) (by unfold maxLen; omega) (by simp [Value.oneCell', encIt]) rfl) (wm_ex fun p hp => ?_)
  refine wm_g rfl rfl (y_nilCheck rfl) ?_
  refine wm_g rfl rfl (y_fieldAddr F64_2 rfl) ?_
  first | refine wm_u3 rfl (yu_store [] (l' := [_, _, _]) T62 rfl rfl rfl rfl rfl rfl rfl) ?_ | refine wm_u3 rfl (yu_store [_] (l' := [_, _, _]) T62 rfl rfl rfl rfl rfl rfl rfl) ?_ | refine wm_u3 rfl (yu_store [_, _] (l' := [_, _, _]) T62 rfl rfl rfl rfl rfl rfl rfl) ?_
  refine wm_world (S' := Hp w0 K (rawAs 64 66 vS b age (n + 1) (H ++ [(⟨v, rank, tm, tm + age * rank, n + 1⟩ : It Str)]) p)) (fun w hw => by
    have h3 := hw.drop
    have e : (H ++ [(⟨v, rank, tm, tm + age * rank, n + 1⟩ : It Str)]).length = H.length + 1 := by simp
    rw [rawAs, e, List.flatMap_append, List.flatMap_singleton]; exact h3) ?_
  refine wm_nil ?_
  refine all_wq ?_
  refine wq_then ?_
  refine wc_seq ?_
  refine wc_seq ?_
  refine wc_region ?_
  refine wl_y rfl (y_move rfl) ?_
  refine wl_y rfl (y_nilCheck rfl) ?_
  refine wl_y rfl (y_fieldAddr F64_2 rfl) ?_
  refine wl_y rfl (y_load NA62 rfl (by first | exact cell_blk [] rfl | exact cell_blk [_] rfl | exact cell_blk [_, _] rfl)) ?_
  refine wl_y rfl (y_lenSl Try.underlying62 rfl) ?_
  refine wl_y rfl (y_sub rfl rfl (by simp only [List.length_append, List.length_singleton]; omega)) ?_
  refine wl_y rfl (y_assign rfl) ?_
  refine wl_same 9 (vI (H.length : Nat)) rfl (by rw [show ((H.length : Nat) : Int) = ((H ++ [(⟨v, rank, tm, tm + age * rank, n + 1⟩ : It Str)]).length : Int) - 1 by simp]) ?_
  refine wl_nil ?_
  refine wq_then ?_
  refine wc_block ?_
  refine wc_loop (α := List (It Str) × Nat) (fun y => Up y.1 y.2 ∧ y.1.Perm (H ++ [(⟨v, rank, tm, tm + age * rank, n + 1⟩ : It Str)]) ∧ y.2 < y.1.length) [(0, _)] (fun y => [(9, vI y.2)]) (fun y => Hp w0 K (rawAs 64 66 vS b age (n + 1) y.1 p)) (fun y => y.2) (H ++ [(⟨v, rank, tm, tm + age * rank, n + 1⟩ : It Str)], H.length) ?_ ⟨rfl, rfl, trivial⟩ ?_ ?_
  · exact ⟨Up.start hh, List.Perm.refl _, by simp⟩
  · exact fun w hw => hw
  · rintro ⟨G, c⟩ ⟨hG, hp2, hc⟩; simp only at hG hp2 hc
    have hgl := hp2.length_eq
    rw [List.length_append, List.length_singleton] at hgl
    refine wc_world (S' := Hp w0 K (rawAs 64 66 vS b age (n + 1) G p)) (fun w hw => hw) ?_
    refine wc_seq ?_
    refine wc_seq ?_
    refine wc_region ?_
    refine wl_y rfl (y_move rfl) ?_
    refine wl_y rfl (y_gtr rfl rfl) ?_
    refine wl_y rfl (y_move rfl) ?_
    refine wl_case 68 rfl (fun hg68 => ?_) (fun hg68 => ?_)
    ·
      simp at hg68
      refine wl_yg rfl rfl rfl (y_move rfl) ?_
      refine wl_yg rfl rfl rfl (y_move rfl) ?_
      refine wl_yg rfl rfl rfl (y_move rfl) ?_
      refine wl_yg rfl rfl rfl (y_sub rfl rfl (by omega)) ?_
      refine wl_yg rfl rfl rfl (y_quoN rfl rfl (by omega)) ?_
      refine wl_same 73 (vI ((c - 1) / 2 : Nat)) rfl (by rw [show ((((c - 1) / 2 : Nat)) : Int) = ((c : Int) - 1) / 2 by omega]) ?_
      obtain ⟨u, hu⟩ : ∃ u, G[c]? = some u := ⟨_, List.getElem?_eq_getElem (by omega)⟩
      obtain ⟨z, hz⟩ : ∃ u, G[(c - 1) / 2]? = some u := ⟨_, List.getElem?_eq_getElem (by omega)⟩
      refine wl_c (want_some rfl rfl) rfl (yc_spec (fst := []) (cap := []) _ FN25 (less_s b age (n + 1) G p c ((c - 1) / 2) u z hu hz) rfl rfl rfl (by simp) (by (repeat (first | exact pt_nil | apply pt0 | apply pt1 | apply pt2 | apply pt3 | apply pt4 | apply pt5 | apply pt6 | apply pt7 | apply pt8 | apply pt9 | apply pt10 | apply pt11 | apply pt12 | apply pt13 | apply pt14 | apply pt15 | apply pt16 | apply pt17)))) (wl_ex fun x74 hx74 => ?_)
      refine wl_y rfl (y_pick_t rfl rfl) ?_
      refine wl_nil ?_
      refine wq_then ?_
      refine wc_cond rfl (fun hc75 => ?_) (fun hc75 => ?_)
      ·
        refine wc_skip ?_
        refine wq_then ?_
        refine wc_seq ?_
        refine wc_block ?_
        refine wc_region ?_
        refine wl_y rfl (y_move rfl) ?_
        refine wl_y rfl (y_move rfl) ?_
        refine wl_y rfl (y_move rfl) ?_
        refine wl_y rfl (y_sub rfl rfl (by omega)) ?_
        refine wl_y rfl (y_quoN rfl rfl (by omega)) ?_
        refine wl_same 83 (vI ((c - 1) / 2 : Nat)) rfl (by rw [show ((((c - 1) / 2 : Nat)) : Int) = ((c : Int) - 1) / 2 by omega]) ?_
        refine wl_c (fun _ _ => want_none) rfl (yc_spec (fst := []) (cap := []) _ FN26 (swap_s b age (n + 1) G p c ((c - 1) / 2) u z hu hz) rfl rfl rfl (by simp) (by (repeat (first | exact pt_nil | apply pt0 | apply pt1 | apply pt2 | apply pt3 | apply pt4 | apply pt5 | apply pt6 | apply pt7 | apply pt8 | apply pt9 | apply pt10 | apply pt11 | apply pt12 | apply pt13 | apply pt14 | apply pt15 | apply pt16 | apply pt17)))) (wl_ex fun x84 hx84 => ?_)
        refine wl_nil ?_
        refine wq_block_normal ?_
        refine wq_then ?_
        refine wc_region ?_
        refine wl_y rfl (y_move rfl) ?_
        refine wl_y rfl (y_sub rfl rfl (by omega)) ?_
        refine wl_y rfl (y_quoN rfl rfl (by omega)) ?_
        refine wl_y rfl (y_assign rfl) ?_
        refine wl_same 9 (vI ((c - 1) / 2 : Nat)) rfl (by rw [show ((((c - 1) / 2 : Nat)) : Int) = ((c : Int) - 1) / 2 by omega]) ?_
        refine wl_nil ?_
        exact wq_round (sw G c ((c - 1) / 2) u z, (c - 1) / 2) (by simp only; omega) ⟨hG.step (by omega) hu hz hc75, (sw_perm hu hz).trans hp2, by simp only [sw_length]; omega⟩ ⟨rfl, rfl, trivial⟩ (fun w hw => hw.left (Bs := []))
      ·
        refine wc_exit ?_
        refine wq_then_exit (wq_then_exit (wq_block_exit ?_))
        refine wq_then ?_
        refine wc_seq ?_
        refine wc_region ?_
        refine wl_y rfl (y_assign rfl) ?_
        refine wl_nil ?_
        refine wq_then ?_
        refine wc_ret ?_
        refine wq_ret1 rfl rfl (fun w hw => ?_)
        exact ⟨(G, p), ⟨hp2, hG.done fun x y _ hx hy => by rw [hu] at hx; rw [hz] at hy; cases hx; cases hy; exact hc75⟩, rfl, hw.left (Bs := [])⟩
    ·
      simp at hg68
      refine wl_sk rfl rfl rfl rfl ?_
      refine wl_sk rfl rfl rfl rfl ?_
      refine wl_sk rfl rfl rfl rfl ?_
      refine wl_sk rfl rfl rfl rfl ?_
      refine wl_sk rfl rfl rfl rfl ?_
      refine wl_sk rfl rfl rfl rfl ?_
      refine wl_y rfl (y_pick_f rfl rfl) ?_
      refine wl_nil ?_
      refine wq_then ?_
      refine wc_cond_false rfl ?_
      refine wc_exit ?_
      refine wq_then_exit (wq_then_exit (wq_block_exit ?_))
      refine wq_then ?_
      refine wc_seq ?_
      refine wc_region ?_
      refine wl_y rfl (y_assign rfl) ?_
      refine wl_nil ?_
      refine wq_then ?_
      refine wc_ret ?_
      refine wq_ret1 rfl rfl (fun w hw => ?_)
      exact ⟨(G, p), ⟨hp2, hG.done fun x y h0 _ _ => by omega⟩, rfl, hw⟩

end Go.Proofs.Ytblhphnnnihkmaa
