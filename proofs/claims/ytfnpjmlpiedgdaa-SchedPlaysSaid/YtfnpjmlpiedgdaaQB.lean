/-
  Walks: queues of jobs: made, pushed, popped.
-/
import Derived.Test.YtfnpjmlpiedgdaaQA
namespace Go.Proofs.Ytfnpjmlpiedgdaa
open Go.Eng

set_option maxHeartbeats 1000000 in
theorem qnew_no (n : Int) (hn : n < 1 ∨ 1000000 < n) :
    Ctr Try.prog 26 #[vI n] [] [] (fun _ : Unit => True) (fun _ => .tuple #[.pointer none, vI 1]) (fun _ => []) := by
  refine spec_start (n := 13) [(0, vI n)] Try.func26 rfl rfl ⟨rfl, trivial⟩ rfl ?_
  intro w0 K hR
  refine wc_seq ?_
  refine wc_region ?_
  refine wl_y rfl (y_assign rfl) ?_
  refine wl_y rfl (y_assign rfl) ?_
  refine wl_nil ?_
  refine wq_then ?_
  refine wc_seq ?_
  refine wc_seq ?_
  refine wc_region ?_
  refine wl_y rfl (y_move rfl) ?_
  refine wl_y rfl (y_lss rfl rfl) ?_
  refine wl_y rfl (y_move rfl) ?_
  apply wl_or 3 9 [(0, _)] (t := 6) rfl ⟨rfl, trivial⟩
  · intro hg6 hM9
    refine wl_sk rfl rfl rfl rfl ?_
    refine wl_sk rfl rfl rfl rfl ?_
    refine wl_y rfl (y_pick_t rfl rfl) ?_
    exact wl_weaken hM9 ⟨rfl, rfl, trivial⟩
  · intro hg6 hM9
    try (simp at hg6)
    refine wl_yg rfl rfl rfl (y_move rfl) ?_
    refine wl_yg rfl rfl rfl (y_gtr rfl rfl) ?_
    refine wl_y rfl (y_pick_f rfl rfl) ?_
    exact wl_weaken hM9 ⟨rfl, rfl, trivial⟩
  ·
    refine wl_nil ?_
    refine wq_then ?_
    refine wc_known 9 true rfl (by simp; omega) ?_
    refine wc_cond_true rfl ?_
    refine wc_seq ?_
    refine wc_region ?_
    refine wl_y rfl (y_assign rfl) ?_
    refine wl_y rfl (y_assign rfl) ?_
    refine wl_nil ?_
    refine wq_then ?_
    refine wc_ret ?_
    refine wq_then_ret ?_
    refine wq_ret2 rfl rfl rfl (fun w hw => ?_)
    exact ⟨(), trivial, rfl, hw⟩

set_option maxHeartbeats 1000000 in
theorem qnew_ok (age : Int) (h1 : 1 ≤ age) (h2 : age ≤ 1000000) :
    Ctr Try.prog 26 #[vI age] [] [] (fun _ : Nat => True) (fun b => .tuple #[ptr b, vI 0]) (fun b => [qA b age 0 []]) := by
  refine spec_start (n := 13) [(0, vI age)] Try.func26 rfl rfl ⟨rfl, trivial⟩ rfl ?_
  intro w0 K hR
  refine wc_seq ?_
  refine wc_region ?_
  refine wl_y rfl (y_assign rfl) ?_
  refine wl_y rfl (y_assign rfl) ?_
  refine wl_nil ?_
  refine wq_then ?_
  refine wc_seq ?_
  refine wc_seq ?_
  refine wc_region ?_
  refine wl_y rfl (y_move rfl) ?_
  refine wl_y rfl (y_lss rfl rfl) ?_
  refine wl_y rfl (y_move rfl) ?_
  apply wl_or 3 9 [(0, _)] (t := 6) rfl ⟨rfl, trivial⟩
  · intro hg6 hM9
    refine wl_sk rfl rfl rfl rfl ?_
    refine wl_sk rfl rfl rfl rfl ?_
    refine wl_y rfl (y_pick_t rfl rfl) ?_
    exact wl_weaken hM9 ⟨rfl, rfl, trivial⟩
  · intro hg6 hM9
    try (simp at hg6)
    refine wl_yg rfl rfl rfl (y_move rfl) ?_
    refine wl_yg rfl rfl rfl (y_gtr rfl rfl) ?_
    refine wl_y rfl (y_pick_f rfl rfl) ?_
    exact wl_weaken hM9 ⟨rfl, rfl, trivial⟩
  ·
    refine wl_nil ?_
    refine wq_then ?_
    refine wc_known 9 false rfl (by simp; omega) ?_
    refine wc_cond_false rfl ?_
    refine wc_skip ?_
    refine wq_then ?_
    refine wc_seq ?_
    refine wc_region ?_
    refine wl_y rfl (y_move rfl) ?_
    refine wl_y rfl (y_build (cs := [_, _, _]) T92 PL92 rfl rfl rfl) ?_
    refine wl_w (fun _ _ => want_none) rfl (yw_box rfl rfl) (wl_ex fun b12 _ => ?_)
    refine wl_y rfl (y_assign rfl) ?_
    refine wl_y rfl (y_assign rfl) ?_
    refine wl_nil ?_
    refine wq_then ?_
    refine wc_ret ?_
    refine wq_ret2 rfl rfl rfl (fun w hw => ?_)
    exact ⟨_, trivial, rfl, exA_shut ([], none, 0) ⟨List.Perm.refl _, fun i a b _ h => by simp at h⟩ (Hp.addNil [_] [] hw)⟩

set_option maxHeartbeats 1000000 in
theorem qlen_raw (b : Nat) (age n : Int) (H : List (It Jb)) (oc : Option Addr × Nat) :
    Ctr Try.prog 35 #[ptr b] [] (rawAs b age n H oc) (fun _ : Unit => True) (fun _ => vI H.length) (fun _ => rawAs b age n H oc) := by
  refine spec_start (n := 10) [(0, ptr b)] Try.func35 rfl rfl ⟨rfl, trivial⟩ rfl ?_
  intro w0 K hR
  refine wc_seq ?_
  refine wc_region ?_
  refine wl_y rfl (y_assign rfl) ?_
  refine wl_nil ?_
  refine wq_then ?_
  refine wc_seq ?_
  refine wc_seq ?_
  refine wc_region ?_
  refine wl_y rfl (y_move rfl) ?_
  refine wl_y rfl (y_eqlP Try.underlying58 rfl rfl) ?_
  refine wl_nil ?_
  refine wq_then ?_
  refine wc_known 4 false rfl (rfl) ?_
  refine wc_cond_false rfl ?_
  refine wc_skip ?_
  refine wq_then ?_
  refine wc_seq ?_
  refine wc_region ?_
  refine wl_y rfl (y_move rfl) ?_
  refine wl_y rfl (y_nilCheck rfl) ?_
  refine wl_y rfl (y_fieldAddr F92_2 rfl) ?_
  refine wl_y rfl (y_load NA90 rfl (by first | exact cell_blk [] rfl | exact cell_blk [_] rfl | exact cell_blk [_, _] rfl | exact cellR_blk (by assumption) rfl)) ?_
  refine wl_y rfl (y_lenSl Try.underlying90 rfl) ?_
  refine wl_y rfl (y_assign rfl) ?_
  refine wl_nil ?_
  refine wq_then ?_
  refine wc_ret ?_
  refine wq_ret1 rfl rfl (fun w hw => ?_)
  exact ⟨(), trivial, rfl, hw⟩

set_option maxHeartbeats 1000000 in
theorem qpeek_no (b : Nat) (age n : Int) (oc : Option Addr × Nat) :
    Ctr Try.prog 68 #[ptr b] [] (rawAs b age n [] oc) (fun _ : Unit => True) (fun _ => .tuple #[agJ noJ, vI 0, vI 0, .bool false]) (fun _ => rawAs b age n [] oc) := by
  refine spec_start (n := 24) [(0, ptr b)] Try.func68 rfl rfl ⟨rfl, trivial⟩ rfl ?_
  intro w0 K hR
  refine wc_seq ?_
  refine wc_region ?_
  refine wl_w (fun _ _ => want_none) rfl (yw_alloc T30 rfl) (wl_ex fun b2 _ => ?_)
  refine wl_y rfl (y_assign rfl) ?_
  refine wl_y rfl (y_assign rfl) ?_
  refine wl_y rfl (y_assign rfl) ?_
  refine wl_nil ?_
  refine wq_then ?_
  refine wc_seq ?_
  refine wc_seq ?_
  refine wc_region ?_
  refine wl_y rfl (y_move rfl) ?_
  refine wl_c (fun _ _ => want_none) rfl (yc_spec (fst := []) (cap := []) _ FN35 (qlen_raw b age n [] oc) rfl rfl rfl (by (repeat (first | exact pt_nil | apply pt0 | apply pt1 | apply pt2 | apply pt3 | apply pt4 | apply pt5 | apply pt6 | apply pt7 | apply pt8 | apply pt9 | apply pt10 | apply pt11 | apply pt12 | apply pt13 | apply pt14 | apply pt15 | apply pt16 | apply pt17))) (by (repeat (first | exact ro_nil | exact ro_rest (by assumption) | refine ro_cons (by first | exact .inl (by assumption) | exact ro_f0 (fun _ h => h) | exact ro_f0 (fun _ => slc_rsl) | exact ro_f1 (fun _ h => h) | exact ro_f1 (fun _ => slc_rsl) | exact ro_f2 (fun _ h => h) | exact ro_f2 (fun _ => slc_rsl) | exact ro_f3 (fun _ h => h) | exact ro_f3 (fun _ => slc_rsl) | exact ro_f4 (fun _ h => h) | exact ro_f4 (fun _ => slc_rsl) | exact ro_f5 (fun _ h => h) | exact ro_f5 (fun _ => slc_rsl) | exact ro_f6 (fun _ h => h) | exact ro_f6 (fun _ => slc_rsl)) ?_)))) (wl_ex fun x9 hx9 => ?_)
  refine wl_y rfl (y_eqlI rfl rfl) ?_
  refine wl_nil ?_
  refine wq_then ?_
  refine wc_known 10 true rfl (rfl) ?_
  refine wc_cond_true rfl ?_
  refine wc_seq ?_
  refine wc_region ?_
  refine wl_w (fun _ _ => want_none) rfl (yw_alloc T30 rfl) (wl_ex fun b6 _ => ?_)
  refine wl_nil ?_
  refine wq_then ?_
  refine wc_seq ?_
  refine wc_region ?_
  refine wl_y rfl (y_loadAgg (l := [_, _, _]) AG30 rfl rfl (by first | exact cells_blk [] rfl | exact cells_blk [_] rfl | exact cells_blk [_, _] rfl | exact cells_blk [_, _, _] rfl | exact cells_blk [_, _, _, _] rfl | exact cellsR_blk (by assumption) rfl)) ?_
  first | refine wl_u (yu_storeAgg [] (l' := [_, _, _]) T30 rfl rfl rfl (by simp [Value.oneCell', encIt]) rfl rfl) ?_ | refine wl_u (yu_storeAgg [_] (l' := [_, _, _]) T30 rfl rfl rfl (by simp [Value.oneCell', encIt]) rfl rfl) ?_ | refine wl_u (yu_storeAgg [_, _] (l' := [_, _, _]) T30 rfl rfl rfl (by simp [Value.oneCell', encIt]) rfl rfl) ?_ | refine wl_u (yu_storeAgg [_, _, _] (l' := [_, _, _]) T30 rfl rfl rfl (by simp [Value.oneCell', encIt]) rfl rfl) ?_ | refine wl_u (yu_storeAgg [_, _, _, _] (l' := [_, _, _]) T30 rfl rfl rfl (by simp [Value.oneCell', encIt]) rfl rfl) ?_
  refine wl_y rfl (y_assign rfl) ?_
  refine wl_y rfl (y_assign rfl) ?_
  refine wl_y rfl (y_assign rfl) ?_
  refine wl_nil ?_
  refine wq_then ?_
  refine wc_ret ?_
  refine wq_then_ret ?_
  refine wq_retC4 (l := [_, _, _]) AG30 rfl rfl rfl rfl rfl rfl (by first | exact cells_blk [] rfl | exact cells_blk [_] rfl | exact cells_blk [_, _] rfl | exact cells_blk [_, _, _] rfl | exact cells_blk [_, _, _, _] rfl) (fun w hw => ?_)
  exact ⟨(), trivial, rfl, hw.sub (by (repeat (first | exact pt_nil | apply pt0 | apply pt1 | apply pt2 | apply pt3 | apply pt4 | apply pt5 | apply pt6 | apply pt7 | apply pt8 | apply pt9 | apply pt10 | apply pt11 | apply pt12 | apply pt13 | apply pt14 | apply pt15 | apply pt16 | apply pt17)))⟩

set_option maxHeartbeats 1000000 in
theorem qpeek_raw (b : Nat) (age n : Int) (H : List (It Jb)) (oc : Option Addr × Nat) (r : It Jb) (hr : H[0]? = some r) :
    Ctr Try.prog 68 #[ptr b] [] (rawAs b age n H oc) (fun _ : Unit => True) (fun _ => .tuple #[agJ r.v, vI r.rank, vI r.tm, .bool true]) (fun _ => rawAs b age n H oc) := by
  refine spec_start (n := 24) [(0, ptr b)] Try.func68 rfl rfl ⟨rfl, trivial⟩ rfl ?_
  intro w0 K hR
  have hrl := (List.getElem?_eq_some_iff.1 hr).1
  refine wc_seq ?_
  refine wc_region ?_
  refine wl_w (fun _ _ => want_none) rfl (yw_alloc T30 rfl) (wl_ex fun b2 _ => ?_)
  refine wl_y rfl (y_assign rfl) ?_
  refine wl_y rfl (y_assign rfl) ?_
  refine wl_y rfl (y_assign rfl) ?_
  refine wl_nil ?_
  refine wq_then ?_
  refine wc_seq ?_
  refine wc_seq ?_
  refine wc_region ?_
  refine wl_y rfl (y_move rfl) ?_
  refine wl_c (fun _ _ => want_none) rfl (yc_spec (fst := []) (cap := []) _ FN35 (qlen_raw b age n H oc) rfl rfl rfl (by (repeat (first | exact pt_nil | apply pt0 | apply pt1 | apply pt2 | apply pt3 | apply pt4 | apply pt5 | apply pt6 | apply pt7 | apply pt8 | apply pt9 | apply pt10 | apply pt11 | apply pt12 | apply pt13 | apply pt14 | apply pt15 | apply pt16 | apply pt17))) (by (repeat (first | exact ro_nil | exact ro_rest (by assumption) | refine ro_cons (by first | exact .inl (by assumption) | exact ro_f0 (fun _ h => h) | exact ro_f0 (fun _ => slc_rsl) | exact ro_f1 (fun _ h => h) | exact ro_f1 (fun _ => slc_rsl) | exact ro_f2 (fun _ h => h) | exact ro_f2 (fun _ => slc_rsl) | exact ro_f3 (fun _ h => h) | exact ro_f3 (fun _ => slc_rsl) | exact ro_f4 (fun _ h => h) | exact ro_f4 (fun _ => slc_rsl) | exact ro_f5 (fun _ h => h) | exact ro_f5 (fun _ => slc_rsl) | exact ro_f6 (fun _ h => h) | exact ro_f6 (fun _ => slc_rsl)) ?_)))) (wl_ex fun x9 hx9 => ?_)
  refine wl_y rfl (y_eqlI rfl rfl) ?_
  refine wl_nil ?_
  refine wq_then ?_
  refine wc_known 10 false rfl (decide_eq_false (by omega)) ?_
  refine wc_cond_false rfl ?_
  refine wc_skip ?_
  refine wq_then ?_
  refine wc_seq ?_
  refine wc_region ?_
  refine wl_y rfl (y_move rfl) ?_
  refine wl_y rfl (y_nilCheck rfl) ?_
  refine wl_y rfl (y_fieldAddr F92_2 rfl) ?_
  refine wl_y rfl (y_load NA90 rfl (by first | exact cell_blk [] rfl | exact cell_blk [_] rfl | exact cell_blk [_, _] rfl | exact cell_blk [_, _, _] rfl | exact cell_blk [_, _, _, _] rfl | exact cellR_blk (by assumption) rfl)) ?_
  refine wl_y rfl (y_indexAddr (i := 0) Try.underlying90 T97 rfl rfl rfl hrl (fun w hw => by first | exact hw.slc_isSome [] hrl | exact hw.slc_isSome [_] hrl | exact hw.slc_isSome [_, _] hrl | exact hw.slc_isSome [_, _, _] hrl)) ?_
  refine wl_y rfl (y_loadAgg (l := encIt r) AG97 rfl rfl (by first | exact agg_own [] (fun i u h => rows_get (k := 0) encIt_len hr h) | exact agg_own [_] (fun i u h => rows_get (k := 0) encIt_len hr h) | exact agg_own [_, _] (fun i u h => rows_get (k := 0) encIt_len hr h) | exact agg_own [_, _, _] (fun i u h => rows_get (k := 0) encIt_len hr h))) ?_
  refine wl_w (fun _ _ => want_none) rfl (yw_alloc T97 rfl) (wl_ex fun b7 _ => ?_)
  first | refine wl_u (yu_storeAgg [] (l' := [_, _, _, _, _, _, _]) T97 rfl rfl rfl (by simp [Value.oneCell', encIt]) rfl rfl) ?_ | refine wl_u (yu_storeAgg [_] (l' := [_, _, _, _, _, _, _]) T97 rfl rfl rfl (by simp [Value.oneCell', encIt]) rfl rfl) ?_ | refine wl_u (yu_storeAgg [_, _] (l' := [_, _, _, _, _, _, _]) T97 rfl rfl rfl (by simp [Value.oneCell', encIt]) rfl rfl) ?_ | refine wl_u (yu_storeAgg [_, _, _] (l' := [_, _, _, _, _, _, _]) T97 rfl rfl rfl (by simp [Value.oneCell', encIt]) rfl rfl) ?_ | refine wl_u (yu_storeAgg [_, _, _, _] (l' := [_, _, _, _, _, _, _]) T97 rfl rfl rfl (by simp [Value.oneCell', encIt]) rfl rfl) ?_
  refine wl_nil ?_
  refine wq_then ?_
  refine wc_seq ?_
  refine wc_mix (.q 0 0 (.q 1 1 (.q 2 0 (.q 3 0 (.q 4 0 (.q 5 0 (.w 6 2 (.q 7 0 (.q 8 0 (.q 9 0 .nil))) .nil))))))) (Sees [blk b7 (.cells (encIt r).toArray 97 (0, 0))]) MO (by kernel_rfl) (Hp.drawless _ _ _) (fun w hw => by refine ⟨?_, trivial⟩ <;> first | exact hw.seen [] | exact hw.seen [_] | exact hw.seen [_, _] | exact hw.seen [_, _, _] | exact hw.seen [_, _, _, _] | exact hw.seen [_, _, _, _, _]) ?_
  refine wm_g rfl rfl (y_fieldAddr F97_0 rfl) ?_
  refine wm_l rfl rfl (y_loadAgg (l := [_, _, _]) AG30 rfl rfl (by first | exact cells_blk [] rfl | exact cells_blk [_] rfl | exact cells_blk [_, _] rfl | exact cells_blk [_, _, _] rfl | exact cells_blk [_, _, _, _] rfl | exact cellsR_blk (by assumption) rfl)) ?_
  refine wm_g rfl rfl (y_fieldAddr F97_1 rfl) ?_
  refine wm_g rfl rfl (y_load NA3 rfl (fun w hw => by first | exact cell_of_heap hw.1.blk rfl)) ?_
  refine wm_g rfl rfl (y_fieldAddr F97_2 rfl) ?_
  refine wm_g rfl rfl (y_load NA3 rfl (fun w hw => by first | exact cell_of_heap hw.1.blk rfl)) ?_
  first | refine wm_u rfl (fun _ hw => by refine ⟨?_, trivial⟩ <;> first | exact hw.seen [] | exact hw.seen [_] | exact hw.seen [_, _] | exact hw.seen [_, _, _] | exact hw.seen [_, _, _, _] | exact hw.seen [_, _, _, _, _]) (yu_storeAgg [] (l' := [_, _, _]) T30 rfl rfl rfl (by simp [Value.oneCell', encIt]) rfl rfl) ?_ | refine wm_u rfl (fun _ hw => by refine ⟨?_, trivial⟩ <;> first | exact hw.seen [] | exact hw.seen [_] | exact hw.seen [_, _] | exact hw.seen [_, _, _] | exact hw.seen [_, _, _, _] | exact hw.seen [_, _, _, _, _]) (yu_storeAgg [_] (l' := [_, _, _]) T30 rfl rfl rfl (by simp [Value.oneCell', encIt]) rfl rfl) ?_ | refine wm_u rfl (fun _ hw => by refine ⟨?_, trivial⟩ <;> first | exact hw.seen [] | exact hw.seen [_] | exact hw.seen [_, _] | exact hw.seen [_, _, _] | exact hw.seen [_, _, _, _] | exact hw.seen [_, _, _, _, _]) (yu_storeAgg [_, _] (l' := [_, _, _]) T30 rfl rfl rfl (by simp [Value.oneCell', encIt]) rfl rfl) ?_ | refine wm_u rfl (fun _ hw => by refine ⟨?_, trivial⟩ <;> first | exact hw.seen [] | exact hw.seen [_] | exact hw.seen [_, _] | exact hw.seen [_, _, _] | exact hw.seen [_, _, _, _] | exact hw.seen [_, _, _, _, _]) (yu_storeAgg [_, _, _] (l' := [_, _, _]) T30 rfl rfl rfl (by simp [Value.oneCell', encIt]) rfl rfl) ?_ | refine wm_u rfl (fun _ hw => by refine ⟨?_, trivial⟩ <;> first | exact hw.seen [] | exact hw.seen [_] | exact hw.seen [_, _] | exact hw.seen [_, _, _] | exact hw.seen [_, _, _, _] | exact hw.seen [_, _, _, _, _]) (yu_storeAgg [_, _, _, _] (l' := [_, _, _]) T30 rfl rfl rfl (by simp [Value.oneCell', encIt]) rfl rfl) ?_
  refine wm_g rfl rfl (y_assign rfl) ?_
  refine wm_g rfl rfl (y_assign rfl) ?_
  refine wm_g rfl rfl (y_assign rfl) ?_
  refine wm_nil ?_
  refine all_wq ?_
  refine wq_then ?_
  refine wc_ret ?_
  refine wq_retC4 (l := [_, _, _]) AG30 rfl rfl rfl rfl rfl rfl (by first | exact cells_blk [] rfl | exact cells_blk [_] rfl | exact cells_blk [_, _] rfl | exact cells_blk [_, _, _] rfl | exact cells_blk [_, _, _, _] rfl) (fun w hw => ?_)
  exact ⟨(), trivial, rfl, hw.sub (by (repeat (first | exact pt_nil | apply pt0 | apply pt1 | apply pt2 | apply pt3 | apply pt4 | apply pt5 | apply pt6 | apply pt7 | apply pt8 | apply pt9 | apply pt10 | apply pt11 | apply pt12 | apply pt13 | apply pt14 | apply pt15 | apply pt16 | apply pt17)))⟩

set_option maxHeartbeats 1000000 in
theorem qpop_no (b : Nat) (age n : Int) (oc : Option Addr × Nat) :
    Ctr Try.prog 64 #[ptr b] [] (rawAs b age n [] oc) (fun _ : Unit => True) (fun _ => .tuple #[agJ noJ, .bool false]) (fun _ => rawAs b age n [] oc) := by
  refine spec_start (n := 39) [(0, ptr b)] Try.func64 rfl rfl ⟨rfl, trivial⟩ rfl ?_
  intro w0 K hR
  refine wc_seq ?_
  refine wc_region ?_
  refine wl_w (fun _ _ => want_none) rfl (yw_alloc T30 rfl) (wl_ex fun b2 _ => ?_)
  refine wl_y rfl (y_assign rfl) ?_
  refine wl_nil ?_
  refine wq_then ?_
  refine wc_seq ?_
  refine wc_region ?_
  refine wl_y rfl (y_move rfl) ?_
  refine wl_c (fun _ _ => want_none) rfl (yc_spec (fst := []) (cap := []) _ FN68 (qpeek_no b age n oc) rfl rfl rfl (by (repeat (first | exact pt_nil | apply pt0 | apply pt1 | apply pt2 | apply pt3 | apply pt4 | apply pt5 | apply pt6 | apply pt7 | apply pt8 | apply pt9 | apply pt10 | apply pt11 | apply pt12 | apply pt13 | apply pt14 | apply pt15 | apply pt16 | apply pt17))) (by (repeat (first | exact ro_nil | exact ro_rest (by assumption) | refine ro_cons (by first | exact .inl (by assumption) | exact ro_f0 (fun _ h => h) | exact ro_f0 (fun _ => slc_rsl) | exact ro_f1 (fun _ h => h) | exact ro_f1 (fun _ => slc_rsl) | exact ro_f2 (fun _ h => h) | exact ro_f2 (fun _ => slc_rsl) | exact ro_f3 (fun _ h => h) | exact ro_f3 (fun _ => slc_rsl) | exact ro_f4 (fun _ h => h) | exact ro_f4 (fun _ => slc_rsl) | exact ro_f5 (fun _ h => h) | exact ro_f5 (fun _ => slc_rsl) | exact ro_f6 (fun _ h => h) | exact ro_f6 (fun _ => slc_rsl)) ?_)))) (wl_ex fun x11 hx11 => ?_)
  refine wl_y rfl (y_move rfl) ?_
  refine wl_y rfl (y_extract rfl rfl) ?_
  refine wl_y rfl (y_extract rfl rfl) ?_
  refine wl_y rfl (y_extract rfl rfl) ?_
  refine wl_y rfl (y_extract rfl rfl) ?_
  refine wl_w (fun _ _ => want_none) rfl (yw_alloc T30 rfl) (wl_ex fun b4 _ => ?_)
  first | refine wl_u (yu_storeAgg [] (l' := [_, _, _]) T30 rfl rfl rfl (by simp [Value.oneCell']) rfl rfl) ?_ | refine wl_u (yu_storeAgg [_] (l' := [_, _, _]) T30 rfl rfl rfl (by simp [Value.oneCell']) rfl rfl) ?_ | refine wl_u (yu_storeAgg [_, _] (l' := [_, _, _]) T30 rfl rfl rfl (by simp [Value.oneCell']) rfl rfl) ?_ | refine wl_u (yu_storeAgg [_, _, _] (l' := [_, _, _]) T30 rfl rfl rfl (by simp [Value.oneCell']) rfl rfl) ?_ | refine wl_u (yu_storeAgg [_, _, _, _] (l' := [_, _, _]) T30 rfl rfl rfl (by simp [Value.oneCell']) rfl rfl) ?_
  refine wl_y rfl (y_assign rfl) ?_
  refine wl_y rfl (y_assign rfl) ?_
  refine wl_y rfl (y_assign rfl) ?_
  refine wl_nil ?_
  refine wq_then ?_
  refine wc_seq ?_
  refine wc_seq ?_
  refine wc_region ?_
  refine wl_y rfl (y_move rfl) ?_
  refine wl_nil ?_
  refine wq_then ?_
  refine wc_known 16 false rfl (rfl) ?_
  refine wc_cond_false rfl ?_
  refine wc_skip ?_
  refine wq_then ?_
  refine wc_seq ?_
  refine wc_region ?_
  refine wl_y rfl (y_loadAgg (l := [_, _, _]) AG30 rfl rfl (by first | exact cells_blk [] rfl | exact cells_blk [_] rfl | exact cells_blk [_, _] rfl | exact cells_blk [_, _, _] rfl | exact cells_blk [_, _, _, _] rfl | exact cellsR_blk (by assumption) rfl)) ?_
  refine wl_y rfl (y_move rfl) ?_
  first | refine wl_u (yu_storeAgg [] (l' := [_, _, _]) T30 rfl rfl rfl (by simp [Value.oneCell']) rfl rfl) ?_ | refine wl_u (yu_storeAgg [_] (l' := [_, _, _]) T30 rfl rfl rfl (by simp [Value.oneCell']) rfl rfl) ?_ | refine wl_u (yu_storeAgg [_, _] (l' := [_, _, _]) T30 rfl rfl rfl (by simp [Value.oneCell']) rfl rfl) ?_ | refine wl_u (yu_storeAgg [_, _, _] (l' := [_, _, _]) T30 rfl rfl rfl (by simp [Value.oneCell']) rfl rfl) ?_ | refine wl_u (yu_storeAgg [_, _, _, _] (l' := [_, _, _]) T30 rfl rfl rfl (by simp [Value.oneCell']) rfl rfl) ?_
  refine wl_y rfl (y_assign rfl) ?_
  refine wl_nil ?_
  refine wq_then ?_
  refine wc_ret ?_
  refine wq_retC2 (l := [_, _, _]) AG30 rfl rfl rfl rfl (by first | exact cells_blk [] rfl | exact cells_blk [_] rfl | exact cells_blk [_, _] rfl | exact cells_blk [_, _, _] rfl | exact cells_blk [_, _, _, _] rfl) (fun w hw => ?_)
  exact ⟨(), trivial, rfl, hw.sub (by (repeat (first | exact pt_nil | apply pt0 | apply pt1 | apply pt2 | apply pt3 | apply pt4 | apply pt5 | apply pt6 | apply pt7 | apply pt8 | apply pt9 | apply pt10 | apply pt11 | apply pt12 | apply pt13 | apply pt14 | apply pt15 | apply pt16 | apply pt17)))⟩

set_option maxHeartbeats 1000000 in
theorem qpop_raw (b : Nat) (age n : Int) (H : List (It Jb)) (oc : Option Addr × Nat) (k : Nat) (r a : It Jb) (hk : H.length = k + 1) (hr : H[0]? = some r) (ha : H[k]? = some a) (hh : Heap H) (hl : H.length ≤ 1000000) :
    Ctr Try.prog 64 #[ptr b] [] (rawAs b age n H oc) (fun x : List (It Jb) × Option Addr × Nat => (r :: x.1).Perm H ∧ Heap x.1) (fun _ => .tuple #[agJ r.v, .bool true]) (fun x => rawAs b age n x.1 x.2) := by
  refine spec_start (n := 39) [(0, ptr b)] Try.func64 rfl rfl ⟨rfl, trivial⟩ rfl ?_
  intro w0 K hR
  refine wc_seq ?_
  refine wc_region ?_
  refine wl_w (fun _ _ => want_none) rfl (yw_alloc T30 rfl) (wl_ex fun b2 _ => ?_)
  refine wl_y rfl (y_assign rfl) ?_
  refine wl_nil ?_
  refine wq_then ?_
  refine wc_seq ?_
  refine wc_region ?_
  refine wl_y rfl (y_move rfl) ?_
  refine wl_c (fun _ _ => want_none) rfl (yc_spec (fst := []) (cap := []) _ FN68 (qpeek_raw b age n H oc r hr) rfl rfl rfl (by (repeat (first | exact pt_nil | apply pt0 | apply pt1 | apply pt2 | apply pt3 | apply pt4 | apply pt5 | apply pt6 | apply pt7 | apply pt8 | apply pt9 | apply pt10 | apply pt11 | apply pt12 | apply pt13 | apply pt14 | apply pt15 | apply pt16 | apply pt17))) (by (repeat (first | exact ro_nil | exact ro_rest (by assumption) | refine ro_cons (by first | exact .inl (by assumption) | exact ro_f0 (fun _ h => h) | exact ro_f0 (fun _ => slc_rsl) | exact ro_f1 (fun _ h => h) | exact ro_f1 (fun _ => slc_rsl) | exact ro_f2 (fun _ h => h) | exact ro_f2 (fun _ => slc_rsl) | exact ro_f3 (fun _ h => h) | exact ro_f3 (fun _ => slc_rsl) | exact ro_f4 (fun _ h => h) | exact ro_f4 (fun _ => slc_rsl) | exact ro_f5 (fun _ h => h) | exact ro_f5 (fun _ => slc_rsl) | exact ro_f6 (fun _ h => h) | exact ro_f6 (fun _ => slc_rsl)) ?_)))) (wl_ex fun x11 hx11 => ?_)
  refine wl_y rfl (y_move rfl) ?_
  refine wl_y rfl (y_extract rfl rfl) ?_
  refine wl_y rfl (y_extract rfl rfl) ?_
  refine wl_y rfl (y_extract rfl rfl) ?_
  refine wl_y rfl (y_extract rfl rfl) ?_
  refine wl_w (fun _ _ => want_none) rfl (yw_alloc T30 rfl) (wl_ex fun b4 _ => ?_)
  first | refine wl_u (yu_storeAgg [] (l' := [_, _, _]) T30 rfl rfl rfl (by simp [Value.oneCell']) rfl rfl) ?_ | refine wl_u (yu_storeAgg [_] (l' := [_, _, _]) T30 rfl rfl rfl (by simp [Value.oneCell']) rfl rfl) ?_ | refine wl_u (yu_storeAgg [_, _] (l' := [_, _, _]) T30 rfl rfl rfl (by simp [Value.oneCell']) rfl rfl) ?_ | refine wl_u (yu_storeAgg [_, _, _] (l' := [_, _, _]) T30 rfl rfl rfl (by simp [Value.oneCell']) rfl rfl) ?_ | refine wl_u (yu_storeAgg [_, _, _, _] (l' := [_, _, _]) T30 rfl rfl rfl (by simp [Value.oneCell']) rfl rfl) ?_ | refine wl_u (yu_storeAgg [_, _, _, _, _] (l' := [_, _, _]) T30 rfl rfl rfl (by simp [Value.oneCell']) rfl rfl) ?_
  refine wl_y rfl (y_assign rfl) ?_
  refine wl_y rfl (y_assign rfl) ?_
  refine wl_y rfl (y_assign rfl) ?_
  refine wl_nil ?_
  refine wq_then ?_
  refine wc_seq ?_
  refine wc_seq ?_
  refine wc_region ?_
  refine wl_y rfl (y_move rfl) ?_
  refine wl_nil ?_
  refine wq_then ?_
  refine wc_known 16 true rfl (rfl) ?_
  refine wc_cond_true rfl ?_
  refine wc_seq ?_
  refine wc_region ?_
  refine wl_world (S' := Hp w0 K (rawAs b age n H oc ++ [blk b4 (.cells (encJ r.v).toArray 30 (0, 0)), blk b2 (.cells (encJ noJ).toArray 30 (0, 0))])) (fun w hw => hw.sub (by (repeat (first | exact pt_nil | apply pt0 | apply pt1 | apply pt2 | apply pt3 | apply pt4 | apply pt5 | apply pt6 | apply pt7 | apply pt8 | apply pt9 | apply pt10 | apply pt11 | apply pt12 | apply pt13 | apply pt14 | apply pt15 | apply pt16 | apply pt17)))) ?_
  refine wl_y rfl (y_move rfl) ?_
  refine wl_y rfl (y_nilCheck rfl) ?_
  refine wl_y rfl (y_fieldAddr F92_2 rfl) ?_
  refine wl_y rfl (y_load NA90 rfl (by first | exact cell_blk [] rfl | exact cell_blk [_] rfl | exact cell_blk [_, _] rfl | exact cell_blk [_, _, _] rfl | exact cell_blk [_, _, _, _] rfl | exact cell_blk [_, _, _, _, _] rfl | exact cellR_blk (by assumption) rfl)) ?_
  refine wl_y rfl (y_lenSl Try.underlying90 rfl) ?_
  refine wl_y rfl (y_sub rfl rfl (by omega)) ?_
  refine wl_y rfl (y_assign rfl) ?_
  refine wl_same 8 (vI (k : Nat)) rfl (by rw [show ((k : Nat) : Int) = (H.length : Int) - 1 by omega]) ?_
  refine wl_nil ?_
  refine wq_then ?_
  refine wc_seq ?_
  refine wc_region ?_
  refine wl_y rfl (y_move rfl) ?_
  refine wl_y rfl (y_move rfl) ?_
  refine wl_c (fun _ _ => want_none) rfl (yc_spec (fst := []) (cap := []) _ FN50 (swap_j b age n H oc 0 k r a hr ha) rfl rfl rfl (by (repeat (first | exact pt_nil | apply pt0 | apply pt1 | apply pt2 | apply pt3 | apply pt4 | apply pt5 | apply pt6 | apply pt7 | apply pt8 | apply pt9 | apply pt10 | apply pt11 | apply pt12 | apply pt13 | apply pt14 | apply pt15 | apply pt16 | apply pt17))) (by (repeat (first | exact ro_nil | exact ro_rest (by assumption) | refine ro_cons (by first | exact .inl (by assumption) | exact ro_f0 (fun _ h => h) | exact ro_f0 (fun _ => slc_rsl) | exact ro_f1 (fun _ h => h) | exact ro_f1 (fun _ => slc_rsl) | exact ro_f2 (fun _ h => h) | exact ro_f2 (fun _ => slc_rsl) | exact ro_f3 (fun _ h => h) | exact ro_f3 (fun _ => slc_rsl) | exact ro_f4 (fun _ h => h) | exact ro_f4 (fun _ => slc_rsl) | exact ro_f5 (fun _ h => h) | exact ro_f5 (fun _ => slc_rsl) | exact ro_f6 (fun _ h => h) | exact ro_f6 (fun _ => slc_rsl)) ?_)))) (wl_ex fun x25 hx25 => ?_)
  refine wl_world (S' := Hp w0 K (rawAs b age n (sw H 0 k r a) oc ++ [blk b4 (.cells (encJ r.v).toArray 30 (0, 0)), blk b2 (.cells (encJ noJ).toArray 30 (0, 0))])) (fun w hw => hw.sub (by (repeat (first | exact pt_nil | apply pt0 | apply pt1 | apply pt2 | apply pt3 | apply pt4 | apply pt5 | apply pt6 | apply pt7 | apply pt8 | apply pt9 | apply pt10 | apply pt11 | apply pt12 | apply pt13 | apply pt14 | apply pt15 | apply pt16 | apply pt17)))) ?_
  refine wl_nil ?_
  refine wq_then ?_
  refine wc_seq ?_
  refine wc_region ?_
  refine wl_have (p := k ≤ oc.2) (fun w hw => by have := Hp.slc_le [_] hw; rw [sw_length] at this; omega) (fun hcap => ?_)
  refine wl_y rfl (y_move rfl) ?_
  refine wl_y rfl (y_move rfl) ?_
  refine wl_y rfl (y_nilCheck rfl) ?_
  refine wl_y rfl (y_fieldAddr F92_2 rfl) ?_
  refine wl_y rfl (y_load NA90 rfl (by first | exact cell_blk [] rfl | exact cell_blk [_] rfl | exact cell_blk [_, _] rfl | exact cell_blk [_, _, _] rfl | exact cell_blk [_, _, _, _] rfl | exact cell_blk [_, _, _, _, _] rfl | exact cellR_blk (by assumption) rfl)) ?_
  refine wl_y rfl (y_move rfl) ?_
  refine wl_y rfl (y_sliceSl (i := 0) (j := k) Try.underlying90 T97 rfl rfl ⟨_, rfl, rfl⟩ (Nat.zero_le _) hcap) ?_
  refine wl_y rfl (y_nilCheck rfl) ?_
  refine wl_y rfl (y_fieldAddr F92_2 rfl) ?_
  first | refine wl_u (yu_store [] (l' := [_, _, _]) T90 rfl rfl rfl rfl rfl rfl rfl) ?_ | refine wl_u (yu_store [_] (l' := [_, _, _]) T90 rfl rfl rfl rfl rfl rfl rfl) ?_ | refine wl_u (yu_store [_, _] (l' := [_, _, _]) T90 rfl rfl rfl rfl rfl rfl rfl) ?_ | refine wl_u (yu_store [_, _, _] (l' := [_, _, _]) T90 rfl rfl rfl rfl rfl rfl rfl) ?_ | refine wl_u (yu_store [_, _, _, _] (l' := [_, _, _]) T90 rfl rfl rfl rfl rfl rfl rfl) ?_ | refine wl_u (yu_store [_, _, _, _, _] (l' := [_, _, _]) T90 rfl rfl rfl rfl rfl rfl rfl) ?_
  refine wl_world (S' := Hp w0 K (rawAs b age n ((sw H 0 k r a).take k) (cutAt oc.1 0 oc.2 7, oc.2) ++ [blk b4 (.cells (encJ r.v).toArray 30 (0, 0)), blk b2 (.cells (encJ noJ).toArray 30 (0, 0))])) (fun w hw => by
    have h3 := Hp.mono_at [_] hw (fun g hg => slc_take k hg (by rw [sw_length]; omega))
    rw [rows_take encIt_len k (by rw [sw_length]; omega)] at h3
    have e : ((sw H 0 k r a).take k).length = k := by rw [List.length_take, sw_length]; omega
    rw [rawAs, e]; exact h3) ?_
  refine wl_nil ?_
  refine wq_then ?_
  refine wc_region ?_
  refine wl_y rfl (y_move rfl) ?_
  refine wl_c (fun _ _ => want_none) rfl (yc_spec (fst := []) (cap := []) _ FN69 (sink_j b age n ((sw H 0 k r a).take k) (cutAt oc.1 0 oc.2 7, oc.2) (hh.cut hk hr ha).1 (by simp [sw_length]; omega)) rfl rfl rfl (by (repeat (first | exact pt_nil | apply pt0 | apply pt1 | apply pt2 | apply pt3 | apply pt4 | apply pt5 | apply pt6 | apply pt7 | apply pt8 | apply pt9 | apply pt10 | apply pt11 | apply pt12 | apply pt13 | apply pt14 | apply pt15 | apply pt16 | apply pt17))) (by (repeat (first | exact ro_nil | exact ro_rest (by assumption) | refine ro_cons (by first | exact .inl (by assumption) | exact ro_f0 (fun _ h => h) | exact ro_f0 (fun _ => slc_rsl) | exact ro_f1 (fun _ h => h) | exact ro_f1 (fun _ => slc_rsl) | exact ro_f2 (fun _ h => h) | exact ro_f2 (fun _ => slc_rsl) | exact ro_f3 (fun _ h => h) | exact ro_f3 (fun _ => slc_rsl) | exact ro_f4 (fun _ h => h) | exact ro_f4 (fun _ => slc_rsl) | exact ro_f5 (fun _ h => h) | exact ro_f5 (fun _ => slc_rsl) | exact ro_f6 (fun _ h => h) | exact ro_f6 (fun _ => slc_rsl)) ?_)))) (wl_ex fun x36 hx36 => ?_)
  refine wl_nil ?_
  refine wq_then ?_
  refine wc_seq ?_
  refine wc_region ?_
  refine wl_y rfl (y_loadAgg (l := [_, _, _]) AG30 rfl rfl (by first | exact cells_blk [] rfl | exact cells_blk [_] rfl | exact cells_blk [_, _] rfl | exact cells_blk [_, _, _] rfl | exact cells_blk [_, _, _, _] rfl | exact cells_blk [_, _, _, _, _] rfl | exact cellsR_blk (by assumption) rfl)) ?_
  refine wl_y rfl (y_move rfl) ?_
  first | refine wl_u (yu_storeAgg [] (l' := [_, _, _]) T30 rfl rfl rfl (by simp [Value.oneCell']) rfl rfl) ?_ | refine wl_u (yu_storeAgg [_] (l' := [_, _, _]) T30 rfl rfl rfl (by simp [Value.oneCell']) rfl rfl) ?_ | refine wl_u (yu_storeAgg [_, _] (l' := [_, _, _]) T30 rfl rfl rfl (by simp [Value.oneCell']) rfl rfl) ?_ | refine wl_u (yu_storeAgg [_, _, _] (l' := [_, _, _]) T30 rfl rfl rfl (by simp [Value.oneCell']) rfl rfl) ?_ | refine wl_u (yu_storeAgg [_, _, _, _] (l' := [_, _, _]) T30 rfl rfl rfl (by simp [Value.oneCell']) rfl rfl) ?_ | refine wl_u (yu_storeAgg [_, _, _, _, _] (l' := [_, _, _]) T30 rfl rfl rfl (by simp [Value.oneCell']) rfl rfl) ?_
  refine wl_y rfl (y_assign rfl) ?_
  refine wl_nil ?_
  refine wq_then ?_
  refine wc_ret ?_
  refine wq_retC2 (l := [_, _, _]) AG30 rfl rfl rfl rfl (by first | exact cells_blk [] rfl | exact cells_blk [_] rfl | exact cells_blk [_, _] rfl | exact cells_blk [_, _, _] rfl | exact cells_blk [_, _, _, _] rfl | exact cells_blk [_, _, _, _, _] rfl) (fun w hw => ?_)
  exact ⟨(x36, _), ⟨((hx36.1.cons r).trans (hh.cut hk hr ha).2), hx36.2⟩, rfl, hw.sub (by (repeat (first | exact pt_nil | apply pt0 | apply pt1 | apply pt2 | apply pt3 | apply pt4 | apply pt5 | apply pt6 | apply pt7 | apply pt8 | apply pt9 | apply pt10 | apply pt11 | apply pt12 | apply pt13 | apply pt14 | apply pt15 | apply pt16 | apply pt17)))⟩

set_option maxHeartbeats 1000000 in
theorem qpush_bad (b : Nat) (age n : Int) (H : List (It Jb)) (oc : Option Addr × Nat) (j : Jb) (hb : j.rank < 0 ∨ 9 < j.rank ∨ j.since < 0 ∨ 1000000000 < j.since) :
    Ctr Try.prog 28 #[ptr b, agJ j, vI j.rank, vI j.since] [] (rawAs b age n H oc) (fun _ : Unit => True) (fun _ => vI 1) (fun _ => rawAs b age n H oc) := by
  refine spec_start (n := 85) [(0, ptr b), (1, agJ j), (2, vI j.rank), (3, vI j.since)] Try.func28 rfl rfl ⟨rfl, rfl, rfl, rfl, trivial⟩ rfl ?_
  intro w0 K hR
  refine wc_seq ?_
  refine wc_region ?_
  refine wl_w (fun _ _ => want_none) rfl (yw_box rfl rfl) (wl_ex fun b5 _ => ?_)
  refine wl_y rfl (y_assign rfl) ?_
  refine wl_nil ?_
  refine wq_then ?_
  refine wc_seq ?_
  refine wc_block ?_
  refine wc_seq ?_
  refine wc_region ?_
  refine wl_y rfl (y_move rfl) ?_
  refine wl_y rfl (y_eqlP Try.underlying58 rfl rfl) ?_
  refine wl_y rfl (y_assign rfl) ?_
  refine wl_nil ?_
  refine wq_then ?_
  refine wc_known 10 false rfl (rfl) ?_
  refine wc_cond_false rfl ?_
  refine wc_seq ?_
  refine wc_region ?_
  refine wl_y rfl (y_move rfl) ?_
  refine wl_y rfl (y_lss rfl rfl) ?_
  refine wl_y rfl (y_move rfl) ?_
  apply wl_or 3 19 [(0, _), (2, _), (3, _), (5, _)] (t := 16) rfl ⟨rfl, rfl, rfl, rfl, trivial⟩
  · intro hg16 hM19
    refine wl_sk rfl rfl rfl rfl ?_
    refine wl_sk rfl rfl rfl rfl ?_
    refine wl_y rfl (y_pick_t rfl rfl) ?_
    exact wl_weaken hM19 ⟨rfl, rfl, rfl, rfl, rfl, trivial⟩
  · intro hg16 hM19
    try (simp at hg16)
    refine wl_yg rfl rfl rfl (y_move rfl) ?_
    refine wl_yg rfl rfl rfl (y_geq rfl rfl) ?_
    refine wl_y rfl (y_pick_f rfl rfl) ?_
    exact wl_weaken hM19 ⟨rfl, rfl, rfl, rfl, rfl, trivial⟩
  ·
    refine wl_y rfl (y_move rfl) ?_
    apply wl_or 3 23 [(0, _), (2, _), (3, _), (5, _)] (t := 20) rfl ⟨rfl, rfl, rfl, rfl, trivial⟩
    · intro hg20 hM23
      refine wl_sk rfl rfl rfl rfl ?_
      refine wl_sk rfl rfl rfl rfl ?_
      refine wl_y rfl (y_pick_t rfl rfl) ?_
      exact wl_weaken hM23 ⟨rfl, rfl, rfl, rfl, rfl, trivial⟩
    · intro hg20 hM23
      try (simp at hg20)
      refine wl_yg rfl rfl rfl (y_move rfl) ?_
      refine wl_yg rfl rfl rfl (y_lss rfl rfl) ?_
      refine wl_y rfl (y_pick_f rfl rfl) ?_
      exact wl_weaken hM23 ⟨rfl, rfl, rfl, rfl, rfl, trivial⟩
    ·
      refine wl_y rfl (y_move rfl) ?_
      apply wl_or 3 27 [(0, _), (2, _), (3, _), (5, _)] (t := 24) rfl ⟨rfl, rfl, rfl, rfl, trivial⟩
      · intro hg24 hM27
        refine wl_sk rfl rfl rfl rfl ?_
        refine wl_sk rfl rfl rfl rfl ?_
        refine wl_y rfl (y_pick_t rfl rfl) ?_
        exact wl_weaken hM27 ⟨rfl, rfl, rfl, rfl, rfl, trivial⟩
      · intro hg24 hM27
        try (simp at hg24)
        refine wl_yg rfl rfl rfl (y_move rfl) ?_
        refine wl_yg rfl rfl rfl (y_gtr rfl rfl) ?_
        refine wl_y rfl (y_pick_f rfl rfl) ?_
        exact wl_weaken hM27 ⟨rfl, rfl, rfl, rfl, rfl, trivial⟩
      ·
        refine wl_y rfl (y_assign rfl) ?_
        refine wl_nil ?_
        refine wq_then ?_
        refine wc_known 13 true rfl (by first | rfl | (simp; omega)) ?_
        refine wc_cond_true rfl ?_
        refine wc_seq ?_
        refine wc_region ?_
        refine wl_y rfl (y_assign rfl) ?_
        refine wl_nil ?_
        refine wq_then ?_
        refine wc_ret ?_
        refine wq_block_ret (wq_then_ret ?_)
        refine wq_ret1 rfl rfl (fun w hw => ?_)
        exact ⟨(), trivial, rfl, hw.sub (by (repeat (first | exact pt_nil | apply pt0 | apply pt1 | apply pt2 | apply pt3 | apply pt4 | apply pt5 | apply pt6 | apply pt7 | apply pt8 | apply pt9 | apply pt10 | apply pt11 | apply pt12 | apply pt13 | apply pt14 | apply pt15 | apply pt16 | apply pt17)))⟩

set_option maxHeartbeats 1000000 in
theorem qpush_raw (b : Nat) (age n : Int) (H : List (It Jb)) (oc : Option Addr × Nat) (j : Jb) (ha : 0 ≤ age ∧ age ≤ 1000000) (hn : 0 ≤ n ∧ n ≤ 1000000) (hr : 0 ≤ j.rank ∧ j.rank ≤ 9) (ht : 0 ≤ j.since ∧ j.since ≤ 1000000000) (hl : H.length ≤ 1000000) (hh : Heap H) :
    Ctr Try.prog 28 #[ptr b, agJ j, vI j.rank, vI j.since] [] (rawAs b age n H oc) (fun x : List (It Jb) × Option Addr × Nat => x.1.Perm (H ++ [(⟨j, j.rank, j.since, j.since + age * j.rank, n + 1⟩ : It Jb)]) ∧ Heap x.1) (fun _ => vI 0) (fun x => rawAs b age (n + 1) x.1 x.2) := by
  refine spec_start (n := 85) [(0, ptr b), (1, agJ j), (2, vI j.rank), (3, vI j.since)] Try.func28 rfl rfl ⟨rfl, rfl, rfl, rfl, trivial⟩ rfl ?_
  intro w0 K hR
  have hm1 : 0 ≤ age * j.rank := Int.mul_nonneg ha.1 hr.1
  have hm2 : age * j.rank ≤ 1000000 * 9 := Int.mul_le_mul ha.2 hr.2 hr.1 (by omega)
  refine wc_seq ?_
  refine wc_region ?_
  refine wl_w (fun _ _ => want_none) rfl (yw_box rfl rfl) (wl_ex fun b5 _ => ?_)
  refine wl_y rfl (y_assign rfl) ?_
  refine wl_nil ?_
  refine wq_then ?_
  refine wc_seq ?_
  refine wc_block ?_
  refine wc_seq ?_
  refine wc_region ?_
  refine wl_y rfl (y_move rfl) ?_
  refine wl_y rfl (y_eqlP Try.underlying58 rfl rfl) ?_
  refine wl_y rfl (y_assign rfl) ?_
  refine wl_nil ?_
  refine wq_then ?_
  refine wc_known 10 false rfl (rfl) ?_
  refine wc_cond_false rfl ?_
  refine wc_seq ?_
  refine wc_region ?_
  refine wl_y rfl (y_move rfl) ?_
  refine wl_y rfl (y_lss rfl rfl) ?_
  refine wl_y rfl (y_move rfl) ?_
  refine wl_known 16 false rfl (by simp; omega) ?_
  refine wl_yg rfl rfl rfl (y_move rfl) ?_
  refine wl_yg rfl rfl rfl (y_geq rfl rfl) ?_
  refine wl_y rfl (y_pick_f rfl rfl) ?_
  refine wl_y rfl (y_move rfl) ?_
  refine wl_known 20 false rfl (by simp; omega) ?_
  refine wl_yg rfl rfl rfl (y_move rfl) ?_
  refine wl_yg rfl rfl rfl (y_lss rfl rfl) ?_
  refine wl_y rfl (y_pick_f rfl rfl) ?_
  refine wl_y rfl (y_move rfl) ?_
  refine wl_known 24 false rfl (by simp; omega) ?_
  refine wl_yg rfl rfl rfl (y_move rfl) ?_
  refine wl_yg rfl rfl rfl (y_gtr rfl rfl) ?_
  refine wl_y rfl (y_pick_f rfl rfl) ?_
  refine wl_y rfl (y_assign rfl) ?_
  refine wl_nil ?_
  refine wq_then ?_
  refine wc_known 13 false rfl (by simp; omega) ?_
  refine wc_cond_false rfl ?_
  refine wc_skip ?_
  refine wq_block_normal ?_
  refine wq_then ?_
  refine wc_seq ?_
  refine wc_region ?_
  refine wl_y rfl (y_move rfl) ?_
  refine wl_y rfl (y_nilCheck rfl) ?_
  refine wl_y rfl (y_fieldAddr F92_1 rfl) ?_
  refine wl_y rfl (y_load NA3 rfl (by first | exact cell_blk [] rfl | exact cell_blk [_] rfl | exact cell_blk [_, _] rfl | exact cell_blk [_, _, _] rfl | exact cellR_blk (by assumption) rfl)) ?_
  refine wl_y rfl (y_add rfl rfl (by omega)) ?_
  refine wl_y rfl (y_nilCheck rfl) ?_
  refine wl_y rfl (y_fieldAddr F92_1 rfl) ?_
  first | refine wl_u (yu_store [] (l' := [_, _, _]) T3 rfl rfl rfl rfl rfl rfl rfl) ?_ | refine wl_u (yu_store [_] (l' := [_, _, _]) T3 rfl rfl rfl rfl rfl rfl rfl) ?_ | refine wl_u (yu_store [_, _] (l' := [_, _, _]) T3 rfl rfl rfl rfl rfl rfl rfl) ?_ | refine wl_u (yu_store [_, _, _] (l' := [_, _, _]) T3 rfl rfl rfl rfl rfl rfl rfl) ?_
  refine wl_nil ?_
  refine wq_then ?_
  refine wc_seq ?_
  refine wc_mix (.q 0 0 (.q 1 0 (.q 2 0 (.q 3 0 (.q 4 0 (.q 5 0 (.q 6 0 (.q 7 0 (.q 8 0 (.q 9 0 (.q 10 0 (.q 11 0 (.q 12 1 (.q 13 0 (.q 14 0 (.q 15 0 (.q 16 0 (.q 17 0 (.q 18 0 (.q 19 1 (.q 20 0 (.w 21 2 (.w 22 2 (.q 23 0 (.q 24 0 (.w 25 3 .nil .nil))) .nil) .nil)))))))))))))))))))))) (Sees [blk b (.cells [vI age, vI (n + 1), .slice oc.1 H.length oc.2].toArray 92 (0, 0)), blk b5 (.cells (encJ j).toArray 30 (0, 0))]) MO (by kernel_rfl) (Hp.drawless _ _ _) (fun w hw => by refine ⟨?_, ?_, trivial⟩ <;> first | exact hw.seen [] | exact hw.seen [_] | exact hw.seen [_, _] | exact hw.seen [_, _, _] | exact hw.seen [_, _, _, _] | exact hw.seen [_, _, _, _, _]) ?_
  refine wm_g rfl rfl (y_move rfl) ?_
  refine wm_g rfl rfl (y_move rfl) ?_
  refine wm_g rfl rfl (y_nilCheck rfl) ?_
  refine wm_g rfl rfl (y_fieldAddr F92_2 rfl) ?_
  refine wm_g rfl rfl (y_load NA90 rfl (fun w hw => by first | exact cell_of_heap hw.1.blk rfl | exact cell_of_heap hw.2.1.blk rfl)) ?_
  refine wm_g rfl rfl (y_loadAgg (l := [_, _, _]) AG30 rfl rfl (fun w hw => by first | exact hw.1.cells rfl | exact hw.2.1.cells rfl)) ?_
  refine wm_g rfl rfl (y_move rfl) ?_
  refine wm_g rfl rfl (y_move rfl) ?_
  refine wm_g rfl rfl (y_move rfl) ?_
  refine wm_g rfl rfl (y_move rfl) ?_
  refine wm_g rfl rfl (y_nilCheck rfl) ?_
  refine wm_g rfl rfl (y_fieldAddr F92_0 rfl) ?_
  refine wm_l rfl rfl (y_load NA3 rfl (by first | exact cell_blk [] rfl | exact cell_blk [_] rfl | exact cell_blk [_, _] rfl | exact cell_blk [_, _, _] rfl | exact cellR_blk (by assumption) rfl)) ?_
  refine wm_g rfl rfl (y_move rfl) ?_
  refine wm_g rfl rfl (y_mul rfl rfl (by omega)) ?_
  refine wm_g rfl rfl (y_add rfl rfl (by omega)) ?_
  refine wm_g rfl rfl (y_move rfl) ?_
  refine wm_g rfl rfl (y_nilCheck rfl) ?_
  refine wm_g rfl rfl (y_fieldAddr F92_1 rfl) ?_
  refine wm_l rfl rfl (y_load NA3 rfl (by first | exact cell_blk [] rfl | exact cell_blk [_] rfl | exact cell_blk [_, _] rfl | exact cell_blk [_, _, _] rfl | exact cellR_blk (by assumption) rfl)) ?_
  refine wm_g rfl rfl (y_build (cs := [_, _, _, _, _, _, _]) T97 PL97 rfl rfl rfl) ?_
  refine wm_w rfl rfl ?hC (yw_buildSlice (cs := encIt (⟨j, j.rank, j.since, j.since + age * j.rank, n + 1⟩ : It Jb)) Try.underlying90 T97 rfl rfl rfl rfl rfl rfl rfl) (wm_ex fun b56 _ => ?_)
  case hC => exact (fun _ _ h => by obtain ⟨_, _, _, hw⟩ := h; exact (by refine ⟨?_, ?_, trivial⟩ <;> first | exact hw.seen [] | exact hw.seen [_] | exact hw.seen [_, _] | exact hw.seen [_, _, _] | exact hw.seen [_, _, _, _] | exact hw.seen [_, _, _, _, _]))
  first | refine wm_w rfl rfl ?hC (yw_append [_] (cs := H.flatMap encIt) Try.underlying90 Try.underlying90 (.inl ⟨_, rfl⟩) T97 rfl rfl rfl (fun w hw => Src.slice ((hw.seen []).mono fun _ => slc_rsl)) (by omega) (by unfold maxLen; omega) (by simp [Value.oneCell', encIt]) rfl) (wm_ex fun p hp => ?_) | refine wm_w rfl rfl ?hC (yw_append [_, _] (cs := H.flatMap encIt) Try.underlying90 Try.underlying90 (.inl ⟨_, rfl⟩) T97 rfl rfl rfl (fun w hw => Src.slice ((hw.seen []).mono fun _ => slc_rsl)) (by omega) (by unfold maxLen; omega) (by simp [Value.oneCell', encIt]) rfl) (wm_ex fun p hp => ?_) | refine wm_w rfl rfl ?hC (yw_append [_, _, _] (cs := H.flatMap encIt) Try.underlying90 Try.underlying90 (.inl ⟨_, rfl⟩) T97 rfl rfl rfl (fun w hw => Src.slice ((hw.seen []).mono fun _ => slc_rsl)) (by omega) (by unfold maxLen; omega) (by simp [Value.oneCell', encIt]) rfl) (wm_ex fun p hp => ?_) | refine wm_w rfl rfl ?hC (yw_append [_, _, _, _] (cs := H.flatMap encIt) Try.underlying90 Try.underlying90 (.inl ⟨_, rfl⟩) T97 rfl rfl rfl (fun w hw => Src.slice ((hw.seen []).mono fun _ => slc_rsl)) (by omega) (by unfold maxLen; omega) (by simp [Value.oneCell', encIt]) rfl) (wm_ex fun p hp => ?_)
  case hC => exact (fun _ _ h => by obtain ⟨_, _, _, hw⟩ := h; exact (by refine ⟨?_, ?_, trivial⟩ <;> first | exact hw.seen [] | exact hw.seen [_] | exact hw.seen [_, _] | exact hw.seen [_, _, _] | exact hw.seen [_, _, _, _] | exact hw.seen [_, _, _, _, _]))
  refine wm_g rfl rfl (y_nilCheck rfl) ?_
  refine wm_g rfl rfl (y_fieldAddr F92_2 rfl) ?_
  first | refine wm_u3 rfl (yu_store [] (l' := [_, _, _]) T90 rfl rfl rfl rfl rfl rfl rfl) ?_ | refine wm_u3 rfl (yu_store [_] (l' := [_, _, _]) T90 rfl rfl rfl rfl rfl rfl rfl) ?_ | refine wm_u3 rfl (yu_store [_, _] (l' := [_, _, _]) T90 rfl rfl rfl rfl rfl rfl rfl) ?_ | refine wm_u3 rfl (yu_store [_, _, _] (l' := [_, _, _]) T90 rfl rfl rfl rfl rfl rfl rfl) ?_
  refine wm_world (S' := Hp w0 K (rawAs b age (n + 1) (H ++ [(⟨j, j.rank, j.since, j.since + age * j.rank, n + 1⟩ : It Jb)]) p)) (fun w hw => by
    have e : (H ++ [(⟨j, j.rank, j.since, j.since + age * j.rank, n + 1⟩ : It Jb)]).length = H.length + 1 := by simp
    rw [rawAs, e, List.flatMap_append, List.flatMap_singleton]; exact hw.sub (by (repeat (first | exact pt_nil | apply pt0 | apply pt1 | apply pt2 | apply pt3 | apply pt4 | apply pt5 | apply pt6 | apply pt7 | apply pt8 | apply pt9 | apply pt10 | apply pt11 | apply pt12 | apply pt13 | apply pt14 | apply pt15 | apply pt16 | apply pt17)))) ?_
  refine wm_nil ?_
  refine all_wq ?_
  refine wq_then ?_
  refine wc_seq ?_
  refine wc_seq ?_
  refine wc_region ?_
  refine wl_y rfl (y_move rfl) ?_
  refine wl_y rfl (y_nilCheck rfl) ?_
  refine wl_y rfl (y_fieldAddr F92_2 rfl) ?_
  refine wl_y rfl (y_load NA90 rfl (by first | exact cell_blk [] rfl | exact cell_blk [_] rfl | exact cell_blk [_, _] rfl | exact cell_blk [_, _, _] rfl | exact cellR_blk (by assumption) rfl)) ?_
  refine wl_y rfl (y_lenSl Try.underlying90 rfl) ?_
  refine wl_y rfl (y_sub rfl rfl (by simp only [List.length_append, List.length_singleton]; omega)) ?_
  refine wl_y rfl (y_assign rfl) ?_
  refine wl_same 9 (vI (H.length : Nat)) rfl (by rw [show ((H.length : Nat) : Int) = ((H ++ [(⟨j, j.rank, j.since, j.since + age * j.rank, n + 1⟩ : It Jb)]).length : Int) - 1 by simp]) ?_
  refine wl_nil ?_
  refine wq_then ?_
  refine wc_block ?_
  refine wc_loop (α := List (It Jb) × Nat) (fun y => Up y.1 y.2 ∧ y.1.Perm (H ++ [(⟨j, j.rank, j.since, j.since + age * j.rank, n + 1⟩ : It Jb)]) ∧ y.2 < y.1.length) [(0, _)] (fun y => [(9, vI y.2)]) (fun y => Hp w0 K (rawAs b age (n + 1) y.1 p)) (fun y => y.2) (H ++ [(⟨j, j.rank, j.since, j.since + age * j.rank, n + 1⟩ : It Jb)], H.length) ?_ ⟨rfl, rfl, trivial⟩ ?_ ?_
  · exact ⟨Up.start hh, List.Perm.refl _, by simp⟩
  · exact fun w hw => hw
  · rintro ⟨G, c⟩ ⟨hG, hp2, hc⟩; simp only at hG hp2 hc
    have hgl := hp2.length_eq
    rw [List.length_append, List.length_singleton] at hgl
    refine wc_world (S' := Hp w0 K (rawAs b age (n + 1) G p)) (fun w hw => hw) ?_
    refine wc_seq ?_
    refine wc_seq ?_
    refine wc_region ?_
    refine wl_y rfl (y_move rfl) ?_
    refine wl_y rfl (y_gtr rfl rfl) ?_
    refine wl_y rfl (y_move rfl) ?_
    refine wl_case 68 rfl (fun hg68 => ?_) (fun hg68 => ?_)
    ·
      simp at hg68
      refine wl_yg rfl rfl rfl (y_move rfl) ?_
      refine wl_yg rfl rfl rfl (y_move rfl) ?_
      refine wl_yg rfl rfl rfl (y_move rfl) ?_
      refine wl_yg rfl rfl rfl (y_sub rfl rfl (by omega)) ?_
      refine wl_yg rfl rfl rfl (y_quoN rfl rfl (by omega)) ?_
      refine wl_same 73 (vI ((c - 1) / 2 : Nat)) rfl (by rw [show (((c - 1) / 2 : Nat) : Int) = ((c : Int) - 1) / 2 by omega]) ?_
      obtain ⟨u, hu⟩ : ∃ u, G[c]? = some u := ⟨_, List.getElem?_eq_getElem (by omega)⟩
      obtain ⟨z, hz⟩ : ∃ u, G[(c - 1) / 2]? = some u := ⟨_, List.getElem?_eq_getElem (by omega)⟩
      refine wl_c (want_some rfl rfl) rfl (yc_spec (fst := []) (cap := []) _ FN49 (less_j b age (n + 1) G p c ((c - 1) / 2) u z hu hz) rfl rfl rfl (by (repeat (first | exact pt_nil | apply pt0 | apply pt1 | apply pt2 | apply pt3 | apply pt4 | apply pt5 | apply pt6 | apply pt7 | apply pt8 | apply pt9 | apply pt10 | apply pt11 | apply pt12 | apply pt13 | apply pt14 | apply pt15 | apply pt16 | apply pt17))) (by (repeat (first | exact ro_nil | exact ro_rest (by assumption) | refine ro_cons (by first | exact .inl (by assumption) | exact ro_f0 (fun _ h => h) | exact ro_f0 (fun _ => slc_rsl) | exact ro_f1 (fun _ h => h) | exact ro_f1 (fun _ => slc_rsl) | exact ro_f2 (fun _ h => h) | exact ro_f2 (fun _ => slc_rsl) | exact ro_f3 (fun _ h => h) | exact ro_f3 (fun _ => slc_rsl) | exact ro_f4 (fun _ h => h) | exact ro_f4 (fun _ => slc_rsl) | exact ro_f5 (fun _ h => h) | exact ro_f5 (fun _ => slc_rsl) | exact ro_f6 (fun _ h => h) | exact ro_f6 (fun _ => slc_rsl)) ?_)))) (wl_ex fun x74 hx74 => ?_)
      refine wl_y rfl (y_pick_t rfl rfl) ?_
      refine wl_nil ?_
      refine wq_then ?_
      refine wc_cond rfl (fun hc75 => ?_) (fun hc75 => ?_)
      ·
        refine wc_skip ?_
        refine wq_then ?_
        refine wc_seq ?_
        refine wc_block ?_
        refine wc_region ?_
        refine wl_y rfl (y_move rfl) ?_
        refine wl_y rfl (y_move rfl) ?_
        refine wl_y rfl (y_move rfl) ?_
        refine wl_y rfl (y_sub rfl rfl (by omega)) ?_
        refine wl_y rfl (y_quoN rfl rfl (by omega)) ?_
        refine wl_same 83 (vI ((c - 1) / 2 : Nat)) rfl (by rw [show (((c - 1) / 2 : Nat) : Int) = ((c : Int) - 1) / 2 by omega]) ?_
        refine wl_c (fun _ _ => want_none) rfl (yc_spec (fst := []) (cap := []) _ FN50 (swap_j b age (n + 1) G p c ((c - 1) / 2) u z hu hz) rfl rfl rfl (by (repeat (first | exact pt_nil | apply pt0 | apply pt1 | apply pt2 | apply pt3 | apply pt4 | apply pt5 | apply pt6 | apply pt7 | apply pt8 | apply pt9 | apply pt10 | apply pt11 | apply pt12 | apply pt13 | apply pt14 | apply pt15 | apply pt16 | apply pt17))) (by (repeat (first | exact ro_nil | exact ro_rest (by assumption) | refine ro_cons (by first | exact .inl (by assumption) | exact ro_f0 (fun _ h => h) | exact ro_f0 (fun _ => slc_rsl) | exact ro_f1 (fun _ h => h) | exact ro_f1 (fun _ => slc_rsl) | exact ro_f2 (fun _ h => h) | exact ro_f2 (fun _ => slc_rsl) | exact ro_f3 (fun _ h => h) | exact ro_f3 (fun _ => slc_rsl) | exact ro_f4 (fun _ h => h) | exact ro_f4 (fun _ => slc_rsl) | exact ro_f5 (fun _ h => h) | exact ro_f5 (fun _ => slc_rsl) | exact ro_f6 (fun _ h => h) | exact ro_f6 (fun _ => slc_rsl)) ?_)))) (wl_ex fun x84 hx84 => ?_)
        refine wl_nil ?_
        refine wq_block_normal ?_
        refine wq_then ?_
        refine wc_region ?_
        refine wl_y rfl (y_move rfl) ?_
        refine wl_y rfl (y_sub rfl rfl (by omega)) ?_
        refine wl_y rfl (y_quoN rfl rfl (by omega)) ?_
        refine wl_same 78 (vI ((c - 1) / 2 : Nat)) rfl (by rw [show (((c - 1) / 2 : Nat) : Int) = ((c : Int) - 1) / 2 by omega]) ?_
        refine wl_y rfl (y_assign rfl) ?_
        refine wl_nil ?_
        exact wq_round (sw G c ((c - 1) / 2) u z, (c - 1) / 2) (by simp only; omega) ⟨hG.step (by omega) hu hz hc75, (sw_perm hu hz).trans hp2, by simp only [sw_length]; omega⟩ ⟨rfl, rfl, trivial⟩ (fun w hw => hw.sub (by (repeat (first | exact pt_nil | apply pt0 | apply pt1 | apply pt2 | apply pt3 | apply pt4 | apply pt5 | apply pt6 | apply pt7 | apply pt8 | apply pt9 | apply pt10 | apply pt11 | apply pt12 | apply pt13 | apply pt14 | apply pt15 | apply pt16 | apply pt17))))
      ·
        refine wc_exit ?_
        refine wq_then_exit (wq_then_exit (wq_block_exit ?_))
        refine wq_then ?_
        refine wc_seq ?_
        refine wc_region ?_
        refine wl_y rfl (y_assign rfl) ?_
        refine wl_nil ?_
        refine wq_then ?_
        refine wc_ret ?_
        refine wq_ret1 rfl rfl (fun w hw => ?_)
        exact ⟨(G, p), ⟨hp2, hG.done fun x y _ hx hy => by rw [hu] at hx; rw [hz] at hy; cases hx; cases hy; exact hc75⟩, rfl, hw.sub (by (repeat (first | exact pt_nil | apply pt0 | apply pt1 | apply pt2 | apply pt3 | apply pt4 | apply pt5 | apply pt6 | apply pt7 | apply pt8 | apply pt9 | apply pt10 | apply pt11 | apply pt12 | apply pt13 | apply pt14 | apply pt15 | apply pt16 | apply pt17)))⟩
    ·
      simp at hg68
      refine wl_sk rfl rfl rfl rfl ?_
      refine wl_sk rfl rfl rfl rfl ?_
      refine wl_sk rfl rfl rfl rfl ?_
      refine wl_sk rfl rfl rfl rfl ?_
      refine wl_sk rfl rfl rfl rfl ?_
      refine wl_sk rfl rfl rfl rfl ?_
      refine wl_y rfl (y_pick_f rfl rfl) ?_
      refine wl_nil ?_
      refine wq_then ?_
      refine wc_cond_false rfl ?_
      refine wc_exit ?_
      refine wq_then_exit (wq_then_exit (wq_block_exit ?_))
      refine wq_then ?_
      refine wc_seq ?_
      refine wc_region ?_
      refine wl_y rfl (y_assign rfl) ?_
      refine wl_nil ?_
      refine wq_then ?_
      refine wc_ret ?_
      refine wq_ret1 rfl rfl (fun w hw => ?_)
      exact ⟨(G, p), ⟨hp2, hG.done fun x y h0 _ _ => by omega⟩, rfl, hw.sub (by (repeat (first | exact pt_nil | apply pt0 | apply pt1 | apply pt2 | apply pt3 | apply pt4 | apply pt5 | apply pt6 | apply pt7 | apply pt8 | apply pt9 | apply pt10 | apply pt11 | apply pt12 | apply pt13 | apply pt14 | apply pt15 | apply pt16 | apply pt17)))⟩


theorem qpush_ok (b : Nat) (age n : Int) (R : List (It Jb)) (j : Jb) (ha : 0 ≤ age ∧ age ≤ 1000000) (hn : 0 ≤ n ∧ n ≤ 1000000) (hr : 0 ≤ j.rank ∧ j.rank ≤ 9) (ht : 0 ≤ j.since ∧ j.since ≤ 1000000000) (hl : R.length ≤ 1000000) :
    Ctr Try.prog 28 #[ptr b, agJ j, vI j.rank, vI j.since] [] [qA b age n R] (fun _ : Unit => True) (fun _ => vI 0) (fun _ => [qA b age (n + 1) (R ++ [(⟨j, j.rank, j.since, j.since + age * j.rank, n + 1⟩ : It Jb)])]) :=
  Ctr.open fun x hx => (qpush_raw b age n x.1 x.2 j ha hn hr ht (by rw [hx.1.length_eq]; exact hl) hx.2).post (fun _ => ()) fun y hy => ⟨trivial, rfl, fun _ _ _ h => exA_shut y ⟨hy.1.trans (hx.1.append_right _), hy.2⟩ h⟩
theorem qpush_no (b : Nat) (age n : Int) (R : List (It Jb)) (j : Jb) (hb : j.rank < 0 ∨ 9 < j.rank ∨ j.since < 0 ∨ 1000000000 < j.since) :
    Ctr Try.prog 28 #[ptr b, agJ j, vI j.rank, vI j.since] [] [qA b age n R] (fun _ : Unit => True) (fun _ => vI 1) (fun _ => [qA b age n R]) :=
  Ctr.open fun x hx => (qpush_bad b age n x.1 x.2 j hb).post (fun _ => ()) fun _ _ => ⟨trivial, rfl, fun _ _ _ h => exA_shut x hx h⟩
theorem qlen_ok (b : Nat) (age n : Int) (R : List (It Jb)) : Ctr Try.prog 35 #[ptr b] [] [qA b age n R] (fun _ : Unit => True) (fun _ => vI R.length) (fun _ => [qA b age n R]) :=
  Ctr.open fun x hx => (qlen_raw b age n x.1 x.2).post (fun _ => ()) fun _ _ => ⟨trivial, by rw [hx.1.length_eq], fun _ _ _ h => exA_shut x hx h⟩
theorem qpop_em (b : Nat) (age n : Int) : Ctr Try.prog 64 #[ptr b] [] [qA b age n []] (fun _ : Unit => True) (fun _ => .tuple #[agJ noJ, .bool false]) (fun _ => [qA b age n []]) :=
  Ctr.open fun x hx => by
    obtain ⟨H, oc⟩ := x
    obtain rfl : H = [] := List.Perm.eq_nil hx.1
    exact (qpop_no b age n oc).post (fun _ => ()) fun _ _ => ⟨trivial, rfl, fun _ _ _ h => exA_shut ([], oc) hx h⟩
theorem qpop_ok (b : Nat) (age n : Int) (R : List (It Jb)) (hne : R ≠ []) (hl : R.length ≤ 1000000) (hd : R.Pairwise fun x y => x.no ≠ y.no) : Ctr Try.prog 64 #[ptr b] [] [qA b age n R] (fun r : It Jb => IsMin r R) (fun r => .tuple #[agJ r.v, .bool true]) (fun r => [qA b age n (rest R r)]) :=
  Ctr.open fun x hx => by
    have he := hx.1.length_eq
    have hp := List.length_pos_iff.2 hne
    obtain ⟨k, hk⟩ : ∃ k, x.1.length = k + 1 := ⟨x.1.length - 1, by omega⟩
    have hr : x.1[0]? = some (x.1[0]'(by omega)) := List.getElem?_eq_getElem _
    have ha : x.1[k]? = some (x.1[k]'(by omega)) := List.getElem?_eq_getElem _
    exact (qpop_raw b age n x.1 x.2 k _ _ hk hr ha hx.2 (by omega)).post (fun _ => _) fun y hy => ⟨hx.2.isMin hr hx.1, rfl, fun _ _ _ h => exA_shut y ⟨rest_perm (hy.1.trans hx.1) hd, hy.2⟩ h⟩
end Go.Proofs.Ytfnpjmlpiedgdaa
