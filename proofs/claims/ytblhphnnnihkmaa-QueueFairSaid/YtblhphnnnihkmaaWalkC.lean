/-
  Walks: made, looked at.
-/
import Derived.Test.YtblhphnnnihkmaaWalkB

namespace Go.Proofs.Ytblhphnnnihkmaa
open Go.Eng

set_option maxHeartbeats 1000000 in
theorem new_i_lo (w : Int) (hw : w < 1) :
    Ctr Try.prog 8 #[vI w] [] [] (fun _ : Unit => True) (fun _ => .tuple #[.pointer none, vI 1]) (fun _ => []) := by
  refine spec_start (n := 13) [(0, vI w)] Try.func8 rfl rfl ⟨rfl, trivial⟩ rfl ?_
  intro w0 K hR
  refine wc_seq ?_
  refine wc_region ?_
  refine wl_y rfl (y_assign rfl) ?_
  refine wl_y rfl (y_assign rfl) ?_
  refine wl_nil ?_
  refine wq_then ?_
  refine wc_seq ?_
  refine wc_seq ?_
  refine wc_region ?_
  refine wl_y rfl (y_move rfl) ?_
  refine wl_y rfl (y_lss rfl rfl) ?_
  refine wl_y rfl (y_move rfl) ?_
  refine wl_known 6 true rfl (by simp; omega) ?_
  refine wl_sk rfl rfl rfl rfl ?_
  refine wl_sk rfl rfl rfl rfl ?_
  refine wl_y rfl (y_pick_t rfl rfl) ?_
  refine wl_nil ?_
  refine wq_then ?_
  refine wc_cond_true rfl ?_
  refine wc_seq ?_
  refine wc_region ?_
  refine wl_y rfl (y_assign rfl) ?_
  refine wl_y rfl (y_assign rfl) ?_
  refine wl_nil ?_
  refine wq_then ?_
  refine wc_ret ?_
  refine wq_then_ret ?_
  refine wq_ret2 rfl rfl rfl (fun w hw => ?_)
  exact ⟨(), trivial, rfl, hw⟩

set_option maxHeartbeats 1000000 in
theorem new_i_hi (w : Int) (hw : 1000000 < w) :
    Ctr Try.prog 8 #[vI w] [] [] (fun _ : Unit => True) (fun _ => .tuple #[.pointer none, vI 1]) (fun _ => []) := by
  refine spec_start (n := 13) [(0, vI w)] Try.func8 rfl rfl ⟨rfl, trivial⟩ rfl ?_
  intro w0 K hR
  refine wc_seq ?_
  refine wc_region ?_
  refine wl_y rfl (y_assign rfl) ?_
  refine wl_y rfl (y_assign rfl) ?_
  refine wl_nil ?_
  refine wq_then ?_
  refine wc_seq ?_
  refine wc_seq ?_
  refine wc_region ?_
  refine wl_y rfl (y_move rfl) ?_
  refine wl_y rfl (y_lss rfl rfl) ?_
  refine wl_y rfl (y_move rfl) ?_
  refine wl_known 6 false rfl (by simp; omega) ?_
  refine wl_yg rfl rfl rfl (y_move rfl) ?_
  refine wl_yg rfl rfl rfl (y_gtr rfl rfl) ?_
  refine wl_y rfl (y_pick_f rfl rfl) ?_
  refine wl_nil ?_
  refine wq_then ?_
  refine wc_known 9 true rfl (by simp; omega) ?_
  refine wc_cond_true rfl ?_
  refine wc_seq ?_
  refine wc_region ?_
  refine wl_y rfl (y_assign rfl) ?_
  refine wl_y rfl (y_assign rfl) ?_
  refine wl_nil ?_
  refine wq_then ?_
  refine wc_ret ?_
  refine wq_then_ret ?_
  refine wq_ret2 rfl rfl rfl (fun w hw => ?_)
  exact ⟨(), trivial, rfl, hw⟩

set_option maxHeartbeats 1000000 in
theorem new_i_ok (age : Int) (h1 : 1 ≤ age) (h2 : age ≤ 1000000) :
    Ctr Try.prog 8 #[vI age] [] [] (fun _ : Nat => True) (fun b => .tuple #[ptr b, vI 0]) (fun b => [qA 50 58 vI b age 0 []]) := by
  refine spec_start (n := 13) [(0, vI age)] Try.func8 rfl rfl ⟨rfl, trivial⟩ rfl ?_
  intro w0 K hR
  refine wc_seq ?_
  refine wc_region ?_
  refine wl_y rfl (y_assign rfl) ?_
  refine wl_y rfl (y_assign rfl) ?_
  refine wl_nil ?_
  refine wq_then ?_
  refine wc_seq ?_
  refine wc_seq ?_
  refine wc_region ?_
  refine wl_y rfl (y_move rfl) ?_
  refine wl_y rfl (y_lss rfl rfl) ?_
  refine wl_y rfl (y_move rfl) ?_
  refine wl_known 6 false rfl (by simp; omega) ?_
  refine wl_yg rfl rfl rfl (y_move rfl) ?_
  refine wl_yg rfl rfl rfl (y_gtr rfl rfl) ?_
  refine wl_y rfl (y_pick_f rfl rfl) ?_
  refine wl_nil ?_
  refine wq_then ?_
  refine wc_known 9 false rfl (by simp; omega) ?_
  refine wc_cond_false rfl ?_
  refine wc_skip ?_
  refine wq_then ?_
  refine wc_seq ?_
  refine wc_region ?_
  refine wl_y rfl (y_move rfl) ?_
  refine wl_y rfl (y_build (cs := [_, _, _]) T50 PL50 rfl rfl rfl) ?_
  refine wl_w (fun _ _ => want_none) rfl (yw_box rfl rfl) (wl_ex fun b12 _ => ?_)
  refine wl_y rfl (y_assign rfl) ?_
  refine wl_y rfl (y_assign rfl) ?_
  refine wl_nil ?_
  refine wq_then ?_
  refine wc_ret ?_
  refine wq_ret2 rfl rfl rfl (fun w hw => ?_)
  exact ⟨_, trivial, rfl, exA_shut ([], none, 0) ⟨List.Perm.refl _, fun i a b _ h => by simp at h⟩ (Hp.addNil [_] [] hw)⟩

set_option maxHeartbeats 1000000 in
theorem len_raw_i (b : Nat) (age n : Int) (H : List (It Int)) (oc : Option Addr × Nat) :
    Ctr Try.prog 17 #[ptr b] [] (rawAs 50 58 vI b age n H oc) (fun _ : Unit => True) (fun _ => vI H.length) (fun _ => rawAs 50 58 vI b age n H oc) := by
  refine spec_start (n := 10) [(0, ptr b)] Try.func17 rfl rfl ⟨rfl, trivial⟩ rfl ?_
  intro w0 K hR
  refine wc_seq ?_
  refine wc_region ?_
  refine wl_y rfl (y_assign rfl) ?_
  refine wl_nil ?_
  refine wq_then ?_
  refine wc_seq ?_
  refine wc_seq ?_
  refine wc_region ?_
  refine wl_y rfl (y_move rfl) ?_
  refine wl_y rfl (y_eqlP Try.underlying23 rfl rfl) ?_
  refine wl_nil ?_
  refine wq_then ?_
  refine wc_known 4 false rfl (rfl) ?_
  refine wc_cond_false rfl ?_
  refine wc_skip ?_
  refine wq_then ?_
  refine wc_seq ?_
  refine wc_region ?_
  refine wl_y rfl (y_move rfl) ?_
  refine wl_y rfl (y_nilCheck rfl) ?_
  refine wl_y rfl (y_fieldAddr F50_2 rfl) ?_
  refine wl_y rfl (y_load NA48 rfl (by first | exact cell_blk [] rfl | exact cell_blk [_] rfl | exact cell_blk [_, _] rfl)) ?_
  refine wl_y rfl (y_lenSl Try.underlying48 rfl) ?_
  refine wl_y rfl (y_assign rfl) ?_
  refine wl_nil ?_
  refine wq_then ?_
  refine wc_ret ?_
  refine wq_ret1 rfl rfl (fun w hw => ?_)
  exact ⟨(), trivial, rfl, hw⟩

set_option maxHeartbeats 1000000 in
theorem len_nil_i  :
    Ctr Try.prog 17 #[.pointer none] [] [] (fun _ : Unit => True) (fun _ => vI 0) (fun _ => []) := by
  refine spec_start (n := 10) [(0, .pointer none)] Try.func17 rfl rfl ⟨rfl, trivial⟩ rfl ?_
  intro w0 K hR
  refine wc_seq ?_
  refine wc_region ?_
  refine wl_y rfl (y_assign rfl) ?_
  refine wl_nil ?_
  refine wq_then ?_
  refine wc_seq ?_
  refine wc_seq ?_
  refine wc_region ?_
  refine wl_y rfl (y_move rfl) ?_
  refine wl_y rfl (y_eqlP Try.underlying23 rfl rfl) ?_
  refine wl_nil ?_
  refine wq_then ?_
  refine wc_known 4 true rfl (rfl) ?_
  refine wc_cond_true rfl ?_
  refine wc_seq ?_
  refine wc_region ?_
  refine wl_y rfl (y_assign rfl) ?_
  refine wl_nil ?_
  refine wq_then ?_
  refine wc_ret ?_
  refine wq_then_ret ?_
  refine wq_ret1 rfl rfl (fun w hw => ?_)
  exact ⟨(), trivial, rfl, hw⟩

set_option maxHeartbeats 1000000 in
theorem peek_nil_i  :
    Ctr Try.prog 15 #[.pointer none] [] [] (fun _ : Unit => True) (fun _ => .tuple #[vI 0, vI 0, vI 0, .bool false]) (fun _ => []) := by
  refine spec_start (n := 24) [(0, .pointer none)] Try.func15 rfl rfl ⟨rfl, trivial⟩ rfl ?_
  intro w0 K hR
  refine wc_seq ?_
  refine wc_region ?_
  refine wl_y rfl (y_assign rfl) ?_
  refine wl_y rfl (y_assign rfl) ?_
  refine wl_y rfl (y_assign rfl) ?_
  refine wl_y rfl (y_assign rfl) ?_
  refine wl_nil ?_
  refine wq_then ?_
  refine wc_seq ?_
  refine wc_seq ?_
  refine wc_region ?_
  refine wl_y rfl (y_move rfl) ?_
  refine wl_c (fun _ _ => want_none) rfl (yc_spec (fst := []) (cap := []) _ FN17 len_nil_i rfl rfl rfl (by simp) (by (repeat (first | exact pt_nil | apply pt0 | apply pt1 | apply pt2 | apply pt3 | apply pt4 | apply pt5 | apply pt6 | apply pt7 | apply pt8 | apply pt9 | apply pt10 | apply pt11 | apply pt12 | apply pt13 | apply pt14 | apply pt15 | apply pt16 | apply pt17)))) (wl_ex fun x9 hx9 => ?_)
  refine wl_y rfl (y_eqlI rfl rfl) ?_
  refine wl_nil ?_
  refine wq_then ?_
  refine wc_known 10 true rfl (rfl) ?_
  refine wc_cond_true rfl ?_
  refine wc_seq ?_
  refine wc_region ?_
  refine wl_y rfl (y_assign rfl) ?_
  refine wl_nil ?_
  refine wq_then ?_
  refine wc_seq ?_
  refine wc_region ?_
  refine wl_y rfl (y_move rfl) ?_
  refine wl_y rfl (y_assign rfl) ?_
  refine wl_y rfl (y_assign rfl) ?_
  refine wl_y rfl (y_assign rfl) ?_
  refine wl_y rfl (y_assign rfl) ?_
  refine wl_nil ?_
  refine wq_then ?_
  refine wc_ret ?_
  refine wq_then_ret ?_
  refine wq_ret4 rfl rfl rfl rfl rfl (fun w hw => ?_)
  exact ⟨(), trivial, rfl, hw⟩

set_option maxHeartbeats 1000000 in
theorem peek_no_i (b : Nat) (age n : Int) (oc : Option Addr × Nat) :
    Ctr Try.prog 15 #[ptr b] [] (rawAs 50 58 vI b age n [] oc) (fun _ : Unit => True) (fun _ => .tuple #[vI 0, vI 0, vI 0, .bool false]) (fun _ => rawAs 50 58 vI b age n [] oc) := by
  refine spec_start (n := 24) [(0, ptr b)] Try.func15 rfl rfl ⟨rfl, trivial⟩ rfl ?_
  intro w0 K hR
  refine wc_seq ?_
  refine wc_region ?_
  refine wl_y rfl (y_assign rfl) ?_
  refine wl_y rfl (y_assign rfl) ?_
  refine wl_y rfl (y_assign rfl) ?_
  refine wl_y rfl (y_assign rfl) ?_
  refine wl_nil ?_
  refine wq_then ?_
  refine wc_seq ?_
  refine wc_seq ?_
  refine wc_region ?_
  refine wl_y rfl (y_move rfl) ?_
  refine wl_c (fun _ _ => want_none) rfl (yc_spec (fst := []) (cap := []) _ FN17 (len_raw_i b age n [] oc) rfl rfl rfl (by simp) (by (repeat (first | exact pt_nil | apply pt0 | apply pt1 | apply pt2 | apply pt3 | apply pt4 | apply pt5 | apply pt6 | apply pt7 | apply pt8 | apply pt9 | apply pt10 | apply pt11 | apply pt12 | apply pt13 | apply pt14 | apply pt15 | apply pt16 | apply pt17)))) (wl_ex fun x9 hx9 => ?_)
  refine wl_y rfl (y_eqlI rfl rfl) ?_
  refine wl_nil ?_
  refine wq_then ?_
  refine wc_known 10 true rfl (rfl) ?_
  refine wc_cond_true rfl ?_
  refine wc_seq ?_
  refine wc_region ?_
  refine wl_y rfl (y_assign rfl) ?_
  refine wl_nil ?_
  refine wq_then ?_
  refine wc_seq ?_
  refine wc_region ?_
  refine wl_y rfl (y_move rfl) ?_
  refine wl_y rfl (y_assign rfl) ?_
  refine wl_y rfl (y_assign rfl) ?_
  refine wl_y rfl (y_assign rfl) ?_
  refine wl_y rfl (y_assign rfl) ?_
  refine wl_nil ?_
  refine wq_then ?_
  refine wc_ret ?_
  refine wq_then_ret ?_
  refine wq_ret4 rfl rfl rfl rfl rfl (fun w hw => ?_)
  exact ⟨(), trivial, rfl, hw.left (Bs := [])⟩

set_option maxHeartbeats 1000000 in
theorem peek_raw_i (b : Nat) (age n : Int) (H : List (It Int)) (oc : Option Addr × Nat) (r : It Int) (hr : H[0]? = some r) :
    Ctr Try.prog 15 #[ptr b] [] (rawAs 50 58 vI b age n H oc) (fun _ : Unit => True) (fun _ => .tuple #[vI r.v, vI r.rank, vI r.tm, .bool true]) (fun _ => rawAs 50 58 vI b age n H oc) := by
  refine spec_start (n := 24) [(0, ptr b)] Try.func15 rfl rfl ⟨rfl, trivial⟩ rfl ?_
  intro w0 K hR
  have hrl := (List.getElem?_eq_some_iff.1 hr).1
  refine wc_seq ?_
  refine wc_region ?_
  refine wl_y rfl (y_assign rfl) ?_
  refine wl_y rfl (y_assign rfl) ?_
  refine wl_y rfl (y_assign rfl) ?_
  refine wl_y rfl (y_assign rfl) ?_
  refine wl_nil ?_
  refine wq_then ?_
  refine wc_seq ?_
  refine wc_seq ?_
  refine wc_region ?_
  refine wl_y rfl (y_move rfl) ?_
  refine wl_c (fun _ _ => want_none) rfl (yc_spec (fst := []) (cap := []) _ FN17 (len_raw_i b age n H oc) rfl rfl rfl (by simp) (by (repeat (first | exact pt_nil | apply pt0 | apply pt1 | apply pt2 | apply pt3 | apply pt4 | apply pt5 | apply pt6 | apply pt7 | apply pt8 | apply pt9 | apply pt10 | apply pt11 | apply pt12 | apply pt13 | apply pt14 | apply pt15 | apply pt16 | apply pt17)))) (wl_ex fun x9 hx9 => ?_)
  refine wl_world (S' := Hp w0 K (rawAs 50 58 vI b age n H oc)) (fun w hw => hw.left (Bs := [])) ?_
  refine wl_y rfl (y_eqlI rfl rfl) ?_
  refine wl_nil ?_
  refine wq_then ?_
  refine wc_known 10 false rfl (decide_eq_false (by omega)) ?_
  refine wc_cond_false rfl ?_
  refine wc_skip ?_
  refine wq_then ?_
  refine wc_seq ?_
  refine wc_region ?_
  refine wl_y rfl (y_move rfl) ?_
  refine wl_y rfl (y_nilCheck rfl) ?_
  refine wl_y rfl (y_fieldAddr F50_2 rfl) ?_
  refine wl_y rfl (y_load NA48 rfl (by first | exact cell_blk [] rfl | exact cell_blk [_] rfl | exact cell_blk [_, _] rfl)) ?_
  refine wl_y rfl (y_indexAddr (i := 0) Try.underlying48 T58 rfl rfl rfl hrl (fun w hw => hw.slc_isSome [_] hrl)) ?_
  refine wl_y rfl (y_loadAgg (l := encIt vI r) AG58 rfl rfl (agg_own [_] (fun i u h => rows_get (k := 0) (encIt_len vI) hr h))) ?_
  refine wl_w (fun _ _ => want_none) rfl (yw_alloc T58 rfl) (wl_ex fun b7 _ => ?_)
  first | refine wl_u (yu_storeAgg [] (l' := [_, _, _, _, _]) T58 rfl rfl rfl (by simp [Value.oneCell', encIt]) rfl rfl) ?_ | refine wl_u (yu_storeAgg [_] (l' := [_, _, _, _, _]) T58 rfl rfl rfl (by simp [Value.oneCell', encIt]) rfl rfl) ?_ | refine wl_u (yu_storeAgg [_, _] (l' := [_, _, _, _, _]) T58 rfl rfl rfl (by simp [Value.oneCell', encIt]) rfl rfl) ?_
  refine wl_nil ?_
  refine wq_then ?_
  refine wc_seq ?_
  refine wc_quiet MO (by kernel_rfl) (Hp.drawless _ _ _) ?_
  refine wt_y rfl (y_fieldAddr F58_0 rfl) ?_
  refine wt_y rfl (y_load NA3 rfl (by first | exact cell_blk [] rfl | exact cell_blk [_] rfl | exact cell_blk [_, _] rfl)) ?_
  refine wt_y rfl (y_fieldAddr F58_1 rfl) ?_
  refine wt_y rfl (y_load NA3 rfl (by first | exact cell_blk [] rfl | exact cell_blk [_] rfl | exact cell_blk [_, _] rfl)) ?_
  refine wt_y rfl (y_fieldAddr F58_2 rfl) ?_
  refine wt_y rfl (y_load NA3 rfl (by first | exact cell_blk [] rfl | exact cell_blk [_] rfl | exact cell_blk [_, _] rfl)) ?_
  refine wt_y rfl (y_assign rfl) ?_
  refine wt_y rfl (y_assign rfl) ?_
  refine wt_y rfl (y_assign rfl) ?_
  refine wt_y rfl (y_assign rfl) ?_
  refine wt_nil ?_
  refine wq_then ?_
  refine wc_ret ?_
  refine wq_ret4 rfl rfl rfl rfl rfl (fun w hw => ?_)
  exact ⟨(), trivial, rfl, hw.drop⟩

set_option maxHeartbeats 1000000 in
theorem pop_nil_i  :
    Ctr Try.prog 13 #[.pointer none] [] [] (fun _ : Unit => True) (fun _ => .tuple #[vI 0, .bool false]) (fun _ => []) := by
  refine spec_start (n := 39) [(0, .pointer none)] Try.func13 rfl rfl ⟨rfl, trivial⟩ rfl ?_
  intro w0 K hR
  refine wc_seq ?_
  refine wc_region ?_
  refine wl_y rfl (y_assign rfl) ?_
  refine wl_y rfl (y_assign rfl) ?_
  refine wl_nil ?_
  refine wq_then ?_
  refine wc_seq ?_
  refine wc_region ?_
  refine wl_y rfl (y_move rfl) ?_
  refine wl_c (fun _ _ => want_none) rfl (yc_spec (fst := []) (cap := []) _ FN15 peek_nil_i rfl rfl rfl (by simp) (by (repeat (first | exact pt_nil | apply pt0 | apply pt1 | apply pt2 | apply pt3 | apply pt4 | apply pt5 | apply pt6 | apply pt7 | apply pt8 | apply pt9 | apply pt10 | apply pt11 | apply pt12 | apply pt13 | apply pt14 | apply pt15 | apply pt16 | apply pt17)))) (wl_ex fun x11 hx11 => ?_)
  refine wl_y rfl (y_move rfl) ?_
  refine wl_y rfl (y_extract rfl rfl) ?_
  refine wl_y rfl (y_extract rfl rfl) ?_
  refine wl_y rfl (y_extract rfl rfl) ?_
  refine wl_y rfl (y_extract rfl rfl) ?_
  refine wl_y rfl (y_assign rfl) ?_
  refine wl_y rfl (y_assign rfl) ?_
  refine wl_y rfl (y_assign rfl) ?_
  refine wl_y rfl (y_assign rfl) ?_
  refine wl_nil ?_
  refine wq_then ?_
  refine wc_seq ?_
  refine wc_seq ?_
  refine wc_region ?_
  refine wl_y rfl (y_move rfl) ?_
  refine wl_nil ?_
  refine wq_then ?_
  refine wc_known 16 false rfl (rfl) ?_
  refine wc_cond_false rfl ?_
  refine wc_skip ?_
  refine wq_then ?_
  refine wc_seq ?_
  refine wc_region ?_
  refine wl_y rfl (y_move rfl) ?_
  refine wl_y rfl (y_move rfl) ?_
  refine wl_y rfl (y_assign rfl) ?_
  refine wl_y rfl (y_assign rfl) ?_
  refine wl_nil ?_
  refine wq_then ?_
  refine wc_ret ?_
  refine wq_ret2 rfl rfl rfl (fun w hw => ?_)
  exact ⟨(), trivial, rfl, hw⟩

set_option maxHeartbeats 1000000 in
theorem pop_no_i (b : Nat) (age n : Int) (oc : Option Addr × Nat) :
    Ctr Try.prog 13 #[ptr b] [] (rawAs 50 58 vI b age n [] oc) (fun _ : Unit => True) (fun _ => .tuple #[vI 0, .bool false]) (fun _ => rawAs 50 58 vI b age n [] oc) := by
  refine spec_start (n := 39) [(0, ptr b)] Try.func13 rfl rfl ⟨rfl, trivial⟩ rfl ?_
  intro w0 K hR
  refine wc_seq ?_
  refine wc_region ?_
  refine wl_y rfl (y_assign rfl) ?_
  refine wl_y rfl (y_assign rfl) ?_
  refine wl_nil ?_
  refine wq_then ?_
  refine wc_seq ?_
  refine wc_region ?_
  refine wl_y rfl (y_move rfl) ?_
  refine wl_c (fun _ _ => want_none) rfl (yc_spec (fst := []) (cap := []) _ FN15 (peek_no_i b age n oc) rfl rfl rfl (by simp) (by (repeat (first | exact pt_nil | apply pt0 | apply pt1 | apply pt2 | apply pt3 | apply pt4 | apply pt5 | apply pt6 | apply pt7 | apply pt8 | apply pt9 | apply pt10 | apply pt11 | apply pt12 | apply pt13 | apply pt14 | apply pt15 | apply pt16 | apply pt17)))) (wl_ex fun x11 hx11 => ?_)
  refine wl_y rfl (y_move rfl) ?_
  refine wl_y rfl (y_extract rfl rfl) ?_
  refine wl_y rfl (y_extract rfl rfl) ?_
  refine wl_y rfl (y_extract rfl rfl) ?_
  refine wl_y rfl (y_extract rfl rfl) ?_
  refine wl_y rfl (y_assign rfl) ?_
  refine wl_y rfl (y_assign rfl) ?_
  refine wl_y rfl (y_assign rfl) ?_
  refine wl_y rfl (y_assign rfl) ?_
  refine wl_nil ?_
  refine wq_then ?_
  refine wc_seq ?_
  refine wc_seq ?_
  refine wc_region ?_
  refine wl_y rfl (y_move rfl) ?_
  refine wl_nil ?_
  refine wq_then ?_
  refine wc_known 16 false rfl (rfl) ?_
  refine wc_cond_false rfl ?_
  refine wc_skip ?_
  refine wq_then ?_
  refine wc_seq ?_
  refine wc_region ?_
  refine wl_y rfl (y_move rfl) ?_
  refine wl_y rfl (y_move rfl) ?_
  refine wl_y rfl (y_assign rfl) ?_
  refine wl_y rfl (y_assign rfl) ?_
  refine wl_nil ?_
  refine wq_then ?_
  refine wc_ret ?_
  refine wq_ret2 rfl rfl rfl (fun w hw => ?_)
  exact ⟨(), trivial, rfl, hw.left (Bs := [])⟩

set_option maxHeartbeats 1000000 in
theorem new_s_lo (w : Int) (hw : w < 1) :
    Ctr Try.prog 18 #[vI w] [] [] (fun _ : Unit => True) (fun _ => .tuple #[.pointer none, vI 1]) (fun _ => []) := by
  refine spec_start (n := 13) [(0, vI w)] Try.func18 rfl rfl ⟨rfl, trivial⟩ rfl ?_
  intro w0 K hR
  refine wc_seq ?_
  refine wc_region ?_
  refine wl_y rfl (y_assign rfl) ?_
  refine wl_y rfl (y_assign rfl) ?_
  refine wl_nil ?_
  refine wq_then ?_
  refine wc_seq ?_
  refine wc_seq ?_
  refine wc_region ?_
  refine wl_y rfl (y_move rfl) ?_
  refine wl_y rfl (y_lss rfl rfl) ?_
  refine wl_y rfl (y_move rfl) ?_
  refine wl_known 6 true rfl (by simp; omega) ?_
  refine wl_sk rfl rfl rfl rfl ?_
  refine wl_sk rfl rfl rfl rfl ?_
  refine wl_y rfl (y_pick_t rfl rfl) ?_
  refine wl_nil ?_
  refine wq_then ?_
  refine wc_cond_true rfl ?_
  refine wc_seq ?_
  refine wc_region ?_
  refine wl_y rfl (y_assign rfl) ?_
  refine wl_y rfl (y_assign rfl) ?_
  refine wl_nil ?_
  refine wq_then ?_
  refine wc_ret ?_
  refine wq_then_ret ?_
  refine wq_ret2 rfl rfl rfl (fun w hw => ?_)
  exact ⟨(), trivial, rfl, hw⟩

set_option maxHeartbeats 1000000 in
theorem new_s_hi (w : Int) (hw : 1000000 < w) :
    Ctr Try.prog 18 #[vI w] [] [] (fun _ : Unit => True) (fun _ => .tuple #[.pointer none, vI 1]) (fun _ => []) := by
  refine spec_start (n := 13) [(0, vI w)] Try.func18 rfl rfl ⟨rfl, trivial⟩ rfl ?_
  intro w0 K hR
  refine wc_seq ?_
  refine wc_region ?_
  refine wl_y rfl (y_assign rfl) ?_
  refine wl_y rfl (y_assign rfl) ?_
  refine wl_nil ?_
  refine wq_then ?_
  refine wc_seq ?_
  refine wc_seq ?_
  refine wc_region ?_
  refine wl_y rfl (y_move rfl) ?_
  refine wl_y rfl (y_lss rfl rfl) ?_
  refine wl_y rfl (y_move rfl) ?_
  refine wl_known 6 false rfl (by simp; omega) ?_
  refine wl_yg rfl rfl rfl (y_move rfl) ?_
  refine wl_yg rfl rfl rfl (y_gtr rfl rfl) ?_
  refine wl_y rfl (y_pick_f rfl rfl) ?_
  refine wl_nil ?_
  refine wq_then ?_
  refine wc_known 9 true rfl (by simp; omega) ?_
  refine wc_cond_true rfl ?_
  refine wc_seq ?_
  refine wc_region ?_
  refine wl_y rfl (y_assign rfl) ?_
  refine wl_y rfl (y_assign rfl) ?_
  refine wl_nil ?_
  refine wq_then ?_
  refine wc_ret ?_
  refine wq_then_ret ?_
  refine wq_ret2 rfl rfl rfl (fun w hw => ?_)
  exact ⟨(), trivial, rfl, hw⟩

set_option maxHeartbeats 1000000 in
theorem new_s_ok (age : Int) (h1 : 1 ≤ age) (h2 : age ≤ 1000000) :
    Ctr Try.prog 18 #[vI age] [] [] (fun _ : Nat => True) (fun b => .tuple #[ptr b, vI 0]) (fun b => [qA 64 66 vS b age 0 []]) := by
  refine spec_start (n := 13) [(0, vI age)] Try.func18 rfl rfl ⟨rfl, trivial⟩ rfl ?_
  intro w0 K hR
  refine wc_seq ?_
  refine wc_region ?_
  refine wl_y rfl (y_assign rfl) ?_
  refine wl_y rfl (y_assign rfl) ?_
  refine wl_nil ?_
  refine wq_then ?_
  refine wc_seq ?_
  refine wc_seq ?_
  refine wc_region ?_
  refine wl_y rfl (y_move rfl) ?_
  refine wl_y rfl (y_lss rfl rfl) ?_
  refine wl_y rfl (y_move rfl) ?_
  refine wl_known 6 false rfl (by simp; omega) ?_
  refine wl_yg rfl rfl rfl (y_move rfl) ?_
  refine wl_yg rfl rfl rfl (y_gtr rfl rfl) ?_
  refine wl_y rfl (y_pick_f rfl rfl) ?_
  refine wl_nil ?_
  refine wq_then ?_
  refine wc_known 9 false rfl (by simp; omega) ?_
  refine wc_cond_false rfl ?_
  refine wc_skip ?_
  refine wq_then ?_
  refine wc_seq ?_
  refine wc_region ?_
  refine wl_y rfl (y_move rfl) ?_
  refine wl_y rfl (y_build (cs := [_, _, _]) T64 PL64 rfl rfl rfl) ?_
  refine wl_w (fun _ _ => want_none) rfl (yw_box rfl rfl) (wl_ex fun b12 _ => ?_)
  refine wl_y rfl (y_assign rfl) ?_
  refine wl_y rfl (y_assign rfl) ?_
  refine wl_nil ?_
  refine wq_then ?_
  refine wc_ret ?_
  refine wq_ret2 rfl rfl rfl (fun w hw => ?_)
  exact ⟨_, trivial, rfl, exA_shut ([], none, 0) ⟨List.Perm.refl _, fun i a b _ h => by simp at h⟩ (Hp.addNil [_] [] hw)⟩

set_option maxHeartbeats 1000000 in
theorem len_raw_s (b : Nat) (age n : Int) (H : List (It Str)) (oc : Option Addr × Nat) :
    Ctr Try.prog 29 #[ptr b] [] (rawAs 64 66 vS b age n H oc) (fun _ : Unit => True) (fun _ => vI H.length) (fun _ => rawAs 64 66 vS b age n H oc) := by
  refine spec_start (n := 10) [(0, ptr b)] Try.func29 rfl rfl ⟨rfl, trivial⟩ rfl ?_
  intro w0 K hR
  refine wc_seq ?_
  refine wc_region ?_
  refine wl_y rfl (y_assign rfl) ?_
  refine wl_nil ?_
  refine wq_then ?_
  refine wc_seq ?_
  refine wc_seq ?_
  refine wc_region ?_
  refine wl_y rfl (y_move rfl) ?_
  refine wl_y rfl (y_eqlP Try.underlying51 rfl rfl) ?_
  refine wl_nil ?_
  refine wq_then ?_
  refine wc_known 4 false rfl (rfl) ?_
  refine wc_cond_false rfl ?_
  refine wc_skip ?_
  refine wq_then ?_
  refine wc_seq ?_
  refine wc_region ?_
  refine wl_y rfl (y_move rfl) ?_
  refine wl_y rfl (y_nilCheck rfl) ?_
  refine wl_y rfl (y_fieldAddr F64_2 rfl) ?_
  refine wl_y rfl (y_load NA62 rfl (by first | exact cell_blk [] rfl | exact cell_blk [_] rfl | exact cell_blk [_, _] rfl)) ?_
  refine wl_y rfl (y_lenSl Try.underlying62 rfl) ?_
  refine wl_y rfl (y_assign rfl) ?_
  refine wl_nil ?_
  refine wq_then ?_
  refine wc_ret ?_
  refine wq_ret1 rfl rfl (fun w hw => ?_)
  exact ⟨(), trivial, rfl, hw⟩

set_option maxHeartbeats 1000000 in
theorem len_nil_s  :
    Ctr Try.prog 29 #[.pointer none] [] [] (fun _ : Unit => True) (fun _ => vI 0) (fun _ => []) := by
  refine spec_start (n := 10) [(0, .pointer none)] Try.func29 rfl rfl ⟨rfl, trivial⟩ rfl ?_
  intro w0 K hR
  refine wc_seq ?_
  refine wc_region ?_
  refine wl_y rfl (y_assign rfl) ?_
  refine wl_nil ?_
  refine wq_then ?_
  refine wc_seq ?_
  refine wc_seq ?_
  refine wc_region ?_
  refine wl_y rfl (y_move rfl) ?_
  refine wl_y rfl (y_eqlP Try.underlying51 rfl rfl) ?_
  refine wl_nil ?_
  refine wq_then ?_
  refine wc_known 4 true rfl (rfl) ?_
  refine wc_cond_true rfl ?_
  refine wc_seq ?_
  refine wc_region ?_
  refine wl_y rfl (y_assign rfl) ?_
  refine wl_nil ?_
  refine wq_then ?_
  refine wc_ret ?_
  refine wq_then_ret ?_
  refine wq_ret1 rfl rfl (fun w hw => ?_)
  exact ⟨(), trivial, rfl, hw⟩

set_option maxHeartbeats 1000000 in
theorem peek_nil_s  :
    Ctr Try.prog 27 #[.pointer none] [] [] (fun _ : Unit => True) (fun _ => .tuple #[vS [], vI 0, vI 0, .bool false]) (fun _ => []) := by
  refine spec_start (n := 24) [(0, .pointer none)] Try.func27 rfl rfl ⟨rfl, trivial⟩ rfl ?_
  intro w0 K hR
  refine wc_seq ?_
  refine wc_region ?_
  refine wl_y rfl (y_assign rfl) ?_
  refine wl_y rfl (y_assign rfl) ?_
  refine wl_y rfl (y_assign rfl) ?_
  refine wl_y rfl (y_assign rfl) ?_
  refine wl_nil ?_
  refine wq_then ?_
  refine wc_seq ?_
  refine wc_seq ?_
  refine wc_region ?_
  refine wl_y rfl (y_move rfl) ?_
  refine wl_c (fun _ _ => want_none) rfl (yc_spec (fst := []) (cap := []) _ FN29 len_nil_s rfl rfl rfl (by simp) (by (repeat (first | exact pt_nil | apply pt0 | apply pt1 | apply pt2 | apply pt3 | apply pt4 | apply pt5 | apply pt6 | apply pt7 | apply pt8 | apply pt9 | apply pt10 | apply pt11 | apply pt12 | apply pt13 | apply pt14 | apply pt15 | apply pt16 | apply pt17)))) (wl_ex fun x9 hx9 => ?_)
  refine wl_y rfl (y_eqlI rfl rfl) ?_
  refine wl_nil ?_
  refine wq_then ?_
  refine wc_known 10 true rfl (rfl) ?_
  refine wc_cond_true rfl ?_
  refine wc_seq ?_
  refine wc_region ?_
  refine wl_y rfl (y_assign rfl) ?_
  refine wl_nil ?_
  refine wq_then ?_
  refine wc_seq ?_
  refine wc_region ?_
  refine wl_y rfl (y_move rfl) ?_
  refine wl_y rfl (y_assign rfl) ?_
  refine wl_y rfl (y_assign rfl) ?_
  refine wl_y rfl (y_assign rfl) ?_
  refine wl_y rfl (y_assign rfl) ?_
  refine wl_nil ?_
  refine wq_then ?_
  refine wc_ret ?_
  refine wq_then_ret ?_
  refine wq_ret4 rfl rfl rfl rfl rfl (fun w hw => ?_)
  exact ⟨(), trivial, rfl, hw⟩

set_option maxHeartbeats 1000000 in
theorem peek_no_s (b : Nat) (age n : Int) (oc : Option Addr × Nat) :
    Ctr Try.prog 27 #[ptr b] [] (rawAs 64 66 vS b age n [] oc) (fun _ : Unit => True) (fun _ => .tuple #[vS [], vI 0, vI 0, .bool false]) (fun _ => rawAs 64 66 vS b age n [] oc) := by
  refine spec_start (n := 24) [(0, ptr b)] Try.func27 rfl rfl ⟨rfl, trivial⟩ rfl ?_
  intro w0 K hR
  refine wc_seq ?_
  refine wc_region ?_
  refine wl_y rfl (y_assign rfl) ?_
  refine wl_y rfl (y_assign rfl) ?_
  refine wl_y rfl (y_assign rfl) ?_
  refine wl_y rfl (y_assign rfl) ?_
  refine wl_nil ?_
  refine wq_then ?_
  refine wc_seq ?_
  refine wc_seq ?_
  refine wc_region ?_
  refine wl_y rfl (y_move rfl) ?_
  refine wl_c (fun _ _ => want_none) rfl (yc_spec (fst := []) (cap := []) _ FN29 (len_raw_s b age n [] oc) rfl rfl rfl (by simp) (by (repeat (first | exact pt_nil | apply pt0 | apply pt1 | apply pt2 | apply pt3 | apply pt4 | apply pt5 | apply pt6 | apply pt7 | apply pt8 | apply pt9 | apply pt10 | apply pt11 | apply pt12 | apply pt13 | apply pt14 | apply pt15 | apply pt16 | apply pt17)))) (wl_ex fun x9 hx9 => ?_)
  refine wl_y rfl (y_eqlI rfl rfl) ?_
  refine wl_nil ?_
  refine wq_then ?_
  refine wc_known 10 true rfl (rfl) ?_
  refine wc_cond_true rfl ?_
  refine wc_seq ?_
  refine wc_region ?_
  refine wl_y rfl (y_assign rfl) ?_
  refine wl_nil ?_
  refine wq_then ?_
  refine wc_seq ?_
  refine wc_region ?_
  refine wl_y rfl (y_move rfl) ?_
  refine wl_y rfl (y_assign rfl) ?_
  refine wl_y rfl (y_assign rfl) ?_
  refine wl_y rfl (y_assign rfl) ?_
  refine wl_y rfl (y_assign rfl) ?_
  refine wl_nil ?_
  refine wq_then ?_
  refine wc_ret ?_
  refine wq_then_ret ?_
  refine wq_ret4 rfl rfl rfl rfl rfl (fun w hw => ?_)
  exact ⟨(), trivial, rfl, hw.left (Bs := [])⟩

set_option maxHeartbeats 1000000 in
theorem peek_raw_s (b : Nat) (age n : Int) (H : List (It Str)) (oc : Option Addr × Nat) (r : It Str) (hr : H[0]? = some r) :
    Ctr Try.prog 27 #[ptr b] [] (rawAs 64 66 vS b age n H oc) (fun _ : Unit => True) (fun _ => .tuple #[vS r.v, vI r.rank, vI r.tm, .bool true]) (fun _ => rawAs 64 66 vS b age n H oc) := by
  refine spec_start (n := 24) [(0, ptr b)] Try.func27 rfl rfl ⟨rfl, trivial⟩ rfl ?_
  intro w0 K hR
  have hrl := (List.getElem?_eq_some_iff.1 hr).1
  refine wc_seq ?_
  refine wc_region ?_
  refine wl_y rfl (y_assign rfl) ?_
  refine wl_y rfl (y_assign rfl) ?_
  refine wl_y rfl (y_assign rfl) ?_
  refine wl_y rfl (y_assign rfl) ?_
  refine wl_nil ?_
  refine wq_then ?_
  refine wc_seq ?_
  refine wc_seq ?_
  refine wc_region ?_
  refine wl_y rfl (y_move rfl) ?_
  refine wl_c (fun _ _ => want_none) rfl (yc_spec (fst := []) (cap := []) _ FN29 (len_raw_s b age n H oc) rfl rfl rfl (by simp) (by (repeat (first | exact pt_nil | apply pt0 | apply pt1 | apply pt2 | apply pt3 | apply pt4 | apply pt5 | apply pt6 | apply pt7 | apply pt8 | apply pt9 | apply pt10 | apply pt11 | apply pt12 | apply pt13 | apply pt14 | apply pt15 | apply pt16 | apply pt17)))) (wl_ex fun x9 hx9 => ?_)
  refine wl_world (S' := Hp w0 K (rawAs 64 66 vS b age n H oc)) (fun w hw => hw.left (Bs := [])) ?_
  refine wl_y rfl (y_eqlI rfl rfl) ?_
  refine wl_nil ?_
  refine wq_then ?_
  refine wc_known 10 false rfl (decide_eq_false (by omega)) ?_
  refine wc_cond_false rfl ?_
  refine wc_skip ?_
  refine wq_then ?_
  refine wc_seq ?_
  refine wc_region ?_
  refine wl_y rfl (y_move rfl) ?_
  refine wl_y rfl (y_nilCheck rfl) ?_
  refine wl_y rfl (y_fieldAddr F64_2 rfl) ?_
  refine wl_y rfl (y_load NA62 rfl (by first | exact cell_blk [] rfl | exact cell_blk [_] rfl | exact cell_blk [_, _] rfl)) ?_
  refine wl_y rfl (y_indexAddr (i := 0) Try.underlying62 T66 rfl rfl rfl hrl (fun w hw => hw.slc_isSome [_] hrl)) ?_
  refine wl_y rfl (y_loadAgg (l := encIt vS r) AG66 rfl rfl (agg_own [_] (fun i u h => rows_get (k := 0) (encIt_len vS) hr h))) ?_
  refine wl_w (fun _ _ => want_none) rfl (yw_alloc T66 rfl) (wl_ex fun b7 _ => ?_)
  first | refine wl_u (yu_storeAgg [] (l' := [_, _, _, _, _]) T66 rfl rfl rfl (by simp [Value.oneCell', encIt]) rfl rfl) ?_ | refine wl_u (yu_storeAgg [_] (l' := [_, _, _, _, _]) T66 rfl rfl rfl (by simp [Value.oneCell', encIt]) rfl rfl) ?_ | refine wl_u (yu_storeAgg [_, _] (l' := [_, _, _, _, _]) T66 rfl rfl rfl (by simp [Value.oneCell', encIt]) rfl rfl) ?_
  refine wl_nil ?_
  refine wq_then ?_
  refine wc_seq ?_
  refine wc_quiet MO (by kernel_rfl) (Hp.drawless _ _ _) ?_
  refine wt_y rfl (y_fieldAddr F66_0 rfl) ?_
  refine wt_y rfl (y_load NA9 rfl (by first | exact cell_blk [] rfl | exact cell_blk [_] rfl | exact cell_blk [_, _] rfl)) ?_
  refine wt_y rfl (y_fieldAddr F66_1 rfl) ?_
  refine wt_y rfl (y_load NA3 rfl (by first | exact cell_blk [] rfl | exact cell_blk [_] rfl | exact cell_blk [_, _] rfl)) ?_
  refine wt_y rfl (y_fieldAddr F66_2 rfl) ?_
  refine wt_y rfl (y_load NA3 rfl (by first | exact cell_blk [] rfl | exact cell_blk [_] rfl | exact cell_blk [_, _] rfl)) ?_
  refine wt_y rfl (y_assign rfl) ?_
  refine wt_y rfl (y_assign rfl) ?_
  refine wt_y rfl (y_assign rfl) ?_
  refine wt_y rfl (y_assign rfl) ?_
  refine wt_nil ?_
  refine wq_then ?_
  refine wc_ret ?_
  refine wq_ret4 rfl rfl rfl rfl rfl (fun w hw => ?_)
  exact ⟨(), trivial, rfl, hw.drop⟩

set_option maxHeartbeats 1000000 in
theorem pop_nil_s  :
    Ctr Try.prog 20 #[.pointer none] [] [] (fun _ : Unit => True) (fun _ => .tuple #[vS [], .bool false]) (fun _ => []) := by
  refine spec_start (n := 39) [(0, .pointer none)] Try.func20 rfl rfl ⟨rfl, trivial⟩ rfl ?_
  intro w0 K hR
  refine wc_seq ?_
  refine wc_region ?_
  refine wl_y rfl (y_assign rfl) ?_
  refine wl_y rfl (y_assign rfl) ?_
  refine wl_nil ?_
  refine wq_then ?_
  refine wc_seq ?_
  refine wc_region ?_
  refine wl_y rfl (y_move rfl) ?_
  refine wl_c (fun _ _ => want_none) rfl (yc_spec (fst := []) (cap := []) _ FN27 peek_nil_s rfl rfl rfl (by simp) (by (repeat (first | exact pt_nil | apply pt0 | apply pt1 | apply pt2 | apply pt3 | apply pt4 | apply pt5 | apply pt6 | apply pt7 | apply pt8 | apply pt9 | apply pt10 | apply pt11 | apply pt12 | apply pt13 | apply pt14 | apply pt15 | apply pt16 | apply pt17)))) (wl_ex fun x11 hx11 => ?_)
  refine wl_y rfl (y_move rfl) ?_
  refine wl_y rfl (y_extract rfl rfl) ?_
  refine wl_y rfl (y_extract rfl rfl) ?_
  refine wl_y rfl (y_extract rfl rfl) ?_
  refine wl_y rfl (y_extract rfl rfl) ?_
  refine wl_y rfl (y_assign rfl) ?_
  refine wl_y rfl (y_assign rfl) ?_
  refine wl_y rfl (y_assign rfl) ?_
  refine wl_y rfl (y_assign rfl) ?_
  refine wl_nil ?_
  refine wq_then ?_
  refine wc_seq ?_
  refine wc_seq ?_
  refine wc_region ?_
  refine wl_y rfl (y_move rfl) ?_
  refine wl_nil ?_
  refine wq_then ?_
  refine wc_known 16 false rfl (rfl) ?_
  refine wc_cond_false rfl ?_
  refine wc_skip ?_
  refine wq_then ?_
  refine wc_seq ?_
  refine wc_region ?_
  refine wl_y rfl (y_move rfl) ?_
  refine wl_y rfl (y_move rfl) ?_
  refine wl_y rfl (y_assign rfl) ?_
  refine wl_y rfl (y_assign rfl) ?_
  refine wl_nil ?_
  refine wq_then ?_
  refine wc_ret ?_
  refine wq_ret2 rfl rfl rfl (fun w hw => ?_)
  exact ⟨(), trivial, rfl, hw⟩

set_option maxHeartbeats 1000000 in
theorem pop_no_s (b : Nat) (age n : Int) (oc : Option Addr × Nat) :
    Ctr Try.prog 20 #[ptr b] [] (rawAs 64 66 vS b age n [] oc) (fun _ : Unit => True) (fun _ => .tuple #[vS [], .bool false]) (fun _ => rawAs 64 66 vS b age n [] oc) := by
  refine spec_start (n := 39) [(0, ptr b)] Try.func20 rfl rfl ⟨rfl, trivial⟩ rfl ?_
  intro w0 K hR
  refine wc_seq ?_
  refine wc_region ?_
  refine wl_y rfl (y_assign rfl) ?_
  refine wl_y rfl (y_assign rfl) ?_
  refine wl_nil ?_
  refine wq_then ?_
  refine wc_seq ?_
  refine wc_region ?_
  refine wl_y rfl (y_move rfl) ?_
  refine wl_c (fun _ _ => want_none) rfl (yc_spec (fst := []) (cap := []) _ FN27 (peek_no_s b age n oc) rfl rfl rfl (by simp) (by (repeat (first | exact pt_nil | apply pt0 | apply pt1 | apply pt2 | apply pt3 | apply pt4 | apply pt5 | apply pt6 | apply pt7 | apply pt8 | apply pt9 | apply pt10 | apply pt11 | apply pt12 | apply pt13 | apply pt14 | apply pt15 | apply pt16 | apply pt17)))) (wl_ex fun x11 hx11 => ?_)
  refine wl_y rfl (y_move rfl) ?_
  refine wl_y rfl (y_extract rfl rfl) ?_
  refine wl_y rfl (y_extract rfl rfl) ?_
  refine wl_y rfl (y_extract rfl rfl) ?_
  refine wl_y rfl (y_extract rfl rfl) ?_
  refine wl_y rfl (y_assign rfl) ?_
  refine wl_y rfl (y_assign rfl) ?_
  refine wl_y rfl (y_assign rfl) ?_
  refine wl_y rfl (y_assign rfl) ?_
  refine wl_nil ?_
  refine wq_then ?_
  refine wc_seq ?_
  refine wc_seq ?_
  refine wc_region ?_
  refine wl_y rfl (y_move rfl) ?_
  refine wl_nil ?_
  refine wq_then ?_
  refine wc_known 16 false rfl (rfl) ?_
  refine wc_cond_false rfl ?_
  refine wc_skip ?_
  refine wq_then ?_
  refine wc_seq ?_
  refine wc_region ?_
  refine wl_y rfl (y_move rfl) ?_
  refine wl_y rfl (y_move rfl) ?_
  refine wl_y rfl (y_assign rfl) ?_
  refine wl_y rfl (y_assign rfl) ?_
  refine wl_nil ?_
  refine wq_then ?_
  refine wc_ret ?_
  refine wq_ret2 rfl rfl rfl (fun w hw => ?_)
  exact ⟨(), trivial, rfl, hw.left (Bs := [])⟩

end Go.Proofs.Ytblhphnnnihkmaa
