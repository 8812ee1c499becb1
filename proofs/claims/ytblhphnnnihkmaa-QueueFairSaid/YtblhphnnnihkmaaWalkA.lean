/-
  Walks: compared, and changed about.
-/
import Derived.Test.YtblhphnnnihkmaaDef

namespace Go.Proofs.Ytblhphnnnihkmaa
open Go.Eng

set_option maxHeartbeats 1000000 in
theorem less_i (b : Nat) (age n : Int) (H : List (It Int)) (oc : Option Addr × Nat) (i j : Nat) (x y : It Int) (hi : H[i]? = some x) (hj : H[j]? = some y) :
    Ctr Try.prog 21 #[ptr b, vI i, vI j] [] (rawAs 50 58 vI b age n H oc) (fun _ : Unit => True) (fun _ => .bool (x.lt y)) (fun _ => rawAs 50 58 vI b age n H oc) := by
  refine spec_start (n := 52) [(0, ptr b), (1, vI i), (2, vI j)] Try.func21 rfl rfl ⟨rfl, rfl, rfl, trivial⟩ rfl ?_
  intro w0 K hR
  have hil := (List.getElem?_eq_some_iff.1 hi).1
  have hjl := (List.getElem?_eq_some_iff.1 hj).1
  refine wc_seq ?_
  refine wc_region ?_
  refine wl_y rfl (y_assign rfl) ?_
  refine wl_nil ?_
  refine wq_then ?_
  refine wc_seq ?_
  refine wc_quiet MO (by kernel_rfl) (Hp.drawless _ _ _) ?_
  refine wt_y rfl (y_move rfl) ?_
  refine wt_y rfl (y_nilCheck rfl) ?_
  refine wt_y rfl (y_fieldAddr F50_2 rfl) ?_
  refine wt_y rfl (y_load NA48 rfl (by first | exact cell_blk [] rfl | exact cell_blk [_] rfl | exact cell_blk [_, _] rfl)) ?_
  refine wt_y rfl (y_move rfl) ?_
  refine wt_y rfl (y_indexAddr (i := i) Try.underlying48 T58 rfl rfl rfl (by omega) (fun w hw => hw.slc_isSome [_] (by omega))) ?_
  refine wt_y rfl (y_move rfl) ?_
  refine wt_y rfl (y_nilCheck rfl) ?_
  refine wt_y rfl (y_fieldAddr F50_2 rfl) ?_
  refine wt_y rfl (y_load NA48 rfl (by first | exact cell_blk [] rfl | exact cell_blk [_] rfl | exact cell_blk [_, _] rfl)) ?_
  refine wt_y rfl (y_move rfl) ?_
  refine wt_y rfl (y_indexAddr (i := j) Try.underlying48 T58 rfl rfl rfl (by omega) (fun w hw => hw.slc_isSome [_] (by omega))) ?_
  refine wt_y rfl (y_assign rfl) ?_
  refine wt_y rfl (y_assign rfl) ?_
  refine wt_nil ?_
  refine wq_then ?_
  refine wc_seq ?_
  refine wc_quiet MO (by kernel_rfl) (Hp.drawless _ _ _) ?_
  refine wt_y rfl (y_move rfl) ?_
  refine wt_y rfl (y_nilCheck rfl) ?_
  refine wt_y rfl (y_fieldAddr_adr F58_3 rfl) ?_
  refine wt_y rfl (y_load NA3 rfl (cell_own [_] (rows_get (encIt_len vI) hi rfl))) ?_
  refine wt_y rfl (y_move rfl) ?_
  refine wt_y rfl (y_nilCheck rfl) ?_
  refine wt_y rfl (y_fieldAddr_adr F58_3 rfl) ?_
  refine wt_y rfl (y_load NA3 rfl (cell_own [_] (rows_get (encIt_len vI) hj rfl))) ?_
  refine wt_y rfl (y_lss rfl rfl) ?_
  refine wt_y rfl (y_move rfl) ?_
  refine wt_case 30 rfl (fun hg30 => ?_) (fun hg30 => ?_)
  ·
    simp at hg30
    refine wt_sk rfl rfl rfl rfl ?_
    refine wt_sk rfl rfl rfl rfl ?_
    refine wt_sk rfl rfl rfl rfl ?_
    refine wt_sk rfl rfl rfl rfl ?_
    refine wt_sk rfl rfl rfl rfl ?_
    refine wt_sk rfl rfl rfl rfl ?_
    refine wt_sk rfl rfl rfl rfl ?_
    refine wt_sk rfl rfl rfl rfl ?_
    refine wt_sk rfl rfl rfl rfl ?_
    refine wt_sk rfl rfl rfl rfl ?_
    refine wt_sku rfl rfl rfl ?_
    refine wt_sku rfl rfl rfl ?_
    refine wt_sku rfl rfl rfl ?_
    refine wt_sku rfl rfl rfl ?_
    refine wt_sku rfl rfl rfl ?_
    refine wt_sku rfl rfl rfl ?_
    refine wt_sku rfl rfl rfl ?_
    refine wt_sku rfl rfl rfl ?_
    refine wt_sku rfl rfl rfl ?_
    refine wt_sk rfl rfl rfl rfl ?_
    refine wt_y rfl (y_pick_t rfl rfl) ?_
    refine wt_y rfl (y_assign rfl) ?_
    refine wt_nil ?_
    refine wq_then ?_
    refine wc_ret ?_
    refine wq_ret1 rfl rfl (fun w hw => ?_)
    exact ⟨(), trivial, by rw [It.lt_iff.2 (.inl hg30)], hw⟩
  ·
    simp at hg30
    refine wt_yg rfl rfl rfl (y_move rfl) ?_
    refine wt_yg rfl rfl rfl (y_nilCheck rfl) ?_
    refine wt_yg rfl rfl rfl (y_fieldAddr_adr F58_3 rfl) ?_
    refine wt_yg rfl rfl rfl (y_load NA3 rfl (cell_own [_] (rows_get (encIt_len vI) hi rfl))) ?_
    refine wt_yg rfl rfl rfl (y_move rfl) ?_
    refine wt_yg rfl rfl rfl (y_nilCheck rfl) ?_
    refine wt_yg rfl rfl rfl (y_fieldAddr_adr F58_3 rfl) ?_
    refine wt_yg rfl rfl rfl (y_load NA3 rfl (cell_own [_] (rows_get (encIt_len vI) hj rfl))) ?_
    refine wt_yg rfl rfl rfl (y_eqlI rfl rfl) ?_
    refine wt_yg rfl rfl rfl (y_move rfl) ?_
    refine wt_case 40 rfl (fun hg40 => ?_) (fun hg40 => ?_)
    ·
      simp at hg40
      refine wt_yg rfl rfl rfl (y_move rfl) ?_
      refine wt_yg rfl rfl rfl (y_nilCheck rfl) ?_
      refine wt_yg rfl rfl rfl (y_fieldAddr_adr F58_4 rfl) ?_
      refine wt_yg rfl rfl rfl (y_load NA3 rfl (cell_own [_] (rows_get (encIt_len vI) hi rfl))) ?_
      refine wt_yg rfl rfl rfl (y_move rfl) ?_
      refine wt_yg rfl rfl rfl (y_nilCheck rfl) ?_
      refine wt_yg rfl rfl rfl (y_fieldAddr_adr F58_4 rfl) ?_
      refine wt_yg rfl rfl rfl (y_load NA3 rfl (cell_own [_] (rows_get (encIt_len vI) hj rfl))) ?_
      refine wt_yg rfl rfl rfl (y_lss rfl rfl) ?_
      refine wt_yg rfl rfl rfl (y_pick_t rfl rfl) ?_
      refine wt_y rfl (y_pick_f rfl rfl) ?_
      refine wt_y rfl (y_assign rfl) ?_
      refine wt_nil ?_
      refine wq_then ?_
      refine wc_ret ?_
      refine wq_ret1 rfl rfl (fun w hw => ?_)
      have hnn : ¬ x.turn < y.turn := by omega
      exact ⟨(), trivial, by simp [It.lt, hg40], hw⟩
    ·
      simp at hg40
      refine wt_sk rfl rfl rfl rfl ?_
      refine wt_sk rfl rfl rfl rfl ?_
      refine wt_sk rfl rfl rfl rfl ?_
      refine wt_sk rfl rfl rfl rfl ?_
      refine wt_sk rfl rfl rfl rfl ?_
      refine wt_sk rfl rfl rfl rfl ?_
      refine wt_sk rfl rfl rfl rfl ?_
      refine wt_sk rfl rfl rfl rfl ?_
      refine wt_sk rfl rfl rfl rfl ?_
      refine wt_yg rfl rfl rfl (y_pick_f rfl rfl) ?_
      refine wt_y rfl (y_pick_f rfl rfl) ?_
      refine wt_y rfl (y_assign rfl) ?_
      refine wt_nil ?_
      refine wq_then ?_
      refine wc_ret ?_
      refine wq_ret1 rfl rfl (fun w hw => ?_)
      exact ⟨(), trivial, by rw [It.not_iff.2 (by omega)], hw⟩

set_option maxHeartbeats 1000000 in
theorem swap_i (b : Nat) (age n : Int) (H : List (It Int)) (oc : Option Addr × Nat) (i j : Nat) (x y : It Int) (hi : H[i]? = some x) (hj : H[j]? = some y) :
    Ctr Try.prog 22 #[ptr b, vI i, vI j] [] (rawAs 50 58 vI b age n H oc) (fun _ : Unit => True) (fun _ => .tuple #[]) (fun _ => rawAs 50 58 vI b age n (sw H i j x y) oc) := by
  refine spec_start (n := 32) [(0, ptr b), (1, vI i), (2, vI j)] Try.func22 rfl rfl ⟨rfl, rfl, rfl, trivial⟩ rfl ?_
  intro w0 K hR
  have hil := (List.getElem?_eq_some_iff.1 hi).1
  have hjl := (List.getElem?_eq_some_iff.1 hj).1
  refine wc_mix (.q 0 0 (.q 1 0 (.q 2 0 (.q 3 1 (.q 4 0 (.q 5 0 (.q 6 0 (.q 7 0 (.q 8 1 (.q 9 0 (.q 10 0 (.q 11 0 (.q 12 0 (.q 13 1 (.q 14 0 (.q 15 0 (.q 16 1 (.q 17 0 (.q 18 0 (.q 19 0 (.q 20 1 (.q 21 0 (.q 22 0 (.q 23 1 (.q 24 0 (.w 25 2 (.q 26 0 (.w 27 2 .nil .nil)) .nil)))))))))))))))))))))))))) (fun _ => True) MO (by kernel_rfl) (Hp.drawless _ _ _) (fun _ _ => trivial) ?_
  refine wm_have (p := oc.1.isSome = true) (fun w hw => hw.slc_isSome [_] (by omega)) (fun hos => ?_)
  refine wm_g rfl rfl (y_move rfl) ?_
  refine wm_g rfl rfl (y_nilCheck rfl) ?_
  refine wm_g rfl rfl (y_fieldAddr F50_2 rfl) ?_
  refine wm_l rfl rfl (y_load NA48 rfl (by first | exact cell_blk [] rfl | exact cell_blk [_] rfl | exact cell_blk [_, _] rfl)) ?_
  refine wm_g rfl rfl (y_move rfl) ?_
  refine wm_g rfl rfl (y_move rfl) ?_
  refine wm_g rfl rfl (y_nilCheck rfl) ?_
  refine wm_g rfl rfl (y_fieldAddr F50_2 rfl) ?_
  refine wm_l rfl rfl (y_load NA48 rfl (by first | exact cell_blk [] rfl | exact cell_blk [_] rfl | exact cell_blk [_, _] rfl)) ?_
  refine wm_g rfl rfl (y_move rfl) ?_
  refine wm_g rfl rfl (y_move rfl) ?_
  refine wm_g rfl rfl (y_nilCheck rfl) ?_
  refine wm_g rfl rfl (y_fieldAddr F50_2 rfl) ?_
  refine wm_l rfl rfl (y_load NA48 rfl (by first | exact cell_blk [] rfl | exact cell_blk [_] rfl | exact cell_blk [_, _] rfl)) ?_
  refine wm_g rfl rfl (y_move rfl) ?_
  refine wm_g rfl rfl (y_indexAddr (i := j) Try.underlying48 T58 rfl rfl rfl (by omega) (fun _ _ => hos)) ?_
  refine wm_l rfl rfl (y_loadAgg (l := encIt vI y) AG58 rfl rfl (agg_own [_] (fun i u h => rows_get (encIt_len vI) hj h))) ?_
  refine wm_g rfl rfl (y_move rfl) ?_
  refine wm_g rfl rfl (y_nilCheck rfl) ?_
  refine wm_g rfl rfl (y_fieldAddr F50_2 rfl) ?_
  refine wm_l rfl rfl (y_load NA48 rfl (by first | exact cell_blk [] rfl | exact cell_blk [_] rfl | exact cell_blk [_, _] rfl)) ?_
  refine wm_g rfl rfl (y_move rfl) ?_
  refine wm_g rfl rfl (y_indexAddr (i := i) Try.underlying48 T58 rfl rfl rfl (by omega) (fun _ _ => hos)) ?_
  refine wm_l rfl rfl (y_loadAgg (l := encIt vI x) AG58 rfl rfl (agg_own [_] (fun i u h => rows_get (encIt_len vI) hi h))) ?_
  refine wm_g rfl rfl (y_indexAddr (i := i) Try.underlying48 T58 rfl rfl rfl (by omega) (fun _ _ => hos)) ?_
  refine wm_u rfl (fun _ _ => trivial) (yu_storeAggSl [_] (vs := encIt vI y) T58 rfl rfl rfl (by simp [encIt, Value.oneCell']) (by simp only [rows_length (encIt_len vI), encIt_len, List.length_set]; omega)) ?_
  refine wm_world (S' := Hp w0 K [blk b (.cells [vI age, vI n, .slice oc.1 H.length oc.2].toArray 50 (0, 0)), slc 58 5 oc.1 H.length oc.2 ((H.set i y).flatMap (encIt vI))]) (fun w hw => by rw [rows_set (encIt_len vI) _ (by first | omega | (simp; omega))] at hw; exact hw) ?_
  refine wm_g rfl rfl (y_indexAddr (i := j) Try.underlying48 T58 rfl rfl rfl (by omega) (fun _ _ => hos)) ?_
  refine wm_u rfl (fun _ _ => trivial) (yu_storeAggSl [_] (vs := encIt vI x) T58 rfl rfl rfl (by simp [encIt, Value.oneCell']) (by simp only [rows_length (encIt_len vI), encIt_len, List.length_set]; omega)) ?_
  refine wm_world (S' := Hp w0 K [blk b (.cells [vI age, vI n, .slice oc.1 H.length oc.2].toArray 50 (0, 0)), slc 58 5 oc.1 H.length oc.2 (((H.set i y).set j x).flatMap (encIt vI))]) (fun w hw => by rw [rows_set (encIt_len vI) _ (by first | omega | (simp; omega))] at hw; exact hw) ?_
  refine wm_nil ?_
  refine all_wq ?_
  refine wq_end0 rfl (fun w hw => ?_)
  exact ⟨(), trivial, rfl, by rw [rawAs, sw_length]; exact hw⟩

set_option maxHeartbeats 1000000 in
theorem less_s (b : Nat) (age n : Int) (H : List (It Str)) (oc : Option Addr × Nat) (i j : Nat) (x y : It Str) (hi : H[i]? = some x) (hj : H[j]? = some y) :
    Ctr Try.prog 25 #[ptr b, vI i, vI j] [] (rawAs 64 66 vS b age n H oc) (fun _ : Unit => True) (fun _ => .bool (x.lt y)) (fun _ => rawAs 64 66 vS b age n H oc) := by
  refine spec_start (n := 52) [(0, ptr b), (1, vI i), (2, vI j)] Try.func25 rfl rfl ⟨rfl, rfl, rfl, trivial⟩ rfl ?_
  intro w0 K hR
  have hil := (List.getElem?_eq_some_iff.1 hi).1
  have hjl := (List.getElem?_eq_some_iff.1 hj).1
  refine wc_seq ?_
  refine wc_region ?_
  refine wl_y rfl (y_assign rfl) ?_
  refine wl_nil ?_
  refine wq_then ?_
  refine wc_seq ?_
  refine wc_quiet MO (by kernel_rfl) (Hp.drawless _ _ _) ?_
  refine wt_y rfl (y_move rfl) ?_
  refine wt_y rfl (y_nilCheck rfl) ?_
  refine wt_y rfl (y_fieldAddr F64_2 rfl) ?_
  refine wt_y rfl (y_load NA62 rfl (by first | exact cell_blk [] rfl | exact cell_blk [_] rfl | exact cell_blk [_, _] rfl)) ?_
  refine wt_y rfl (y_move rfl) ?_
  refine wt_y rfl (y_indexAddr (i := i) Try.underlying62 T66 rfl rfl rfl (by omega) (fun w hw => hw.slc_isSome [_] (by omega))) ?_
  refine wt_y rfl (y_move rfl) ?_
  refine wt_y rfl (y_nilCheck rfl) ?_
  refine wt_y rfl (y_fieldAddr F64_2 rfl) ?_
  refine wt_y rfl (y_load NA62 rfl (by first | exact cell_blk [] rfl | exact cell_blk [_] rfl | exact cell_blk [_, _] rfl)) ?_
  refine wt_y rfl (y_move rfl) ?_
  refine wt_y rfl (y_indexAddr (i := j) Try.underlying62 T66 rfl rfl rfl (by omega) (fun w hw => hw.slc_isSome [_] (by omega))) ?_
  refine wt_y rfl (y_assign rfl) ?_
  refine wt_y rfl (y_assign rfl) ?_
  refine wt_nil ?_
  refine wq_then ?_
  refine wc_seq ?_
  refine wc_quiet MO (by kernel_rfl) (Hp.drawless _ _ _) ?_
  refine wt_y rfl (y_move rfl) ?_
  refine wt_y rfl (y_nilCheck rfl) ?_
  refine wt_y rfl (y_fieldAddr_adr F66_3 rfl) ?_
  refine wt_y rfl (y_load NA3 rfl (cell_own [_] (rows_get (encIt_len vS) hi rfl))) ?_
  refine wt_y rfl (y_move rfl) ?_
  refine wt_y rfl (y_nilCheck rfl) ?_
  refine wt_y rfl (y_fieldAddr_adr F66_3 rfl) ?_
  refine wt_y rfl (y_load NA3 rfl (cell_own [_] (rows_get (encIt_len vS) hj rfl))) ?_
  refine wt_y rfl (y_lss rfl rfl) ?_
  refine wt_y rfl (y_move rfl) ?_
  refine wt_case 30 rfl (fun hg30 => ?_) (fun hg30 => ?_)
  ·
    simp at hg30
    refine wt_sk rfl rfl rfl rfl ?_
    refine wt_sk rfl rfl rfl rfl ?_
    refine wt_sk rfl rfl rfl rfl ?_
    refine wt_sk rfl rfl rfl rfl ?_
    refine wt_sk rfl rfl rfl rfl ?_
    refine wt_sk rfl rfl rfl rfl ?_
    refine wt_sk rfl rfl rfl rfl ?_
    refine wt_sk rfl rfl rfl rfl ?_
    refine wt_sk rfl rfl rfl rfl ?_
    refine wt_sk rfl rfl rfl rfl ?_
    refine wt_sku rfl rfl rfl ?_
    refine wt_sku rfl rfl rfl ?_
    refine wt_sku rfl rfl rfl ?_
    refine wt_sku rfl rfl rfl ?_
    refine wt_sku rfl rfl rfl ?_
    refine wt_sku rfl rfl rfl ?_
    refine wt_sku rfl rfl rfl ?_
    refine wt_sku rfl rfl rfl ?_
    refine wt_sku rfl rfl rfl ?_
    refine wt_sk rfl rfl rfl rfl ?_
    refine wt_y rfl (y_pick_t rfl rfl) ?_
    refine wt_y rfl (y_assign rfl) ?_
    refine wt_nil ?_
    refine wq_then ?_
    refine wc_ret ?_
    refine wq_ret1 rfl rfl (fun w hw => ?_)
    exact ⟨(), trivial, by rw [It.lt_iff.2 (.inl hg30)], hw⟩
  ·
    simp at hg30
    refine wt_yg rfl rfl rfl (y_move rfl) ?_
    refine wt_yg rfl rfl rfl (y_nilCheck rfl) ?_
    refine wt_yg rfl rfl rfl (y_fieldAddr_adr F66_3 rfl) ?_
    refine wt_yg rfl rfl rfl (y_load NA3 rfl (cell_own [_] (rows_get (encIt_len vS) hi rfl))) ?_
    refine wt_yg rfl rfl rfl (y_move rfl) ?_
    refine wt_yg rfl rfl rfl (y_nilCheck rfl) ?_
    refine wt_yg rfl rfl rfl (y_fieldAddr_adr F66_3 rfl) ?_
    refine wt_yg rfl rfl rfl (y_load NA3 rfl (cell_own [_] (rows_get (encIt_len vS) hj rfl))) ?_
    refine wt_yg rfl rfl rfl (y_eqlI rfl rfl) ?_
    refine wt_yg rfl rfl rfl (y_move rfl) ?_
    refine wt_case 40 rfl (fun hg40 => ?_) (fun hg40 => ?_)
    ·
      simp at hg40
      refine wt_yg rfl rfl rfl (y_move rfl) ?_
      refine wt_yg rfl rfl rfl (y_nilCheck rfl) ?_
      refine wt_yg rfl rfl rfl (y_fieldAddr_adr F66_4 rfl) ?_
      refine wt_yg rfl rfl rfl (y_load NA3 rfl (cell_own [_] (rows_get (encIt_len vS) hi rfl))) ?_
      refine wt_yg rfl rfl rfl (y_move rfl) ?_
      refine wt_yg rfl rfl rfl (y_nilCheck rfl) ?_
      refine wt_yg rfl rfl rfl (y_fieldAddr_adr F66_4 rfl) ?_
      refine wt_yg rfl rfl rfl (y_load NA3 rfl (cell_own [_] (rows_get (encIt_len vS) hj rfl))) ?_
      refine wt_yg rfl rfl rfl (y_lss rfl rfl) ?_
      refine wt_yg rfl rfl rfl (y_pick_t rfl rfl) ?_
      refine wt_y rfl (y_pick_f rfl rfl) ?_
      refine wt_y rfl (y_assign rfl) ?_
      refine wt_nil ?_
      refine wq_then ?_
      refine wc_ret ?_
      refine wq_ret1 rfl rfl (fun w hw => ?_)
      have hnn : ¬ x.turn < y.turn := by omega
      exact ⟨(), trivial, by simp [It.lt, hg40], hw⟩
    ·
      simp at hg40
      refine wt_sk rfl rfl rfl rfl ?_
      refine wt_sk rfl rfl rfl rfl ?_
      refine wt_sk rfl rfl rfl rfl ?_
      refine wt_sk rfl rfl rfl rfl ?_
      refine wt_sk rfl rfl rfl rfl ?_
      refine wt_sk rfl rfl rfl rfl ?_
      refine wt_sk rfl rfl rfl rfl ?_
      refine wt_sk rfl rfl rfl rfl ?_
      refine wt_sk rfl rfl rfl rfl ?_
      refine wt_yg rfl rfl rfl (y_pick_f rfl rfl) ?_
      refine wt_y rfl (y_pick_f rfl rfl) ?_
      refine wt_y rfl (y_assign rfl) ?_
      refine wt_nil ?_
      refine wq_then ?_
      refine wc_ret ?_
      refine wq_ret1 rfl rfl (fun w hw => ?_)
      exact ⟨(), trivial, by rw [It.not_iff.2 (by omega)], hw⟩

set_option maxHeartbeats 1000000 in
theorem swap_s (b : Nat) (age n : Int) (H : List (It Str)) (oc : Option Addr × Nat) (i j : Nat) (x y : It Str) (hi : H[i]? = some x) (hj : H[j]? = some y) :
    Ctr Try.prog 26 #[ptr b, vI i, vI j] [] (rawAs 64 66 vS b age n H oc) (fun _ : Unit => True) (fun _ => .tuple #[]) (fun _ => rawAs 64 66 vS b age n (sw H i j x y) oc) := by
  refine spec_start (n := 32) [(0, ptr b), (1, vI i), (2, vI j)] Try.func26 rfl rfl ⟨rfl, rfl, rfl, trivial⟩ rfl ?_
  intro w0 K hR
  have hil := (List.getElem?_eq_some_iff.1 hi).1
  have hjl := (List.getElem?_eq_some_iff.1 hj).1
  refine wc_mix (.q 0 0 (.q 1 0 (.q 2 0 (.q 3 1 (.q 4 0 (.q 5 0 (.q 6 0 (.q 7 0 (.q 8 1 (.q 9 0 (.q 10 0 (.q 11 0 (.q 12 0 (.q 13 1 (.q 14 0 (.q 15 0 (.q 16 1 (.q 17 0 (.q 18 0 (.q 19 0 (.q 20 1 (.q 21 0 (.q 22 0 (.q 23 1 (.q 24 0 (.w 25 2 (.q 26 0 (.w 27 2 .nil .nil)) .nil)))))))))))))))))))))))))) (fun _ => True) MO (by kernel_rfl) (Hp.drawless _ _ _) (fun _ _ => trivial) ?_
  refine wm_have (p := oc.1.isSome = true) (fun w hw => hw.slc_isSome [_] (by omega)) (fun hos => ?_)
  refine wm_g rfl rfl (y_move rfl) ?_
  refine wm_g rfl rfl (y_nilCheck rfl) ?_
  refine wm_g rfl rfl (y_fieldAddr F64_2 rfl) ?_
  refine wm_l rfl rfl (y_load NA62 rfl (by first | exact cell_blk [] rfl | exact cell_blk [_] rfl | exact cell_blk [_, _] rfl)) ?_
  refine wm_g rfl rfl (y_move rfl) ?_
  refine wm_g rfl rfl (y_move rfl) ?_
  refine wm_g rfl rfl (y_nilCheck rfl) ?_
  refine wm_g rfl rfl (y_fieldAddr F64_2 rfl) ?_
  refine wm_l rfl rfl (y_load NA62 rfl (by first | exact cell_blk [] rfl | exact cell_blk [_] rfl | exact cell_blk [_, _] rfl)) ?_
  refine wm_g rfl rfl (y_move rfl) ?_
  refine wm_g rfl rfl (y_move rfl) ?_
  refine wm_g rfl rfl (y_nilCheck rfl) ?_
  refine wm_g rfl rfl (y_fieldAddr F64_2 rfl) ?_
  refine wm_l rfl rfl (y_load NA62 rfl (by first | exact cell_blk [] rfl | exact cell_blk [_] rfl | exact cell_blk [_, _] rfl)) ?_
  refine wm_g rfl rfl (y_move rfl) ?_
  refine wm_g rfl rfl (y_indexAddr (i := j) Try.underlying62 T66 rfl rfl rfl (by omega) (fun _ _ => hos)) ?_
  refine wm_l rfl rfl (y_loadAgg (l := encIt vS y) AG66 rfl rfl (agg_own [_] (fun i u h => rows_get (encIt_len vS) hj h))) ?_
  refine wm_g rfl rfl (y_move rfl) ?_
  refine wm_g rfl rfl (y_nilCheck rfl) ?_
  refine wm_g rfl rfl (y_fieldAddr F64_2 rfl) ?_
  refine wm_l rfl rfl (y_load NA62 rfl (by first | exact cell_blk [] rfl | exact cell_blk [_] rfl | exact cell_blk [_, _] rfl)) ?_
  refine wm_g rfl rfl (y_move rfl) ?_
  refine wm_g rfl rfl (y_indexAddr (i := i) Try.underlying62 T66 rfl rfl rfl (by omega) (fun _ _ => hos)) ?_
  refine wm_l rfl rfl (y_loadAgg (l := encIt vS x) AG66 rfl rfl (agg_own [_] (fun i u h => rows_get (encIt_len vS) hi h))) ?_
  refine wm_g rfl rfl (y_indexAddr (i := i) Try.underlying62 T66 rfl rfl rfl (by omega) (fun _ _ => hos)) ?_
  refine wm_u rfl (fun _ _ => trivial) (yu_storeAggSl [_] (vs := encIt vS y) T66 rfl rfl rfl (by simp [encIt, Value.oneCell']) (by simp only [rows_length (encIt_len vS), encIt_len, List.length_set]; omega)) ?_
  refine wm_world (S' := Hp w0 K [blk b (.cells [vI age, vI n, .slice oc.1 H.length oc.2].toArray 64 (0, 0)), slc 66 5 oc.1 H.length oc.2 ((H.set i y).flatMap (encIt vS))]) (fun w hw => by rw [rows_set (encIt_len vS) _ (by first | omega | (simp; omega))] at hw; exact hw) ?_
  refine wm_g rfl rfl (y_indexAddr (i := j) Try.underlying62 T66 rfl rfl rfl (by omega) (fun _ _ => hos)) ?_
  refine wm_u rfl (fun _ _ => trivial) (yu_storeAggSl [_] (vs := encIt vS x) T66 rfl rfl rfl (by simp [encIt, Value.oneCell']) (by simp only [rows_length (encIt_len vS), encIt_len, List.length_set]; omega)) ?_
  refine wm_world (S' := Hp w0 K [blk b (.cells [vI age, vI n, .slice oc.1 H.length oc.2].toArray 64 (0, 0)), slc 66 5 oc.1 H.length oc.2 (((H.set i y).set j x).flatMap (encIt vS))]) (fun w hw => by rw [rows_set (encIt_len vS) _ (by first | omega | (simp; omega))] at hw; exact hw) ?_
  refine wm_nil ?_
  refine all_wq ?_
  refine wq_end0 rfl (fun w hw => ?_)
  exact ⟨(), trivial, rfl, by rw [rawAs, sw_length]; exact hw⟩

end Go.Proofs.Ytblhphnnnihkmaa
