/-
  Walks: popped.
-/
import Derived.Test.YtblhphnnnihkmaaWalkC

namespace Go.Proofs.Ytblhphnnnihkmaa
open Go.Eng

set_option maxHeartbeats 1000000 in
theorem pop_raw_i (b : Nat) (age n : Int) (H : List (It Int)) (oc : Option Addr × Nat) (k : Nat) (r a : It Int) (hk : H.length = k + 1) (hr : H[0]? = some r) (ha : H[k]? = some a) (hh : Heap H) (hl : H.length ≤ 1000000) :
    Ctr Try.prog 13 #[ptr b] [] (rawAs 50 58 vI b age n H oc) (fun x : List (It Int) × Option Addr × Nat => (r :: x.1).Perm H ∧ Heap x.1) (fun _ => .tuple #[vI r.v, .bool true]) (fun x => rawAs 50 58 vI b age n x.1 x.2) := by
  refine spec_start (n := 39) [(0, ptr b)] Try.func13 rfl rfl ⟨rfl, trivial⟩ rfl ?_
  intro w0 K hR
  refine wc_seq ?_
  refine wc_region ?_
  refine wl_y rfl (y_assign rfl) ?_
  refine wl_y rfl (y_assign rfl) ?_
  refine wl_nil ?_
  refine wq_then ?_
  refine wc_seq ?_
  refine wc_region ?_
  refine wl_y rfl (y_move rfl) ?_
  refine wl_c (fun _ _ => want_none) rfl (yc_spec (fst := []) (cap := []) _ FN15 (peek_raw_i b age n H oc r hr) rfl rfl rfl (by simp) (by (repeat (first | exact pt_nil | apply pt0 | apply pt1 | apply pt2 | apply pt3 | apply pt4 | apply pt5 | apply pt6 | apply pt7 | apply pt8 | apply pt9 | apply pt10 | apply pt11 | apply pt12 | apply pt13 | apply pt14 | apply pt15 | apply pt16 | apply pt17)))) (wl_ex fun x11 hx11 => ?_)
  refine wl_world (S' := Hp w0 K (rawAs 50 58 vI b age n H oc)) (fun w hw => hw.left (Bs := [])) ?_
  refine wl_y rfl (y_move rfl) ?_
  refine wl_y rfl (y_extract rfl rfl) ?_
  refine wl_y rfl (y_extract rfl rfl) ?_
  refine wl_y rfl (y_extract rfl rfl) ?_
  refine wl_y rfl (y_extract rfl rfl) ?_
  refine wl_y rfl (y_assign rfl) ?_
  refine wl_y rfl (y_assign rfl) ?_
  refine wl_y rfl (y_assign rfl) ?_
  refine wl_y rfl (y_assign rfl) ?_
  refine wl_nil ?_
  refine wq_then ?_
  refine wc_seq ?_
  refine wc_seq ?_
  refine wc_region ?_
  refine wl_y rfl (y_move rfl) ?_
  refine wl_nil ?_
  refine wq_then ?_
  refine wc_known 16 true rfl (rfl) ?_
  refine wc_cond_true rfl ?_
  refine wc_seq ?_
  refine wc_region ?_
  refine wl_y rfl (y_move rfl) ?_
  refine wl_y rfl (y_nilCheck rfl) ?_
  refine wl_y rfl (y_fieldAddr F50_2 rfl) ?_
  refine wl_y rfl (y_load NA48 rfl (by first | exact cell_blk [] rfl | exact cell_blk [_] rfl | exact cell_blk [_, _] rfl)) ?_
  refine wl_y rfl (y_lenSl Try.underlying48 rfl) ?_
  refine wl_y rfl (y_sub rfl rfl (by omega)) ?_
  refine wl_y rfl (y_assign rfl) ?_
  refine wl_same 8 (vI (k : Nat)) rfl (by rw [show ((k : Nat) : Int) = (H.length : Int) - 1 by omega]) ?_
  refine wl_nil ?_
  refine wq_then ?_
  refine wc_seq ?_
  refine wc_region ?_
  refine wl_y rfl (y_move rfl) ?_
  refine wl_y rfl (y_move rfl) ?_
  refine wl_c (fun _ _ => want_none) rfl (yc_spec (fst := []) (cap := []) _ FN22 (swap_i b age n H oc 0 k r a hr ha) rfl rfl rfl (by simp) (by (repeat (first | exact pt_nil | apply pt0 | apply pt1 | apply pt2 | apply pt3 | apply pt4 | apply pt5 | apply pt6 | apply pt7 | apply pt8 | apply pt9 | apply pt10 | apply pt11 | apply pt12 | apply pt13 | apply pt14 | apply pt15 | apply pt16 | apply pt17)))) (wl_ex fun x25 hx25 => ?_)
  refine wl_world (S' := Hp w0 K (rawAs 50 58 vI b age n (sw H 0 k r a) oc)) (fun w hw => hw.left (Bs := [])) ?_
  refine wl_nil ?_
  refine wq_then ?_
  refine wc_seq ?_
  refine wc_region ?_
  refine wl_have (p := k ≤ oc.2) (fun w hw => by have := hw.slc_le [_]; rw [sw_length] at this; omega) (fun hcap => ?_)
  refine wl_y rfl (y_move rfl) ?_
  refine wl_y rfl (y_move rfl) ?_
  refine wl_y rfl (y_nilCheck rfl) ?_
  refine wl_y rfl (y_fieldAddr F50_2 rfl) ?_
  refine wl_y rfl (y_load NA48 rfl (by first | exact cell_blk [] rfl | exact cell_blk [_] rfl | exact cell_blk [_, _] rfl)) ?_
  refine wl_y rfl (y_move rfl) ?_
  refine wl_y rfl (y_sliceSl (i := 0) (j := k) Try.underlying48 T58 rfl rfl ⟨_, rfl, rfl⟩ (Nat.zero_le _) hcap) ?_
  refine wl_y rfl (y_nilCheck rfl) ?_
  refine wl_y rfl (y_fieldAddr F50_2 rfl) ?_
  first | refine wl_u (yu_store [] (l' := [_, _, _]) T48 rfl rfl rfl rfl rfl rfl rfl) ?_ | refine wl_u (yu_store [_] (l' := [_, _, _]) T48 rfl rfl rfl rfl rfl rfl rfl) ?_ | refine wl_u (yu_store [_, _] (l' := [_, _, _]) T48 rfl rfl rfl rfl rfl rfl rfl) ?_
  refine wl_world (S' := Hp w0 K (rawAs 50 58 vI b age n ((sw H 0 k r a).take k) (cutAt oc.1 0 oc.2 5, oc.2))) (fun w hw => by
    have h3 := Hp.mono_at [_] hw (fun g hg => slc_take k hg (by rw [sw_length]; omega))
    rw [rows_take (encIt_len vI) k (by rw [sw_length]; omega)] at h3
    have e : ((sw H 0 k r a).take k).length = k := by rw [List.length_take, sw_length]; omega
    rw [rawAs, e]; exact h3) ?_
  refine wl_nil ?_
  refine wq_then ?_
  refine wc_region ?_
  refine wl_y rfl (y_move rfl) ?_
  refine wl_c (fun _ _ => want_none) rfl (yc_spec (fst := []) (cap := []) _ FN23 (sink_i b age n ((sw H 0 k r a).take k) (cutAt oc.1 0 oc.2 5, oc.2) (hh.cut hk hr ha).1 (by simp [sw_length]; omega)) rfl rfl rfl (by simp) (by (repeat (first | exact pt_nil | apply pt0 | apply pt1 | apply pt2 | apply pt3 | apply pt4 | apply pt5 | apply pt6 | apply pt7 | apply pt8 | apply pt9 | apply pt10 | apply pt11 | apply pt12 | apply pt13 | apply pt14 | apply pt15 | apply pt16 | apply pt17)))) (wl_ex fun x36 hx36 => ?_)
  refine wl_nil ?_
  refine wq_then ?_
  refine wc_seq ?_
  refine wc_region ?_
  refine wl_y rfl (y_move rfl) ?_
  refine wl_y rfl (y_move rfl) ?_
  refine wl_y rfl (y_assign rfl) ?_
  refine wl_y rfl (y_assign rfl) ?_
  refine wl_nil ?_
  refine wq_then ?_
  refine wc_ret ?_
  refine wq_ret2 rfl rfl rfl (fun w hw => ?_)
  exact ⟨(x36, _), ⟨((hx36.1.cons r).trans (hh.cut hk hr ha).2), hx36.2⟩, rfl, hw.left (Bs := [])⟩

set_option maxHeartbeats 1000000 in
theorem pop_raw_s (b : Nat) (age n : Int) (H : List (It Str)) (oc : Option Addr × Nat) (k : Nat) (r a : It Str) (hk : H.length = k + 1) (hr : H[0]? = some r) (ha : H[k]? = some a) (hh : Heap H) (hl : H.length ≤ 1000000) :
    Ctr Try.prog 20 #[ptr b] [] (rawAs 64 66 vS b age n H oc) (fun x : List (It Str) × Option Addr × Nat => (r :: x.1).Perm H ∧ Heap x.1) (fun _ => .tuple #[vS r.v, .bool true]) (fun x => rawAs 64 66 vS b age n x.1 x.2) := by
  refine spec_start (n := 39) [(0, ptr b)] Try.func20 rfl rfl ⟨rfl, trivial⟩ rfl ?_
  intro w0 K hR
  refine wc_seq ?_
  refine wc_region ?_
  refine wl_y rfl (y_assign rfl) ?_
  refine wl_y rfl (y_assign rfl) ?_
  refine wl_nil ?_
  refine wq_then ?_
  refine wc_seq ?_
  refine wc_region ?_
  refine wl_y rfl (y_move rfl) ?_
  refine wl_c (fun _ _ => want_none) rfl (yc_spec (fst := []) (cap := []) _ FN27 (peek_raw_s b age n H oc r hr) rfl rfl rfl (by simp) (by (repeat (first | exact pt_nil | apply pt0 | apply pt1 | apply pt2 | apply pt3 | apply pt4 | apply pt5 | apply pt6 | apply pt7 | apply pt8 | apply pt9 | apply pt10 | apply pt11 | apply pt12 | apply pt13 | apply pt14 | apply pt15 | apply pt16 | apply pt17)))) (wl_ex fun x11 hx11 => ?_)
  refine wl_world (S' := Hp w0 K (rawAs 64 66 vS b age n H oc)) (fun w hw => hw.left (Bs := [])) ?_
  refine wl_y rfl (y_move rfl) ?_
  refine wl_y rfl (y_extract rfl rfl) ?_
  refine wl_y rfl (y_extract rfl rfl) ?_
  refine wl_y rfl (y_extract rfl rfl) ?_
  refine wl_y rfl (y_extract rfl rfl) ?_
  refine wl_y rfl (y_assign rfl) ?_
  refine wl_y rfl (y_assign rfl) ?_
  refine wl_y rfl (y_assign rfl) ?_
  refine wl_y rfl (y_assign rfl) ?_
  refine wl_nil ?_
  refine wq_then ?_
  refine wc_seq ?_
  refine wc_seq ?_
  refine wc_region ?_
  refine wl_y rfl (y_move rfl) ?_
  refine wl_nil ?_
  refine wq_then ?_
  refine wc_known 16 true rfl (rfl) ?_
  refine wc_cond_true rfl ?_
  refine wc_seq ?_
  refine wc_region ?_
  refine wl_y rfl (y_move rfl) ?_
  refine wl_y rfl (y_nilCheck rfl) ?_
  refine wl_y rfl (y_fieldAddr F64_2 rfl) ?_
  refine wl_y rfl (y_load NA62 rfl (by first | exact cell_blk [] rfl | exact cell_blk [_] rfl | exact cell_blk [_, _] rfl)) ?_
  refine wl_y rfl (y_lenSl Try.underlying62 rfl) ?_
  refine wl_y rfl (y_sub rfl rfl (by omega)) ?_
  refine wl_y rfl (y_assign rfl) ?_
  refine wl_same 8 (vI (k : Nat)) rfl (by rw [show ((k : Nat) : Int) = (H.length : Int) - 1 by omega]) ?_
  refine wl_nil ?_
  refine wq_then ?_
  refine wc_seq ?_
  refine wc_region ?_
  refine wl_y rfl (y_move rfl) ?_
  refine wl_y rfl (y_move rfl) ?_
  refine wl_c (fun _ _ => want_none) rfl (yc_spec (fst := []) (cap := []) _ FN26 (swap_s b age n H oc 0 k r a hr ha) rfl rfl rfl (by simp) (by (repeat (first | exact pt_nil | apply pt0 | apply pt1 | apply pt2 | apply pt3 | apply pt4 | apply pt5 | apply pt6 | apply pt7 | apply pt8 | apply pt9 | apply pt10 | apply pt11 | apply pt12 | apply pt13 | apply pt14 | apply pt15 | apply pt16 | apply pt17)))) (wl_ex fun x25 hx25 => ?_)
  refine wl_world (S' := Hp w0 K (rawAs 64 66 vS b age n (sw H 0 k r a) oc)) (fun w hw => hw.left (Bs := [])) ?_
  refine wl_nil ?_
  refine wq_then ?_
  refine wc_seq ?_
  refine wc_region ?_
  refine wl_have (p := k ≤ oc.2) (fun w hw => by have := hw.slc_le [_]; rw [sw_length] at this; omega) (fun hcap => ?_)
  refine wl_y rfl (y_move rfl) ?_
  refine wl_y rfl (y_move rfl) ?_
  refine wl_y rfl (y_nilCheck rfl) ?_
  refine wl_y rfl (y_fieldAddr F64_2 rfl) ?_
  refine wl_y rfl (y_load NA62 rfl (by first | exact cell_blk [] rfl | exact cell_blk [_] rfl | exact cell_blk [_, _] rfl)) ?_
  refine wl_y rfl (y_move rfl) ?_
  refine wl_y rfl (y_sliceSl (i := 0) (j := k) Try.underlying62 T66 rfl rfl ⟨_, rfl, rfl⟩ (Nat.zero_le _) hcap) ?_
  refine wl_y rfl (y_nilCheck rfl) ?_
  refine wl_y rfl (y_fieldAddr F64_2 rfl) ?_
  first | refine wl_u (yu_store [] (l' := [_, _, _]) T62 rfl rfl rfl rfl rfl rfl rfl) ?_ | refine wl_u (yu_store [_] (l' := [_, _, _]) T62 rfl rfl rfl rfl rfl rfl rfl) ?_ | refine wl_u (yu_store [_, _] (l' := [_, _, _]) T62 rfl rfl rfl rfl rfl rfl rfl) ?_
  refine wl_world (S' := Hp w0 K (rawAs 64 66 vS b age n ((sw H 0 k r a).take k) (cutAt oc.1 0 oc.2 5, oc.2))) (fun w hw => by
    have h3 := Hp.mono_at [_] hw (fun g hg => slc_take k hg (by rw [sw_length]; omega))
    rw [rows_take (encIt_len vS) k (by rw [sw_length]; omega)] at h3
    have e : ((sw H 0 k r a).take k).length = k := by rw [List.length_take, sw_length]; omega
    rw [rawAs, e]; exact h3) ?_
  refine wl_nil ?_
  refine wq_then ?_
  refine wc_region ?_
  refine wl_y rfl (y_move rfl) ?_
  refine wl_c (fun _ _ => want_none) rfl (yc_spec (fst := []) (cap := []) _ FN28 (sink_s b age n ((sw H 0 k r a).take k) (cutAt oc.1 0 oc.2 5, oc.2) (hh.cut hk hr ha).1 (by simp [sw_length]; omega)) rfl rfl rfl (by simp) (by (repeat (first | exact pt_nil | apply pt0 | apply pt1 | apply pt2 | apply pt3 | apply pt4 | apply pt5 | apply pt6 | apply pt7 | apply pt8 | apply pt9 | apply pt10 | apply pt11 | apply pt12 | apply pt13 | apply pt14 | apply pt15 | apply pt16 | apply pt17)))) (wl_ex fun x36 hx36 => ?_)
  refine wl_nil ?_
  refine wq_then ?_
  refine wc_seq ?_
  refine wc_region ?_
  refine wl_y rfl (y_move rfl) ?_
  refine wl_y rfl (y_move rfl) ?_
  refine wl_y rfl (y_assign rfl) ?_
  refine wl_y rfl (y_assign rfl) ?_
  refine wl_nil ?_
  refine wq_then ?_
  refine wc_ret ?_
  refine wq_ret2 rfl rfl rfl (fun w hw => ?_)
  exact ⟨(x36, _), ⟨((hx36.1.cons r).trans (hh.cut hk hr ha).2), hx36.2⟩, rfl, hw.left (Bs := [])⟩

end Go.Proofs.Ytblhphnnnihkmaa
