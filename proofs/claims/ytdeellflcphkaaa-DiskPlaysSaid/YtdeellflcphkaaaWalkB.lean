/-
  Walks: new disks, arms, acts.
-/
import Derived.Test.YtdeellflcphkaaaWalkA
namespace Go.Proofs.Ytdeellflcphkaaa
open Go.Eng

set_option maxHeartbeats 1000000 in
theorem new_lo (n : Int) (hn : n < 1 ∨ 16777216 < n) :
    Ctr Try.prog 7 #[vI n] [] [] (fun _ : Unit => True) (fun _ => .tuple #[.pointer none, vI 1]) (fun _ => []) := by
  refine spec_start (n := 14) [(0, vI n)] Try.func7 rfl rfl ⟨rfl, trivial⟩ rfl ?_
  intro w0 K hR
  refine wc_seq ?_
  refine wc_region ?_
  refine wl_y rfl (y_assign rfl) ?_
  refine wl_y rfl (y_assign rfl) ?_
  refine wl_nil ?_
  refine wq_then ?_
  refine wc_seq ?_
  refine wc_seq ?_
  refine wc_region ?_
  refine wl_y rfl (y_move rfl) ?_
  refine wl_y rfl (y_lss rfl rfl) ?_
  refine wl_y rfl (y_move rfl) ?_
  apply wl_or 3 9 [(0, _)] (t := 6) rfl ⟨rfl, trivial⟩
  · intro hg6 hM9
    refine wl_sk rfl rfl rfl rfl ?_
    refine wl_sk rfl rfl rfl rfl ?_
    refine wl_y rfl (y_pick_t rfl rfl) ?_
    exact wl_weaken hM9 ⟨rfl, rfl, trivial⟩
  · intro hg6 hM9
    try (simp at hg6)
    refine wl_yg rfl rfl rfl (y_move rfl) ?_
    refine wl_yg rfl rfl rfl (y_gtr rfl rfl) ?_
    refine wl_y rfl (y_pick_f rfl rfl) ?_
    exact wl_weaken hM9 ⟨rfl, rfl, trivial⟩
  ·
    refine wl_nil ?_
    refine wq_then ?_
    refine wc_known 9 true rfl (by simp; omega) ?_
    refine wc_cond_true rfl ?_
    refine wc_seq ?_
    refine wc_region ?_
    refine wl_y rfl (y_assign rfl) ?_
    refine wl_y rfl (y_assign rfl) ?_
    refine wl_nil ?_
    refine wq_then ?_
    refine wc_ret ?_
    refine wq_then_ret ?_
    refine wq_ret2 rfl rfl rfl (fun w hw => ?_)
    exact ⟨(), trivial, rfl, hw⟩

set_option maxHeartbeats 1000000 in
theorem new_ok (n : Int) (h1 : 1 ≤ n) (h2 : n ≤ 16777216) :
    Ctr Try.prog 7 #[vI n] [] [] (fun _ : Nat => True) (fun b => .tuple #[ptr b, vI 0]) (fun b => [dkA b ⟨n, [], 0, 0, false⟩]) := by
  refine spec_start (n := 14) [(0, vI n)] Try.func7 rfl rfl ⟨rfl, trivial⟩ rfl ?_
  intro w0 K hR
  refine wc_seq ?_
  refine wc_region ?_
  refine wl_y rfl (y_assign rfl) ?_
  refine wl_y rfl (y_assign rfl) ?_
  refine wl_nil ?_
  refine wq_then ?_
  refine wc_seq ?_
  refine wc_seq ?_
  refine wc_region ?_
  refine wl_y rfl (y_move rfl) ?_
  refine wl_y rfl (y_lss rfl rfl) ?_
  refine wl_y rfl (y_move rfl) ?_
  apply wl_or 3 9 [(0, _)] (t := 6) rfl ⟨rfl, trivial⟩
  · intro hg6 hM9
    refine wl_sk rfl rfl rfl rfl ?_
    refine wl_sk rfl rfl rfl rfl ?_
    refine wl_y rfl (y_pick_t rfl rfl) ?_
    exact wl_weaken hM9 ⟨rfl, rfl, trivial⟩
  · intro hg6 hM9
    try (simp at hg6)
    refine wl_yg rfl rfl rfl (y_move rfl) ?_
    refine wl_yg rfl rfl rfl (y_gtr rfl rfl) ?_
    refine wl_y rfl (y_pick_f rfl rfl) ?_
    exact wl_weaken hM9 ⟨rfl, rfl, trivial⟩
  ·
    refine wl_nil ?_
    refine wq_then ?_
    refine wc_known 9 false rfl (by simp; omega) ?_
    refine wc_cond_false rfl ?_
    refine wc_skip ?_
    refine wq_then ?_
    refine wc_seq ?_
    refine wc_region ?_
    refine wl_y rfl (y_move rfl) ?_
    refine wl_w (fun _ _ => want_none) rfl (yw_makeMap (ek := vS) (ev := agFi)) (wl_ex fun b11 _ => ?_)
    refine wl_y rfl (y_build (cs := [_, _, _, _, _]) T54 PL54 rfl rfl rfl) ?_
    refine wl_w (fun _ _ => want_none) rfl (yw_box rfl rfl) (wl_ex fun b13 _ => ?_)
    refine wl_y rfl (y_assign rfl) ?_
    refine wl_y rfl (y_assign rfl) ?_
    refine wl_nil ?_
    refine wq_then ?_
    refine wc_ret ?_
    refine wq_ret2 rfl rfl rfl (fun w hw => ?_)
    exact ⟨b13, trivial, rfl, dk_shut b11 hw⟩

set_option maxHeartbeats 1000000 in
theorem arm_c (b : Nat) (d : Dk) (n : Int) :
    Ctr Try.prog 8 #[ptr b, vI n] [] [dkA b d] (fun _ : Unit => True) (fun _ => .tuple #[]) (fun _ => [dkA b { d with armed := max n 0 }]) := by
  refine spec_start (n := 11) [(0, ptr b), (1, vI n)] Try.func8 rfl rfl ⟨rfl, rfl, trivial⟩ rfl ?_
  intro w0 K hR
  refine wc_ex dk_open (fun mb => ?_)
  refine wc_seq ?_
  refine wc_region ?_
  refine wl_y rfl (y_move rfl) ?_
  refine wl_y rfl (y_neqP Try.underlying22 rfl rfl) ?_
  refine wl_nil ?_
  refine wq_then ?_
  refine wc_known 5 true rfl (rfl) ?_
  refine wc_cond_true rfl ?_
  refine wc_region ?_
  refine wl_y rfl (y_move rfl) ?_
  refine wl_y rfl (y_move rfl) ?_
  refine wl_y rfl (y_max rfl rfl) ?_
  refine wl_y rfl (y_nilCheck rfl) ?_
  refine wl_y rfl (y_fieldAddr F54_3 rfl) ?_
  first | refine wl_u (yu_store [] (l' := [_, _, _, _, _]) T3 rfl rfl rfl rfl rfl rfl rfl) ?_ | refine wl_u (yu_store [_] (l' := [_, _, _, _, _]) T3 rfl rfl rfl rfl rfl rfl rfl) ?_ | refine wl_u (yu_store [_, _] (l' := [_, _, _, _, _]) T3 rfl rfl rfl rfl rfl rfl rfl) ?_
  refine wl_nil ?_
  refine wq_end0 rfl (fun w hw => ?_)
  exact ⟨(), trivial, rfl, dk_shut mb hw⟩

set_option maxHeartbeats 1000000 in
theorem arm_nil (n : Int) :
    Ctr Try.prog 8 #[.pointer none, vI n] [] [] (fun _ : Unit => True) (fun _ => .tuple #[]) (fun _ => []) := by
  refine spec_start (n := 11) [(0, .pointer none), (1, vI n)] Try.func8 rfl rfl ⟨rfl, rfl, trivial⟩ rfl ?_
  intro w0 K hR
  refine wc_seq ?_
  refine wc_region ?_
  refine wl_y rfl (y_move rfl) ?_
  refine wl_y rfl (y_neqP Try.underlying22 rfl rfl) ?_
  refine wl_nil ?_
  refine wq_then ?_
  refine wc_known 5 false rfl (rfl) ?_
  refine wc_cond_false rfl ?_
  refine wc_skip ?_
  refine wq_end0 rfl (fun w hw => ?_)
  exact ⟨(), trivial, rfl, hw⟩

set_option maxHeartbeats 1000000 in
theorem dead_c (b : Nat) (d : Dk) :
    Ctr Try.prog 10 #[ptr b] [] [dkA b d] (fun _ : Unit => True) (fun _ => vB d.dead) (fun _ => [dkA b d]) := by
  refine spec_start (n := 11) [(0, ptr b)] Try.func10 rfl rfl ⟨rfl, trivial⟩ rfl ?_
  intro w0 K hR
  refine wc_ex dk_open (fun mb => ?_)
  refine wc_seq ?_
  refine wc_region ?_
  refine wl_y rfl (y_assign rfl) ?_
  refine wl_nil ?_
  refine wq_then ?_
  refine wc_seq ?_
  refine wc_region ?_
  refine wl_y rfl (y_move rfl) ?_
  refine wl_y rfl (y_neqP Try.underlying22 rfl rfl) ?_
  refine wl_y rfl (y_move rfl) ?_
  refine wl_known 5 true rfl (rfl) ?_
  refine wl_yg rfl rfl rfl (y_move rfl) ?_
  refine wl_yg rfl rfl rfl (y_nilCheck rfl) ?_
  refine wl_yg rfl rfl rfl (y_fieldAddr F54_4 rfl) ?_
  refine wl_yg rfl rfl rfl (y_load NA4 rfl (by first | exact cell_blk [] rfl | exact cell_blk [_] rfl | exact cell_blk [_, _] rfl | exact cellR_blk (by assumption) rfl)) ?_
  refine wl_y rfl (y_pick_t rfl rfl) ?_
  refine wl_y rfl (y_assign rfl) ?_
  refine wl_nil ?_
  refine wq_then ?_
  refine wc_ret ?_
  refine wq_ret1 rfl rfl (fun w hw => ?_)
  exact ⟨(), trivial, rfl, dk_shut mb hw⟩

set_option maxHeartbeats 1000000 in
theorem dead_nil  :
    Ctr Try.prog 10 #[.pointer none] [] [] (fun _ : Unit => True) (fun _ => vB false) (fun _ => []) := by
  refine spec_start (n := 11) [(0, .pointer none)] Try.func10 rfl rfl ⟨rfl, trivial⟩ rfl ?_
  intro w0 K hR
  refine wc_seq ?_
  refine wc_region ?_
  refine wl_y rfl (y_assign rfl) ?_
  refine wl_nil ?_
  refine wq_then ?_
  refine wc_seq ?_
  refine wc_region ?_
  refine wl_y rfl (y_move rfl) ?_
  refine wl_y rfl (y_neqP Try.underlying22 rfl rfl) ?_
  refine wl_y rfl (y_move rfl) ?_
  refine wl_known 5 false rfl (rfl) ?_
  refine wl_sk rfl rfl rfl rfl ?_
  refine wl_sk rfl rfl rfl rfl ?_
  refine wl_sk rfl rfl rfl rfl ?_
  refine wl_sk rfl rfl rfl rfl ?_
  refine wl_y rfl (y_pick_f rfl rfl) ?_
  refine wl_y rfl (y_assign rfl) ?_
  refine wl_nil ?_
  refine wq_then ?_
  refine wc_ret ?_
  refine wq_ret1 rfl rfl (fun w hw => ?_)
  exact ⟨(), trivial, rfl, hw⟩

set_option maxHeartbeats 1000000 in
theorem size_c (b : Nat) (d : Dk) :
    Ctr Try.prog 29 #[ptr b] [] [dkA b d] (fun _ : Unit => True) (fun _ => vI d.size) (fun _ => [dkA b d]) := by
  refine spec_start (n := 9) [(0, ptr b)] Try.func29 rfl rfl ⟨rfl, trivial⟩ rfl ?_
  intro w0 K hR
  refine wc_ex dk_open (fun mb => ?_)
  refine wc_seq ?_
  refine wc_region ?_
  refine wl_y rfl (y_assign rfl) ?_
  refine wl_nil ?_
  refine wq_then ?_
  refine wc_seq ?_
  refine wc_seq ?_
  refine wc_region ?_
  refine wl_y rfl (y_move rfl) ?_
  refine wl_y rfl (y_eqlP Try.underlying22 rfl rfl) ?_
  refine wl_nil ?_
  refine wq_then ?_
  refine wc_known 4 false rfl (rfl) ?_
  refine wc_cond_false rfl ?_
  refine wc_skip ?_
  refine wq_then ?_
  refine wc_seq ?_
  refine wc_region ?_
  refine wl_y rfl (y_move rfl) ?_
  refine wl_y rfl (y_nilCheck rfl) ?_
  refine wl_y rfl (y_fieldAddr F54_2 rfl) ?_
  refine wl_y rfl (y_load NA3 rfl (by first | exact cell_blk [] rfl | exact cell_blk [_] rfl | exact cell_blk [_, _] rfl | exact cellR_blk (by assumption) rfl)) ?_
  refine wl_y rfl (y_assign rfl) ?_
  refine wl_nil ?_
  refine wq_then ?_
  refine wc_ret ?_
  refine wq_ret1 rfl rfl (fun w hw => ?_)
  exact ⟨(), trivial, rfl, dk_shut mb hw⟩

set_option maxHeartbeats 1000000 in
theorem size_nil  :
    Ctr Try.prog 29 #[.pointer none] [] [] (fun _ : Unit => True) (fun _ => vI 0) (fun _ => []) := by
  refine spec_start (n := 9) [(0, .pointer none)] Try.func29 rfl rfl ⟨rfl, trivial⟩ rfl ?_
  intro w0 K hR
  refine wc_seq ?_
  refine wc_region ?_
  refine wl_y rfl (y_assign rfl) ?_
  refine wl_nil ?_
  refine wq_then ?_
  refine wc_seq ?_
  refine wc_seq ?_
  refine wc_region ?_
  refine wl_y rfl (y_move rfl) ?_
  refine wl_y rfl (y_eqlP Try.underlying22 rfl rfl) ?_
  refine wl_nil ?_
  refine wq_then ?_
  refine wc_known 4 true rfl (rfl) ?_
  refine wc_cond_true rfl ?_
  refine wc_seq ?_
  refine wc_region ?_
  refine wl_y rfl (y_assign rfl) ?_
  refine wl_nil ?_
  refine wq_then ?_
  refine wc_ret ?_
  refine wq_then_ret ?_
  refine wq_ret1 rfl rfl (fun w hw => ?_)
  exact ⟨(), trivial, rfl, hw⟩

set_option maxHeartbeats 1000000 in
theorem act_c (b : Nat) (d : Dk) (mb : Nat) (h1 : 0 ≤ d.armed) (h2 : d.armed ≤ 9223372036854775807) :
    Ctr Try.prog 33 #[ptr b] [] (dkAs b d mb) (fun _ : Unit => True) (fun _ => vI (deadE d.act.dead)) (fun _ => dkAs b d.act mb) := by
  refine spec_start (n := 27) [(0, ptr b)] Try.func33 rfl rfl ⟨rfl, trivial⟩ rfl ?_
  intro w0 K hR
  refine wc_seq ?_
  refine wc_region ?_
  refine wl_y rfl (y_assign rfl) ?_
  refine wl_nil ?_
  refine wq_then ?_
  refine wc_seq ?_
  refine wc_seq ?_
  refine wc_region ?_
  refine wl_y rfl (y_move rfl) ?_
  refine wl_y rfl (y_nilCheck rfl) ?_
  refine wl_y rfl (y_fieldAddr F54_3 rfl) ?_
  refine wl_y rfl (y_load NA3 rfl (by first | exact cell_blk [] rfl | exact cell_blk [_] rfl | exact cell_blk [_, _] rfl | exact cellR_blk (by assumption) rfl)) ?_
  refine wl_y rfl (y_gtr rfl rfl) ?_
  refine wl_nil ?_
  refine wq_then ?_
  refine wc_cond rfl (fun hc7 => ?_) (fun hc7 => ?_)
  ·
    simp at hc7
    refine wc_seq ?_
    refine wc_region ?_
    refine wl_y rfl (y_move rfl) ?_
    refine wl_y rfl (y_nilCheck rfl) ?_
    refine wl_y rfl (y_fieldAddr F54_3 rfl) ?_
    refine wl_y rfl (y_load NA3 rfl (by first | exact cell_blk [] rfl | exact cell_blk [_] rfl | exact cell_blk [_, _] rfl | exact cellR_blk (by assumption) rfl)) ?_
    refine wl_y rfl (y_sub rfl rfl (by omega)) ?_
    refine wl_y rfl (y_nilCheck rfl) ?_
    refine wl_y rfl (y_fieldAddr F54_3 rfl) ?_
    first | refine wl_u (yu_store [] (l' := [_, _, _, _, _]) T3 rfl rfl rfl rfl rfl rfl rfl) ?_ | refine wl_u (yu_store [_] (l' := [_, _, _, _, _]) T3 rfl rfl rfl rfl rfl rfl rfl) ?_ | refine wl_u (yu_store [_, _] (l' := [_, _, _, _, _]) T3 rfl rfl rfl rfl rfl rfl rfl) ?_
    refine wl_nil ?_
    refine wq_then ?_
    refine wc_region ?_
    refine wl_y rfl (y_move rfl) ?_
    refine wl_y rfl (y_move rfl) ?_
    refine wl_y rfl (y_nilCheck rfl) ?_
    refine wl_y rfl (y_fieldAddr F54_3 rfl) ?_
    refine wl_y rfl (y_load NA3 rfl (by first | exact cell_blk [] rfl | exact cell_blk [_] rfl | exact cell_blk [_, _] rfl | exact cellR_blk (by assumption) rfl)) ?_
    refine wl_y rfl (y_eqlI rfl rfl) ?_
    refine wl_y rfl (y_nilCheck rfl) ?_
    refine wl_y rfl (y_fieldAddr F54_4 rfl) ?_
    first | refine wl_u (yu_store [] (l' := [_, _, _, _, _]) T4 rfl rfl rfl rfl rfl rfl rfl) ?_ | refine wl_u (yu_store [_] (l' := [_, _, _, _, _]) T4 rfl rfl rfl rfl rfl rfl rfl) ?_ | refine wl_u (yu_store [_, _] (l' := [_, _, _, _, _]) T4 rfl rfl rfl rfl rfl rfl rfl) ?_
    refine wl_nil ?_
    refine wq_then ?_
    refine wc_seq ?_
    refine wc_seq ?_
    refine wc_region ?_
    refine wl_y rfl (y_move rfl) ?_
    refine wl_y rfl (y_nilCheck rfl) ?_
    refine wl_y rfl (y_fieldAddr F54_4 rfl) ?_
    refine wl_y rfl (y_load NA4 rfl (by first | exact cell_blk [] rfl | exact cell_blk [_] rfl | exact cell_blk [_, _] rfl | exact cellR_blk (by assumption) rfl)) ?_
    refine wl_nil ?_
    refine wq_then ?_
    refine wc_cond rfl (fun hc26 => ?_) (fun hc26 => ?_)
    ·
      refine wc_seq ?_
      refine wc_region ?_
      refine wl_y rfl (y_assign rfl) ?_
      refine wl_nil ?_
      refine wq_then ?_
      refine wc_ret ?_
      refine wq_then_ret ?_
      refine wq_ret1 rfl rfl (fun w hw => ?_)
      have e : d.act = { d with armed := d.armed - 1, dead := decide (d.armed - 1 = 0) } := if_pos hc7
      rw [e]; exact ⟨(), trivial, by rw [deadE, if_pos hc26], hw⟩
    ·
      refine wc_skip ?_
      refine wq_then ?_
      refine wc_seq ?_
      refine wc_region ?_
      refine wl_y rfl (y_assign rfl) ?_
      refine wl_nil ?_
      refine wq_then ?_
      refine wc_ret ?_
      refine wq_ret1 rfl rfl (fun w hw => ?_)
      have e : d.act = { d with armed := d.armed - 1, dead := decide (d.armed - 1 = 0) } := if_pos hc7
      rw [e]; exact ⟨(), trivial, by simp only [deadE, hc26, Bool.false_eq_true, if_false], hw⟩
  ·
    simp at hc7
    refine wc_skip ?_
    refine wq_then ?_
    refine wc_seq ?_
    refine wc_seq ?_
    refine wc_region ?_
    refine wl_y rfl (y_move rfl) ?_
    refine wl_y rfl (y_nilCheck rfl) ?_
    refine wl_y rfl (y_fieldAddr F54_4 rfl) ?_
    refine wl_y rfl (y_load NA4 rfl (by first | exact cell_blk [] rfl | exact cell_blk [_] rfl | exact cell_blk [_, _] rfl | exact cellR_blk (by assumption) rfl)) ?_
    refine wl_nil ?_
    refine wq_then ?_
    refine wc_cond rfl (fun hc26 => ?_) (fun hc26 => ?_)
    ·
      refine wc_seq ?_
      refine wc_region ?_
      refine wl_y rfl (y_assign rfl) ?_
      refine wl_nil ?_
      refine wq_then ?_
      refine wc_ret ?_
      refine wq_then_ret ?_
      refine wq_ret1 rfl rfl (fun w hw => ?_)
      have e : d.act = d := if_neg (by omega)
      rw [e]; exact ⟨(), trivial, by rw [deadE, if_pos hc26], hw⟩
    ·
      refine wc_skip ?_
      refine wq_then ?_
      refine wc_seq ?_
      refine wc_region ?_
      refine wl_y rfl (y_assign rfl) ?_
      refine wl_nil ?_
      refine wq_then ?_
      refine wc_ret ?_
      refine wq_ret1 rfl rfl (fun w hw => ?_)
      have e : d.act = d := if_neg (by omega)
      rw [e]; exact ⟨(), trivial, by simp only [deadE, hc26, Bool.false_eq_true, if_false], hw⟩

end Go.Proofs.Ytdeellflcphkaaa
