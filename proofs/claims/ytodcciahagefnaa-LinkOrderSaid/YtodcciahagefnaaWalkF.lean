/-
  Walks: law LinkOrder.
-/
import Derived.Test.YtodcciahagefnaaWalkC
import Derived.Test.YtodcciahagefnaaOrdDef
namespace Go.Proofs.Ytodcciahagefnaa
open Go.Eng

set_option maxHeartbeats 1000000 in
theorem order_lo (w : Int) (hw : w < 1) (oo : Option Addr) (cc : Nat) (ops : List Mv) :
    Ctr Try.prog 4 #[vI w, .slice oo ops.length cc] [rsl oo ops.length 5 (ops.flatMap encM)] [] (fun _ : Unit => True) (fun _ => .bool true) (fun _ => []) := by
  refine spec_start (n := 268) [(0, vI w), (1, .slice oo ops.length cc)] Try.func4 rfl rfl ⟨rfl, rfl, trivial⟩ rfl ?_
  intro w0 K hR
  refine wc_seq ?_
  refine wc_region ?_
  refine wl_y rfl (y_assign rfl) ?_
  refine wl_nil ?_
  refine wq_then ?_
  refine wc_seq ?_
  refine wc_region ?_
  refine wl_w (fun _ _ => want_none) rfl (yw_alloc T44 rfl) (wl_ex fun b5 _ => ?_)
  refine wl_nil ?_
  refine wq_then ?_
  refine wc_seq ?_
  refine wc_seq ?_
  refine wc_region ?_
  refine wl_y rfl (y_assign rfl) ?_
  refine wl_nil ?_
  refine wq_then ?_
  refine wc_block ?_
  refine wc_loop (α := Unit) (fun x => True) [(0, _), (1, _), (5, _)] (fun x => [(6, vI 0)]) (fun x => Hp w0 K [blk b5 (.cells [Value.pointer none, .pointer none].toArray 44 (0, 0))]) (fun x => 0) () ?_ ⟨rfl, rfl, rfl, rfl, trivial⟩ ?_ ?_
  · trivial
  · exact fun w hw => hw
  · intro _ _
    refine wc_seq ?_
    refine wc_seq ?_
    refine wc_region ?_
    refine wl_y rfl (y_move rfl) ?_
    refine wl_y rfl (y_lss rfl rfl) ?_
    refine wl_nil ?_
    refine wq_then ?_
    refine wc_known 26 true rfl (rfl) ?_
    refine wc_cond_true rfl ?_
    refine wc_skip ?_
    refine wq_then ?_
    refine wc_seq ?_
    refine wc_block ?_
    refine wc_seq ?_
    refine wc_region ?_
    refine wl_y rfl (y_move rfl) ?_
    refine wl_c (fun _ _ => want_none) rfl (yc_spec (fst := []) (cap := []) _ FN7 (new_lo w hw) rfl rfl rfl (by simp) (by (repeat (first | exact pt_nil | apply pt0 | apply pt1 | apply pt2 | apply pt3 | apply pt4 | apply pt5 | apply pt6 | apply pt7 | apply pt8 | apply pt9 | apply pt10 | apply pt11 | apply pt12 | apply pt13 | apply pt14 | apply pt15 | apply pt16 | apply pt17)))) (wl_ex fun x31 hx31 => ?_)
    refine wl_y rfl (y_move rfl) ?_
    refine wl_y rfl (y_extract rfl rfl) ?_
    refine wl_y rfl (y_extract rfl rfl) ?_
    refine wl_y rfl (y_assign rfl) ?_
    refine wl_y rfl (y_assign rfl) ?_
    refine wl_nil ?_
    refine wq_then ?_
    refine wc_seq ?_
    refine wc_seq ?_
    refine wc_region ?_
    refine wl_y rfl (y_move rfl) ?_
    refine wl_y rfl (y_neqI rfl rfl) ?_
    refine wl_nil ?_
    refine wq_then ?_
    refine wc_known 35 true rfl (rfl) ?_
    refine wc_cond_true rfl ?_
    refine wc_seq ?_
    refine wc_region ?_
    refine wl_y rfl (y_move rfl) ?_
    refine wl_y rfl (y_eqlI rfl rfl) ?_
    refine wl_y rfl (y_move rfl) ?_
    refine wl_known 38 true rfl (rfl) ?_
    refine wl_yg rfl rfl rfl (y_move rfl) ?_
    refine wl_yg rfl rfl rfl (y_eqlP Try.underlying23 rfl rfl) ?_
    refine wl_y rfl (y_pick_t rfl rfl) ?_
    refine wl_y rfl (y_move rfl) ?_
    refine wl_known 42 true rfl (rfl) ?_
    refine wl_c (want_some rfl rfl) rfl (yc_spec (fst := []) (cap := []) _ FN9 awake_spec rfl rfl rfl (by simp) (by (repeat (first | exact pt_nil | apply pt0 | apply pt1 | apply pt2 | apply pt3 | apply pt4 | apply pt5 | apply pt6 | apply pt7 | apply pt8 | apply pt9 | apply pt10 | apply pt11 | apply pt12 | apply pt13 | apply pt14 | apply pt15 | apply pt16 | apply pt17)))) (wl_ex fun x43 hx43 => ?_)
    refine wl_y rfl (y_pick_t rfl rfl) ?_
    refine wl_y rfl (y_assign rfl) ?_
    refine wl_nil ?_
    refine wq_then ?_
    refine wc_ret ?_
    refine wq_then_ret (wq_block_ret (wq_then_ret (wq_then_ret (wq_block_ret (wq_then_ret ?_)))))
    refine wq_ret1 rfl rfl (fun w hw => ?_)
    exact ⟨(), trivial, rfl, hw.bare⟩

set_option maxHeartbeats 1000000 in
theorem order_hi (w : Int) (hw : 1000 < w) (oo : Option Addr) (cc : Nat) (ops : List Mv) :
    Ctr Try.prog 4 #[vI w, .slice oo ops.length cc] [rsl oo ops.length 5 (ops.flatMap encM)] [] (fun _ : Unit => True) (fun _ => .bool true) (fun _ => []) := by
  refine spec_start (n := 268) [(0, vI w), (1, .slice oo ops.length cc)] Try.func4 rfl rfl ⟨rfl, rfl, trivial⟩ rfl ?_
  intro w0 K hR
  refine wc_seq ?_
  refine wc_region ?_
  refine wl_y rfl (y_assign rfl) ?_
  refine wl_nil ?_
  refine wq_then ?_
  refine wc_seq ?_
  refine wc_region ?_
  refine wl_w (fun _ _ => want_none) rfl (yw_alloc T44 rfl) (wl_ex fun b5 _ => ?_)
  refine wl_nil ?_
  refine wq_then ?_
  refine wc_seq ?_
  refine wc_seq ?_
  refine wc_region ?_
  refine wl_y rfl (y_assign rfl) ?_
  refine wl_nil ?_
  refine wq_then ?_
  refine wc_block ?_
  refine wc_loop (α := Unit) (fun x => True) [(0, _), (1, _), (5, _)] (fun x => [(6, vI 0)]) (fun x => Hp w0 K [blk b5 (.cells [Value.pointer none, .pointer none].toArray 44 (0, 0))]) (fun x => 0) () ?_ ⟨rfl, rfl, rfl, rfl, trivial⟩ ?_ ?_
  · trivial
  · exact fun w hw => hw
  · intro _ _
    refine wc_seq ?_
    refine wc_seq ?_
    refine wc_region ?_
    refine wl_y rfl (y_move rfl) ?_
    refine wl_y rfl (y_lss rfl rfl) ?_
    refine wl_nil ?_
    refine wq_then ?_
    refine wc_known 26 true rfl (rfl) ?_
    refine wc_cond_true rfl ?_
    refine wc_skip ?_
    refine wq_then ?_
    refine wc_seq ?_
    refine wc_block ?_
    refine wc_seq ?_
    refine wc_region ?_
    refine wl_y rfl (y_move rfl) ?_
    refine wl_c (fun _ _ => want_none) rfl (yc_spec (fst := []) (cap := []) _ FN7 (new_hi w hw) rfl rfl rfl (by simp) (by (repeat (first | exact pt_nil | apply pt0 | apply pt1 | apply pt2 | apply pt3 | apply pt4 | apply pt5 | apply pt6 | apply pt7 | apply pt8 | apply pt9 | apply pt10 | apply pt11 | apply pt12 | apply pt13 | apply pt14 | apply pt15 | apply pt16 | apply pt17)))) (wl_ex fun x31 hx31 => ?_)
    refine wl_y rfl (y_move rfl) ?_
    refine wl_y rfl (y_extract rfl rfl) ?_
    refine wl_y rfl (y_extract rfl rfl) ?_
    refine wl_y rfl (y_assign rfl) ?_
    refine wl_y rfl (y_assign rfl) ?_
    refine wl_nil ?_
    refine wq_then ?_
    refine wc_seq ?_
    refine wc_seq ?_
    refine wc_region ?_
    refine wl_y rfl (y_move rfl) ?_
    refine wl_y rfl (y_neqI rfl rfl) ?_
    refine wl_nil ?_
    refine wq_then ?_
    refine wc_known 35 true rfl (rfl) ?_
    refine wc_cond_true rfl ?_
    refine wc_seq ?_
    refine wc_region ?_
    refine wl_y rfl (y_move rfl) ?_
    refine wl_y rfl (y_eqlI rfl rfl) ?_
    refine wl_y rfl (y_move rfl) ?_
    refine wl_known 38 true rfl (rfl) ?_
    refine wl_yg rfl rfl rfl (y_move rfl) ?_
    refine wl_yg rfl rfl rfl (y_eqlP Try.underlying23 rfl rfl) ?_
    refine wl_y rfl (y_pick_t rfl rfl) ?_
    refine wl_y rfl (y_move rfl) ?_
    refine wl_known 42 true rfl (rfl) ?_
    refine wl_c (want_some rfl rfl) rfl (yc_spec (fst := []) (cap := []) _ FN9 awake_spec rfl rfl rfl (by simp) (by (repeat (first | exact pt_nil | apply pt0 | apply pt1 | apply pt2 | apply pt3 | apply pt4 | apply pt5 | apply pt6 | apply pt7 | apply pt8 | apply pt9 | apply pt10 | apply pt11 | apply pt12 | apply pt13 | apply pt14 | apply pt15 | apply pt16 | apply pt17)))) (wl_ex fun x43 hx43 => ?_)
    refine wl_y rfl (y_pick_t rfl rfl) ?_
    refine wl_y rfl (y_assign rfl) ?_
    refine wl_nil ?_
    refine wq_then ?_
    refine wc_ret ?_
    refine wq_then_ret (wq_block_ret (wq_then_ret (wq_then_ret (wq_block_ret (wq_then_ret ?_)))))
    refine wq_ret1 rfl rfl (fun w hw => ?_)
    exact ⟨(), trivial, rfl, hw.bare⟩

set_option maxHeartbeats 4000000 in
theorem order_ok (n : Nat) (h1 : 1 ≤ n) (h2 : n ≤ 1000) (oo : Option Addr) (cc : Nat) (ops : List Mv) (hg : ∀ x ∈ ops, fits64 x.n) :
    Ctr Try.prog 4 #[vI n, .slice oo ops.length cc] [rsl oo ops.length 5 (ops.flatMap encM)] [] (fun _ : Unit => True) (fun _ => .bool true) (fun _ => []) := by
  refine spec_start (n := 268) [(0, vI n), (1, .slice oo ops.length cc)] Try.func4 rfl rfl ⟨rfl, rfl, trivial⟩ rfl ?_
  intro w0 K hR
  have hA := hR _ (List.mem_cons_self ..)
  refine wc_seq ?_
  refine wc_region ?_
  refine wl_y rfl (y_assign rfl) ?_
  refine wl_nil ?_
  refine wq_then ?_
  refine wc_seq ?_
  refine wc_region ?_
  refine wl_w (fun _ _ => want_none) rfl (yw_alloc T44 rfl) (wl_ex fun b5 _ => ?_)
  refine wl_nil ?_
  refine wq_then ?_
  refine wc_seq ?_
  refine wc_seq ?_
  refine wc_region ?_
  refine wl_y rfl (y_assign rfl) ?_
  refine wl_nil ?_
  refine wq_then ?_
  refine wc_block ?_
  refine wc_loop (α := Nat × Nat × Nat) (fun x => x.1 ≤ 2) [(0, _), (1, _), (5, _)] (fun x => [(6, vI x.1)]) (fun x => Hp w0 K (armed n b5 x)) (fun x => 2 - x.1) (0, 0, 0) ?_ ⟨rfl, rfl, rfl, rfl, trivial⟩ ?_ ?_
  · exact Nat.zero_le _
  · exact fun w hw => hw
  · rintro ⟨k, p, q⟩ hI; simp only at hI
    refine wc_seq ?_
    refine wc_seq ?_
    refine wc_region ?_
    refine wl_y rfl (y_move rfl) ?_
    refine wl_y rfl (y_lss rfl rfl) ?_
    refine wl_nil ?_
    refine wq_then ?_
    refine wc_cond rfl (fun hc26 => ?_) (fun hc26 => ?_)
    ·
      simp at hc26
      refine wc_skip ?_
      refine wq_then ?_
      refine wc_seq ?_
      refine wc_block ?_
      refine wc_seq ?_
      refine wc_region ?_
      obtain rfl | rfl : k = 0 ∨ k = 1 := by omega
      ·
        refine wl_world (S' := Hp w0 K [blk b5 (.cells [Value.pointer none, .pointer none].toArray 44 (0, 0))]) (fun w hw => hw) ?_
        refine wl_y rfl (y_move rfl) ?_
        refine wl_c (fun _ _ => want_none) rfl (yc_spec (fst := []) (cap := []) _ FN7 (new_ok n h1 h2) rfl rfl rfl (by simp) (by (repeat (first | exact pt_nil | apply pt0 | apply pt1 | apply pt2 | apply pt3 | apply pt4 | apply pt5 | apply pt6 | apply pt7 | apply pt8 | apply pt9 | apply pt10 | apply pt11 | apply pt12 | apply pt13 | apply pt14 | apply pt15 | apply pt16 | apply pt17)))) (wl_ex fun x31 hx31 => ?_)
        refine wl_y rfl (y_move rfl) ?_
        refine wl_y rfl (y_extract rfl rfl) ?_
        refine wl_y rfl (y_extract rfl rfl) ?_
        refine wl_y rfl (y_assign rfl) ?_
        refine wl_y rfl (y_assign rfl) ?_
        refine wl_nil ?_
        refine wq_then ?_
        refine wc_seq ?_
        refine wc_seq ?_
        refine wc_region ?_
        refine wl_y rfl (y_move rfl) ?_
        refine wl_y rfl (y_neqI rfl rfl) ?_
        refine wl_nil ?_
        refine wq_then ?_
        refine wc_known 35 false rfl (by simp) ?_
        refine wc_cond_false rfl ?_
        refine wc_skip ?_
        refine wq_then ?_
        refine wc_region ?_
        refine wl_y rfl (y_move rfl) ?_
        refine wl_y rfl (y_move rfl) ?_
        refine wl_y rfl (y_indexAddrArr (i := 0) Try.underlying44 T23 rfl rfl rfl (by decide)) ?_
        first | refine wl_u (yu_store [] (l' := _) T23 rfl rfl rfl rfl rfl rfl rfl) ?_ | refine wl_u (yu_store [_] (l' := _) T23 rfl rfl rfl rfl rfl rfl rfl) ?_ | refine wl_u (yu_store [_, _] (l' := _) T23 rfl rfl rfl rfl rfl rfl rfl) ?_ | refine wl_u (yu_store [_, _, _] (l' := _) T23 rfl rfl rfl rfl rfl rfl rfl) ?_ | refine wl_u (yu_store [_, _, _, _] (l' := _) T23 rfl rfl rfl rfl rfl rfl rfl) ?_ | refine wl_u (yu_store [_, _, _, _, _] (l' := _) T23 rfl rfl rfl rfl rfl rfl rfl) ?_ | refine wl_u (yu_store [_, _, _, _, _, _] (l' := _) T23 rfl rfl rfl rfl rfl rfl rfl) ?_ | refine wl_u (yu_store [_, _, _, _, _, _, _] (l' := _) T23 rfl rfl rfl rfl rfl rfl rfl) ?_ | refine wl_u (yu_store [_, _, _, _, _, _, _, _] (l' := _) T23 rfl rfl rfl rfl rfl rfl rfl) ?_ | refine wl_u (yu_store [_, _, _, _, _, _, _, _, _] (l' := _) T23 rfl rfl rfl rfl rfl rfl rfl) ?_ | refine wl_u (yu_store [_, _, _, _, _, _, _, _, _, _] (l' := _) T23 rfl rfl rfl rfl rfl rfl rfl) ?_ | refine wl_u (yu_store [_, _, _, _, _, _, _, _, _, _, _] (l' := _) T23 rfl rfl rfl rfl rfl rfl rfl) ?_ | refine wl_u (yu_store [_, _, _, _, _, _, _, _, _, _, _, _] (l' := _) T23 rfl rfl rfl rfl rfl rfl rfl) ?_ | refine wl_u (yu_store [_, _, _, _, _, _, _, _, _, _, _, _, _] (l' := _) T23 rfl rfl rfl rfl rfl rfl rfl) ?_ | refine wl_u (yu_store [_, _, _, _, _, _, _, _, _, _, _, _, _, _] (l' := _) T23 rfl rfl rfl rfl rfl rfl rfl) ?_
        refine wl_nil ?_
        refine wq_block_normal ?_
        refine wq_then ?_
        refine wc_region ?_
        refine wl_y rfl (y_move rfl) ?_
        refine wl_y rfl (y_add rfl rfl (by omega)) ?_
        refine wl_y rfl (y_assign rfl) ?_
        refine wl_nil ?_
        exact wq_round (1, x31, 0) (by simp) (by simp) ⟨rfl, rfl, rfl, rfl, trivial⟩ (fun w hw => hw.sub (by (repeat (first | exact pt_nil | apply pt0 | apply pt1 | apply pt2 | apply pt3 | apply pt4 | apply pt5 | apply pt6 | apply pt7 | apply pt8 | apply pt9 | apply pt10 | apply pt11 | apply pt12 | apply pt13 | apply pt14 | apply pt15 | apply pt16 | apply pt17))))
      ·
        refine wl_world (S' := Hp w0 K [blk b5 (.cells [ptr p, .pointer none].toArray 44 (0, 0)), endA p (E0 n)]) (fun w hw => hw) ?_
        refine wl_y rfl (y_move rfl) ?_
        refine wl_c (fun _ _ => want_none) rfl (yc_spec (fst := []) (cap := []) _ FN7 (new_ok n h1 h2) rfl rfl rfl (by simp) (by (repeat (first | exact pt_nil | apply pt0 | apply pt1 | apply pt2 | apply pt3 | apply pt4 | apply pt5 | apply pt6 | apply pt7 | apply pt8 | apply pt9 | apply pt10 | apply pt11 | apply pt12 | apply pt13 | apply pt14 | apply pt15 | apply pt16 | apply pt17)))) (wl_ex fun x31 hx31 => ?_)
        refine wl_y rfl (y_move rfl) ?_
        refine wl_y rfl (y_extract rfl rfl) ?_
        refine wl_y rfl (y_extract rfl rfl) ?_
        refine wl_y rfl (y_assign rfl) ?_
        refine wl_y rfl (y_assign rfl) ?_
        refine wl_nil ?_
        refine wq_then ?_
        refine wc_seq ?_
        refine wc_seq ?_
        refine wc_region ?_
        refine wl_y rfl (y_move rfl) ?_
        refine wl_y rfl (y_neqI rfl rfl) ?_
        refine wl_nil ?_
        refine wq_then ?_
        refine wc_known 35 false rfl (by simp) ?_
        refine wc_cond_false rfl ?_
        refine wc_skip ?_
        refine wq_then ?_
        refine wc_region ?_
        refine wl_y rfl (y_move rfl) ?_
        refine wl_y rfl (y_move rfl) ?_
        refine wl_y rfl (y_indexAddrArr (i := 1) Try.underlying44 T23 rfl rfl rfl (by decide)) ?_
        first | refine wl_u (yu_store [] (l' := _) T23 rfl rfl rfl rfl rfl rfl rfl) ?_ | refine wl_u (yu_store [_] (l' := _) T23 rfl rfl rfl rfl rfl rfl rfl) ?_ | refine wl_u (yu_store [_, _] (l' := _) T23 rfl rfl rfl rfl rfl rfl rfl) ?_ | refine wl_u (yu_store [_, _, _] (l' := _) T23 rfl rfl rfl rfl rfl rfl rfl) ?_ | refine wl_u (yu_store [_, _, _, _] (l' := _) T23 rfl rfl rfl rfl rfl rfl rfl) ?_ | refine wl_u (yu_store [_, _, _, _, _] (l' := _) T23 rfl rfl rfl rfl rfl rfl rfl) ?_ | refine wl_u (yu_store [_, _, _, _, _, _] (l' := _) T23 rfl rfl rfl rfl rfl rfl rfl) ?_ | refine wl_u (yu_store [_, _, _, _, _, _, _] (l' := _) T23 rfl rfl rfl rfl rfl rfl rfl) ?_ | refine wl_u (yu_store [_, _, _, _, _, _, _, _] (l' := _) T23 rfl rfl rfl rfl rfl rfl rfl) ?_ | refine wl_u (yu_store [_, _, _, _, _, _, _, _, _] (l' := _) T23 rfl rfl rfl rfl rfl rfl rfl) ?_ | refine wl_u (yu_store [_, _, _, _, _, _, _, _, _, _] (l' := _) T23 rfl rfl rfl rfl rfl rfl rfl) ?_ | refine wl_u (yu_store [_, _, _, _, _, _, _, _, _, _, _] (l' := _) T23 rfl rfl rfl rfl rfl rfl rfl) ?_ | refine wl_u (yu_store [_, _, _, _, _, _, _, _, _, _, _, _] (l' := _) T23 rfl rfl rfl rfl rfl rfl rfl) ?_ | refine wl_u (yu_store [_, _, _, _, _, _, _, _, _, _, _, _, _] (l' := _) T23 rfl rfl rfl rfl rfl rfl rfl) ?_ | refine wl_u (yu_store [_, _, _, _, _, _, _, _, _, _, _, _, _, _] (l' := _) T23 rfl rfl rfl rfl rfl rfl rfl) ?_
        refine wl_nil ?_
        refine wq_block_normal ?_
        refine wq_then ?_
        refine wc_region ?_
        refine wl_y rfl (y_move rfl) ?_
        refine wl_y rfl (y_add rfl rfl (by omega)) ?_
        refine wl_y rfl (y_assign rfl) ?_
        refine wl_nil ?_
        exact wq_round (2, p, x31) (by simp) (by simp) ⟨rfl, rfl, rfl, rfl, trivial⟩ (fun w hw => hw.sub (by (repeat (first | exact pt_nil | apply pt0 | apply pt1 | apply pt2 | apply pt3 | apply pt4 | apply pt5 | apply pt6 | apply pt7 | apply pt8 | apply pt9 | apply pt10 | apply pt11 | apply pt12 | apply pt13 | apply pt14 | apply pt15 | apply pt16 | apply pt17))))
    ·
      simp at hc26
      refine wc_exit ?_
      refine wq_then_exit (wq_then_exit (wq_block_exit ?_))
      refine wq_then ?_
      refine wc_seq ?_
      refine wc_region ?_
      obtain rfl : k = 2 := by omega
      refine wl_world (S' := Hp w0 K [blk b5 (.cells [ptr p, ptr q].toArray 44 (0, 0)), endA p (E0 n), endA q (E0 n)]) (fun w hw => hw) ?_
      refine wl_w (fun _ _ => want_none) rfl (yw_alloc T46 rfl) (wl_ex fun b9 _ => ?_)
      refine wl_nil ?_
      refine wq_then ?_
      refine wc_seq ?_
      refine wc_region ?_
      refine wl_w (fun _ _ => want_none) rfl (yw_alloc T46 rfl) (wl_ex fun b10 _ => ?_)
      refine wl_nil ?_
      refine wq_then ?_
      refine wc_seq ?_
      refine wc_region ?_
      refine wl_w (fun _ _ => want_none) rfl (yw_alloc T47 rfl) (wl_ex fun b11 _ => ?_)
      refine wl_nil ?_
      refine wq_then ?_
      refine wc_seq (wc_cut (α := Mem) (fun y => y.ok n 200) [(5, _), (9, _), (10, _)] (fun y => []) (fun y => Hp w0 K [blk b5 (.cells [ptr p, ptr q].toArray 44 (0, 0)), blk b9 (.cells [sv y.s0, sv y.s1].toArray 46 (0, 0)), blk b10 (.cells [sv y.g0, sv y.g1].toArray 46 (0, 0)), blk b11 (.cells [sv y.w0, sv y.w1].toArray 47 (0, 0)), endA p y.e0, endA q y.e1, sA y.s0, sA y.s1, sA y.g0, sA y.g1, pA y.w0, pA y.w1]) ⟨rfl, rfl, rfl, trivial⟩ ?_ ?_)
      ·
        refine wc_seq ?_
        refine wc_region ?_
        refine wl_y rfl (y_assign rfl) ?_
        refine wl_nil ?_
        refine wq_then ?_
        refine wc_block ?_
        refine wc_loop (α := Nat × Mem) (fun y => y.1 ≤ ops.length ∧ y.1 ≤ 200 ∧ y.2.ok n y.1) [(0, _), (1, _), (5, _), (9, _), (10, _), (11, _)] (fun y => [(12, vI y.1)]) (fun y => Hp w0 K [blk b5 (.cells [ptr p, ptr q].toArray 44 (0, 0)), blk b9 (.cells [sv y.2.s0, sv y.2.s1].toArray 46 (0, 0)), blk b10 (.cells [sv y.2.g0, sv y.2.g1].toArray 46 (0, 0)), blk b11 (.cells [sv y.2.w0, sv y.2.w1].toArray 47 (0, 0)), endA p y.2.e0, endA q y.2.e1, sA y.2.s0, sA y.2.s1, sA y.2.g0, sA y.2.g1, pA y.2.w0, pA y.2.w1]) (fun y => ops.length - y.1) (0, mem0 n) ?_ ⟨rfl, rfl, rfl, rfl, rfl, rfl, rfl, trivial⟩ ?_ ?_
        · exact ⟨Nat.zero_le _, Nat.zero_le _, mem0_ok n⟩
        · exact fun w hw => (sixNil hw).sub (by (repeat (first | exact pt_nil | apply pt0 | apply pt1 | apply pt2 | apply pt3 | apply pt4 | apply pt5 | apply pt6 | apply pt7 | apply pt8 | apply pt9 | apply pt10 | apply pt11 | apply pt12 | apply pt13 | apply pt14 | apply pt15 | apply pt16 | apply pt17)))
        · rintro ⟨k, m⟩ ⟨hk, hk2, hT⟩; simp only at hk hk2 hT
          have hok0 := hT.ok h2 (by omega); have hok1 := hT.symm.ok h2 (by omega); have hl1 := hT.a.len; have hl2 := hT.b.len; have hl3 := hT.gotLen; have hl4 := hT.symm.gotLen; have hl5 := hT.a.came; have hl6 := hT.b.came; have hl7 := hT.a.way; have hl8 := hT.b.way
          refine wc_world (S' := Hp w0 K [blk b5 (.cells [ptr p, ptr q].toArray 44 (0, 0)), blk b9 (.cells [sv m.s0, sv m.s1].toArray 46 (0, 0)), blk b10 (.cells [sv m.g0, sv m.g1].toArray 46 (0, 0)), blk b11 (.cells [sv m.w0, sv m.w1].toArray 47 (0, 0)), endA p m.e0, endA q m.e1, sA m.s0, sA m.s1, sA m.g0, sA m.g1, pA m.w0, pA m.w1]) (fun w hw => hw) ?_
          refine wc_seq ?_
          refine wc_seq ?_
          refine wc_region ?_
          refine wl_y rfl (y_move rfl) ?_
          refine wl_y rfl (y_move rfl) ?_
          refine wl_y rfl (y_lenSl Try.underlying43 rfl) ?_
          refine wl_y rfl (y_lss rfl rfl) ?_
          refine wl_y rfl (y_move rfl) ?_
          refine wl_case 52 rfl (fun hg52 => ?_) (fun hg52 => ?_)
          ·
            simp at hg52
            refine wl_yg rfl rfl rfl (y_move rfl) ?_
            refine wl_yg rfl rfl rfl (y_lss rfl rfl) ?_
            refine wl_y rfl (y_pick_t rfl rfl) ?_
            refine wl_nil ?_
            refine wq_then ?_
            refine wc_cond rfl (fun hc55 => ?_) (fun hc55 => ?_)
            ·
              simp at hc55
              refine wc_skip ?_
              refine wq_then ?_
              refine wc_seq ?_
              refine wc_block ?_
              refine wc_seq ?_
              refine wc_region ?_
              obtain ⟨x, hx⟩ : ∃ x, ops[k]? = some x := ⟨_, List.getElem?_eq_getElem (by omega)⟩
              have hgx := hg x (List.mem_of_getElem? hx)
              refine wl_y rfl (y_move rfl) ?_
              refine wl_y rfl (y_move rfl) ?_
              refine wl_y rfl (y_indexAddr Try.underlying43 T49 rfl rfl rfl (by omega) (fun _ _ => hA.isSome (by omega))) ?_
              refine wl_y rfl (y_loadAgg (l := encM x) AG49 rfl rfl (agg_ro hA fun i u h => rows_get encM_len hx h)) ?_
              refine wl_w (fun _ _ => want_none) rfl (yw_alloc T49 rfl) (wl_ex fun b13 _ => ?_)
              first | refine wl_u (yu_storeAgg [] (l' := _) T49 rfl rfl rfl (by simp [Value.oneCell', encM]) rfl rfl) ?_ | refine wl_u (yu_storeAgg [_] (l' := _) T49 rfl rfl rfl (by simp [Value.oneCell', encM]) rfl rfl) ?_ | refine wl_u (yu_storeAgg [_, _] (l' := _) T49 rfl rfl rfl (by simp [Value.oneCell', encM]) rfl rfl) ?_ | refine wl_u (yu_storeAgg [_, _, _] (l' := _) T49 rfl rfl rfl (by simp [Value.oneCell', encM]) rfl rfl) ?_ | refine wl_u (yu_storeAgg [_, _, _, _] (l' := _) T49 rfl rfl rfl (by simp [Value.oneCell', encM]) rfl rfl) ?_ | refine wl_u (yu_storeAgg [_, _, _, _, _] (l' := _) T49 rfl rfl rfl (by simp [Value.oneCell', encM]) rfl rfl) ?_ | refine wl_u (yu_storeAgg [_, _, _, _, _, _] (l' := _) T49 rfl rfl rfl (by simp [Value.oneCell', encM]) rfl rfl) ?_ | refine wl_u (yu_storeAgg [_, _, _, _, _, _, _] (l' := _) T49 rfl rfl rfl (by simp [Value.oneCell', encM]) rfl rfl) ?_ | refine wl_u (yu_storeAgg [_, _, _, _, _, _, _, _] (l' := _) T49 rfl rfl rfl (by simp [Value.oneCell', encM]) rfl rfl) ?_ | refine wl_u (yu_storeAgg [_, _, _, _, _, _, _, _, _] (l' := _) T49 rfl rfl rfl (by simp [Value.oneCell', encM]) rfl rfl) ?_ | refine wl_u (yu_storeAgg [_, _, _, _, _, _, _, _, _, _] (l' := _) T49 rfl rfl rfl (by simp [Value.oneCell', encM]) rfl rfl) ?_ | refine wl_u (yu_storeAgg [_, _, _, _, _, _, _, _, _, _, _] (l' := _) T49 rfl rfl rfl (by simp [Value.oneCell', encM]) rfl rfl) ?_ | refine wl_u (yu_storeAgg [_, _, _, _, _, _, _, _, _, _, _, _] (l' := _) T49 rfl rfl rfl (by simp [Value.oneCell', encM]) rfl rfl) ?_ | refine wl_u (yu_storeAgg [_, _, _, _, _, _, _, _, _, _, _, _, _] (l' := _) T49 rfl rfl rfl (by simp [Value.oneCell', encM]) rfl rfl) ?_ | refine wl_u (yu_storeAgg [_, _, _, _, _, _, _, _, _, _, _, _, _, _] (l' := _) T49 rfl rfl rfl (by simp [Value.oneCell', encM]) rfl rfl) ?_
              refine wl_nil ?_
              refine wq_then ?_
              refine wc_seq ?_
              refine wc_region ?_
              refine wl_y rfl (y_assign rfl) ?_
              refine wl_nil ?_
              refine wq_then ?_
              refine wc_seq ?_
              refine wc_seq ?_
              refine wc_region ?_
              refine wl_y rfl (y_fieldAddr F49_0 rfl) ?_
              refine wl_y rfl (y_load NA4 rfl (by first | exact cell_blk [] rfl | exact cell_blk [_] rfl | exact cell_blk [_, _] rfl | exact cell_blk [_, _, _] rfl | exact cell_blk [_, _, _, _] rfl | exact cell_blk [_, _, _, _, _] rfl | exact cell_blk [_, _, _, _, _, _] rfl | exact cell_blk [_, _, _, _, _, _, _] rfl | exact cell_blk [_, _, _, _, _, _, _, _] rfl | exact cell_blk [_, _, _, _, _, _, _, _, _] rfl | exact cell_blk [_, _, _, _, _, _, _, _, _, _] rfl | exact cell_blk [_, _, _, _, _, _, _, _, _, _, _] rfl | exact cell_blk [_, _, _, _, _, _, _, _, _, _, _, _] rfl | exact cell_blk [_, _, _, _, _, _, _, _, _, _, _, _, _] rfl | exact cell_blk [_, _, _, _, _, _, _, _, _, _, _, _, _, _] rfl)) ?_
              refine wl_nil ?_
              refine wq_then ?_
              refine wc_cond rfl (fun hc63 => ?_) (fun hc63 => ?_)
              ·
                refine wc_region ?_
                refine wl_y rfl (y_assign rfl) ?_
                refine wl_nil ?_
                refine wq_then ?_
                refine wc_seq (wc_cut (α := Mem) (fun y => y.ok n (k + 1)) [(0, _), (1, _), (5, _), (9, _), (10, _), (11, _), (12, _), (14, _)] (fun y => []) (fun y => Hp w0 K [blk b13 (.cells (encM x).toArray 49 (0, 0)), blk b5 (.cells [ptr p, ptr q].toArray 44 (0, 0)), blk b9 (.cells [sv y.s0, sv y.s1].toArray 46 (0, 0)), blk b10 (.cells [sv y.g0, sv y.g1].toArray 46 (0, 0)), blk b11 (.cells [sv y.w0, sv y.w1].toArray 47 (0, 0)), endA p y.e0, endA q y.e1, sA y.s0, sA y.s1, sA y.g0, sA y.g1, pA y.w0, pA y.w1]) ⟨rfl, rfl, rfl, rfl, rfl, rfl, rfl, rfl, trivial⟩ ?_ ?_)
                ·
                  refine wc_block ?_
                  refine wc_seq ?_
                  refine wc_region ?_
                  refine wl_y rfl (y_fieldAddr F49_1 rfl) ?_
                  refine wl_y rfl (y_load NA4 rfl (by first | exact cell_blk [] rfl | exact cell_blk [_] rfl | exact cell_blk [_, _] rfl | exact cell_blk [_, _, _] rfl | exact cell_blk [_, _, _, _] rfl | exact cell_blk [_, _, _, _, _] rfl | exact cell_blk [_, _, _, _, _, _] rfl | exact cell_blk [_, _, _, _, _, _, _] rfl | exact cell_blk [_, _, _, _, _, _, _, _] rfl | exact cell_blk [_, _, _, _, _, _, _, _, _] rfl | exact cell_blk [_, _, _, _, _, _, _, _, _, _] rfl | exact cell_blk [_, _, _, _, _, _, _, _, _, _, _] rfl | exact cell_blk [_, _, _, _, _, _, _, _, _, _, _, _] rfl | exact cell_blk [_, _, _, _, _, _, _, _, _, _, _, _, _] rfl | exact cell_blk [_, _, _, _, _, _, _, _, _, _, _, _, _, _] rfl)) ?_
                  refine wl_y rfl (y_assign rfl) ?_
                  refine wl_nil ?_
                  refine wq_then ?_
                  refine wc_cond rfl (fun hc80 => ?_) (fun hc80 => ?_)
                  ·
                    refine wc_seq ?_
                    refine wc_region ?_
                    refine wl_y rfl (y_move rfl) ?_
                    refine wl_y rfl (y_indexAddrArr (i := 1) Try.underlying44 T23 rfl rfl rfl (by decide)) ?_
                    refine wl_y rfl (y_load NA23 rfl (by first | exact cell_blk [] rfl | exact cell_blk [_] rfl | exact cell_blk [_, _] rfl | exact cell_blk [_, _, _] rfl | exact cell_blk [_, _, _, _] rfl | exact cell_blk [_, _, _, _, _] rfl | exact cell_blk [_, _, _, _, _, _] rfl | exact cell_blk [_, _, _, _, _, _, _] rfl | exact cell_blk [_, _, _, _, _, _, _, _] rfl | exact cell_blk [_, _, _, _, _, _, _, _, _] rfl | exact cell_blk [_, _, _, _, _, _, _, _, _, _] rfl | exact cell_blk [_, _, _, _, _, _, _, _, _, _, _] rfl | exact cell_blk [_, _, _, _, _, _, _, _, _, _, _, _] rfl | exact cell_blk [_, _, _, _, _, _, _, _, _, _, _, _, _] rfl | exact cell_blk [_, _, _, _, _, _, _, _, _, _, _, _, _, _] rfl)) ?_
                    refine wl_c (fun _ _ => want_none) rfl (yc_spec (fst := []) (cap := []) _ FN15 (out_spec q m.e1 hok1) rfl rfl rfl (by simp) (by (repeat (first | exact pt_nil | apply pt0 | apply pt1 | apply pt2 | apply pt3 | apply pt4 | apply pt5 | apply pt6 | apply pt7 | apply pt8 | apply pt9 | apply pt10 | apply pt11 | apply pt12 | apply pt13 | apply pt14 | apply pt15 | apply pt16 | apply pt17)))) (wl_ex fun x86 hx86 => ?_)
                    obtain ⟨o86, c86⟩ := x86
                    refine wl_y rfl (y_assign rfl) ?_
                    refine wl_nil ?_
                    refine wq_then ?_
                    refine wc_seq ?_
                    refine wc_region ?_
                    refine wl_y rfl (y_assign rfl) ?_
                    refine wl_nil ?_
                    refine wq_then ?_
                    refine wc_block ?_
                    refine wc_loop (α := Nat × Sl Pk) (fun y => y.1 ≤ m.e1.out.length ∧ y.2.xs.length ≤ 5000 ∧ ∀ p ∈ y.2.xs, POk m.e1 m.s1.xs p) [(0, _), (1, _), (5, _), (9, _), (10, _), (11, _), (12, _), (14, _), (15, _)] (fun y => [(16, vI y.1)]) (fun y => Hp w0 K [blk b13 (.cells (encM x).toArray 49 (0, 0)), pksA o86 c86 m.e1.out, blk b5 (.cells [ptr p, ptr q].toArray 44 (0, 0)), blk b9 (.cells [sv m.s0, sv m.s1].toArray 46 (0, 0)), blk b10 (.cells [sv m.g0, sv m.g1].toArray 46 (0, 0)), blk b11 (.cells [sv y.2, sv m.w1].toArray 47 (0, 0)), endA p m.e0, endA q m.e1, sA m.s0, sA m.s1, sA m.g0, sA m.g1, pA y.2, pA m.w1]) (fun y => m.e1.out.length - y.1) (0, m.w0) ?_ ⟨rfl, rfl, rfl, rfl, rfl, rfl, rfl, rfl, rfl, rfl, trivial⟩ ?_ ?_
                    · exact ⟨Nat.zero_le _, hT.symm.b.way, hT.symm.b.all⟩
                    · exact fun w hw => hw.sub (by (repeat (first | exact pt_nil | apply pt0 | apply pt1 | apply pt2 | apply pt3 | apply pt4 | apply pt5 | apply pt6 | apply pt7 | apply pt8 | apply pt9 | apply pt10 | apply pt11 | apply pt12 | apply pt13 | apply pt14 | apply pt15 | apply pt16 | apply pt17)))
                    · rintro ⟨j, ws⟩ ⟨hj, hws, hall⟩; simp only at hj hws hall
                      have hol := out_length m.e1; obtain ⟨hq1, hq2, hq3, hq4⟩ := id hok1
                      refine wc_world (S' := Hp w0 K [blk b13 (.cells (encM x).toArray 49 (0, 0)), pksA o86 c86 m.e1.out, blk b5 (.cells [ptr p, ptr q].toArray 44 (0, 0)), blk b9 (.cells [sv m.s0, sv m.s1].toArray 46 (0, 0)), blk b10 (.cells [sv m.g0, sv m.g1].toArray 46 (0, 0)), blk b11 (.cells [sv ws, sv m.w1].toArray 47 (0, 0)), endA p m.e0, endA q m.e1, sA m.s0, sA m.s1, sA m.g0, sA m.g1, pA ws, pA m.w1]) (fun w hw => hw) ?_
                      refine wc_seq ?_
                      refine wc_seq ?_
                      refine wc_region ?_
                      refine wl_y rfl (y_move rfl) ?_
                      refine wl_y rfl (y_move rfl) ?_
                      refine wl_y rfl (y_lenSl Try.underlying39 rfl) ?_
                      refine wl_y rfl (y_lss rfl rfl) ?_
                      refine wl_y rfl (y_move rfl) ?_
                      refine wl_case 91 rfl (fun hg91 => ?_) (fun hg91 => ?_)
                      ·
                        simp at hg91
                        refine wl_yg rfl rfl rfl (y_move rfl) ?_
                        refine wl_yg rfl rfl rfl (y_sub rfl rfl (by omega)) ?_
                        refine wl_yg rfl rfl rfl (y_indexAddrArr (i := 0) Try.underlying47 T39 rfl rfl rfl (by decide)) ?_
                        refine wl_yg rfl rfl rfl (y_load NA39 rfl (by first | exact cell_blk [] rfl | exact cell_blk [_] rfl | exact cell_blk [_, _] rfl | exact cell_blk [_, _, _] rfl | exact cell_blk [_, _, _, _] rfl | exact cell_blk [_, _, _, _, _] rfl | exact cell_blk [_, _, _, _, _, _] rfl | exact cell_blk [_, _, _, _, _, _, _] rfl | exact cell_blk [_, _, _, _, _, _, _, _] rfl | exact cell_blk [_, _, _, _, _, _, _, _, _] rfl | exact cell_blk [_, _, _, _, _, _, _, _, _, _] rfl | exact cell_blk [_, _, _, _, _, _, _, _, _, _, _] rfl | exact cell_blk [_, _, _, _, _, _, _, _, _, _, _, _] rfl | exact cell_blk [_, _, _, _, _, _, _, _, _, _, _, _, _] rfl | exact cell_blk [_, _, _, _, _, _, _, _, _, _, _, _, _, _] rfl)) ?_
                        refine wl_yg rfl rfl rfl (y_lenSl Try.underlying39 rfl) ?_
                        refine wl_yg rfl rfl rfl (y_lss rfl rfl) ?_
                        refine wl_y rfl (y_pick_t rfl rfl) ?_
                        refine wl_nil ?_
                        refine wq_then ?_
                        refine wc_cond rfl (fun hc98 => ?_) (fun hc98 => ?_)
                        ·
                          simp at hc98
                          refine wc_skip ?_
                          refine wq_then ?_
                          refine wc_seq ?_
                          refine wc_block ?_
                          refine wc_mix (.q 0 0 (.q 1 0 (.q 2 0 (.q 3 0 (.q 4 0 (.q 5 0 (.q 6 0 (.q 7 0 (.q 8 0 (.q 9 1 (.w 10 2 (.w 11 2 (.q 12 0 (.w 13 3 .nil .nil)) .nil) .nil))))))))))) (Seen (blk b11 (.cells [sv ws, sv m.w1].toArray 47 (0, 0)))) MO (by kernel_rfl) (Hp.drawless _ _ _) (fun w hw => by first | exact hw.seen [] | exact hw.seen [_] | exact hw.seen [_, _] | exact hw.seen [_, _, _] | exact hw.seen [_, _, _, _] | exact hw.seen [_, _, _, _, _] | exact hw.seen [_, _, _, _, _, _] | exact hw.seen [_, _, _, _, _, _, _] | exact hw.seen [_, _, _, _, _, _, _, _] | exact hw.seen [_, _, _, _, _, _, _, _, _] | exact hw.seen [_, _, _, _, _, _, _, _, _, _] | exact hw.seen [_, _, _, _, _, _, _, _, _, _, _] | exact hw.seen [_, _, _, _, _, _, _, _, _, _, _, _] | exact hw.seen [_, _, _, _, _, _, _, _, _, _, _, _, _] | exact hw.seen [_, _, _, _, _, _, _, _, _, _, _, _, _, _]) ?_
                          obtain ⟨pk, hpk⟩ : ∃ pk, m.e1.out[j]? = some pk := ⟨_, List.getElem?_eq_getElem (by omega)⟩
                          refine wm_have (p := o86.isSome = true) (fun w hw => hw.slc_isSome [_] (by omega)) (fun ho86 => ?_)
                          refine wm_g rfl rfl (y_move rfl) ?_
                          refine wm_g rfl rfl (y_sub rfl rfl (by omega)) ?_
                          refine wm_g rfl rfl (y_move rfl) ?_
                          refine wm_g rfl rfl (y_sub rfl rfl (by omega)) ?_
                          refine wm_g rfl rfl (y_indexAddrArr (i := 0) Try.underlying47 T39 rfl rfl rfl (by decide)) ?_
                          refine wm_g rfl rfl (y_load NA39 rfl (fun w hw => cell_of_heap hw.blk rfl)) ?_
                          refine wm_g rfl rfl (y_move rfl) ?_
                          refine wm_g rfl rfl (y_move rfl) ?_
                          refine wm_g rfl rfl (y_indexAddr Try.underlying39 T32 rfl rfl rfl (by omega) (fun _ _ => ho86)) ?_
                          refine wm_l rfl rfl (y_loadAgg (l := encP pk) AG32 rfl rfl (agg_own [_] (fun i u h => rows_get encP_len hpk h))) ?_
                          refine wm_w rfl rfl (fun _ _ h => by obtain ⟨_, _, _, hw⟩ := h; first | exact hw.seen [] | exact hw.seen [_] | exact hw.seen [_, _] | exact hw.seen [_, _, _] | exact hw.seen [_, _, _, _] | exact hw.seen [_, _, _, _, _] | exact hw.seen [_, _, _, _, _, _] | exact hw.seen [_, _, _, _, _, _, _] | exact hw.seen [_, _, _, _, _, _, _, _] | exact hw.seen [_, _, _, _, _, _, _, _, _] | exact hw.seen [_, _, _, _, _, _, _, _, _, _] | exact hw.seen [_, _, _, _, _, _, _, _, _, _, _] | exact hw.seen [_, _, _, _, _, _, _, _, _, _, _, _] | exact hw.seen [_, _, _, _, _, _, _, _, _, _, _, _, _] | exact hw.seen [_, _, _, _, _, _, _, _, _, _, _, _, _, _]) (yw_buildSlice (cs := [_, _, _]) Try.underlying39 T32 rfl rfl rfl rfl rfl rfl rfl) (wm_ex fun b111 _ => ?_)
                          refine wm_w rfl rfl (fun _ _ h => by obtain ⟨_, _, _, hw⟩ := h; first | exact hw.seen [] | exact hw.seen [_] | exact hw.seen [_, _] | exact hw.seen [_, _, _] | exact hw.seen [_, _, _, _] | exact hw.seen [_, _, _, _, _] | exact hw.seen [_, _, _, _, _, _] | exact hw.seen [_, _, _, _, _, _, _] | exact hw.seen [_, _, _, _, _, _, _, _] | exact hw.seen [_, _, _, _, _, _, _, _, _] | exact hw.seen [_, _, _, _, _, _, _, _, _, _] | exact hw.seen [_, _, _, _, _, _, _, _, _, _, _] | exact hw.seen [_, _, _, _, _, _, _, _, _, _, _, _] | exact hw.seen [_, _, _, _, _, _, _, _, _, _, _, _, _] | exact hw.seen [_, _, _, _, _, _, _, _, _, _, _, _, _, _]) (yw_append [_, _, _, _, _, _, _, _, _, _, _, _, _] Try.underlying39 Try.underlying39 (.inl ⟨_, rfl⟩) T32 rfl rfl rfl (fun w hw => Src.slice ((hw.seen []).mono fun _ => slc_rsl)) (by omega) (by unfold maxLen; omega) (by simp [Value.oneCell']) rfl) (wm_ex fun p' hp' => ?_)
                          refine wm_g rfl rfl (y_indexAddrArr (i := 0) Try.underlying47 T39 rfl rfl rfl (by decide)) ?_
                          first | refine wm_u3 rfl (yu_store [] (l' := _) T39 rfl rfl rfl rfl rfl rfl rfl) ?_ | refine wm_u3 rfl (yu_store [_] (l' := _) T39 rfl rfl rfl rfl rfl rfl rfl) ?_ | refine wm_u3 rfl (yu_store [_, _] (l' := _) T39 rfl rfl rfl rfl rfl rfl rfl) ?_ | refine wm_u3 rfl (yu_store [_, _, _] (l' := _) T39 rfl rfl rfl rfl rfl rfl rfl) ?_ | refine wm_u3 rfl (yu_store [_, _, _, _] (l' := _) T39 rfl rfl rfl rfl rfl rfl rfl) ?_ | refine wm_u3 rfl (yu_store [_, _, _, _, _] (l' := _) T39 rfl rfl rfl rfl rfl rfl rfl) ?_ | refine wm_u3 rfl (yu_store [_, _, _, _, _, _] (l' := _) T39 rfl rfl rfl rfl rfl rfl rfl) ?_ | refine wm_u3 rfl (yu_store [_, _, _, _, _, _, _] (l' := _) T39 rfl rfl rfl rfl rfl rfl rfl) ?_ | refine wm_u3 rfl (yu_store [_, _, _, _, _, _, _, _] (l' := _) T39 rfl rfl rfl rfl rfl rfl rfl) ?_ | refine wm_u3 rfl (yu_store [_, _, _, _, _, _, _, _, _] (l' := _) T39 rfl rfl rfl rfl rfl rfl rfl) ?_ | refine wm_u3 rfl (yu_store [_, _, _, _, _, _, _, _, _, _] (l' := _) T39 rfl rfl rfl rfl rfl rfl rfl) ?_ | refine wm_u3 rfl (yu_store [_, _, _, _, _, _, _, _, _, _, _] (l' := _) T39 rfl rfl rfl rfl rfl rfl rfl) ?_ | refine wm_u3 rfl (yu_store [_, _, _, _, _, _, _, _, _, _, _, _] (l' := _) T39 rfl rfl rfl rfl rfl rfl rfl) ?_ | refine wm_u3 rfl (yu_store [_, _, _, _, _, _, _, _, _, _, _, _, _] (l' := _) T39 rfl rfl rfl rfl rfl rfl rfl) ?_ | refine wm_u3 rfl (yu_store [_, _, _, _, _, _, _, _, _, _, _, _, _, _] (l' := _) T39 rfl rfl rfl rfl rfl rfl rfl) ?_
                          refine wm_nil ?_
                          refine all_wq ?_
                          refine wq_block_normal ?_
                          refine wq_then ?_
                          refine wc_region ?_
                          refine wl_y rfl (y_move rfl) ?_
                          refine wl_y rfl (y_add rfl rfl (by omega)) ?_
                          refine wl_y rfl (y_assign rfl) ?_
                          refine wl_nil ?_
                          exact wq_round (j + 1, ⟨p'.1, p'.2, ws.xs ++ [pk]⟩) (by simp only; omega) ⟨by simp only; omega, by simp; omega, fun z hz => (List.mem_append.1 hz).elim (hall z) (fun h => by rw [List.mem_singleton.1 h]; exact hT.symm.out pk (List.mem_of_getElem? hpk))⟩ ⟨rfl, rfl, rfl, rfl, rfl, rfl, rfl, rfl, rfl, rfl, trivial⟩ (fun w hw => by simp only [sv_app, pA_app]; exact hw.sub (by (repeat (first | exact pt_nil | apply pt0 | apply pt1 | apply pt2 | apply pt3 | apply pt4 | apply pt5 | apply pt6 | apply pt7 | apply pt8 | apply pt9 | apply pt10 | apply pt11 | apply pt12 | apply pt13 | apply pt14 | apply pt15 | apply pt16 | apply pt17))))
                        ·
                          simp at hc98
                          refine wc_exit ?_
                          refine wq_then_exit (wq_then_exit (wq_block_exit ?_))
                          refine wq_block_normal ?_
                          exact wq_cut { m with w0 := ws } (((hT.symm.ways hws hall).more).symm) ⟨rfl, rfl, rfl, rfl, rfl, rfl, rfl, rfl, trivial⟩ (fun w hw => hw.sub (by (repeat (first | exact pt_nil | apply pt0 | apply pt1 | apply pt2 | apply pt3 | apply pt4 | apply pt5 | apply pt6 | apply pt7 | apply pt8 | apply pt9 | apply pt10 | apply pt11 | apply pt12 | apply pt13 | apply pt14 | apply pt15 | apply pt16 | apply pt17))))
                      ·
                        simp at hg91
                        refine wl_sk rfl rfl rfl rfl ?_
                        refine wl_sk rfl rfl rfl rfl ?_
                        refine wl_sk rfl rfl rfl rfl ?_
                        refine wl_sk rfl rfl rfl rfl ?_
                        refine wl_sk rfl rfl rfl rfl ?_
                        refine wl_sk rfl rfl rfl rfl ?_
                        refine wl_y rfl (y_pick_f rfl rfl) ?_
                        refine wl_nil ?_
                        refine wq_then ?_
                        refine wc_cond_false rfl ?_
                        refine wc_exit ?_
                        refine wq_then_exit (wq_then_exit (wq_block_exit ?_))
                        refine wq_block_normal ?_
                        exact wq_cut { m with w0 := ws } (((hT.symm.ways hws hall).more).symm) ⟨rfl, rfl, rfl, rfl, rfl, rfl, rfl, rfl, trivial⟩ (fun w hw => hw.sub (by (repeat (first | exact pt_nil | apply pt0 | apply pt1 | apply pt2 | apply pt3 | apply pt4 | apply pt5 | apply pt6 | apply pt7 | apply pt8 | apply pt9 | apply pt10 | apply pt11 | apply pt12 | apply pt13 | apply pt14 | apply pt15 | apply pt16 | apply pt17))))
                  ·
                    refine wc_seq ?_
                    refine wc_region ?_
                    refine wl_y rfl (y_fieldAddr F49_2 rfl) ?_
                    refine wl_y rfl (y_load NA4 rfl (by first | exact cell_blk [] rfl | exact cell_blk [_] rfl | exact cell_blk [_, _] rfl | exact cell_blk [_, _, _] rfl | exact cell_blk [_, _, _, _] rfl | exact cell_blk [_, _, _, _, _] rfl | exact cell_blk [_, _, _, _, _, _] rfl | exact cell_blk [_, _, _, _, _, _, _] rfl | exact cell_blk [_, _, _, _, _, _, _, _] rfl | exact cell_blk [_, _, _, _, _, _, _, _, _] rfl | exact cell_blk [_, _, _, _, _, _, _, _, _, _] rfl | exact cell_blk [_, _, _, _, _, _, _, _, _, _, _] rfl | exact cell_blk [_, _, _, _, _, _, _, _, _, _, _, _] rfl | exact cell_blk [_, _, _, _, _, _, _, _, _, _, _, _, _] rfl | exact cell_blk [_, _, _, _, _, _, _, _, _, _, _, _, _, _] rfl)) ?_
                    refine wl_y rfl (y_assign rfl) ?_
                    refine wl_nil ?_
                    refine wq_then ?_
                    refine wc_cond rfl (fun hc114 => ?_) (fun hc114 => ?_)
                    ·
                      refine wc_seq ?_
                      refine wc_region ?_
                      refine wl_y rfl (y_move rfl) ?_
                      refine wl_y rfl (y_indexAddrArr (i := 1) Try.underlying47 T39 rfl rfl rfl (by decide)) ?_
                      refine wl_y rfl (y_load NA39 rfl (by first | exact cell_blk [] rfl | exact cell_blk [_] rfl | exact cell_blk [_, _] rfl | exact cell_blk [_, _, _] rfl | exact cell_blk [_, _, _, _] rfl | exact cell_blk [_, _, _, _, _] rfl | exact cell_blk [_, _, _, _, _, _] rfl | exact cell_blk [_, _, _, _, _, _, _] rfl | exact cell_blk [_, _, _, _, _, _, _, _] rfl | exact cell_blk [_, _, _, _, _, _, _, _, _] rfl | exact cell_blk [_, _, _, _, _, _, _, _, _, _] rfl | exact cell_blk [_, _, _, _, _, _, _, _, _, _, _] rfl | exact cell_blk [_, _, _, _, _, _, _, _, _, _, _, _] rfl | exact cell_blk [_, _, _, _, _, _, _, _, _, _, _, _, _] rfl | exact cell_blk [_, _, _, _, _, _, _, _, _, _, _, _, _, _] rfl)) ?_
                      refine wl_y rfl (y_lenSl Try.underlying39 rfl) ?_
                      refine wl_y rfl (y_gtr rfl rfl) ?_
                      refine wl_nil ?_
                      refine wq_then ?_
                      refine wc_cond rfl (fun hc121 => ?_) (fun hc121 => ?_)
                      ·
                        simp at hc121
                        refine wc_seq ?_
                        refine wc_mix (.q 0 0 (.q 1 0 (.q 2 1 (.q 3 0 (.q 4 0 (.q 5 1 (.q 6 0 (.q 7 1 (.q 8 0 (.q 9 0 (.q 10 1 (.q 11 0 (.q 12 0 (.q 13 0 (.q 14 0 (.q 15 1 (.q 16 0 (.q 17 0 (.q 18 0 (.q 19 0 (.q 20 1 (.q 21 0 (.q 22 0 (.q 23 0 (.q 24 1 (.w 25 2 (.q 26 0 (.q 27 0 (.q 28 0 (.q 29 0 (.q 30 0 .nil))))) .nil)))))))))))))))))))))))))) (fun _ => True) MO (by kernel_rfl) (Hp.drawless _ _ _) (fun _ _ => trivial) ?_
                        obtain ⟨hb1, hb2, jj, hjj, hje⟩ := idx_ok x.n (l := m.w1.xs.length) (by omega)
                        obtain ⟨pk, hpk⟩ : ∃ pk, m.w1.xs[jj]? = some pk := ⟨_, List.getElem?_eq_getElem hjj⟩
                        have hpo := hT.symm.a.all pk (List.mem_of_getElem? hpk)
                        have hpa : -9223372036854775808 ≤ pk.ack ∧ pk.ack ≤ 9223372036854775807 := by have := hpo.1; have := hpo.2.1; have := hok0.2.2.2; omega
                        refine wm_have (p := m.w1.a.isSome = true) (fun w hw => hw.slc_isSome [_, _, _, _, _, _, _, _, _, _, _, _] (by omega)) (fun how => ?_)
                        refine wm_g rfl rfl (y_move rfl) ?_
                        refine wm_g rfl rfl (y_indexAddrArr (i := 1) Try.underlying44 T23 rfl rfl rfl (by decide)) ?_
                        refine wm_l rfl rfl (y_load NA23 rfl (by first | exact cell_blk [] rfl | exact cell_blk [_] rfl | exact cell_blk [_, _] rfl | exact cell_blk [_, _, _] rfl | exact cell_blk [_, _, _, _] rfl | exact cell_blk [_, _, _, _, _] rfl | exact cell_blk [_, _, _, _, _, _] rfl | exact cell_blk [_, _, _, _, _, _, _] rfl | exact cell_blk [_, _, _, _, _, _, _, _] rfl | exact cell_blk [_, _, _, _, _, _, _, _, _] rfl | exact cell_blk [_, _, _, _, _, _, _, _, _, _] rfl | exact cell_blk [_, _, _, _, _, _, _, _, _, _, _] rfl | exact cell_blk [_, _, _, _, _, _, _, _, _, _, _, _] rfl | exact cell_blk [_, _, _, _, _, _, _, _, _, _, _, _, _] rfl | exact cell_blk [_, _, _, _, _, _, _, _, _, _, _, _, _, _] rfl)) ?_
                        refine wm_g rfl rfl (y_move rfl) ?_
                        refine wm_g rfl rfl (y_indexAddrArr (i := 1) Try.underlying47 T39 rfl rfl rfl (by decide)) ?_
                        refine wm_l rfl rfl (y_load NA39 rfl (by first | exact cell_blk [] rfl | exact cell_blk [_] rfl | exact cell_blk [_, _] rfl | exact cell_blk [_, _, _] rfl | exact cell_blk [_, _, _, _] rfl | exact cell_blk [_, _, _, _, _] rfl | exact cell_blk [_, _, _, _, _, _] rfl | exact cell_blk [_, _, _, _, _, _, _] rfl | exact cell_blk [_, _, _, _, _, _, _, _] rfl | exact cell_blk [_, _, _, _, _, _, _, _, _] rfl | exact cell_blk [_, _, _, _, _, _, _, _, _, _] rfl | exact cell_blk [_, _, _, _, _, _, _, _, _, _, _] rfl | exact cell_blk [_, _, _, _, _, _, _, _, _, _, _, _] rfl | exact cell_blk [_, _, _, _, _, _, _, _, _, _, _, _, _] rfl | exact cell_blk [_, _, _, _, _, _, _, _, _, _, _, _, _, _] rfl)) ?_
                        refine wm_g rfl rfl (y_fieldAddr F49_4 rfl) ?_
                        refine wm_l rfl rfl (y_load NA3 rfl (by first | exact cell_blk [] rfl | exact cell_blk [_] rfl | exact cell_blk [_, _] rfl | exact cell_blk [_, _, _] rfl | exact cell_blk [_, _, _, _] rfl | exact cell_blk [_, _, _, _, _] rfl | exact cell_blk [_, _, _, _, _, _] rfl | exact cell_blk [_, _, _, _, _, _, _] rfl | exact cell_blk [_, _, _, _, _, _, _, _] rfl | exact cell_blk [_, _, _, _, _, _, _, _, _] rfl | exact cell_blk [_, _, _, _, _, _, _, _, _, _] rfl | exact cell_blk [_, _, _, _, _, _, _, _, _, _, _] rfl | exact cell_blk [_, _, _, _, _, _, _, _, _, _, _, _] rfl | exact cell_blk [_, _, _, _, _, _, _, _, _, _, _, _, _] rfl | exact cell_blk [_, _, _, _, _, _, _, _, _, _, _, _, _, _] rfl)) ?_
                        refine wm_g rfl rfl (y_move rfl) ?_
                        refine wm_g rfl rfl (y_indexAddrArr (i := 1) Try.underlying47 T39 rfl rfl rfl (by decide)) ?_
                        refine wm_l rfl rfl (y_load NA39 rfl (by first | exact cell_blk [] rfl | exact cell_blk [_] rfl | exact cell_blk [_, _] rfl | exact cell_blk [_, _, _] rfl | exact cell_blk [_, _, _, _] rfl | exact cell_blk [_, _, _, _, _] rfl | exact cell_blk [_, _, _, _, _, _] rfl | exact cell_blk [_, _, _, _, _, _, _] rfl | exact cell_blk [_, _, _, _, _, _, _, _] rfl | exact cell_blk [_, _, _, _, _, _, _, _, _] rfl | exact cell_blk [_, _, _, _, _, _, _, _, _, _] rfl | exact cell_blk [_, _, _, _, _, _, _, _, _, _, _] rfl | exact cell_blk [_, _, _, _, _, _, _, _, _, _, _, _] rfl | exact cell_blk [_, _, _, _, _, _, _, _, _, _, _, _, _] rfl | exact cell_blk [_, _, _, _, _, _, _, _, _, _, _, _, _, _] rfl)) ?_
                        refine wm_g rfl rfl (y_lenSl Try.underlying39 rfl) ?_
                        refine wm_g rfl rfl (y_rem rfl rfl (by omega)) ?_
                        refine wm_g rfl rfl (y_move rfl) ?_
                        refine wm_g rfl rfl (y_indexAddrArr (i := 1) Try.underlying47 T39 rfl rfl rfl (by decide)) ?_
                        refine wm_l rfl rfl (y_load NA39 rfl (by first | exact cell_blk [] rfl | exact cell_blk [_] rfl | exact cell_blk [_, _] rfl | exact cell_blk [_, _, _] rfl | exact cell_blk [_, _, _, _] rfl | exact cell_blk [_, _, _, _, _] rfl | exact cell_blk [_, _, _, _, _, _] rfl | exact cell_blk [_, _, _, _, _, _, _] rfl | exact cell_blk [_, _, _, _, _, _, _, _] rfl | exact cell_blk [_, _, _, _, _, _, _, _, _] rfl | exact cell_blk [_, _, _, _, _, _, _, _, _, _] rfl | exact cell_blk [_, _, _, _, _, _, _, _, _, _, _] rfl | exact cell_blk [_, _, _, _, _, _, _, _, _, _, _, _] rfl | exact cell_blk [_, _, _, _, _, _, _, _, _, _, _, _, _] rfl | exact cell_blk [_, _, _, _, _, _, _, _, _, _, _, _, _, _] rfl)) ?_
                        refine wm_g rfl rfl (y_lenSl Try.underlying39 rfl) ?_
                        refine wm_g rfl rfl (y_add rfl rfl (by omega)) ?_
                        refine wm_g rfl rfl (y_move rfl) ?_
                        refine wm_g rfl rfl (y_indexAddrArr (i := 1) Try.underlying47 T39 rfl rfl rfl (by decide)) ?_
                        refine wm_l rfl rfl (y_load NA39 rfl (by first | exact cell_blk [] rfl | exact cell_blk [_] rfl | exact cell_blk [_, _] rfl | exact cell_blk [_, _, _] rfl | exact cell_blk [_, _, _, _] rfl | exact cell_blk [_, _, _, _, _] rfl | exact cell_blk [_, _, _, _, _, _] rfl | exact cell_blk [_, _, _, _, _, _, _] rfl | exact cell_blk [_, _, _, _, _, _, _, _] rfl | exact cell_blk [_, _, _, _, _, _, _, _, _] rfl | exact cell_blk [_, _, _, _, _, _, _, _, _, _] rfl | exact cell_blk [_, _, _, _, _, _, _, _, _, _, _] rfl | exact cell_blk [_, _, _, _, _, _, _, _, _, _, _, _] rfl | exact cell_blk [_, _, _, _, _, _, _, _, _, _, _, _, _] rfl | exact cell_blk [_, _, _, _, _, _, _, _, _, _, _, _, _, _] rfl)) ?_
                        refine wm_g rfl rfl (y_lenSl Try.underlying39 rfl) ?_
                        refine wm_g rfl rfl (y_rem rfl rfl (by omega)) ?_
                        refine wm_same 145 (vI (jj : Nat)) rfl (by rw [← hje]) ?_
                        refine wm_g rfl rfl (y_indexAddr (i := jj) Try.underlying39 T32 rfl rfl rfl hjj (fun _ _ => how)) ?_
                        refine wm_l rfl rfl (y_loadAgg (l := encP pk) AG32 rfl rfl (agg_own [_, _, _, _, _, _, _, _, _, _, _, _] (fun i u h => rows_get encP_len hpk h))) ?_
                        refine wm_c rfl rfl (fun _ _ _ => trivial) (yc_spec (fst := []) (cap := []) _ FN10 (take_spec q m.e1 pk hok1 hpa) rfl rfl rfl (by simp) (by (repeat (first | exact pt_nil | apply pt0 | apply pt1 | apply pt2 | apply pt3 | apply pt4 | apply pt5 | apply pt6 | apply pt7 | apply pt8 | apply pt9 | apply pt10 | apply pt11 | apply pt12 | apply pt13 | apply pt14 | apply pt15 | apply pt16 | apply pt17)))) (wm_ex fun x148 hx148 => ?_)
                        refine wm_world (S' := Hp w0 K [blk b13 (.cells (encM x).toArray 49 (0, 0)), blk b5 (.cells [ptr p, ptr q].toArray 44 (0, 0)), blk b9 (.cells [sv m.s0, sv m.s1].toArray 46 (0, 0)), blk b10 (.cells [sv m.g0, sv m.g1].toArray 46 (0, 0)), blk b11 (.cells [sv m.w0, sv m.w1].toArray 47 (0, 0)), endA p m.e0, endA q (m.e1.take pk).1, sA m.s0, sA m.s1, sA m.g0, sA m.g1, pA m.w0, pA m.w1]) (fun w hw => hw.sub (by (repeat (first | exact pt_nil | apply pt0 | apply pt1 | apply pt2 | apply pt3 | apply pt4 | apply pt5 | apply pt6 | apply pt7 | apply pt8 | apply pt9 | apply pt10 | apply pt11 | apply pt12 | apply pt13 | apply pt14 | apply pt15 | apply pt16 | apply pt17)))) ?_
                        refine wm_g rfl rfl (y_move rfl) ?_
                        refine wm_g rfl rfl (y_extract rfl rfl) ?_
                        refine wm_g rfl rfl (y_extract rfl rfl) ?_
                        refine wm_g rfl rfl (y_assign rfl) ?_
                        refine wm_g rfl rfl (y_assign rfl) ?_
                        refine wm_nil ?_
                        refine all_wq ?_
                        refine wq_then ?_
                        refine wc_seq ?_
                        refine wc_region ?_
                        refine wl_y rfl (y_move rfl) ?_
                        refine wl_nil ?_
                        refine wq_then ?_
                        refine wc_cond rfl (fun hc151 => ?_) (fun hc151 => ?_)
                        ·
                          refine wc_region ?_
                          refine wl_y rfl (y_move rfl) ?_
                          refine wl_y rfl (y_move rfl) ?_
                          refine wl_y rfl (y_indexAddrArr (i := 1) Try.underlying46 T45 rfl rfl rfl (by decide)) ?_
                          refine wl_y rfl (y_load NA45 rfl (by first | exact cell_blk [] rfl | exact cell_blk [_] rfl | exact cell_blk [_, _] rfl | exact cell_blk [_, _, _] rfl | exact cell_blk [_, _, _, _] rfl | exact cell_blk [_, _, _, _, _] rfl | exact cell_blk [_, _, _, _, _, _] rfl | exact cell_blk [_, _, _, _, _, _, _] rfl | exact cell_blk [_, _, _, _, _, _, _, _] rfl | exact cell_blk [_, _, _, _, _, _, _, _, _] rfl | exact cell_blk [_, _, _, _, _, _, _, _, _, _] rfl | exact cell_blk [_, _, _, _, _, _, _, _, _, _, _] rfl | exact cell_blk [_, _, _, _, _, _, _, _, _, _, _, _] rfl | exact cell_blk [_, _, _, _, _, _, _, _, _, _, _, _, _] rfl | exact cell_blk [_, _, _, _, _, _, _, _, _, _, _, _, _, _] rfl)) ?_
                          refine wl_y rfl (y_move rfl) ?_
                          refine wl_w (fun _ _ => want_none) rfl (yw_buildSlice (cs := [_]) Try.underlying45 T9 rfl rfl rfl rfl rfl rfl rfl) (wl_ex fun b157 _ => ?_)
                          refine wl_w (fun _ _ => want_none) rfl (yw_append [_, _, _, _, _, _, _, _, _, _, _] Try.underlying45 Try.underlying45 (.inl ⟨_, rfl⟩) T9 rfl rfl rfl (fun w hw => Src.slice ((hw.seen []).mono fun _ => slc_rsl)) (by omega) (by unfold maxLen; omega) (by simp [Value.oneCell']) rfl) (wl_ex fun p' hp' => ?_)
                          refine wl_y rfl (y_indexAddrArr (i := 1) Try.underlying46 T45 rfl rfl rfl (by decide)) ?_
                          first | refine wl_u (yu_store [] (l' := _) T45 rfl rfl rfl rfl rfl rfl rfl) ?_ | refine wl_u (yu_store [_] (l' := _) T45 rfl rfl rfl rfl rfl rfl rfl) ?_ | refine wl_u (yu_store [_, _] (l' := _) T45 rfl rfl rfl rfl rfl rfl rfl) ?_ | refine wl_u (yu_store [_, _, _] (l' := _) T45 rfl rfl rfl rfl rfl rfl rfl) ?_ | refine wl_u (yu_store [_, _, _, _] (l' := _) T45 rfl rfl rfl rfl rfl rfl rfl) ?_ | refine wl_u (yu_store [_, _, _, _, _] (l' := _) T45 rfl rfl rfl rfl rfl rfl rfl) ?_ | refine wl_u (yu_store [_, _, _, _, _, _] (l' := _) T45 rfl rfl rfl rfl rfl rfl rfl) ?_ | refine wl_u (yu_store [_, _, _, _, _, _, _] (l' := _) T45 rfl rfl rfl rfl rfl rfl rfl) ?_ | refine wl_u (yu_store [_, _, _, _, _, _, _, _] (l' := _) T45 rfl rfl rfl rfl rfl rfl rfl) ?_ | refine wl_u (yu_store [_, _, _, _, _, _, _, _, _] (l' := _) T45 rfl rfl rfl rfl rfl rfl rfl) ?_ | refine wl_u (yu_store [_, _, _, _, _, _, _, _, _, _] (l' := _) T45 rfl rfl rfl rfl rfl rfl rfl) ?_ | refine wl_u (yu_store [_, _, _, _, _, _, _, _, _, _, _] (l' := _) T45 rfl rfl rfl rfl rfl rfl rfl) ?_ | refine wl_u (yu_store [_, _, _, _, _, _, _, _, _, _, _, _] (l' := _) T45 rfl rfl rfl rfl rfl rfl rfl) ?_ | refine wl_u (yu_store [_, _, _, _, _, _, _, _, _, _, _, _, _] (l' := _) T45 rfl rfl rfl rfl rfl rfl rfl) ?_ | refine wl_u (yu_store [_, _, _, _, _, _, _, _, _, _, _, _, _, _] (l' := _) T45 rfl rfl rfl rfl rfl rfl rfl) ?_
                          refine wl_nil ?_
                          refine wq_block_normal ?_
                          exact wq_cut { m with e1 := (m.e1.take pk).1, g1 := ⟨p'.1, p'.2, m.g1.xs ++ [(m.e1.take pk).2.1]⟩ } (((hT.symm.took1 pk hpo (by rw [if_pos hc151])).more).symm) ⟨rfl, rfl, rfl, rfl, rfl, rfl, rfl, rfl, trivial⟩ (fun w hw => by simp only [sv_app, sA_app]; exact hw.sub (by (repeat (first | exact pt_nil | apply pt0 | apply pt1 | apply pt2 | apply pt3 | apply pt4 | apply pt5 | apply pt6 | apply pt7 | apply pt8 | apply pt9 | apply pt10 | apply pt11 | apply pt12 | apply pt13 | apply pt14 | apply pt15 | apply pt16 | apply pt17))))
                        ·
                          refine wc_skip ?_
                          refine wq_block_normal ?_
                          exact wq_cut { m with e1 := (m.e1.take pk).1 } (((hT.symm.took1 pk hpo (by rw [if_neg (by rw [hc151]; exact Bool.false_ne_true)])).more).symm) ⟨rfl, rfl, rfl, rfl, rfl, rfl, rfl, rfl, trivial⟩ (fun w hw => hw.sub (by (repeat (first | exact pt_nil | apply pt0 | apply pt1 | apply pt2 | apply pt3 | apply pt4 | apply pt5 | apply pt6 | apply pt7 | apply pt8 | apply pt9 | apply pt10 | apply pt11 | apply pt12 | apply pt13 | apply pt14 | apply pt15 | apply pt16 | apply pt17))))
                      ·
                        simp at hc121
                        refine wc_skip ?_
                        refine wq_block_normal ?_
                        exact wq_cut m hT.more ⟨rfl, rfl, rfl, rfl, rfl, rfl, rfl, rfl, trivial⟩ (fun w hw => hw.sub (by (repeat (first | exact pt_nil | apply pt0 | apply pt1 | apply pt2 | apply pt3 | apply pt4 | apply pt5 | apply pt6 | apply pt7 | apply pt8 | apply pt9 | apply pt10 | apply pt11 | apply pt12 | apply pt13 | apply pt14 | apply pt15 | apply pt16 | apply pt17))))
                    ·
                      refine wc_seq ?_
                      refine wc_mix (.q 0 0 (.q 1 0 (.q 2 1 (.q 3 0 (.q 4 1 (.w 5 2 (.q 6 0 .nil) .nil)))))) (fun _ => True) MO (by kernel_rfl) (Hp.drawless _ _ _) (fun _ _ => trivial) ?_
                      refine wm_g rfl rfl (y_move rfl) ?_
                      refine wm_g rfl rfl (y_indexAddrArr (i := 1) Try.underlying44 T23 rfl rfl rfl (by decide)) ?_
                      refine wm_l rfl rfl (y_load NA23 rfl (by first | exact cell_blk [] rfl | exact cell_blk [_] rfl | exact cell_blk [_, _] rfl | exact cell_blk [_, _, _] rfl | exact cell_blk [_, _, _, _] rfl | exact cell_blk [_, _, _, _, _] rfl | exact cell_blk [_, _, _, _, _, _] rfl | exact cell_blk [_, _, _, _, _, _, _] rfl | exact cell_blk [_, _, _, _, _, _, _, _] rfl | exact cell_blk [_, _, _, _, _, _, _, _, _] rfl | exact cell_blk [_, _, _, _, _, _, _, _, _, _] rfl | exact cell_blk [_, _, _, _, _, _, _, _, _, _, _] rfl | exact cell_blk [_, _, _, _, _, _, _, _, _, _, _, _] rfl | exact cell_blk [_, _, _, _, _, _, _, _, _, _, _, _, _] rfl | exact cell_blk [_, _, _, _, _, _, _, _, _, _, _, _, _, _] rfl)) ?_
                      refine wm_g rfl rfl (y_fieldAddr F49_3 rfl) ?_
                      refine wm_l rfl rfl (y_load NA9 rfl (by first | exact cell_blk [] rfl | exact cell_blk [_] rfl | exact cell_blk [_, _] rfl | exact cell_blk [_, _, _] rfl | exact cell_blk [_, _, _, _] rfl | exact cell_blk [_, _, _, _, _] rfl | exact cell_blk [_, _, _, _, _, _] rfl | exact cell_blk [_, _, _, _, _, _, _] rfl | exact cell_blk [_, _, _, _, _, _, _, _] rfl | exact cell_blk [_, _, _, _, _, _, _, _, _] rfl | exact cell_blk [_, _, _, _, _, _, _, _, _, _] rfl | exact cell_blk [_, _, _, _, _, _, _, _, _, _, _] rfl | exact cell_blk [_, _, _, _, _, _, _, _, _, _, _, _] rfl | exact cell_blk [_, _, _, _, _, _, _, _, _, _, _, _, _] rfl | exact cell_blk [_, _, _, _, _, _, _, _, _, _, _, _, _, _] rfl)) ?_
                      refine wm_c rfl rfl (fun _ _ _ => trivial) (yc_spec (fst := []) (cap := []) _ FN12 (send_spec q m.e1 x.data hok1) rfl rfl rfl (by simp) (by (repeat (first | exact pt_nil | apply pt0 | apply pt1 | apply pt2 | apply pt3 | apply pt4 | apply pt5 | apply pt6 | apply pt7 | apply pt8 | apply pt9 | apply pt10 | apply pt11 | apply pt12 | apply pt13 | apply pt14 | apply pt15 | apply pt16 | apply pt17)))) (wm_ex fun x69 hx69 => ?_)
                      refine wm_world (S' := Hp w0 K [blk b13 (.cells (encM x).toArray 49 (0, 0)), blk b5 (.cells [ptr p, ptr q].toArray 44 (0, 0)), blk b9 (.cells [sv m.s0, sv m.s1].toArray 46 (0, 0)), blk b10 (.cells [sv m.g0, sv m.g1].toArray 46 (0, 0)), blk b11 (.cells [sv m.w0, sv m.w1].toArray 47 (0, 0)), endA p m.e0, endA q (m.e1.send x.data).1, sA m.s0, sA m.s1, sA m.g0, sA m.g1, pA m.w0, pA m.w1]) (fun w hw => hw.sub (by (repeat (first | exact pt_nil | apply pt0 | apply pt1 | apply pt2 | apply pt3 | apply pt4 | apply pt5 | apply pt6 | apply pt7 | apply pt8 | apply pt9 | apply pt10 | apply pt11 | apply pt12 | apply pt13 | apply pt14 | apply pt15 | apply pt16 | apply pt17)))) ?_
                      refine wm_g rfl rfl (y_eqlI rfl rfl) ?_
                      refine wm_nil ?_
                      refine all_wq ?_
                      refine wq_then ?_
                      refine wc_cond rfl (fun hc70 => ?_) (fun hc70 => ?_)
                      ·
                        first | replace hc70 := of_decide_eq_true hc70 | replace hc70 := of_decide_eq_false hc70
                        refine wc_mix (.q 0 0 (.q 1 0 (.q 2 0 (.q 3 0 (.q 4 0 (.q 5 1 (.w 6 2 (.w 7 2 (.q 8 0 (.w 9 3 .nil .nil)) .nil) .nil))))))) (Seen (blk b9 (.cells [sv m.s0, sv m.s1].toArray 46 (0, 0)))) MO (by kernel_rfl) (Hp.drawless _ _ _) (fun w hw => by first | exact hw.seen [] | exact hw.seen [_] | exact hw.seen [_, _] | exact hw.seen [_, _, _] | exact hw.seen [_, _, _, _] | exact hw.seen [_, _, _, _, _] | exact hw.seen [_, _, _, _, _, _] | exact hw.seen [_, _, _, _, _, _, _] | exact hw.seen [_, _, _, _, _, _, _, _] | exact hw.seen [_, _, _, _, _, _, _, _, _] | exact hw.seen [_, _, _, _, _, _, _, _, _, _] | exact hw.seen [_, _, _, _, _, _, _, _, _, _, _] | exact hw.seen [_, _, _, _, _, _, _, _, _, _, _, _] | exact hw.seen [_, _, _, _, _, _, _, _, _, _, _, _, _] | exact hw.seen [_, _, _, _, _, _, _, _, _, _, _, _, _, _]) ?_
                        refine wm_g rfl rfl (y_move rfl) ?_
                        refine wm_g rfl rfl (y_move rfl) ?_
                        refine wm_g rfl rfl (y_indexAddrArr (i := 1) Try.underlying46 T45 rfl rfl rfl (by decide)) ?_
                        refine wm_g rfl rfl (y_load NA45 rfl (fun w hw => cell_of_heap hw.blk rfl)) ?_
                        refine wm_g rfl rfl (y_fieldAddr F49_3 rfl) ?_
                        refine wm_l rfl rfl (y_load NA9 rfl (by first | exact cell_blk [] rfl | exact cell_blk [_] rfl | exact cell_blk [_, _] rfl | exact cell_blk [_, _, _] rfl | exact cell_blk [_, _, _, _] rfl | exact cell_blk [_, _, _, _, _] rfl | exact cell_blk [_, _, _, _, _, _] rfl | exact cell_blk [_, _, _, _, _, _, _] rfl | exact cell_blk [_, _, _, _, _, _, _, _] rfl | exact cell_blk [_, _, _, _, _, _, _, _, _] rfl | exact cell_blk [_, _, _, _, _, _, _, _, _, _] rfl | exact cell_blk [_, _, _, _, _, _, _, _, _, _, _] rfl | exact cell_blk [_, _, _, _, _, _, _, _, _, _, _, _] rfl | exact cell_blk [_, _, _, _, _, _, _, _, _, _, _, _, _] rfl | exact cell_blk [_, _, _, _, _, _, _, _, _, _, _, _, _, _] rfl)) ?_
                        refine wm_w rfl rfl (fun _ _ h => by obtain ⟨_, _, _, hw⟩ := h; first | exact hw.seen [] | exact hw.seen [_] | exact hw.seen [_, _] | exact hw.seen [_, _, _] | exact hw.seen [_, _, _, _] | exact hw.seen [_, _, _, _, _] | exact hw.seen [_, _, _, _, _, _] | exact hw.seen [_, _, _, _, _, _, _] | exact hw.seen [_, _, _, _, _, _, _, _] | exact hw.seen [_, _, _, _, _, _, _, _, _] | exact hw.seen [_, _, _, _, _, _, _, _, _, _] | exact hw.seen [_, _, _, _, _, _, _, _, _, _, _] | exact hw.seen [_, _, _, _, _, _, _, _, _, _, _, _] | exact hw.seen [_, _, _, _, _, _, _, _, _, _, _, _, _] | exact hw.seen [_, _, _, _, _, _, _, _, _, _, _, _, _, _]) (yw_buildSlice (cs := [_]) Try.underlying45 T9 rfl rfl rfl rfl rfl rfl rfl) (wm_ex fun b77 _ => ?_)
                        refine wm_w rfl rfl (fun _ _ h => by obtain ⟨_, _, _, hw⟩ := h; first | exact hw.seen [] | exact hw.seen [_] | exact hw.seen [_, _] | exact hw.seen [_, _, _] | exact hw.seen [_, _, _, _] | exact hw.seen [_, _, _, _, _] | exact hw.seen [_, _, _, _, _, _] | exact hw.seen [_, _, _, _, _, _, _] | exact hw.seen [_, _, _, _, _, _, _, _] | exact hw.seen [_, _, _, _, _, _, _, _, _] | exact hw.seen [_, _, _, _, _, _, _, _, _, _] | exact hw.seen [_, _, _, _, _, _, _, _, _, _, _] | exact hw.seen [_, _, _, _, _, _, _, _, _, _, _, _] | exact hw.seen [_, _, _, _, _, _, _, _, _, _, _, _, _] | exact hw.seen [_, _, _, _, _, _, _, _, _, _, _, _, _, _]) (yw_append [_, _, _, _, _, _, _, _, _] Try.underlying45 Try.underlying45 (.inl ⟨_, rfl⟩) T9 rfl rfl rfl (fun w hw => Src.slice ((hw.seen []).mono fun _ => slc_rsl)) (by omega) (by unfold maxLen; omega) (by simp [Value.oneCell']) rfl) (wm_ex fun p' hp' => ?_)
                        refine wm_g rfl rfl (y_indexAddrArr (i := 1) Try.underlying46 T45 rfl rfl rfl (by decide)) ?_
                        first | refine wm_u3 rfl (yu_store [] (l' := _) T45 rfl rfl rfl rfl rfl rfl rfl) ?_ | refine wm_u3 rfl (yu_store [_] (l' := _) T45 rfl rfl rfl rfl rfl rfl rfl) ?_ | refine wm_u3 rfl (yu_store [_, _] (l' := _) T45 rfl rfl rfl rfl rfl rfl rfl) ?_ | refine wm_u3 rfl (yu_store [_, _, _] (l' := _) T45 rfl rfl rfl rfl rfl rfl rfl) ?_ | refine wm_u3 rfl (yu_store [_, _, _, _] (l' := _) T45 rfl rfl rfl rfl rfl rfl rfl) ?_ | refine wm_u3 rfl (yu_store [_, _, _, _, _] (l' := _) T45 rfl rfl rfl rfl rfl rfl rfl) ?_ | refine wm_u3 rfl (yu_store [_, _, _, _, _, _] (l' := _) T45 rfl rfl rfl rfl rfl rfl rfl) ?_ | refine wm_u3 rfl (yu_store [_, _, _, _, _, _, _] (l' := _) T45 rfl rfl rfl rfl rfl rfl rfl) ?_ | refine wm_u3 rfl (yu_store [_, _, _, _, _, _, _, _] (l' := _) T45 rfl rfl rfl rfl rfl rfl rfl) ?_ | refine wm_u3 rfl (yu_store [_, _, _, _, _, _, _, _, _] (l' := _) T45 rfl rfl rfl rfl rfl rfl rfl) ?_ | refine wm_u3 rfl (yu_store [_, _, _, _, _, _, _, _, _, _] (l' := _) T45 rfl rfl rfl rfl rfl rfl rfl) ?_ | refine wm_u3 rfl (yu_store [_, _, _, _, _, _, _, _, _, _, _] (l' := _) T45 rfl rfl rfl rfl rfl rfl rfl) ?_ | refine wm_u3 rfl (yu_store [_, _, _, _, _, _, _, _, _, _, _, _] (l' := _) T45 rfl rfl rfl rfl rfl rfl rfl) ?_ | refine wm_u3 rfl (yu_store [_, _, _, _, _, _, _, _, _, _, _, _, _] (l' := _) T45 rfl rfl rfl rfl rfl rfl rfl) ?_ | refine wm_u3 rfl (yu_store [_, _, _, _, _, _, _, _, _, _, _, _, _, _] (l' := _) T45 rfl rfl rfl rfl rfl rfl rfl) ?_
                        refine wm_nil ?_
                        refine all_wq ?_
                        refine wq_block_normal ?_
                        exact wq_cut { m with e1 := (m.e1.send x.data).1, s1 := ⟨p'.1, p'.2, m.s1.xs ++ [x.data]⟩ } (((hT.symm.send x.data hc70)).symm) ⟨rfl, rfl, rfl, rfl, rfl, rfl, rfl, rfl, trivial⟩ (fun w hw => by simp only [sv_app, sA_app]; exact hw.sub (by (repeat (first | exact pt_nil | apply pt0 | apply pt1 | apply pt2 | apply pt3 | apply pt4 | apply pt5 | apply pt6 | apply pt7 | apply pt8 | apply pt9 | apply pt10 | apply pt11 | apply pt12 | apply pt13 | apply pt14 | apply pt15 | apply pt16 | apply pt17))))
                      ·
                        first | replace hc70 := of_decide_eq_true hc70 | replace hc70 := of_decide_eq_false hc70
                        refine wc_skip ?_
                        refine wq_block_normal ?_
                        exact wq_cut m hT.more ⟨rfl, rfl, rfl, rfl, rfl, rfl, rfl, rfl, trivial⟩ (fun w hw => by rw [send_not hc70] at hw; exact hw.sub (by (repeat (first | exact pt_nil | apply pt0 | apply pt1 | apply pt2 | apply pt3 | apply pt4 | apply pt5 | apply pt6 | apply pt7 | apply pt8 | apply pt9 | apply pt10 | apply pt11 | apply pt12 | apply pt13 | apply pt14 | apply pt15 | apply pt16 | apply pt17))))
                · intro m' hT'
                  refine all_wc ?_
                  refine wc_seq ?_
                  refine wc_region ?_
                  refine wl_y rfl (y_indexAddrArr (i := 0) Try.underlying46 T45 rfl rfl rfl (by decide)) ?_
                  refine wl_y rfl (y_load NA45 rfl (by first | exact cell_blk [] rfl | exact cell_blk [_] rfl | exact cell_blk [_, _] rfl | exact cell_blk [_, _, _] rfl | exact cell_blk [_, _, _, _] rfl | exact cell_blk [_, _, _, _, _] rfl | exact cell_blk [_, _, _, _, _, _] rfl | exact cell_blk [_, _, _, _, _, _, _] rfl | exact cell_blk [_, _, _, _, _, _, _, _] rfl | exact cell_blk [_, _, _, _, _, _, _, _, _] rfl | exact cell_blk [_, _, _, _, _, _, _, _, _, _] rfl | exact cell_blk [_, _, _, _, _, _, _, _, _, _, _] rfl | exact cell_blk [_, _, _, _, _, _, _, _, _, _, _, _] rfl | exact cell_blk [_, _, _, _, _, _, _, _, _, _, _, _, _] rfl | exact cell_blk [_, _, _, _, _, _, _, _, _, _, _, _, _, _] rfl)) ?_
                  refine wl_y rfl (y_indexAddrArr (i := 1) Try.underlying46 T45 rfl rfl rfl (by decide)) ?_
                  refine wl_y rfl (y_load NA45 rfl (by first | exact cell_blk [] rfl | exact cell_blk [_] rfl | exact cell_blk [_, _] rfl | exact cell_blk [_, _, _] rfl | exact cell_blk [_, _, _, _] rfl | exact cell_blk [_, _, _, _, _] rfl | exact cell_blk [_, _, _, _, _, _] rfl | exact cell_blk [_, _, _, _, _, _, _] rfl | exact cell_blk [_, _, _, _, _, _, _, _] rfl | exact cell_blk [_, _, _, _, _, _, _, _, _] rfl | exact cell_blk [_, _, _, _, _, _, _, _, _, _] rfl | exact cell_blk [_, _, _, _, _, _, _, _, _, _, _] rfl | exact cell_blk [_, _, _, _, _, _, _, _, _, _, _, _] rfl | exact cell_blk [_, _, _, _, _, _, _, _, _, _, _, _, _] rfl | exact cell_blk [_, _, _, _, _, _, _, _, _, _, _, _, _, _] rfl)) ?_
                  refine wl_c (fun _ _ => want_none) rfl (yc_spec (fst := []) (cap := []) _ FN19 (begins_spec m'.g0.a m'.s1.a m'.g0.cap m'.s1.cap m'.g0.xs m'.s1.xs (by have := hT'.gotLen; have := hT'.a.came; have := hT'.b.len; omega)) rfl rfl rfl (List.forall_mem_cons.2 ⟨.inr ⟨sA m'.g0, by simp, fun _ => slc_rsl⟩, List.forall_mem_cons.2 ⟨.inr ⟨sA m'.s1, by simp, fun _ => slc_rsl⟩, List.forall_mem_nil _⟩⟩) (List.Perm.refl _)) (wl_ex fun x164 hx164 => ?_)
                  refine wl_y rfl (y_not rfl) ?_
                  refine wl_y rfl (y_move rfl) ?_
                  refine wl_known 166 false rfl (by rw [← hT'.begins]; simp) ?_
                  refine wl_yg rfl rfl rfl (y_indexAddrArr (i := 1) Try.underlying46 T45 rfl rfl rfl (by decide)) ?_
                  refine wl_yg rfl rfl rfl (y_load NA45 rfl (by first | exact cell_blk [] rfl | exact cell_blk [_] rfl | exact cell_blk [_, _] rfl | exact cell_blk [_, _, _] rfl | exact cell_blk [_, _, _, _] rfl | exact cell_blk [_, _, _, _, _] rfl | exact cell_blk [_, _, _, _, _, _] rfl | exact cell_blk [_, _, _, _, _, _, _] rfl | exact cell_blk [_, _, _, _, _, _, _, _] rfl | exact cell_blk [_, _, _, _, _, _, _, _, _] rfl | exact cell_blk [_, _, _, _, _, _, _, _, _, _] rfl | exact cell_blk [_, _, _, _, _, _, _, _, _, _, _] rfl | exact cell_blk [_, _, _, _, _, _, _, _, _, _, _, _] rfl | exact cell_blk [_, _, _, _, _, _, _, _, _, _, _, _, _] rfl | exact cell_blk [_, _, _, _, _, _, _, _, _, _, _, _, _, _] rfl)) ?_
                  refine wl_yg rfl rfl rfl (y_indexAddrArr (i := 0) Try.underlying46 T45 rfl rfl rfl (by decide)) ?_
                  refine wl_yg rfl rfl rfl (y_load NA45 rfl (by first | exact cell_blk [] rfl | exact cell_blk [_] rfl | exact cell_blk [_, _] rfl | exact cell_blk [_, _, _] rfl | exact cell_blk [_, _, _, _] rfl | exact cell_blk [_, _, _, _, _] rfl | exact cell_blk [_, _, _, _, _, _] rfl | exact cell_blk [_, _, _, _, _, _, _] rfl | exact cell_blk [_, _, _, _, _, _, _, _] rfl | exact cell_blk [_, _, _, _, _, _, _, _, _] rfl | exact cell_blk [_, _, _, _, _, _, _, _, _, _] rfl | exact cell_blk [_, _, _, _, _, _, _, _, _, _, _] rfl | exact cell_blk [_, _, _, _, _, _, _, _, _, _, _, _] rfl | exact cell_blk [_, _, _, _, _, _, _, _, _, _, _, _, _] rfl | exact cell_blk [_, _, _, _, _, _, _, _, _, _, _, _, _, _] rfl)) ?_
                  refine wl_c (want_some rfl rfl) rfl (yc_spec (fst := []) (cap := []) _ FN19 (begins_spec m'.g1.a m'.s0.a m'.g1.cap m'.s0.cap m'.g1.xs m'.s0.xs (by have := hT'.symm.gotLen; have := hT'.b.came; have := hT'.a.len; omega)) rfl rfl rfl (List.forall_mem_cons.2 ⟨.inr ⟨sA m'.g1, by simp, fun _ => slc_rsl⟩, List.forall_mem_cons.2 ⟨.inr ⟨sA m'.s0, by simp, fun _ => slc_rsl⟩, List.forall_mem_nil _⟩⟩) (List.Perm.refl _)) (wl_ex fun x171 hx171 => ?_)
                  refine wl_yg rfl rfl rfl (y_not rfl) ?_
                  refine wl_y rfl (y_pick_f rfl rfl) ?_
                  refine wl_y rfl (y_move rfl) ?_
                  refine wl_known 174 false rfl (by rw [← hT'.symm.begins]; simp) ?_
                  refine wl_yg rfl rfl rfl (y_move rfl) ?_
                  refine wl_yg rfl rfl rfl (y_indexAddrArr (i := 1) Try.underlying44 T23 rfl rfl rfl (by decide)) ?_
                  refine wl_yg rfl rfl rfl (y_load NA23 rfl (by first | exact cell_blk [] rfl | exact cell_blk [_] rfl | exact cell_blk [_, _] rfl | exact cell_blk [_, _, _] rfl | exact cell_blk [_, _, _, _] rfl | exact cell_blk [_, _, _, _, _] rfl | exact cell_blk [_, _, _, _, _, _] rfl | exact cell_blk [_, _, _, _, _, _, _] rfl | exact cell_blk [_, _, _, _, _, _, _, _] rfl | exact cell_blk [_, _, _, _, _, _, _, _, _] rfl | exact cell_blk [_, _, _, _, _, _, _, _, _, _] rfl | exact cell_blk [_, _, _, _, _, _, _, _, _, _, _] rfl | exact cell_blk [_, _, _, _, _, _, _, _, _, _, _, _] rfl | exact cell_blk [_, _, _, _, _, _, _, _, _, _, _, _, _] rfl | exact cell_blk [_, _, _, _, _, _, _, _, _, _, _, _, _, _] rfl)) ?_
                  refine wl_c (want_some rfl rfl) rfl (yc_spec (fst := []) (cap := []) _ FN17 (open_spec q m'.e1) rfl rfl rfl (by simp) (by (repeat (first | exact pt_nil | apply pt0 | apply pt1 | apply pt2 | apply pt3 | apply pt4 | apply pt5 | apply pt6 | apply pt7 | apply pt8 | apply pt9 | apply pt10 | apply pt11 | apply pt12 | apply pt13 | apply pt14 | apply pt15 | apply pt16 | apply pt17)))) (wl_ex fun x178 hx178 => ?_)
                  refine wl_yg rfl rfl rfl (y_move rfl) ?_
                  refine wl_yg rfl rfl rfl (y_gtr rfl rfl) ?_
                  refine wl_y rfl (y_pick_f rfl rfl) ?_
                  refine wl_nil ?_
                  refine wq_then ?_
                  refine wc_known 181 false rfl (by have := hT'.b.op; simp; omega) ?_
                  refine wc_cond_false rfl ?_
                  refine wc_skip ?_
                  refine wq_block_normal ?_
                  refine wq_then ?_
                  refine wc_region ?_
                  refine wl_y rfl (y_move rfl) ?_
                  refine wl_y rfl (y_add rfl rfl (by omega)) ?_
                  refine wl_y rfl (y_assign rfl) ?_
                  refine wl_nil ?_
                  exact wq_round (k + 1, m') (by simp only; omega) ⟨by simp only; omega, by simp only; omega, hT'⟩ ⟨rfl, rfl, rfl, rfl, rfl, rfl, rfl, trivial⟩ (fun w hw => hw.sub (by (repeat (first | exact pt_nil | apply pt0 | apply pt1 | apply pt2 | apply pt3 | apply pt4 | apply pt5 | apply pt6 | apply pt7 | apply pt8 | apply pt9 | apply pt10 | apply pt11 | apply pt12 | apply pt13 | apply pt14 | apply pt15 | apply pt16 | apply pt17))))
              ·
                refine wc_skip ?_
                refine wq_then ?_
                refine wc_seq (wc_cut (α := Mem) (fun y => y.ok n (k + 1)) [(0, _), (1, _), (5, _), (9, _), (10, _), (11, _), (12, _), (14, _)] (fun y => []) (fun y => Hp w0 K [blk b13 (.cells (encM x).toArray 49 (0, 0)), blk b5 (.cells [ptr p, ptr q].toArray 44 (0, 0)), blk b9 (.cells [sv y.s0, sv y.s1].toArray 46 (0, 0)), blk b10 (.cells [sv y.g0, sv y.g1].toArray 46 (0, 0)), blk b11 (.cells [sv y.w0, sv y.w1].toArray 47 (0, 0)), endA p y.e0, endA q y.e1, sA y.s0, sA y.s1, sA y.g0, sA y.g1, pA y.w0, pA y.w1]) ⟨rfl, rfl, rfl, rfl, rfl, rfl, rfl, rfl, trivial⟩ ?_ ?_)
                ·
                  refine wc_block ?_
                  refine wc_seq ?_
                  refine wc_region ?_
                  refine wl_y rfl (y_fieldAddr F49_1 rfl) ?_
                  refine wl_y rfl (y_load NA4 rfl (by first | exact cell_blk [] rfl | exact cell_blk [_] rfl | exact cell_blk [_, _] rfl | exact cell_blk [_, _, _] rfl | exact cell_blk [_, _, _, _] rfl | exact cell_blk [_, _, _, _, _] rfl | exact cell_blk [_, _, _, _, _, _] rfl | exact cell_blk [_, _, _, _, _, _, _] rfl | exact cell_blk [_, _, _, _, _, _, _, _] rfl | exact cell_blk [_, _, _, _, _, _, _, _, _] rfl | exact cell_blk [_, _, _, _, _, _, _, _, _, _] rfl | exact cell_blk [_, _, _, _, _, _, _, _, _, _, _] rfl | exact cell_blk [_, _, _, _, _, _, _, _, _, _, _, _] rfl | exact cell_blk [_, _, _, _, _, _, _, _, _, _, _, _, _] rfl | exact cell_blk [_, _, _, _, _, _, _, _, _, _, _, _, _, _] rfl)) ?_
                  refine wl_y rfl (y_assign rfl) ?_
                  refine wl_nil ?_
                  refine wq_then ?_
                  refine wc_cond rfl (fun hc80 => ?_) (fun hc80 => ?_)
                  ·
                    refine wc_seq ?_
                    refine wc_region ?_
                    refine wl_y rfl (y_move rfl) ?_
                    refine wl_y rfl (y_indexAddrArr (i := 0) Try.underlying44 T23 rfl rfl rfl (by decide)) ?_
                    refine wl_y rfl (y_load NA23 rfl (by first | exact cell_blk [] rfl | exact cell_blk [_] rfl | exact cell_blk [_, _] rfl | exact cell_blk [_, _, _] rfl | exact cell_blk [_, _, _, _] rfl | exact cell_blk [_, _, _, _, _] rfl | exact cell_blk [_, _, _, _, _, _] rfl | exact cell_blk [_, _, _, _, _, _, _] rfl | exact cell_blk [_, _, _, _, _, _, _, _] rfl | exact cell_blk [_, _, _, _, _, _, _, _, _] rfl | exact cell_blk [_, _, _, _, _, _, _, _, _, _] rfl | exact cell_blk [_, _, _, _, _, _, _, _, _, _, _] rfl | exact cell_blk [_, _, _, _, _, _, _, _, _, _, _, _] rfl | exact cell_blk [_, _, _, _, _, _, _, _, _, _, _, _, _] rfl | exact cell_blk [_, _, _, _, _, _, _, _, _, _, _, _, _, _] rfl)) ?_
                    refine wl_c (fun _ _ => want_none) rfl (yc_spec (fst := []) (cap := []) _ FN15 (out_spec p m.e0 hok0) rfl rfl rfl (by simp) (by (repeat (first | exact pt_nil | apply pt0 | apply pt1 | apply pt2 | apply pt3 | apply pt4 | apply pt5 | apply pt6 | apply pt7 | apply pt8 | apply pt9 | apply pt10 | apply pt11 | apply pt12 | apply pt13 | apply pt14 | apply pt15 | apply pt16 | apply pt17)))) (wl_ex fun x86 hx86 => ?_)
                    obtain ⟨o86, c86⟩ := x86
                    refine wl_y rfl (y_assign rfl) ?_
                    refine wl_nil ?_
                    refine wq_then ?_
                    refine wc_seq ?_
                    refine wc_region ?_
                    refine wl_y rfl (y_assign rfl) ?_
                    refine wl_nil ?_
                    refine wq_then ?_
                    refine wc_block ?_
                    refine wc_loop (α := Nat × Sl Pk) (fun y => y.1 ≤ m.e0.out.length ∧ y.2.xs.length ≤ 5000 ∧ ∀ p ∈ y.2.xs, POk m.e0 m.s0.xs p) [(0, _), (1, _), (5, _), (9, _), (10, _), (11, _), (12, _), (14, _), (15, _)] (fun y => [(16, vI y.1)]) (fun y => Hp w0 K [blk b13 (.cells (encM x).toArray 49 (0, 0)), pksA o86 c86 m.e0.out, blk b5 (.cells [ptr p, ptr q].toArray 44 (0, 0)), blk b9 (.cells [sv m.s0, sv m.s1].toArray 46 (0, 0)), blk b10 (.cells [sv m.g0, sv m.g1].toArray 46 (0, 0)), blk b11 (.cells [sv m.w0, sv y.2].toArray 47 (0, 0)), endA p m.e0, endA q m.e1, sA m.s0, sA m.s1, sA m.g0, sA m.g1, pA m.w0, pA y.2]) (fun y => m.e0.out.length - y.1) (0, m.w1) ?_ ⟨rfl, rfl, rfl, rfl, rfl, rfl, rfl, rfl, rfl, rfl, trivial⟩ ?_ ?_
                    · exact ⟨Nat.zero_le _, hT.b.way, hT.b.all⟩
                    · exact fun w hw => hw.sub (by (repeat (first | exact pt_nil | apply pt0 | apply pt1 | apply pt2 | apply pt3 | apply pt4 | apply pt5 | apply pt6 | apply pt7 | apply pt8 | apply pt9 | apply pt10 | apply pt11 | apply pt12 | apply pt13 | apply pt14 | apply pt15 | apply pt16 | apply pt17)))
                    · rintro ⟨j, ws⟩ ⟨hj, hws, hall⟩; simp only at hj hws hall
                      have hol := out_length m.e0; obtain ⟨hq1, hq2, hq3, hq4⟩ := id hok0
                      refine wc_world (S' := Hp w0 K [blk b13 (.cells (encM x).toArray 49 (0, 0)), pksA o86 c86 m.e0.out, blk b5 (.cells [ptr p, ptr q].toArray 44 (0, 0)), blk b9 (.cells [sv m.s0, sv m.s1].toArray 46 (0, 0)), blk b10 (.cells [sv m.g0, sv m.g1].toArray 46 (0, 0)), blk b11 (.cells [sv m.w0, sv ws].toArray 47 (0, 0)), endA p m.e0, endA q m.e1, sA m.s0, sA m.s1, sA m.g0, sA m.g1, pA m.w0, pA ws]) (fun w hw => hw) ?_
                      refine wc_seq ?_
                      refine wc_seq ?_
                      refine wc_region ?_
                      refine wl_y rfl (y_move rfl) ?_
                      refine wl_y rfl (y_move rfl) ?_
                      refine wl_y rfl (y_lenSl Try.underlying39 rfl) ?_
                      refine wl_y rfl (y_lss rfl rfl) ?_
                      refine wl_y rfl (y_move rfl) ?_
                      refine wl_case 91 rfl (fun hg91 => ?_) (fun hg91 => ?_)
                      ·
                        simp at hg91
                        refine wl_yg rfl rfl rfl (y_move rfl) ?_
                        refine wl_yg rfl rfl rfl (y_sub rfl rfl (by omega)) ?_
                        refine wl_yg rfl rfl rfl (y_indexAddrArr (i := 1) Try.underlying47 T39 rfl rfl rfl (by decide)) ?_
                        refine wl_yg rfl rfl rfl (y_load NA39 rfl (by first | exact cell_blk [] rfl | exact cell_blk [_] rfl | exact cell_blk [_, _] rfl | exact cell_blk [_, _, _] rfl | exact cell_blk [_, _, _, _] rfl | exact cell_blk [_, _, _, _, _] rfl | exact cell_blk [_, _, _, _, _, _] rfl | exact cell_blk [_, _, _, _, _, _, _] rfl | exact cell_blk [_, _, _, _, _, _, _, _] rfl | exact cell_blk [_, _, _, _, _, _, _, _, _] rfl | exact cell_blk [_, _, _, _, _, _, _, _, _, _] rfl | exact cell_blk [_, _, _, _, _, _, _, _, _, _, _] rfl | exact cell_blk [_, _, _, _, _, _, _, _, _, _, _, _] rfl | exact cell_blk [_, _, _, _, _, _, _, _, _, _, _, _, _] rfl | exact cell_blk [_, _, _, _, _, _, _, _, _, _, _, _, _, _] rfl)) ?_
                        refine wl_yg rfl rfl rfl (y_lenSl Try.underlying39 rfl) ?_
                        refine wl_yg rfl rfl rfl (y_lss rfl rfl) ?_
                        refine wl_y rfl (y_pick_t rfl rfl) ?_
                        refine wl_nil ?_
                        refine wq_then ?_
                        refine wc_cond rfl (fun hc98 => ?_) (fun hc98 => ?_)
                        ·
                          simp at hc98
                          refine wc_skip ?_
                          refine wq_then ?_
                          refine wc_seq ?_
                          refine wc_block ?_
                          refine wc_mix (.q 0 0 (.q 1 0 (.q 2 0 (.q 3 0 (.q 4 0 (.q 5 0 (.q 6 0 (.q 7 0 (.q 8 0 (.q 9 1 (.w 10 2 (.w 11 2 (.q 12 0 (.w 13 3 .nil .nil)) .nil) .nil))))))))))) (Seen (blk b11 (.cells [sv m.w0, sv ws].toArray 47 (0, 0)))) MO (by kernel_rfl) (Hp.drawless _ _ _) (fun w hw => by first | exact hw.seen [] | exact hw.seen [_] | exact hw.seen [_, _] | exact hw.seen [_, _, _] | exact hw.seen [_, _, _, _] | exact hw.seen [_, _, _, _, _] | exact hw.seen [_, _, _, _, _, _] | exact hw.seen [_, _, _, _, _, _, _] | exact hw.seen [_, _, _, _, _, _, _, _] | exact hw.seen [_, _, _, _, _, _, _, _, _] | exact hw.seen [_, _, _, _, _, _, _, _, _, _] | exact hw.seen [_, _, _, _, _, _, _, _, _, _, _] | exact hw.seen [_, _, _, _, _, _, _, _, _, _, _, _] | exact hw.seen [_, _, _, _, _, _, _, _, _, _, _, _, _] | exact hw.seen [_, _, _, _, _, _, _, _, _, _, _, _, _, _]) ?_
                          obtain ⟨pk, hpk⟩ : ∃ pk, m.e0.out[j]? = some pk := ⟨_, List.getElem?_eq_getElem (by omega)⟩
                          refine wm_have (p := o86.isSome = true) (fun w hw => hw.slc_isSome [_] (by omega)) (fun ho86 => ?_)
                          refine wm_g rfl rfl (y_move rfl) ?_
                          refine wm_g rfl rfl (y_sub rfl rfl (by omega)) ?_
                          refine wm_g rfl rfl (y_move rfl) ?_
                          refine wm_g rfl rfl (y_sub rfl rfl (by omega)) ?_
                          refine wm_g rfl rfl (y_indexAddrArr (i := 1) Try.underlying47 T39 rfl rfl rfl (by decide)) ?_
                          refine wm_g rfl rfl (y_load NA39 rfl (fun w hw => cell_of_heap hw.blk rfl)) ?_
                          refine wm_g rfl rfl (y_move rfl) ?_
                          refine wm_g rfl rfl (y_move rfl) ?_
                          refine wm_g rfl rfl (y_indexAddr Try.underlying39 T32 rfl rfl rfl (by omega) (fun _ _ => ho86)) ?_
                          refine wm_l rfl rfl (y_loadAgg (l := encP pk) AG32 rfl rfl (agg_own [_] (fun i u h => rows_get encP_len hpk h))) ?_
                          refine wm_w rfl rfl (fun _ _ h => by obtain ⟨_, _, _, hw⟩ := h; first | exact hw.seen [] | exact hw.seen [_] | exact hw.seen [_, _] | exact hw.seen [_, _, _] | exact hw.seen [_, _, _, _] | exact hw.seen [_, _, _, _, _] | exact hw.seen [_, _, _, _, _, _] | exact hw.seen [_, _, _, _, _, _, _] | exact hw.seen [_, _, _, _, _, _, _, _] | exact hw.seen [_, _, _, _, _, _, _, _, _] | exact hw.seen [_, _, _, _, _, _, _, _, _, _] | exact hw.seen [_, _, _, _, _, _, _, _, _, _, _] | exact hw.seen [_, _, _, _, _, _, _, _, _, _, _, _] | exact hw.seen [_, _, _, _, _, _, _, _, _, _, _, _, _] | exact hw.seen [_, _, _, _, _, _, _, _, _, _, _, _, _, _]) (yw_buildSlice (cs := [_, _, _]) Try.underlying39 T32 rfl rfl rfl rfl rfl rfl rfl) (wm_ex fun b111 _ => ?_)
                          refine wm_w rfl rfl (fun _ _ h => by obtain ⟨_, _, _, hw⟩ := h; first | exact hw.seen [] | exact hw.seen [_] | exact hw.seen [_, _] | exact hw.seen [_, _, _] | exact hw.seen [_, _, _, _] | exact hw.seen [_, _, _, _, _] | exact hw.seen [_, _, _, _, _, _] | exact hw.seen [_, _, _, _, _, _, _] | exact hw.seen [_, _, _, _, _, _, _, _] | exact hw.seen [_, _, _, _, _, _, _, _, _] | exact hw.seen [_, _, _, _, _, _, _, _, _, _] | exact hw.seen [_, _, _, _, _, _, _, _, _, _, _] | exact hw.seen [_, _, _, _, _, _, _, _, _, _, _, _] | exact hw.seen [_, _, _, _, _, _, _, _, _, _, _, _, _] | exact hw.seen [_, _, _, _, _, _, _, _, _, _, _, _, _, _]) (yw_append [_, _, _, _, _, _, _, _, _, _, _, _, _, _] Try.underlying39 Try.underlying39 (.inl ⟨_, rfl⟩) T32 rfl rfl rfl (fun w hw => Src.slice ((hw.seen []).mono fun _ => slc_rsl)) (by omega) (by unfold maxLen; omega) (by simp [Value.oneCell']) rfl) (wm_ex fun p' hp' => ?_)
                          refine wm_g rfl rfl (y_indexAddrArr (i := 1) Try.underlying47 T39 rfl rfl rfl (by decide)) ?_
                          first | refine wm_u3 rfl (yu_store [] (l' := _) T39 rfl rfl rfl rfl rfl rfl rfl) ?_ | refine wm_u3 rfl (yu_store [_] (l' := _) T39 rfl rfl rfl rfl rfl rfl rfl) ?_ | refine wm_u3 rfl (yu_store [_, _] (l' := _) T39 rfl rfl rfl rfl rfl rfl rfl) ?_ | refine wm_u3 rfl (yu_store [_, _, _] (l' := _) T39 rfl rfl rfl rfl rfl rfl rfl) ?_ | refine wm_u3 rfl (yu_store [_, _, _, _] (l' := _) T39 rfl rfl rfl rfl rfl rfl rfl) ?_ | refine wm_u3 rfl (yu_store [_, _, _, _, _] (l' := _) T39 rfl rfl rfl rfl rfl rfl rfl) ?_ | refine wm_u3 rfl (yu_store [_, _, _, _, _, _] (l' := _) T39 rfl rfl rfl rfl rfl rfl rfl) ?_ | refine wm_u3 rfl (yu_store [_, _, _, _, _, _, _] (l' := _) T39 rfl rfl rfl rfl rfl rfl rfl) ?_ | refine wm_u3 rfl (yu_store [_, _, _, _, _, _, _, _] (l' := _) T39 rfl rfl rfl rfl rfl rfl rfl) ?_ | refine wm_u3 rfl (yu_store [_, _, _, _, _, _, _, _, _] (l' := _) T39 rfl rfl rfl rfl rfl rfl rfl) ?_ | refine wm_u3 rfl (yu_store [_, _, _, _, _, _, _, _, _, _] (l' := _) T39 rfl rfl rfl rfl rfl rfl rfl) ?_ | refine wm_u3 rfl (yu_store [_, _, _, _, _, _, _, _, _, _, _] (l' := _) T39 rfl rfl rfl rfl rfl rfl rfl) ?_ | refine wm_u3 rfl (yu_store [_, _, _, _, _, _, _, _, _, _, _, _] (l' := _) T39 rfl rfl rfl rfl rfl rfl rfl) ?_ | refine wm_u3 rfl (yu_store [_, _, _, _, _, _, _, _, _, _, _, _, _] (l' := _) T39 rfl rfl rfl rfl rfl rfl rfl) ?_ | refine wm_u3 rfl (yu_store [_, _, _, _, _, _, _, _, _, _, _, _, _, _] (l' := _) T39 rfl rfl rfl rfl rfl rfl rfl) ?_
                          refine wm_nil ?_
                          refine all_wq ?_
                          refine wq_block_normal ?_
                          refine wq_then ?_
                          refine wc_region ?_
                          refine wl_y rfl (y_move rfl) ?_
                          refine wl_y rfl (y_add rfl rfl (by omega)) ?_
                          refine wl_y rfl (y_assign rfl) ?_
                          refine wl_nil ?_
                          exact wq_round (j + 1, ⟨p'.1, p'.2, ws.xs ++ [pk]⟩) (by simp only; omega) ⟨by simp only; omega, by simp; omega, fun z hz => (List.mem_append.1 hz).elim (hall z) (fun h => by rw [List.mem_singleton.1 h]; exact hT.out pk (List.mem_of_getElem? hpk))⟩ ⟨rfl, rfl, rfl, rfl, rfl, rfl, rfl, rfl, rfl, rfl, trivial⟩ (fun w hw => by simp only [sv_app, pA_app]; exact hw.sub (by (repeat (first | exact pt_nil | apply pt0 | apply pt1 | apply pt2 | apply pt3 | apply pt4 | apply pt5 | apply pt6 | apply pt7 | apply pt8 | apply pt9 | apply pt10 | apply pt11 | apply pt12 | apply pt13 | apply pt14 | apply pt15 | apply pt16 | apply pt17))))
                        ·
                          simp at hc98
                          refine wc_exit ?_
                          refine wq_then_exit (wq_then_exit (wq_block_exit ?_))
                          refine wq_block_normal ?_
                          exact wq_cut { m with w1 := ws } ((hT.ways hws hall).more) ⟨rfl, rfl, rfl, rfl, rfl, rfl, rfl, rfl, trivial⟩ (fun w hw => hw.sub (by (repeat (first | exact pt_nil | apply pt0 | apply pt1 | apply pt2 | apply pt3 | apply pt4 | apply pt5 | apply pt6 | apply pt7 | apply pt8 | apply pt9 | apply pt10 | apply pt11 | apply pt12 | apply pt13 | apply pt14 | apply pt15 | apply pt16 | apply pt17))))
                      ·
                        simp at hg91
                        refine wl_sk rfl rfl rfl rfl ?_
                        refine wl_sk rfl rfl rfl rfl ?_
                        refine wl_sk rfl rfl rfl rfl ?_
                        refine wl_sk rfl rfl rfl rfl ?_
                        refine wl_sk rfl rfl rfl rfl ?_
                        refine wl_sk rfl rfl rfl rfl ?_
                        refine wl_y rfl (y_pick_f rfl rfl) ?_
                        refine wl_nil ?_
                        refine wq_then ?_
                        refine wc_cond_false rfl ?_
                        refine wc_exit ?_
                        refine wq_then_exit (wq_then_exit (wq_block_exit ?_))
                        refine wq_block_normal ?_
                        exact wq_cut { m with w1 := ws } ((hT.ways hws hall).more) ⟨rfl, rfl, rfl, rfl, rfl, rfl, rfl, rfl, trivial⟩ (fun w hw => hw.sub (by (repeat (first | exact pt_nil | apply pt0 | apply pt1 | apply pt2 | apply pt3 | apply pt4 | apply pt5 | apply pt6 | apply pt7 | apply pt8 | apply pt9 | apply pt10 | apply pt11 | apply pt12 | apply pt13 | apply pt14 | apply pt15 | apply pt16 | apply pt17))))
                  ·
                    refine wc_seq ?_
                    refine wc_region ?_
                    refine wl_y rfl (y_fieldAddr F49_2 rfl) ?_
                    refine wl_y rfl (y_load NA4 rfl (by first | exact cell_blk [] rfl | exact cell_blk [_] rfl | exact cell_blk [_, _] rfl | exact cell_blk [_, _, _] rfl | exact cell_blk [_, _, _, _] rfl | exact cell_blk [_, _, _, _, _] rfl | exact cell_blk [_, _, _, _, _, _] rfl | exact cell_blk [_, _, _, _, _, _, _] rfl | exact cell_blk [_, _, _, _, _, _, _, _] rfl | exact cell_blk [_, _, _, _, _, _, _, _, _] rfl | exact cell_blk [_, _, _, _, _, _, _, _, _, _] rfl | exact cell_blk [_, _, _, _, _, _, _, _, _, _, _] rfl | exact cell_blk [_, _, _, _, _, _, _, _, _, _, _, _] rfl | exact cell_blk [_, _, _, _, _, _, _, _, _, _, _, _, _] rfl | exact cell_blk [_, _, _, _, _, _, _, _, _, _, _, _, _, _] rfl)) ?_
                    refine wl_y rfl (y_assign rfl) ?_
                    refine wl_nil ?_
                    refine wq_then ?_
                    refine wc_cond rfl (fun hc114 => ?_) (fun hc114 => ?_)
                    ·
                      refine wc_seq ?_
                      refine wc_region ?_
                      refine wl_y rfl (y_move rfl) ?_
                      refine wl_y rfl (y_indexAddrArr (i := 0) Try.underlying47 T39 rfl rfl rfl (by decide)) ?_
                      refine wl_y rfl (y_load NA39 rfl (by first | exact cell_blk [] rfl | exact cell_blk [_] rfl | exact cell_blk [_, _] rfl | exact cell_blk [_, _, _] rfl | exact cell_blk [_, _, _, _] rfl | exact cell_blk [_, _, _, _, _] rfl | exact cell_blk [_, _, _, _, _, _] rfl | exact cell_blk [_, _, _, _, _, _, _] rfl | exact cell_blk [_, _, _, _, _, _, _, _] rfl | exact cell_blk [_, _, _, _, _, _, _, _, _] rfl | exact cell_blk [_, _, _, _, _, _, _, _, _, _] rfl | exact cell_blk [_, _, _, _, _, _, _, _, _, _, _] rfl | exact cell_blk [_, _, _, _, _, _, _, _, _, _, _, _] rfl | exact cell_blk [_, _, _, _, _, _, _, _, _, _, _, _, _] rfl | exact cell_blk [_, _, _, _, _, _, _, _, _, _, _, _, _, _] rfl)) ?_
                      refine wl_y rfl (y_lenSl Try.underlying39 rfl) ?_
                      refine wl_y rfl (y_gtr rfl rfl) ?_
                      refine wl_nil ?_
                      refine wq_then ?_
                      refine wc_cond rfl (fun hc121 => ?_) (fun hc121 => ?_)
                      ·
                        simp at hc121
                        refine wc_seq ?_
                        refine wc_mix (.q 0 0 (.q 1 0 (.q 2 1 (.q 3 0 (.q 4 0 (.q 5 1 (.q 6 0 (.q 7 1 (.q 8 0 (.q 9 0 (.q 10 1 (.q 11 0 (.q 12 0 (.q 13 0 (.q 14 0 (.q 15 1 (.q 16 0 (.q 17 0 (.q 18 0 (.q 19 0 (.q 20 1 (.q 21 0 (.q 22 0 (.q 23 0 (.q 24 1 (.w 25 2 (.q 26 0 (.q 27 0 (.q 28 0 (.q 29 0 (.q 30 0 .nil))))) .nil)))))))))))))))))))))))))) (fun _ => True) MO (by kernel_rfl) (Hp.drawless _ _ _) (fun _ _ => trivial) ?_
                        obtain ⟨hb1, hb2, jj, hjj, hje⟩ := idx_ok x.n (l := m.w0.xs.length) (by omega)
                        obtain ⟨pk, hpk⟩ : ∃ pk, m.w0.xs[jj]? = some pk := ⟨_, List.getElem?_eq_getElem hjj⟩
                        have hpo := hT.a.all pk (List.mem_of_getElem? hpk)
                        have hpa : -9223372036854775808 ≤ pk.ack ∧ pk.ack ≤ 9223372036854775807 := by have := hpo.1; have := hpo.2.1; have := hok1.2.2.2; omega
                        refine wm_have (p := m.w0.a.isSome = true) (fun w hw => hw.slc_isSome [_, _, _, _, _, _, _, _, _, _, _] (by omega)) (fun how => ?_)
                        refine wm_g rfl rfl (y_move rfl) ?_
                        refine wm_g rfl rfl (y_indexAddrArr (i := 0) Try.underlying44 T23 rfl rfl rfl (by decide)) ?_
                        refine wm_l rfl rfl (y_load NA23 rfl (by first | exact cell_blk [] rfl | exact cell_blk [_] rfl | exact cell_blk [_, _] rfl | exact cell_blk [_, _, _] rfl | exact cell_blk [_, _, _, _] rfl | exact cell_blk [_, _, _, _, _] rfl | exact cell_blk [_, _, _, _, _, _] rfl | exact cell_blk [_, _, _, _, _, _, _] rfl | exact cell_blk [_, _, _, _, _, _, _, _] rfl | exact cell_blk [_, _, _, _, _, _, _, _, _] rfl | exact cell_blk [_, _, _, _, _, _, _, _, _, _] rfl | exact cell_blk [_, _, _, _, _, _, _, _, _, _, _] rfl | exact cell_blk [_, _, _, _, _, _, _, _, _, _, _, _] rfl | exact cell_blk [_, _, _, _, _, _, _, _, _, _, _, _, _] rfl | exact cell_blk [_, _, _, _, _, _, _, _, _, _, _, _, _, _] rfl)) ?_
                        refine wm_g rfl rfl (y_move rfl) ?_
                        refine wm_g rfl rfl (y_indexAddrArr (i := 0) Try.underlying47 T39 rfl rfl rfl (by decide)) ?_
                        refine wm_l rfl rfl (y_load NA39 rfl (by first | exact cell_blk [] rfl | exact cell_blk [_] rfl | exact cell_blk [_, _] rfl | exact cell_blk [_, _, _] rfl | exact cell_blk [_, _, _, _] rfl | exact cell_blk [_, _, _, _, _] rfl | exact cell_blk [_, _, _, _, _, _] rfl | exact cell_blk [_, _, _, _, _, _, _] rfl | exact cell_blk [_, _, _, _, _, _, _, _] rfl | exact cell_blk [_, _, _, _, _, _, _, _, _] rfl | exact cell_blk [_, _, _, _, _, _, _, _, _, _] rfl | exact cell_blk [_, _, _, _, _, _, _, _, _, _, _] rfl | exact cell_blk [_, _, _, _, _, _, _, _, _, _, _, _] rfl | exact cell_blk [_, _, _, _, _, _, _, _, _, _, _, _, _] rfl | exact cell_blk [_, _, _, _, _, _, _, _, _, _, _, _, _, _] rfl)) ?_
                        refine wm_g rfl rfl (y_fieldAddr F49_4 rfl) ?_
                        refine wm_l rfl rfl (y_load NA3 rfl (by first | exact cell_blk [] rfl | exact cell_blk [_] rfl | exact cell_blk [_, _] rfl | exact cell_blk [_, _, _] rfl | exact cell_blk [_, _, _, _] rfl | exact cell_blk [_, _, _, _, _] rfl | exact cell_blk [_, _, _, _, _, _] rfl | exact cell_blk [_, _, _, _, _, _, _] rfl | exact cell_blk [_, _, _, _, _, _, _, _] rfl | exact cell_blk [_, _, _, _, _, _, _, _, _] rfl | exact cell_blk [_, _, _, _, _, _, _, _, _, _] rfl | exact cell_blk [_, _, _, _, _, _, _, _, _, _, _] rfl | exact cell_blk [_, _, _, _, _, _, _, _, _, _, _, _] rfl | exact cell_blk [_, _, _, _, _, _, _, _, _, _, _, _, _] rfl | exact cell_blk [_, _, _, _, _, _, _, _, _, _, _, _, _, _] rfl)) ?_
                        refine wm_g rfl rfl (y_move rfl) ?_
                        refine wm_g rfl rfl (y_indexAddrArr (i := 0) Try.underlying47 T39 rfl rfl rfl (by decide)) ?_
                        refine wm_l rfl rfl (y_load NA39 rfl (by first | exact cell_blk [] rfl | exact cell_blk [_] rfl | exact cell_blk [_, _] rfl | exact cell_blk [_, _, _] rfl | exact cell_blk [_, _, _, _] rfl | exact cell_blk [_, _, _, _, _] rfl | exact cell_blk [_, _, _, _, _, _] rfl | exact cell_blk [_, _, _, _, _, _, _] rfl | exact cell_blk [_, _, _, _, _, _, _, _] rfl | exact cell_blk [_, _, _, _, _, _, _, _, _] rfl | exact cell_blk [_, _, _, _, _, _, _, _, _, _] rfl | exact cell_blk [_, _, _, _, _, _, _, _, _, _, _] rfl | exact cell_blk [_, _, _, _, _, _, _, _, _, _, _, _] rfl | exact cell_blk [_, _, _, _, _, _, _, _, _, _, _, _, _] rfl | exact cell_blk [_, _, _, _, _, _, _, _, _, _, _, _, _, _] rfl)) ?_
                        refine wm_g rfl rfl (y_lenSl Try.underlying39 rfl) ?_
                        refine wm_g rfl rfl (y_rem rfl rfl (by omega)) ?_
                        refine wm_g rfl rfl (y_move rfl) ?_
                        refine wm_g rfl rfl (y_indexAddrArr (i := 0) Try.underlying47 T39 rfl rfl rfl (by decide)) ?_
                        refine wm_l rfl rfl (y_load NA39 rfl (by first | exact cell_blk [] rfl | exact cell_blk [_] rfl | exact cell_blk [_, _] rfl | exact cell_blk [_, _, _] rfl | exact cell_blk [_, _, _, _] rfl | exact cell_blk [_, _, _, _, _] rfl | exact cell_blk [_, _, _, _, _, _] rfl | exact cell_blk [_, _, _, _, _, _, _] rfl | exact cell_blk [_, _, _, _, _, _, _, _] rfl | exact cell_blk [_, _, _, _, _, _, _, _, _] rfl | exact cell_blk [_, _, _, _, _, _, _, _, _, _] rfl | exact cell_blk [_, _, _, _, _, _, _, _, _, _, _] rfl | exact cell_blk [_, _, _, _, _, _, _, _, _, _, _, _] rfl | exact cell_blk [_, _, _, _, _, _, _, _, _, _, _, _, _] rfl | exact cell_blk [_, _, _, _, _, _, _, _, _, _, _, _, _, _] rfl)) ?_
                        refine wm_g rfl rfl (y_lenSl Try.underlying39 rfl) ?_
                        refine wm_g rfl rfl (y_add rfl rfl (by omega)) ?_
                        refine wm_g rfl rfl (y_move rfl) ?_
                        refine wm_g rfl rfl (y_indexAddrArr (i := 0) Try.underlying47 T39 rfl rfl rfl (by decide)) ?_
                        refine wm_l rfl rfl (y_load NA39 rfl (by first | exact cell_blk [] rfl | exact cell_blk [_] rfl | exact cell_blk [_, _] rfl | exact cell_blk [_, _, _] rfl | exact cell_blk [_, _, _, _] rfl | exact cell_blk [_, _, _, _, _] rfl | exact cell_blk [_, _, _, _, _, _] rfl | exact cell_blk [_, _, _, _, _, _, _] rfl | exact cell_blk [_, _, _, _, _, _, _, _] rfl | exact cell_blk [_, _, _, _, _, _, _, _, _] rfl | exact cell_blk [_, _, _, _, _, _, _, _, _, _] rfl | exact cell_blk [_, _, _, _, _, _, _, _, _, _, _] rfl | exact cell_blk [_, _, _, _, _, _, _, _, _, _, _, _] rfl | exact cell_blk [_, _, _, _, _, _, _, _, _, _, _, _, _] rfl | exact cell_blk [_, _, _, _, _, _, _, _, _, _, _, _, _, _] rfl)) ?_
                        refine wm_g rfl rfl (y_lenSl Try.underlying39 rfl) ?_
                        refine wm_g rfl rfl (y_rem rfl rfl (by omega)) ?_
                        refine wm_same 145 (vI (jj : Nat)) rfl (by rw [← hje]) ?_
                        refine wm_g rfl rfl (y_indexAddr (i := jj) Try.underlying39 T32 rfl rfl rfl hjj (fun _ _ => how)) ?_
                        refine wm_l rfl rfl (y_loadAgg (l := encP pk) AG32 rfl rfl (agg_own [_, _, _, _, _, _, _, _, _, _, _] (fun i u h => rows_get encP_len hpk h))) ?_
                        refine wm_c rfl rfl (fun _ _ _ => trivial) (yc_spec (fst := []) (cap := []) _ FN10 (take_spec p m.e0 pk hok0 hpa) rfl rfl rfl (by simp) (by (repeat (first | exact pt_nil | apply pt0 | apply pt1 | apply pt2 | apply pt3 | apply pt4 | apply pt5 | apply pt6 | apply pt7 | apply pt8 | apply pt9 | apply pt10 | apply pt11 | apply pt12 | apply pt13 | apply pt14 | apply pt15 | apply pt16 | apply pt17)))) (wm_ex fun x148 hx148 => ?_)
                        refine wm_world (S' := Hp w0 K [blk b13 (.cells (encM x).toArray 49 (0, 0)), blk b5 (.cells [ptr p, ptr q].toArray 44 (0, 0)), blk b9 (.cells [sv m.s0, sv m.s1].toArray 46 (0, 0)), blk b10 (.cells [sv m.g0, sv m.g1].toArray 46 (0, 0)), blk b11 (.cells [sv m.w0, sv m.w1].toArray 47 (0, 0)), endA p (m.e0.take pk).1, endA q m.e1, sA m.s0, sA m.s1, sA m.g0, sA m.g1, pA m.w0, pA m.w1]) (fun w hw => hw.sub (by (repeat (first | exact pt_nil | apply pt0 | apply pt1 | apply pt2 | apply pt3 | apply pt4 | apply pt5 | apply pt6 | apply pt7 | apply pt8 | apply pt9 | apply pt10 | apply pt11 | apply pt12 | apply pt13 | apply pt14 | apply pt15 | apply pt16 | apply pt17)))) ?_
                        refine wm_g rfl rfl (y_move rfl) ?_
                        refine wm_g rfl rfl (y_extract rfl rfl) ?_
                        refine wm_g rfl rfl (y_extract rfl rfl) ?_
                        refine wm_g rfl rfl (y_assign rfl) ?_
                        refine wm_g rfl rfl (y_assign rfl) ?_
                        refine wm_nil ?_
                        refine all_wq ?_
                        refine wq_then ?_
                        refine wc_seq ?_
                        refine wc_region ?_
                        refine wl_y rfl (y_move rfl) ?_
                        refine wl_nil ?_
                        refine wq_then ?_
                        refine wc_cond rfl (fun hc151 => ?_) (fun hc151 => ?_)
                        ·
                          refine wc_region ?_
                          refine wl_y rfl (y_move rfl) ?_
                          refine wl_y rfl (y_move rfl) ?_
                          refine wl_y rfl (y_indexAddrArr (i := 0) Try.underlying46 T45 rfl rfl rfl (by decide)) ?_
                          refine wl_y rfl (y_load NA45 rfl (by first | exact cell_blk [] rfl | exact cell_blk [_] rfl | exact cell_blk [_, _] rfl | exact cell_blk [_, _, _] rfl | exact cell_blk [_, _, _, _] rfl | exact cell_blk [_, _, _, _, _] rfl | exact cell_blk [_, _, _, _, _, _] rfl | exact cell_blk [_, _, _, _, _, _, _] rfl | exact cell_blk [_, _, _, _, _, _, _, _] rfl | exact cell_blk [_, _, _, _, _, _, _, _, _] rfl | exact cell_blk [_, _, _, _, _, _, _, _, _, _] rfl | exact cell_blk [_, _, _, _, _, _, _, _, _, _, _] rfl | exact cell_blk [_, _, _, _, _, _, _, _, _, _, _, _] rfl | exact cell_blk [_, _, _, _, _, _, _, _, _, _, _, _, _] rfl | exact cell_blk [_, _, _, _, _, _, _, _, _, _, _, _, _, _] rfl)) ?_
                          refine wl_y rfl (y_move rfl) ?_
                          refine wl_w (fun _ _ => want_none) rfl (yw_buildSlice (cs := [_]) Try.underlying45 T9 rfl rfl rfl rfl rfl rfl rfl) (wl_ex fun b157 _ => ?_)
                          refine wl_w (fun _ _ => want_none) rfl (yw_append [_, _, _, _, _, _, _, _, _, _] Try.underlying45 Try.underlying45 (.inl ⟨_, rfl⟩) T9 rfl rfl rfl (fun w hw => Src.slice ((hw.seen []).mono fun _ => slc_rsl)) (by omega) (by unfold maxLen; omega) (by simp [Value.oneCell']) rfl) (wl_ex fun p' hp' => ?_)
                          refine wl_y rfl (y_indexAddrArr (i := 0) Try.underlying46 T45 rfl rfl rfl (by decide)) ?_
                          first | refine wl_u (yu_store [] (l' := _) T45 rfl rfl rfl rfl rfl rfl rfl) ?_ | refine wl_u (yu_store [_] (l' := _) T45 rfl rfl rfl rfl rfl rfl rfl) ?_ | refine wl_u (yu_store [_, _] (l' := _) T45 rfl rfl rfl rfl rfl rfl rfl) ?_ | refine wl_u (yu_store [_, _, _] (l' := _) T45 rfl rfl rfl rfl rfl rfl rfl) ?_ | refine wl_u (yu_store [_, _, _, _] (l' := _) T45 rfl rfl rfl rfl rfl rfl rfl) ?_ | refine wl_u (yu_store [_, _, _, _, _] (l' := _) T45 rfl rfl rfl rfl rfl rfl rfl) ?_ | refine wl_u (yu_store [_, _, _, _, _, _] (l' := _) T45 rfl rfl rfl rfl rfl rfl rfl) ?_ | refine wl_u (yu_store [_, _, _, _, _, _, _] (l' := _) T45 rfl rfl rfl rfl rfl rfl rfl) ?_ | refine wl_u (yu_store [_, _, _, _, _, _, _, _] (l' := _) T45 rfl rfl rfl rfl rfl rfl rfl) ?_ | refine wl_u (yu_store [_, _, _, _, _, _, _, _, _] (l' := _) T45 rfl rfl rfl rfl rfl rfl rfl) ?_ | refine wl_u (yu_store [_, _, _, _, _, _, _, _, _, _] (l' := _) T45 rfl rfl rfl rfl rfl rfl rfl) ?_ | refine wl_u (yu_store [_, _, _, _, _, _, _, _, _, _, _] (l' := _) T45 rfl rfl rfl rfl rfl rfl rfl) ?_ | refine wl_u (yu_store [_, _, _, _, _, _, _, _, _, _, _, _] (l' := _) T45 rfl rfl rfl rfl rfl rfl rfl) ?_ | refine wl_u (yu_store [_, _, _, _, _, _, _, _, _, _, _, _, _] (l' := _) T45 rfl rfl rfl rfl rfl rfl rfl) ?_ | refine wl_u (yu_store [_, _, _, _, _, _, _, _, _, _, _, _, _, _] (l' := _) T45 rfl rfl rfl rfl rfl rfl rfl) ?_
                          refine wl_nil ?_
                          refine wq_block_normal ?_
                          exact wq_cut { m with e0 := (m.e0.take pk).1, g0 := ⟨p'.1, p'.2, m.g0.xs ++ [(m.e0.take pk).2.1]⟩ } ((hT.took1 pk hpo (by rw [if_pos hc151])).more) ⟨rfl, rfl, rfl, rfl, rfl, rfl, rfl, rfl, trivial⟩ (fun w hw => by simp only [sv_app, sA_app]; exact hw.sub (by (repeat (first | exact pt_nil | apply pt0 | apply pt1 | apply pt2 | apply pt3 | apply pt4 | apply pt5 | apply pt6 | apply pt7 | apply pt8 | apply pt9 | apply pt10 | apply pt11 | apply pt12 | apply pt13 | apply pt14 | apply pt15 | apply pt16 | apply pt17))))
                        ·
                          refine wc_skip ?_
                          refine wq_block_normal ?_
                          exact wq_cut { m with e0 := (m.e0.take pk).1 } ((hT.took1 pk hpo (by rw [if_neg (by rw [hc151]; exact Bool.false_ne_true)])).more) ⟨rfl, rfl, rfl, rfl, rfl, rfl, rfl, rfl, trivial⟩ (fun w hw => hw.sub (by (repeat (first | exact pt_nil | apply pt0 | apply pt1 | apply pt2 | apply pt3 | apply pt4 | apply pt5 | apply pt6 | apply pt7 | apply pt8 | apply pt9 | apply pt10 | apply pt11 | apply pt12 | apply pt13 | apply pt14 | apply pt15 | apply pt16 | apply pt17))))
                      ·
                        simp at hc121
                        refine wc_skip ?_
                        refine wq_block_normal ?_
                        exact wq_cut m hT.more ⟨rfl, rfl, rfl, rfl, rfl, rfl, rfl, rfl, trivial⟩ (fun w hw => hw.sub (by (repeat (first | exact pt_nil | apply pt0 | apply pt1 | apply pt2 | apply pt3 | apply pt4 | apply pt5 | apply pt6 | apply pt7 | apply pt8 | apply pt9 | apply pt10 | apply pt11 | apply pt12 | apply pt13 | apply pt14 | apply pt15 | apply pt16 | apply pt17))))
                    ·
                      refine wc_seq ?_
                      refine wc_mix (.q 0 0 (.q 1 0 (.q 2 1 (.q 3 0 (.q 4 1 (.w 5 2 (.q 6 0 .nil) .nil)))))) (fun _ => True) MO (by kernel_rfl) (Hp.drawless _ _ _) (fun _ _ => trivial) ?_
                      refine wm_g rfl rfl (y_move rfl) ?_
                      refine wm_g rfl rfl (y_indexAddrArr (i := 0) Try.underlying44 T23 rfl rfl rfl (by decide)) ?_
                      refine wm_l rfl rfl (y_load NA23 rfl (by first | exact cell_blk [] rfl | exact cell_blk [_] rfl | exact cell_blk [_, _] rfl | exact cell_blk [_, _, _] rfl | exact cell_blk [_, _, _, _] rfl | exact cell_blk [_, _, _, _, _] rfl | exact cell_blk [_, _, _, _, _, _] rfl | exact cell_blk [_, _, _, _, _, _, _] rfl | exact cell_blk [_, _, _, _, _, _, _, _] rfl | exact cell_blk [_, _, _, _, _, _, _, _, _] rfl | exact cell_blk [_, _, _, _, _, _, _, _, _, _] rfl | exact cell_blk [_, _, _, _, _, _, _, _, _, _, _] rfl | exact cell_blk [_, _, _, _, _, _, _, _, _, _, _, _] rfl | exact cell_blk [_, _, _, _, _, _, _, _, _, _, _, _, _] rfl | exact cell_blk [_, _, _, _, _, _, _, _, _, _, _, _, _, _] rfl)) ?_
                      refine wm_g rfl rfl (y_fieldAddr F49_3 rfl) ?_
                      refine wm_l rfl rfl (y_load NA9 rfl (by first | exact cell_blk [] rfl | exact cell_blk [_] rfl | exact cell_blk [_, _] rfl | exact cell_blk [_, _, _] rfl | exact cell_blk [_, _, _, _] rfl | exact cell_blk [_, _, _, _, _] rfl | exact cell_blk [_, _, _, _, _, _] rfl | exact cell_blk [_, _, _, _, _, _, _] rfl | exact cell_blk [_, _, _, _, _, _, _, _] rfl | exact cell_blk [_, _, _, _, _, _, _, _, _] rfl | exact cell_blk [_, _, _, _, _, _, _, _, _, _] rfl | exact cell_blk [_, _, _, _, _, _, _, _, _, _, _] rfl | exact cell_blk [_, _, _, _, _, _, _, _, _, _, _, _] rfl | exact cell_blk [_, _, _, _, _, _, _, _, _, _, _, _, _] rfl | exact cell_blk [_, _, _, _, _, _, _, _, _, _, _, _, _, _] rfl)) ?_
                      refine wm_c rfl rfl (fun _ _ _ => trivial) (yc_spec (fst := []) (cap := []) _ FN12 (send_spec p m.e0 x.data hok0) rfl rfl rfl (by simp) (by (repeat (first | exact pt_nil | apply pt0 | apply pt1 | apply pt2 | apply pt3 | apply pt4 | apply pt5 | apply pt6 | apply pt7 | apply pt8 | apply pt9 | apply pt10 | apply pt11 | apply pt12 | apply pt13 | apply pt14 | apply pt15 | apply pt16 | apply pt17)))) (wm_ex fun x69 hx69 => ?_)
                      refine wm_world (S' := Hp w0 K [blk b13 (.cells (encM x).toArray 49 (0, 0)), blk b5 (.cells [ptr p, ptr q].toArray 44 (0, 0)), blk b9 (.cells [sv m.s0, sv m.s1].toArray 46 (0, 0)), blk b10 (.cells [sv m.g0, sv m.g1].toArray 46 (0, 0)), blk b11 (.cells [sv m.w0, sv m.w1].toArray 47 (0, 0)), endA p (m.e0.send x.data).1, endA q m.e1, sA m.s0, sA m.s1, sA m.g0, sA m.g1, pA m.w0, pA m.w1]) (fun w hw => hw.sub (by (repeat (first | exact pt_nil | apply pt0 | apply pt1 | apply pt2 | apply pt3 | apply pt4 | apply pt5 | apply pt6 | apply pt7 | apply pt8 | apply pt9 | apply pt10 | apply pt11 | apply pt12 | apply pt13 | apply pt14 | apply pt15 | apply pt16 | apply pt17)))) ?_
                      refine wm_g rfl rfl (y_eqlI rfl rfl) ?_
                      refine wm_nil ?_
                      refine all_wq ?_
                      refine wq_then ?_
                      refine wc_cond rfl (fun hc70 => ?_) (fun hc70 => ?_)
                      ·
                        first | replace hc70 := of_decide_eq_true hc70 | replace hc70 := of_decide_eq_false hc70
                        refine wc_mix (.q 0 0 (.q 1 0 (.q 2 0 (.q 3 0 (.q 4 0 (.q 5 1 (.w 6 2 (.w 7 2 (.q 8 0 (.w 9 3 .nil .nil)) .nil) .nil))))))) (Seen (blk b9 (.cells [sv m.s0, sv m.s1].toArray 46 (0, 0)))) MO (by kernel_rfl) (Hp.drawless _ _ _) (fun w hw => by first | exact hw.seen [] | exact hw.seen [_] | exact hw.seen [_, _] | exact hw.seen [_, _, _] | exact hw.seen [_, _, _, _] | exact hw.seen [_, _, _, _, _] | exact hw.seen [_, _, _, _, _, _] | exact hw.seen [_, _, _, _, _, _, _] | exact hw.seen [_, _, _, _, _, _, _, _] | exact hw.seen [_, _, _, _, _, _, _, _, _] | exact hw.seen [_, _, _, _, _, _, _, _, _, _] | exact hw.seen [_, _, _, _, _, _, _, _, _, _, _] | exact hw.seen [_, _, _, _, _, _, _, _, _, _, _, _] | exact hw.seen [_, _, _, _, _, _, _, _, _, _, _, _, _] | exact hw.seen [_, _, _, _, _, _, _, _, _, _, _, _, _, _]) ?_
                        refine wm_g rfl rfl (y_move rfl) ?_
                        refine wm_g rfl rfl (y_move rfl) ?_
                        refine wm_g rfl rfl (y_indexAddrArr (i := 0) Try.underlying46 T45 rfl rfl rfl (by decide)) ?_
                        refine wm_g rfl rfl (y_load NA45 rfl (fun w hw => cell_of_heap hw.blk rfl)) ?_
                        refine wm_g rfl rfl (y_fieldAddr F49_3 rfl) ?_
                        refine wm_l rfl rfl (y_load NA9 rfl (by first | exact cell_blk [] rfl | exact cell_blk [_] rfl | exact cell_blk [_, _] rfl | exact cell_blk [_, _, _] rfl | exact cell_blk [_, _, _, _] rfl | exact cell_blk [_, _, _, _, _] rfl | exact cell_blk [_, _, _, _, _, _] rfl | exact cell_blk [_, _, _, _, _, _, _] rfl | exact cell_blk [_, _, _, _, _, _, _, _] rfl | exact cell_blk [_, _, _, _, _, _, _, _, _] rfl | exact cell_blk [_, _, _, _, _, _, _, _, _, _] rfl | exact cell_blk [_, _, _, _, _, _, _, _, _, _, _] rfl | exact cell_blk [_, _, _, _, _, _, _, _, _, _, _, _] rfl | exact cell_blk [_, _, _, _, _, _, _, _, _, _, _, _, _] rfl | exact cell_blk [_, _, _, _, _, _, _, _, _, _, _, _, _, _] rfl)) ?_
                        refine wm_w rfl rfl (fun _ _ h => by obtain ⟨_, _, _, hw⟩ := h; first | exact hw.seen [] | exact hw.seen [_] | exact hw.seen [_, _] | exact hw.seen [_, _, _] | exact hw.seen [_, _, _, _] | exact hw.seen [_, _, _, _, _] | exact hw.seen [_, _, _, _, _, _] | exact hw.seen [_, _, _, _, _, _, _] | exact hw.seen [_, _, _, _, _, _, _, _] | exact hw.seen [_, _, _, _, _, _, _, _, _] | exact hw.seen [_, _, _, _, _, _, _, _, _, _] | exact hw.seen [_, _, _, _, _, _, _, _, _, _, _] | exact hw.seen [_, _, _, _, _, _, _, _, _, _, _, _] | exact hw.seen [_, _, _, _, _, _, _, _, _, _, _, _, _] | exact hw.seen [_, _, _, _, _, _, _, _, _, _, _, _, _, _]) (yw_buildSlice (cs := [_]) Try.underlying45 T9 rfl rfl rfl rfl rfl rfl rfl) (wm_ex fun b77 _ => ?_)
                        refine wm_w rfl rfl (fun _ _ h => by obtain ⟨_, _, _, hw⟩ := h; first | exact hw.seen [] | exact hw.seen [_] | exact hw.seen [_, _] | exact hw.seen [_, _, _] | exact hw.seen [_, _, _, _] | exact hw.seen [_, _, _, _, _] | exact hw.seen [_, _, _, _, _, _] | exact hw.seen [_, _, _, _, _, _, _] | exact hw.seen [_, _, _, _, _, _, _, _] | exact hw.seen [_, _, _, _, _, _, _, _, _] | exact hw.seen [_, _, _, _, _, _, _, _, _, _] | exact hw.seen [_, _, _, _, _, _, _, _, _, _, _] | exact hw.seen [_, _, _, _, _, _, _, _, _, _, _, _] | exact hw.seen [_, _, _, _, _, _, _, _, _, _, _, _, _] | exact hw.seen [_, _, _, _, _, _, _, _, _, _, _, _, _, _]) (yw_append [_, _, _, _, _, _, _, _] Try.underlying45 Try.underlying45 (.inl ⟨_, rfl⟩) T9 rfl rfl rfl (fun w hw => Src.slice ((hw.seen []).mono fun _ => slc_rsl)) (by omega) (by unfold maxLen; omega) (by simp [Value.oneCell']) rfl) (wm_ex fun p' hp' => ?_)
                        refine wm_g rfl rfl (y_indexAddrArr (i := 0) Try.underlying46 T45 rfl rfl rfl (by decide)) ?_
                        first | refine wm_u3 rfl (yu_store [] (l' := _) T45 rfl rfl rfl rfl rfl rfl rfl) ?_ | refine wm_u3 rfl (yu_store [_] (l' := _) T45 rfl rfl rfl rfl rfl rfl rfl) ?_ | refine wm_u3 rfl (yu_store [_, _] (l' := _) T45 rfl rfl rfl rfl rfl rfl rfl) ?_ | refine wm_u3 rfl (yu_store [_, _, _] (l' := _) T45 rfl rfl rfl rfl rfl rfl rfl) ?_ | refine wm_u3 rfl (yu_store [_, _, _, _] (l' := _) T45 rfl rfl rfl rfl rfl rfl rfl) ?_ | refine wm_u3 rfl (yu_store [_, _, _, _, _] (l' := _) T45 rfl rfl rfl rfl rfl rfl rfl) ?_ | refine wm_u3 rfl (yu_store [_, _, _, _, _, _] (l' := _) T45 rfl rfl rfl rfl rfl rfl rfl) ?_ | refine wm_u3 rfl (yu_store [_, _, _, _, _, _, _] (l' := _) T45 rfl rfl rfl rfl rfl rfl rfl) ?_ | refine wm_u3 rfl (yu_store [_, _, _, _, _, _, _, _] (l' := _) T45 rfl rfl rfl rfl rfl rfl rfl) ?_ | refine wm_u3 rfl (yu_store [_, _, _, _, _, _, _, _, _] (l' := _) T45 rfl rfl rfl rfl rfl rfl rfl) ?_ | refine wm_u3 rfl (yu_store [_, _, _, _, _, _, _, _, _, _] (l' := _) T45 rfl rfl rfl rfl rfl rfl rfl) ?_ | refine wm_u3 rfl (yu_store [_, _, _, _, _, _, _, _, _, _, _] (l' := _) T45 rfl rfl rfl rfl rfl rfl rfl) ?_ | refine wm_u3 rfl (yu_store [_, _, _, _, _, _, _, _, _, _, _, _] (l' := _) T45 rfl rfl rfl rfl rfl rfl rfl) ?_ | refine wm_u3 rfl (yu_store [_, _, _, _, _, _, _, _, _, _, _, _, _] (l' := _) T45 rfl rfl rfl rfl rfl rfl rfl) ?_ | refine wm_u3 rfl (yu_store [_, _, _, _, _, _, _, _, _, _, _, _, _, _] (l' := _) T45 rfl rfl rfl rfl rfl rfl rfl) ?_
                        refine wm_nil ?_
                        refine all_wq ?_
                        refine wq_block_normal ?_
                        exact wq_cut { m with e0 := (m.e0.send x.data).1, s0 := ⟨p'.1, p'.2, m.s0.xs ++ [x.data]⟩ } ((hT.send x.data hc70)) ⟨rfl, rfl, rfl, rfl, rfl, rfl, rfl, rfl, trivial⟩ (fun w hw => by simp only [sv_app, sA_app]; exact hw.sub (by (repeat (first | exact pt_nil | apply pt0 | apply pt1 | apply pt2 | apply pt3 | apply pt4 | apply pt5 | apply pt6 | apply pt7 | apply pt8 | apply pt9 | apply pt10 | apply pt11 | apply pt12 | apply pt13 | apply pt14 | apply pt15 | apply pt16 | apply pt17))))
                      ·
                        first | replace hc70 := of_decide_eq_true hc70 | replace hc70 := of_decide_eq_false hc70
                        refine wc_skip ?_
                        refine wq_block_normal ?_
                        exact wq_cut m hT.more ⟨rfl, rfl, rfl, rfl, rfl, rfl, rfl, rfl, trivial⟩ (fun w hw => by rw [send_not hc70] at hw; exact hw.sub (by (repeat (first | exact pt_nil | apply pt0 | apply pt1 | apply pt2 | apply pt3 | apply pt4 | apply pt5 | apply pt6 | apply pt7 | apply pt8 | apply pt9 | apply pt10 | apply pt11 | apply pt12 | apply pt13 | apply pt14 | apply pt15 | apply pt16 | apply pt17))))
                · intro m' hT'
                  refine all_wc ?_
                  refine wc_seq ?_
                  refine wc_region ?_
                  refine wl_y rfl (y_indexAddrArr (i := 0) Try.underlying46 T45 rfl rfl rfl (by decide)) ?_
                  refine wl_y rfl (y_load NA45 rfl (by first | exact cell_blk [] rfl | exact cell_blk [_] rfl | exact cell_blk [_, _] rfl | exact cell_blk [_, _, _] rfl | exact cell_blk [_, _, _, _] rfl | exact cell_blk [_, _, _, _, _] rfl | exact cell_blk [_, _, _, _, _, _] rfl | exact cell_blk [_, _, _, _, _, _, _] rfl | exact cell_blk [_, _, _, _, _, _, _, _] rfl | exact cell_blk [_, _, _, _, _, _, _, _, _] rfl | exact cell_blk [_, _, _, _, _, _, _, _, _, _] rfl | exact cell_blk [_, _, _, _, _, _, _, _, _, _, _] rfl | exact cell_blk [_, _, _, _, _, _, _, _, _, _, _, _] rfl | exact cell_blk [_, _, _, _, _, _, _, _, _, _, _, _, _] rfl | exact cell_blk [_, _, _, _, _, _, _, _, _, _, _, _, _, _] rfl)) ?_
                  refine wl_y rfl (y_indexAddrArr (i := 1) Try.underlying46 T45 rfl rfl rfl (by decide)) ?_
                  refine wl_y rfl (y_load NA45 rfl (by first | exact cell_blk [] rfl | exact cell_blk [_] rfl | exact cell_blk [_, _] rfl | exact cell_blk [_, _, _] rfl | exact cell_blk [_, _, _, _] rfl | exact cell_blk [_, _, _, _, _] rfl | exact cell_blk [_, _, _, _, _, _] rfl | exact cell_blk [_, _, _, _, _, _, _] rfl | exact cell_blk [_, _, _, _, _, _, _, _] rfl | exact cell_blk [_, _, _, _, _, _, _, _, _] rfl | exact cell_blk [_, _, _, _, _, _, _, _, _, _] rfl | exact cell_blk [_, _, _, _, _, _, _, _, _, _, _] rfl | exact cell_blk [_, _, _, _, _, _, _, _, _, _, _, _] rfl | exact cell_blk [_, _, _, _, _, _, _, _, _, _, _, _, _] rfl | exact cell_blk [_, _, _, _, _, _, _, _, _, _, _, _, _, _] rfl)) ?_
                  refine wl_c (fun _ _ => want_none) rfl (yc_spec (fst := []) (cap := []) _ FN19 (begins_spec m'.g0.a m'.s1.a m'.g0.cap m'.s1.cap m'.g0.xs m'.s1.xs (by have := hT'.gotLen; have := hT'.a.came; have := hT'.b.len; omega)) rfl rfl rfl (List.forall_mem_cons.2 ⟨.inr ⟨sA m'.g0, by simp, fun _ => slc_rsl⟩, List.forall_mem_cons.2 ⟨.inr ⟨sA m'.s1, by simp, fun _ => slc_rsl⟩, List.forall_mem_nil _⟩⟩) (List.Perm.refl _)) (wl_ex fun x164 hx164 => ?_)
                  refine wl_y rfl (y_not rfl) ?_
                  refine wl_y rfl (y_move rfl) ?_
                  refine wl_known 166 false rfl (by rw [← hT'.begins]; simp) ?_
                  refine wl_yg rfl rfl rfl (y_indexAddrArr (i := 1) Try.underlying46 T45 rfl rfl rfl (by decide)) ?_
                  refine wl_yg rfl rfl rfl (y_load NA45 rfl (by first | exact cell_blk [] rfl | exact cell_blk [_] rfl | exact cell_blk [_, _] rfl | exact cell_blk [_, _, _] rfl | exact cell_blk [_, _, _, _] rfl | exact cell_blk [_, _, _, _, _] rfl | exact cell_blk [_, _, _, _, _, _] rfl | exact cell_blk [_, _, _, _, _, _, _] rfl | exact cell_blk [_, _, _, _, _, _, _, _] rfl | exact cell_blk [_, _, _, _, _, _, _, _, _] rfl | exact cell_blk [_, _, _, _, _, _, _, _, _, _] rfl | exact cell_blk [_, _, _, _, _, _, _, _, _, _, _] rfl | exact cell_blk [_, _, _, _, _, _, _, _, _, _, _, _] rfl | exact cell_blk [_, _, _, _, _, _, _, _, _, _, _, _, _] rfl | exact cell_blk [_, _, _, _, _, _, _, _, _, _, _, _, _, _] rfl)) ?_
                  refine wl_yg rfl rfl rfl (y_indexAddrArr (i := 0) Try.underlying46 T45 rfl rfl rfl (by decide)) ?_
                  refine wl_yg rfl rfl rfl (y_load NA45 rfl (by first | exact cell_blk [] rfl | exact cell_blk [_] rfl | exact cell_blk [_, _] rfl | exact cell_blk [_, _, _] rfl | exact cell_blk [_, _, _, _] rfl | exact cell_blk [_, _, _, _, _] rfl | exact cell_blk [_, _, _, _, _, _] rfl | exact cell_blk [_, _, _, _, _, _, _] rfl | exact cell_blk [_, _, _, _, _, _, _, _] rfl | exact cell_blk [_, _, _, _, _, _, _, _, _] rfl | exact cell_blk [_, _, _, _, _, _, _, _, _, _] rfl | exact cell_blk [_, _, _, _, _, _, _, _, _, _, _] rfl | exact cell_blk [_, _, _, _, _, _, _, _, _, _, _, _] rfl | exact cell_blk [_, _, _, _, _, _, _, _, _, _, _, _, _] rfl | exact cell_blk [_, _, _, _, _, _, _, _, _, _, _, _, _, _] rfl)) ?_
                  refine wl_c (want_some rfl rfl) rfl (yc_spec (fst := []) (cap := []) _ FN19 (begins_spec m'.g1.a m'.s0.a m'.g1.cap m'.s0.cap m'.g1.xs m'.s0.xs (by have := hT'.symm.gotLen; have := hT'.b.came; have := hT'.a.len; omega)) rfl rfl rfl (List.forall_mem_cons.2 ⟨.inr ⟨sA m'.g1, by simp, fun _ => slc_rsl⟩, List.forall_mem_cons.2 ⟨.inr ⟨sA m'.s0, by simp, fun _ => slc_rsl⟩, List.forall_mem_nil _⟩⟩) (List.Perm.refl _)) (wl_ex fun x171 hx171 => ?_)
                  refine wl_yg rfl rfl rfl (y_not rfl) ?_
                  refine wl_y rfl (y_pick_f rfl rfl) ?_
                  refine wl_y rfl (y_move rfl) ?_
                  refine wl_known 174 false rfl (by rw [← hT'.symm.begins]; simp) ?_
                  refine wl_yg rfl rfl rfl (y_move rfl) ?_
                  refine wl_yg rfl rfl rfl (y_indexAddrArr (i := 0) Try.underlying44 T23 rfl rfl rfl (by decide)) ?_
                  refine wl_yg rfl rfl rfl (y_load NA23 rfl (by first | exact cell_blk [] rfl | exact cell_blk [_] rfl | exact cell_blk [_, _] rfl | exact cell_blk [_, _, _] rfl | exact cell_blk [_, _, _, _] rfl | exact cell_blk [_, _, _, _, _] rfl | exact cell_blk [_, _, _, _, _, _] rfl | exact cell_blk [_, _, _, _, _, _, _] rfl | exact cell_blk [_, _, _, _, _, _, _, _] rfl | exact cell_blk [_, _, _, _, _, _, _, _, _] rfl | exact cell_blk [_, _, _, _, _, _, _, _, _, _] rfl | exact cell_blk [_, _, _, _, _, _, _, _, _, _, _] rfl | exact cell_blk [_, _, _, _, _, _, _, _, _, _, _, _] rfl | exact cell_blk [_, _, _, _, _, _, _, _, _, _, _, _, _] rfl | exact cell_blk [_, _, _, _, _, _, _, _, _, _, _, _, _, _] rfl)) ?_
                  refine wl_c (want_some rfl rfl) rfl (yc_spec (fst := []) (cap := []) _ FN17 (open_spec p m'.e0) rfl rfl rfl (by simp) (by (repeat (first | exact pt_nil | apply pt0 | apply pt1 | apply pt2 | apply pt3 | apply pt4 | apply pt5 | apply pt6 | apply pt7 | apply pt8 | apply pt9 | apply pt10 | apply pt11 | apply pt12 | apply pt13 | apply pt14 | apply pt15 | apply pt16 | apply pt17)))) (wl_ex fun x178 hx178 => ?_)
                  refine wl_yg rfl rfl rfl (y_move rfl) ?_
                  refine wl_yg rfl rfl rfl (y_gtr rfl rfl) ?_
                  refine wl_y rfl (y_pick_f rfl rfl) ?_
                  refine wl_nil ?_
                  refine wq_then ?_
                  refine wc_known 181 false rfl (by have := hT'.a.op; simp; omega) ?_
                  refine wc_cond_false rfl ?_
                  refine wc_skip ?_
                  refine wq_block_normal ?_
                  refine wq_then ?_
                  refine wc_region ?_
                  refine wl_y rfl (y_move rfl) ?_
                  refine wl_y rfl (y_add rfl rfl (by omega)) ?_
                  refine wl_y rfl (y_assign rfl) ?_
                  refine wl_nil ?_
                  exact wq_round (k + 1, m') (by simp only; omega) ⟨by simp only; omega, by simp only; omega, hT'⟩ ⟨rfl, rfl, rfl, rfl, rfl, rfl, rfl, trivial⟩ (fun w hw => hw.sub (by (repeat (first | exact pt_nil | apply pt0 | apply pt1 | apply pt2 | apply pt3 | apply pt4 | apply pt5 | apply pt6 | apply pt7 | apply pt8 | apply pt9 | apply pt10 | apply pt11 | apply pt12 | apply pt13 | apply pt14 | apply pt15 | apply pt16 | apply pt17))))
            ·
              simp at hc55
              refine wc_exit ?_
              refine wq_then_exit (wq_then_exit (wq_block_exit ?_))
              exact wq_cut m (hT.upto (by omega)) ⟨rfl, rfl, rfl, trivial⟩ (fun w hw => hw)
          ·
            simp at hg52
            refine wl_sk rfl rfl rfl rfl ?_
            refine wl_sk rfl rfl rfl rfl ?_
            refine wl_y rfl (y_pick_f rfl rfl) ?_
            refine wl_nil ?_
            refine wq_then ?_
            refine wc_cond_false rfl ?_
            refine wc_exit ?_
            refine wq_then_exit (wq_then_exit (wq_block_exit ?_))
            exact wq_cut m (hT.upto (by omega)) ⟨rfl, rfl, rfl, trivial⟩ (fun w hw => hw)
      · intro m hT
        refine all_wc ?_
        refine wc_seq ?_
        refine wc_seq ?_
        refine wc_region ?_
        refine wl_y rfl (y_assign rfl) ?_
        refine wl_nil ?_
        refine wq_then ?_
        refine wc_block ?_
        refine wc_loop (α := Nat × Mem) (fun y => y.1 ≤ 2 ∧ Prog n y.1 0 y.2) [(5, _), (9, _), (10, _)] (fun y => [(19, vI y.1)]) (fun y => Hp w0 K [blk b5 (.cells [ptr p, ptr q].toArray 44 (0, 0)), blk b9 (.cells [sv y.2.s0, sv y.2.s1].toArray 46 (0, 0)), blk b10 (.cells [sv y.2.g0, sv y.2.g1].toArray 46 (0, 0)), blk b11 (.cells [sv y.2.w0, sv y.2.w1].toArray 47 (0, 0)), endA p y.2.e0, endA q y.2.e1, sA y.2.s0, sA y.2.s1, sA y.2.g0, sA y.2.g1, pA y.2.w0, pA y.2.w1]) (fun y => 2 - y.1) (0, m) ?_ ⟨rfl, rfl, rfl, rfl, trivial⟩ ?_ ?_
        · exact ⟨Nat.zero_le _, .start hT⟩
        · exact fun w hw => hw
        · clear hT
          rintro ⟨x, m⟩ ⟨hx, hP⟩; simp only at hx hP
          refine wc_world (S' := Hp w0 K [blk b5 (.cells [ptr p, ptr q].toArray 44 (0, 0)), blk b9 (.cells [sv m.s0, sv m.s1].toArray 46 (0, 0)), blk b10 (.cells [sv m.g0, sv m.g1].toArray 46 (0, 0)), blk b11 (.cells [sv m.w0, sv m.w1].toArray 47 (0, 0)), endA p m.e0, endA q m.e1, sA m.s0, sA m.s1, sA m.g0, sA m.g1, pA m.w0, pA m.w1]) (fun w hw => hw) ?_
          refine wc_seq ?_
          refine wc_seq ?_
          refine wc_region ?_
          refine wl_y rfl (y_move rfl) ?_
          refine wl_y rfl (y_lss rfl rfl) ?_
          refine wl_nil ?_
          refine wq_then ?_
          refine wc_cond rfl (fun hc183 => ?_) (fun hc183 => ?_)
          ·
            simp at hc183
            refine wc_skip ?_
            refine wq_then ?_
            refine wc_seq ?_
            refine wc_block ?_
            refine wc_seq ?_
            refine wc_region ?_
            refine wl_y rfl (y_assign rfl) ?_
            refine wl_nil ?_
            refine wq_then ?_
            refine wc_block ?_
            refine wc_loop (α := Nat × Mem) (fun y => y.1 ≤ 2 ∧ Prog n x y.1 y.2) [(5, _), (9, _), (10, _), (19, _)] (fun y => [(20, vI y.1)]) (fun y => Hp w0 K [blk b5 (.cells [ptr p, ptr q].toArray 44 (0, 0)), blk b9 (.cells [sv y.2.s0, sv y.2.s1].toArray 46 (0, 0)), blk b10 (.cells [sv y.2.g0, sv y.2.g1].toArray 46 (0, 0)), blk b11 (.cells [sv y.2.w0, sv y.2.w1].toArray 47 (0, 0)), endA p y.2.e0, endA q y.2.e1, sA y.2.s0, sA y.2.s1, sA y.2.g0, sA y.2.g1, pA y.2.w0, pA y.2.w1]) (fun y => 2 - y.1) (0, m) ?_ ⟨rfl, rfl, rfl, rfl, rfl, trivial⟩ ?_ ?_
            · exact ⟨Nat.zero_le _, hP⟩
            · exact fun w hw => hw
            · clear hP
              rintro ⟨k, m⟩ ⟨hk, hP⟩; simp only at hk hP
              refine wc_world (S' := Hp w0 K [blk b5 (.cells [ptr p, ptr q].toArray 44 (0, 0)), blk b9 (.cells [sv m.s0, sv m.s1].toArray 46 (0, 0)), blk b10 (.cells [sv m.g0, sv m.g1].toArray 46 (0, 0)), blk b11 (.cells [sv m.w0, sv m.w1].toArray 47 (0, 0)), endA p m.e0, endA q m.e1, sA m.s0, sA m.s1, sA m.g0, sA m.g1, pA m.w0, pA m.w1]) (fun w hw => hw) ?_
              refine wc_seq ?_
              refine wc_seq ?_
              refine wc_region ?_
              refine wl_y rfl (y_move rfl) ?_
              refine wl_y rfl (y_lss rfl rfl) ?_
              refine wl_nil ?_
              refine wq_then ?_
              refine wc_cond rfl (fun hc187 => ?_) (fun hc187 => ?_)
              ·
                simp at hc187
                refine wc_skip ?_
                refine wq_then ?_
                refine wc_seq ?_
                refine wc_block ?_
                refine wc_seq ?_
                refine wc_region ?_
                obtain rfl | rfl : k = 0 ∨ k = 1 := by omega
                ·
                  refine wl_y rfl (y_move rfl) ?_
                  refine wl_y rfl (y_indexAddrArr (i := 0) Try.underlying44 T23 rfl rfl rfl (by decide)) ?_
                  refine wl_y rfl (y_load NA23 rfl (by first | exact cell_blk [] rfl | exact cell_blk [_] rfl | exact cell_blk [_, _] rfl | exact cell_blk [_, _, _] rfl | exact cell_blk [_, _, _, _] rfl | exact cell_blk [_, _, _, _, _] rfl | exact cell_blk [_, _, _, _, _, _] rfl | exact cell_blk [_, _, _, _, _, _, _] rfl | exact cell_blk [_, _, _, _, _, _, _, _] rfl | exact cell_blk [_, _, _, _, _, _, _, _, _] rfl | exact cell_blk [_, _, _, _, _, _, _, _, _, _] rfl | exact cell_blk [_, _, _, _, _, _, _, _, _, _, _] rfl | exact cell_blk [_, _, _, _, _, _, _, _, _, _, _, _] rfl | exact cell_blk [_, _, _, _, _, _, _, _, _, _, _, _, _] rfl | exact cell_blk [_, _, _, _, _, _, _, _, _, _, _, _, _, _] rfl)) ?_
                  refine wl_c (fun _ _ => want_none) rfl (yc_spec (fst := []) (cap := []) _ FN15 (out_spec p m.e0 (hP.ok.ok h2 (by omega))) rfl rfl rfl (by simp) (by (repeat (first | exact pt_nil | apply pt0 | apply pt1 | apply pt2 | apply pt3 | apply pt4 | apply pt5 | apply pt6 | apply pt7 | apply pt8 | apply pt9 | apply pt10 | apply pt11 | apply pt12 | apply pt13 | apply pt14 | apply pt15 | apply pt16 | apply pt17)))) (wl_ex fun x193 hx193 => ?_)
                  obtain ⟨o193, c193⟩ := x193
                  refine wl_y rfl (y_assign rfl) ?_
                  refine wl_nil ?_
                  refine wq_then ?_
                  refine wc_seq ?_
                  refine wc_region ?_
                  refine wl_y rfl (y_assign rfl) ?_
                  refine wl_nil ?_
                  refine wq_then ?_
                  refine wc_block ?_
                  refine wc_loop (α := Nat × LE × Sl Str) (fun y => y.1 ≤ m.e0.out.length ∧ Prog n x 0 { m with e1 := y.2.1, g1 := y.2.2 } ∧ m.e0.known + min y.1 m.e0.opens.length ≤ y.2.1.came ∧ (0 < y.1 → m.e0.came ≤ y.2.1.known)) [(5, _), (9, _), (10, _), (19, _), (20, _), (21, _)] (fun y => [(22, vI y.1)]) (fun y => Hp w0 K [pksA o193 c193 m.e0.out, blk b5 (.cells [ptr p, ptr q].toArray 44 (0, 0)), blk b9 (.cells [sv m.s0, sv m.s1].toArray 46 (0, 0)), blk b10 (.cells [sv m.g0, sv y.2.2].toArray 46 (0, 0)), blk b11 (.cells [sv m.w0, sv m.w1].toArray 47 (0, 0)), endA p m.e0, endA q y.2.1, sA m.s0, sA m.s1, sA m.g0, sA y.2.2, pA m.w0, pA m.w1]) (fun y => m.e0.out.length - y.1) (0, m.e1, m.g1) ?_ ⟨rfl, rfl, rfl, rfl, rfl, rfl, rfl, trivial⟩ ?_ ?_
                  · exact ⟨Nat.zero_le _, hP, by have := hP.ok.a.known; simp; omega, fun h => absurd h (Nat.lt_irrefl 0)⟩
                  · exact fun w hw => hw.sub (by (repeat (first | exact pt_nil | apply pt0 | apply pt1 | apply pt2 | apply pt3 | apply pt4 | apply pt5 | apply pt6 | apply pt7 | apply pt8 | apply pt9 | apply pt10 | apply pt11 | apply pt12 | apply pt13 | apply pt14 | apply pt15 | apply pt16 | apply pt17)))
                  · rintro ⟨j, e', g'⟩ ⟨hj, hQ, hcm, hkn⟩; simp only at hj hQ hcm hkn
                    have hol := out_length m.e0; obtain ⟨hq1, hq2, hq3, hq4⟩ := hP.ok.ok h2 (by omega); have hgl := hQ.ok.symm.gotLen; have hgm := hQ.ok.symm.a.came; have hgn := hQ.ok.symm.b.len; simp only at hgl hgm hgn
                    refine wc_world (S' := Hp w0 K [pksA o193 c193 m.e0.out, blk b5 (.cells [ptr p, ptr q].toArray 44 (0, 0)), blk b9 (.cells [sv m.s0, sv m.s1].toArray 46 (0, 0)), blk b10 (.cells [sv m.g0, sv g'].toArray 46 (0, 0)), blk b11 (.cells [sv m.w0, sv m.w1].toArray 47 (0, 0)), endA p m.e0, endA q e', sA m.s0, sA m.s1, sA m.g0, sA g', pA m.w0, pA m.w1]) (fun w hw => hw) ?_
                    refine wc_seq ?_
                    refine wc_seq ?_
                    refine wc_region ?_
                    refine wl_y rfl (y_move rfl) ?_
                    refine wl_y rfl (y_move rfl) ?_
                    refine wl_y rfl (y_lenSl Try.underlying39 rfl) ?_
                    refine wl_y rfl (y_lss rfl rfl) ?_
                    refine wl_nil ?_
                    refine wq_then ?_
                    refine wc_cond rfl (fun hc197 => ?_) (fun hc197 => ?_)
                    ·
                      simp at hc197
                      refine wc_skip ?_
                      refine wq_then ?_
                      refine wc_seq ?_
                      refine wc_block ?_
                      refine wc_seq ?_
                      refine wc_mix (.q 0 0 (.q 1 0 (.q 2 0 (.q 3 1 (.q 4 0 (.q 5 0 (.q 6 0 (.q 7 1 (.w 8 2 (.q 9 0 (.q 10 0 (.q 11 0 (.q 12 0 (.q 13 0 .nil))))) .nil))))))))) (fun _ => True) MO (by kernel_rfl) (Hp.drawless _ _ _) (fun _ _ => trivial) ?_
                      obtain ⟨pk, hpk⟩ : ∃ pk, m.e0.out[j]? = some pk := ⟨_, List.getElem?_eq_getElem (by omega)⟩
                      have hpm := List.mem_of_getElem? hpk
                      have hpo := hP.ok.out pk hpm
                      have hpa : -9223372036854775808 ≤ pk.ack ∧ pk.ack ≤ 9223372036854775807 := by have := hpo.1; have := hpo.2.1; have := (hP.ok.ok h2 (by omega)).2.2.2; omega
                      refine wm_have (p := o193.isSome = true) (fun w hw => hw.slc_isSome [] (by omega)) (fun how => ?_)
                      refine wm_g rfl rfl (y_move rfl) ?_
                      refine wm_g rfl rfl (y_sub rfl rfl (by omega)) ?_
                      refine wm_g rfl rfl (y_indexAddrArr (i := 1) Try.underlying44 T23 rfl rfl rfl (by decide)) ?_
                      refine wm_l rfl rfl (y_load NA23 rfl (by first | exact cell_blk [] rfl | exact cell_blk [_] rfl | exact cell_blk [_, _] rfl | exact cell_blk [_, _, _] rfl | exact cell_blk [_, _, _, _] rfl | exact cell_blk [_, _, _, _, _] rfl | exact cell_blk [_, _, _, _, _, _] rfl | exact cell_blk [_, _, _, _, _, _, _] rfl | exact cell_blk [_, _, _, _, _, _, _, _] rfl | exact cell_blk [_, _, _, _, _, _, _, _, _] rfl | exact cell_blk [_, _, _, _, _, _, _, _, _, _] rfl | exact cell_blk [_, _, _, _, _, _, _, _, _, _, _] rfl | exact cell_blk [_, _, _, _, _, _, _, _, _, _, _, _] rfl | exact cell_blk [_, _, _, _, _, _, _, _, _, _, _, _, _] rfl | exact cell_blk [_, _, _, _, _, _, _, _, _, _, _, _, _, _] rfl)) ?_
                      refine wm_g rfl rfl (y_move rfl) ?_
                      refine wm_g rfl rfl (y_move rfl) ?_
                      refine wm_g rfl rfl (y_indexAddr Try.underlying39 T32 rfl rfl rfl (by omega) (fun _ _ => how)) ?_
                      refine wm_l rfl rfl (y_loadAgg (l := encP pk) AG32 rfl rfl (agg_own [] (fun i u h => rows_get encP_len hpk h))) ?_
                      refine wm_c rfl rfl (fun _ _ _ => trivial) (yc_spec (fst := []) (cap := []) _ FN10 (take_spec q e' pk (hQ.ok.symm.ok h2 (by omega)) hpa) rfl rfl rfl (by simp) (by (repeat (first | exact pt_nil | apply pt0 | apply pt1 | apply pt2 | apply pt3 | apply pt4 | apply pt5 | apply pt6 | apply pt7 | apply pt8 | apply pt9 | apply pt10 | apply pt11 | apply pt12 | apply pt13 | apply pt14 | apply pt15 | apply pt16 | apply pt17)))) (wm_ex fun x209 hx209 => ?_)
                      refine wm_world (S' := Hp w0 K [pksA o193 c193 m.e0.out, blk b5 (.cells [ptr p, ptr q].toArray 44 (0, 0)), blk b9 (.cells [sv m.s0, sv m.s1].toArray 46 (0, 0)), blk b10 (.cells [sv m.g0, sv g'].toArray 46 (0, 0)), blk b11 (.cells [sv m.w0, sv m.w1].toArray 47 (0, 0)), endA p m.e0, endA q (e'.take pk).1, sA m.s0, sA m.s1, sA m.g0, sA g', pA m.w0, pA m.w1]) (fun w hw => hw.sub (by (repeat (first | exact pt_nil | apply pt0 | apply pt1 | apply pt2 | apply pt3 | apply pt4 | apply pt5 | apply pt6 | apply pt7 | apply pt8 | apply pt9 | apply pt10 | apply pt11 | apply pt12 | apply pt13 | apply pt14 | apply pt15 | apply pt16 | apply pt17)))) ?_
                      refine wm_g rfl rfl (y_move rfl) ?_
                      refine wm_g rfl rfl (y_extract rfl rfl) ?_
                      refine wm_g rfl rfl (y_extract rfl rfl) ?_
                      refine wm_g rfl rfl (y_assign rfl) ?_
                      refine wm_g rfl rfl (y_assign rfl) ?_
                      refine wm_nil ?_
                      refine all_wq ?_
                      refine wq_then ?_
                      refine wc_seq ?_
                      refine wc_region ?_
                      refine wl_y rfl (y_move rfl) ?_
                      refine wl_nil ?_
                      refine wq_then ?_
                      refine wc_cond rfl (fun hc212 => ?_) (fun hc212 => ?_)
                      ·
                        refine wc_region ?_
                        refine wl_y rfl (y_move rfl) ?_
                        refine wl_y rfl (y_sub rfl rfl (by omega)) ?_
                        refine wl_y rfl (y_move rfl) ?_
                        refine wl_y rfl (y_sub rfl rfl (by omega)) ?_
                        refine wl_y rfl (y_indexAddrArr (i := 1) Try.underlying46 T45 rfl rfl rfl (by decide)) ?_
                        refine wl_y rfl (y_load NA45 rfl (by first | exact cell_blk [] rfl | exact cell_blk [_] rfl | exact cell_blk [_, _] rfl | exact cell_blk [_, _, _] rfl | exact cell_blk [_, _, _, _] rfl | exact cell_blk [_, _, _, _, _] rfl | exact cell_blk [_, _, _, _, _, _] rfl | exact cell_blk [_, _, _, _, _, _, _] rfl | exact cell_blk [_, _, _, _, _, _, _, _] rfl | exact cell_blk [_, _, _, _, _, _, _, _, _] rfl | exact cell_blk [_, _, _, _, _, _, _, _, _, _] rfl | exact cell_blk [_, _, _, _, _, _, _, _, _, _, _] rfl | exact cell_blk [_, _, _, _, _, _, _, _, _, _, _, _] rfl | exact cell_blk [_, _, _, _, _, _, _, _, _, _, _, _, _] rfl | exact cell_blk [_, _, _, _, _, _, _, _, _, _, _, _, _, _] rfl)) ?_
                        refine wl_y rfl (y_move rfl) ?_
                        refine wl_w (fun _ _ => want_none) rfl (yw_buildSlice (cs := [_]) Try.underlying45 T9 rfl rfl rfl rfl rfl rfl rfl) (wl_ex fun b220 _ => ?_)
                        refine wl_w (fun _ _ => want_none) rfl (yw_append [_, _, _, _, _, _, _, _, _, _, _] Try.underlying45 Try.underlying45 (.inl ⟨_, rfl⟩) T9 rfl rfl rfl (fun w hw => Src.slice ((hw.seen []).mono fun _ => slc_rsl)) (by omega) (by unfold maxLen; omega) (by simp [Value.oneCell']) rfl) (wl_ex fun p' hp' => ?_)
                        refine wl_y rfl (y_indexAddrArr (i := 1) Try.underlying46 T45 rfl rfl rfl (by decide)) ?_
                        first | refine wl_u (yu_store [] (l' := _) T45 rfl rfl rfl rfl rfl rfl rfl) ?_ | refine wl_u (yu_store [_] (l' := _) T45 rfl rfl rfl rfl rfl rfl rfl) ?_ | refine wl_u (yu_store [_, _] (l' := _) T45 rfl rfl rfl rfl rfl rfl rfl) ?_ | refine wl_u (yu_store [_, _, _] (l' := _) T45 rfl rfl rfl rfl rfl rfl rfl) ?_ | refine wl_u (yu_store [_, _, _, _] (l' := _) T45 rfl rfl rfl rfl rfl rfl rfl) ?_ | refine wl_u (yu_store [_, _, _, _, _] (l' := _) T45 rfl rfl rfl rfl rfl rfl rfl) ?_ | refine wl_u (yu_store [_, _, _, _, _, _] (l' := _) T45 rfl rfl rfl rfl rfl rfl rfl) ?_ | refine wl_u (yu_store [_, _, _, _, _, _, _] (l' := _) T45 rfl rfl rfl rfl rfl rfl rfl) ?_ | refine wl_u (yu_store [_, _, _, _, _, _, _, _] (l' := _) T45 rfl rfl rfl rfl rfl rfl rfl) ?_ | refine wl_u (yu_store [_, _, _, _, _, _, _, _, _] (l' := _) T45 rfl rfl rfl rfl rfl rfl rfl) ?_ | refine wl_u (yu_store [_, _, _, _, _, _, _, _, _, _] (l' := _) T45 rfl rfl rfl rfl rfl rfl rfl) ?_ | refine wl_u (yu_store [_, _, _, _, _, _, _, _, _, _, _] (l' := _) T45 rfl rfl rfl rfl rfl rfl rfl) ?_ | refine wl_u (yu_store [_, _, _, _, _, _, _, _, _, _, _, _] (l' := _) T45 rfl rfl rfl rfl rfl rfl rfl) ?_ | refine wl_u (yu_store [_, _, _, _, _, _, _, _, _, _, _, _, _] (l' := _) T45 rfl rfl rfl rfl rfl rfl rfl) ?_ | refine wl_u (yu_store [_, _, _, _, _, _, _, _, _, _, _, _, _, _] (l' := _) T45 rfl rfl rfl rfl rfl rfl rfl) ?_
                        refine wl_nil ?_
                        refine wq_block_normal ?_
                        refine wq_then ?_
                        refine wc_region ?_
                        refine wl_y rfl (y_move rfl) ?_
                        refine wl_y rfl (y_add rfl rfl (by omega)) ?_
                        refine wl_y rfl (y_assign rfl) ?_
                        refine wl_nil ?_
                        have hd := hQ.ok.del hpk hcm hkn
                        exact wq_round (j + 1, (e'.take pk).1, ⟨p'.1, p'.2, g'.xs ++ [(e'.take pk).2.1]⟩) (by simp only; omega) ⟨by simp only; omega, hQ.take1 hpm (by simp only; rw [if_pos hc212]), hd.1, fun _ => hd.2⟩ ⟨rfl, rfl, rfl, rfl, rfl, rfl, rfl, trivial⟩ (fun w hw => by simp only [sv_app, sA_app]; exact hw.sub (by (repeat (first | exact pt_nil | apply pt0 | apply pt1 | apply pt2 | apply pt3 | apply pt4 | apply pt5 | apply pt6 | apply pt7 | apply pt8 | apply pt9 | apply pt10 | apply pt11 | apply pt12 | apply pt13 | apply pt14 | apply pt15 | apply pt16 | apply pt17))))
                      ·
                        refine wc_skip ?_
                        refine wq_block_normal ?_
                        refine wq_then ?_
                        refine wc_region ?_
                        refine wl_y rfl (y_move rfl) ?_
                        refine wl_y rfl (y_add rfl rfl (by omega)) ?_
                        refine wl_y rfl (y_assign rfl) ?_
                        refine wl_nil ?_
                        have hd := hQ.ok.del hpk hcm hkn
                        exact wq_round (j + 1, (e'.take pk).1, g') (by simp only; omega) ⟨by simp only; omega, hQ.take1 hpm (by simp only; rw [if_neg (by rw [hc212]; exact Bool.false_ne_true)]), hd.1, fun _ => hd.2⟩ ⟨rfl, rfl, rfl, rfl, rfl, rfl, rfl, trivial⟩ (fun w hw => hw.sub (by (repeat (first | exact pt_nil | apply pt0 | apply pt1 | apply pt2 | apply pt3 | apply pt4 | apply pt5 | apply pt6 | apply pt7 | apply pt8 | apply pt9 | apply pt10 | apply pt11 | apply pt12 | apply pt13 | apply pt14 | apply pt15 | apply pt16 | apply pt17))))
                    ·
                      simp at hc197
                      refine wc_exit ?_
                      refine wq_then_exit (wq_then_exit (wq_block_exit ?_))
                      refine wq_block_normal ?_
                      refine wq_then ?_
                      refine wc_region ?_
                      refine wl_y rfl (y_move rfl) ?_
                      refine wl_y rfl (y_add rfl rfl (by omega)) ?_
                      refine wl_y rfl (y_assign rfl) ?_
                      refine wl_nil ?_
                      exact wq_round (1, { m with e1 := e', g1 := g' }) (by simp) ⟨by simp, hQ.half0 (hQ.ok.sent (by rw [show m.e0.out.length = j by omega]; exact hcm)) (hkn (by have := out_length m.e0; omega))⟩ ⟨rfl, rfl, rfl, rfl, rfl, trivial⟩ (fun w hw => hw.sub (by (repeat (first | exact pt_nil | apply pt0 | apply pt1 | apply pt2 | apply pt3 | apply pt4 | apply pt5 | apply pt6 | apply pt7 | apply pt8 | apply pt9 | apply pt10 | apply pt11 | apply pt12 | apply pt13 | apply pt14 | apply pt15 | apply pt16 | apply pt17))))
                ·
                  refine wl_y rfl (y_move rfl) ?_
                  refine wl_y rfl (y_indexAddrArr (i := 1) Try.underlying44 T23 rfl rfl rfl (by decide)) ?_
                  refine wl_y rfl (y_load NA23 rfl (by first | exact cell_blk [] rfl | exact cell_blk [_] rfl | exact cell_blk [_, _] rfl | exact cell_blk [_, _, _] rfl | exact cell_blk [_, _, _, _] rfl | exact cell_blk [_, _, _, _, _] rfl | exact cell_blk [_, _, _, _, _, _] rfl | exact cell_blk [_, _, _, _, _, _, _] rfl | exact cell_blk [_, _, _, _, _, _, _, _] rfl | exact cell_blk [_, _, _, _, _, _, _, _, _] rfl | exact cell_blk [_, _, _, _, _, _, _, _, _, _] rfl | exact cell_blk [_, _, _, _, _, _, _, _, _, _, _] rfl | exact cell_blk [_, _, _, _, _, _, _, _, _, _, _, _] rfl | exact cell_blk [_, _, _, _, _, _, _, _, _, _, _, _, _] rfl | exact cell_blk [_, _, _, _, _, _, _, _, _, _, _, _, _, _] rfl)) ?_
                  refine wl_c (fun _ _ => want_none) rfl (yc_spec (fst := []) (cap := []) _ FN15 (out_spec q m.e1 (hP.ok.symm.ok h2 (by omega))) rfl rfl rfl (by simp) (by (repeat (first | exact pt_nil | apply pt0 | apply pt1 | apply pt2 | apply pt3 | apply pt4 | apply pt5 | apply pt6 | apply pt7 | apply pt8 | apply pt9 | apply pt10 | apply pt11 | apply pt12 | apply pt13 | apply pt14 | apply pt15 | apply pt16 | apply pt17)))) (wl_ex fun x193 hx193 => ?_)
                  obtain ⟨o193, c193⟩ := x193
                  refine wl_y rfl (y_assign rfl) ?_
                  refine wl_nil ?_
                  refine wq_then ?_
                  refine wc_seq ?_
                  refine wc_region ?_
                  refine wl_y rfl (y_assign rfl) ?_
                  refine wl_nil ?_
                  refine wq_then ?_
                  refine wc_block ?_
                  refine wc_loop (α := Nat × LE × Sl Str) (fun y => y.1 ≤ m.e1.out.length ∧ Prog n x 1 { m with e0 := y.2.1, g0 := y.2.2 } ∧ m.e1.known + min y.1 m.e1.opens.length ≤ y.2.1.came ∧ (0 < y.1 → m.e1.came ≤ y.2.1.known)) [(5, _), (9, _), (10, _), (19, _), (20, _), (21, _)] (fun y => [(22, vI y.1)]) (fun y => Hp w0 K [pksA o193 c193 m.e1.out, blk b5 (.cells [ptr p, ptr q].toArray 44 (0, 0)), blk b9 (.cells [sv m.s0, sv m.s1].toArray 46 (0, 0)), blk b10 (.cells [sv y.2.2, sv m.g1].toArray 46 (0, 0)), blk b11 (.cells [sv m.w0, sv m.w1].toArray 47 (0, 0)), endA p y.2.1, endA q m.e1, sA m.s0, sA m.s1, sA y.2.2, sA m.g1, pA m.w0, pA m.w1]) (fun y => m.e1.out.length - y.1) (0, m.e0, m.g0) ?_ ⟨rfl, rfl, rfl, rfl, rfl, rfl, rfl, trivial⟩ ?_ ?_
                  · exact ⟨Nat.zero_le _, hP, by have := hP.ok.symm.a.known; simp; omega, fun h => absurd h (Nat.lt_irrefl 0)⟩
                  · exact fun w hw => hw.sub (by (repeat (first | exact pt_nil | apply pt0 | apply pt1 | apply pt2 | apply pt3 | apply pt4 | apply pt5 | apply pt6 | apply pt7 | apply pt8 | apply pt9 | apply pt10 | apply pt11 | apply pt12 | apply pt13 | apply pt14 | apply pt15 | apply pt16 | apply pt17)))
                  · rintro ⟨j, e', g'⟩ ⟨hj, hQ, hcm, hkn⟩; simp only at hj hQ hcm hkn
                    have hol := out_length m.e1; obtain ⟨hq1, hq2, hq3, hq4⟩ := hP.ok.symm.ok h2 (by omega); have hgl := hQ.ok.gotLen; have hgm := hQ.ok.a.came; have hgn := hQ.ok.b.len; simp only at hgl hgm hgn
                    refine wc_world (S' := Hp w0 K [pksA o193 c193 m.e1.out, blk b5 (.cells [ptr p, ptr q].toArray 44 (0, 0)), blk b9 (.cells [sv m.s0, sv m.s1].toArray 46 (0, 0)), blk b10 (.cells [sv g', sv m.g1].toArray 46 (0, 0)), blk b11 (.cells [sv m.w0, sv m.w1].toArray 47 (0, 0)), endA p e', endA q m.e1, sA m.s0, sA m.s1, sA g', sA m.g1, pA m.w0, pA m.w1]) (fun w hw => hw) ?_
                    refine wc_seq ?_
                    refine wc_seq ?_
                    refine wc_region ?_
                    refine wl_y rfl (y_move rfl) ?_
                    refine wl_y rfl (y_move rfl) ?_
                    refine wl_y rfl (y_lenSl Try.underlying39 rfl) ?_
                    refine wl_y rfl (y_lss rfl rfl) ?_
                    refine wl_nil ?_
                    refine wq_then ?_
                    refine wc_cond rfl (fun hc197 => ?_) (fun hc197 => ?_)
                    ·
                      simp at hc197
                      refine wc_skip ?_
                      refine wq_then ?_
                      refine wc_seq ?_
                      refine wc_block ?_
                      refine wc_seq ?_
                      refine wc_mix (.q 0 0 (.q 1 0 (.q 2 0 (.q 3 1 (.q 4 0 (.q 5 0 (.q 6 0 (.q 7 1 (.w 8 2 (.q 9 0 (.q 10 0 (.q 11 0 (.q 12 0 (.q 13 0 .nil))))) .nil))))))))) (fun _ => True) MO (by kernel_rfl) (Hp.drawless _ _ _) (fun _ _ => trivial) ?_
                      obtain ⟨pk, hpk⟩ : ∃ pk, m.e1.out[j]? = some pk := ⟨_, List.getElem?_eq_getElem (by omega)⟩
                      have hpm := List.mem_of_getElem? hpk
                      have hpo := hP.ok.symm.out pk hpm
                      have hpa : -9223372036854775808 ≤ pk.ack ∧ pk.ack ≤ 9223372036854775807 := by have := hpo.1; have := hpo.2.1; have := (hP.ok.symm.ok h2 (by omega)).2.2.2; omega
                      refine wm_have (p := o193.isSome = true) (fun w hw => hw.slc_isSome [] (by omega)) (fun how => ?_)
                      refine wm_g rfl rfl (y_move rfl) ?_
                      refine wm_g rfl rfl (y_sub rfl rfl (by omega)) ?_
                      refine wm_g rfl rfl (y_indexAddrArr (i := 0) Try.underlying44 T23 rfl rfl rfl (by decide)) ?_
                      refine wm_l rfl rfl (y_load NA23 rfl (by first | exact cell_blk [] rfl | exact cell_blk [_] rfl | exact cell_blk [_, _] rfl | exact cell_blk [_, _, _] rfl | exact cell_blk [_, _, _, _] rfl | exact cell_blk [_, _, _, _, _] rfl | exact cell_blk [_, _, _, _, _, _] rfl | exact cell_blk [_, _, _, _, _, _, _] rfl | exact cell_blk [_, _, _, _, _, _, _, _] rfl | exact cell_blk [_, _, _, _, _, _, _, _, _] rfl | exact cell_blk [_, _, _, _, _, _, _, _, _, _] rfl | exact cell_blk [_, _, _, _, _, _, _, _, _, _, _] rfl | exact cell_blk [_, _, _, _, _, _, _, _, _, _, _, _] rfl | exact cell_blk [_, _, _, _, _, _, _, _, _, _, _, _, _] rfl | exact cell_blk [_, _, _, _, _, _, _, _, _, _, _, _, _, _] rfl)) ?_
                      refine wm_g rfl rfl (y_move rfl) ?_
                      refine wm_g rfl rfl (y_move rfl) ?_
                      refine wm_g rfl rfl (y_indexAddr Try.underlying39 T32 rfl rfl rfl (by omega) (fun _ _ => how)) ?_
                      refine wm_l rfl rfl (y_loadAgg (l := encP pk) AG32 rfl rfl (agg_own [] (fun i u h => rows_get encP_len hpk h))) ?_
                      refine wm_c rfl rfl (fun _ _ _ => trivial) (yc_spec (fst := []) (cap := []) _ FN10 (take_spec p e' pk (hQ.ok.ok h2 (by omega)) hpa) rfl rfl rfl (by simp) (by (repeat (first | exact pt_nil | apply pt0 | apply pt1 | apply pt2 | apply pt3 | apply pt4 | apply pt5 | apply pt6 | apply pt7 | apply pt8 | apply pt9 | apply pt10 | apply pt11 | apply pt12 | apply pt13 | apply pt14 | apply pt15 | apply pt16 | apply pt17)))) (wm_ex fun x209 hx209 => ?_)
                      refine wm_world (S' := Hp w0 K [pksA o193 c193 m.e1.out, blk b5 (.cells [ptr p, ptr q].toArray 44 (0, 0)), blk b9 (.cells [sv m.s0, sv m.s1].toArray 46 (0, 0)), blk b10 (.cells [sv g', sv m.g1].toArray 46 (0, 0)), blk b11 (.cells [sv m.w0, sv m.w1].toArray 47 (0, 0)), endA p (e'.take pk).1, endA q m.e1, sA m.s0, sA m.s1, sA g', sA m.g1, pA m.w0, pA m.w1]) (fun w hw => hw.sub (by (repeat (first | exact pt_nil | apply pt0 | apply pt1 | apply pt2 | apply pt3 | apply pt4 | apply pt5 | apply pt6 | apply pt7 | apply pt8 | apply pt9 | apply pt10 | apply pt11 | apply pt12 | apply pt13 | apply pt14 | apply pt15 | apply pt16 | apply pt17)))) ?_
                      refine wm_g rfl rfl (y_move rfl) ?_
                      refine wm_g rfl rfl (y_extract rfl rfl) ?_
                      refine wm_g rfl rfl (y_extract rfl rfl) ?_
                      refine wm_g rfl rfl (y_assign rfl) ?_
                      refine wm_g rfl rfl (y_assign rfl) ?_
                      refine wm_nil ?_
                      refine all_wq ?_
                      refine wq_then ?_
                      refine wc_seq ?_
                      refine wc_region ?_
                      refine wl_y rfl (y_move rfl) ?_
                      refine wl_nil ?_
                      refine wq_then ?_
                      refine wc_cond rfl (fun hc212 => ?_) (fun hc212 => ?_)
                      ·
                        refine wc_region ?_
                        refine wl_y rfl (y_move rfl) ?_
                        refine wl_y rfl (y_sub rfl rfl (by omega)) ?_
                        refine wl_y rfl (y_move rfl) ?_
                        refine wl_y rfl (y_sub rfl rfl (by omega)) ?_
                        refine wl_y rfl (y_indexAddrArr (i := 0) Try.underlying46 T45 rfl rfl rfl (by decide)) ?_
                        refine wl_y rfl (y_load NA45 rfl (by first | exact cell_blk [] rfl | exact cell_blk [_] rfl | exact cell_blk [_, _] rfl | exact cell_blk [_, _, _] rfl | exact cell_blk [_, _, _, _] rfl | exact cell_blk [_, _, _, _, _] rfl | exact cell_blk [_, _, _, _, _, _] rfl | exact cell_blk [_, _, _, _, _, _, _] rfl | exact cell_blk [_, _, _, _, _, _, _, _] rfl | exact cell_blk [_, _, _, _, _, _, _, _, _] rfl | exact cell_blk [_, _, _, _, _, _, _, _, _, _] rfl | exact cell_blk [_, _, _, _, _, _, _, _, _, _, _] rfl | exact cell_blk [_, _, _, _, _, _, _, _, _, _, _, _] rfl | exact cell_blk [_, _, _, _, _, _, _, _, _, _, _, _, _] rfl | exact cell_blk [_, _, _, _, _, _, _, _, _, _, _, _, _, _] rfl)) ?_
                        refine wl_y rfl (y_move rfl) ?_
                        refine wl_w (fun _ _ => want_none) rfl (yw_buildSlice (cs := [_]) Try.underlying45 T9 rfl rfl rfl rfl rfl rfl rfl) (wl_ex fun b220 _ => ?_)
                        refine wl_w (fun _ _ => want_none) rfl (yw_append [_, _, _, _, _, _, _, _, _, _] Try.underlying45 Try.underlying45 (.inl ⟨_, rfl⟩) T9 rfl rfl rfl (fun w hw => Src.slice ((hw.seen []).mono fun _ => slc_rsl)) (by omega) (by unfold maxLen; omega) (by simp [Value.oneCell']) rfl) (wl_ex fun p' hp' => ?_)
                        refine wl_y rfl (y_indexAddrArr (i := 0) Try.underlying46 T45 rfl rfl rfl (by decide)) ?_
                        first | refine wl_u (yu_store [] (l' := _) T45 rfl rfl rfl rfl rfl rfl rfl) ?_ | refine wl_u (yu_store [_] (l' := _) T45 rfl rfl rfl rfl rfl rfl rfl) ?_ | refine wl_u (yu_store [_, _] (l' := _) T45 rfl rfl rfl rfl rfl rfl rfl) ?_ | refine wl_u (yu_store [_, _, _] (l' := _) T45 rfl rfl rfl rfl rfl rfl rfl) ?_ | refine wl_u (yu_store [_, _, _, _] (l' := _) T45 rfl rfl rfl rfl rfl rfl rfl) ?_ | refine wl_u (yu_store [_, _, _, _, _] (l' := _) T45 rfl rfl rfl rfl rfl rfl rfl) ?_ | refine wl_u (yu_store [_, _, _, _, _, _] (l' := _) T45 rfl rfl rfl rfl rfl rfl rfl) ?_ | refine wl_u (yu_store [_, _, _, _, _, _, _] (l' := _) T45 rfl rfl rfl rfl rfl rfl rfl) ?_ | refine wl_u (yu_store [_, _, _, _, _, _, _, _] (l' := _) T45 rfl rfl rfl rfl rfl rfl rfl) ?_ | refine wl_u (yu_store [_, _, _, _, _, _, _, _, _] (l' := _) T45 rfl rfl rfl rfl rfl rfl rfl) ?_ | refine wl_u (yu_store [_, _, _, _, _, _, _, _, _, _] (l' := _) T45 rfl rfl rfl rfl rfl rfl rfl) ?_ | refine wl_u (yu_store [_, _, _, _, _, _, _, _, _, _, _] (l' := _) T45 rfl rfl rfl rfl rfl rfl rfl) ?_ | refine wl_u (yu_store [_, _, _, _, _, _, _, _, _, _, _, _] (l' := _) T45 rfl rfl rfl rfl rfl rfl rfl) ?_ | refine wl_u (yu_store [_, _, _, _, _, _, _, _, _, _, _, _, _] (l' := _) T45 rfl rfl rfl rfl rfl rfl rfl) ?_ | refine wl_u (yu_store [_, _, _, _, _, _, _, _, _, _, _, _, _, _] (l' := _) T45 rfl rfl rfl rfl rfl rfl rfl) ?_
                        refine wl_nil ?_
                        refine wq_block_normal ?_
                        refine wq_then ?_
                        refine wc_region ?_
                        refine wl_y rfl (y_move rfl) ?_
                        refine wl_y rfl (y_add rfl rfl (by omega)) ?_
                        refine wl_y rfl (y_assign rfl) ?_
                        refine wl_nil ?_
                        have hd := hQ.ok.symm.del hpk hcm hkn
                        exact wq_round (j + 1, (e'.take pk).1, ⟨p'.1, p'.2, g'.xs ++ [(e'.take pk).2.1]⟩) (by simp only; omega) ⟨by simp only; omega, hQ.take0 hpm (by simp only; rw [if_pos hc212]), hd.1, fun _ => hd.2⟩ ⟨rfl, rfl, rfl, rfl, rfl, rfl, rfl, trivial⟩ (fun w hw => by simp only [sv_app, sA_app]; exact hw.sub (by (repeat (first | exact pt_nil | apply pt0 | apply pt1 | apply pt2 | apply pt3 | apply pt4 | apply pt5 | apply pt6 | apply pt7 | apply pt8 | apply pt9 | apply pt10 | apply pt11 | apply pt12 | apply pt13 | apply pt14 | apply pt15 | apply pt16 | apply pt17))))
                      ·
                        refine wc_skip ?_
                        refine wq_block_normal ?_
                        refine wq_then ?_
                        refine wc_region ?_
                        refine wl_y rfl (y_move rfl) ?_
                        refine wl_y rfl (y_add rfl rfl (by omega)) ?_
                        refine wl_y rfl (y_assign rfl) ?_
                        refine wl_nil ?_
                        have hd := hQ.ok.symm.del hpk hcm hkn
                        exact wq_round (j + 1, (e'.take pk).1, g') (by simp only; omega) ⟨by simp only; omega, hQ.take0 hpm (by simp only; rw [if_neg (by rw [hc212]; exact Bool.false_ne_true)]), hd.1, fun _ => hd.2⟩ ⟨rfl, rfl, rfl, rfl, rfl, rfl, rfl, trivial⟩ (fun w hw => hw.sub (by (repeat (first | exact pt_nil | apply pt0 | apply pt1 | apply pt2 | apply pt3 | apply pt4 | apply pt5 | apply pt6 | apply pt7 | apply pt8 | apply pt9 | apply pt10 | apply pt11 | apply pt12 | apply pt13 | apply pt14 | apply pt15 | apply pt16 | apply pt17))))
                    ·
                      simp at hc197
                      refine wc_exit ?_
                      refine wq_then_exit (wq_then_exit (wq_block_exit ?_))
                      refine wq_block_normal ?_
                      refine wq_then ?_
                      refine wc_region ?_
                      refine wl_y rfl (y_move rfl) ?_
                      refine wl_y rfl (y_add rfl rfl (by omega)) ?_
                      refine wl_y rfl (y_assign rfl) ?_
                      refine wl_nil ?_
                      exact wq_round (2, { m with e0 := e', g0 := g' }) (by simp) ⟨by simp, hQ.half1 (hQ.ok.symm.sent (by rw [show m.e1.out.length = j by omega]; exact hcm)) (hkn (by have := out_length m.e1; omega))⟩ ⟨rfl, rfl, rfl, rfl, rfl, trivial⟩ (fun w hw => hw.sub (by (repeat (first | exact pt_nil | apply pt0 | apply pt1 | apply pt2 | apply pt3 | apply pt4 | apply pt5 | apply pt6 | apply pt7 | apply pt8 | apply pt9 | apply pt10 | apply pt11 | apply pt12 | apply pt13 | apply pt14 | apply pt15 | apply pt16 | apply pt17))))
              ·
                simp at hc187
                refine wc_exit ?_
                refine wq_then_exit (wq_then_exit (wq_block_exit ?_))
                refine wq_block_normal ?_
                refine wq_then ?_
                refine wc_region ?_
                refine wl_y rfl (y_move rfl) ?_
                refine wl_y rfl (y_add rfl rfl (by omega)) ?_
                refine wl_y rfl (y_assign rfl) ?_
                refine wl_nil ?_
                obtain rfl : k = 2 := by omega
                exact wq_round (x + 1, m) (by simp only; omega) ⟨by simp only; omega, hP.round⟩ ⟨rfl, rfl, rfl, rfl, trivial⟩ (fun w hw => hw)
          ·
            simp at hc183
            refine wc_exit ?_
            refine wq_then_exit (wq_then_exit (wq_block_exit ?_))
            refine wq_then ?_
            refine wc_seq ?_
            refine wc_region ?_
            obtain rfl : x = 2 := by omega
            obtain ⟨f0, f1, f2, f3⟩ := hP.fin
            refine wl_y rfl (y_indexAddrArr (i := 0) Try.underlying46 T45 rfl rfl rfl (by decide)) ?_
            refine wl_y rfl (y_load NA45 rfl (by first | exact cell_blk [] rfl | exact cell_blk [_] rfl | exact cell_blk [_, _] rfl | exact cell_blk [_, _, _] rfl | exact cell_blk [_, _, _, _] rfl | exact cell_blk [_, _, _, _, _] rfl | exact cell_blk [_, _, _, _, _, _] rfl | exact cell_blk [_, _, _, _, _, _, _] rfl | exact cell_blk [_, _, _, _, _, _, _, _] rfl | exact cell_blk [_, _, _, _, _, _, _, _, _] rfl | exact cell_blk [_, _, _, _, _, _, _, _, _, _] rfl | exact cell_blk [_, _, _, _, _, _, _, _, _, _, _] rfl | exact cell_blk [_, _, _, _, _, _, _, _, _, _, _, _] rfl | exact cell_blk [_, _, _, _, _, _, _, _, _, _, _, _, _] rfl | exact cell_blk [_, _, _, _, _, _, _, _, _, _, _, _, _, _] rfl)) ?_
            refine wl_y rfl (y_lenSl Try.underlying45 rfl) ?_
            refine wl_y rfl (y_indexAddrArr (i := 1) Try.underlying46 T45 rfl rfl rfl (by decide)) ?_
            refine wl_y rfl (y_load NA45 rfl (by first | exact cell_blk [] rfl | exact cell_blk [_] rfl | exact cell_blk [_, _] rfl | exact cell_blk [_, _, _] rfl | exact cell_blk [_, _, _, _] rfl | exact cell_blk [_, _, _, _, _] rfl | exact cell_blk [_, _, _, _, _, _] rfl | exact cell_blk [_, _, _, _, _, _, _] rfl | exact cell_blk [_, _, _, _, _, _, _, _] rfl | exact cell_blk [_, _, _, _, _, _, _, _, _] rfl | exact cell_blk [_, _, _, _, _, _, _, _, _, _] rfl | exact cell_blk [_, _, _, _, _, _, _, _, _, _, _] rfl | exact cell_blk [_, _, _, _, _, _, _, _, _, _, _, _] rfl | exact cell_blk [_, _, _, _, _, _, _, _, _, _, _, _, _] rfl | exact cell_blk [_, _, _, _, _, _, _, _, _, _, _, _, _, _] rfl)) ?_
            refine wl_y rfl (y_lenSl Try.underlying45 rfl) ?_
            refine wl_y rfl (y_eqlI rfl rfl) ?_
            refine wl_y rfl (y_move rfl) ?_
            refine wl_known 230 true rfl (by rw [f2]; simp) ?_
            refine wl_yg rfl rfl rfl (y_indexAddrArr (i := 1) Try.underlying46 T45 rfl rfl rfl (by decide)) ?_
            refine wl_yg rfl rfl rfl (y_load NA45 rfl (by first | exact cell_blk [] rfl | exact cell_blk [_] rfl | exact cell_blk [_, _] rfl | exact cell_blk [_, _, _] rfl | exact cell_blk [_, _, _, _] rfl | exact cell_blk [_, _, _, _, _] rfl | exact cell_blk [_, _, _, _, _, _] rfl | exact cell_blk [_, _, _, _, _, _, _] rfl | exact cell_blk [_, _, _, _, _, _, _, _] rfl | exact cell_blk [_, _, _, _, _, _, _, _, _] rfl | exact cell_blk [_, _, _, _, _, _, _, _, _, _] rfl | exact cell_blk [_, _, _, _, _, _, _, _, _, _, _] rfl | exact cell_blk [_, _, _, _, _, _, _, _, _, _, _, _] rfl | exact cell_blk [_, _, _, _, _, _, _, _, _, _, _, _, _] rfl | exact cell_blk [_, _, _, _, _, _, _, _, _, _, _, _, _, _] rfl)) ?_
            refine wl_yg rfl rfl rfl (y_lenSl Try.underlying45 rfl) ?_
            refine wl_yg rfl rfl rfl (y_indexAddrArr (i := 0) Try.underlying46 T45 rfl rfl rfl (by decide)) ?_
            refine wl_yg rfl rfl rfl (y_load NA45 rfl (by first | exact cell_blk [] rfl | exact cell_blk [_] rfl | exact cell_blk [_, _] rfl | exact cell_blk [_, _, _] rfl | exact cell_blk [_, _, _, _] rfl | exact cell_blk [_, _, _, _, _] rfl | exact cell_blk [_, _, _, _, _, _] rfl | exact cell_blk [_, _, _, _, _, _, _] rfl | exact cell_blk [_, _, _, _, _, _, _, _] rfl | exact cell_blk [_, _, _, _, _, _, _, _, _] rfl | exact cell_blk [_, _, _, _, _, _, _, _, _, _] rfl | exact cell_blk [_, _, _, _, _, _, _, _, _, _, _] rfl | exact cell_blk [_, _, _, _, _, _, _, _, _, _, _, _] rfl | exact cell_blk [_, _, _, _, _, _, _, _, _, _, _, _, _] rfl | exact cell_blk [_, _, _, _, _, _, _, _, _, _, _, _, _, _] rfl)) ?_
            refine wl_yg rfl rfl rfl (y_lenSl Try.underlying45 rfl) ?_
            refine wl_yg rfl rfl rfl (y_eqlI rfl rfl) ?_
            refine wl_y rfl (y_pick_t rfl rfl) ?_
            refine wl_y rfl (y_move rfl) ?_
            refine wl_known 239 true rfl (by rw [f3]; simp) ?_
            refine wl_yg rfl rfl rfl (y_indexAddrArr (i := 0) Try.underlying46 T45 rfl rfl rfl (by decide)) ?_
            refine wl_yg rfl rfl rfl (y_load NA45 rfl (by first | exact cell_blk [] rfl | exact cell_blk [_] rfl | exact cell_blk [_, _] rfl | exact cell_blk [_, _, _] rfl | exact cell_blk [_, _, _, _] rfl | exact cell_blk [_, _, _, _, _] rfl | exact cell_blk [_, _, _, _, _, _] rfl | exact cell_blk [_, _, _, _, _, _, _] rfl | exact cell_blk [_, _, _, _, _, _, _, _] rfl | exact cell_blk [_, _, _, _, _, _, _, _, _] rfl | exact cell_blk [_, _, _, _, _, _, _, _, _, _] rfl | exact cell_blk [_, _, _, _, _, _, _, _, _, _, _] rfl | exact cell_blk [_, _, _, _, _, _, _, _, _, _, _, _] rfl | exact cell_blk [_, _, _, _, _, _, _, _, _, _, _, _, _] rfl | exact cell_blk [_, _, _, _, _, _, _, _, _, _, _, _, _, _] rfl)) ?_
            refine wl_yg rfl rfl rfl (y_indexAddrArr (i := 1) Try.underlying46 T45 rfl rfl rfl (by decide)) ?_
            refine wl_yg rfl rfl rfl (y_load NA45 rfl (by first | exact cell_blk [] rfl | exact cell_blk [_] rfl | exact cell_blk [_, _] rfl | exact cell_blk [_, _, _] rfl | exact cell_blk [_, _, _, _] rfl | exact cell_blk [_, _, _, _, _] rfl | exact cell_blk [_, _, _, _, _, _] rfl | exact cell_blk [_, _, _, _, _, _, _] rfl | exact cell_blk [_, _, _, _, _, _, _, _] rfl | exact cell_blk [_, _, _, _, _, _, _, _, _] rfl | exact cell_blk [_, _, _, _, _, _, _, _, _, _] rfl | exact cell_blk [_, _, _, _, _, _, _, _, _, _, _] rfl | exact cell_blk [_, _, _, _, _, _, _, _, _, _, _, _] rfl | exact cell_blk [_, _, _, _, _, _, _, _, _, _, _, _, _] rfl | exact cell_blk [_, _, _, _, _, _, _, _, _, _, _, _, _, _] rfl)) ?_
            refine wl_c (want_some rfl rfl) rfl (yc_spec (fst := []) (cap := []) _ FN19 (begins_spec m.g0.a m.s1.a m.g0.cap m.s1.cap m.g0.xs m.s1.xs (by have := hP.ok.b.len; omega)) rfl rfl rfl (List.forall_mem_cons.2 ⟨.inr ⟨sA m.g0, by simp, fun _ => slc_rsl⟩, List.forall_mem_cons.2 ⟨.inr ⟨sA m.s1, by simp, fun _ => slc_rsl⟩, List.forall_mem_nil _⟩⟩) (List.Perm.refl _)) (wl_ex fun x244 hx244 => ?_)
            refine wl_y rfl (y_pick_t rfl rfl) ?_
            refine wl_y rfl (y_move rfl) ?_
            refine wl_known 246 true rfl (decide_eq_true hP.ok.begins) ?_
            refine wl_yg rfl rfl rfl (y_indexAddrArr (i := 1) Try.underlying46 T45 rfl rfl rfl (by decide)) ?_
            refine wl_yg rfl rfl rfl (y_load NA45 rfl (by first | exact cell_blk [] rfl | exact cell_blk [_] rfl | exact cell_blk [_, _] rfl | exact cell_blk [_, _, _] rfl | exact cell_blk [_, _, _, _] rfl | exact cell_blk [_, _, _, _, _] rfl | exact cell_blk [_, _, _, _, _, _] rfl | exact cell_blk [_, _, _, _, _, _, _] rfl | exact cell_blk [_, _, _, _, _, _, _, _] rfl | exact cell_blk [_, _, _, _, _, _, _, _, _] rfl | exact cell_blk [_, _, _, _, _, _, _, _, _, _] rfl | exact cell_blk [_, _, _, _, _, _, _, _, _, _, _] rfl | exact cell_blk [_, _, _, _, _, _, _, _, _, _, _, _] rfl | exact cell_blk [_, _, _, _, _, _, _, _, _, _, _, _, _] rfl | exact cell_blk [_, _, _, _, _, _, _, _, _, _, _, _, _, _] rfl)) ?_
            refine wl_yg rfl rfl rfl (y_indexAddrArr (i := 0) Try.underlying46 T45 rfl rfl rfl (by decide)) ?_
            refine wl_yg rfl rfl rfl (y_load NA45 rfl (by first | exact cell_blk [] rfl | exact cell_blk [_] rfl | exact cell_blk [_, _] rfl | exact cell_blk [_, _, _] rfl | exact cell_blk [_, _, _, _] rfl | exact cell_blk [_, _, _, _, _] rfl | exact cell_blk [_, _, _, _, _, _] rfl | exact cell_blk [_, _, _, _, _, _, _] rfl | exact cell_blk [_, _, _, _, _, _, _, _] rfl | exact cell_blk [_, _, _, _, _, _, _, _, _] rfl | exact cell_blk [_, _, _, _, _, _, _, _, _, _] rfl | exact cell_blk [_, _, _, _, _, _, _, _, _, _, _] rfl | exact cell_blk [_, _, _, _, _, _, _, _, _, _, _, _] rfl | exact cell_blk [_, _, _, _, _, _, _, _, _, _, _, _, _] rfl | exact cell_blk [_, _, _, _, _, _, _, _, _, _, _, _, _, _] rfl)) ?_
            refine wl_c (want_some rfl rfl) rfl (yc_spec (fst := []) (cap := []) _ FN19 (begins_spec m.g1.a m.s0.a m.g1.cap m.s0.cap m.g1.xs m.s0.xs (by have := hP.ok.a.len; omega)) rfl rfl rfl (List.forall_mem_cons.2 ⟨.inr ⟨sA m.g1, by simp, fun _ => slc_rsl⟩, List.forall_mem_cons.2 ⟨.inr ⟨sA m.s0, by simp, fun _ => slc_rsl⟩, List.forall_mem_nil _⟩⟩) (List.Perm.refl _)) (wl_ex fun x251 hx251 => ?_)
            refine wl_y rfl (y_pick_t rfl rfl) ?_
            refine wl_y rfl (y_move rfl) ?_
            refine wl_known 253 true rfl (decide_eq_true hP.ok.symm.begins) ?_
            refine wl_yg rfl rfl rfl (y_indexAddrArr (i := 0) Try.underlying44 T23 rfl rfl rfl (by decide)) ?_
            refine wl_yg rfl rfl rfl (y_load NA23 rfl (by first | exact cell_blk [] rfl | exact cell_blk [_] rfl | exact cell_blk [_, _] rfl | exact cell_blk [_, _, _] rfl | exact cell_blk [_, _, _, _] rfl | exact cell_blk [_, _, _, _, _] rfl | exact cell_blk [_, _, _, _, _, _] rfl | exact cell_blk [_, _, _, _, _, _, _] rfl | exact cell_blk [_, _, _, _, _, _, _, _] rfl | exact cell_blk [_, _, _, _, _, _, _, _, _] rfl | exact cell_blk [_, _, _, _, _, _, _, _, _, _] rfl | exact cell_blk [_, _, _, _, _, _, _, _, _, _, _] rfl | exact cell_blk [_, _, _, _, _, _, _, _, _, _, _, _] rfl | exact cell_blk [_, _, _, _, _, _, _, _, _, _, _, _, _] rfl | exact cell_blk [_, _, _, _, _, _, _, _, _, _, _, _, _, _] rfl)) ?_
            refine wl_c (want_some rfl rfl) rfl (yc_spec (fst := []) (cap := []) _ FN17 (open_spec p m.e0) rfl rfl rfl (by simp) (by (repeat (first | exact pt_nil | apply pt0 | apply pt1 | apply pt2 | apply pt3 | apply pt4 | apply pt5 | apply pt6 | apply pt7 | apply pt8 | apply pt9 | apply pt10 | apply pt11 | apply pt12 | apply pt13 | apply pt14 | apply pt15 | apply pt16 | apply pt17)))) (wl_ex fun x256 hx256 => ?_)
            refine wl_yg rfl rfl rfl (y_eqlI rfl rfl) ?_
            refine wl_y rfl (y_pick_t rfl rfl) ?_
            refine wl_y rfl (y_move rfl) ?_
            refine wl_known 259 true rfl (by rw [f0]; simp) ?_
            refine wl_yg rfl rfl rfl (y_indexAddrArr (i := 1) Try.underlying44 T23 rfl rfl rfl (by decide)) ?_
            refine wl_yg rfl rfl rfl (y_load NA23 rfl (by first | exact cell_blk [] rfl | exact cell_blk [_] rfl | exact cell_blk [_, _] rfl | exact cell_blk [_, _, _] rfl | exact cell_blk [_, _, _, _] rfl | exact cell_blk [_, _, _, _, _] rfl | exact cell_blk [_, _, _, _, _, _] rfl | exact cell_blk [_, _, _, _, _, _, _] rfl | exact cell_blk [_, _, _, _, _, _, _, _] rfl | exact cell_blk [_, _, _, _, _, _, _, _, _] rfl | exact cell_blk [_, _, _, _, _, _, _, _, _, _] rfl | exact cell_blk [_, _, _, _, _, _, _, _, _, _, _] rfl | exact cell_blk [_, _, _, _, _, _, _, _, _, _, _, _] rfl | exact cell_blk [_, _, _, _, _, _, _, _, _, _, _, _, _] rfl | exact cell_blk [_, _, _, _, _, _, _, _, _, _, _, _, _, _] rfl)) ?_
            refine wl_c (want_some rfl rfl) rfl (yc_spec (fst := []) (cap := []) _ FN17 (open_spec q m.e1) rfl rfl rfl (by simp) (by (repeat (first | exact pt_nil | apply pt0 | apply pt1 | apply pt2 | apply pt3 | apply pt4 | apply pt5 | apply pt6 | apply pt7 | apply pt8 | apply pt9 | apply pt10 | apply pt11 | apply pt12 | apply pt13 | apply pt14 | apply pt15 | apply pt16 | apply pt17)))) (wl_ex fun x262 hx262 => ?_)
            refine wl_yg rfl rfl rfl (y_eqlI rfl rfl) ?_
            refine wl_y rfl (y_pick_t rfl rfl) ?_
            refine wl_y rfl (y_move rfl) ?_
            refine wl_known 265 true rfl (by rw [f1]; simp) ?_
            refine wl_c (want_some rfl rfl) rfl (yc_spec (fst := []) (cap := []) _ FN9 awake_spec rfl rfl rfl (by simp) (by (repeat (first | exact pt_nil | apply pt0 | apply pt1 | apply pt2 | apply pt3 | apply pt4 | apply pt5 | apply pt6 | apply pt7 | apply pt8 | apply pt9 | apply pt10 | apply pt11 | apply pt12 | apply pt13 | apply pt14 | apply pt15 | apply pt16 | apply pt17)))) (wl_ex fun x266 hx266 => ?_)
            refine wl_y rfl (y_pick_t rfl rfl) ?_
            refine wl_y rfl (y_assign rfl) ?_
            refine wl_nil ?_
            refine wq_then ?_
            refine wc_ret ?_
            refine wq_ret1 rfl rfl (fun w hw => ?_)
            exact ⟨(), trivial, rfl, hw.bare⟩

theorem order_all (w : Int) (oo : Option Addr) (cc : Nat) (ops : List Mv) (hg : ∀ x ∈ ops, fits64 x.n) : Ctr Try.prog 4 #[vI w, .slice oo ops.length cc] [rsl oo ops.length 5 (ops.flatMap encM)] [] (fun _ : Unit => True) (fun _ => .bool true) (fun _ => []) := by
  rcases Int.lt_or_le w 1 with h | h
  · exact order_lo w h oo cc ops
  rcases Int.lt_or_le 1000 w with h' | h'
  · exact order_hi w h' oo cc ops
  obtain ⟨n, rfl⟩ := Int.eq_ofNat_of_zero_le (show 0 ≤ w by omega)
  exact order_ok n (by omega) (by omega) oo cc ops hg
end Go.Proofs.Ytodcciahagefnaa
