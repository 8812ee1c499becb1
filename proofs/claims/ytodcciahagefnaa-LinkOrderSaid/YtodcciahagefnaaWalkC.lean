/-
  Walks: the examples; a nil end.
-/
import Derived.Test.YtodcciahagefnaaWalkB

namespace Go.Proofs.Ytodcciahagefnaa
open Go.Eng

set_option maxHeartbeats 1000000 in
theorem awake_spec  :
    Ctr Try.prog 9 #[] [] [] (fun _ : Unit => True) (fun _ => .bool true) (fun _ => []) := by
  refine spec_start (n := 118) [] Try.func9 rfl rfl trivial rfl ?_
  intro w0 K hR
  refine wc_seq ?_
  refine wc_region ?_
  refine wl_y rfl (y_assign rfl) ?_
  refine wl_nil ?_
  refine wq_then ?_
  refine wc_seq ?_
  refine wc_region ?_
  refine wl_c (fun _ _ => want_none) rfl (yc_spec (fst := []) (cap := []) [] FN7 (new_ok 9 (by decide) (by decide)) rfl rfl rfl (by simp) (by (repeat (first | exact pt_nil | apply pt0 | apply pt1 | apply pt2 | apply pt3 | apply pt4 | apply pt5 | apply pt6 | apply pt7 | apply pt8 | apply pt9 | apply pt10 | apply pt11 | apply pt12 | apply pt13 | apply pt14 | apply pt15 | apply pt16 | apply pt17)))) (wl_ex fun x16 hx16 => ?_)
  refine wl_world (S' := Hp w0 K [endA x16 (⟨9, [], 0, 0⟩)]) (fun w hw => hw) ?_
  refine wl_y rfl (y_move rfl) ?_
  refine wl_y rfl (y_extract rfl rfl) ?_
  refine wl_y rfl (y_extract rfl rfl) ?_
  refine wl_y rfl (y_assign rfl) ?_
  refine wl_y rfl (y_assign rfl) ?_
  refine wl_nil ?_
  refine wq_then ?_
  refine wc_seq ?_
  refine wc_region ?_
  refine wl_c (fun _ _ => want_none) rfl (yc_spec (fst := []) (cap := []) [endA x16 (⟨9, [], 0, 0⟩)] FN7 (new_ok 9 (by decide) (by decide)) rfl rfl rfl (by simp) (by (repeat (first | exact pt_nil | apply pt0 | apply pt1 | apply pt2 | apply pt3 | apply pt4 | apply pt5 | apply pt6 | apply pt7 | apply pt8 | apply pt9 | apply pt10 | apply pt11 | apply pt12 | apply pt13 | apply pt14 | apply pt15 | apply pt16 | apply pt17)))) (wl_ex fun x20 hx20 => ?_)
  refine wl_world (S' := Hp w0 K [endA x20 (⟨9, [], 0, 0⟩), endA x16 (⟨9, [], 0, 0⟩)]) (fun w hw => hw) ?_
  refine wl_y rfl (y_move rfl) ?_
  refine wl_y rfl (y_extract rfl rfl) ?_
  refine wl_y rfl (y_extract rfl rfl) ?_
  refine wl_y rfl (y_assign rfl) ?_
  refine wl_y rfl (y_assign rfl) ?_
  refine wl_nil ?_
  refine wq_then ?_
  refine wc_seq ?_
  refine wc_seq ?_
  refine wc_region ?_
  refine wl_y rfl (y_move rfl) ?_
  refine wl_y rfl (y_neqI rfl rfl) ?_
  refine wl_y rfl (y_move rfl) ?_
  refine wl_known 25 false rfl (rfl) ?_
  refine wl_yg rfl rfl rfl (y_move rfl) ?_
  refine wl_yg rfl rfl rfl (y_neqI rfl rfl) ?_
  refine wl_y rfl (y_pick_f rfl rfl) ?_
  refine wl_y rfl (y_move rfl) ?_
  refine wl_known 29 false rfl (rfl) ?_
  refine wl_yg rfl rfl rfl (y_move rfl) ?_
  refine wl_yg rfl rfl rfl (y_eqlP Try.underlying23 rfl rfl) ?_
  refine wl_y rfl (y_pick_f rfl rfl) ?_
  refine wl_y rfl (y_move rfl) ?_
  refine wl_known 33 false rfl (rfl) ?_
  refine wl_yg rfl rfl rfl (y_move rfl) ?_
  refine wl_yg rfl rfl rfl (y_eqlP Try.underlying23 rfl rfl) ?_
  refine wl_y rfl (y_pick_f rfl rfl) ?_
  refine wl_nil ?_
  refine wq_then ?_
  refine wc_known 36 false rfl (rfl) ?_
  refine wc_cond_false rfl ?_
  refine wc_skip ?_
  refine wq_then ?_
  refine wc_seq ?_
  refine wc_region ?_
  refine wl_y rfl (y_move rfl) ?_
  refine wl_c (fun _ _ => want_none) rfl (yc_spec (fst := []) (cap := []) _ FN12 (send_spec x16 ⟨9, [], 0, 0⟩ [120] (by refine ⟨?_, ?_, ?_, ?_⟩ <;> decide)) rfl rfl rfl (by simp) (List.perm_middle (l₁ := [_]))) (wl_ex fun x38 hx38 => ?_)
  refine wl_world (S' := Hp w0 K [endA x16 (⟨9, [[120]], 0, 0⟩), endA x20 (⟨9, [], 0, 0⟩)]) (fun w hw => hw) ?_
  refine wl_nil ?_
  refine wq_then ?_
  refine wc_seq ?_
  refine wc_region ?_
  refine wl_y rfl (y_move rfl) ?_
  refine wl_c (fun _ _ => want_none) rfl (yc_spec (fst := []) (cap := []) _ FN12 (send_spec x16 ⟨9, [[120]], 0, 0⟩ [121] (by refine ⟨?_, ?_, ?_, ?_⟩ <;> decide)) rfl rfl rfl (by simp) (List.perm_middle (l₁ := []))) (wl_ex fun x40 hx40 => ?_)
  refine wl_world (S' := Hp w0 K [endA x16 (⟨9, [[120], [121]], 0, 0⟩), endA x20 (⟨9, [], 0, 0⟩)]) (fun w hw => hw) ?_
  refine wl_nil ?_
  refine wq_then ?_
  refine wc_seq ?_
  refine wc_region ?_
  refine wl_y rfl (y_move rfl) ?_
  refine wl_c (fun _ _ => want_none) rfl (yc_spec (fst := []) (cap := []) _ FN15 (out_spec x16 ⟨9, [[120], [121]], 0, 0⟩ (by refine ⟨?_, ?_, ?_, ?_⟩ <;> decide)) rfl rfl rfl (by simp) (List.perm_middle (l₁ := []))) (wl_ex fun x42 hx42 => ?_)
  obtain ⟨o42, c42⟩ := x42
  refine wl_world (S' := Hp w0 K [endA x16 (⟨9, [[120], [121]], 0, 0⟩), pksA o42 c42 [⟨1, 0, [120]⟩, ⟨2, 0, [121]⟩], endA x20 (⟨9, [], 0, 0⟩)]) (fun w hw => hw) ?_
  refine wl_y rfl (y_assign rfl) ?_
  refine wl_nil ?_
  refine wq_then ?_
  refine wc_seq ?_
  refine wc_seq ?_
  refine wc_region ?_
  refine wl_y rfl (y_move rfl) ?_
  refine wl_y rfl (y_build (cs := [_, _, _]) T32 PL32 rfl rfl rfl) ?_
  refine wl_y rfl (y_build (cs := [_, _, _]) T32 PL32 rfl rfl rfl) ?_
  refine wl_w (fun _ _ => want_none) rfl (yw_buildSlice (cs := List.flatMap encP [⟨1, 0, [120]⟩, ⟨2, 0, [121]⟩]) Try.underlying39 T32 rfl rfl rfl rfl rfl rfl rfl) (wl_ex fun b46 _ => ?_)
  refine wl_c (fun _ _ => want_none) rfl (yc_spec (fst := []) (cap := []) _ FN14 (packets_spec o42 (some ⟨b46, 0, none⟩) c42 2 [⟨1, 0, [120]⟩, ⟨2, 0, [121]⟩] [⟨1, 0, [120]⟩, ⟨2, 0, [121]⟩] (by decide)) rfl rfl rfl (List.forall_mem_cons.2 ⟨.inr ⟨pksA o42 c42 [⟨1, 0, [120]⟩, ⟨2, 0, [121]⟩], by simp, fun _ => slc_rsl⟩, List.forall_mem_cons.2 ⟨.inr ⟨slc 32 3 (some ⟨b46, 0, none⟩) 2 2 (List.flatMap encP [⟨1, 0, [120]⟩, ⟨2, 0, [121]⟩]), by simp, fun _ => slc_rsl⟩, List.forall_mem_nil _⟩⟩) (List.Perm.refl _)) (wl_ex fun x47 hx47 => ?_)
  refine wl_world (S' := Hp w0 K [endA x16 (⟨9, [[120], [121]], 0, 0⟩), pksA o42 c42 [⟨1, 0, [120]⟩, ⟨2, 0, [121]⟩], endA x20 (⟨9, [], 0, 0⟩)]) (fun w hw => hw.drop) ?_
  refine wl_y rfl (y_not rfl) ?_
  refine wl_nil ?_
  refine wq_then ?_
  refine wc_known 48 false rfl (by decide) ?_
  refine wc_cond_false rfl ?_
  refine wc_skip ?_
  refine wq_then ?_
  refine wc_seq ?_
  refine wc_region ?_
  refine wl_y rfl (y_move rfl) ?_
  refine wl_y rfl (y_move rfl) ?_
  refine wl_y rfl (y_indexAddr Try.underlying39 T32 rfl rfl rfl (by decide) (fun w hw => hw.slc_isSome [_] (by decide))) ?_
  refine wl_y rfl (y_loadAgg (l := encP ⟨2, 0, [121]⟩) AG32 rfl rfl (agg_own [_] (fun i u h => rows_get (k := 1) encP_len rfl h))) ?_
  refine wl_c (fun _ _ => want_none) rfl (yc_spec (fst := []) (cap := []) _ FN10 (take_spec x20 ⟨9, [], 0, 0⟩ ⟨2, 0, [121]⟩ (by refine ⟨?_, ?_, ?_, ?_⟩ <;> decide) (by decide)) rfl rfl rfl (by simp) (List.perm_middle (l₁ := [_, _]))) (wl_ex fun x54 hx54 => ?_)
  refine wl_world (S' := Hp w0 K [endA x20 (⟨9, [], 0, 0⟩), endA x16 (⟨9, [[120], [121]], 0, 0⟩), pksA o42 c42 [⟨1, 0, [120]⟩, ⟨2, 0, [121]⟩]]) (fun w hw => hw) ?_
  refine wl_y rfl (y_move rfl) ?_
  refine wl_y rfl (y_extract rfl rfl) ?_
  refine wl_y rfl (y_extract rfl rfl) ?_
  refine wl_y rfl (y_assign rfl) ?_
  refine wl_y rfl (y_assign rfl) ?_
  refine wl_nil ?_
  refine wq_then ?_
  refine wc_seq ?_
  refine wc_region ?_
  refine wl_y rfl (y_move rfl) ?_
  refine wl_y rfl (y_move rfl) ?_
  refine wl_y rfl (y_indexAddr (i := 0) Try.underlying39 T32 rfl rfl rfl (by decide) (fun w hw => hw.slc_isSome [_, _] (by decide))) ?_
  refine wl_y rfl (y_loadAgg (l := encP ⟨1, 0, [120]⟩) AG32 rfl rfl (agg_own [_, _] (fun i u h => rows_get (k := 0) encP_len rfl h))) ?_
  refine wl_c (fun _ _ => want_none) rfl (yc_spec (fst := []) (cap := []) _ FN10 (take_spec x20 ⟨9, [], 0, 0⟩ ⟨1, 0, [120]⟩ (by refine ⟨?_, ?_, ?_, ?_⟩ <;> decide) (by decide)) rfl rfl rfl (by simp) (List.perm_middle (l₁ := []))) (wl_ex fun x62 hx62 => ?_)
  refine wl_world (S' := Hp w0 K [endA x20 (⟨9, [], 0, 1⟩), endA x16 (⟨9, [[120], [121]], 0, 0⟩), pksA o42 c42 [⟨1, 0, [120]⟩, ⟨2, 0, [121]⟩]]) (fun w hw => hw) ?_
  refine wl_y rfl (y_move rfl) ?_
  refine wl_y rfl (y_extract rfl rfl) ?_
  refine wl_y rfl (y_extract rfl rfl) ?_
  refine wl_y rfl (y_assign rfl) ?_
  refine wl_y rfl (y_assign rfl) ?_
  refine wl_nil ?_
  refine wq_then ?_
  refine wc_seq ?_
  refine wc_region ?_
  refine wl_y rfl (y_move rfl) ?_
  refine wl_y rfl (y_move rfl) ?_
  refine wl_y rfl (y_indexAddr (i := 0) Try.underlying39 T32 rfl rfl rfl (by decide) (fun w hw => hw.slc_isSome [_, _] (by decide))) ?_
  refine wl_y rfl (y_loadAgg (l := encP ⟨1, 0, [120]⟩) AG32 rfl rfl (agg_own [_, _] (fun i u h => rows_get (k := 0) encP_len rfl h))) ?_
  refine wl_c (fun _ _ => want_none) rfl (yc_spec (fst := []) (cap := []) _ FN10 (take_spec x20 ⟨9, [], 0, 1⟩ ⟨1, 0, [120]⟩ (by refine ⟨?_, ?_, ?_, ?_⟩ <;> decide) (by decide)) rfl rfl rfl (by simp) (List.perm_middle (l₁ := []))) (wl_ex fun x70 hx70 => ?_)
  refine wl_world (S' := Hp w0 K [endA x20 (⟨9, [], 0, 1⟩), endA x16 (⟨9, [[120], [121]], 0, 0⟩), pksA o42 c42 [⟨1, 0, [120]⟩, ⟨2, 0, [121]⟩]]) (fun w hw => hw) ?_
  refine wl_y rfl (y_move rfl) ?_
  refine wl_y rfl (y_extract rfl rfl) ?_
  refine wl_y rfl (y_extract rfl rfl) ?_
  refine wl_y rfl (y_assign rfl) ?_
  refine wl_y rfl (y_assign rfl) ?_
  refine wl_nil ?_
  refine wq_then ?_
  refine wc_seq ?_
  refine wc_region ?_
  refine wl_y rfl (y_move rfl) ?_
  refine wl_y rfl (y_move rfl) ?_
  refine wl_y rfl (y_indexAddr (i := 1) Try.underlying39 T32 rfl rfl rfl (by decide) (fun w hw => hw.slc_isSome [_, _] (by decide))) ?_
  refine wl_y rfl (y_loadAgg (l := encP ⟨2, 0, [121]⟩) AG32 rfl rfl (agg_own [_, _] (fun i u h => rows_get (k := 1) encP_len rfl h))) ?_
  refine wl_c (fun _ _ => want_none) rfl (yc_spec (fst := []) (cap := []) _ FN10 (take_spec x20 ⟨9, [], 0, 1⟩ ⟨2, 0, [121]⟩ (by refine ⟨?_, ?_, ?_, ?_⟩ <;> decide) (by decide)) rfl rfl rfl (by simp) (List.perm_middle (l₁ := []))) (wl_ex fun x78 hx78 => ?_)
  refine wl_world (S' := Hp w0 K [endA x20 (⟨9, [], 0, 2⟩), endA x16 (⟨9, [[120], [121]], 0, 0⟩), pksA o42 c42 [⟨1, 0, [120]⟩, ⟨2, 0, [121]⟩]]) (fun w hw => hw) ?_
  refine wl_y rfl (y_move rfl) ?_
  refine wl_y rfl (y_extract rfl rfl) ?_
  refine wl_y rfl (y_extract rfl rfl) ?_
  refine wl_y rfl (y_assign rfl) ?_
  refine wl_y rfl (y_assign rfl) ?_
  refine wl_nil ?_
  refine wq_then ?_
  refine wc_seq ?_
  refine wc_region ?_
  refine wl_y rfl (y_move rfl) ?_
  refine wl_c (fun _ _ => want_none) rfl (yc_spec (fst := []) (cap := []) _ FN15 (out_spec x20 ⟨9, [], 0, 2⟩ (by refine ⟨?_, ?_, ?_, ?_⟩ <;> decide)) rfl rfl rfl (by simp) (List.perm_middle (l₁ := []))) (wl_ex fun x82 hx82 => ?_)
  obtain ⟨o82, c82⟩ := x82
  refine wl_world (S' := Hp w0 K [endA x20 (⟨9, [], 0, 2⟩), pksA o82 c82 [⟨0, 2, []⟩], endA x16 (⟨9, [[120], [121]], 0, 0⟩), pksA o42 c42 [⟨1, 0, [120]⟩, ⟨2, 0, [121]⟩]]) (fun w hw => hw) ?_
  refine wl_y rfl (y_assign rfl) ?_
  refine wl_nil ?_
  refine wq_then ?_
  refine wc_seq ?_
  refine wc_seq ?_
  refine wc_region ?_
  refine wl_y rfl (y_move rfl) ?_
  refine wl_y rfl (y_build (cs := [_, _, _]) T32 PL32 rfl rfl rfl) ?_
  refine wl_w (fun _ _ => want_none) rfl (yw_buildSlice (cs := List.flatMap encP [⟨0, 2, []⟩]) Try.underlying39 T32 rfl rfl rfl rfl rfl rfl rfl) (wl_ex fun b85 _ => ?_)
  refine wl_c (fun _ _ => want_none) rfl (yc_spec (fst := []) (cap := []) _ FN14 (packets_spec o82 (some ⟨b85, 0, none⟩) c82 1 [⟨0, 2, []⟩] [⟨0, 2, []⟩] (by decide)) rfl rfl rfl (List.forall_mem_cons.2 ⟨.inr ⟨pksA o82 c82 [⟨0, 2, []⟩], by simp, fun _ => slc_rsl⟩, List.forall_mem_cons.2 ⟨.inr ⟨slc 32 3 (some ⟨b85, 0, none⟩) 1 1 (List.flatMap encP [⟨0, 2, []⟩]), by simp, fun _ => slc_rsl⟩, List.forall_mem_nil _⟩⟩) (List.Perm.refl _)) (wl_ex fun x86 hx86 => ?_)
  refine wl_world (S' := Hp w0 K [endA x20 (⟨9, [], 0, 2⟩), pksA o82 c82 [⟨0, 2, []⟩], endA x16 (⟨9, [[120], [121]], 0, 0⟩)]) (fun w hw => hw.drop.left (As := [_, _, _])) ?_
  refine wl_y rfl (y_not rfl) ?_
  refine wl_nil ?_
  refine wq_then ?_
  refine wc_known 87 false rfl (by decide) ?_
  refine wc_cond_false rfl ?_
  refine wc_skip ?_
  refine wq_then ?_
  refine wc_seq ?_
  refine wc_region ?_
  refine wl_y rfl (y_move rfl) ?_
  refine wl_y rfl (y_move rfl) ?_
  refine wl_y rfl (y_indexAddr (i := 0) Try.underlying39 T32 rfl rfl rfl (by decide) (fun w hw => hw.slc_isSome [_] (by decide))) ?_
  refine wl_y rfl (y_loadAgg (l := encP ⟨0, 2, []⟩) AG32 rfl rfl (agg_own [_] (fun i u h => rows_get (k := 0) encP_len rfl h))) ?_
  refine wl_c (fun _ _ => want_none) rfl (yc_spec (fst := []) (cap := []) _ FN10 (take_spec x16 ⟨9, [[120], [121]], 0, 0⟩ ⟨0, 2, []⟩ (by refine ⟨?_, ?_, ?_, ?_⟩ <;> decide) (by decide)) rfl rfl rfl (by simp) (List.perm_middle (l₁ := [_, _]))) (wl_ex fun x92 hx92 => ?_)
  refine wl_world (S' := Hp w0 K [endA x16 (⟨9, [], 2, 0⟩)]) (fun w hw => hw.left (As := [_])) ?_
  refine wl_nil ?_
  refine wq_then ?_
  refine wc_seq ?_
  refine wc_region ?_
  refine wl_y rfl (y_move rfl) ?_
  refine wl_y rfl (y_not rfl) ?_
  refine wl_y rfl (y_move rfl) ?_
  refine wl_known 95 true rfl (rfl) ?_
  refine wl_yg rfl rfl rfl (y_move rfl) ?_
  refine wl_y rfl (y_pick_t rfl rfl) ?_
  refine wl_y rfl (y_move rfl) ?_
  refine wl_known 98 true rfl (rfl) ?_
  refine wl_yg rfl rfl rfl (y_move rfl) ?_
  refine wl_yg rfl rfl rfl (y_eqlS rfl rfl) ?_
  refine wl_y rfl (y_pick_t rfl rfl) ?_
  refine wl_y rfl (y_move rfl) ?_
  refine wl_known 102 true rfl (rfl) ?_
  refine wl_yg rfl rfl rfl (y_move rfl) ?_
  refine wl_yg rfl rfl rfl (y_not rfl) ?_
  refine wl_y rfl (y_pick_t rfl rfl) ?_
  refine wl_y rfl (y_move rfl) ?_
  refine wl_known 106 true rfl (rfl) ?_
  refine wl_yg rfl rfl rfl (y_move rfl) ?_
  refine wl_y rfl (y_pick_t rfl rfl) ?_
  refine wl_y rfl (y_move rfl) ?_
  refine wl_known 109 true rfl (rfl) ?_
  refine wl_yg rfl rfl rfl (y_move rfl) ?_
  refine wl_yg rfl rfl rfl (y_eqlS rfl rfl) ?_
  refine wl_y rfl (y_pick_t rfl rfl) ?_
  refine wl_y rfl (y_move rfl) ?_
  refine wl_known 113 true rfl (rfl) ?_
  refine wl_yg rfl rfl rfl (y_move rfl) ?_
  refine wl_c (want_some rfl rfl) rfl (yc_spec (fst := []) (cap := []) _ FN17 (open_spec x16 ⟨9, [], 2, 0⟩) rfl rfl rfl (by simp) (List.perm_middle (l₁ := []))) (wl_ex fun x115 hx115 => ?_)
  refine wl_yg rfl rfl rfl (y_eqlI rfl rfl) ?_
  refine wl_y rfl (y_pick_t rfl rfl) ?_
  refine wl_y rfl (y_assign rfl) ?_
  refine wl_nil ?_
  refine wq_then ?_
  refine wc_ret ?_
  refine wq_ret1 rfl rfl (fun w hw => ?_)
  exact ⟨(), trivial, rfl, hw.bare⟩

set_option maxHeartbeats 1000000 in
theorem nil_spec (p : Pk) :
    Ctr Try.prog 6 #[vP p] [] [] (fun _ : Unit => True) (fun _ => .bool true) (fun _ => []) := by
  refine spec_start (n := 39) [(0, vP p)] Try.func6 rfl rfl ⟨rfl, trivial⟩ rfl ?_
  intro w0 K hR
  refine wc_seq ?_
  refine wc_region ?_
  refine wl_w (fun _ _ => want_none) rfl (yw_box rfl rfl) (wl_ex fun b1 _ => ?_)
  refine wl_y rfl (y_assign rfl) ?_
  refine wl_nil ?_
  refine wq_then ?_
  refine wc_seq ?_
  refine wc_region ?_
  refine wl_y rfl (y_assign rfl) ?_
  refine wl_nil ?_
  refine wq_then ?_
  refine wc_seq ?_
  refine wc_region ?_
  refine wl_y rfl (y_move rfl) ?_
  refine wl_y rfl (y_loadAgg (l := encP p) AG32 rfl rfl (cells_blk [] rfl)) ?_
  refine wl_c (fun _ _ => want_none) rfl (yc_spec (fst := []) (cap := []) _ FN10 (take_nil p) rfl rfl rfl (by simp) (by (repeat (first | exact pt_nil | apply pt0 | apply pt1 | apply pt2 | apply pt3 | apply pt4 | apply pt5 | apply pt6 | apply pt7 | apply pt8 | apply pt9 | apply pt10 | apply pt11 | apply pt12 | apply pt13 | apply pt14 | apply pt15 | apply pt16 | apply pt17)))) (wl_ex fun x9 hx9 => ?_)
  refine wl_y rfl (y_move rfl) ?_
  refine wl_y rfl (y_extract rfl rfl) ?_
  refine wl_y rfl (y_extract rfl rfl) ?_
  refine wl_y rfl (y_assign rfl) ?_
  refine wl_y rfl (y_assign rfl) ?_
  refine wl_nil ?_
  refine wq_then ?_
  refine wc_seq ?_
  refine wc_region ?_
  refine wl_y rfl (y_move rfl) ?_
  refine wl_y rfl (y_eqlS rfl rfl) ?_
  refine wl_y rfl (y_move rfl) ?_
  refine wl_known 14 true rfl (rfl) ?_
  refine wl_yg rfl rfl rfl (y_move rfl) ?_
  refine wl_yg rfl rfl rfl (y_not rfl) ?_
  refine wl_y rfl (y_pick_t rfl rfl) ?_
  refine wl_y rfl (y_move rfl) ?_
  refine wl_known 18 true rfl (rfl) ?_
  refine wl_yg rfl rfl rfl (y_move rfl) ?_
  refine wl_yg rfl rfl rfl (y_fieldAddr F32_2 rfl) ?_
  refine wl_yg rfl rfl rfl (y_load NA9 rfl (by first | exact cell_blk [] rfl | exact cell_blk [_] rfl | exact cell_blk [_, _] rfl)) ?_
  refine wl_c (want_some rfl rfl) rfl (yc_spec (fst := []) (cap := []) _ FN12 (send_nil p.data) rfl rfl rfl (by simp) (by (repeat (first | exact pt_nil | apply pt0 | apply pt1 | apply pt2 | apply pt3 | apply pt4 | apply pt5 | apply pt6 | apply pt7 | apply pt8 | apply pt9 | apply pt10 | apply pt11 | apply pt12 | apply pt13 | apply pt14 | apply pt15 | apply pt16 | apply pt17)))) (wl_ex fun x22 hx22 => ?_)
  refine wl_yg rfl rfl rfl (y_eqlI rfl rfl) ?_
  refine wl_y rfl (y_pick_t rfl rfl) ?_
  refine wl_y rfl (y_move rfl) ?_
  refine wl_known 25 true rfl (rfl) ?_
  refine wl_yg rfl rfl rfl (y_move rfl) ?_
  refine wl_c (want_some rfl rfl) rfl (yc_spec (fst := []) (cap := []) _ FN15 out_nil rfl rfl rfl (by simp) (by (repeat (first | exact pt_nil | apply pt0 | apply pt1 | apply pt2 | apply pt3 | apply pt4 | apply pt5 | apply pt6 | apply pt7 | apply pt8 | apply pt9 | apply pt10 | apply pt11 | apply pt12 | apply pt13 | apply pt14 | apply pt15 | apply pt16 | apply pt17)))) (wl_ex fun x27 hx27 => ?_)
  refine wl_yg rfl rfl rfl (y_lenSl Try.underlying39 rfl) ?_
  refine wl_yg rfl rfl rfl (y_eqlI rfl rfl) ?_
  refine wl_y rfl (y_pick_t rfl rfl) ?_
  refine wl_y rfl (y_move rfl) ?_
  refine wl_known 31 true rfl (rfl) ?_
  refine wl_yg rfl rfl rfl (y_move rfl) ?_
  refine wl_c (want_some rfl rfl) rfl (yc_spec (fst := []) (cap := []) _ FN17 open_nil rfl rfl rfl (by simp) (by (repeat (first | exact pt_nil | apply pt0 | apply pt1 | apply pt2 | apply pt3 | apply pt4 | apply pt5 | apply pt6 | apply pt7 | apply pt8 | apply pt9 | apply pt10 | apply pt11 | apply pt12 | apply pt13 | apply pt14 | apply pt15 | apply pt16 | apply pt17)))) (wl_ex fun x33 hx33 => ?_)
  refine wl_yg rfl rfl rfl (y_eqlI rfl rfl) ?_
  refine wl_y rfl (y_pick_t rfl rfl) ?_
  refine wl_y rfl (y_move rfl) ?_
  refine wl_known 36 true rfl (rfl) ?_
  refine wl_c (want_some rfl rfl) rfl (yc_spec (fst := []) (cap := []) _ FN9 awake_spec rfl rfl rfl (by simp) (by (repeat (first | exact pt_nil | apply pt0 | apply pt1 | apply pt2 | apply pt3 | apply pt4 | apply pt5 | apply pt6 | apply pt7 | apply pt8 | apply pt9 | apply pt10 | apply pt11 | apply pt12 | apply pt13 | apply pt14 | apply pt15 | apply pt16 | apply pt17)))) (wl_ex fun x37 hx37 => ?_)
  refine wl_y rfl (y_pick_t rfl rfl) ?_
  refine wl_y rfl (y_assign rfl) ?_
  refine wl_nil ?_
  refine wq_then ?_
  refine wc_ret ?_
  refine wq_ret1 rfl rfl (fun w hw => ?_)
  exact ⟨(), trivial, rfl, hw.bare⟩

end Go.Proofs.Ytodcciahagefnaa
