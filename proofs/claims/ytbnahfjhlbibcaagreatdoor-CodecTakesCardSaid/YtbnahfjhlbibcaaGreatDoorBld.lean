/-
  Walks: texts that are built.
-/
import Derived.Test.YtbnahfjhlbibcaaGreatDoorDef
namespace Go.Proofs.YtbnahfjhlbibcaaGreatDoor
open Go.Eng

set_option maxHeartbeats 1000000 in
theorem copy_fresh (T : TypeId) (hT : T = 86 ∨ T = 88) (b : Nat) (s : Str) (a : Option Addr) (cap : Nat) :
    Ctr Tryz.prog 75 #[ptr b] [] (bldAs T 5 b s (a, cap, false)) (fun _ : Unit => True) (fun _ => .tuple #[]) (fun _ => bldAs T 5 b s (a, cap, true)) := by
  refine spec_start (n := 20) [(0, ptr b)] Tryz.func75 rfl rfl ⟨rfl, trivial⟩ rfl ?_
  intro w0 K hR
  refine wc_seq ?_
  refine wc_region ?_
  refine wl_y rfl (y_move rfl) ?_
  refine wl_y rfl (y_nilCheck rfl) ?_
  refine wl_y rfl (y_fieldAddr F86_0 rfl) ?_
  refine wl_y rfl (y_load NA83 rfl (by first | exact cell_blk [] rfl | exact cell_blk [_] rfl | exact cell_blk [_, _] rfl | exact cell_blk [_, _, _] rfl | exact cellR_blk (by assumption) rfl)) ?_
  refine wl_y rfl (y_eqlP Tryz.underlying83 rfl rfl) ?_
  refine wl_nil ?_
  refine wq_then ?_
  refine wc_known 6 true rfl (rfl) ?_
  refine wc_cond_true rfl ?_
  refine wc_region ?_
  refine wl_y rfl (y_move rfl) ?_
  refine wl_y rfl (y_move rfl) ?_
  refine wl_y rfl (y_toUnsafe (k := 2) Tryz.underlying83 Tryz.underlying150 T86 rfl rfl rfl (by omega : 0 < 2) (fun w hw => (hw.seen []).blk)) ?_
  refine wl_y rfl (y_noEsc Tryz.func94 (by kernel_rfl) (by kernel_rfl) (by kernel_rfl) (by kernel_rfl) rfl rfl) ?_
  refine wl_y rfl (y_fromUnsafe (k := 2) Tryz.underlying150 Tryz.underlying83 T86 rfl rfl (by rcases hT with rfl | rfl <;> kernel_rfl) (fun w hw => (hw.seen []).blk)) ?_
  refine wl_y rfl (y_nilCheck rfl) ?_
  refine wl_y rfl (y_fieldAddr F86_0 rfl) ?_
  first | refine wl_u (yu_store [] (l' := [_, _]) T83 rfl rfl rfl rfl rfl rfl rfl) ?_ | refine wl_u (yu_store [_] (l' := [_, _]) T83 rfl rfl rfl rfl rfl rfl rfl) ?_ | refine wl_u (yu_store [_, _] (l' := [_, _]) T83 rfl rfl rfl rfl rfl rfl rfl) ?_ | refine wl_u (yu_store [_, _, _] (l' := [_, _]) T83 rfl rfl rfl rfl rfl rfl rfl) ?_
  refine wl_nil ?_
  refine wq_end0 rfl (fun w hw => ?_)
  exact ⟨(), trivial, rfl, hw⟩

set_option maxHeartbeats 1000000 in
theorem copy_used (T : TypeId) (b : Nat) (s : Str) (a : Option Addr) (cap : Nat) :
    Ctr Tryz.prog 75 #[ptr b] [] (bldAs T 5 b s (a, cap, true)) (fun _ : Unit => True) (fun _ => .tuple #[]) (fun _ => bldAs T 5 b s (a, cap, true)) := by
  refine spec_start (n := 20) [(0, ptr b)] Tryz.func75 rfl rfl ⟨rfl, trivial⟩ rfl ?_
  intro w0 K hR
  refine wc_seq ?_
  refine wc_region ?_
  refine wl_y rfl (y_move rfl) ?_
  refine wl_y rfl (y_nilCheck rfl) ?_
  refine wl_y rfl (y_fieldAddr F86_0 rfl) ?_
  refine wl_y rfl (y_load NA83 rfl (by first | exact cell_blk [] rfl | exact cell_blk [_] rfl | exact cell_blk [_, _] rfl | exact cell_blk [_, _, _] rfl | exact cellR_blk (by assumption) rfl)) ?_
  refine wl_y rfl (y_eqlP Tryz.underlying83 rfl rfl) ?_
  refine wl_nil ?_
  refine wq_then ?_
  refine wc_known 6 false rfl (rfl) ?_
  refine wc_cond_false rfl ?_
  refine wc_seq ?_
  refine wc_region ?_
  refine wl_y rfl (y_move rfl) ?_
  refine wl_y rfl (y_nilCheck rfl) ?_
  refine wl_y rfl (y_fieldAddr F86_0 rfl) ?_
  refine wl_y rfl (y_load NA83 rfl (by first | exact cell_blk [] rfl | exact cell_blk [_] rfl | exact cell_blk [_, _] rfl | exact cell_blk [_, _, _] rfl | exact cellR_blk (by assumption) rfl)) ?_
  refine wl_y rfl (y_move rfl) ?_
  refine wl_y rfl (y_neqPsame Tryz.underlying83 T86 rfl rfl) ?_
  refine wl_nil ?_
  refine wq_then ?_
  refine wc_known 19 false rfl (rfl) ?_
  refine wc_cond_false rfl ?_
  refine wc_skip ?_
  refine wq_end0 rfl (fun w hw => ?_)
  exact ⟨(), trivial, rfl, hw⟩

theorem copy_c (T : TypeId) (hT : T = 86 ∨ T = 88) (b : Nat) (s : Str) (x : Option Addr × Nat × Bool) : Ctr Tryz.prog 75 #[ptr b] [] (bldAs T 5 b s x) (fun _ : Unit => True) (fun _ => .tuple #[]) (fun _ => bldAs T 5 b s (x.1, x.2.1, true)) := by
  obtain ⟨a, cap, u⟩ := x
  cases u
  · exact copy_fresh T hT b s a cap
  · exact copy_used T b s a cap
set_option maxHeartbeats 1000000 in
theorem writeT_c (T : TypeId) (hT : T = 86 ∨ T = 88) (b : Nat) (s t : Str) (hl : s.length + t.length ≤ 140737488355328) :
    Ctr Tryz.prog 59 #[ptr b, vS t] [] [bldA T 5 b s] (fun _ : Unit => True) (fun _ => .tuple #[vI (t.length : Nat), .nilIface]) (fun _ => [bldA T 5 b (s ++ t)]) := by
  refine spec_start (n := 19) [(0, ptr b), (1, vS t)] Tryz.func59 rfl rfl ⟨rfl, rfl, trivial⟩ rfl ?_
  intro w0 K hR
  refine wc_ex bld_open (fun x => ?_)
  obtain ⟨⟨a, cap, u⟩, hok⟩ := x
  refine wc_seq ?_
  refine wc_region ?_
  refine wl_y rfl (y_assign rfl) ?_
  refine wl_y rfl (y_assign rfl) ?_
  refine wl_nil ?_
  refine wq_then ?_
  refine wc_seq ?_
  refine wc_region ?_
  refine wl_y rfl (y_move rfl) ?_
  refine wl_c (fun _ _ => want_none) rfl (yc_spec (fst := []) (cap := []) _ FN75 (copy_c T hT b s (a, cap, u)) rfl rfl rfl (by (repeat (first | exact pt_nil | apply pt0 | apply pt1 | apply pt2 | apply pt3 | apply pt4 | apply pt5 | apply pt6 | apply pt7 | apply pt8 | apply pt9 | apply pt10 | apply pt11 | apply pt12 | apply pt13 | apply pt14 | apply pt15 | apply pt16 | apply pt17))) (by (repeat (first | exact ro_nil | exact ro_rest (by assumption) | refine ro_cons (by first | exact .inl (by assumption) | exact ro_f0 (fun _ h => h) | exact ro_f0 (fun _ => slc_rsl) | exact ro_f1 (fun _ h => h) | exact ro_f1 (fun _ => slc_rsl) | exact ro_f2 (fun _ h => h) | exact ro_f2 (fun _ => slc_rsl) | exact ro_f3 (fun _ h => h) | exact ro_f3 (fun _ => slc_rsl) | exact ro_f4 (fun _ h => h) | exact ro_f4 (fun _ => slc_rsl) | exact ro_f5 (fun _ h => h) | exact ro_f5 (fun _ => slc_rsl) | exact ro_f6 (fun _ h => h) | exact ro_f6 (fun _ => slc_rsl)) ?_)))) (wl_ex fun x7 hx7 => ?_)
  refine wl_nil ?_
  refine wq_then ?_
  refine wc_seq ?_
  refine wc_region ?_
  refine wl_y rfl (y_move rfl) ?_
  refine wl_y rfl (y_move rfl) ?_
  refine wl_y rfl (y_nilCheck rfl) ?_
  refine wl_y rfl (y_fieldAddr F86_1 rfl) ?_
  refine wl_y rfl (y_load NA84 rfl (by first | exact cell_blk [] rfl | exact cell_blk [_] rfl | exact cell_blk [_, _] rfl | exact cell_blk [_, _, _] rfl | exact cellR_blk (by assumption) rfl)) ?_
  refine wl_y rfl (y_move rfl) ?_
  refine wl_w (fun _ _ => want_none) rfl (yw_appendS [_] Tryz.underlying84 Tryz.underlying9 T5 rfl rfl rfl hok (by omega) (by unfold maxLen; omega)) (wl_ex fun p14 hp14 => ?_)
  refine wl_y rfl (y_nilCheck rfl) ?_
  refine wl_y rfl (y_fieldAddr F86_1 rfl) ?_
  first | refine wl_u (yu_store [] (l' := [_, _]) T84 rfl rfl rfl rfl rfl rfl rfl) ?_ | refine wl_u (yu_store [_] (l' := [_, _]) T84 rfl rfl rfl rfl rfl rfl rfl) ?_ | refine wl_u (yu_store [_, _] (l' := [_, _]) T84 rfl rfl rfl rfl rfl rfl rfl) ?_ | refine wl_u (yu_store [_, _, _] (l' := [_, _]) T84 rfl rfl rfl rfl rfl rfl rfl) ?_
  refine wl_nil ?_
  refine wq_then ?_
  refine wc_seq ?_
  refine wc_region ?_
  refine wl_y rfl (y_move rfl) ?_
  refine wl_y rfl (y_lenS Tryz.underlying9 rfl) ?_
  refine wl_y rfl (y_assign rfl) ?_
  refine wl_y rfl (y_assign rfl) ?_
  refine wl_nil ?_
  refine wq_then ?_
  refine wc_ret ?_
  refine wq_ret2 rfl rfl rfl (fun w hw => ?_)
  exact ⟨(), trivial, rfl, bld_shut (x := (p14.1, p14.2, true)) hp14 (by simp only [bldAs, List.length_append, List.map_append]; exact hw)⟩

set_option maxHeartbeats 1000000 in
theorem stringT_c (T : TypeId) (b : Nat) (s : Str) (hl : s.length ≤ 140737488355328) :
    Ctr Tryz.prog 45 #[ptr b] [] [bldA T 5 b s] (fun _ : Unit => True) (fun _ => vS s) (fun _ => []) := by
  refine spec_start (n := 14) [(0, ptr b)] Tryz.func45 rfl rfl ⟨rfl, trivial⟩ rfl ?_
  intro w0 K hR
  refine wc_ex bld_open (fun x => ?_)
  obtain ⟨⟨a, cap, u⟩, hok⟩ := x
  refine wc_seq ?_
  refine wc_region ?_
  refine wl_y rfl (y_assign rfl) ?_
  refine wl_nil ?_
  refine wq_then ?_
  refine wc_seq ?_
  refine wc_mix (.q 0 0 (.q 1 0 (.q 2 0 (.q 3 0 (.q 4 0 (.q 5 0 (.q 6 0 (.q 7 0 (.q 8 0 (.q 9 0 (.w 10 2 (.q 11 0 .nil) .nil))))))))))) (Sees [blk b (.cells #[.pointer (if u = true then some ⟨b, 0, none⟩ else none), .slice a s.length cap] T (0, 0))]) MO (by kernel_rfl) (Hp.drawless _ _ _) (fun w hw => by refine ⟨?_, trivial⟩ <;> first | exact hw.seen [] | exact hw.seen [_] | exact hw.seen [_, _] | exact hw.seen [_, _, _] | exact hw.seen [_, _, _, _] | exact hw.seen [_, _, _, _, _]) ?_
  refine wm_g rfl rfl (y_move rfl) ?_
  refine wm_g rfl rfl (y_nilCheck rfl) ?_
  refine wm_g rfl rfl (y_fieldAddr F86_1 rfl) ?_
  refine wm_g rfl rfl (y_load NA84 rfl (fun w hw => by first | exact cell_of_heap hw.1.blk rfl)) ?_
  refine wm_g rfl rfl (y_sliceData rfl hok) ?_
  refine wm_g rfl rfl (y_move rfl) ?_
  refine wm_g rfl rfl (y_nilCheck rfl) ?_
  refine wm_g rfl rfl (y_fieldAddr F86_1 rfl) ?_
  refine wm_g rfl rfl (y_load NA84 rfl (fun w hw => by first | exact cell_of_heap hw.1.blk rfl)) ?_
  refine wm_g rfl rfl (y_lenSl Tryz.underlying84 rfl) ?_
  refine wm_w rfl rfl ?hC (yw_unsafeString [_] Tryz.underlying120 (by kernel_rfl) rfl rfl hok (by omega)) (wm_ex fun _ _ => ?_)
  case hC => exact (fun _ _ h => by obtain ⟨_, _, _, hw⟩ := h; exact (by refine ⟨?_, trivial⟩ <;> first | exact hw.seen [] | exact hw.seen [_] | exact hw.seen [_, _] | exact hw.seen [_, _, _] | exact hw.seen [_, _, _, _] | exact hw.seen [_, _, _, _, _]))
  refine wm_g rfl rfl (y_assign rfl) ?_
  refine wm_nil ?_
  refine all_wq ?_
  refine wq_then ?_
  refine wc_ret ?_
  refine wq_ret1 rfl rfl (fun w hw => ?_)
  exact ⟨(), trivial, rfl, hw.bare⟩

theorem write_c (b : Nat) (s t : Str) (hl : s.length + t.length ≤ 140737488355328) : Ctr Tryz.prog 59 #[ptr b, vS t] [] [bldA 86 5 b s] (fun _ : Unit => True) (fun _ => .tuple #[vI (t.length : Nat), .nilIface]) (fun _ => [bldA 86 5 b (s ++ t)]) := writeT_c _ (.inl rfl) b s t hl
theorem string_c (b : Nat) (s : Str) (hl : s.length ≤ 140737488355328) : Ctr Tryz.prog 45 #[ptr b] [] [bldA 86 5 b s] (fun _ : Unit => True) (fun _ => vS s) (fun _ => []) := stringT_c _ b s hl
end Go.Proofs.YtbnahfjhlbibcaaGreatDoor
