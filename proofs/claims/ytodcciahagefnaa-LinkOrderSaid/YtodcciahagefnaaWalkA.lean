/-
  Walks: the beginnings, what is sent, how many are open.
-/
import Derived.Test.YtodcciahagefnaaDef

namespace Go.Proofs.Ytodcciahagefnaa
open Go.Eng

set_option maxHeartbeats 1000000 in
theorem new_lo (w : Int) (hw : w < 1) :
    Ctr Try.prog 7 #[vI w] [] [] (fun _ : Unit => True) (fun _ => .tuple #[.pointer none, vI 1]) (fun _ => []) := by
  refine spec_start (n := 13) [(0, vI w)] Try.func7 rfl rfl ⟨rfl, trivial⟩ rfl ?_
  intro w0 K hR
  refine wc_seq ?_
  refine wc_region ?_
  refine wl_y rfl (y_assign rfl) ?_
  refine wl_y rfl (y_assign rfl) ?_
  refine wl_nil ?_
  refine wq_then ?_
  refine wc_seq ?_
  refine wc_seq ?_
  refine wc_region ?_
  refine wl_y rfl (y_move rfl) ?_
  refine wl_y rfl (y_lss rfl rfl) ?_
  refine wl_y rfl (y_move rfl) ?_
  refine wl_known 6 true rfl (by simp; omega) ?_
  refine wl_sk rfl rfl rfl rfl ?_
  refine wl_sk rfl rfl rfl rfl ?_
  refine wl_y rfl (y_pick_t rfl rfl) ?_
  refine wl_nil ?_
  refine wq_then ?_
  refine wc_cond_true rfl ?_
  refine wc_seq ?_
  refine wc_region ?_
  refine wl_y rfl (y_assign rfl) ?_
  refine wl_y rfl (y_assign rfl) ?_
  refine wl_nil ?_
  refine wq_then ?_
  refine wc_ret ?_
  refine wq_then_ret ?_
  refine wq_ret2 rfl rfl rfl (fun w hw => ?_)
  exact ⟨(), trivial, rfl, hw⟩

set_option maxHeartbeats 1000000 in
theorem new_hi (w : Int) (hw : 1000 < w) :
    Ctr Try.prog 7 #[vI w] [] [] (fun _ : Unit => True) (fun _ => .tuple #[.pointer none, vI 1]) (fun _ => []) := by
  refine spec_start (n := 13) [(0, vI w)] Try.func7 rfl rfl ⟨rfl, trivial⟩ rfl ?_
  intro w0 K hR
  refine wc_seq ?_
  refine wc_region ?_
  refine wl_y rfl (y_assign rfl) ?_
  refine wl_y rfl (y_assign rfl) ?_
  refine wl_nil ?_
  refine wq_then ?_
  refine wc_seq ?_
  refine wc_seq ?_
  refine wc_region ?_
  refine wl_y rfl (y_move rfl) ?_
  refine wl_y rfl (y_lss rfl rfl) ?_
  refine wl_y rfl (y_move rfl) ?_
  refine wl_known 6 false rfl (by simp; omega) ?_
  refine wl_yg rfl rfl rfl (y_move rfl) ?_
  refine wl_yg rfl rfl rfl (y_gtr rfl rfl) ?_
  refine wl_y rfl (y_pick_f rfl rfl) ?_
  refine wl_nil ?_
  refine wq_then ?_
  refine wc_known 9 true rfl (by simp; omega) ?_
  refine wc_cond_true rfl ?_
  refine wc_seq ?_
  refine wc_region ?_
  refine wl_y rfl (y_assign rfl) ?_
  refine wl_y rfl (y_assign rfl) ?_
  refine wl_nil ?_
  refine wq_then ?_
  refine wc_ret ?_
  refine wq_then_ret ?_
  refine wq_ret2 rfl rfl rfl (fun w hw => ?_)
  exact ⟨(), trivial, rfl, hw⟩

set_option maxHeartbeats 1000000 in
theorem new_ok (n : Nat) (h1 : 1 ≤ n) (h2 : n ≤ 1000) :
    Ctr Try.prog 7 #[vI n] [] [] (fun _ : Nat => True) (fun b => .tuple #[ptr b, vI 0]) (fun b => [endA b ⟨n, [], 0, 0⟩]) := by
  refine spec_start (n := 13) [(0, vI n)] Try.func7 rfl rfl ⟨rfl, trivial⟩ rfl ?_
  intro w0 K hR
  refine wc_seq ?_
  refine wc_region ?_
  refine wl_y rfl (y_assign rfl) ?_
  refine wl_y rfl (y_assign rfl) ?_
  refine wl_nil ?_
  refine wq_then ?_
  refine wc_seq ?_
  refine wc_seq ?_
  refine wc_region ?_
  refine wl_y rfl (y_move rfl) ?_
  refine wl_y rfl (y_lss rfl rfl) ?_
  refine wl_y rfl (y_move rfl) ?_
  refine wl_known 6 false rfl (by simp; omega) ?_
  refine wl_yg rfl rfl rfl (y_move rfl) ?_
  refine wl_yg rfl rfl rfl (y_gtr rfl rfl) ?_
  refine wl_y rfl (y_pick_f rfl rfl) ?_
  refine wl_nil ?_
  refine wq_then ?_
  refine wc_known 9 false rfl (by simp; omega) ?_
  refine wc_cond_false rfl ?_
  refine wc_skip ?_
  refine wq_then ?_
  refine wc_seq ?_
  refine wc_region ?_
  refine wl_y rfl (y_move rfl) ?_
  refine wl_y rfl (y_build (cs := [_, _, _, _]) T55 PL55 rfl rfl rfl) ?_
  refine wl_w (fun _ _ => want_none) rfl (yw_box rfl rfl) (wl_ex fun b12 _ => ?_)
  refine wl_y rfl (y_assign rfl) ?_
  refine wl_y rfl (y_assign rfl) ?_
  refine wl_nil ?_
  refine wq_then ?_
  refine wc_ret ?_
  refine wq_ret2 rfl rfl rfl (fun w hw => ?_)
  refine ⟨_, trivial, rfl, end_shut (none, 0) ?_⟩
  exact hw.conv (Bs := [blk _ _, slc 9 1 none 0 0 []]) fun g hg => ⟨g, [], hg, ⟨[], [], ⟨rfl, .inl ⟨rfl, rfl, rfl, rfl⟩⟩, rfl, rfl⟩, by simp⟩

set_option maxHeartbeats 1000000 in
theorem rnew_lo (w : Int) (hw : w < 1) :
    Ctr Try.prog 8 #[vI w] [] [] (fun _ : Unit => True) (fun _ => .tuple #[.pointer none, vI 1]) (fun _ => []) := by
  refine spec_start (n := 13) [(0, vI w)] Try.func8 rfl rfl ⟨rfl, trivial⟩ rfl ?_
  intro w0 K hR
  refine wc_seq ?_
  refine wc_region ?_
  refine wl_y rfl (y_assign rfl) ?_
  refine wl_y rfl (y_assign rfl) ?_
  refine wl_nil ?_
  refine wq_then ?_
  refine wc_seq ?_
  refine wc_seq ?_
  refine wc_region ?_
  refine wl_y rfl (y_move rfl) ?_
  refine wl_y rfl (y_lss rfl rfl) ?_
  refine wl_y rfl (y_move rfl) ?_
  refine wl_known 6 true rfl (by simp; omega) ?_
  refine wl_sk rfl rfl rfl rfl ?_
  refine wl_sk rfl rfl rfl rfl ?_
  refine wl_y rfl (y_pick_t rfl rfl) ?_
  refine wl_nil ?_
  refine wq_then ?_
  refine wc_cond_true rfl ?_
  refine wc_seq ?_
  refine wc_region ?_
  refine wl_y rfl (y_assign rfl) ?_
  refine wl_y rfl (y_assign rfl) ?_
  refine wl_nil ?_
  refine wq_then ?_
  refine wc_ret ?_
  refine wq_then_ret ?_
  refine wq_ret2 rfl rfl rfl (fun w hw => ?_)
  exact ⟨(), trivial, rfl, hw⟩

set_option maxHeartbeats 1000000 in
theorem rnew_hi (w : Int) (hw : 1000 < w) :
    Ctr Try.prog 8 #[vI w] [] [] (fun _ : Unit => True) (fun _ => .tuple #[.pointer none, vI 1]) (fun _ => []) := by
  refine spec_start (n := 13) [(0, vI w)] Try.func8 rfl rfl ⟨rfl, trivial⟩ rfl ?_
  intro w0 K hR
  refine wc_seq ?_
  refine wc_region ?_
  refine wl_y rfl (y_assign rfl) ?_
  refine wl_y rfl (y_assign rfl) ?_
  refine wl_nil ?_
  refine wq_then ?_
  refine wc_seq ?_
  refine wc_seq ?_
  refine wc_region ?_
  refine wl_y rfl (y_move rfl) ?_
  refine wl_y rfl (y_lss rfl rfl) ?_
  refine wl_y rfl (y_move rfl) ?_
  refine wl_known 6 false rfl (by simp; omega) ?_
  refine wl_yg rfl rfl rfl (y_move rfl) ?_
  refine wl_yg rfl rfl rfl (y_gtr rfl rfl) ?_
  refine wl_y rfl (y_pick_f rfl rfl) ?_
  refine wl_nil ?_
  refine wq_then ?_
  refine wc_known 9 true rfl (by simp; omega) ?_
  refine wc_cond_true rfl ?_
  refine wc_seq ?_
  refine wc_region ?_
  refine wl_y rfl (y_assign rfl) ?_
  refine wl_y rfl (y_assign rfl) ?_
  refine wl_nil ?_
  refine wq_then ?_
  refine wc_ret ?_
  refine wq_then_ret ?_
  refine wq_ret2 rfl rfl rfl (fun w hw => ?_)
  exact ⟨(), trivial, rfl, hw⟩

set_option maxHeartbeats 1000000 in
theorem rnew_ok (n : Nat) (h1 : 1 ≤ n) (h2 : n ≤ 1000) :
    Ctr Try.prog 8 #[vI n] [] [] (fun _ : Nat => True) (fun b => .tuple #[ptr b, vI 0]) (fun b => [refA b ⟨n, [], 0, 0⟩]) := by
  refine spec_start (n := 13) [(0, vI n)] Try.func8 rfl rfl ⟨rfl, trivial⟩ rfl ?_
  intro w0 K hR
  refine wc_seq ?_
  refine wc_region ?_
  refine wl_y rfl (y_assign rfl) ?_
  refine wl_y rfl (y_assign rfl) ?_
  refine wl_nil ?_
  refine wq_then ?_
  refine wc_seq ?_
  refine wc_seq ?_
  refine wc_region ?_
  refine wl_y rfl (y_move rfl) ?_
  refine wl_y rfl (y_lss rfl rfl) ?_
  refine wl_y rfl (y_move rfl) ?_
  refine wl_known 6 false rfl (by simp; omega) ?_
  refine wl_yg rfl rfl rfl (y_move rfl) ?_
  refine wl_yg rfl rfl rfl (y_gtr rfl rfl) ?_
  refine wl_y rfl (y_pick_f rfl rfl) ?_
  refine wl_nil ?_
  refine wq_then ?_
  refine wc_known 9 false rfl (by simp; omega) ?_
  refine wc_cond_false rfl ?_
  refine wc_skip ?_
  refine wq_then ?_
  refine wc_seq ?_
  refine wc_region ?_
  refine wl_y rfl (y_move rfl) ?_
  refine wl_y rfl (y_build (cs := [_, _, _, _]) T57 PL57 rfl rfl rfl) ?_
  refine wl_w (fun _ _ => want_none) rfl (yw_box rfl rfl) (wl_ex fun b12 _ => ?_)
  refine wl_y rfl (y_assign rfl) ?_
  refine wl_y rfl (y_assign rfl) ?_
  refine wl_nil ?_
  refine wq_then ?_
  refine wc_ret ?_
  refine wq_ret2 rfl rfl rfl (fun w hw => ?_)
  refine ⟨_, trivial, rfl, ref_shut (none, 0) ?_⟩
  exact hw.conv (Bs := [blk _ _, slc 9 1 none 0 0 []]) fun g hg => ⟨g, [], hg, ⟨[], [], ⟨rfl, .inl ⟨rfl, rfl, rfl, rfl⟩⟩, rfl, rfl⟩, by simp⟩

set_option maxHeartbeats 1000000 in
theorem send_spec (b : Nat) (s : LE) (d : Str) (hs : s.ok) :
    Ctr Try.prog 12 #[ptr b, vS d] [] [endA b s] (fun _ : Unit => True) (fun _ => vI (s.send d).2) (fun _ => [endA b (s.send d).1]) := by
  refine spec_start (n := 29) [(0, ptr b), (1, vS d)] Try.func12 rfl rfl ⟨rfl, rfl, trivial⟩ rfl ?_
  intro w0 K hR
  obtain ⟨h1, h2, h3, h4⟩ := hs
  refine wc_ex end_open (fun oc => ?_)
  obtain ⟨o, cap⟩ := oc
  refine wc_seq ?_
  refine wc_region ?_
  refine wl_y rfl (y_assign rfl) ?_
  refine wl_nil ?_
  refine wq_then ?_
  refine wc_seq ?_
  refine wc_block ?_
  refine wc_seq ?_
  refine wc_region ?_
  refine wl_y rfl (y_move rfl) ?_
  refine wl_y rfl (y_eqlP Try.underlying23 rfl rfl) ?_
  refine wl_y rfl (y_assign rfl) ?_
  refine wl_nil ?_
  refine wq_then ?_
  refine wc_known 5 false rfl (rfl) ?_
  refine wc_cond_false rfl ?_
  refine wc_seq ?_
  refine wc_quiet MO (by kernel_rfl) (Hp.drawless _ _ _) ?_
  refine wt_y rfl (y_move rfl) ?_
  refine wt_y rfl (y_nilCheck rfl) ?_
  refine wt_y rfl (y_fieldAddr F55_1 rfl) ?_
  refine wt_y rfl (y_load NA45 rfl (by first | exact cell_blk [] rfl | exact cell_blk [_] rfl | exact cell_blk [_, _] rfl)) ?_
  refine wt_y rfl (y_lenSl Try.underlying45 rfl) ?_
  refine wt_y rfl (y_move rfl) ?_
  refine wt_y rfl (y_nilCheck rfl) ?_
  refine wt_y rfl (y_fieldAddr F55_0 rfl) ?_
  refine wt_y rfl (y_load NA3 rfl (by first | exact cell_blk [] rfl | exact cell_blk [_] rfl | exact cell_blk [_, _] rfl)) ?_
  refine wt_y rfl (y_geq rfl rfl) ?_
  refine wt_y rfl (y_assign rfl) ?_
  refine wt_nil ?_
  refine wq_then ?_
  refine wc_cond rfl (fun hc8 => ?_) (fun hc8 => ?_)
  ·
    simp at hc8
    refine wc_seq ?_
    refine wc_region ?_
    refine wl_y rfl (y_assign rfl) ?_
    refine wl_nil ?_
    refine wq_then ?_
    refine wc_ret ?_
    refine wq_block_ret (wq_then_ret ?_)
    refine wq_ret1 rfl rfl (fun w hw => ?_)
    rw [show s.send d = (s, 41) from if_pos hc8]
    exact ⟨(), trivial, rfl, end_shut (o, cap) hw⟩
  ·
    simp at hc8
    refine wc_skip ?_
    refine wq_block_normal ?_
    refine wq_then ?_
    refine wc_seq ?_
    refine wc_region ?_
    refine wl_y rfl (y_move rfl) ?_
    refine wl_y rfl (y_move rfl) ?_
    refine wl_y rfl (y_nilCheck rfl) ?_
    refine wl_y rfl (y_fieldAddr F55_1 rfl) ?_
    refine wl_y rfl (y_load NA45 rfl (by first | exact cell_blk [] rfl | exact cell_blk [_] rfl | exact cell_blk [_, _] rfl)) ?_
    refine wl_y rfl (y_move rfl) ?_
    refine wl_w (fun _ _ => want_none) rfl (yw_buildSlice (cs := [_]) Try.underlying45 T9 rfl rfl rfl rfl rfl rfl rfl) (wl_ex fun b25 _ => ?_)
    refine wl_w (fun _ _ => want_none) rfl (yw_append [_, _] Try.underlying45 Try.underlying45 (.inl ⟨_, rfl⟩) T9 rfl rfl rfl (fun w hw => Src.slice ((hw.seen []).mono fun _ => slc_rsl)) (by omega) (by unfold maxLen; omega) (by simp [Value.oneCell']) rfl) (wl_ex fun p hp => ?_)
    refine wl_y rfl (y_nilCheck rfl) ?_
    refine wl_y rfl (y_fieldAddr F55_1 rfl) ?_
    first | refine wl_u (yu_store [] (l' := [_, _, _, _]) T45 rfl rfl rfl rfl rfl rfl rfl) ?_ | refine wl_u (yu_store [_] (l' := [_, _, _, _]) T45 rfl rfl rfl rfl rfl rfl rfl) ?_ | refine wl_u (yu_store [_, _] (l' := [_, _, _, _]) T45 rfl rfl rfl rfl rfl rfl rfl) ?_
    refine wl_nil ?_
    refine wq_then ?_
    refine wc_seq ?_
    refine wc_region ?_
    refine wl_y rfl (y_assign rfl) ?_
    refine wl_nil ?_
    refine wq_then ?_
    refine wc_ret ?_
    refine wq_ret1 rfl rfl (fun w hw => ?_)
    rw [show s.send d = ({ s with opens := s.opens ++ [d] }, 0) from if_neg (by omega)]
    exact ⟨(), trivial, rfl, end_shut p (by simpa [endAs, endCells] using hw.drop)⟩

set_option maxHeartbeats 1000000 in
theorem open_spec (b : Nat) (s : LE) :
    Ctr Try.prog 17 #[ptr b] [] [endA b s] (fun _ : Unit => True) (fun _ => vI s.opens.length) (fun _ => [endA b s]) := by
  refine spec_start (n := 10) [(0, ptr b)] Try.func17 rfl rfl ⟨rfl, trivial⟩ rfl ?_
  intro w0 K hR
  refine wc_ex end_open (fun oc => ?_)
  obtain ⟨o, cap⟩ := oc
  refine wc_seq ?_
  refine wc_region ?_
  refine wl_y rfl (y_assign rfl) ?_
  refine wl_nil ?_
  refine wq_then ?_
  refine wc_seq ?_
  refine wc_seq ?_
  refine wc_region ?_
  refine wl_y rfl (y_move rfl) ?_
  refine wl_y rfl (y_eqlP Try.underlying23 rfl rfl) ?_
  refine wl_nil ?_
  refine wq_then ?_
  refine wc_known 4 false rfl (rfl) ?_
  refine wc_cond_false rfl ?_
  refine wc_skip ?_
  refine wq_then ?_
  refine wc_seq ?_
  refine wc_region ?_
  refine wl_y rfl (y_move rfl) ?_
  refine wl_y rfl (y_nilCheck rfl) ?_
  refine wl_y rfl (y_fieldAddr F55_1 rfl) ?_
  refine wl_y rfl (y_load NA45 rfl (by first | exact cell_blk [] rfl | exact cell_blk [_] rfl | exact cell_blk [_, _] rfl)) ?_
  refine wl_y rfl (y_lenSl Try.underlying45 rfl) ?_
  refine wl_y rfl (y_assign rfl) ?_
  refine wl_nil ?_
  refine wq_then ?_
  refine wc_ret ?_
  refine wq_ret1 rfl rfl (fun w hw => ?_)
  exact ⟨(), trivial, rfl, end_shut (o, cap) hw⟩

set_option maxHeartbeats 1000000 in
theorem ropen_raw (b : Nat) (s : RE) (hs : s.ok) (o : Option Addr) (cap : Nat) :
    Ctr Try.prog 18 #[ptr b] [] (refAs b s (o, cap)) (fun _ : Unit => True) (fun _ => vI ((s.sent.length : Int) - s.known)) (fun _ => refAs b s (o, cap)) := by
  refine spec_start (n := 13) [(0, ptr b)] Try.func18 rfl rfl ⟨rfl, trivial⟩ rfl ?_
  intro w0 K hR
  obtain ⟨h1, h2, h3, h4⟩ := id hs
  refine wc_seq ?_
  refine wc_region ?_
  refine wl_y rfl (y_assign rfl) ?_
  refine wl_nil ?_
  refine wq_then ?_
  refine wc_seq ?_
  refine wc_quiet MO (by kernel_rfl) (Hp.drawless _ _ _) ?_
  refine wt_y rfl (y_move rfl) ?_
  refine wt_y rfl (y_nilCheck rfl) ?_
  refine wt_y rfl (y_fieldAddr F57_1 rfl) ?_
  refine wt_y rfl (y_load NA45 rfl (by first | exact cell_blk [] rfl | exact cell_blk [_] rfl | exact cell_blk [_, _] rfl)) ?_
  refine wt_y rfl (y_lenSl Try.underlying45 rfl) ?_
  refine wt_y rfl (y_move rfl) ?_
  refine wt_y rfl (y_nilCheck rfl) ?_
  refine wt_y rfl (y_fieldAddr F57_2 rfl) ?_
  refine wt_y rfl (y_load NA3 rfl (by first | exact cell_blk [] rfl | exact cell_blk [_] rfl | exact cell_blk [_, _] rfl)) ?_
  refine wt_y rfl (y_sub rfl rfl (by omega)) ?_
  refine wt_y rfl (y_assign rfl) ?_
  refine wt_nil ?_
  refine wq_then ?_
  refine wc_ret ?_
  refine wq_ret1 rfl rfl (fun w hw => ?_)
  exact ⟨(), trivial, rfl, hw⟩

set_option maxHeartbeats 1000000 in
theorem ropen_spec (b : Nat) (s : RE) (hs : s.ok) :
    Ctr Try.prog 18 #[ptr b] [] [refA b s] (fun _ : Unit => True) (fun _ => vI ((s.sent.length : Int) - s.known)) (fun _ => [refA b s]) := by
  refine spec_start (n := 13) [(0, ptr b)] Try.func18 rfl rfl ⟨rfl, trivial⟩ rfl ?_
  intro w0 K hR
  obtain ⟨h1, h2, h3, h4⟩ := id hs
  refine wc_ex ref_open (fun oc => ?_)
  obtain ⟨o, cap⟩ := oc
  refine wc_seq ?_
  refine wc_region ?_
  refine wl_y rfl (y_assign rfl) ?_
  refine wl_nil ?_
  refine wq_then ?_
  refine wc_seq ?_
  refine wc_quiet MO (by kernel_rfl) (Hp.drawless _ _ _) ?_
  refine wt_y rfl (y_move rfl) ?_
  refine wt_y rfl (y_nilCheck rfl) ?_
  refine wt_y rfl (y_fieldAddr F57_1 rfl) ?_
  refine wt_y rfl (y_load NA45 rfl (by first | exact cell_blk [] rfl | exact cell_blk [_] rfl | exact cell_blk [_, _] rfl)) ?_
  refine wt_y rfl (y_lenSl Try.underlying45 rfl) ?_
  refine wt_y rfl (y_move rfl) ?_
  refine wt_y rfl (y_nilCheck rfl) ?_
  refine wt_y rfl (y_fieldAddr F57_2 rfl) ?_
  refine wt_y rfl (y_load NA3 rfl (by first | exact cell_blk [] rfl | exact cell_blk [_] rfl | exact cell_blk [_, _] rfl)) ?_
  refine wt_y rfl (y_sub rfl rfl (by omega)) ?_
  refine wt_y rfl (y_assign rfl) ?_
  refine wt_nil ?_
  refine wq_then ?_
  refine wc_ret ?_
  refine wq_ret1 rfl rfl (fun w hw => ?_)
  exact ⟨(), trivial, rfl, ref_shut (o, cap) hw⟩

set_option maxHeartbeats 1000000 in
theorem rsend_spec (b : Nat) (s : RE) (d : Str) (hs : s.ok) :
    Ctr Try.prog 13 #[ptr b, vS d] [] [refA b s] (fun _ : Unit => True) (fun _ => vI (s.send d).2) (fun _ => [refA b (s.send d).1]) := by
  refine spec_start (n := 22) [(0, ptr b), (1, vS d)] Try.func13 rfl rfl ⟨rfl, rfl, trivial⟩ rfl ?_
  intro w0 K hR
  obtain ⟨h1, h2, h3, h4⟩ := id hs
  refine wc_ex ref_open (fun oc => ?_)
  obtain ⟨o, cap⟩ := oc
  refine wc_seq ?_
  refine wc_region ?_
  refine wl_y rfl (y_assign rfl) ?_
  refine wl_nil ?_
  refine wq_then ?_
  refine wc_seq ?_
  refine wc_seq ?_
  refine wc_quiet MO (by kernel_rfl) (Hp.drawless _ _ _) ?_
  refine wt_y rfl (y_move rfl) ?_
  refine wt_c (fun _ _ => want_none) rfl (yq_spec (fst := []) (cap := []) [] FN18 (ropen_raw b s hs o cap) rfl rfl rfl (by simp) (List.Perm.refl _) (fun _ _ => rfl) (fun _ _ _ h => h)) ?_
  refine wt_y rfl (y_move rfl) ?_
  refine wt_y rfl (y_nilCheck rfl) ?_
  refine wt_y rfl (y_fieldAddr F57_0 rfl) ?_
  refine wt_y rfl (y_load NA3 rfl (by first | exact cell_blk [] rfl | exact cell_blk [_] rfl | exact cell_blk [_, _] rfl)) ?_
  refine wt_y rfl (y_geq rfl rfl) ?_
  refine wt_nil ?_
  refine wq_then ?_
  refine wc_cond rfl (fun hc11 => ?_) (fun hc11 => ?_)
  ·
    simp at hc11
    refine wc_seq ?_
    refine wc_region ?_
    refine wl_y rfl (y_assign rfl) ?_
    refine wl_nil ?_
    refine wq_then ?_
    refine wc_ret ?_
    refine wq_then_ret ?_
    refine wq_ret1 rfl rfl (fun w hw => ?_)
    rw [show s.send d = (s, 41) from if_pos (by omega)]
    exact ⟨(), trivial, rfl, ref_shut (o, cap) hw⟩
  ·
    simp at hc11
    refine wc_skip ?_
    refine wq_then ?_
    refine wc_seq ?_
    refine wc_region ?_
    refine wl_y rfl (y_move rfl) ?_
    refine wl_y rfl (y_move rfl) ?_
    refine wl_y rfl (y_nilCheck rfl) ?_
    refine wl_y rfl (y_fieldAddr F57_1 rfl) ?_
    refine wl_y rfl (y_load NA45 rfl (by first | exact cell_blk [] rfl | exact cell_blk [_] rfl | exact cell_blk [_, _] rfl)) ?_
    refine wl_y rfl (y_move rfl) ?_
    refine wl_w (fun _ _ => want_none) rfl (yw_buildSlice (cs := [_]) Try.underlying45 T9 rfl rfl rfl rfl rfl rfl rfl) (wl_ex fun b18 _ => ?_)
    refine wl_w (fun _ _ => want_none) rfl (yw_append [_, _] Try.underlying45 Try.underlying45 (.inl ⟨_, rfl⟩) T9 rfl rfl rfl (fun w hw => Src.slice ((hw.seen []).mono fun _ => slc_rsl)) (by omega) (by unfold maxLen; omega) (by simp [Value.oneCell']) rfl) (wl_ex fun p hp => ?_)
    refine wl_y rfl (y_nilCheck rfl) ?_
    refine wl_y rfl (y_fieldAddr F57_1 rfl) ?_
    first | refine wl_u (yu_store [] (l' := [_, _, _, _]) T45 rfl rfl rfl rfl rfl rfl rfl) ?_ | refine wl_u (yu_store [_] (l' := [_, _, _, _]) T45 rfl rfl rfl rfl rfl rfl rfl) ?_ | refine wl_u (yu_store [_, _] (l' := [_, _, _, _]) T45 rfl rfl rfl rfl rfl rfl rfl) ?_
    refine wl_nil ?_
    refine wq_then ?_
    refine wc_seq ?_
    refine wc_region ?_
    refine wl_y rfl (y_assign rfl) ?_
    refine wl_nil ?_
    refine wq_then ?_
    refine wc_ret ?_
    refine wq_ret1 rfl rfl (fun w hw => ?_)
    rw [show s.send d = ({ s with sent := s.sent ++ [d] }, 0) from if_neg (by omega)]
    exact ⟨(), trivial, rfl, ref_shut p (by simpa [refAs, refCells] using hw.drop)⟩

end Go.Proofs.Ytodcciahagefnaa
