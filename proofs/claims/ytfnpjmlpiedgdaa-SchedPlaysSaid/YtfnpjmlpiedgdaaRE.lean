/-
  Walks: the reference: Leave.
-/
import Derived.Test.YtfnpjmlpiedgdaaRD
namespace Go.Proofs.Ytfnpjmlpiedgdaa
open Go.Eng

set_option maxHeartbeats 1000000 in
theorem fleave_c (b : Nat) (s : Sc) (wk : Str) (n : Int) (q : Nat) (hI : s.In n q) (h1 : 1 ≤ n) (h2 : n ≤ 1000000) (hq : q ≤ 490) (hrl : s.rows.length ≤ 1000) :
    Ctr Try.prog 19 #[ptr b, vS wk] [] [rfA b s] (fun _ : Unit => True) (fun _ => vI (s.leave wk).2) (fun _ => [rfA b (s.leave wk).1]) := by
  refine spec_start (n := 77) [(0, ptr b), (1, vS wk)] Try.func19 rfl rfl ⟨rfl, rfl, trivial⟩ rfl ?_
  intro w0 K hR
  refine wc_ex rf_open (fun x => ?_)
  obtain ⟨x, hx⟩ := x
  refine wc_world (S' := Hp w0 K (rfAs b s x)) (fun _ hw => hw) ?_
  have hwl := hx.wlen
  refine wc_seq ?_
  refine wc_region ?_
  refine wl_y rfl (y_assign rfl) ?_
  refine wl_nil ?_
  refine wq_then ?_
  refine wc_seq ?_
  refine wc_region ?_
  refine wl_y rfl (y_move rfl) ?_
  refine wl_y rfl (y_move rfl) ?_
  refine wl_q (fun _ _ => want_none) rfl (yq_spec (fst := []) (cap := []) _ FN42 (fat_c b s x wk (by omega)) rfl rfl rfl (by (repeat (first | exact pt_nil | apply pt0 | apply pt1 | apply pt2 | apply pt3 | apply pt4 | apply pt5 | apply pt6 | apply pt7 | apply pt8 | apply pt9 | apply pt10 | apply pt11 | apply pt12 | apply pt13 | apply pt14 | apply pt15 | apply pt16 | apply pt17))) (by (repeat (first | exact ro_nil | exact ro_rest (by assumption) | refine ro_cons (by first | exact .inl (by assumption) | exact ro_f0 (fun _ h => h) | exact ro_f0 (fun _ => slc_rsl) | exact ro_f1 (fun _ h => h) | exact ro_f1 (fun _ => slc_rsl) | exact ro_f2 (fun _ h => h) | exact ro_f2 (fun _ => slc_rsl) | exact ro_f3 (fun _ h => h) | exact ro_f3 (fun _ => slc_rsl) | exact ro_f4 (fun _ h => h) | exact ro_f4 (fun _ => slc_rsl) | exact ro_f5 (fun _ h => h) | exact ro_f5 (fun _ => slc_rsl) | exact ro_f6 (fun _ h => h) | exact ro_f6 (fun _ => slc_rsl)) ?_))) (fun _ _ => rfl) (fun _ _ _ h => h.sub (by (repeat (first | exact pt_nil | apply pt0 | apply pt1 | apply pt2 | apply pt3 | apply pt4 | apply pt5 | apply pt6 | apply pt7 | apply pt8 | apply pt9 | apply pt10 | apply pt11 | apply pt12 | apply pt13 | apply pt14 | apply pt15 | apply pt16 | apply pt17))))) ?_
  refine wl_y rfl (y_move rfl) ?_
  refine wl_y rfl (y_extract rfl rfl) ?_
  refine wl_y rfl (y_extract rfl rfl) ?_
  refine wl_y rfl (y_assign rfl) ?_
  refine wl_y rfl (y_assign rfl) ?_
  refine wl_nil ?_
  refine wq_then ?_
  refine wc_seq ?_
  refine wc_seq ?_
  refine wc_region ?_
  refine wl_y rfl (y_move rfl) ?_
  refine wl_y rfl (y_not rfl) ?_
  refine wl_nil ?_
  refine wq_then ?_
  refine wc_cond rfl (fun hc18 => ?_) (fun hc18 => ?_)
  ·
    refine wc_seq ?_
    refine wc_region ?_
    refine wl_y rfl (y_assign rfl) ?_
    refine wl_nil ?_
    refine wq_then ?_
    refine wc_ret ?_
    refine wq_then_ret ?_
    refine wq_ret1 rfl rfl (fun w hw => ?_)
    have hno := hx.has wk
    rw [show wHas x.ws wk = false by simpa using hc18] at hno
    have hnn : mget s.rows wk = none := by simpa using hno.symm
    have e : s.leave wk = (s, 17) := by rw [Sc.leave, hnn]
    rw [e]; exact ⟨(), trivial, rfl, rf_shut x hx (hw.sub (by (repeat (first | exact pt_nil | apply pt0 | apply pt1 | apply pt2 | apply pt3 | apply pt4 | apply pt5 | apply pt6 | apply pt7 | apply pt8 | apply pt9 | apply pt10 | apply pt11 | apply pt12 | apply pt13 | apply pt14 | apply pt15 | apply pt16 | apply pt17))))⟩
  ·
    refine wc_skip ?_
    refine wq_then ?_
    refine wc_seq ?_
    refine wc_region ?_
    obtain ⟨sl, hp⟩ := wHas_get (ws := x.ws) (k := wk) (by simpa using hc18)
    have hil := (List.getElem?_eq_some_iff.1 hp).1
    have hxl : sl.xs.length ≤ q := hx.xlen hI hp
    refine wl_y rfl (y_move rfl) ?_
    refine wl_y rfl (y_nilCheck rfl) ?_
    refine wl_y rfl (y_fieldAddr F54_2 rfl) ?_
    refine wl_y rfl (y_load NA51 rfl (by first | exact cell_blk [] rfl | exact cell_blk [_] rfl | exact cell_blk [_, _] rfl | exact cell_blk [_, _, _] rfl | exact cell_blk [_, _, _, _] rfl | exact cell_blk [_, _, _, _, _] rfl | exact cell_blk [_, _, _, _, _, _] rfl | exact cell_blk [_, _, _, _, _, _, _] rfl | exact cell_blk [_, _, _, _, _, _, _, _] rfl | exact cellR_blk (by assumption) rfl)) ?_
    refine wl_y rfl (y_move rfl) ?_
    refine wl_y rfl (y_indexAddr Try.underlying51 T83 rfl rfl rfl (by omega) (by first | assumption | exact fun _ _ => rfl | exact fun w hw => hw.slc_isSome [] (by omega) | exact fun w hw => hw.slc_isSome [_] (by omega) | exact fun w hw => hw.slc_isSome [_, _] (by omega) | exact fun w hw => hw.slc_isSome [_, _, _] (by omega) | exact fun w hw => hw.slc_isSome [_, _, _, _] (by omega) | exact fun w hw => hw.slc_isSome [_, _, _, _, _] (by omega) | exact fun w hw => hw.slc_isSome [_, _, _, _, _, _] (by omega) | exact fun w hw => hw.slc_isSome [_, _, _, _, _, _, _] (by omega) | exact fun w hw => hw.slc_isSome [_, _, _, _, _, _, _, _] (by omega))) ?_
    refine wl_y rfl (y_fieldAddr_adr F83_1 rfl) ?_
    refine wl_y rfl (y_load NA49 rfl (by first | exact cell_own [] (rows_get encW_len hp rfl) | exact cell_own [_] (rows_get encW_len hp rfl) | exact cell_own [_, _] (rows_get encW_len hp rfl) | exact cell_own [_, _, _] (rows_get encW_len hp rfl) | exact cell_own [_, _, _, _] (rows_get encW_len hp rfl) | exact cell_own [_, _, _, _, _] (rows_get encW_len hp rfl) | exact cell_own [_, _, _, _, _, _] (rows_get encW_len hp rfl) | exact cell_own [_, _, _, _, _, _, _] (rows_get encW_len hp rfl) | exact cell_own [_, _, _, _, _, _, _, _] (rows_get encW_len hp rfl))) ?_
    refine wl_y rfl (y_assign rfl) ?_
    refine wl_nil ?_
    refine wq_then ?_
    refine wc_seq ?_
    refine wc_region ?_
    refine wl_y rfl (y_assign rfl) ?_
    refine wl_nil ?_
    refine wq_then ?_
    refine wc_seq ?_
    refine wc_region ?_
    obtain ⟨i, hi⟩ : ∃ i, wAt x.ws wk = i := ⟨_, rfl⟩
    have hat := wAt_le x.ws wk
    rw [hi] at hat hp hil
    refine wl_have (p := x.ws.length ≤ x.wc) (by first | exact fun w hw => hw.slc_le [_, _, _] | exact fun w hw => hw.slc_le [_, _, _, _] | exact fun w hw => hw.slc_le [_, _, _, _, _] | exact fun w hw => hw.slc_le [_, _, _, _, _, _] | exact fun w hw => hw.slc_le [_, _, _, _, _, _, _]) (fun hcap => ?_)
    refine wl_same 5 (vI (i : Nat)) rfl (by rw [hi]) ?_
    refine wl_world (fun w hw => Hp.addNil (e := 83) (sz := 2) [] _ hw) ?_
    refine wl_y rfl (y_move rfl) ?_
    refine wl_y rfl (y_move rfl) ?_
    refine wl_y rfl (y_nilCheck rfl) ?_
    refine wl_y rfl (y_fieldAddr F54_2 rfl) ?_
    refine wl_y rfl (y_load NA51 rfl (by first | exact cell_blk [] rfl | exact cell_blk [_] rfl | exact cell_blk [_, _] rfl | exact cell_blk [_, _, _] rfl | exact cell_blk [_, _, _, _] rfl | exact cell_blk [_, _, _, _, _] rfl | exact cell_blk [_, _, _, _, _, _] rfl | exact cell_blk [_, _, _, _, _, _, _] rfl | exact cell_blk [_, _, _, _, _, _, _, _] rfl | exact cellR_blk (by assumption) rfl)) ?_
    refine wl_y rfl (y_move rfl) ?_
    refine wl_y rfl (y_sliceSl (i := 0) (j := i) Try.underlying51 T83 rfl rfl ⟨_, rfl, rfl⟩ (by omega) (by omega)) ?_
    first | refine wl_w (fun _ _ => want_none) rfl (yw_append [] Try.underlying51 Try.underlying51 (.inl ⟨_, rfl⟩) T83 rfl rfl rfl (fun w hw => Src.slice ((hw.seen []).mono fun _ h => slc_rsl (slc_take i h (by omega)))) (by omega) (by unfold maxLen; omega) (one_take (one_rows encW_one)) (by simp [rows_length encW_len]; omega)) (wl_ex fun p34 hp34 => ?_) | refine wl_w (fun _ _ => want_none) rfl (yw_append [] Try.underlying51 Try.underlying51 (.inl ⟨_, rfl⟩) T83 rfl rfl rfl (fun w hw => Src.slice ((hw.seen [_]).mono fun _ h => slc_rsl (slc_take i h (by omega)))) (by omega) (by unfold maxLen; omega) (one_take (one_rows encW_one)) (by simp [rows_length encW_len]; omega)) (wl_ex fun p34 hp34 => ?_) | refine wl_w (fun _ _ => want_none) rfl (yw_append [] Try.underlying51 Try.underlying51 (.inl ⟨_, rfl⟩) T83 rfl rfl rfl (fun w hw => Src.slice ((hw.seen [_, _]).mono fun _ h => slc_rsl (slc_take i h (by omega)))) (by omega) (by unfold maxLen; omega) (one_take (one_rows encW_one)) (by simp [rows_length encW_len]; omega)) (wl_ex fun p34 hp34 => ?_) | refine wl_w (fun _ _ => want_none) rfl (yw_append [] Try.underlying51 Try.underlying51 (.inl ⟨_, rfl⟩) T83 rfl rfl rfl (fun w hw => Src.slice ((hw.seen [_, _, _]).mono fun _ h => slc_rsl (slc_take i h (by omega)))) (by omega) (by unfold maxLen; omega) (one_take (one_rows encW_one)) (by simp [rows_length encW_len]; omega)) (wl_ex fun p34 hp34 => ?_) | refine wl_w (fun _ _ => want_none) rfl (yw_append [] Try.underlying51 Try.underlying51 (.inl ⟨_, rfl⟩) T83 rfl rfl rfl (fun w hw => Src.slice ((hw.seen [_, _, _, _]).mono fun _ h => slc_rsl (slc_take i h (by omega)))) (by omega) (by unfold maxLen; omega) (one_take (one_rows encW_one)) (by simp [rows_length encW_len]; omega)) (wl_ex fun p34 hp34 => ?_) | refine wl_w (fun _ _ => want_none) rfl (yw_append [] Try.underlying51 Try.underlying51 (.inl ⟨_, rfl⟩) T83 rfl rfl rfl (fun w hw => Src.slice ((hw.seen [_, _, _, _, _]).mono fun _ h => slc_rsl (slc_take i h (by omega)))) (by omega) (by unfold maxLen; omega) (one_take (one_rows encW_one)) (by simp [rows_length encW_len]; omega)) (wl_ex fun p34 hp34 => ?_) | refine wl_w (fun _ _ => want_none) rfl (yw_append [] Try.underlying51 Try.underlying51 (.inl ⟨_, rfl⟩) T83 rfl rfl rfl (fun w hw => Src.slice ((hw.seen [_, _, _, _, _, _]).mono fun _ h => slc_rsl (slc_take i h (by omega)))) (by omega) (by unfold maxLen; omega) (one_take (one_rows encW_one)) (by simp [rows_length encW_len]; omega)) (wl_ex fun p34 hp34 => ?_) | refine wl_w (fun _ _ => want_none) rfl (yw_append [] Try.underlying51 Try.underlying51 (.inl ⟨_, rfl⟩) T83 rfl rfl rfl (fun w hw => Src.slice ((hw.seen [_, _, _, _, _, _, _]).mono fun _ h => slc_rsl (slc_take i h (by omega)))) (by omega) (by unfold maxLen; omega) (one_take (one_rows encW_one)) (by simp [rows_length encW_len]; omega)) (wl_ex fun p34 hp34 => ?_) | refine wl_w (fun _ _ => want_none) rfl (yw_append [] Try.underlying51 Try.underlying51 (.inl ⟨_, rfl⟩) T83 rfl rfl rfl (fun w hw => Src.slice ((hw.seen [_, _, _, _, _, _, _, _]).mono fun _ h => slc_rsl (slc_take i h (by omega)))) (by omega) (by unfold maxLen; omega) (one_take (one_rows encW_one)) (by simp [rows_length encW_len]; omega)) (wl_ex fun p34 hp34 => ?_) | refine wl_w (fun _ _ => want_none) rfl (yw_append [] Try.underlying51 Try.underlying51 (.inl ⟨_, rfl⟩) T83 rfl rfl rfl (fun w hw => Src.slice ((hw.seen [_, _, _, _, _, _, _, _, _]).mono fun _ h => slc_rsl (slc_take i h (by omega)))) (by omega) (by unfold maxLen; omega) (one_take (one_rows encW_one)) (by simp [rows_length encW_len]; omega)) (wl_ex fun p34 hp34 => ?_) | refine wl_w (fun _ _ => want_none) rfl (yw_append [_] Try.underlying51 Try.underlying51 (.inl ⟨_, rfl⟩) T83 rfl rfl rfl (fun w hw => Src.slice ((hw.seen []).mono fun _ h => slc_rsl (slc_take i h (by omega)))) (by omega) (by unfold maxLen; omega) (one_take (one_rows encW_one)) (by simp [rows_length encW_len]; omega)) (wl_ex fun p34 hp34 => ?_) | refine wl_w (fun _ _ => want_none) rfl (yw_append [_] Try.underlying51 Try.underlying51 (.inl ⟨_, rfl⟩) T83 rfl rfl rfl (fun w hw => Src.slice ((hw.seen [_]).mono fun _ h => slc_rsl (slc_take i h (by omega)))) (by omega) (by unfold maxLen; omega) (one_take (one_rows encW_one)) (by simp [rows_length encW_len]; omega)) (wl_ex fun p34 hp34 => ?_) | refine wl_w (fun _ _ => want_none) rfl (yw_append [_] Try.underlying51 Try.underlying51 (.inl ⟨_, rfl⟩) T83 rfl rfl rfl (fun w hw => Src.slice ((hw.seen [_, _]).mono fun _ h => slc_rsl (slc_take i h (by omega)))) (by omega) (by unfold maxLen; omega) (one_take (one_rows encW_one)) (by simp [rows_length encW_len]; omega)) (wl_ex fun p34 hp34 => ?_) | refine wl_w (fun _ _ => want_none) rfl (yw_append [_] Try.underlying51 Try.underlying51 (.inl ⟨_, rfl⟩) T83 rfl rfl rfl (fun w hw => Src.slice ((hw.seen [_, _, _]).mono fun _ h => slc_rsl (slc_take i h (by omega)))) (by omega) (by unfold maxLen; omega) (one_take (one_rows encW_one)) (by simp [rows_length encW_len]; omega)) (wl_ex fun p34 hp34 => ?_) | refine wl_w (fun _ _ => want_none) rfl (yw_append [_] Try.underlying51 Try.underlying51 (.inl ⟨_, rfl⟩) T83 rfl rfl rfl (fun w hw => Src.slice ((hw.seen [_, _, _, _]).mono fun _ h => slc_rsl (slc_take i h (by omega)))) (by omega) (by unfold maxLen; omega) (one_take (one_rows encW_one)) (by simp [rows_length encW_len]; omega)) (wl_ex fun p34 hp34 => ?_) | refine wl_w (fun _ _ => want_none) rfl (yw_append [_] Try.underlying51 Try.underlying51 (.inl ⟨_, rfl⟩) T83 rfl rfl rfl (fun w hw => Src.slice ((hw.seen [_, _, _, _, _]).mono fun _ h => slc_rsl (slc_take i h (by omega)))) (by omega) (by unfold maxLen; omega) (one_take (one_rows encW_one)) (by simp [rows_length encW_len]; omega)) (wl_ex fun p34 hp34 => ?_) | refine wl_w (fun _ _ => want_none) rfl (yw_append [_] Try.underlying51 Try.underlying51 (.inl ⟨_, rfl⟩) T83 rfl rfl rfl (fun w hw => Src.slice ((hw.seen [_, _, _, _, _, _]).mono fun _ h => slc_rsl (slc_take i h (by omega)))) (by omega) (by unfold maxLen; omega) (one_take (one_rows encW_one)) (by simp [rows_length encW_len]; omega)) (wl_ex fun p34 hp34 => ?_) | refine wl_w (fun _ _ => want_none) rfl (yw_append [_] Try.underlying51 Try.underlying51 (.inl ⟨_, rfl⟩) T83 rfl rfl rfl (fun w hw => Src.slice ((hw.seen [_, _, _, _, _, _, _]).mono fun _ h => slc_rsl (slc_take i h (by omega)))) (by omega) (by unfold maxLen; omega) (one_take (one_rows encW_one)) (by simp [rows_length encW_len]; omega)) (wl_ex fun p34 hp34 => ?_) | refine wl_w (fun _ _ => want_none) rfl (yw_append [_] Try.underlying51 Try.underlying51 (.inl ⟨_, rfl⟩) T83 rfl rfl rfl (fun w hw => Src.slice ((hw.seen [_, _, _, _, _, _, _, _]).mono fun _ h => slc_rsl (slc_take i h (by omega)))) (by omega) (by unfold maxLen; omega) (one_take (one_rows encW_one)) (by simp [rows_length encW_len]; omega)) (wl_ex fun p34 hp34 => ?_) | refine wl_w (fun _ _ => want_none) rfl (yw_append [_] Try.underlying51 Try.underlying51 (.inl ⟨_, rfl⟩) T83 rfl rfl rfl (fun w hw => Src.slice ((hw.seen [_, _, _, _, _, _, _, _, _]).mono fun _ h => slc_rsl (slc_take i h (by omega)))) (by omega) (by unfold maxLen; omega) (one_take (one_rows encW_one)) (by simp [rows_length encW_len]; omega)) (wl_ex fun p34 hp34 => ?_)
    refine wl_y rfl (y_assign rfl) ?_
    refine wl_nil ?_
    refine wq_then ?_
    refine wc_seq ?_
    refine wc_region ?_
    refine wl_y rfl (y_move rfl) ?_
    refine wl_y rfl (y_move rfl) ?_
    refine wl_y rfl (y_move rfl) ?_
    refine wl_y rfl (y_nilCheck rfl) ?_
    refine wl_y rfl (y_fieldAddr F54_2 rfl) ?_
    refine wl_y rfl (y_load NA51 rfl (by first | exact cell_blk [] rfl | exact cell_blk [_] rfl | exact cell_blk [_, _] rfl | exact cell_blk [_, _, _] rfl | exact cell_blk [_, _, _, _] rfl | exact cell_blk [_, _, _, _, _] rfl | exact cell_blk [_, _, _, _, _, _] rfl | exact cell_blk [_, _, _, _, _, _, _] rfl | exact cell_blk [_, _, _, _, _, _, _, _] rfl | exact cellR_blk (by assumption) rfl)) ?_
    refine wl_y rfl (y_move rfl) ?_
    refine wl_y rfl (y_add rfl rfl (by omega)) ?_
    refine wl_y rfl (y_sliceSl (i := i + 1) (j := x.ws.length) Try.underlying51 T83 rfl ⟨_, rfl, by omega⟩ rfl (by omega) (by omega)) ?_
    first | refine wl_w (fun _ _ => want_none) rfl (yw_append [] Try.underlying51 Try.underlying51 (.inl ⟨_, rfl⟩) T83 rfl rfl rfl (fun w hw => Src.slice ((hw.seen []).mono fun _ h => slc_rsl (slc_cut (i + 1) h (by omega)))) (by omega) (by unfold maxLen; omega) (one_drop (one_rows encW_one)) (by simp [rows_length encW_len]; omega)) (wl_ex fun p44 hp44 => ?_) | refine wl_w (fun _ _ => want_none) rfl (yw_append [] Try.underlying51 Try.underlying51 (.inl ⟨_, rfl⟩) T83 rfl rfl rfl (fun w hw => Src.slice ((hw.seen [_]).mono fun _ h => slc_rsl (slc_cut (i + 1) h (by omega)))) (by omega) (by unfold maxLen; omega) (one_drop (one_rows encW_one)) (by simp [rows_length encW_len]; omega)) (wl_ex fun p44 hp44 => ?_) | refine wl_w (fun _ _ => want_none) rfl (yw_append [] Try.underlying51 Try.underlying51 (.inl ⟨_, rfl⟩) T83 rfl rfl rfl (fun w hw => Src.slice ((hw.seen [_, _]).mono fun _ h => slc_rsl (slc_cut (i + 1) h (by omega)))) (by omega) (by unfold maxLen; omega) (one_drop (one_rows encW_one)) (by simp [rows_length encW_len]; omega)) (wl_ex fun p44 hp44 => ?_) | refine wl_w (fun _ _ => want_none) rfl (yw_append [] Try.underlying51 Try.underlying51 (.inl ⟨_, rfl⟩) T83 rfl rfl rfl (fun w hw => Src.slice ((hw.seen [_, _, _]).mono fun _ h => slc_rsl (slc_cut (i + 1) h (by omega)))) (by omega) (by unfold maxLen; omega) (one_drop (one_rows encW_one)) (by simp [rows_length encW_len]; omega)) (wl_ex fun p44 hp44 => ?_) | refine wl_w (fun _ _ => want_none) rfl (yw_append [] Try.underlying51 Try.underlying51 (.inl ⟨_, rfl⟩) T83 rfl rfl rfl (fun w hw => Src.slice ((hw.seen [_, _, _, _]).mono fun _ h => slc_rsl (slc_cut (i + 1) h (by omega)))) (by omega) (by unfold maxLen; omega) (one_drop (one_rows encW_one)) (by simp [rows_length encW_len]; omega)) (wl_ex fun p44 hp44 => ?_) | refine wl_w (fun _ _ => want_none) rfl (yw_append [] Try.underlying51 Try.underlying51 (.inl ⟨_, rfl⟩) T83 rfl rfl rfl (fun w hw => Src.slice ((hw.seen [_, _, _, _, _]).mono fun _ h => slc_rsl (slc_cut (i + 1) h (by omega)))) (by omega) (by unfold maxLen; omega) (one_drop (one_rows encW_one)) (by simp [rows_length encW_len]; omega)) (wl_ex fun p44 hp44 => ?_) | refine wl_w (fun _ _ => want_none) rfl (yw_append [] Try.underlying51 Try.underlying51 (.inl ⟨_, rfl⟩) T83 rfl rfl rfl (fun w hw => Src.slice ((hw.seen [_, _, _, _, _, _]).mono fun _ h => slc_rsl (slc_cut (i + 1) h (by omega)))) (by omega) (by unfold maxLen; omega) (one_drop (one_rows encW_one)) (by simp [rows_length encW_len]; omega)) (wl_ex fun p44 hp44 => ?_) | refine wl_w (fun _ _ => want_none) rfl (yw_append [] Try.underlying51 Try.underlying51 (.inl ⟨_, rfl⟩) T83 rfl rfl rfl (fun w hw => Src.slice ((hw.seen [_, _, _, _, _, _, _]).mono fun _ h => slc_rsl (slc_cut (i + 1) h (by omega)))) (by omega) (by unfold maxLen; omega) (one_drop (one_rows encW_one)) (by simp [rows_length encW_len]; omega)) (wl_ex fun p44 hp44 => ?_) | refine wl_w (fun _ _ => want_none) rfl (yw_append [] Try.underlying51 Try.underlying51 (.inl ⟨_, rfl⟩) T83 rfl rfl rfl (fun w hw => Src.slice ((hw.seen [_, _, _, _, _, _, _, _]).mono fun _ h => slc_rsl (slc_cut (i + 1) h (by omega)))) (by omega) (by unfold maxLen; omega) (one_drop (one_rows encW_one)) (by simp [rows_length encW_len]; omega)) (wl_ex fun p44 hp44 => ?_) | refine wl_w (fun _ _ => want_none) rfl (yw_append [] Try.underlying51 Try.underlying51 (.inl ⟨_, rfl⟩) T83 rfl rfl rfl (fun w hw => Src.slice ((hw.seen [_, _, _, _, _, _, _, _, _]).mono fun _ h => slc_rsl (slc_cut (i + 1) h (by omega)))) (by omega) (by unfold maxLen; omega) (one_drop (one_rows encW_one)) (by simp [rows_length encW_len]; omega)) (wl_ex fun p44 hp44 => ?_) | refine wl_w (fun _ _ => want_none) rfl (yw_append [_] Try.underlying51 Try.underlying51 (.inl ⟨_, rfl⟩) T83 rfl rfl rfl (fun w hw => Src.slice ((hw.seen []).mono fun _ h => slc_rsl (slc_cut (i + 1) h (by omega)))) (by omega) (by unfold maxLen; omega) (one_drop (one_rows encW_one)) (by simp [rows_length encW_len]; omega)) (wl_ex fun p44 hp44 => ?_) | refine wl_w (fun _ _ => want_none) rfl (yw_append [_] Try.underlying51 Try.underlying51 (.inl ⟨_, rfl⟩) T83 rfl rfl rfl (fun w hw => Src.slice ((hw.seen [_]).mono fun _ h => slc_rsl (slc_cut (i + 1) h (by omega)))) (by omega) (by unfold maxLen; omega) (one_drop (one_rows encW_one)) (by simp [rows_length encW_len]; omega)) (wl_ex fun p44 hp44 => ?_) | refine wl_w (fun _ _ => want_none) rfl (yw_append [_] Try.underlying51 Try.underlying51 (.inl ⟨_, rfl⟩) T83 rfl rfl rfl (fun w hw => Src.slice ((hw.seen [_, _]).mono fun _ h => slc_rsl (slc_cut (i + 1) h (by omega)))) (by omega) (by unfold maxLen; omega) (one_drop (one_rows encW_one)) (by simp [rows_length encW_len]; omega)) (wl_ex fun p44 hp44 => ?_) | refine wl_w (fun _ _ => want_none) rfl (yw_append [_] Try.underlying51 Try.underlying51 (.inl ⟨_, rfl⟩) T83 rfl rfl rfl (fun w hw => Src.slice ((hw.seen [_, _, _]).mono fun _ h => slc_rsl (slc_cut (i + 1) h (by omega)))) (by omega) (by unfold maxLen; omega) (one_drop (one_rows encW_one)) (by simp [rows_length encW_len]; omega)) (wl_ex fun p44 hp44 => ?_) | refine wl_w (fun _ _ => want_none) rfl (yw_append [_] Try.underlying51 Try.underlying51 (.inl ⟨_, rfl⟩) T83 rfl rfl rfl (fun w hw => Src.slice ((hw.seen [_, _, _, _]).mono fun _ h => slc_rsl (slc_cut (i + 1) h (by omega)))) (by omega) (by unfold maxLen; omega) (one_drop (one_rows encW_one)) (by simp [rows_length encW_len]; omega)) (wl_ex fun p44 hp44 => ?_) | refine wl_w (fun _ _ => want_none) rfl (yw_append [_] Try.underlying51 Try.underlying51 (.inl ⟨_, rfl⟩) T83 rfl rfl rfl (fun w hw => Src.slice ((hw.seen [_, _, _, _, _]).mono fun _ h => slc_rsl (slc_cut (i + 1) h (by omega)))) (by omega) (by unfold maxLen; omega) (one_drop (one_rows encW_one)) (by simp [rows_length encW_len]; omega)) (wl_ex fun p44 hp44 => ?_) | refine wl_w (fun _ _ => want_none) rfl (yw_append [_] Try.underlying51 Try.underlying51 (.inl ⟨_, rfl⟩) T83 rfl rfl rfl (fun w hw => Src.slice ((hw.seen [_, _, _, _, _, _]).mono fun _ h => slc_rsl (slc_cut (i + 1) h (by omega)))) (by omega) (by unfold maxLen; omega) (one_drop (one_rows encW_one)) (by simp [rows_length encW_len]; omega)) (wl_ex fun p44 hp44 => ?_) | refine wl_w (fun _ _ => want_none) rfl (yw_append [_] Try.underlying51 Try.underlying51 (.inl ⟨_, rfl⟩) T83 rfl rfl rfl (fun w hw => Src.slice ((hw.seen [_, _, _, _, _, _, _]).mono fun _ h => slc_rsl (slc_cut (i + 1) h (by omega)))) (by omega) (by unfold maxLen; omega) (one_drop (one_rows encW_one)) (by simp [rows_length encW_len]; omega)) (wl_ex fun p44 hp44 => ?_) | refine wl_w (fun _ _ => want_none) rfl (yw_append [_] Try.underlying51 Try.underlying51 (.inl ⟨_, rfl⟩) T83 rfl rfl rfl (fun w hw => Src.slice ((hw.seen [_, _, _, _, _, _, _, _]).mono fun _ h => slc_rsl (slc_cut (i + 1) h (by omega)))) (by omega) (by unfold maxLen; omega) (one_drop (one_rows encW_one)) (by simp [rows_length encW_len]; omega)) (wl_ex fun p44 hp44 => ?_) | refine wl_w (fun _ _ => want_none) rfl (yw_append [_] Try.underlying51 Try.underlying51 (.inl ⟨_, rfl⟩) T83 rfl rfl rfl (fun w hw => Src.slice ((hw.seen [_, _, _, _, _, _, _, _, _]).mono fun _ h => slc_rsl (slc_cut (i + 1) h (by omega)))) (by omega) (by unfold maxLen; omega) (one_drop (one_rows encW_one)) (by simp [rows_length encW_len]; omega)) (wl_ex fun p44 hp44 => ?_)
    refine wl_y rfl (y_nilCheck rfl) ?_
    refine wl_y rfl (y_fieldAddr F54_2 rfl) ?_
    first | refine wl_u (yu_store [] (l' := _) T51 rfl rfl rfl rfl rfl rfl rfl) ?_ | refine wl_u (yu_store [_] (l' := _) T51 rfl rfl rfl rfl rfl rfl rfl) ?_ | refine wl_u (yu_store [_, _] (l' := _) T51 rfl rfl rfl rfl rfl rfl rfl) ?_ | refine wl_u (yu_store [_, _, _] (l' := _) T51 rfl rfl rfl rfl rfl rfl rfl) ?_ | refine wl_u (yu_store [_, _, _, _] (l' := _) T51 rfl rfl rfl rfl rfl rfl rfl) ?_ | refine wl_u (yu_store [_, _, _, _, _] (l' := _) T51 rfl rfl rfl rfl rfl rfl rfl) ?_ | refine wl_u (yu_store [_, _, _, _, _, _] (l' := _) T51 rfl rfl rfl rfl rfl rfl rfl) ?_ | refine wl_u (yu_store [_, _, _, _, _, _, _] (l' := _) T51 rfl rfl rfl rfl rfl rfl rfl) ?_ | refine wl_u (yu_store [_, _, _, _, _, _, _, _] (l' := _) T51 rfl rfl rfl rfl rfl rfl rfl) ?_
    refine wl_nil ?_
    refine wq_then ?_
    refine wc_seq ?_
    refine wc_seq ?_
    refine wc_region ?_
    refine wl_world (S' := Hp w0 K [rfA b ({ s with rows := mdel s.rows wk } : Sc), slc 30 3 sl.a sl.xs.length sl.cap (sl.xs.flatMap encJ)]) (fun w hw => ?RFE) ?_
    case RFE =>
      have e1 : (x.ws.eraseIdx i).length = 0 + (i - 0) + (x.ws.length - (i + 1)) := by rw [List.length_eraseIdx_of_lt hil]; omega
      have e2 : (x.ws.eraseIdx i).flatMap encW = [] ++ (x.ws.flatMap encW).take (i * 2) ++ (x.ws.flatMap encW).drop ((i + 1) * 2) := by rw [rows_take encW_len _ (by omega), rows_drop encW_len _ (by omega), List.eraseIdx_eq_take_drop_succ, List.flatMap_append]; rfl
      have h9 := rows_outI hp (As := [blk b (.cells #[.slice x.ja x.jobs.length x.jc, ptr x.qb, .slice p44.1 (0 + (i - 0) + (x.ws.length - (i + 1))) p44.2, ptr x.tb] 54 (0, 0)), slc 30 3 x.ja x.jobs.length x.jc (x.jobs.flatMap encJ), refA x.qb s.age x.RI, slc 83 2 p44.1 (0 + (i - 0) + (x.ws.length - (i + 1))) p44.2 ([] ++ (x.ws.flatMap encW).take (i * 2) ++ (x.ws.flatMap encW).drop ((i + 1) * 2)), rtA x.tb s.t.ref]) (hw.sub (by (repeat (first | exact pt_nil | apply pt0 | apply pt1 | apply pt2 | apply pt3 | apply pt4 | apply pt5 | apply pt6 | apply pt7 | apply pt8 | apply pt9 | apply pt10 | apply pt11 | apply pt12 | apply pt13 | apply pt14 | apply pt15 | apply pt16 | apply pt17))))
      refine rf_shut ⟨x.qb, x.tb, x.ja, x.jc, p44.1, p44.2, x.jobs, x.RI, x.ws.eraseIdx i⟩ (hx.turn rfl rfl (hx.up.sublist (List.eraseIdx_sublist _ _)) (hx.del hI.keyed hp)) ?_
      simp only [rfAs, rfC]
      rw [e1, e2]
      exact h9.sub (by (repeat (first | exact pt_nil | apply pt0 | apply pt1 | apply pt2 | apply pt3 | apply pt4 | apply pt5 | apply pt6 | apply pt7 | apply pt8 | apply pt9 | apply pt10 | apply pt11 | apply pt12 | apply pt13 | apply pt14 | apply pt15 | apply pt16 | apply pt17)))
    have hq1 : ({ s with rows := mdel s.rows wk } : Sc).Qk sl.xs.length := hI.qk' hq rfl rfl rfl (by omega)
    refine wl_y rfl (y_assign rfl) ?_
    refine wl_nil ?_
    refine wq_then ?_
    refine wc_block ?_
    refine wc_loop (α := Nat) (fun y => y ≤ sl.xs.length) [(0, _), (1, _), (7, _)] (fun y => [(9, vI y)]) (fun y => Hp w0 K [rfA b (({ s with rows := mdel s.rows wk } : Sc).again (sl.xs.take y)), slc 30 3 sl.a sl.xs.length sl.cap (sl.xs.flatMap encJ)]) (fun y => sl.xs.length - y) 0 ?_ ⟨rfl, rfl, rfl, rfl, trivial⟩ ?_ ?_
    · exact Nat.zero_le _
    · exact fun w hw => (show Hp w0 K [rfA b ({ s with rows := mdel s.rows wk } : Sc), slc 30 3 sl.a sl.xs.length sl.cap (sl.xs.flatMap encJ)] w from hw.sub (by (repeat (first | exact pt_nil | apply pt0 | apply pt1 | apply pt2 | apply pt3 | apply pt4 | apply pt5 | apply pt6 | apply pt7 | apply pt8 | apply pt9 | apply pt10 | apply pt11 | apply pt12 | apply pt13 | apply pt14 | apply pt15 | apply pt16 | apply pt17))))
    · intro i hi
      refine wc_seq ?_
      refine wc_seq ?_
      refine wc_region ?_
      refine wl_y rfl (y_move rfl) ?_
      refine wl_y rfl (y_move rfl) ?_
      refine wl_y rfl (y_lenSl Try.underlying49 rfl) ?_
      refine wl_y rfl (y_lss rfl rfl) ?_
      refine wl_nil ?_
      refine wq_then ?_
      refine wc_cond rfl (fun hc50 => ?_) (fun hc50 => ?_)
      ·
        simp at hc50
        refine wc_skip ?_
        refine wq_then ?_
        refine wc_seq ?_
        refine wc_block ?_
        refine wc_region ?_
        obtain ⟨z, hz⟩ : ∃ z, sl.xs[i]? = some z := ⟨_, List.getElem?_eq_getElem (by omega)⟩
        have hq2 := (hq1).some i (by omega)
        refine wl_y rfl (y_move rfl) ?_
        refine wl_y rfl (y_move rfl) ?_
        refine wl_y rfl (y_move rfl) ?_
        refine wl_y rfl (y_indexAddr Try.underlying49 T30 rfl rfl rfl (by omega) (by first | assumption | exact fun _ _ => rfl | exact fun w hw => hw.slc_isSome [] (by omega) | exact fun w hw => hw.slc_isSome [_] (by omega) | exact fun w hw => hw.slc_isSome [_, _] (by omega) | exact fun w hw => hw.slc_isSome [_, _, _] (by omega) | exact fun w hw => hw.slc_isSome [_, _, _, _] (by omega) | exact fun w hw => hw.slc_isSome [_, _, _, _, _] (by omega) | exact fun w hw => hw.slc_isSome [_, _, _, _, _, _] (by omega) | exact fun w hw => hw.slc_isSome [_, _, _, _, _, _, _] (by omega) | exact fun w hw => hw.slc_isSome [_, _, _, _, _, _, _, _] (by omega))) ?_
        refine wl_y rfl (y_loadAgg (l := encJ z) AG30 rfl rfl (by first | exact agg_own [] (fun i u h => rows_get encJ_len hz h) | exact agg_own [_] (fun i u h => rows_get encJ_len hz h) | exact agg_own [_, _] (fun i u h => rows_get encJ_len hz h) | exact agg_own [_, _, _] (fun i u h => rows_get encJ_len hz h) | exact agg_own [_, _, _, _] (fun i u h => rows_get encJ_len hz h) | exact agg_own [_, _, _, _, _] (fun i u h => rows_get encJ_len hz h) | exact agg_own [_, _, _, _, _, _] (fun i u h => rows_get encJ_len hz h) | exact agg_own [_, _, _, _, _, _, _] (fun i u h => rows_get encJ_len hz h) | exact agg_own [_, _, _, _, _, _, _, _] (fun i u h => rows_get encJ_len hz h))) ?_
        refine wl_c (fun _ _ => want_none) rfl (yc_spec (fst := []) (cap := []) _ FN40 (fpush_c b (({ s with rows := mdel s.rows wk } : Sc).again (sl.xs.take i)) z (hq2.mono (by omega))) rfl rfl rfl (by (repeat (first | exact pt_nil | apply pt0 | apply pt1 | apply pt2 | apply pt3 | apply pt4 | apply pt5 | apply pt6 | apply pt7 | apply pt8 | apply pt9 | apply pt10 | apply pt11 | apply pt12 | apply pt13 | apply pt14 | apply pt15 | apply pt16 | apply pt17))) (by (repeat (first | exact ro_nil | exact ro_rest (by assumption) | refine ro_cons (by first | exact .inl (by assumption) | exact ro_f0 (fun _ h => h) | exact ro_f0 (fun _ => slc_rsl) | exact ro_f1 (fun _ h => h) | exact ro_f1 (fun _ => slc_rsl) | exact ro_f2 (fun _ h => h) | exact ro_f2 (fun _ => slc_rsl) | exact ro_f3 (fun _ h => h) | exact ro_f3 (fun _ => slc_rsl) | exact ro_f4 (fun _ h => h) | exact ro_f4 (fun _ => slc_rsl) | exact ro_f5 (fun _ h => h) | exact ro_f5 (fun _ => slc_rsl) | exact ro_f6 (fun _ h => h) | exact ro_f6 (fun _ => slc_rsl)) ?_)))) (wl_ex fun x58 hx58 => ?_)
        refine wl_nil ?_
        refine wq_block_normal ?_
        refine wq_then ?_
        refine wc_region ?_
        refine wl_y rfl (y_move rfl) ?_
        refine wl_y rfl (y_add rfl rfl (by omega)) ?_
        refine wl_y rfl (y_assign rfl) ?_
        refine wl_nil ?_
        have e := again_next (s := ({ s with rows := mdel s.rows wk } : Sc)) hz
        exact wq_round (i + 1) (by omega) (by omega) ⟨rfl, rfl, rfl, rfl, trivial⟩ (fun w hw => by rw [e]; exact hw.sub (by (repeat (first | exact pt_nil | apply pt0 | apply pt1 | apply pt2 | apply pt3 | apply pt4 | apply pt5 | apply pt6 | apply pt7 | apply pt8 | apply pt9 | apply pt10 | apply pt11 | apply pt12 | apply pt13 | apply pt14 | apply pt15 | apply pt16 | apply pt17))))
      ·
        simp at hc50
        refine wc_exit ?_
        refine wq_then_exit (wq_then_exit (wq_block_exit ?_))
        refine wq_then ?_
        refine wc_seq ?_
        refine wc_region ?_
        obtain rfl : i = sl.xs.length := by omega
        refine wl_world (S' := Hp w0 K [rfA b (({ s with rows := mdel s.rows wk } : Sc).again sl.xs)]) (fun w hw => by rw [List.take_length] at hw; exact hw.sub (by (repeat (first | exact pt_nil | apply pt0 | apply pt1 | apply pt2 | apply pt3 | apply pt4 | apply pt5 | apply pt6 | apply pt7 | apply pt8 | apply pt9 | apply pt10 | apply pt11 | apply pt12 | apply pt13 | apply pt14 | apply pt15 | apply pt16 | apply pt17)))) ?_
        obtain ⟨_, hb2, _, _⟩ := again_rest sl.xs ({ s with rows := mdel s.rows wk } : Sc)
        have hq4 : (({ s with rows := mdel s.rows wk } : Sc).again sl.xs).Qk 5000 := Sc.Qk.again (hI.qk' hq rfl rfl rfl (by omega))
        have htl := take_len2 (({ s with rows := mdel s.rows wk } : Sc).again sl.xs).t (isOf wk)
        have hll := hI.lens.2.2
        have htm : (({ s with rows := mdel s.rows wk } : Sc).again sl.xs).t.m.length ≤ q := by rw [hb2]; exact hll
        have hrok : (({ s with rows := mdel s.rows wk } : Sc).again sl.xs).t.ref.ok := by rw [hb2]; exact hI.rok h1 h2 hq
        have hgood : (({ s with rows := mdel s.rows wk } : Sc).again sl.xs).t.good := by rw [hb2]; exact hI.good
        have hq5 : ({ (({ s with rows := mdel s.rows wk } : Sc).again sl.xs) with t := ((({ s with rows := mdel s.rows wk } : Sc).again sl.xs).t.take (isOf wk)).1 } : Sc).Qk ((({ s with rows := mdel s.rows wk } : Sc).again sl.xs).t.take (isOf wk)).2.length := hq4.tab _ (by omega)
        refine wl_exS rf_open (fun y => ?_)
        obtain ⟨x2, hx2⟩ := y
        refine wl_world (S' := Hp w0 K (rfAs b (({ s with rows := mdel s.rows wk } : Sc).again sl.xs) x2)) (fun _ hw => hw) ?_
        refine wl_y rfl (y_move rfl) ?_
        refine wl_y rfl (y_nilCheck rfl) ?_
        refine wl_y rfl (y_fieldAddr F54_3 rfl) ?_
        refine wl_y rfl (y_load NA52 rfl (by first | exact cell_blk [] rfl | exact cell_blk [_] rfl | exact cell_blk [_, _] rfl | exact cell_blk [_, _, _] rfl | exact cell_blk [_, _, _, _] rfl | exact cell_blk [_, _, _, _, _] rfl | exact cell_blk [_, _, _, _, _, _] rfl | exact cell_blk [_, _, _, _, _, _, _] rfl | exact cell_blk [_, _, _, _, _, _, _, _] rfl | exact cellR_blk (by assumption) rfl)) ?_
        refine wl_y rfl (y_move rfl) ?_
        refine wl_c (fun _ _ => want_none) rfl (yc_spec (fst := []) (cap := []) _ FN43 (rdrop_s x2.tb (({ s with rows := mdel s.rows wk } : Sc).again sl.xs).t wk hrok hgood) rfl rfl rfl (by (repeat (first | exact pt_nil | apply pt0 | apply pt1 | apply pt2 | apply pt3 | apply pt4 | apply pt5 | apply pt6 | apply pt7 | apply pt8 | apply pt9 | apply pt10 | apply pt11 | apply pt12 | apply pt13 | apply pt14 | apply pt15 | apply pt16 | apply pt17))) (by (repeat (first | exact ro_nil | exact ro_rest (by assumption) | refine ro_cons (by first | exact .inl (by assumption) | exact ro_f0 (fun _ h => h) | exact ro_f0 (fun _ => slc_rsl) | exact ro_f1 (fun _ h => h) | exact ro_f1 (fun _ => slc_rsl) | exact ro_f2 (fun _ h => h) | exact ro_f2 (fun _ => slc_rsl) | exact ro_f3 (fun _ h => h) | exact ro_f3 (fun _ => slc_rsl) | exact ro_f4 (fun _ h => h) | exact ro_f4 (fun _ => slc_rsl) | exact ro_f5 (fun _ h => h) | exact ro_f5 (fun _ => slc_rsl) | exact ro_f6 (fun _ h => h) | exact ro_f6 (fun _ => slc_rsl)) ?_)))) (wl_ex fun x64 hx64 => ?_)
        refine wl_y rfl (y_assign rfl) ?_
        refine wl_nil ?_
        refine wq_then ?_
        refine wc_seq ?_
        refine wc_seq ?_
        refine wc_region ?_
        refine wl_world (S' := Hp w0 K [rfA b ({ (({ s with rows := mdel s.rows wk } : Sc).again sl.xs) with t := ((({ s with rows := mdel s.rows wk } : Sc).again sl.xs).t.take (isOf wk)).1 } : Sc), slc 30 3 x64.1 ((({ s with rows := mdel s.rows wk } : Sc).again sl.xs).t.take (isOf wk)).2.length x64.2 (((({ s with rows := mdel s.rows wk } : Sc).again sl.xs).t.take (isOf wk)).2.flatMap encJ)]) (fun w hw => rf_shut x2 (hx2.tab _) (hw.sub (by (repeat (first | exact pt_nil | apply pt0 | apply pt1 | apply pt2 | apply pt3 | apply pt4 | apply pt5 | apply pt6 | apply pt7 | apply pt8 | apply pt9 | apply pt10 | apply pt11 | apply pt12 | apply pt13 | apply pt14 | apply pt15 | apply pt16 | apply pt17))))) ?_
        refine wl_y rfl (y_assign rfl) ?_
        refine wl_nil ?_
        refine wq_then ?_
        refine wc_block ?_
        refine wc_loop (α := Nat) (fun y => y ≤ ((({ s with rows := mdel s.rows wk } : Sc).again sl.xs).t.take (isOf wk)).2.length) [(0, _), (7, _)] (fun y => [(10, vI y)]) (fun y => Hp w0 K [rfA b (({ (({ s with rows := mdel s.rows wk } : Sc).again sl.xs) with t := ((({ s with rows := mdel s.rows wk } : Sc).again sl.xs).t.take (isOf wk)).1 } : Sc).again (((({ s with rows := mdel s.rows wk } : Sc).again sl.xs).t.take (isOf wk)).2.take y)), slc 30 3 x64.1 ((({ s with rows := mdel s.rows wk } : Sc).again sl.xs).t.take (isOf wk)).2.length x64.2 (((({ s with rows := mdel s.rows wk } : Sc).again sl.xs).t.take (isOf wk)).2.flatMap encJ)]) (fun y => ((({ s with rows := mdel s.rows wk } : Sc).again sl.xs).t.take (isOf wk)).2.length - y) 0 ?_ ⟨rfl, rfl, rfl, trivial⟩ ?_ ?_
        · exact Nat.zero_le _
        · exact fun w hw => (show Hp w0 K [rfA b ({ (({ s with rows := mdel s.rows wk } : Sc).again sl.xs) with t := ((({ s with rows := mdel s.rows wk } : Sc).again sl.xs).t.take (isOf wk)).1 } : Sc), slc 30 3 x64.1 ((({ s with rows := mdel s.rows wk } : Sc).again sl.xs).t.take (isOf wk)).2.length x64.2 (((({ s with rows := mdel s.rows wk } : Sc).again sl.xs).t.take (isOf wk)).2.flatMap encJ)] w from hw.sub (by (repeat (first | exact pt_nil | apply pt0 | apply pt1 | apply pt2 | apply pt3 | apply pt4 | apply pt5 | apply pt6 | apply pt7 | apply pt8 | apply pt9 | apply pt10 | apply pt11 | apply pt12 | apply pt13 | apply pt14 | apply pt15 | apply pt16 | apply pt17))))
        · intro i hi
          refine wc_seq ?_
          refine wc_seq ?_
          refine wc_region ?_
          refine wl_y rfl (y_move rfl) ?_
          refine wl_y rfl (y_move rfl) ?_
          refine wl_y rfl (y_lenSl Try.underlying49 rfl) ?_
          refine wl_y rfl (y_lss rfl rfl) ?_
          refine wl_nil ?_
          refine wq_then ?_
          refine wc_cond rfl (fun hc68 => ?_) (fun hc68 => ?_)
          ·
            simp at hc68
            refine wc_skip ?_
            refine wq_then ?_
            refine wc_seq ?_
            refine wc_block ?_
            refine wc_region ?_
            obtain ⟨z, hz⟩ : ∃ z, ((({ s with rows := mdel s.rows wk } : Sc).again sl.xs).t.take (isOf wk)).2[i]? = some z := ⟨_, List.getElem?_eq_getElem (by omega)⟩
            have hq2 := (hq5).some i (by omega)
            refine wl_y rfl (y_move rfl) ?_
            refine wl_y rfl (y_move rfl) ?_
            refine wl_y rfl (y_move rfl) ?_
            refine wl_y rfl (y_indexAddr Try.underlying49 T30 rfl rfl rfl (by omega) (by first | assumption | exact fun _ _ => rfl | exact fun w hw => hw.slc_isSome [] (by omega) | exact fun w hw => hw.slc_isSome [_] (by omega) | exact fun w hw => hw.slc_isSome [_, _] (by omega) | exact fun w hw => hw.slc_isSome [_, _, _] (by omega) | exact fun w hw => hw.slc_isSome [_, _, _, _] (by omega) | exact fun w hw => hw.slc_isSome [_, _, _, _, _] (by omega) | exact fun w hw => hw.slc_isSome [_, _, _, _, _, _] (by omega) | exact fun w hw => hw.slc_isSome [_, _, _, _, _, _, _] (by omega) | exact fun w hw => hw.slc_isSome [_, _, _, _, _, _, _, _] (by omega))) ?_
            refine wl_y rfl (y_loadAgg (l := encJ z) AG30 rfl rfl (by first | exact agg_own [] (fun i u h => rows_get encJ_len hz h) | exact agg_own [_] (fun i u h => rows_get encJ_len hz h) | exact agg_own [_, _] (fun i u h => rows_get encJ_len hz h) | exact agg_own [_, _, _] (fun i u h => rows_get encJ_len hz h) | exact agg_own [_, _, _, _] (fun i u h => rows_get encJ_len hz h) | exact agg_own [_, _, _, _, _] (fun i u h => rows_get encJ_len hz h) | exact agg_own [_, _, _, _, _, _] (fun i u h => rows_get encJ_len hz h) | exact agg_own [_, _, _, _, _, _, _] (fun i u h => rows_get encJ_len hz h) | exact agg_own [_, _, _, _, _, _, _, _] (fun i u h => rows_get encJ_len hz h))) ?_
            refine wl_c (fun _ _ => want_none) rfl (yc_spec (fst := []) (cap := []) _ FN40 (fpush_c b (({ (({ s with rows := mdel s.rows wk } : Sc).again sl.xs) with t := ((({ s with rows := mdel s.rows wk } : Sc).again sl.xs).t.take (isOf wk)).1 } : Sc).again (((({ s with rows := mdel s.rows wk } : Sc).again sl.xs).t.take (isOf wk)).2.take i)) z (hq2.mono (by omega))) rfl rfl rfl (by (repeat (first | exact pt_nil | apply pt0 | apply pt1 | apply pt2 | apply pt3 | apply pt4 | apply pt5 | apply pt6 | apply pt7 | apply pt8 | apply pt9 | apply pt10 | apply pt11 | apply pt12 | apply pt13 | apply pt14 | apply pt15 | apply pt16 | apply pt17))) (by (repeat (first | exact ro_nil | exact ro_rest (by assumption) | refine ro_cons (by first | exact .inl (by assumption) | exact ro_f0 (fun _ h => h) | exact ro_f0 (fun _ => slc_rsl) | exact ro_f1 (fun _ h => h) | exact ro_f1 (fun _ => slc_rsl) | exact ro_f2 (fun _ h => h) | exact ro_f2 (fun _ => slc_rsl) | exact ro_f3 (fun _ h => h) | exact ro_f3 (fun _ => slc_rsl) | exact ro_f4 (fun _ h => h) | exact ro_f4 (fun _ => slc_rsl) | exact ro_f5 (fun _ h => h) | exact ro_f5 (fun _ => slc_rsl) | exact ro_f6 (fun _ h => h) | exact ro_f6 (fun _ => slc_rsl)) ?_)))) (wl_ex fun x76 hx76 => ?_)
            refine wl_nil ?_
            refine wq_block_normal ?_
            refine wq_then ?_
            refine wc_region ?_
            refine wl_y rfl (y_move rfl) ?_
            refine wl_y rfl (y_add rfl rfl (by omega)) ?_
            refine wl_y rfl (y_assign rfl) ?_
            refine wl_nil ?_
            have e := again_next (s := ({ (({ s with rows := mdel s.rows wk } : Sc).again sl.xs) with t := ((({ s with rows := mdel s.rows wk } : Sc).again sl.xs).t.take (isOf wk)).1 } : Sc)) hz
            exact wq_round (i + 1) (by omega) (by omega) ⟨rfl, rfl, rfl, trivial⟩ (fun w hw => by rw [e]; exact hw.sub (by (repeat (first | exact pt_nil | apply pt0 | apply pt1 | apply pt2 | apply pt3 | apply pt4 | apply pt5 | apply pt6 | apply pt7 | apply pt8 | apply pt9 | apply pt10 | apply pt11 | apply pt12 | apply pt13 | apply pt14 | apply pt15 | apply pt16 | apply pt17))))
          ·
            simp at hc68
            refine wc_exit ?_
            refine wq_then_exit (wq_then_exit (wq_block_exit ?_))
            refine wq_then ?_
            refine wc_seq ?_
            refine wc_region ?_
            refine wl_y rfl (y_assign rfl) ?_
            refine wl_nil ?_
            refine wq_then ?_
            refine wc_ret ?_
            refine wq_ret1 rfl rfl (fun w hw => ?_)
            obtain rfl : i = ((({ s with rows := mdel s.rows wk } : Sc).again sl.xs).t.take (isOf wk)).2.length := by omega
            rw [List.take_length] at hw
            have e : s.leave wk = ((({ s with rows := mdel s.rows wk } : Sc).again sl.xs).back (isOf wk), 0) := by rw [Sc.leave, hx.get hI.keyed hp]
            rw [e]; exact ⟨(), trivial, rfl, hw.sub (by (repeat (first | exact pt_nil | apply pt0 | apply pt1 | apply pt2 | apply pt3 | apply pt4 | apply pt5 | apply pt6 | apply pt7 | apply pt8 | apply pt9 | apply pt10 | apply pt11 | apply pt12 | apply pt13 | apply pt14 | apply pt15 | apply pt16 | apply pt17)))⟩

end Go.Proofs.Ytfnpjmlpiedgdaa
