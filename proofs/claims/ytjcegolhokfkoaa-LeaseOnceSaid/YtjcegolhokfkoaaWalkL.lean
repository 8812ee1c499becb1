/-
  Walks: the reference's leases are finished.
-/
import Derived.Test.YtjcegolhokfkoaaWalkK
namespace Go.Proofs.Ytjcegolhokfkoaa
open Go.Eng

set_option maxHeartbeats 1000000 in
theorem rfinish_c (b : Nat) (r : Rt) (key : Str) (epoch : Int) (hr : r.ok) :
    Ctr Try.prog 17 #[ptr b, vS key, vI epoch] [] [rtA b r] (fun _ : Unit => True) (fun _ => vI (r.finish key epoch).2) (fun _ => [rtA b (r.finish key epoch).1]) := by
  refine spec_start (n := 48) [(0, ptr b), (1, vS key), (2, vI epoch)] Try.func17 rfl rfl ⟨rfl, rfl, rfl, trivial⟩ rfl ?_
  intro w0 K hR
  obtain ⟨h1, h2, h3, h4, h5⟩ := id hr
  refine wc_ex rt_open (fun oc => ?_)
  refine wc_seq ?_
  refine wc_region ?_
  refine wl_y rfl (y_assign rfl) ?_
  refine wl_nil ?_
  refine wq_then ?_
  refine wc_seq ?_
  refine wc_region ?_
  refine wl_y rfl (y_move rfl) ?_
  refine wl_y rfl (y_move rfl) ?_
  refine wl_q (fun _ _ => want_none) rfl (yq_spec (fst := []) (cap := []) _ FN32 (at_c b r oc key h5) rfl rfl rfl (by (repeat (first | exact pt_nil | apply pt0 | apply pt1 | apply pt2 | apply pt3 | apply pt4 | apply pt5 | apply pt6 | apply pt7 | apply pt8 | apply pt9 | apply pt10 | apply pt11 | apply pt12 | apply pt13 | apply pt14 | apply pt15 | apply pt16 | apply pt17))) (by (repeat (first | exact ro_nil | exact ro_rest (by assumption) | refine ro_cons (by first | exact .inl (by assumption) | exact ro_f0 (fun _ h => h) | exact ro_f0 (fun _ => slc_rsl) | exact ro_f1 (fun _ h => h) | exact ro_f1 (fun _ => slc_rsl) | exact ro_f2 (fun _ h => h) | exact ro_f2 (fun _ => slc_rsl) | exact ro_f3 (fun _ h => h) | exact ro_f3 (fun _ => slc_rsl) | exact ro_f4 (fun _ h => h) | exact ro_f4 (fun _ => slc_rsl) | exact ro_f5 (fun _ h => h) | exact ro_f5 (fun _ => slc_rsl) | exact ro_f6 (fun _ h => h) | exact ro_f6 (fun _ => slc_rsl)) ?_))) (fun _ _ => rfl) (fun _ _ _ h => h.sub (by (repeat (first | exact pt_nil | apply pt0 | apply pt1 | apply pt2 | apply pt3 | apply pt4 | apply pt5 | apply pt6 | apply pt7 | apply pt8 | apply pt9 | apply pt10 | apply pt11 | apply pt12 | apply pt13 | apply pt14 | apply pt15 | apply pt16 | apply pt17))))) ?_
  refine wl_y rfl (y_move rfl) ?_
  refine wl_y rfl (y_extract rfl rfl) ?_
  refine wl_y rfl (y_extract rfl rfl) ?_
  refine wl_y rfl (y_assign rfl) ?_
  refine wl_y rfl (y_assign rfl) ?_
  refine wl_nil ?_
  refine wq_then ?_
  refine wc_seq ?_
  refine wc_seq ?_
  refine wc_region ?_
  refine wl_y rfl (y_move rfl) ?_
  refine wl_y rfl (y_not rfl) ?_
  refine wl_nil ?_
  refine wq_then ?_
  refine wc_cond rfl (fun hc17 => ?_) (fun hc17 => ?_)
  ·
    simp at hc17
    refine wc_seq ?_
    refine wc_region ?_
    refine wl_y rfl (y_assign rfl) ?_
    refine wl_nil ?_
    refine wq_then ?_
    refine wc_ret ?_
    refine wq_then_ret ?_
    refine wq_ret1 rfl rfl (fun w hw => ?_)
    have e : r.finish key epoch = (r, 17) := by simp only [Rt.finish, hc17, Bool.false_eq_true, if_false]
    rw [e]; exact ⟨(), trivial, rfl, rt_shut oc (hw.sub (by (repeat (first | exact pt_nil | apply pt0 | apply pt1 | apply pt2 | apply pt3 | apply pt4 | apply pt5 | apply pt6 | apply pt7 | apply pt8 | apply pt9 | apply pt10 | apply pt11 | apply pt12 | apply pt13 | apply pt14 | apply pt15 | apply pt16 | apply pt17))))⟩
  ·
    simp at hc17
    obtain ⟨x, hx, hxk⟩ := has_get hc17
    have hgx : r.get key = x := by simp [Rt.get, hx]
    have hil := (List.getElem?_eq_some_iff.1 hx).1
    refine wc_ex (S' := fun (_ : Unit) w => Hp w0 K (rtAs b r oc) w) (fun w hw => ⟨(), hw.sub (by (repeat (first | exact pt_nil | apply pt0 | apply pt1 | apply pt2 | apply pt3 | apply pt4 | apply pt5 | apply pt6 | apply pt7 | apply pt8 | apply pt9 | apply pt10 | apply pt11 | apply pt12 | apply pt13 | apply pt14 | apply pt15 | apply pt16 | apply pt17)))⟩) (fun _ => ?_)
    refine wc_skip ?_
    refine wq_then ?_
    refine wc_seq ?_
    refine wc_seq ?_
    refine wc_region ?_
    refine wl_y rfl (y_move rfl) ?_
    refine wl_y rfl (y_nilCheck rfl) ?_
    refine wl_y rfl (y_fieldAddr F50_0 rfl) ?_
    refine wl_y rfl (y_load NA36 rfl (by first | exact cell_blk [] rfl | exact cell_blk [_] rfl | exact cell_blk [_, _] rfl | exact cell_blk [_, _, _] rfl | exact cell_blk [_, _, _, _] rfl | exact cellR_blk (by assumption) rfl)) ?_
    refine wl_y rfl (y_move rfl) ?_
    refine wl_y rfl (y_indexAddr Try.underlying36 T30 rfl rfl rfl (by omega) (by first | assumption | exact fun _ _ => rfl | exact fun w hw => hw.slc_isSome [] (by omega) | exact fun w hw => hw.slc_isSome [_] (by omega) | exact fun w hw => hw.slc_isSome [_, _] (by omega) | exact fun w hw => hw.slc_isSome [_, _, _] (by omega) | exact fun w hw => hw.slc_isSome [_, _, _, _] (by omega))) ?_
    refine wl_y rfl (y_fieldAddr_adr F30_2 rfl) ?_
    refine wl_y rfl (y_load NA3 rfl (by first | exact cell_own [] (rows_get encL_len hx rfl) | exact cell_own [_] (rows_get encL_len hx rfl) | exact cell_own [_, _] (rows_get encL_len hx rfl) | exact cell_own [_, _, _] (rows_get encL_len hx rfl) | exact cell_own [_, _, _, _] (rows_get encL_len hx rfl))) ?_
    refine wl_y rfl (y_move rfl) ?_
    refine wl_y rfl (y_neqI rfl rfl) ?_
    refine wl_nil ?_
    refine wq_then ?_
    refine wc_cond rfl (fun hc27 => ?_) (fun hc27 => ?_)
    ·
      simp at hc27
      refine wc_seq ?_
      refine wc_region ?_
      refine wl_y rfl (y_assign rfl) ?_
      refine wl_nil ?_
      refine wq_then ?_
      refine wc_ret ?_
      refine wq_then_ret ?_
      refine wq_ret1 rfl rfl (fun w hw => ?_)
      have e : r.finish key epoch = (r, 44) := by simp only [Rt.finish, hc17, if_true, hgx]; rw [if_neg hc27]
      rw [e]; exact ⟨(), trivial, rfl, rt_shut oc (hw.sub (by (repeat (first | exact pt_nil | apply pt0 | apply pt1 | apply pt2 | apply pt3 | apply pt4 | apply pt5 | apply pt6 | apply pt7 | apply pt8 | apply pt9 | apply pt10 | apply pt11 | apply pt12 | apply pt13 | apply pt14 | apply pt15 | apply pt16 | apply pt17))))⟩
    ·
      simp at hc27
      refine wc_skip ?_
      refine wq_then ?_
      refine wc_seq ?_
      refine wc_region ?_
      refine wl_y rfl (y_assign rfl) ?_
      refine wl_nil ?_
      refine wq_then ?_
      refine wc_seq ?_
      refine wc_region ?_
      refine wl_have (p := r.l.length ≤ oc.2) (fun w hw => hw.slc_le [_]) (fun hcap => ?_)
      refine wl_world (fun w hw => Hp.addNil (e := 30) (sz := 6) [] _ hw) ?_
      refine wl_y rfl (y_move rfl) ?_
      refine wl_y rfl (y_move rfl) ?_
      refine wl_y rfl (y_nilCheck rfl) ?_
      refine wl_y rfl (y_fieldAddr F50_0 rfl) ?_
      refine wl_y rfl (y_load NA36 rfl (by first | exact cell_blk [] rfl | exact cell_blk [_] rfl | exact cell_blk [_, _] rfl | exact cell_blk [_, _, _] rfl | exact cell_blk [_, _, _, _] rfl | exact cellR_blk (by assumption) rfl)) ?_
      refine wl_y rfl (y_move rfl) ?_
      refine wl_y rfl (y_sliceSl (i := 0) (j := r.at key) Try.underlying36 T30 rfl rfl ⟨_, rfl, rfl⟩ (by omega) (by omega)) ?_
      refine wl_w (fun _ _ => want_none) rfl (yw_append [] Try.underlying36 Try.underlying36 (.inl ⟨_, rfl⟩) T30 rfl rfl rfl (fun w hw => Src.slice ((hw.seen [_, _]).mono fun _ h => slc_rsl (slc_take (r.at key) h (by omega)))) (by omega) (by unfold maxLen; omega) (one_take (one_rows encL_one)) (by simp [rows_length encL_len]; omega)) (wl_ex fun p35 hp35 => ?_)
      refine wl_y rfl (y_assign rfl) ?_
      refine wl_nil ?_
      refine wq_then ?_
      refine wc_seq ?_
      refine wc_region ?_
      refine wl_y rfl (y_move rfl) ?_
      refine wl_y rfl (y_move rfl) ?_
      refine wl_y rfl (y_move rfl) ?_
      refine wl_y rfl (y_nilCheck rfl) ?_
      refine wl_y rfl (y_fieldAddr F50_0 rfl) ?_
      refine wl_y rfl (y_load NA36 rfl (by first | exact cell_blk [] rfl | exact cell_blk [_] rfl | exact cell_blk [_, _] rfl | exact cell_blk [_, _, _] rfl | exact cell_blk [_, _, _, _] rfl | exact cellR_blk (by assumption) rfl)) ?_
      refine wl_y rfl (y_move rfl) ?_
      refine wl_y rfl (y_add rfl rfl (by omega)) ?_
      refine wl_y rfl (y_sliceSl (i := r.at key + 1) (j := r.l.length) Try.underlying36 T30 rfl ⟨_, rfl, by omega⟩ rfl (by omega) (by omega)) ?_
      refine wl_w (fun _ _ => want_none) rfl (yw_append [] Try.underlying36 Try.underlying36 (.inl ⟨_, rfl⟩) T30 rfl rfl rfl (fun w hw => Src.slice ((hw.seen [_, _]).mono fun _ h => slc_rsl (slc_cut (r.at key + 1) h (by omega)))) (by omega) (by unfold maxLen; omega) (one_drop (one_rows encL_one)) (by simp [rows_length encL_len]; omega)) (wl_ex fun p45 hp45 => ?_)
      refine wl_y rfl (y_nilCheck rfl) ?_
      refine wl_y rfl (y_fieldAddr F50_0 rfl) ?_
      first | refine wl_u (yu_store [] (l' := [_, _, _]) T36 rfl rfl rfl rfl rfl rfl rfl) ?_ | refine wl_u (yu_store [_] (l' := [_, _, _]) T36 rfl rfl rfl rfl rfl rfl rfl) ?_ | refine wl_u (yu_store [_, _] (l' := [_, _, _]) T36 rfl rfl rfl rfl rfl rfl rfl) ?_ | refine wl_u (yu_store [_, _, _] (l' := [_, _, _]) T36 rfl rfl rfl rfl rfl rfl rfl) ?_ | refine wl_u (yu_store [_, _, _, _] (l' := [_, _, _]) T36 rfl rfl rfl rfl rfl rfl rfl) ?_
      refine wl_nil ?_
      refine wq_then ?_
      refine wc_seq ?_
      refine wc_region ?_
      refine wl_y rfl (y_assign rfl) ?_
      refine wl_nil ?_
      refine wq_then ?_
      refine wc_ret ?_
      refine wq_ret1 rfl rfl (fun w hw => ?_)
      have e : r.finish key epoch = ({ r with l := r.l.eraseIdx (r.at key) }, 0) := by simp only [Rt.finish, hc17, if_true, hgx]; rw [if_pos hc27]
      have e1 : (r.l.eraseIdx (r.at key)).length = 0 + (r.at key - 0) + (r.l.length - (r.at key + 1)) := by rw [List.length_eraseIdx_of_lt hil]; omega
      have e2 : (r.l.eraseIdx (r.at key)).flatMap encL = [] ++ (r.l.flatMap encL).take (r.at key * 6) ++ (r.l.flatMap encL).drop ((r.at key + 1) * 6) := by rw [rows_take encL_len _ (by omega), rows_drop encL_len _ (by omega), List.eraseIdx_eq_take_drop_succ, List.flatMap_append]; rfl
      rw [e]; exact ⟨(), trivial, rfl, rt_shut p45 (by simp only [rtAs, rtCells]; rw [e1, e2]; exact hw.sub (by (repeat (first | exact pt_nil | apply pt0 | apply pt1 | apply pt2 | apply pt3 | apply pt4 | apply pt5 | apply pt6 | apply pt7 | apply pt8 | apply pt9 | apply pt10 | apply pt11 | apply pt12 | apply pt13 | apply pt14 | apply pt15 | apply pt16 | apply pt17))))⟩

end Go.Proofs.Ytjcegolhokfkoaa
