/-
  Walks: the reference's files are dropped.
-/
import Derived.Test.YtdeellflcphkaaaWalkK
namespace Go.Proofs.Ytdeellflcphkaaa
open Go.Eng

def Rk.drop (r : Rk) (s : Str) : Rk := if r.has s = true then { r with l := r.l.eraseIdx (r.at s) } else r
set_option maxHeartbeats 1000000 in
theorem rdrop_c (b : Nat) (r : Rk) (oc : Option Addr × Nat) (s : Str) (h5 : r.l.length ≤ 1000) :
    Ctr Try.prog 43 #[ptr b, vS s] [] (rkAs b r oc) (fun _ : Option Addr × Nat => True) (fun _ => .tuple #[]) (fun x => rkAs b (r.drop s) x) := by
  refine spec_start (n := 34) [(0, ptr b), (1, vS s)] Try.func43 rfl rfl ⟨rfl, rfl, trivial⟩ rfl ?_
  intro w0 K hR
  refine wc_seq ?_
  refine wc_region ?_
  refine wl_y rfl (y_move rfl) ?_
  refine wl_y rfl (y_move rfl) ?_
  refine wl_q (fun _ _ => want_none) rfl (yq_spec (fst := []) (cap := []) _ FN40 (rat_c b r oc s h5) rfl rfl rfl (by (repeat (first | exact pt_nil | apply pt0 | apply pt1 | apply pt2 | apply pt3 | apply pt4 | apply pt5 | apply pt6 | apply pt7 | apply pt8 | apply pt9 | apply pt10 | apply pt11 | apply pt12 | apply pt13 | apply pt14 | apply pt15 | apply pt16 | apply pt17))) (by (repeat (first | exact ro_nil | exact ro_rest (by assumption) | refine ro_cons (by first | exact .inl (by assumption) | exact ro_f0 (fun _ h => h) | exact ro_f0 (fun _ => slc_rsl) | exact ro_f1 (fun _ h => h) | exact ro_f1 (fun _ => slc_rsl) | exact ro_f2 (fun _ h => h) | exact ro_f2 (fun _ => slc_rsl) | exact ro_f3 (fun _ h => h) | exact ro_f3 (fun _ => slc_rsl) | exact ro_f4 (fun _ h => h) | exact ro_f4 (fun _ => slc_rsl) | exact ro_f5 (fun _ h => h) | exact ro_f5 (fun _ => slc_rsl) | exact ro_f6 (fun _ h => h) | exact ro_f6 (fun _ => slc_rsl)) ?_))) (fun _ _ => rfl) (fun _ _ _ h => h.sub (by (repeat (first | exact pt_nil | apply pt0 | apply pt1 | apply pt2 | apply pt3 | apply pt4 | apply pt5 | apply pt6 | apply pt7 | apply pt8 | apply pt9 | apply pt10 | apply pt11 | apply pt12 | apply pt13 | apply pt14 | apply pt15 | apply pt16 | apply pt17))))) ?_
  refine wl_y rfl (y_move rfl) ?_
  refine wl_y rfl (y_extract rfl rfl) ?_
  refine wl_y rfl (y_extract rfl rfl) ?_
  refine wl_y rfl (y_assign rfl) ?_
  refine wl_y rfl (y_assign rfl) ?_
  refine wl_nil ?_
  refine wq_then ?_
  refine wc_seq ?_
  refine wc_region ?_
  refine wl_y rfl (y_move rfl) ?_
  refine wl_nil ?_
  refine wq_then ?_
  refine wc_cond rfl (fun hc13 => ?_) (fun hc13 => ?_)
  ·
    obtain ⟨x, hx, hxk⟩ := has_get hc13
    have hgx : r.get s = x := by simp [Rk.get, hx]
    have hil := (List.getElem?_eq_some_iff.1 hx).1
    refine wc_seq ?_
    refine wc_region ?_
    refine wl_y rfl (y_assign rfl) ?_
    refine wl_nil ?_
    refine wq_then ?_
    refine wc_seq ?_
    refine wc_region ?_
    refine wl_have (p := r.l.length ≤ oc.2) (fun w hw => hw.slc_le [_]) (fun hcap => ?_)
    refine wl_world (fun w hw => Hp.addNil (e := 71) (sz := 3) [] _ hw) ?_
    refine wl_y rfl (y_move rfl) ?_
    refine wl_y rfl (y_move rfl) ?_
    refine wl_y rfl (y_nilCheck rfl) ?_
    refine wl_y rfl (y_fieldAddr F69_0 rfl) ?_
    refine wl_y rfl (y_load NA67 rfl (by first | exact cell_blk [] rfl | exact cell_blk [_] rfl | exact cell_blk [_, _] rfl | exact cell_blk [_, _, _] rfl | exact cell_blk [_, _, _, _] rfl | exact cell_blk [_, _, _, _, _] rfl | exact cellR_blk (by assumption) rfl)) ?_
    refine wl_y rfl (y_move rfl) ?_
    refine wl_y rfl (y_sliceSl (i := 0) (j := r.at s) Try.underlying67 T71 rfl rfl ⟨_, rfl, rfl⟩ (by omega) (by omega)) ?_
    refine wl_w (fun _ _ => want_none) rfl (yw_append [] Try.underlying67 Try.underlying67 (.inl ⟨_, rfl⟩) T71 rfl rfl rfl (fun w hw => Src.slice ((hw.seen [_, _]).mono fun _ h => slc_rsl (slc_take (r.at s) h (by omega)))) (by omega) (by unfold maxLen; omega) (one_take (one_rows encG_one)) (by simp [rows_length encG_len]; omega)) (wl_ex fun p21 hp21 => ?_)
    refine wl_y rfl (y_assign rfl) ?_
    refine wl_nil ?_
    refine wq_then ?_
    refine wc_region ?_
    refine wl_y rfl (y_move rfl) ?_
    refine wl_y rfl (y_move rfl) ?_
    refine wl_y rfl (y_move rfl) ?_
    refine wl_y rfl (y_nilCheck rfl) ?_
    refine wl_y rfl (y_fieldAddr F69_0 rfl) ?_
    refine wl_y rfl (y_load NA67 rfl (by first | exact cell_blk [] rfl | exact cell_blk [_] rfl | exact cell_blk [_, _] rfl | exact cell_blk [_, _, _] rfl | exact cell_blk [_, _, _, _] rfl | exact cell_blk [_, _, _, _, _] rfl | exact cellR_blk (by assumption) rfl)) ?_
    refine wl_y rfl (y_move rfl) ?_
    refine wl_y rfl (y_add rfl rfl (by omega)) ?_
    refine wl_y rfl (y_sliceSl (i := r.at s + 1) (j := r.l.length) Try.underlying67 T71 rfl ⟨_, rfl, by omega⟩ rfl (by omega) (by omega)) ?_
    refine wl_w (fun _ _ => want_none) rfl (yw_append [] Try.underlying67 Try.underlying67 (.inl ⟨_, rfl⟩) T71 rfl rfl rfl (fun w hw => Src.slice ((hw.seen [_, _]).mono fun _ h => slc_rsl (slc_cut (r.at s + 1) h (by omega)))) (by omega) (by unfold maxLen; omega) (one_drop (one_rows encG_one)) (by simp [rows_length encG_len]; omega)) (wl_ex fun p31 hp31 => ?_)
    refine wl_y rfl (y_nilCheck rfl) ?_
    refine wl_y rfl (y_fieldAddr F69_0 rfl) ?_
    first | refine wl_u (yu_store [] (l' := [_, _, _, _]) T67 rfl rfl rfl rfl rfl rfl rfl) ?_ | refine wl_u (yu_store [_] (l' := [_, _, _, _]) T67 rfl rfl rfl rfl rfl rfl rfl) ?_ | refine wl_u (yu_store [_, _] (l' := [_, _, _, _]) T67 rfl rfl rfl rfl rfl rfl rfl) ?_ | refine wl_u (yu_store [_, _, _] (l' := [_, _, _, _]) T67 rfl rfl rfl rfl rfl rfl rfl) ?_ | refine wl_u (yu_store [_, _, _, _] (l' := [_, _, _, _]) T67 rfl rfl rfl rfl rfl rfl rfl) ?_ | refine wl_u (yu_store [_, _, _, _, _] (l' := [_, _, _, _]) T67 rfl rfl rfl rfl rfl rfl rfl) ?_
    refine wl_nil ?_
    refine wq_end0 rfl (fun w hw => ?_)
    have e : r.drop s = { r with l := r.l.eraseIdx (r.at s) } := if_pos hc13
    have e1 : (r.l.eraseIdx (r.at s)).length = 0 + (r.at s - 0) + (r.l.length - (r.at s + 1)) := by rw [List.length_eraseIdx_of_lt hil]; omega
    have e2 : (r.l.eraseIdx (r.at s)).flatMap encG = [] ++ (r.l.flatMap encG).take (r.at s * 3) ++ (r.l.flatMap encG).drop ((r.at s + 1) * 3) := by rw [rows_take encG_len _ (by omega), rows_drop encG_len _ (by omega), List.eraseIdx_eq_take_drop_succ, List.flatMap_append]; rfl
    exact ⟨p31, trivial, rfl, by rw [e]; simp only [rkAs, rkCells]; rw [e1, e2]; exact hw.sub (by (repeat (first | exact pt_nil | apply pt0 | apply pt1 | apply pt2 | apply pt3 | apply pt4 | apply pt5 | apply pt6 | apply pt7 | apply pt8 | apply pt9 | apply pt10 | apply pt11 | apply pt12 | apply pt13 | apply pt14 | apply pt15 | apply pt16 | apply pt17)))⟩
  ·
    refine wc_skip ?_
    refine wq_end0 rfl (fun w hw => ?_)
    exact ⟨oc, trivial, rfl, by rw [Rk.drop, hc13, if_neg (by decide)]; exact hw.sub (by (repeat (first | exact pt_nil | apply pt0 | apply pt1 | apply pt2 | apply pt3 | apply pt4 | apply pt5 | apply pt6 | apply pt7 | apply pt8 | apply pt9 | apply pt10 | apply pt11 | apply pt12 | apply pt13 | apply pt14 | apply pt15 | apply pt16 | apply pt17)))⟩

end Go.Proofs.Ytdeellflcphkaaa
