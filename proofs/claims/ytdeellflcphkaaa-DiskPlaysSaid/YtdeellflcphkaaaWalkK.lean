/-
  Walks: the reference's files are read, and set.
-/
import Derived.Test.YtdeellflcphkaaaWalkJ
namespace Go.Proofs.Ytdeellflcphkaaa
open Go.Eng

def Rk.get (r : Rk) (s : Str) : Gf := (r.l[r.at s]?).getD noG
def Rk.read (r : Rk) (s : Str) : Str × Int := if r.wrong s = 0 then (if r.has s = true then ((r.get s).data, 0) else ([], 17)) else ([], r.wrong s)
/-- Where the rest begins behind a file that is put in its place. -/
def Rk.past (r : Rk) (s : Str) : Nat := if r.has s = true then r.at s + 1 else r.at s
theorem past_le (r : Rk) (s : Str) : r.past s ≤ r.l.length := by
  unfold Rk.past
  split
  · rename_i h
    obtain ⟨x, hx, _⟩ := has_get h
    have := (List.getElem?_eq_some_iff.1 hx).1
    omega
  · exact at_le r s
def Rk.set (r : Rk) (f : Gf) : Rk := { r with l := r.l.take (r.at f.name) ++ [f] ++ r.l.drop (r.past f.name) }
set_option maxHeartbeats 1000000 in
theorem rread_c (b : Nat) (r : Rk) (s : Str) (h5 : r.l.length ≤ 1000) :
    Ctr Try.prog 27 #[ptr b, vS s] [] [rkA b r] (fun _ : Unit => True) (fun _ => .tuple #[vS (r.read s).1, vI (r.read s).2]) (fun _ => [rkA b r]) := by
  refine spec_start (n := 31) [(0, ptr b), (1, vS s)] Try.func27 rfl rfl ⟨rfl, rfl, trivial⟩ rfl ?_
  intro w0 K hR
  refine wc_ex rk_open (fun oc => ?_)
  refine wc_seq ?_
  refine wc_region ?_
  refine wl_y rfl (y_assign rfl) ?_
  refine wl_y rfl (y_assign rfl) ?_
  refine wl_nil ?_
  refine wq_then ?_
  refine wc_seq ?_
  refine wc_region ?_
  refine wl_y rfl (y_move rfl) ?_
  refine wl_y rfl (y_move rfl) ?_
  refine wl_q (fun _ _ => want_none) rfl (yq_spec (fst := []) (cap := []) _ FN39 (rwrong_c b r oc s) rfl rfl rfl (by (repeat (first | exact pt_nil | apply pt0 | apply pt1 | apply pt2 | apply pt3 | apply pt4 | apply pt5 | apply pt6 | apply pt7 | apply pt8 | apply pt9 | apply pt10 | apply pt11 | apply pt12 | apply pt13 | apply pt14 | apply pt15 | apply pt16 | apply pt17))) (by (repeat (first | exact ro_nil | exact ro_rest (by assumption) | refine ro_cons (by first | exact .inl (by assumption) | exact ro_f0 (fun _ h => h) | exact ro_f0 (fun _ => slc_rsl) | exact ro_f1 (fun _ h => h) | exact ro_f1 (fun _ => slc_rsl) | exact ro_f2 (fun _ h => h) | exact ro_f2 (fun _ => slc_rsl) | exact ro_f3 (fun _ h => h) | exact ro_f3 (fun _ => slc_rsl) | exact ro_f4 (fun _ h => h) | exact ro_f4 (fun _ => slc_rsl) | exact ro_f5 (fun _ h => h) | exact ro_f5 (fun _ => slc_rsl) | exact ro_f6 (fun _ h => h) | exact ro_f6 (fun _ => slc_rsl)) ?_))) (fun _ _ => rfl) (fun _ _ _ h => h.sub (by (repeat (first | exact pt_nil | apply pt0 | apply pt1 | apply pt2 | apply pt3 | apply pt4 | apply pt5 | apply pt6 | apply pt7 | apply pt8 | apply pt9 | apply pt10 | apply pt11 | apply pt12 | apply pt13 | apply pt14 | apply pt15 | apply pt16 | apply pt17))))) ?_
  refine wl_y rfl (y_assign rfl) ?_
  refine wl_nil ?_
  refine wq_then ?_
  refine wc_seq ?_
  refine wc_seq ?_
  refine wc_region ?_
  refine wl_y rfl (y_move rfl) ?_
  refine wl_y rfl (y_neqI rfl rfl) ?_
  refine wl_nil ?_
  refine wq_then ?_
  refine wc_cond rfl (fun hc13 => ?_) (fun hc13 => ?_)
  ·
    simp at hc13
    refine wc_seq ?_
    refine wc_region ?_
    refine wl_y rfl (y_move rfl) ?_
    refine wl_y rfl (y_assign rfl) ?_
    refine wl_y rfl (y_assign rfl) ?_
    refine wl_nil ?_
    refine wq_then ?_
    refine wc_ret ?_
    refine wq_then_ret ?_
    refine wq_ret2 rfl rfl rfl (fun w hw => ?_)
    exact ⟨(), trivial, by simp only [Rk.read, if_neg hc13], rk_shut oc hw⟩
  ·
    simp at hc13
    refine wc_skip ?_
    refine wq_then ?_
    refine wc_seq ?_
    refine wc_region ?_
    refine wl_y rfl (y_move rfl) ?_
    refine wl_y rfl (y_move rfl) ?_
    refine wl_q (fun _ _ => want_none) rfl (yq_spec (fst := []) (cap := []) _ FN40 (rat_c b r oc s h5) rfl rfl rfl (by (repeat (first | exact pt_nil | apply pt0 | apply pt1 | apply pt2 | apply pt3 | apply pt4 | apply pt5 | apply pt6 | apply pt7 | apply pt8 | apply pt9 | apply pt10 | apply pt11 | apply pt12 | apply pt13 | apply pt14 | apply pt15 | apply pt16 | apply pt17))) (by (repeat (first | exact ro_nil | exact ro_rest (by assumption) | refine ro_cons (by first | exact .inl (by assumption) | exact ro_f0 (fun _ h => h) | exact ro_f0 (fun _ => slc_rsl) | exact ro_f1 (fun _ h => h) | exact ro_f1 (fun _ => slc_rsl) | exact ro_f2 (fun _ h => h) | exact ro_f2 (fun _ => slc_rsl) | exact ro_f3 (fun _ h => h) | exact ro_f3 (fun _ => slc_rsl) | exact ro_f4 (fun _ h => h) | exact ro_f4 (fun _ => slc_rsl) | exact ro_f5 (fun _ h => h) | exact ro_f5 (fun _ => slc_rsl) | exact ro_f6 (fun _ h => h) | exact ro_f6 (fun _ => slc_rsl)) ?_))) (fun _ _ => rfl) (fun _ _ _ h => h.sub (by (repeat (first | exact pt_nil | apply pt0 | apply pt1 | apply pt2 | apply pt3 | apply pt4 | apply pt5 | apply pt6 | apply pt7 | apply pt8 | apply pt9 | apply pt10 | apply pt11 | apply pt12 | apply pt13 | apply pt14 | apply pt15 | apply pt16 | apply pt17))))) ?_
    refine wl_y rfl (y_move rfl) ?_
    refine wl_y rfl (y_extract rfl rfl) ?_
    refine wl_y rfl (y_extract rfl rfl) ?_
    refine wl_y rfl (y_assign rfl) ?_
    refine wl_y rfl (y_assign rfl) ?_
    refine wl_nil ?_
    refine wq_then ?_
    refine wc_seq ?_
    refine wc_seq ?_
    refine wc_region ?_
    refine wl_y rfl (y_move rfl) ?_
    refine wl_y rfl (y_not rfl) ?_
    refine wl_nil ?_
    refine wq_then ?_
    refine wc_cond rfl (fun hc22 => ?_) (fun hc22 => ?_)
    ·
      simp at hc22
      refine wc_seq ?_
      refine wc_region ?_
      refine wl_y rfl (y_assign rfl) ?_
      refine wl_y rfl (y_assign rfl) ?_
      refine wl_nil ?_
      refine wq_then ?_
      refine wc_ret ?_
      refine wq_then_ret ?_
      refine wq_ret2 rfl rfl rfl (fun w hw => ?_)
      exact ⟨(), trivial, by simp only [Rk.read, if_pos hc13, hc22, Bool.false_eq_true, if_false], rk_shut oc hw⟩
    ·
      simp at hc22
      obtain ⟨x, hx, hxk⟩ := has_get hc22
      have hgx : r.get s = x := by simp [Rk.get, hx]
      have hil := (List.getElem?_eq_some_iff.1 hx).1
      refine wc_skip ?_
      refine wq_then ?_
      refine wc_seq ?_
      refine wc_region ?_
      refine wl_y rfl (y_move rfl) ?_
      refine wl_y rfl (y_nilCheck rfl) ?_
      refine wl_y rfl (y_fieldAddr F69_0 rfl) ?_
      refine wl_y rfl (y_load NA67 rfl (by first | exact cell_blk [] rfl | exact cell_blk [_] rfl | exact cell_blk [_, _] rfl | exact cell_blk [_, _, _] rfl | exact cell_blk [_, _, _, _] rfl | exact cellR_blk (by assumption) rfl)) ?_
      refine wl_y rfl (y_move rfl) ?_
      refine wl_y rfl (y_indexAddr Try.underlying67 T71 rfl rfl rfl (by omega) (by first | assumption | exact fun _ _ => rfl | exact fun w hw => hw.slc_isSome [] (by omega) | exact fun w hw => hw.slc_isSome [_] (by omega) | exact fun w hw => hw.slc_isSome [_, _] (by omega) | exact fun w hw => hw.slc_isSome [_, _, _] (by omega) | exact fun w hw => hw.slc_isSome [_, _, _, _] (by omega))) ?_
      refine wl_y rfl (y_fieldAddr_adr F71_1 rfl) ?_
      refine wl_y rfl (y_load NA9 rfl (by first | exact cell_own [] (rows_get encG_len hx rfl) | exact cell_own [_] (rows_get encG_len hx rfl) | exact cell_own [_, _] (rows_get encG_len hx rfl) | exact cell_own [_, _, _] (rows_get encG_len hx rfl) | exact cell_own [_, _, _, _] (rows_get encG_len hx rfl))) ?_
      refine wl_y rfl (y_assign rfl) ?_
      refine wl_y rfl (y_assign rfl) ?_
      refine wl_nil ?_
      refine wq_then ?_
      refine wc_ret ?_
      refine wq_ret2 rfl rfl rfl (fun w hw => ?_)
      exact ⟨(), trivial, by simp only [Rk.read, if_pos hc13, hc22, if_true, hgx], rk_shut oc hw⟩

set_option maxHeartbeats 1000000 in
theorem rset_c (b : Nat) (r : Rk) (oc : Option Addr × Nat) (f : Gf) (h5 : r.l.length ≤ 1000) :
    Ctr Try.prog 42 #[ptr b, agG f] [] (rkAs b r oc) (fun _ : Option Addr × Nat => True) (fun _ => .tuple #[]) (fun x => rkAs b (r.set f) x) := by
  refine spec_start (n := 40) [(0, ptr b), (1, agG f)] Try.func42 rfl rfl ⟨rfl, rfl, trivial⟩ rfl ?_
  intro w0 K hR
  refine wc_seq ?_
  refine wc_region ?_
  refine wl_w (fun _ _ => want_none) rfl (yw_box rfl rfl) (wl_ex fun b3 _ => ?_)
  refine wl_nil ?_
  refine wq_then ?_
  refine wc_seq ?_
  refine wc_region ?_
  refine wl_y rfl (y_move rfl) ?_
  refine wl_y rfl (y_fieldAddr F71_0 rfl) ?_
  refine wl_y rfl (y_load NA9 rfl (by first | exact cell_blk [] rfl | exact cell_blk [_] rfl | exact cell_blk [_, _] rfl | exact cell_blk [_, _, _] rfl | exact cell_blk [_, _, _, _] rfl | exact cell_blk [_, _, _, _, _] rfl | exact cellR_blk (by assumption) rfl)) ?_
  refine wl_q (fun _ _ => want_none) rfl (yq_spec (fst := []) (cap := []) _ FN40 (rat_c b r oc f.name h5) rfl rfl rfl (by (repeat (first | exact pt_nil | apply pt0 | apply pt1 | apply pt2 | apply pt3 | apply pt4 | apply pt5 | apply pt6 | apply pt7 | apply pt8 | apply pt9 | apply pt10 | apply pt11 | apply pt12 | apply pt13 | apply pt14 | apply pt15 | apply pt16 | apply pt17))) (by (repeat (first | exact ro_nil | exact ro_rest (by assumption) | refine ro_cons (by first | exact .inl (by assumption) | exact ro_f0 (fun _ h => h) | exact ro_f0 (fun _ => slc_rsl) | exact ro_f1 (fun _ h => h) | exact ro_f1 (fun _ => slc_rsl) | exact ro_f2 (fun _ h => h) | exact ro_f2 (fun _ => slc_rsl) | exact ro_f3 (fun _ h => h) | exact ro_f3 (fun _ => slc_rsl) | exact ro_f4 (fun _ h => h) | exact ro_f4 (fun _ => slc_rsl) | exact ro_f5 (fun _ h => h) | exact ro_f5 (fun _ => slc_rsl) | exact ro_f6 (fun _ h => h) | exact ro_f6 (fun _ => slc_rsl)) ?_))) (fun _ _ => rfl) (fun _ _ _ h => h.sub (by (repeat (first | exact pt_nil | apply pt0 | apply pt1 | apply pt2 | apply pt3 | apply pt4 | apply pt5 | apply pt6 | apply pt7 | apply pt8 | apply pt9 | apply pt10 | apply pt11 | apply pt12 | apply pt13 | apply pt14 | apply pt15 | apply pt16 | apply pt17))))) ?_
  refine wl_y rfl (y_move rfl) ?_
  refine wl_y rfl (y_extract rfl rfl) ?_
  refine wl_y rfl (y_extract rfl rfl) ?_
  refine wl_y rfl (y_assign rfl) ?_
  refine wl_y rfl (y_assign rfl) ?_
  refine wl_nil ?_
  refine wq_then ?_
  refine wc_seq ?_
  refine wc_region ?_
  refine wl_y rfl (y_assign rfl) ?_
  refine wl_nil ?_
  refine wq_then ?_
  refine wc_seq ?_
  refine wc_region ?_
  refine wl_have (p := r.l.length ≤ oc.2) (fun w hw => hw.slc_le [_, _]) (fun hcap => ?_)
  have hat := at_le r f.name
  have hpl := past_le r f.name
  obtain ⟨i, hi⟩ : ∃ i, r.at f.name = i := ⟨_, rfl⟩
  rw [hi] at hat
  refine wl_same 4 (vI (i : Nat)) rfl (by rw [hi]) ?_
  refine wl_world (fun w hw => Hp.addNil (e := 71) (sz := 3) [] _ hw) ?_
  refine wl_y rfl (y_move rfl) ?_
  refine wl_y rfl (y_move rfl) ?_
  refine wl_y rfl (y_nilCheck rfl) ?_
  refine wl_y rfl (y_fieldAddr F69_0 rfl) ?_
  refine wl_y rfl (y_load NA67 rfl (by first | exact cell_blk [] rfl | exact cell_blk [_] rfl | exact cell_blk [_, _] rfl | exact cell_blk [_, _, _] rfl | exact cell_blk [_, _, _, _] rfl | exact cell_blk [_, _, _, _, _] rfl | exact cellR_blk (by assumption) rfl)) ?_
  refine wl_y rfl (y_move rfl) ?_
  refine wl_y rfl (y_sliceSl (i := 0) (j := i) Try.underlying67 T71 rfl rfl ⟨_, rfl, rfl⟩ (by omega) (by omega)) ?_
  refine wl_w (fun _ _ => want_none) rfl (yw_append [] Try.underlying67 Try.underlying67 (.inl ⟨_, rfl⟩) T71 rfl rfl rfl (fun w hw => Src.slice ((hw.seen [_, _, _]).mono fun _ h => slc_rsl (slc_take i h (by omega)))) (by omega) (by unfold maxLen; omega) (one_take (one_rows encG_one)) (by simp [rows_length encG_len]; omega)) (wl_ex fun p21 hp21 => ?_)
  refine wl_y rfl (y_assign rfl) ?_
  refine wl_nil ?_
  refine wq_then ?_
  refine wc_seq ?_
  refine wc_region ?_
  refine wl_y rfl (y_move rfl) ?_
  refine wl_y rfl (y_loadAgg (l := [_, _, _]) AG71 rfl rfl (by first | exact cells_blk [] rfl | exact cells_blk [_] rfl | exact cells_blk [_, _] rfl | exact cells_blk [_, _, _] rfl | exact cells_blk [_, _, _, _] rfl | exact cells_blk [_, _, _, _, _] rfl | exact cellsR_blk (by assumption) rfl)) ?_
  refine wl_w (fun _ _ => want_none) rfl (yw_buildSlice (cs := [_, _, _]) Try.underlying67 T71 rfl rfl rfl rfl rfl rfl rfl) (wl_ex fun b24 _ => ?_)
  refine wl_w (fun _ _ => want_none) rfl (yw_append [_] Try.underlying67 Try.underlying67 (.inl ⟨_, rfl⟩) T71 rfl rfl rfl (fun w hw => Src.slice ((hw.seen []).mono fun _ => slc_rsl)) (by omega) (by unfold maxLen; omega) (by simp [Value.oneCell', encG]) rfl) (wl_ex fun p25 hp25 => ?_)
  refine wl_y rfl (y_assign rfl) ?_
  refine wl_nil ?_
  refine wq_then ?_
  refine wc_seq (wc_cut (α := Unit) (fun x => True) [(0, _), (6, _)] (fun x => [(4, vI (r.past f.name : Nat))]) (fun x => Hp w0 K (slc 71 3 p25.1 (0 + (i - 0) + 1) p25.2 ([] ++ (r.l.flatMap encG).take (i * 3) ++ encG f) :: blk b3 (.cells (encG f).toArray 71 (0, 0)) :: rkAs b r oc)) ⟨rfl, rfl, trivial⟩ ?_ ?_)
  ·
    refine wc_seq ?_
    refine wc_region ?_
    refine wl_y rfl (y_move rfl) ?_
    refine wl_nil ?_
    refine wq_then ?_
    refine wc_cond rfl (fun hc26 => ?_) (fun hc26 => ?_)
    ·
      refine wc_region ?_
      refine wl_y rfl (y_move rfl) ?_
      refine wl_y rfl (y_add rfl rfl (by omega)) ?_
      refine wl_y rfl (y_assign rfl) ?_
      refine wl_nil ?_
      refine wq_same 4 (vI (r.past f.name : Nat)) rfl (by rw [Rk.past, if_pos hc26, hi]; rfl) ?_
      exact wq_cut () trivial ⟨rfl, rfl, rfl, trivial⟩ (fun w hw => hw.sub (by (repeat (first | exact pt_nil | apply pt0 | apply pt1 | apply pt2 | apply pt3 | apply pt4 | apply pt5 | apply pt6 | apply pt7 | apply pt8 | apply pt9 | apply pt10 | apply pt11 | apply pt12 | apply pt13 | apply pt14 | apply pt15 | apply pt16 | apply pt17))))
    ·
      refine wc_skip ?_
      refine wq_same 4 (vI (r.past f.name : Nat)) rfl (by rw [Rk.past, hc26, hi]; rfl) ?_
      exact wq_cut () trivial ⟨rfl, rfl, rfl, trivial⟩ (fun w hw => hw.sub (by (repeat (first | exact pt_nil | apply pt0 | apply pt1 | apply pt2 | apply pt3 | apply pt4 | apply pt5 | apply pt6 | apply pt7 | apply pt8 | apply pt9 | apply pt10 | apply pt11 | apply pt12 | apply pt13 | apply pt14 | apply pt15 | apply pt16 | apply pt17))))
  · intro _ _
    refine all_wc ?_
    refine wc_region ?_
    refine wl_y rfl (y_move rfl) ?_
    refine wl_y rfl (y_move rfl) ?_
    refine wl_y rfl (y_move rfl) ?_
    refine wl_y rfl (y_nilCheck rfl) ?_
    refine wl_y rfl (y_fieldAddr F69_0 rfl) ?_
    refine wl_y rfl (y_load NA67 rfl (by first | exact cell_blk [] rfl | exact cell_blk [_] rfl | exact cell_blk [_, _] rfl | exact cell_blk [_, _, _] rfl | exact cell_blk [_, _, _, _] rfl | exact cell_blk [_, _, _, _, _] rfl | exact cellR_blk (by assumption) rfl)) ?_
    refine wl_y rfl (y_move rfl) ?_
    refine wl_y rfl (y_sliceSl (i := r.past f.name) (j := r.l.length) Try.underlying67 T71 rfl ⟨_, rfl, rfl⟩ rfl (by omega) (by omega)) ?_
    refine wl_w (fun _ _ => want_none) rfl (yw_append [] Try.underlying67 Try.underlying67 (.inl ⟨_, rfl⟩) T71 rfl rfl rfl (fun w hw => Src.slice ((hw.seen [_, _, _]).mono fun _ h => slc_rsl (slc_cut (r.past f.name) h (by omega)))) (by omega) (by unfold maxLen; omega) (one_drop (one_rows encG_one)) (by simp [rows_length encG_len]; omega)) (wl_ex fun p37 hp37 => ?_)
    refine wl_y rfl (y_nilCheck rfl) ?_
    refine wl_y rfl (y_fieldAddr F69_0 rfl) ?_
    first | refine wl_u (yu_store [] (l' := [_, _, _, _]) T67 rfl rfl rfl rfl rfl rfl rfl) ?_ | refine wl_u (yu_store [_] (l' := [_, _, _, _]) T67 rfl rfl rfl rfl rfl rfl rfl) ?_ | refine wl_u (yu_store [_, _] (l' := [_, _, _, _]) T67 rfl rfl rfl rfl rfl rfl rfl) ?_ | refine wl_u (yu_store [_, _, _] (l' := [_, _, _, _]) T67 rfl rfl rfl rfl rfl rfl rfl) ?_ | refine wl_u (yu_store [_, _, _, _] (l' := [_, _, _, _]) T67 rfl rfl rfl rfl rfl rfl rfl) ?_ | refine wl_u (yu_store [_, _, _, _, _] (l' := [_, _, _, _]) T67 rfl rfl rfl rfl rfl rfl rfl) ?_
    refine wl_nil ?_
    refine wq_end0 rfl (fun w hw => ?_)
    have e1 : (r.l.take i ++ [f] ++ r.l.drop (r.past f.name)).length = 0 + (i - 0) + 1 + (r.l.length - r.past f.name) := by simp; omega
    have e2 : (r.l.take i ++ [f] ++ r.l.drop (r.past f.name)).flatMap encG = [] ++ (r.l.flatMap encG).take (i * 3) ++ encG f ++ (r.l.flatMap encG).drop (r.past f.name * 3) := by rw [rows_take encG_len _ (by omega), rows_drop encG_len _ (by omega), List.flatMap_append, List.flatMap_append, List.flatMap_singleton]; rfl
    exact ⟨p37, trivial, rfl, by simp only [Rk.set, rkAs, rkCells]; rw [hi, e1, e2]; exact hw.sub (by (repeat (first | exact pt_nil | apply pt0 | apply pt1 | apply pt2 | apply pt3 | apply pt4 | apply pt5 | apply pt6 | apply pt7 | apply pt8 | apply pt9 | apply pt10 | apply pt11 | apply pt12 | apply pt13 | apply pt14 | apply pt15 | apply pt16 | apply pt17)))⟩

end Go.Proofs.Ytdeellflcphkaaa
