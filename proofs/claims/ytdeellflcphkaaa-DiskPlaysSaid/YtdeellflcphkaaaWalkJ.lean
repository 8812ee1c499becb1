/-
  Walks: the reference's names, and its size.
-/
import Derived.Test.YtdeellflcphkaaaWalkI
namespace Go.Proofs.Ytdeellflcphkaaa
open Go.Eng

theorem sizeL_ge : ∀ l : List Gf, 0 ≤ sizeL l
  | [] => by simp [sizeL]
  | x :: l => by have := sizeL_ge l; simp only [sizeL, List.map_cons, List.sum_cons] at this ⊢; omega
theorem sizeL_app (a c : List Gf) : sizeL (a ++ c) = sizeL a + sizeL c := by simp [sizeL, List.sum_append]
theorem sizeL_take (l : List Gf) (i : Nat) : sizeL (l.take i) ≤ sizeL l := by
  have h := sizeL_app (l.take i) (l.drop i)
  rw [List.take_append_drop] at h
  have := sizeL_ge (l.drop i)
  omega
theorem sizeL_snoc {l : List Gf} {i : Nat} {x : Gf} (h : l[i]? = some x) : sizeL (l.take (i + 1)) = sizeL (l.take i) + (x.data.length : Nat) := by
  rw [List.take_add_one, h, sizeL_app]; simp [sizeL]
set_option maxHeartbeats 1000000 in
theorem rnames_c (b : Nat) (r : Rk) (h5 : r.l.length ≤ 1000) :
    Ctr Try.prog 28 #[ptr b] [] [rkA b r] (fun _ : Option Addr × Nat => True) (fun x => .slice x.1 r.l.length x.2) (fun x => [rkA b r, slc 9 1 x.1 r.l.length x.2 ((r.l.map (·.name)).map vS)]) := by
  refine spec_start (n := 26) [(0, ptr b)] Try.func28 rfl rfl ⟨rfl, trivial⟩ rfl ?_
  intro w0 K hR
  refine wc_ex rk_open (fun oc => ?_)
  refine wc_seq ?_
  refine wc_region ?_
  refine wl_y rfl (y_assign rfl) ?_
  refine wl_nil ?_
  refine wq_then ?_
  refine wc_seq ?_
  refine wc_region ?_
  refine wl_y rfl (y_assign rfl) ?_
  refine wl_nil ?_
  refine wq_then ?_
  refine wc_seq ?_
  refine wc_seq ?_
  refine wc_region ?_
  refine wl_y rfl (y_assign rfl) ?_
  refine wl_nil ?_
  refine wq_then ?_
  refine wc_block ?_
  refine wc_loop (α := Nat × Option Addr × Nat) (fun y => y.1 ≤ r.l.length) [(0, _)] (fun y => [(4, vI y.1), (3, .slice y.2.1 y.1 y.2.2)]) (fun y => Hp w0 K (slc 9 1 y.2.1 y.1 y.2.2 (((r.l.take y.1).map (·.name)).map vS) :: rkAs b r oc)) (fun y => r.l.length - y.1) (0, none, 0) ?_ ⟨rfl, rfl, rfl, trivial⟩ ?_ ?_
  · exact Nat.zero_le _
  · exact fun w hw => Hp.addNil [] _ hw
  · rintro ⟨i, o, c⟩ hi; simp only at hi
    refine wc_world (S' := Hp w0 K (slc 9 1 o i c (((r.l.take i).map (·.name)).map vS) :: rkAs b r oc)) (fun w hw => hw) ?_
    refine wc_same 4 (vI i) rfl rfl ?_
    refine wc_same 3 (.slice o i c) rfl rfl ?_
    refine wc_seq ?_
    refine wc_seq ?_
    refine wc_region ?_
    refine wl_y rfl (y_move rfl) ?_
    refine wl_y rfl (y_move rfl) ?_
    refine wl_y rfl (y_nilCheck rfl) ?_
    refine wl_y rfl (y_fieldAddr F69_0 rfl) ?_
    refine wl_y rfl (y_load NA67 rfl (by first | exact cell_blk [] rfl | exact cell_blk [_] rfl | exact cell_blk [_, _] rfl | exact cell_blk [_, _, _] rfl | exact cell_blk [_, _, _, _] rfl | exact cellR_blk (by assumption) rfl)) ?_
    refine wl_y rfl (y_lenSl Try.underlying67 rfl) ?_
    refine wl_y rfl (y_lss rfl rfl) ?_
    refine wl_nil ?_
    refine wq_then ?_
    refine wc_cond rfl (fun hc11 => ?_) (fun hc11 => ?_)
    ·
      simp at hc11
      refine wc_skip ?_
      refine wq_then ?_
      refine wc_seq ?_
      refine wc_block ?_
      refine wc_region ?_
      obtain ⟨x, hx⟩ : ∃ x, r.l[i]? = some x := ⟨_, List.getElem?_eq_getElem (by omega)⟩
      refine wl_y rfl (y_move rfl) ?_
      refine wl_y rfl (y_move rfl) ?_
      refine wl_y rfl (y_nilCheck rfl) ?_
      refine wl_y rfl (y_fieldAddr F69_0 rfl) ?_
      refine wl_y rfl (y_load NA67 rfl (by first | exact cell_blk [] rfl | exact cell_blk [_] rfl | exact cell_blk [_, _] rfl | exact cell_blk [_, _, _] rfl | exact cell_blk [_, _, _, _] rfl | exact cellR_blk (by assumption) rfl)) ?_
      refine wl_y rfl (y_move rfl) ?_
      refine wl_y rfl (y_indexAddr Try.underlying67 T71 rfl rfl rfl (by omega) (by first | assumption | exact fun _ _ => rfl | exact fun w hw => hw.slc_isSome [] (by omega) | exact fun w hw => hw.slc_isSome [_] (by omega) | exact fun w hw => hw.slc_isSome [_, _] (by omega) | exact fun w hw => hw.slc_isSome [_, _, _] (by omega) | exact fun w hw => hw.slc_isSome [_, _, _, _] (by omega))) ?_
      refine wl_y rfl (y_fieldAddr_adr F71_0 rfl) ?_
      refine wl_y rfl (y_load NA9 rfl (by first | exact cell_own [] (rows_get encG_len hx rfl) | exact cell_own [_] (rows_get encG_len hx rfl) | exact cell_own [_, _] (rows_get encG_len hx rfl) | exact cell_own [_, _, _] (rows_get encG_len hx rfl) | exact cell_own [_, _, _, _] (rows_get encG_len hx rfl))) ?_
      refine wl_w (fun _ _ => want_none) rfl (yw_buildSlice (cs := [_]) Try.underlying32 T9 rfl rfl rfl rfl rfl rfl rfl) (wl_ex fun b23 _ => ?_)
      refine wl_w (fun _ _ => want_none) rfl (yw_append [_] Try.underlying32 Try.underlying32 (.inl ⟨_, rfl⟩) T9 rfl rfl rfl (fun w hw => Src.slice ((hw.seen []).mono fun _ => slc_rsl)) (by omega) (by unfold maxLen; omega) (by simp [Value.oneCell']) rfl) (wl_ex fun p24 hp24 => ?_)
      refine wl_y rfl (y_assign rfl) ?_
      refine wl_nil ?_
      refine wq_block_normal ?_
      refine wq_then ?_
      refine wc_region ?_
      refine wl_y rfl (y_move rfl) ?_
      refine wl_y rfl (y_add rfl rfl (by omega)) ?_
      refine wl_y rfl (y_assign rfl) ?_
      refine wl_nil ?_
      exact wq_round (i + 1, p24.1, p24.2) (by simp only; omega) (by simp only; omega) ⟨rfl, rfl, rfl, trivial⟩ (fun w hw => by rw [show ((r.l.take (i + 1)).map (·.name)).map vS = ((r.l.take i).map (·.name)).map vS ++ [vS x.name] by rw [List.take_add_one, hx]; simp]; exact hw.drop)
    ·
      simp at hc11
      refine wc_exit ?_
      refine wq_then_exit (wq_then_exit (wq_block_exit ?_))
      refine wq_then ?_
      refine wc_seq ?_
      refine wc_region ?_
      refine wl_y rfl (y_move rfl) ?_
      refine wl_y rfl (y_assign rfl) ?_
      refine wl_nil ?_
      refine wq_then ?_
      refine wc_ret ?_
      refine wq_ret1 rfl rfl (fun w hw => ?_)
      obtain rfl : i = r.l.length := by omega
      rw [List.take_length] at hw
      exact ⟨(o, c), trivial, rfl, rk_shut oc (hw.sub (by (repeat (first | exact pt_nil | apply pt0 | apply pt1 | apply pt2 | apply pt3 | apply pt4 | apply pt5 | apply pt6 | apply pt7 | apply pt8 | apply pt9 | apply pt10 | apply pt11 | apply pt12 | apply pt13 | apply pt14 | apply pt15 | apply pt16 | apply pt17))))⟩

set_option maxHeartbeats 1000000 in
theorem rsize_c (b : Nat) (r : Rk) (h5 : r.l.length ≤ 1000) (hs : sizeL r.l ≤ 1000000000) :
    Ctr Try.prog 30 #[ptr b] [] [rkA b r] (fun _ : Unit => True) (fun _ => vI (sizeL r.l)) (fun _ => [rkA b r]) := by
  refine spec_start (n := 26) [(0, ptr b)] Try.func30 rfl rfl ⟨rfl, trivial⟩ rfl ?_
  intro w0 K hR
  refine wc_ex rk_open (fun oc => ?_)
  refine wc_seq ?_
  refine wc_region ?_
  refine wl_y rfl (y_assign rfl) ?_
  refine wl_nil ?_
  refine wq_then ?_
  refine wc_seq ?_
  refine wc_region ?_
  refine wl_y rfl (y_assign rfl) ?_
  refine wl_nil ?_
  refine wq_then ?_
  refine wc_seq ?_
  refine wc_seq ?_
  refine wc_region ?_
  refine wl_y rfl (y_assign rfl) ?_
  refine wl_nil ?_
  refine wq_then ?_
  refine wc_block ?_
  refine wc_loop (α := Nat) (fun y => y ≤ r.l.length) [(0, _)] (fun y => [(4, vI y), (3, vI (sizeL (r.l.take y)))]) (fun y => Hp w0 K (rkAs b r oc)) (fun y => r.l.length - y) 0 ?_ ⟨rfl, rfl, rfl, trivial⟩ ?_ ?_
  · exact Nat.zero_le _
  · exact fun w hw => hw
  · intro i hi
    refine wc_seq ?_
    refine wc_seq ?_
    refine wc_region ?_
    refine wl_y rfl (y_move rfl) ?_
    refine wl_y rfl (y_move rfl) ?_
    refine wl_y rfl (y_nilCheck rfl) ?_
    refine wl_y rfl (y_fieldAddr F69_0 rfl) ?_
    refine wl_y rfl (y_load NA67 rfl (by first | exact cell_blk [] rfl | exact cell_blk [_] rfl | exact cell_blk [_, _] rfl | exact cell_blk [_, _, _] rfl | exact cell_blk [_, _, _, _] rfl | exact cellR_blk (by assumption) rfl)) ?_
    refine wl_y rfl (y_lenSl Try.underlying67 rfl) ?_
    refine wl_y rfl (y_lss rfl rfl) ?_
    refine wl_nil ?_
    refine wq_then ?_
    refine wc_cond rfl (fun hc11 => ?_) (fun hc11 => ?_)
    ·
      simp at hc11
      refine wc_skip ?_
      refine wq_then ?_
      refine wc_seq ?_
      refine wc_block ?_
      refine wc_region ?_
      obtain ⟨x, hx⟩ : ∃ x, r.l[i]? = some x := ⟨_, List.getElem?_eq_getElem (by omega)⟩
      have hsn := sizeL_snoc hx
      have hs2 := sizeL_take r.l (i + 1)
      have hs3 := sizeL_ge (r.l.take i)
      refine wl_y rfl (y_move rfl) ?_
      refine wl_y rfl (y_move rfl) ?_
      refine wl_y rfl (y_nilCheck rfl) ?_
      refine wl_y rfl (y_fieldAddr F69_0 rfl) ?_
      refine wl_y rfl (y_load NA67 rfl (by first | exact cell_blk [] rfl | exact cell_blk [_] rfl | exact cell_blk [_, _] rfl | exact cell_blk [_, _, _] rfl | exact cell_blk [_, _, _, _] rfl | exact cellR_blk (by assumption) rfl)) ?_
      refine wl_y rfl (y_move rfl) ?_
      refine wl_y rfl (y_indexAddr Try.underlying67 T71 rfl rfl rfl (by omega) (by first | assumption | exact fun _ _ => rfl | exact fun w hw => hw.slc_isSome [] (by omega) | exact fun w hw => hw.slc_isSome [_] (by omega) | exact fun w hw => hw.slc_isSome [_, _] (by omega) | exact fun w hw => hw.slc_isSome [_, _, _] (by omega) | exact fun w hw => hw.slc_isSome [_, _, _, _] (by omega))) ?_
      refine wl_y rfl (y_fieldAddr_adr F71_1 rfl) ?_
      refine wl_y rfl (y_load NA9 rfl (by first | exact cell_own [] (rows_get encG_len hx rfl) | exact cell_own [_] (rows_get encG_len hx rfl) | exact cell_own [_, _] (rows_get encG_len hx rfl) | exact cell_own [_, _, _] (rows_get encG_len hx rfl) | exact cell_own [_, _, _, _] (rows_get encG_len hx rfl))) ?_
      refine wl_y rfl (y_lenS Try.underlying9 rfl) ?_
      refine wl_y rfl (y_add rfl rfl (by omega)) ?_
      refine wl_y rfl (y_assign rfl) ?_
      refine wl_nil ?_
      refine wq_block_normal ?_
      refine wq_then ?_
      refine wc_region ?_
      refine wl_y rfl (y_move rfl) ?_
      refine wl_y rfl (y_add rfl rfl (by omega)) ?_
      refine wl_y rfl (y_assign rfl) ?_
      refine wl_nil ?_
      refine wq_same 3 (vI (sizeL (r.l.take (i + 1)))) rfl (by rw [hsn]) ?_
      exact wq_round (i + 1) (by omega) (by omega) ⟨rfl, rfl, rfl, trivial⟩ (fun w hw => hw)
    ·
      simp at hc11
      refine wc_exit ?_
      refine wq_then_exit (wq_then_exit (wq_block_exit ?_))
      refine wq_then ?_
      refine wc_seq ?_
      refine wc_region ?_
      refine wl_y rfl (y_move rfl) ?_
      refine wl_y rfl (y_assign rfl) ?_
      refine wl_nil ?_
      refine wq_then ?_
      refine wc_ret ?_
      refine wq_ret1 rfl rfl (fun w hw => ?_)
      obtain rfl : i = r.l.length := by omega
      exact ⟨(), trivial, by rw [List.take_length], rk_shut oc hw⟩

end Go.Proofs.Ytdeellflcphkaaa
