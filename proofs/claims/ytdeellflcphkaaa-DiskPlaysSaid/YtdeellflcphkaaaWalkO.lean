/-
  Walks: the reference's size, opened.
-/
import Derived.Test.YtdeellflcphkaaaAppDef
namespace Go.Proofs.Ytdeellflcphkaaa
open Go.Eng

set_option maxHeartbeats 1000000 in
theorem rsizeR_c (b : Nat) (r : Rk) (oc : Option Addr × Nat) (h5 : r.l.length ≤ 1000) (hs : sizeL r.l ≤ 1000000000) :
    Ctr Try.prog 30 #[ptr b] [] (rkAs b r oc) (fun _ : Unit => True) (fun _ => vI (sizeL r.l)) (fun _ => rkAs b r oc) := by
  refine spec_start (n := 26) [(0, ptr b)] Try.func30 rfl rfl ⟨rfl, trivial⟩ rfl ?_
  intro w0 K hR
  refine wc_seq ?_
  refine wc_region ?_
  refine wl_y rfl (y_assign rfl) ?_
  refine wl_nil ?_
  refine wq_then ?_
  refine wc_seq ?_
  refine wc_region ?_
  refine wl_y rfl (y_assign rfl) ?_
  refine wl_nil ?_
  refine wq_then ?_
  refine wc_seq ?_
  refine wc_seq ?_
  refine wc_region ?_
  refine wl_y rfl (y_assign rfl) ?_
  refine wl_nil ?_
  refine wq_then ?_
  refine wc_block ?_
  refine wc_loop (α := Nat) (fun y => y ≤ r.l.length) [(0, _)] (fun y => [(4, vI y), (3, vI (sizeL (r.l.take y)))]) (fun y => Hp w0 K (rkAs b r oc)) (fun y => r.l.length - y) 0 ?_ ⟨rfl, rfl, rfl, trivial⟩ ?_ ?_
  · exact Nat.zero_le _
  · exact fun w hw => hw
  · intro i hi
    refine wc_seq ?_
    refine wc_seq ?_
    refine wc_region ?_
    refine wl_y rfl (y_move rfl) ?_
    refine wl_y rfl (y_move rfl) ?_
    refine wl_y rfl (y_nilCheck rfl) ?_
    refine wl_y rfl (y_fieldAddr F69_0 rfl) ?_
    refine wl_y rfl (y_load NA67 rfl (by first | exact cell_blk [] rfl | exact cell_blk [_] rfl | exact cell_blk [_, _] rfl | exact cell_blk [_, _, _] rfl | exact cell_blk [_, _, _, _] rfl | exact cellR_blk (by assumption) rfl)) ?_
    refine wl_y rfl (y_lenSl Try.underlying67 rfl) ?_
    refine wl_y rfl (y_lss rfl rfl) ?_
    refine wl_nil ?_
    refine wq_then ?_
    refine wc_cond rfl (fun hc11 => ?_) (fun hc11 => ?_)
    ·
      simp at hc11
      refine wc_skip ?_
      refine wq_then ?_
      refine wc_seq ?_
      refine wc_block ?_
      refine wc_region ?_
      obtain ⟨x, hx⟩ : ∃ x, r.l[i]? = some x := ⟨_, List.getElem?_eq_getElem (by omega)⟩
      have hsn := sizeL_snoc hx
      have hs2 := sizeL_take r.l (i + 1)
      have hs3 := sizeL_ge (r.l.take i)
      refine wl_y rfl (y_move rfl) ?_
      refine wl_y rfl (y_move rfl) ?_
      refine wl_y rfl (y_nilCheck rfl) ?_
      refine wl_y rfl (y_fieldAddr F69_0 rfl) ?_
      refine wl_y rfl (y_load NA67 rfl (by first | exact cell_blk [] rfl | exact cell_blk [_] rfl | exact cell_blk [_, _] rfl | exact cell_blk [_, _, _] rfl | exact cell_blk [_, _, _, _] rfl | exact cellR_blk (by assumption) rfl)) ?_
      refine wl_y rfl (y_move rfl) ?_
      refine wl_y rfl (y_indexAddr Try.underlying67 T71 rfl rfl rfl (by omega) (by first | assumption | exact fun _ _ => rfl | exact fun w hw => hw.slc_isSome [] (by omega) | exact fun w hw => hw.slc_isSome [_] (by omega) | exact fun w hw => hw.slc_isSome [_, _] (by omega) | exact fun w hw => hw.slc_isSome [_, _, _] (by omega) | exact fun w hw => hw.slc_isSome [_, _, _, _] (by omega))) ?_
      refine wl_y rfl (y_fieldAddr_adr F71_1 rfl) ?_
      refine wl_y rfl (y_load NA9 rfl (by first | exact cell_own [] (rows_get encG_len hx rfl) | exact cell_own [_] (rows_get encG_len hx rfl) | exact cell_own [_, _] (rows_get encG_len hx rfl) | exact cell_own [_, _, _] (rows_get encG_len hx rfl) | exact cell_own [_, _, _, _] (rows_get encG_len hx rfl))) ?_
      refine wl_y rfl (y_lenS Try.underlying9 rfl) ?_
      refine wl_y rfl (y_add rfl rfl (by omega)) ?_
      refine wl_y rfl (y_assign rfl) ?_
      refine wl_nil ?_
      refine wq_block_normal ?_
      refine wq_then ?_
      refine wc_region ?_
      refine wl_y rfl (y_move rfl) ?_
      refine wl_y rfl (y_add rfl rfl (by omega)) ?_
      refine wl_y rfl (y_assign rfl) ?_
      refine wl_nil ?_
      refine wq_same 3 (vI (sizeL (r.l.take (i + 1)))) rfl (by rw [hsn]) ?_
      exact wq_round (i + 1) (by omega) (by omega) ⟨rfl, rfl, rfl, trivial⟩ (fun w hw => hw)
    ·
      simp at hc11
      refine wc_exit ?_
      refine wq_then_exit (wq_then_exit (wq_block_exit ?_))
      refine wq_then ?_
      refine wc_seq ?_
      refine wc_region ?_
      refine wl_y rfl (y_move rfl) ?_
      refine wl_y rfl (y_assign rfl) ?_
      refine wl_nil ?_
      refine wq_then ?_
      refine wc_ret ?_
      refine wq_ret1 rfl rfl (fun w hw => ?_)
      obtain rfl : i = r.l.length := by omega
      exact ⟨(), trivial, by rw [List.take_length], hw⟩

end Go.Proofs.Ytdeellflcphkaaa
