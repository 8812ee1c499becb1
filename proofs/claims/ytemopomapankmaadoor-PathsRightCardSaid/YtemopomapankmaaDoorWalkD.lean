/-
  Walks: split at one byte.
-/
import Derived.Test.YtemopomapankmaaDoorWalkC
namespace Go.Proofs.YtemopomapankmaaDoor
open Go.Eng

set_option maxHeartbeats 1000000 in
theorem indexByte_c (s : Str) (c : UInt8) :
    Ctr Tryd.prog 69 #[vS s, .int .u8 (c.toNat : Int)] [] [] (fun _ : Unit => True) (fun _ => vI (Lib.indexByte s c)) (fun _ => []) := by
  refine spec_start (n := 8) [(0, vS s), (1, .int .u8 (c.toNat : Int))] Tryd.func69 rfl rfl ⟨rfl, rfl, trivial⟩ rfl ?_
  intro w0 K hR
  refine wc_seq ?_
  refine wc_region ?_
  refine wl_y rfl (y_assign rfl) ?_
  refine wl_nil ?_
  refine wq_then ?_
  refine wc_seq ?_
  refine wc_region ?_
  refine wl_y rfl (y_move rfl) ?_
  refine wl_y rfl (y_move rfl) ?_
  refine wl_y rfl (y_idxB Tryd.func73 (by kernel_rfl) (by kernel_rfl) (by kernel_rfl) (by kernel_rfl) rfl rfl) ?_
  refine wl_y rfl (y_assign rfl) ?_
  refine wl_nil ?_
  refine wq_then ?_
  refine wc_ret ?_
  refine wq_ret1 rfl rfl (fun w hw => ?_)
  exact ⟨(), trivial, rfl, hw⟩

set_option maxHeartbeats 1000000 in
theorem indexLite_c (s : Str) (c : UInt8) :
    Ctr Tryd.prog 66 #[vS s, vS [c]] [] [] (fun _ : Unit => True) (fun _ => vI (Lib.indexByte s c)) (fun _ => []) := by
  refine spec_start (n := 143) [(0, vS s), (1, vS [c])] Tryd.func66 rfl rfl ⟨rfl, rfl, trivial⟩ rfl ?_
  intro w0 K hR
  refine wc_seq ?_
  refine wc_region ?_
  refine wl_y rfl (y_assign rfl) ?_
  refine wl_nil ?_
  refine wq_then ?_
  refine wc_seq ?_
  refine wc_region ?_
  refine wl_y rfl (y_move rfl) ?_
  refine wl_y rfl (y_lenS Tryd.underlying9 rfl) ?_
  refine wl_y rfl (y_assign rfl) ?_
  refine wl_nil ?_
  refine wq_then ?_
  refine wc_seq ?_
  refine wc_block ?_
  refine wc_seq ?_
  refine wc_region ?_
  refine wl_y rfl (y_move rfl) ?_
  refine wl_y rfl (y_eqlI rfl rfl) ?_
  refine wl_y rfl (y_move rfl) ?_
  refine wl_known 19 false rfl (by simp) ?_
  refine wl_yg rfl rfl rfl (y_move rfl) ?_
  refine wl_yg rfl rfl rfl (y_move rfl) ?_
  refine wl_yg rfl rfl rfl (y_eqlS rfl rfl) ?_
  refine wl_y rfl (y_pick_f rfl rfl) ?_
  refine wl_y rfl (y_assign rfl) ?_
  refine wl_nil ?_
  refine wq_then ?_
  refine wc_cond rfl (fun hc16 => ?_) (fun hc16 => ?_)
  ·
    simp at hc16
    refine wc_seq ?_
    refine wc_region ?_
    refine wl_y rfl (y_assign rfl) ?_
    refine wl_nil ?_
    refine wq_then ?_
    refine wc_ret ?_
    refine wq_block_ret (wq_then_ret ?_)
    refine wq_ret1 rfl rfl (fun w hw => ?_)
    exact ⟨(), trivial, by rw [← hc16]; simp [Lib.indexByte], hw⟩
  ·
    simp at hc16
    refine wc_seq ?_
    refine wc_region ?_
    refine wl_y rfl (y_move rfl) ?_
    refine wl_y rfl (y_eqlI rfl rfl) ?_
    refine wl_y rfl (y_assign rfl) ?_
    refine wl_nil ?_
    refine wq_then ?_
    refine wc_known 24 true rfl (by simp) ?_
    refine wc_cond_true rfl ?_
    refine wc_seq ?_
    refine wc_region ?_
    refine wl_y rfl (y_move rfl) ?_
    refine wl_y rfl (y_move rfl) ?_
    refine wl_y rfl (y_indexS (c := c) Tryd.underlying9 rfl rfl (i := 0) rfl rfl) ?_
    refine wl_c (fun _ _ => want_none) rfl (yc_spec (fst := []) (cap := []) _ FN69 (indexByte_c s c) rfl rfl rfl (by (repeat (first | exact pt_nil | apply pt0 | apply pt1 | apply pt2 | apply pt3 | apply pt4 | apply pt5 | apply pt6 | apply pt7 | apply pt8 | apply pt9 | apply pt10 | apply pt11 | apply pt12 | apply pt13 | apply pt14 | apply pt15 | apply pt16 | apply pt17))) (by (repeat (first | exact ro_nil | exact ro_rest (by assumption) | refine ro_cons (by first | exact .inl (by assumption) | exact ro_f0 (fun _ h => h) | exact ro_f0 (fun _ => slc_rsl) | exact ro_f1 (fun _ h => h) | exact ro_f1 (fun _ => slc_rsl) | exact ro_f2 (fun _ h => h) | exact ro_f2 (fun _ => slc_rsl) | exact ro_f3 (fun _ h => h) | exact ro_f3 (fun _ => slc_rsl) | exact ro_f4 (fun _ h => h) | exact ro_f4 (fun _ => slc_rsl) | exact ro_f5 (fun _ h => h) | exact ro_f5 (fun _ => slc_rsl) | exact ro_f6 (fun _ h => h) | exact ro_f6 (fun _ => slc_rsl)) ?_)))) (wl_ex fun x30 hx30 => ?_)
    refine wl_y rfl (y_assign rfl) ?_
    refine wl_nil ?_
    refine wq_then ?_
    refine wc_ret ?_
    refine wq_block_ret (wq_then_ret ?_)
    refine wq_ret1 rfl rfl (fun w hw => ?_)
    exact ⟨(), trivial, rfl, hw⟩

set_option maxHeartbeats 1000000 in
theorem index_c (s : Str) (c : UInt8) :
    Ctr Tryd.prog 60 #[vS s, vS [c]] [] [] (fun _ : Unit => True) (fun _ => vI (Lib.indexByte s c)) (fun _ => []) := by
  refine spec_start (n := 8) [(0, vS s), (1, vS [c])] Tryd.func60 rfl rfl ⟨rfl, rfl, trivial⟩ rfl ?_
  intro w0 K hR
  refine wc_seq ?_
  refine wc_region ?_
  refine wl_y rfl (y_assign rfl) ?_
  refine wl_nil ?_
  refine wq_then ?_
  refine wc_seq ?_
  refine wc_region ?_
  refine wl_y rfl (y_move rfl) ?_
  refine wl_y rfl (y_move rfl) ?_
  refine wl_c (fun _ _ => want_none) rfl (yc_spec (fst := []) (cap := []) _ FN66 (indexLite_c s c) rfl rfl rfl (by (repeat (first | exact pt_nil | apply pt0 | apply pt1 | apply pt2 | apply pt3 | apply pt4 | apply pt5 | apply pt6 | apply pt7 | apply pt8 | apply pt9 | apply pt10 | apply pt11 | apply pt12 | apply pt13 | apply pt14 | apply pt15 | apply pt16 | apply pt17))) (by (repeat (first | exact ro_nil | exact ro_rest (by assumption) | refine ro_cons (by first | exact .inl (by assumption) | exact ro_f0 (fun _ h => h) | exact ro_f0 (fun _ => slc_rsl) | exact ro_f1 (fun _ h => h) | exact ro_f1 (fun _ => slc_rsl) | exact ro_f2 (fun _ h => h) | exact ro_f2 (fun _ => slc_rsl) | exact ro_f3 (fun _ h => h) | exact ro_f3 (fun _ => slc_rsl) | exact ro_f4 (fun _ h => h) | exact ro_f4 (fun _ => slc_rsl) | exact ro_f5 (fun _ h => h) | exact ro_f5 (fun _ => slc_rsl) | exact ro_f6 (fun _ h => h) | exact ro_f6 (fun _ => slc_rsl)) ?_)))) (wl_ex fun x7 hx7 => ?_)
  refine wl_y rfl (y_assign rfl) ?_
  refine wl_nil ?_
  refine wq_then ?_
  refine wc_ret ?_
  refine wq_ret1 rfl rfl (fun w hw => ?_)
  exact ⟨(), trivial, rfl, hw⟩

set_option maxHeartbeats 1000000 in
theorem count_c (s : Str) (c : UInt8) :
    Ctr Tryd.prog 59 #[vS s, vS [c]] [] [] (fun _ : Unit => True) (fun _ => vI (s.count c : Nat)) (fun _ => []) := by
  refine spec_start (n := 34) [(0, vS s), (1, vS [c])] Tryd.func59 rfl rfl ⟨rfl, rfl, trivial⟩ rfl ?_
  intro w0 K hR
  refine wc_seq ?_
  refine wc_region ?_
  refine wl_y rfl (y_assign rfl) ?_
  refine wl_nil ?_
  refine wq_then ?_
  refine wc_seq ?_
  refine wc_seq ?_
  refine wc_region ?_
  refine wl_y rfl (y_move rfl) ?_
  refine wl_y rfl (y_lenS Tryd.underlying9 rfl) ?_
  refine wl_y rfl (y_eqlI rfl rfl) ?_
  refine wl_nil ?_
  refine wq_then ?_
  refine wc_known 9 false rfl (by simp) ?_
  refine wc_cond_false rfl ?_
  refine wc_skip ?_
  refine wq_then ?_
  refine wc_seq ?_
  refine wc_seq ?_
  refine wc_region ?_
  refine wl_y rfl (y_move rfl) ?_
  refine wl_y rfl (y_lenS Tryd.underlying9 rfl) ?_
  refine wl_y rfl (y_eqlI rfl rfl) ?_
  refine wl_nil ?_
  refine wq_then ?_
  refine wc_known 15 true rfl (by simp) ?_
  refine wc_cond_true rfl ?_
  refine wc_seq ?_
  refine wc_region ?_
  refine wl_y rfl (y_move rfl) ?_
  refine wl_y rfl (y_move rfl) ?_
  refine wl_y rfl (y_indexS (c := c) Tryd.underlying9 rfl rfl (i := 0) rfl rfl) ?_
  refine wl_y rfl (y_cntB Tryd.func65 (by kernel_rfl) (by kernel_rfl) (by kernel_rfl) (by kernel_rfl) rfl rfl) ?_
  refine wl_y rfl (y_assign rfl) ?_
  refine wl_nil ?_
  refine wq_then ?_
  refine wc_ret ?_
  refine wq_then_ret ?_
  refine wq_ret1 rfl rfl (fun w hw => ?_)
  exact ⟨(), trivial, rfl, hw⟩

set_option maxHeartbeats 1000000 in
theorem genSplit_c (s : Str) (c : UInt8) (hs : s.length ≤ 1000000) :
    Ctr Tryd.prog 55 #[vS s, vS [c], vI 0, vI (-1)] [] [] (fun _ : Option Addr × Nat => True) (fun p => .slice p.1 (parts c s).length p.2) (fun p => [slc 9 1 p.1 (parts c s).length p.2 ((parts c s).map vS)]) := by
  refine spec_start (n := 66) [(0, vS s), (1, vS [c]), (2, vI 0), (3, vI (-1))] Tryd.func55 rfl rfl ⟨rfl, rfl, rfl, rfl, trivial⟩ rfl ?_
  intro w0 K hR
  have hcl : s.count c ≤ s.length := List.count_le_length
  refine wc_seq ?_
  refine wc_region ?_
  refine wl_y rfl (y_assign rfl) ?_
  refine wl_nil ?_
  refine wq_then ?_
  refine wc_seq ?_
  refine wc_seq ?_
  refine wc_region ?_
  refine wl_y rfl (y_move rfl) ?_
  refine wl_y rfl (y_eqlI rfl rfl) ?_
  refine wl_nil ?_
  refine wq_then ?_
  refine wc_known 13 false rfl (by simp) ?_
  refine wc_cond_false rfl ?_
  refine wc_skip ?_
  refine wq_then ?_
  refine wc_seq ?_
  refine wc_seq ?_
  refine wc_region ?_
  refine wl_y rfl (y_move rfl) ?_
  refine wl_y rfl (y_eqlS rfl rfl) ?_
  refine wl_nil ?_
  refine wq_then ?_
  refine wc_known 15 false rfl (by simp) ?_
  refine wc_cond_false rfl ?_
  refine wc_skip ?_
  refine wq_then ?_
  refine wc_seq ?_
  refine wc_seq ?_
  refine wc_region ?_
  refine wl_y rfl (y_move rfl) ?_
  refine wl_y rfl (y_lss rfl rfl) ?_
  refine wl_nil ?_
  refine wq_then ?_
  refine wc_known 20 true rfl (by simp) ?_
  refine wc_cond_true rfl ?_
  refine wc_region ?_
  refine wl_y rfl (y_move rfl) ?_
  refine wl_y rfl (y_move rfl) ?_
  refine wl_c (fun _ _ => want_none) rfl (yc_spec (fst := []) (cap := []) _ FN59 (count_c s c) rfl rfl rfl (by (repeat (first | exact pt_nil | apply pt0 | apply pt1 | apply pt2 | apply pt3 | apply pt4 | apply pt5 | apply pt6 | apply pt7 | apply pt8 | apply pt9 | apply pt10 | apply pt11 | apply pt12 | apply pt13 | apply pt14 | apply pt15 | apply pt16 | apply pt17))) (by (repeat (first | exact ro_nil | exact ro_rest (by assumption) | refine ro_cons (by first | exact .inl (by assumption) | exact ro_f0 (fun _ h => h) | exact ro_f0 (fun _ => slc_rsl) | exact ro_f1 (fun _ h => h) | exact ro_f1 (fun _ => slc_rsl) | exact ro_f2 (fun _ h => h) | exact ro_f2 (fun _ => slc_rsl) | exact ro_f3 (fun _ h => h) | exact ro_f3 (fun _ => slc_rsl) | exact ro_f4 (fun _ h => h) | exact ro_f4 (fun _ => slc_rsl) | exact ro_f5 (fun _ h => h) | exact ro_f5 (fun _ => slc_rsl) | exact ro_f6 (fun _ h => h) | exact ro_f6 (fun _ => slc_rsl)) ?_)))) (wl_ex fun x23 hx23 => ?_)
  refine wl_y rfl (y_add rfl rfl (by omega)) ?_
  refine wl_y rfl (y_assign rfl) ?_
  refine wl_nil ?_
  refine wq_then ?_
  refine wc_seq ?_
  refine wc_region ?_
  refine wl_y rfl (y_move rfl) ?_
  refine wl_y rfl (y_move rfl) ?_
  refine wl_y rfl (y_lenS Tryd.underlying9 rfl) ?_
  refine wl_y rfl (y_add rfl rfl (by omega)) ?_
  refine wl_y rfl (y_min rfl rfl) ?_
  refine wl_same 29 (vI (s.count c + 1 : Nat)) rfl (by rw [show min ((s.count c : Nat) + 1 : Int) ((s.length : Nat) + 1 : Int) = ((s.count c + 1 : Nat) : Int) by omega]) ?_
  refine wl_y rfl (y_assign rfl) ?_
  refine wl_nil ?_
  refine wq_then ?_
  refine wc_seq ?_
  refine wc_region ?_
  refine wl_y rfl (y_move rfl) ?_
  refine wl_w (fun _ _ => want_none) rfl (yw_makeSlice (k := s.count c + 1) Tryd.underlying52 T9 rfl rfl rfl rfl rfl (by omega) (by omega)) (wl_ex fun b31 _ => ?_)
  refine wl_y rfl (y_assign rfl) ?_
  refine wl_nil ?_
  refine wq_then ?_
  refine wc_seq ?_
  refine wc_region ?_
  refine wl_y rfl (y_move rfl) ?_
  refine wl_y rfl (y_sub rfl rfl (by omega)) ?_
  refine wl_same 33 (vI (s.count c : Nat)) rfl (by rw [show ((s.count c + 1 : Nat) : Int) - 1 = (s.count c : Nat) by omega]) ?_
  refine wl_y rfl (y_assign rfl) ?_
  refine wl_nil ?_
  refine wq_then ?_
  refine wc_seq ?_
  refine wc_region ?_
  refine wl_y rfl (y_assign rfl) ?_
  refine wl_nil ?_
  refine wq_then ?_
  refine wc_seq ?_
  refine wc_block ?_
  refine wc_loop (α := List Str × Str) (fun y => y.1 ++ parts c y.2 = parts c s ∧ y.2.length ≤ s.length) [(1, _), (2, _), (3, _), (9, _)] (fun y => [(10, vI (y.1.length : Nat)), (0, vS y.2)]) (fun y => Hp w0 K [slc 9 1 (some ⟨b31, 0, none⟩) (s.count c + 1) (s.count c + 1) (y.1.map vS ++ List.replicate (s.count c + 1 - y.1.length) (vS []))]) (fun y => y.2.length) ([], s) ?_ ⟨rfl, rfl, rfl, rfl, rfl, rfl, trivial⟩ ?_ ?_
  · exact ⟨rfl, Nat.le_refl _⟩
  · exact fun w hw => by rw [zeroL_one] at hw; exact hw
  · rintro ⟨dn, r⟩ ⟨hI, hrl⟩; simp only at hI hrl
    have hlen := congrArg List.length hI
    rw [List.length_append, parts_len, parts_len] at hlen
    refine wc_world (S' := Hp w0 K [slc 9 1 (some ⟨b31, 0, none⟩) (s.count c + 1) (s.count c + 1) (dn.map vS ++ List.replicate (s.count c + 1 - dn.length) (vS []))]) (fun w hw => hw) ?_
    refine wc_same 10 (vI (dn.length : Nat)) rfl rfl ?_
    refine wc_same 0 (vS r) rfl rfl ?_
    refine wc_seq ?_
    refine wc_seq ?_
    refine wc_region ?_
    refine wl_y rfl (y_move rfl) ?_
    refine wl_y rfl (y_move rfl) ?_
    refine wl_y rfl (y_lss rfl rfl) ?_
    refine wl_nil ?_
    refine wq_then ?_
    refine wc_cond rfl (fun hc36 => ?_) (fun hc36 => ?_)
    ·
      simp at hc36
      refine wc_skip ?_
      refine wq_then ?_
      refine wc_block ?_
      refine wc_seq ?_
      refine wc_region ?_
      refine wl_y rfl (y_move rfl) ?_
      refine wl_y rfl (y_move rfl) ?_
      refine wl_c (fun _ _ => want_none) rfl (yc_spec (fst := []) (cap := []) _ FN60 (index_c r c) rfl rfl rfl (by (repeat (first | exact pt_nil | apply pt0 | apply pt1 | apply pt2 | apply pt3 | apply pt4 | apply pt5 | apply pt6 | apply pt7 | apply pt8 | apply pt9 | apply pt10 | apply pt11 | apply pt12 | apply pt13 | apply pt14 | apply pt15 | apply pt16 | apply pt17))) (by (repeat (first | exact ro_nil | exact ro_rest (by assumption) | refine ro_cons (by first | exact .inl (by assumption) | exact ro_f0 (fun _ h => h) | exact ro_f0 (fun _ => slc_rsl) | exact ro_f1 (fun _ h => h) | exact ro_f1 (fun _ => slc_rsl) | exact ro_f2 (fun _ h => h) | exact ro_f2 (fun _ => slc_rsl) | exact ro_f3 (fun _ h => h) | exact ro_f3 (fun _ => slc_rsl) | exact ro_f4 (fun _ h => h) | exact ro_f4 (fun _ => slc_rsl) | exact ro_f5 (fun _ h => h) | exact ro_f5 (fun _ => slc_rsl) | exact ro_f6 (fun _ h => h) | exact ro_f6 (fun _ => slc_rsl)) ?_)))) (wl_ex fun x39 hx39 => ?_)
      refine wl_y rfl (y_assign rfl) ?_
      refine wl_nil ?_
      refine wq_then ?_
      refine wc_seq ?_
      refine wc_seq ?_
      refine wc_region ?_
      refine wl_y rfl (y_move rfl) ?_
      refine wl_y rfl (y_lss rfl rfl) ?_
      refine wl_nil ?_
      refine wq_then ?_
      refine wc_cond rfl (fun hc41 => ?_) (fun hc41 => ?_)
      ·
        simp at hc41
        refine wc_exit ?_
        refine wq_then_exit (wq_block_other rfl (wq_then_exit (wq_block_exit ?_)))
        refine wq_then ?_
        refine wc_seq ?_
        refine wc_region ?_
        have hnr : c ∉ r := by
          first
            | exact List.count_eq_zero.1 (by omega)
            | exact fun hx => by
                obtain ⟨i, hi⟩ := List.mem_iff_getElem?.1 hx
                exact Lib.indexByte_none (by have := Lib.indexByte_ge r c; omega) i hi
        have hcr : r.count c = 0 := List.count_eq_zero.2 hnr
        have hIr := hI
        rw [parts_last hnr] at hIr
        refine wl_y rfl (y_move rfl) ?_
        refine wl_y rfl (y_move rfl) ?_
        refine wl_y rfl (y_move rfl) ?_
        refine wl_y rfl (y_indexAddr (i := dn.length) Tryd.underlying52 T9 rfl rfl rfl (by omega) (fun _ _ => rfl)) ?_
        refine wl_u (yu_storeSl [] (e := 9) T9 rfl rfl rfl rfl rfl (by simp; omega)) ?_
        refine wl_world (S' := Hp w0 K [slc 9 1 (some ⟨b31, 0, none⟩) (s.count c + 1) (s.count c + 1) ((dn ++ [r]).map vS ++ List.replicate (s.count c + 1 - (dn ++ [r]).length) (vS []))]) (fun w hw => by rw [List.nil_append, fillS dn r (by omega)] at hw; exact hw) ?_
        refine wl_nil ?_
        refine wq_then ?_
        refine wc_seq ?_
        refine wc_region ?_
        refine wl_y rfl (y_move rfl) ?_
        refine wl_y rfl (y_move rfl) ?_
        refine wl_y rfl (y_add rfl rfl (by omega)) ?_
        refine wl_y rfl (y_sliceSl (i := 0) (j := s.count c + 1) Tryd.underlying52 T9 rfl rfl ⟨_, rfl, by omega⟩ (by omega) (by omega)) ?_
        refine wl_y rfl (y_assign rfl) ?_
        refine wl_nil ?_
        refine wq_then ?_
        refine wc_ret ?_
        refine wq_ret1 rfl rfl (fun w hw => ?_)
        exact ⟨(_, s.count c + 1), trivial, by rw [parts_len]; rfl, by
          have h3 := Hp.mono_at [] hw (fun g hg => slc_take (s.count c + 1) hg (Nat.le_refl _))
          rw [List.take_of_length_le (by simp; omega), show s.count c + 1 - (dn ++ [r]).length = 0 by simp; omega, List.replicate_zero, List.append_nil, hIr] at h3
          rw [parts_len]; exact h3⟩
      ·
        simp at hc41
        refine wc_skip ?_
        refine wq_then ?_
        refine wc_seq ?_
        refine wc_region ?_
        obtain ⟨m, hm⟩ : ∃ m : Nat, Lib.indexByte r c = m := ⟨(Lib.indexByte r c).toNat, by omega⟩
        obtain ⟨hm1, hm2⟩ := Lib.indexByte_some hm
        have hml := (List.getElem?_eq_some_iff.1 hm1).1
        have hcut := cut_at hm1 hm2
        refine wl_same 11 (vI (m : Nat)) rfl (by rw [hm]) ?_
        refine wl_y rfl (y_move rfl) ?_
        refine wl_y rfl (y_move rfl) ?_
        refine wl_y rfl (y_move rfl) ?_
        refine wl_y rfl (y_move rfl) ?_
        refine wl_y rfl (y_move rfl) ?_
        refine wl_y rfl (y_add rfl rfl (by omega)) ?_
        refine wl_same 47 (vI (m : Nat)) rfl (by simp) ?_
        refine wl_y rfl (y_sliceS (i := 0) (j := m) Tryd.underlying9 rfl rfl ⟨_, rfl, rfl⟩ (by first | omega | (simp; omega)) (by first | omega | (simp; omega)) rfl) ?_
        refine wl_same 48 (vS (r.take m)) rfl rfl ?_
        refine wl_y rfl (y_indexAddr (i := dn.length) Tryd.underlying52 T9 rfl rfl rfl (by omega) (fun _ _ => rfl)) ?_
        refine wl_u (yu_storeSl [] (e := 9) T9 rfl rfl rfl rfl rfl (by simp; omega)) ?_
        refine wl_world (S' := Hp w0 K [slc 9 1 (some ⟨b31, 0, none⟩) (s.count c + 1) (s.count c + 1) ((dn ++ [r.take m]).map vS ++ List.replicate (s.count c + 1 - (dn ++ [r.take m]).length) (vS []))]) (fun w hw => by rw [List.nil_append, fillS dn (r.take m) (by omega)] at hw; exact hw) ?_
        refine wl_nil ?_
        refine wq_then ?_
        refine wc_seq ?_
        refine wc_region ?_
        refine wl_y rfl (y_move rfl) ?_
        refine wl_y rfl (y_move rfl) ?_
        refine wl_y rfl (y_move rfl) ?_
        refine wl_y rfl (y_lenS Tryd.underlying9 rfl) ?_
        refine wl_same 53 (vI 1) rfl rfl ?_
        refine wl_y rfl (y_add rfl rfl (by omega)) ?_
        refine wl_same 54 (vI (m + 1 : Nat)) rfl (by simp) ?_
        refine wl_y rfl (y_sliceS (i := m + 1) Tryd.underlying9 rfl ⟨_, rfl, rfl⟩ rfl (by first | omega | (simp; omega)) (by first | omega | (simp; omega)) rfl) ?_
        refine wl_same 55 (vS (r.drop (m + 1))) rfl (by simp) ?_
        refine wl_y rfl (y_assign rfl) ?_
        refine wl_nil ?_
        refine wq_then ?_
        refine wc_region ?_
        refine wl_y rfl (y_move rfl) ?_
        refine wl_y rfl (y_add rfl rfl (by omega)) ?_
        refine wl_same 57 (vI ((dn ++ [r.take m]).length : Nat)) rfl (by simp) ?_
        refine wl_y rfl (y_assign rfl) ?_
        refine wl_nil ?_
        refine wq_block_normal ?_
        have hIe : (dn ++ [r.take m]) ++ parts c (r.drop (m + 1)) = parts c s := by
          rw [← hI]
          conv => rhs; rw [hcut.1, parts_cut hcut.2]
          simp
        exact wq_round (dn ++ [r.take m], r.drop (m + 1)) (by simp only [List.length_drop]; omega) ⟨hIe, by simp only [List.length_drop]; omega⟩ ⟨rfl, rfl, rfl, rfl, rfl, rfl, trivial⟩ (fun w hw => hw)
    ·
      simp at hc36
      refine wc_exit ?_
      refine wq_then_exit (wq_then_exit (wq_block_exit ?_))
      refine wq_then ?_
      refine wc_seq ?_
      refine wc_region ?_
      have hnr : c ∉ r := by
        first
          | exact List.count_eq_zero.1 (by omega)
          | exact fun hx => by
              obtain ⟨i, hi⟩ := List.mem_iff_getElem?.1 hx
              exact Lib.indexByte_none (by have := Lib.indexByte_ge r c; omega) i hi
      have hcr : r.count c = 0 := List.count_eq_zero.2 hnr
      have hIr := hI
      rw [parts_last hnr] at hIr
      refine wl_y rfl (y_move rfl) ?_
      refine wl_y rfl (y_move rfl) ?_
      refine wl_y rfl (y_move rfl) ?_
      refine wl_y rfl (y_indexAddr (i := dn.length) Tryd.underlying52 T9 rfl rfl rfl (by omega) (fun _ _ => rfl)) ?_
      refine wl_u (yu_storeSl [] (e := 9) T9 rfl rfl rfl rfl rfl (by simp; omega)) ?_
      refine wl_world (S' := Hp w0 K [slc 9 1 (some ⟨b31, 0, none⟩) (s.count c + 1) (s.count c + 1) ((dn ++ [r]).map vS ++ List.replicate (s.count c + 1 - (dn ++ [r]).length) (vS []))]) (fun w hw => by rw [List.nil_append, fillS dn r (by omega)] at hw; exact hw) ?_
      refine wl_nil ?_
      refine wq_then ?_
      refine wc_seq ?_
      refine wc_region ?_
      refine wl_y rfl (y_move rfl) ?_
      refine wl_y rfl (y_move rfl) ?_
      refine wl_y rfl (y_add rfl rfl (by omega)) ?_
      refine wl_y rfl (y_sliceSl (i := 0) (j := s.count c + 1) Tryd.underlying52 T9 rfl rfl ⟨_, rfl, by omega⟩ (by omega) (by omega)) ?_
      refine wl_y rfl (y_assign rfl) ?_
      refine wl_nil ?_
      refine wq_then ?_
      refine wc_ret ?_
      refine wq_ret1 rfl rfl (fun w hw => ?_)
      exact ⟨(_, s.count c + 1), trivial, by rw [parts_len]; rfl, by
        have h3 := Hp.mono_at [] hw (fun g hg => slc_take (s.count c + 1) hg (Nat.le_refl _))
        rw [List.take_of_length_le (by simp; omega), show s.count c + 1 - (dn ++ [r]).length = 0 by simp; omega, List.replicate_zero, List.append_nil, hIr] at h3
        rw [parts_len]; exact h3⟩

end Go.Proofs.YtemopomapankmaaDoor
