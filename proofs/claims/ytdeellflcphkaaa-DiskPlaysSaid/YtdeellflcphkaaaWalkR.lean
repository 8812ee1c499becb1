/-
  Walks: the reference's Crash.
-/
import Derived.Test.YtdeellflcphkaaaWalkQ
namespace Go.Proofs.Ytdeellflcphkaaa
open Go.Eng

/-- A crash at one file. -/
def Gf.hit (x : Gf) (ks : List Int) : Gf × List Int :=
  if (x.data.length : Int) - x.firm = 0 then (x, ks)
  else (⟨x.name, x.data.take (x.firm + (max (ks.headD 0) 0) % ((x.data.length : Int) - x.firm + 1)).toNat, x.firm + (max (ks.headD 0) 0) % ((x.data.length : Int) - x.firm + 1)⟩, ks.tail)
def hitL : List Gf → List Int → List Gf × List Int
  | [], ks => ([], ks)
  | x :: l, ks => ((x.hit ks).1 :: (hitL l (x.hit ks).2).1, (hitL l (x.hit ks).2).2)
theorem hitL_len : ∀ (l : List Gf) (ks : List Int), (hitL l ks).1.length = l.length
  | [], _ => rfl
  | x :: l, ks => by simp [hitL, hitL_len l]
theorem hitL_snoc : ∀ (l : List Gf) (x : Gf) (ks : List Int), hitL (l ++ [x]) ks = ((hitL l ks).1 ++ [(x.hit (hitL l ks).2).1], (x.hit (hitL l ks).2).2)
  | [], x, ks => rfl
  | y :: l, x, ks => by simp only [List.cons_append, hitL, hitL_snoc l x]
/-- The files when the crash has gone over i of them. -/
def hitN (l : List Gf) (ks : List Int) (i : Nat) : List Gf := (hitL (l.take i) ks).1 ++ l.drop i
theorem hitN_len (l : List Gf) (ks : List Int) {i : Nat} (h : i ≤ l.length) : (hitN l ks i).length = l.length := by
  rw [hitN, List.length_append, hitL_len, List.length_take, List.length_drop]; omega
theorem hitN_at {l : List Gf} {ks : List Int} {i : Nat} {x : Gf} (h : l[i]? = some x) : (hitN l ks i)[i]? = some x := by
  have hl := (List.getElem?_eq_some_iff.1 h).1
  have e : (hitL (l.take i) ks).1.length = i := by rw [hitL_len, List.length_take]; omega
  rw [hitN, List.getElem?_append_right (by omega), e, Nat.sub_self, List.getElem?_drop, Nat.add_zero, h]
theorem hitN_step {l : List Gf} {ks : List Int} {i : Nat} {x : Gf} (h : l[i]? = some x) : hitN l ks (i + 1) = (hitN l ks i).set i (x.hit (hitL (l.take i) ks).2).1 := by
  have hl := (List.getElem?_eq_some_iff.1 h).1
  have e : (hitL (l.take i) ks).1.length = i := by rw [hitL_len, List.length_take]; omega
  have ht : l.take (i + 1) = l.take i ++ [x] := by rw [List.take_add_one, h]; rfl
  have hd : l.drop i = x :: l.drop (i + 1) := by
    rw [List.drop_eq_getElem_cons hl]; rw [List.getElem?_eq_getElem hl] at h; rw [Option.some.inj h]
  rw [hitN, ht, hitL_snoc, hitN, hd, List.set_append_right _ _ (by omega), e, Nat.sub_self, List.set_cons_zero]
  simp
theorem hit_rest {l : List Gf} {ks : List Int} {i : Nat} {x : Gf} (h : l[i]? = some x) : (hitL (l.take (i + 1)) ks).2 = (x.hit (hitL (l.take i) ks).2).2 := by
  have ht : l.take (i + 1) = l.take i ++ [x] := by rw [List.take_add_one, h]; rfl
  rw [ht, hitL_snoc]
theorem hit_firm {x : Gf} (h1 : 0 ≤ x.firm) (h2 : x.firm ≤ (x.data.length : Nat)) (k : Int) (hn : ¬ (x.data.length : Int) - x.firm = 0) : 0 ≤ (max k 0) % ((x.data.length : Int) - x.firm + 1) ∧ x.firm + (max k 0) % ((x.data.length : Int) - x.firm + 1) ≤ x.data.length := by
  have a := Int.emod_nonneg (max k 0) (show (x.data.length : Int) - x.firm + 1 ≠ 0 by omega)
  have b := Int.emod_lt_of_pos (max k 0) (show 0 < (x.data.length : Int) - x.firm + 1 by omega)
  exact ⟨a, by omega⟩
def Rk.crash (r : Rk) (ks : List Int) : Rk := ⟨(hitL r.l ks).1, r.limit, 0, false⟩
theorem hitN_all (l : List Gf) (ks : List Int) : hitN l ks l.length = (hitL l ks).1 := by rw [hitN, List.take_length, List.drop_length, List.append_nil]
theorem set_same {α : Type} {l : List α} {i : Nat} {x : α} (h : l[i]? = some x) : l.set i x = l := by
  obtain ⟨hl, rfl⟩ := List.getElem?_eq_some_iff.1 h
  exact List.set_getElem_self hl
theorem drop_head {ks : List Int} {k : Nat} (h : k < ks.length) : (ks.drop k).headD 0 = ks[k] ∧ ks[k]? = some ks[k] := by
  rw [List.drop_eq_getElem_cons h]; exact ⟨rfl, List.getElem?_eq_getElem h⟩
theorem drop_none {ks : List Int} {k : Nat} (h : ks.length ≤ k) : (ks.drop k).headD 0 = 0 := by rw [List.drop_of_length_le h]; rfl
theorem drop_tail (ks : List Int) (k : Nat) : (ks.drop k).tail = ks.drop (k + 1) := by rw [List.tail_drop]
set_option maxHeartbeats 1000000 in
theorem rcrash_c (b : Nat) (r : Rk) (hr : r.fine) (hf : ∀ x ∈ r.l, 0 ≤ x.firm ∧ x.firm ≤ (x.data.length : Nat)) (hz : ∀ x ∈ r.l, x.data.length ≤ 1000000000) (ks0 : List Int) (ko : Option Addr) (kc : Nat) :
    Ctr Try.prog 26 #[ptr b, .slice ko ks0.length kc] [rsl ko ks0.length 1 (ks0.map vI)] [rkA b r] (fun _ : Unit => True) (fun _ => .tuple #[]) (fun _ => [rkA b (r.crash ks0)]) := by
  refine spec_start (n := 98) [(0, ptr b), (1, .slice ko ks0.length kc)] Try.func26 rfl rfl ⟨rfl, rfl, trivial⟩ rfl ?_
  intro w0 K hR
  obtain ⟨h5, ha0, ha1⟩ := id hr
  refine wc_ex rk_open (fun oc => ?_)
  have hA := hR (rsl ko ks0.length 1 (ks0.map vI)) (by simp)
  refine wc_seq ?_
  refine wc_region ?_
  refine wl_y rfl (y_assign rfl) ?_
  refine wl_nil ?_
  refine wq_then ?_
  refine wc_seq ?_
  refine wc_seq ?_
  refine wc_region ?_
  refine wl_y rfl (y_assign rfl) ?_
  refine wl_nil ?_
  refine wq_then ?_
  refine wc_block ?_
  refine wc_loop (α := Nat × Nat) (fun y => y.1 ≤ r.l.length ∧ y.2 ≤ y.1 ∧ (hitL (r.l.take y.1) ks0).2 = ks0.drop y.2) [(0, _), (1, _)] (fun y => [(5, vI y.1), (4, vI y.2)]) (fun y => Hp w0 K [blk b (.cells [.slice oc.1 r.l.length oc.2, vI r.limit, vI r.armed, vB r.dead].toArray 69 (0, 0)), slc 71 3 oc.1 r.l.length oc.2 ((hitN r.l ks0 y.1).flatMap encG)]) (fun y => r.l.length - y.1) (0, 0) ?_ ⟨rfl, rfl, rfl, rfl, trivial⟩ ?_ ?_
  · exact ⟨Nat.zero_le _, Nat.le_refl _, rfl⟩
  · exact fun w hw => hw
  · rintro ⟨i, k⟩ ⟨hi, hk, hks⟩; simp only at hi hk hks
    have hnl := hitN_len r.l ks0 hi
    refine wc_world (S' := Hp w0 K [blk b (.cells [.slice oc.1 r.l.length oc.2, vI r.limit, vI r.armed, vB r.dead].toArray 69 (0, 0)), slc 71 3 oc.1 r.l.length oc.2 ((hitN r.l ks0 i).flatMap encG)]) (fun w hw => hw) ?_
    refine wc_same 5 (vI i) rfl rfl ?_
    refine wc_same 4 (vI k) rfl rfl ?_
    refine wc_seq ?_
    refine wc_seq ?_
    refine wc_region ?_
    refine wl_y rfl (y_move rfl) ?_
    refine wl_y rfl (y_move rfl) ?_
    refine wl_y rfl (y_nilCheck rfl) ?_
    refine wl_y rfl (y_fieldAddr F69_0 rfl) ?_
    refine wl_y rfl (y_load NA67 rfl (by first | exact cell_blk [] rfl | exact cell_blk [_] rfl | exact cell_blk [_, _] rfl | exact cell_blk [_, _, _] rfl | exact cell_blk [_, _, _, _] rfl | exact cell_blk [_, _, _, _, _] rfl | exact cellR_blk (by assumption) rfl)) ?_
    refine wl_y rfl (y_lenSl Try.underlying67 rfl) ?_
    refine wl_y rfl (y_lss rfl rfl) ?_
    refine wl_nil ?_
    refine wq_then ?_
    refine wc_cond rfl (fun hc14 => ?_) (fun hc14 => ?_)
    ·
      simp at hc14
      refine wc_skip ?_
      refine wq_then ?_
      refine wc_seq ?_
      refine wc_block ?_
      refine wc_seq ?_
      refine wc_quiet MO (by kernel_rfl) (Hp.drawless _ _ _) ?_
      obtain ⟨x, hx⟩ : ∃ x, r.l[i]? = some x := ⟨_, List.getElem?_eq_getElem (by omega)⟩
      have hxn := hitN_at (ks := ks0) hx
      have hst := hitN_step (ks := ks0) hx
      have hrs := hit_rest (ks := ks0) hx
      rw [hks] at hst hrs
      obtain ⟨hf1, hf2⟩ := hf x (List.mem_of_getElem? hx)
      have hxz := hz x (List.mem_of_getElem? hx)
      refine wt_y rfl (y_move rfl) ?_
      refine wt_y rfl (y_nilCheck rfl) ?_
      refine wt_y rfl (y_fieldAddr F69_0 rfl) ?_
      refine wt_y rfl (y_load NA67 rfl (by first | exact cell_blk [] rfl | exact cell_blk [_] rfl | exact cell_blk [_, _] rfl | exact cell_blk [_, _, _] rfl | exact cell_blk [_, _, _, _] rfl | exact cell_blk [_, _, _, _, _] rfl | exact cellR_blk (by assumption) rfl)) ?_
      refine wt_y rfl (y_move rfl) ?_
      refine wt_y rfl (y_indexAddr Try.underlying67 T71 rfl rfl rfl (by omega) (by first | assumption | exact fun _ _ => rfl | exact fun w hw => hw.slc_isSome [] (by omega) | exact fun w hw => hw.slc_isSome [_] (by omega) | exact fun w hw => hw.slc_isSome [_, _] (by omega) | exact fun w hw => hw.slc_isSome [_, _, _] (by omega) | exact fun w hw => hw.slc_isSome [_, _, _, _] (by omega) | exact fun w hw => hw.slc_isSome [_, _, _, _, _] (by omega))) ?_
      refine wt_y rfl (y_fieldAddr_adr F71_1 rfl) ?_
      refine wt_y rfl (y_load NA9 rfl (by first | exact cell_own [] (rows_get encG_len hxn rfl) | exact cell_own [_] (rows_get encG_len hxn rfl) | exact cell_own [_, _] (rows_get encG_len hxn rfl) | exact cell_own [_, _, _] (rows_get encG_len hxn rfl) | exact cell_own [_, _, _, _] (rows_get encG_len hxn rfl) | exact cell_own [_, _, _, _, _] (rows_get encG_len hxn rfl))) ?_
      refine wt_y rfl (y_lenS Try.underlying9 rfl) ?_
      refine wt_y rfl (y_move rfl) ?_
      refine wt_y rfl (y_nilCheck rfl) ?_
      refine wt_y rfl (y_fieldAddr F69_0 rfl) ?_
      refine wt_y rfl (y_load NA67 rfl (by first | exact cell_blk [] rfl | exact cell_blk [_] rfl | exact cell_blk [_, _] rfl | exact cell_blk [_, _, _] rfl | exact cell_blk [_, _, _, _] rfl | exact cell_blk [_, _, _, _, _] rfl | exact cellR_blk (by assumption) rfl)) ?_
      refine wt_y rfl (y_move rfl) ?_
      refine wt_y rfl (y_indexAddr Try.underlying67 T71 rfl rfl rfl (by omega) (by first | assumption | exact fun _ _ => rfl | exact fun w hw => hw.slc_isSome [] (by omega) | exact fun w hw => hw.slc_isSome [_] (by omega) | exact fun w hw => hw.slc_isSome [_, _] (by omega) | exact fun w hw => hw.slc_isSome [_, _, _] (by omega) | exact fun w hw => hw.slc_isSome [_, _, _, _] (by omega) | exact fun w hw => hw.slc_isSome [_, _, _, _, _] (by omega))) ?_
      refine wt_y rfl (y_fieldAddr_adr F71_2 rfl) ?_
      refine wt_y rfl (y_load NA3 rfl (by first | exact cell_own [] (rows_get encG_len hxn rfl) | exact cell_own [_] (rows_get encG_len hxn rfl) | exact cell_own [_, _] (rows_get encG_len hxn rfl) | exact cell_own [_, _, _] (rows_get encG_len hxn rfl) | exact cell_own [_, _, _, _] (rows_get encG_len hxn rfl) | exact cell_own [_, _, _, _, _] (rows_get encG_len hxn rfl))) ?_
      refine wt_y rfl (y_sub rfl rfl (by omega)) ?_
      refine wt_y rfl (y_assign rfl) ?_
      refine wt_nil ?_
      refine wq_then ?_
      refine wc_seq ?_
      refine wc_seq ?_
      refine wc_region ?_
      refine wl_y rfl (y_move rfl) ?_
      refine wl_y rfl (y_eqlI rfl rfl) ?_
      refine wl_nil ?_
      refine wq_then ?_
      refine wc_cond rfl (fun hc36 => ?_) (fun hc36 => ?_)
      ·
        simp at hc36
        refine wc_exit ?_
        refine wq_then_exit (wq_block_exit ?_)
        refine wq_then ?_
        refine wc_region ?_
        refine wl_y rfl (y_move rfl) ?_
        refine wl_y rfl (y_add rfl rfl (by omega)) ?_
        refine wl_y rfl (y_assign rfl) ?_
        refine wl_nil ?_
        have hit1 : x.hit (ks0.drop k) = (x, ks0.drop k) := if_pos hc36
        rw [hit1] at hst hrs
        have hse : (hitN r.l ks0 i).set i x = hitN r.l ks0 i := set_same hxn
        exact wq_round (i + 1, k) (by simp only; omega) ⟨by simp only; omega, by simp only; omega, hrs⟩ ⟨rfl, rfl, rfl, rfl, trivial⟩ (fun w hw => by rw [hst, hse]; exact hw)
      ·
        simp at hc36
        refine wc_skip ?_
        refine wq_then ?_
        refine wc_seq ?_
        refine wc_region ?_
        refine wl_y rfl (y_assign rfl) ?_
        refine wl_nil ?_
        refine wq_then ?_
        refine wc_seq (wc_cut (α := Unit) (fun x => True) [(0, _), (1, _), (4, _), (5, _), (6, _)] (fun x => [(7, vI (max ((ks0.drop k).headD 0) 0))]) (fun x => Hp w0 K [blk b (.cells [.slice oc.1 r.l.length oc.2, vI r.limit, vI r.armed, vB r.dead].toArray 69 (0, 0)), slc 71 3 oc.1 r.l.length oc.2 ((hitN r.l ks0 i).flatMap encG)]) ⟨rfl, rfl, rfl, rfl, rfl, trivial⟩ ?_ ?_)
        ·
          refine wc_seq ?_
          refine wc_region ?_
          refine wl_y rfl (y_move rfl) ?_
          refine wl_y rfl (y_move rfl) ?_
          refine wl_y rfl (y_lenSl Try.underlying44 rfl) ?_
          refine wl_y rfl (y_lss rfl rfl) ?_
          refine wl_nil ?_
          refine wq_then ?_
          refine wc_cond rfl (fun hc40 => ?_) (fun hc40 => ?_)
          ·
            simp at hc40
            refine wc_region ?_
            refine wl_y rfl (y_move rfl) ?_
            refine wl_y rfl (y_move rfl) ?_
            refine wl_y rfl (y_indexAddr (i := k) Try.underlying44 T3 rfl rfl rfl (by omega) (fun _ _ => hA.isSome (by omega))) ?_
            refine wl_y rfl (y_load NA3 rfl (cell_ro hA (row_get (drop_head (by omega)).2))) ?_
            refine wl_y rfl (y_max rfl rfl) ?_
            refine wl_y rfl (y_assign rfl) ?_
            refine wl_nil ?_
            refine wq_same 7 (vI (max ((ks0.drop k).headD 0) 0)) rfl (by rw [(drop_head (by omega)).1]) ?_
            exact wq_cut () trivial ⟨rfl, rfl, rfl, rfl, rfl, rfl, trivial⟩ (fun w hw => hw)
          ·
            simp at hc40
            refine wc_skip ?_
            refine wq_same 7 (vI (max ((ks0.drop k).headD 0) 0)) rfl (by rw [drop_none (by omega)]; rfl) ?_
            exact wq_cut () trivial ⟨rfl, rfl, rfl, rfl, rfl, rfl, trivial⟩ (fun w hw => hw)
        · intro _ _
          refine all_wc ?_
          refine wc_seq ?_
          refine wc_region ?_
          obtain ⟨hq1, hq2⟩ := hit_firm hf1 hf2 ((ks0.drop k).headD 0) hc36
          refine wl_have (p := oc.1.isSome = true) (fun w hw => hw.slc_isSome [_] (by omega)) (fun hos => ?_)
          refine wl_y rfl (y_move rfl) ?_
          refine wl_y rfl (y_add rfl rfl (by omega)) ?_
          refine wl_y rfl (y_assign rfl) ?_
          refine wl_nil ?_
          refine wq_then ?_
          refine wc_seq ?_
          refine wc_mix (.q 0 0 (.q 1 0 (.q 2 0 (.q 3 0 (.q 4 0 (.q 5 0 (.q 6 0 (.q 7 0 (.q 8 0 (.q 9 0 (.q 10 0 (.q 11 0 (.q 12 0 (.q 13 0 (.q 14 0 (.q 15 0 (.q 16 0 (.q 17 0 (.q 18 0 (.q 19 0 (.w 20 3 .nil .nil))))))))))))))))))))) (Sees [blk b (.cells [.slice oc.1 r.l.length oc.2, vI r.limit, vI r.armed, vB r.dead].toArray 69 (0, 0)), slc 71 3 oc.1 r.l.length oc.2 ((hitN r.l ks0 i).flatMap encG)]) MO (by kernel_rfl) (Hp.drawless _ _ _) (fun w hw => by refine ⟨?_, ?_, trivial⟩ <;> first | exact hw.seen [] | exact hw.seen [_] | exact hw.seen [_, _] | exact hw.seen [_, _, _] | exact hw.seen [_, _, _, _] | exact hw.seen [_, _, _, _, _]) ?_
          refine wm_g rfl rfl (y_move rfl) ?_
          refine wm_g rfl rfl (y_nilCheck rfl) ?_
          refine wm_g rfl rfl (y_fieldAddr F69_0 rfl) ?_
          refine wm_g rfl rfl (y_load NA67 rfl (fun w hw => by first | exact cell_of_heap hw.1.blk rfl | exact cell_of_heap hw.2.1.blk rfl)) ?_
          refine wm_g rfl rfl (y_move rfl) ?_
          refine wm_g rfl rfl (y_move rfl) ?_
          refine wm_g rfl rfl (y_nilCheck rfl) ?_
          refine wm_g rfl rfl (y_fieldAddr F69_0 rfl) ?_
          refine wm_g rfl rfl (y_load NA67 rfl (fun w hw => by first | exact cell_of_heap hw.1.blk rfl | exact cell_of_heap hw.2.1.blk rfl)) ?_
          refine wm_g rfl rfl (y_move rfl) ?_
          refine wm_g rfl rfl (y_indexAddr (i := i) Try.underlying67 T71 rfl rfl rfl (by omega) (fun _ _ => hos)) ?_
          refine wm_g rfl rfl (y_fieldAddr_adr F71_2 rfl) ?_
          refine wm_g rfl rfl (y_load NA3 rfl (fun w hw => hw.2.1.slcCell (rows_get encG_len hxn rfl))) ?_
          refine wm_g rfl rfl (y_move rfl) ?_
          refine wm_g rfl rfl (y_move rfl) ?_
          refine wm_g rfl rfl (y_add rfl rfl (by omega)) ?_
          refine wm_g rfl rfl (y_rem rfl rfl (by omega)) ?_
          refine wm_same 64 (vI ((max ((ks0.drop k).headD 0) 0) % ((x.data.length : Int) - x.firm + 1))) rfl (by rw [Int.tmod_eq_emod_of_nonneg (by omega)]) ?_
          refine wm_g rfl rfl (y_add rfl rfl (by omega)) ?_
          refine wm_g rfl rfl (y_indexAddr (i := i) Try.underlying67 T71 rfl rfl rfl (by omega) (fun _ _ => hos)) ?_
          refine wm_g rfl rfl (y_fieldAddr_adr F71_2 rfl) ?_
          refine wm_u3 rfl (yu_storeSl [_] (e := 71) T3 rfl rfl rfl rfl rfl (by simp [rows_length encG_len, hnl]; omega)) ?_
          have e2 := rows_setOne encG_len (j := 2) (x' := (⟨x.name, x.data, (x.firm + (max ((ks0.drop k).headD 0) 0) % ((x.data.length : Int) - x.firm + 1))⟩ : Gf)) (v := vI (x.firm + (max ((ks0.drop k).headD 0) 0) % ((x.data.length : Int) - x.firm + 1))) hxn (by omega) rfl
          refine wm_world (S' := Hp w0 K [blk b (.cells [.slice oc.1 r.l.length oc.2, vI r.limit, vI r.armed, vB r.dead].toArray 69 (0, 0)), slc 71 3 oc.1 r.l.length oc.2 (((hitN r.l ks0 i).set i (⟨x.name, x.data, (x.firm + (max ((ks0.drop k).headD 0) 0) % ((x.data.length : Int) - x.firm + 1))⟩ : Gf)).flatMap encG)]) (fun w hw => by rw [e2] at hw; exact hw) ?_
          have hx1 : ((hitN r.l ks0 i).set i (⟨x.name, x.data, (x.firm + (max ((ks0.drop k).headD 0) 0) % ((x.data.length : Int) - x.firm + 1))⟩ : Gf))[i]? = some (⟨x.name, x.data, (x.firm + (max ((ks0.drop k).headD 0) 0) % ((x.data.length : Int) - x.firm + 1))⟩ : Gf) := by rw [List.getElem?_set, if_pos rfl, if_pos (by rw [hnl]; omega)]
          refine wm_nil ?_
          refine all_wq ?_
          refine wq_then ?_
          refine wc_mix (.q 0 0 (.q 1 0 (.q 2 0 (.q 3 0 (.q 4 0 (.q 5 0 (.q 6 0 (.q 7 0 (.q 8 0 (.q 9 0 (.q 10 0 (.q 11 0 (.q 12 0 (.q 13 0 (.q 14 0 (.q 15 0 (.q 16 0 (.q 17 0 (.q 18 0 (.q 19 0 (.q 20 0 (.q 21 0 (.q 22 0 (.q 23 0 (.w 24 3 .nil .nil))))))))))))))))))))))))) (Sees [blk b (.cells [.slice oc.1 r.l.length oc.2, vI r.limit, vI r.armed, vB r.dead].toArray 69 (0, 0)), slc 71 3 oc.1 r.l.length oc.2 (((hitN r.l ks0 i).set i (⟨x.name, x.data, (x.firm + (max ((ks0.drop k).headD 0) 0) % ((x.data.length : Int) - x.firm + 1))⟩ : Gf)).flatMap encG)]) MO (by kernel_rfl) (Hp.drawless _ _ _) (fun w hw => by refine ⟨?_, ?_, trivial⟩ <;> first | exact hw.seen [] | exact hw.seen [_] | exact hw.seen [_, _] | exact hw.seen [_, _, _] | exact hw.seen [_, _, _, _] | exact hw.seen [_, _, _, _, _]) ?_
          skip
          refine wm_g rfl rfl (y_move rfl) ?_
          refine wm_g rfl rfl (y_nilCheck rfl) ?_
          refine wm_g rfl rfl (y_fieldAddr F69_0 rfl) ?_
          refine wm_g rfl rfl (y_load NA67 rfl (fun w hw => by first | exact cell_of_heap hw.1.blk rfl | exact cell_of_heap hw.2.1.blk rfl)) ?_
          refine wm_g rfl rfl (y_move rfl) ?_
          refine wm_g rfl rfl (y_move rfl) ?_
          refine wm_g rfl rfl (y_nilCheck rfl) ?_
          refine wm_g rfl rfl (y_fieldAddr F69_0 rfl) ?_
          refine wm_g rfl rfl (y_load NA67 rfl (fun w hw => by first | exact cell_of_heap hw.1.blk rfl | exact cell_of_heap hw.2.1.blk rfl)) ?_
          refine wm_g rfl rfl (y_move rfl) ?_
          refine wm_g rfl rfl (y_indexAddr (i := i) Try.underlying67 T71 rfl rfl rfl (by omega) (fun _ _ => hos)) ?_
          refine wm_g rfl rfl (y_fieldAddr_adr F71_1 rfl) ?_
          refine wm_g rfl rfl (y_load (v := vS x.data) NA9 rfl (fun w hw => hw.2.1.slcCell (rows_get encG_len hx1 rfl))) ?_
          refine wm_g rfl rfl (y_move rfl) ?_
          refine wm_g rfl rfl (y_nilCheck rfl) ?_
          refine wm_g rfl rfl (y_fieldAddr F69_0 rfl) ?_
          refine wm_g rfl rfl (y_load NA67 rfl (fun w hw => by first | exact cell_of_heap hw.1.blk rfl | exact cell_of_heap hw.2.1.blk rfl)) ?_
          refine wm_g rfl rfl (y_move rfl) ?_
          refine wm_g rfl rfl (y_indexAddr (i := i) Try.underlying67 T71 rfl rfl rfl (by omega) (fun _ _ => hos)) ?_
          refine wm_g rfl rfl (y_fieldAddr_adr F71_2 rfl) ?_
          refine wm_g rfl rfl (y_load (v := vI (x.firm + (max ((ks0.drop k).headD 0) 0) % ((x.data.length : Int) - x.firm + 1))) NA3 rfl (fun w hw => hw.2.1.slcCell (rows_get encG_len hx1 rfl))) ?_
          refine wm_g rfl rfl (y_sliceS (i := 0) (j := (x.firm + (max ((ks0.drop k).headD 0) 0) % ((x.data.length : Int) - x.firm + 1)).toNat) (r := x.data.take (x.firm + (max ((ks0.drop k).headD 0) 0) % ((x.data.length : Int) - x.firm + 1)).toNat) Try.underlying9 rfl rfl ⟨_, rfl, by omega⟩ (by omega) (by omega) rfl) ?_
          refine wm_g rfl rfl (y_indexAddr (i := i) Try.underlying67 T71 rfl rfl rfl (by omega) (fun _ _ => hos)) ?_
          refine wm_g rfl rfl (y_fieldAddr_adr F71_1 rfl) ?_
          refine wm_u3 rfl (yu_storeSl [_] (e := 71) T9 rfl rfl rfl rfl rfl (by simp [rows_length encG_len, hnl]; omega)) ?_
          have e3 := rows_setOne encG_len (j := 1) (x' := (⟨x.name, x.data.take (x.firm + (max ((ks0.drop k).headD 0) 0) % ((x.data.length : Int) - x.firm + 1)).toNat, (x.firm + (max ((ks0.drop k).headD 0) 0) % ((x.data.length : Int) - x.firm + 1))⟩ : Gf)) (v := vS (x.data.take (x.firm + (max ((ks0.drop k).headD 0) 0) % ((x.data.length : Int) - x.firm + 1)).toNat)) hx1 (by omega) rfl
          have hit2 : (x.hit (ks0.drop k)).1 = (⟨x.name, x.data.take (x.firm + (max ((ks0.drop k).headD 0) 0) % ((x.data.length : Int) - x.firm + 1)).toNat, (x.firm + (max ((ks0.drop k).headD 0) 0) % ((x.data.length : Int) - x.firm + 1))⟩ : Gf) := by rw [Gf.hit, if_neg hc36]
          rw [hit2] at hst
          refine wm_world (S' := Hp w0 K [blk b (.cells [.slice oc.1 r.l.length oc.2, vI r.limit, vI r.armed, vB r.dead].toArray 69 (0, 0)), slc 71 3 oc.1 r.l.length oc.2 ((hitN r.l ks0 (i + 1)).flatMap encG)]) (fun w hw => by rw [e3, List.set_set] at hw; rw [hst]; exact hw) ?_
          refine wm_nil ?_
          refine all_wq ?_
          refine wq_block_normal ?_
          refine wq_then ?_
          refine wc_region ?_
          refine wl_y rfl (y_move rfl) ?_
          refine wl_y rfl (y_add rfl rfl (by omega)) ?_
          refine wl_y rfl (y_assign rfl) ?_
          refine wl_nil ?_
          have hit3 : (x.hit (ks0.drop k)).2 = (ks0.drop k).tail := by rw [Gf.hit, if_neg hc36]
          rw [hit3, drop_tail] at hrs
          exact wq_round (i + 1, k + 1) (by simp only; omega) ⟨by simp only; omega, by simp only; omega, hrs⟩ ⟨rfl, rfl, rfl, rfl, trivial⟩ (fun w hw => hw)
    ·
      simp at hc14
      refine wc_exit ?_
      refine wq_then_exit (wq_then_exit (wq_block_exit ?_))
      refine wq_then ?_
      refine wc_seq ?_
      refine wc_region ?_
      refine wl_y rfl (y_move rfl) ?_
      refine wl_y rfl (y_nilCheck rfl) ?_
      refine wl_y rfl (y_fieldAddr F69_3 rfl) ?_
      first | refine wl_u (yu_store [] (l' := [_, _, _, _]) T4 rfl rfl rfl rfl rfl rfl rfl) ?_ | refine wl_u (yu_store [_] (l' := [_, _, _, _]) T4 rfl rfl rfl rfl rfl rfl rfl) ?_ | refine wl_u (yu_store [_, _] (l' := [_, _, _, _]) T4 rfl rfl rfl rfl rfl rfl rfl) ?_ | refine wl_u (yu_store [_, _, _] (l' := [_, _, _, _]) T4 rfl rfl rfl rfl rfl rfl rfl) ?_ | refine wl_u (yu_store [_, _, _, _] (l' := [_, _, _, _]) T4 rfl rfl rfl rfl rfl rfl rfl) ?_ | refine wl_u (yu_store [_, _, _, _, _] (l' := [_, _, _, _]) T4 rfl rfl rfl rfl rfl rfl rfl) ?_
      refine wl_nil ?_
      refine wq_then ?_
      refine wc_region ?_
      refine wl_y rfl (y_move rfl) ?_
      refine wl_y rfl (y_nilCheck rfl) ?_
      refine wl_y rfl (y_fieldAddr F69_2 rfl) ?_
      first | refine wl_u (yu_store [] (l' := [_, _, _, _]) T3 rfl rfl rfl rfl rfl rfl rfl) ?_ | refine wl_u (yu_store [_] (l' := [_, _, _, _]) T3 rfl rfl rfl rfl rfl rfl rfl) ?_ | refine wl_u (yu_store [_, _] (l' := [_, _, _, _]) T3 rfl rfl rfl rfl rfl rfl rfl) ?_ | refine wl_u (yu_store [_, _, _] (l' := [_, _, _, _]) T3 rfl rfl rfl rfl rfl rfl rfl) ?_ | refine wl_u (yu_store [_, _, _, _] (l' := [_, _, _, _]) T3 rfl rfl rfl rfl rfl rfl rfl) ?_ | refine wl_u (yu_store [_, _, _, _, _] (l' := [_, _, _, _]) T3 rfl rfl rfl rfl rfl rfl rfl) ?_
      refine wl_nil ?_
      refine wq_end0 rfl (fun w hw => ?_)
      obtain rfl : i = r.l.length := by omega
      rw [hitN_all] at hw
      exact ⟨(), trivial, rfl, rk_shut oc (by simp only [Rk.crash, rkAs, rkCells, hitL_len]; exact hw)⟩

end Go.Proofs.Ytdeellflcphkaaa
