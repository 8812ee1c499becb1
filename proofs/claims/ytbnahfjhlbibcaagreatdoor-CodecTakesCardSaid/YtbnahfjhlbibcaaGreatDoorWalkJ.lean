/-
  Walks: the reference's Num and List.
-/
import Derived.Test.YtbnahfjhlbibcaaGreatDoorWalkI
namespace Go.Proofs.YtbnahfjhlbibcaaGreatDoor
open Go.Eng

open Go.Lib
set_option maxHeartbeats 1000000 in
theorem rnum_p (b : Nat) (r : Rdr') (hl : r.rest.length ≤ 1000000000) :
    Ctr Tryz.prog 23 #[ptr b] [] [rdA 72 b r] (fun _ : Unit => True) (fun _ => vI r.num.2) (fun _ => [rdA 72 b r.num.1]) := by
  refine spec_start (n := 24) [(0, ptr b)] Tryz.func23 rfl rfl ⟨rfl, trivial⟩ rfl ?_
  intro w0 K hR
  refine wc_seq ?_
  refine wc_region ?_
  refine wl_y rfl (y_assign rfl) ?_
  refine wl_nil ?_
  refine wq_then ?_
  refine wc_seq ?_
  refine wc_region ?_
  refine wl_y rfl (y_move rfl) ?_
  refine wl_c (fun _ _ => want_none) rfl (yc_spec (fst := []) (cap := []) _ FN38 (rtext_p b r hl) rfl rfl rfl (by (repeat (first | exact pt_nil | apply pt0 | apply pt1 | apply pt2 | apply pt3 | apply pt4 | apply pt5 | apply pt6 | apply pt7 | apply pt8 | apply pt9 | apply pt10 | apply pt11 | apply pt12 | apply pt13 | apply pt14 | apply pt15 | apply pt16 | apply pt17))) (by (repeat (first | exact ro_nil | exact ro_rest (by assumption) | refine ro_cons (by first | exact .inl (by assumption) | exact ro_f0 (fun _ h => h) | exact ro_f0 (fun _ => slc_rsl) | exact ro_f1 (fun _ h => h) | exact ro_f1 (fun _ => slc_rsl) | exact ro_f2 (fun _ h => h) | exact ro_f2 (fun _ => slc_rsl) | exact ro_f3 (fun _ h => h) | exact ro_f3 (fun _ => slc_rsl) | exact ro_f4 (fun _ h => h) | exact ro_f4 (fun _ => slc_rsl) | exact ro_f5 (fun _ h => h) | exact ro_f5 (fun _ => slc_rsl) | exact ro_f6 (fun _ h => h) | exact ro_f6 (fun _ => slc_rsl)) ?_)))) (wl_ex fun x7 hx7 => ?_)
  refine wl_y rfl (y_assign rfl) ?_
  refine wl_nil ?_
  refine wq_then ?_
  refine wc_seq ?_
  refine wc_seq ?_
  refine wc_region ?_
  refine wl_y rfl (y_move rfl) ?_
  refine wl_y rfl (y_nilCheck rfl) ?_
  refine wl_y rfl (y_fieldAddr F72_1 rfl) ?_
  refine wl_y rfl (y_load NA25 rfl (by first | exact cell_blk [] rfl | exact cell_blk [_] rfl | exact cell_blk [_, _] rfl | exact cellR_blk (by assumption) rfl)) ?_
  refine wl_y rfl (y_neqI rfl rfl) ?_
  refine wl_nil ?_
  refine wq_then ?_
  refine wc_cond rfl (fun hc12 => ?_) (fun hc12 => ?_)
  ·
    simp at hc12
    refine wc_seq ?_
    refine wc_region ?_
    refine wl_y rfl (y_assign rfl) ?_
    refine wl_nil ?_
    refine wq_then ?_
    refine wc_ret ?_
    refine wq_then_ret ?_
    refine wq_ret1 rfl rfl (fun w hw => ?_)
    have e : r.num = (r.text.1, 0) := if_pos (by omega)
    rw [e]; exact ⟨(), trivial, rfl, hw⟩
  ·
    simp at hc12
    refine wc_skip ?_
    refine wq_then ?_
    refine wc_seq ?_
    refine wc_region ?_
    refine wl_y rfl (y_move rfl) ?_
    refine wl_c (fun _ _ => want_none) rfl (yc_spec (fst := []) (cap := []) _ FN50 (rnumber_c r.text.2 (by have := (text_bounds r).1; omega)) rfl rfl rfl (by (repeat (first | exact pt_nil | apply pt0 | apply pt1 | apply pt2 | apply pt3 | apply pt4 | apply pt5 | apply pt6 | apply pt7 | apply pt8 | apply pt9 | apply pt10 | apply pt11 | apply pt12 | apply pt13 | apply pt14 | apply pt15 | apply pt16 | apply pt17))) (by (repeat (first | exact ro_nil | exact ro_rest (by assumption) | refine ro_cons (by first | exact .inl (by assumption) | exact ro_f0 (fun _ h => h) | exact ro_f0 (fun _ => slc_rsl) | exact ro_f1 (fun _ h => h) | exact ro_f1 (fun _ => slc_rsl) | exact ro_f2 (fun _ h => h) | exact ro_f2 (fun _ => slc_rsl) | exact ro_f3 (fun _ h => h) | exact ro_f3 (fun _ => slc_rsl) | exact ro_f4 (fun _ h => h) | exact ro_f4 (fun _ => slc_rsl) | exact ro_f5 (fun _ h => h) | exact ro_f5 (fun _ => slc_rsl) | exact ro_f6 (fun _ h => h) | exact ro_f6 (fun _ => slc_rsl)) ?_)))) (wl_ex fun x15 hx15 => ?_)
    refine wl_y rfl (y_move rfl) ?_
    refine wl_y rfl (y_extract rfl rfl) ?_
    refine wl_y rfl (y_extract rfl rfl) ?_
    refine wl_y rfl (y_assign rfl) ?_
    refine wl_y rfl (y_assign rfl) ?_
    refine wl_nil ?_
    refine wq_then ?_
    refine wc_seq ?_
    refine wc_seq ?_
    refine wc_region ?_
    refine wl_y rfl (y_move rfl) ?_
    refine wl_y rfl (y_not rfl) ?_
    refine wl_nil ?_
    refine wq_then ?_
    refine wc_cond rfl (fun hc19 => ?_) (fun hc19 => ?_)
    ·
      simp at hc19
      refine wc_seq ?_
      refine wc_region ?_
      refine wl_y rfl (y_move rfl) ?_
      refine wl_y rfl (y_nilCheck rfl) ?_
      refine wl_y rfl (y_fieldAddr F72_1 rfl) ?_
      first | refine wl_u (yu_store [] (l' := [_, _]) T25 rfl rfl rfl rfl rfl rfl rfl) ?_ | refine wl_u (yu_store [_] (l' := [_, _]) T25 rfl rfl rfl rfl rfl rfl rfl) ?_ | refine wl_u (yu_store [_, _] (l' := [_, _]) T25 rfl rfl rfl rfl rfl rfl rfl) ?_
      refine wl_nil ?_
      refine wq_then ?_
      refine wc_seq ?_
      refine wc_region ?_
      refine wl_y rfl (y_assign rfl) ?_
      refine wl_nil ?_
      refine wq_then ?_
      refine wc_ret ?_
      refine wq_then_ret ?_
      refine wq_ret1 rfl rfl (fun w hw => ?_)
      rcases hx15 with ⟨h1, h2⟩ | ⟨h1, h2⟩
      · rw [h1] at hc19; cases hc19
      · rw [num_off (by omega) h2]; exact ⟨(), trivial, rfl, hw⟩
    ·
      simp at hc19
      refine wc_skip ?_
      refine wq_then ?_
      refine wc_seq ?_
      refine wc_region ?_
      refine wl_y rfl (y_move rfl) ?_
      refine wl_y rfl (y_assign rfl) ?_
      refine wl_nil ?_
      refine wq_then ?_
      refine wc_ret ?_
      refine wq_ret1 rfl rfl (fun w hw => ?_)
      rcases hx15 with ⟨h1, h2⟩ | ⟨h1, h2⟩
      · rw [num_of (by omega) h2]; exact ⟨(), trivial, rfl, hw⟩
      · rw [h1] at hc19; cases hc19

structure ListI (s : Str) (z : Int) (x : Rdr') (out : List Str) : Prop where
  size : x.bad = 0 → out.length + x.rest.length ≤ 1000000000
  size2 : out.length ≤ 1000000001 ∧ x.rest.length ≤ 1000000000
  good : x.bad = 0 → textsF s = (textsF x.rest).map (out ++ ·)
  off : x.bad ≠ 0 → textsF s = none
  shut : z ≠ 0 → x = ⟨[], 0⟩ ∧ out = []
theorem listI_start {s : Str} {z : Int} (hl : s.length ≤ 1000000000) (hz : z ≠ 0 → s = []) : ListI s z ⟨s, 0⟩ [] :=
  ⟨fun _ => by simp; omega, by simp; omega, fun _ => by simp, fun h => absurd rfl h, fun h => by rw [hz h]; exact ⟨rfl, rfl⟩⟩
theorem listI_step {s : Str} {x : Rdr'} {out : List Str} (h : ListI s 0 x out) (hne : x.rest ≠ []) (h0 : x.bad = 0) : ListI s 0 x.text.1 (out ++ [x.text.2]) ∧ 2 * x.text.1.rest.length + (if x.text.1.bad = 0 then 1 else 0) < 2 * x.rest.length + (if x.bad = 0 then 1 else 0) := by
  have hs := h.size h0
  have hg := h.good h0
  by_cases he : (nextF x.rest).2.2 = 0
  · have e : x.text = ({ x with rest := (nextF x.rest).2.1 }, (nextF x.rest).1) := by rw [Rdr'.text, if_neg (by omega), if_neg (by omega)]
    have hlt := next_less he
    rw [e]
    refine ⟨⟨fun _ => by simp; omega, by simp; omega, fun _ => ?_, fun hb => absurd h0 hb, fun hz => absurd rfl hz⟩, by simp only; omega⟩
    rw [hg]
    exact map_acc (texts_cons hne he)
  · have e : x.text = ({ x with bad := (nextF x.rest).2.2 }, []) := by rw [Rdr'.text, if_neg (by omega), if_pos he]
    rw [e]
    refine ⟨⟨fun hb => absurd hb he, by simp; omega, fun hb => absurd hb he, fun _ => ?_, fun hz => absurd rfl hz⟩, by simp only [if_neg he, if_pos h0]; omega⟩
    rw [hg, texts_bad hne he]; rfl
theorem list_of {r : Rdr'} {l : List Str} (h : textsF r.text.2 = some l) : r.list = (r.text.1, l) := by rw [Rdr'.list, h]
theorem list_off {r : Rdr'} (h : textsF r.text.2 = none) : r.list = ({ r.text.1 with bad := 11 }, []) := by rw [Rdr'.list, h]
theorem text_shut {r : Rdr'} (h : r.text.1.bad ≠ 0) : r.text.2 = [] := by
  unfold Rdr'.text at h ⊢
  split
  · rfl
  · rename_i hb
    rw [if_neg hb] at h
    split
    · rfl
    · rename_i he; rw [if_neg he] at h; exact absurd (by simpa using hb) h
set_option maxHeartbeats 1000000 in
theorem rlist_p (b : Nat) (r : Rdr') (hl : r.rest.length ≤ 1000000000) :
    Ctr Tryz.prog 30 #[ptr b] [] [rdA 72 b r] (fun _ : Option Addr × Nat => True) (fun x => .slice x.1 r.list.2.length x.2) (fun x : Option Addr × Nat => [slc 9 1 x.1 r.list.2.length x.2 (r.list.2.map vS), rdA 72 b r.list.1]) := by
  refine spec_start (n := 49) [(0, ptr b)] Tryz.func30 rfl rfl ⟨rfl, trivial⟩ rfl ?_
  intro w0 K hR
  refine wc_seq ?_
  refine wc_region ?_
  refine wl_y rfl (y_assign rfl) ?_
  refine wl_nil ?_
  refine wq_then ?_
  refine wc_seq ?_
  refine wc_region ?_
  refine wl_y rfl (y_move rfl) ?_
  refine wl_c (fun _ _ => want_none) rfl (yc_spec (fst := []) (cap := []) _ FN38 (rtext_p b r hl) rfl rfl rfl (by (repeat (first | exact pt_nil | apply pt0 | apply pt1 | apply pt2 | apply pt3 | apply pt4 | apply pt5 | apply pt6 | apply pt7 | apply pt8 | apply pt9 | apply pt10 | apply pt11 | apply pt12 | apply pt13 | apply pt14 | apply pt15 | apply pt16 | apply pt17))) (by (repeat (first | exact ro_nil | exact ro_rest (by assumption) | refine ro_cons (by first | exact .inl (by assumption) | exact ro_f0 (fun _ h => h) | exact ro_f0 (fun _ => slc_rsl) | exact ro_f1 (fun _ h => h) | exact ro_f1 (fun _ => slc_rsl) | exact ro_f2 (fun _ h => h) | exact ro_f2 (fun _ => slc_rsl) | exact ro_f3 (fun _ h => h) | exact ro_f3 (fun _ => slc_rsl) | exact ro_f4 (fun _ h => h) | exact ro_f4 (fun _ => slc_rsl) | exact ro_f5 (fun _ h => h) | exact ro_f5 (fun _ => slc_rsl) | exact ro_f6 (fun _ h => h) | exact ro_f6 (fun _ => slc_rsl)) ?_)))) (wl_ex fun x7 hx7 => ?_)
  refine wl_y rfl (y_assign rfl) ?_
  refine wl_nil ?_
  refine wq_then ?_
  refine wc_seq ?_
  refine wc_region ?_
  refine wl_y rfl (y_move rfl) ?_
  refine wl_y rfl (y_build (cs := [_, _]) T72 PL72 rfl rfl rfl) ?_
  refine wl_w (fun _ _ => want_none) rfl (yw_box rfl rfl) (wl_ex fun b10 _ => ?_)
  refine wl_y rfl (y_assign rfl) ?_
  refine wl_nil ?_
  refine wq_then ?_
  refine wc_seq ?_
  refine wc_region ?_
  refine wl_y rfl (y_assign rfl) ?_
  refine wl_nil ?_
  refine wq_then ?_
  refine wc_seq (wc_cut (α := Rdr' × List Str × Option Addr × Nat) (fun y => (y.1.bad ≠ 0 → textsF r.text.2 = none) ∧ (y.1.bad = 0 → textsF r.text.2 = some y.2.1 ∧ (r.text.1.bad ≠ 0 → y.2.1 = []))) [(0, _), (4, _)] (fun y => [(5, .slice y.2.2.1 y.2.1.length y.2.2.2)]) (fun y => Hp w0 K [slc 9 1 y.2.2.1 y.2.1.length y.2.2.2 (y.2.1.map vS), rdA 72 b10 y.1, rdA 72 b r.text.1]) ⟨rfl, rfl, trivial⟩ ?_ ?_)
  ·
    refine wc_block ?_
    refine wc_loop (α := Rdr' × List Str × Option Addr × Nat) (fun y => ListI r.text.2 r.text.1.bad y.1 y.2.1) [(0, _), (4, _)] (fun y => [(5, .slice y.2.2.1 y.2.1.length y.2.2.2)]) (fun y => Hp w0 K [slc 9 1 y.2.2.1 y.2.1.length y.2.2.2 (y.2.1.map vS), rdA 72 b10 y.1, rdA 72 b r.text.1]) (fun y => 2 * y.1.rest.length + (if y.1.bad = 0 then 1 else 0)) (⟨r.text.2, 0⟩, [], none, 0) ?_ ⟨rfl, rfl, rfl, trivial⟩ ?_ ?_
    · exact listI_start (by have := (text_bounds r).1; omega) text_shut
    · exact fun w hw => Hp.addNil [] _ hw
    · rintro ⟨x, out, a, cap⟩ hI; simp only at hI
      refine wc_world (S' := Hp w0 K [slc 9 1 a out.length cap (out.map vS), rdA 72 b10 x, rdA 72 b r.text.1]) (fun w hw => hw) ?_
      refine wc_same 5 (.slice a out.length cap) rfl rfl ?_
      refine wc_seq ?_
      refine wc_seq ?_
      refine wc_region ?_
      refine wl_y rfl (y_move rfl) ?_
      refine wl_y rfl (y_nilCheck rfl) ?_
      refine wl_y rfl (y_fieldAddr F72_0 rfl) ?_
      refine wl_y rfl (y_load NA9 rfl (by first | exact cell_blk [] rfl | exact cell_blk [_] rfl | exact cell_blk [_, _] rfl | exact cell_blk [_, _, _] rfl | exact cell_blk [_, _, _, _] rfl | exact cellR_blk (by assumption) rfl)) ?_
      refine wl_y rfl (y_neqS rfl rfl) ?_
      refine wl_y rfl (y_move rfl) ?_
      refine wl_case 16 rfl (fun hg16 => ?_) (fun hg16 => ?_)
      ·
        simp at hg16
        refine wl_yg rfl rfl rfl (y_move rfl) ?_
        refine wl_yg rfl rfl rfl (y_nilCheck rfl) ?_
        refine wl_yg rfl rfl rfl (y_fieldAddr F72_1 rfl) ?_
        refine wl_yg rfl rfl rfl (y_load NA25 rfl (by first | exact cell_blk [] rfl | exact cell_blk [_] rfl | exact cell_blk [_, _] rfl | exact cell_blk [_, _, _] rfl | exact cell_blk [_, _, _, _] rfl | exact cellR_blk (by assumption) rfl)) ?_
        refine wl_yg rfl rfl rfl (y_eqlI rfl rfl) ?_
        refine wl_y rfl (y_pick_t rfl rfl) ?_
        refine wl_y rfl (y_move rfl) ?_
        refine wl_case 23 rfl (fun hg23 => ?_) (fun hg23 => ?_)
        ·
          simp at hg23
          refine wl_yg rfl rfl rfl (y_move rfl) ?_
          refine wl_yg rfl rfl rfl (y_nilCheck rfl) ?_
          refine wl_yg rfl rfl rfl (y_fieldAddr F72_1 rfl) ?_
          refine wl_yg rfl rfl rfl (y_load NA25 rfl (by first | exact cell_blk [] rfl | exact cell_blk [_] rfl | exact cell_blk [_, _] rfl | exact cell_blk [_, _, _] rfl | exact cell_blk [_, _, _, _] rfl | exact cellR_blk (by assumption) rfl)) ?_
          refine wl_yg rfl rfl rfl (y_eqlI rfl rfl) ?_
          refine wl_y rfl (y_pick_t rfl rfl) ?_
          refine wl_nil ?_
          refine wq_then ?_
          refine wc_cond rfl (fun hc29 => ?_) (fun hc29 => ?_)
          ·
            simp at hc29
            refine wc_skip ?_
            refine wq_then ?_
            refine wc_block ?_
            refine wc_region ?_
            refine wl_y rfl (y_move rfl) ?_
            refine wl_y rfl (y_move rfl) ?_
            refine wl_c (fun _ _ => want_none) rfl (yc_spec (fst := []) (cap := []) _ FN38 (rtext_p b10 x hI.size2.2) rfl rfl rfl (by (repeat (first | exact pt_nil | apply pt0 | apply pt1 | apply pt2 | apply pt3 | apply pt4 | apply pt5 | apply pt6 | apply pt7 | apply pt8 | apply pt9 | apply pt10 | apply pt11 | apply pt12 | apply pt13 | apply pt14 | apply pt15 | apply pt16 | apply pt17))) (by (repeat (first | exact ro_nil | exact ro_rest (by assumption) | refine ro_cons (by first | exact .inl (by assumption) | exact ro_f0 (fun _ h => h) | exact ro_f0 (fun _ => slc_rsl) | exact ro_f1 (fun _ h => h) | exact ro_f1 (fun _ => slc_rsl) | exact ro_f2 (fun _ h => h) | exact ro_f2 (fun _ => slc_rsl) | exact ro_f3 (fun _ h => h) | exact ro_f3 (fun _ => slc_rsl) | exact ro_f4 (fun _ h => h) | exact ro_f4 (fun _ => slc_rsl) | exact ro_f5 (fun _ h => h) | exact ro_f5 (fun _ => slc_rsl) | exact ro_f6 (fun _ h => h) | exact ro_f6 (fun _ => slc_rsl)) ?_)))) (wl_ex fun x32 hx32 => ?_)
            refine wl_w (fun _ _ => want_none) rfl (yw_buildSlice (cs := [vS x.text.2]) Tryz.underlying39 T9 rfl rfl rfl rfl rfl rfl rfl) (wl_ex fun b33 _ => ?_)
            refine wl_w (fun _ _ => want_none) rfl (yw_append [_, _] (cs := out.map vS) (news := [vS x.text.2]) Tryz.underlying39 Tryz.underlying39 (.inl ⟨_, rfl⟩) T9 rfl rfl rfl (fun w hw => Src.slice ((hw.seen []).mono fun _ => slc_rsl)) (by have := hI.size2; omega) (by have := hI.size2; unfold maxLen; omega) (by simp [Value.oneCell']) rfl) (wl_ex fun p34 hp34 => ?_)
            refine wl_y rfl (y_assign rfl) ?_
            refine wl_nil ?_
            refine wq_block_normal ?_
            have hz : r.text.1.bad = 0 := by omega
            rw [hz] at hI
            obtain ⟨hI2, hmu⟩ := listI_step hI (by simpa using hg16) (by omega)
            exact wq_round (x.text.1, out ++ [x.text.2], p34.1, p34.2) hmu (by rw [hz]; exact hI2) ⟨by simp only [List.length_append, List.length_singleton]; rfl, rfl, rfl, trivial⟩ (fun w hw => by simp only [List.length_append, List.length_singleton, List.map_append, List.map_singleton]; exact hw.sub (by (repeat (first | exact pt_nil | apply pt0 | apply pt1 | apply pt2 | apply pt3 | apply pt4 | apply pt5 | apply pt6 | apply pt7 | apply pt8 | apply pt9 | apply pt10 | apply pt11 | apply pt12 | apply pt13 | apply pt14 | apply pt15 | apply pt16 | apply pt17))))
          ·
            simp at hc29
            refine wc_exit ?_
            refine wq_then_exit (wq_then_exit (wq_block_exit ?_))
            exact wq_cut (x, out, a, cap) ⟨hI.off, fun h0 => absurd (hI.shut (by omega)).1 (fun e => by rw [e] at hg16; simp at hg16)⟩ ⟨rfl, rfl, rfl, trivial⟩ (fun w hw => hw)
        ·
          simp at hg23
          refine wl_sk rfl rfl rfl rfl ?_
          refine wl_sk rfl rfl rfl rfl ?_
          refine wl_sk rfl rfl rfl rfl ?_
          refine wl_sk rfl rfl rfl rfl ?_
          refine wl_sk rfl rfl rfl rfl ?_
          refine wl_y rfl (y_pick_f rfl rfl) ?_
          refine wl_nil ?_
          refine wq_then ?_
          refine wc_cond_false rfl ?_
          refine wc_exit ?_
          refine wq_then_exit (wq_then_exit (wq_block_exit ?_))
          exact wq_cut (x, out, a, cap) ⟨hI.off, fun h0 => absurd h0 (by omega)⟩ ⟨rfl, rfl, rfl, trivial⟩ (fun w hw => hw)
      ·
        simp at hg16
        refine wl_sk rfl rfl rfl rfl ?_
        refine wl_sk rfl rfl rfl rfl ?_
        refine wl_sk rfl rfl rfl rfl ?_
        refine wl_sk rfl rfl rfl rfl ?_
        refine wl_sk rfl rfl rfl rfl ?_
        refine wl_y rfl (y_pick_f rfl rfl) ?_
        refine wl_y rfl (y_move rfl) ?_
        refine wl_sk rfl rfl rfl rfl ?_
        refine wl_sk rfl rfl rfl rfl ?_
        refine wl_sk rfl rfl rfl rfl ?_
        refine wl_sk rfl rfl rfl rfl ?_
        refine wl_sk rfl rfl rfl rfl ?_
        refine wl_y rfl (y_pick_f rfl rfl) ?_
        refine wl_nil ?_
        refine wq_then ?_
        refine wc_cond_false rfl ?_
        refine wc_exit ?_
        refine wq_then_exit (wq_then_exit (wq_block_exit ?_))
        exact wq_cut (x, out, a, cap) ⟨hI.off, fun h0 => ⟨by rw [hI.good h0, show x.rest = [] by simpa using hg16, texts_nil]; simp, fun hz => (hI.shut hz).2⟩⟩ ⟨rfl, rfl, rfl, trivial⟩ (fun w hw => hw)
  · rintro ⟨x, out, a, cap⟩ ⟨ho, hg⟩; simp only at ho hg
    refine wc_world (S' := Hp w0 K [slc 9 1 a out.length cap (out.map vS), rdA 72 b10 x, rdA 72 b r.text.1]) (fun w hw => hw) ?_
    refine wc_same 5 (.slice a out.length cap) rfl rfl ?_
    refine all_wc ?_
    refine wc_seq ?_
    refine wc_seq ?_
    refine wc_region ?_
    refine wl_y rfl (y_move rfl) ?_
    refine wl_y rfl (y_nilCheck rfl) ?_
    refine wl_y rfl (y_fieldAddr F72_1 rfl) ?_
    refine wl_y rfl (y_load NA25 rfl (by first | exact cell_blk [] rfl | exact cell_blk [_] rfl | exact cell_blk [_, _] rfl | exact cell_blk [_, _, _] rfl | exact cell_blk [_, _, _, _] rfl | exact cellR_blk (by assumption) rfl)) ?_
    refine wl_y rfl (y_neqI rfl rfl) ?_
    refine wl_nil ?_
    refine wq_then ?_
    refine wc_cond rfl (fun hc39 => ?_) (fun hc39 => ?_)
    ·
      simp at hc39
      refine wc_region ?_
      refine wl_y rfl (y_move rfl) ?_
      refine wl_y rfl (y_nilCheck rfl) ?_
      refine wl_y rfl (y_fieldAddr F72_1 rfl) ?_
      first | refine wl_u (yu_store [] (l' := [_, _]) T25 rfl rfl rfl rfl rfl rfl rfl) ?_ | refine wl_u (yu_store [_] (l' := [_, _]) T25 rfl rfl rfl rfl rfl rfl rfl) ?_ | refine wl_u (yu_store [_, _] (l' := [_, _]) T25 rfl rfl rfl rfl rfl rfl rfl) ?_ | refine wl_u (yu_store [_, _, _] (l' := [_, _]) T25 rfl rfl rfl rfl rfl rfl rfl) ?_ | refine wl_u (yu_store [_, _, _, _] (l' := [_, _]) T25 rfl rfl rfl rfl rfl rfl rfl) ?_
      refine wl_nil ?_
      refine wq_then ?_
      refine wc_seq ?_
      refine wc_seq ?_
      refine wc_region ?_
      refine wl_y rfl (y_move rfl) ?_
      refine wl_y rfl (y_nilCheck rfl) ?_
      refine wl_y rfl (y_fieldAddr F72_1 rfl) ?_
      refine wl_y rfl (y_load NA25 rfl (by first | exact cell_blk [] rfl | exact cell_blk [_] rfl | exact cell_blk [_, _] rfl | exact cell_blk [_, _, _] rfl | exact cell_blk [_, _, _, _] rfl | exact cellR_blk (by assumption) rfl)) ?_
      refine wl_y rfl (y_neqI rfl rfl) ?_
      refine wl_nil ?_
      refine wq_then ?_
      refine wc_known 47 true rfl (by decide) ?_
      refine wc_cond_true rfl ?_
      refine wc_seq ?_
      refine wc_region ?_
      refine wl_y rfl (y_assign rfl) ?_
      refine wl_nil ?_
      refine wq_then ?_
      refine wc_ret ?_
      refine wq_then_ret ?_
      refine wq_ret1 rfl rfl (fun w hw => ?_)
      rw [list_off (ho (by omega))]; exact ⟨(none, 0), trivial, rfl, Hp.addNil [] _ (hw.sub (by (repeat (first | exact pt_nil | apply pt0 | apply pt1 | apply pt2 | apply pt3 | apply pt4 | apply pt5 | apply pt6 | apply pt7 | apply pt8 | apply pt9 | apply pt10 | apply pt11 | apply pt12 | apply pt13 | apply pt14 | apply pt15 | apply pt16 | apply pt17))))⟩
    ·
      simp at hc39
      refine wc_skip ?_
      refine wq_then ?_
      refine wc_seq ?_
      refine wc_seq ?_
      refine wc_region ?_
      refine wl_y rfl (y_move rfl) ?_
      refine wl_y rfl (y_nilCheck rfl) ?_
      refine wl_y rfl (y_fieldAddr F72_1 rfl) ?_
      refine wl_y rfl (y_load NA25 rfl (by first | exact cell_blk [] rfl | exact cell_blk [_] rfl | exact cell_blk [_, _] rfl | exact cell_blk [_, _, _] rfl | exact cell_blk [_, _, _, _] rfl | exact cellR_blk (by assumption) rfl)) ?_
      refine wl_y rfl (y_neqI rfl rfl) ?_
      refine wl_nil ?_
      refine wq_then ?_
      refine wc_cond rfl (fun hc47 => ?_) (fun hc47 => ?_)
      ·
        simp at hc47
        refine wc_seq ?_
        refine wc_region ?_
        refine wl_y rfl (y_assign rfl) ?_
        refine wl_nil ?_
        refine wq_then ?_
        refine wc_ret ?_
        refine wq_then_ret ?_
        refine wq_ret1 rfl rfl (fun w hw => ?_)
        obtain ⟨h1, h2⟩ := hg (by omega)
        rw [list_of h1, h2 (by omega)]; exact ⟨(none, 0), trivial, rfl, Hp.addNil [] _ (hw.sub (by (repeat (first | exact pt_nil | apply pt0 | apply pt1 | apply pt2 | apply pt3 | apply pt4 | apply pt5 | apply pt6 | apply pt7 | apply pt8 | apply pt9 | apply pt10 | apply pt11 | apply pt12 | apply pt13 | apply pt14 | apply pt15 | apply pt16 | apply pt17))))⟩
      ·
        simp at hc47
        refine wc_skip ?_
        refine wq_then ?_
        refine wc_seq ?_
        refine wc_region ?_
        refine wl_y rfl (y_move rfl) ?_
        refine wl_y rfl (y_assign rfl) ?_
        refine wl_nil ?_
        refine wq_then ?_
        refine wc_ret ?_
        refine wq_ret1 rfl rfl (fun w hw => ?_)
        obtain ⟨h1, h2⟩ := hg (by omega)
        rw [list_of h1]; exact ⟨(a, cap), trivial, rfl, hw.sub (by (repeat (first | exact pt_nil | apply pt0 | apply pt1 | apply pt2 | apply pt3 | apply pt4 | apply pt5 | apply pt6 | apply pt7 | apply pt8 | apply pt9 | apply pt10 | apply pt11 | apply pt12 | apply pt13 | apply pt14 | apply pt15 | apply pt16 | apply pt17)))⟩

end Go.Proofs.YtbnahfjhlbibcaaGreatDoor
