/-
  Walks: law QueueRanks.
-/
import Derived.Test.YtblhphnnnihkmaaWalkF
import Derived.Test.YtblhphnnnihkmaaRankLaw
namespace Go.Proofs.Ytblhphnnnihkmaa
open Go.Eng

set_option maxHeartbeats 1000000 in
theorem ranks_lo (w : Int) (hw : w < 1) (oo : Option Addr) (cc : Nat) (rk : List Int) :
    Ctr Try.prog 7 #[vI w, .slice oo rk.length cc] [rsl oo rk.length 1 (rk.map vI)] [] (fun _ : Unit => True) (fun _ => .bool true) (fun _ => []) := by
  refine spec_start (n := 107) [(0, vI w), (1, .slice oo rk.length cc)] Try.func7 rfl rfl ⟨rfl, rfl, trivial⟩ rfl ?_
  intro w0 K hR
  refine wc_seq ?_
  refine wc_region ?_
  refine wl_y rfl (y_assign rfl) ?_
  refine wl_nil ?_
  refine wq_then ?_
  refine wc_seq ?_
  refine wc_region ?_
  refine wl_y rfl (y_move rfl) ?_
  refine wl_c (fun _ _ => want_none) rfl (yc_spec (fst := []) (cap := []) _ FN8 (new_i_lo w hw) rfl rfl rfl (by simp) (by (repeat (first | exact pt_nil | apply pt0 | apply pt1 | apply pt2 | apply pt3 | apply pt4 | apply pt5 | apply pt6 | apply pt7 | apply pt8 | apply pt9 | apply pt10 | apply pt11 | apply pt12 | apply pt13 | apply pt14 | apply pt15 | apply pt16 | apply pt17)))) (wl_ex fun x18 hx18 => ?_)
  refine wl_y rfl (y_move rfl) ?_
  refine wl_y rfl (y_extract rfl rfl) ?_
  refine wl_y rfl (y_extract rfl rfl) ?_
  refine wl_y rfl (y_assign rfl) ?_
  refine wl_y rfl (y_assign rfl) ?_
  refine wl_nil ?_
  refine wq_then ?_
  refine wc_seq ?_
  refine wc_seq ?_
  refine wc_region ?_
  refine wl_y rfl (y_move rfl) ?_
  refine wl_y rfl (y_neqI rfl rfl) ?_
  refine wl_nil ?_
  refine wq_then ?_
  refine wc_known 22 true rfl (rfl) ?_
  refine wc_cond_true rfl ?_
  refine wc_seq ?_
  refine wc_region ?_
  refine wl_y rfl (y_move rfl) ?_
  refine wl_y rfl (y_eqlI rfl rfl) ?_
  refine wl_y rfl (y_move rfl) ?_
  refine wl_known 25 true rfl (rfl) ?_
  refine wl_c (want_some rfl rfl) rfl (yc_spec (fst := []) (cap := []) _ FN10 awake_spec rfl rfl rfl (by simp) (by (repeat (first | exact pt_nil | apply pt0 | apply pt1 | apply pt2 | apply pt3 | apply pt4 | apply pt5 | apply pt6 | apply pt7 | apply pt8 | apply pt9 | apply pt10 | apply pt11 | apply pt12 | apply pt13 | apply pt14 | apply pt15 | apply pt16 | apply pt17)))) (wl_ex fun x26 hx26 => ?_)
  refine wl_y rfl (y_pick_t rfl rfl) ?_
  refine wl_y rfl (y_assign rfl) ?_
  refine wl_nil ?_
  refine wq_then ?_
  refine wc_ret ?_
  refine wq_then_ret ?_
  refine wq_ret1 rfl rfl (fun w hw => ?_)
  exact ⟨(), trivial, rfl, hw.bare⟩

set_option maxHeartbeats 1000000 in
theorem ranks_hi (w : Int) (hw : 1000000 < w) (oo : Option Addr) (cc : Nat) (rk : List Int) :
    Ctr Try.prog 7 #[vI w, .slice oo rk.length cc] [rsl oo rk.length 1 (rk.map vI)] [] (fun _ : Unit => True) (fun _ => .bool true) (fun _ => []) := by
  refine spec_start (n := 107) [(0, vI w), (1, .slice oo rk.length cc)] Try.func7 rfl rfl ⟨rfl, rfl, trivial⟩ rfl ?_
  intro w0 K hR
  refine wc_seq ?_
  refine wc_region ?_
  refine wl_y rfl (y_assign rfl) ?_
  refine wl_nil ?_
  refine wq_then ?_
  refine wc_seq ?_
  refine wc_region ?_
  refine wl_y rfl (y_move rfl) ?_
  refine wl_c (fun _ _ => want_none) rfl (yc_spec (fst := []) (cap := []) _ FN8 (new_i_hi w hw) rfl rfl rfl (by simp) (by (repeat (first | exact pt_nil | apply pt0 | apply pt1 | apply pt2 | apply pt3 | apply pt4 | apply pt5 | apply pt6 | apply pt7 | apply pt8 | apply pt9 | apply pt10 | apply pt11 | apply pt12 | apply pt13 | apply pt14 | apply pt15 | apply pt16 | apply pt17)))) (wl_ex fun x18 hx18 => ?_)
  refine wl_y rfl (y_move rfl) ?_
  refine wl_y rfl (y_extract rfl rfl) ?_
  refine wl_y rfl (y_extract rfl rfl) ?_
  refine wl_y rfl (y_assign rfl) ?_
  refine wl_y rfl (y_assign rfl) ?_
  refine wl_nil ?_
  refine wq_then ?_
  refine wc_seq ?_
  refine wc_seq ?_
  refine wc_region ?_
  refine wl_y rfl (y_move rfl) ?_
  refine wl_y rfl (y_neqI rfl rfl) ?_
  refine wl_nil ?_
  refine wq_then ?_
  refine wc_known 22 true rfl (rfl) ?_
  refine wc_cond_true rfl ?_
  refine wc_seq ?_
  refine wc_region ?_
  refine wl_y rfl (y_move rfl) ?_
  refine wl_y rfl (y_eqlI rfl rfl) ?_
  refine wl_y rfl (y_move rfl) ?_
  refine wl_known 25 true rfl (rfl) ?_
  refine wl_c (want_some rfl rfl) rfl (yc_spec (fst := []) (cap := []) _ FN10 awake_spec rfl rfl rfl (by simp) (by (repeat (first | exact pt_nil | apply pt0 | apply pt1 | apply pt2 | apply pt3 | apply pt4 | apply pt5 | apply pt6 | apply pt7 | apply pt8 | apply pt9 | apply pt10 | apply pt11 | apply pt12 | apply pt13 | apply pt14 | apply pt15 | apply pt16 | apply pt17)))) (wl_ex fun x26 hx26 => ?_)
  refine wl_y rfl (y_pick_t rfl rfl) ?_
  refine wl_y rfl (y_assign rfl) ?_
  refine wl_nil ?_
  refine wq_then ?_
  refine wc_ret ?_
  refine wq_then_ret ?_
  refine wq_ret1 rfl rfl (fun w hw => ?_)
  exact ⟨(), trivial, rfl, hw.bare⟩

set_option maxHeartbeats 1000000 in
theorem ranks_ok (age : Int) (h1 : 1 ≤ age) (h2 : age ≤ 1000000) (oo : Option Addr) (cc : Nat) (rk : List Int) :
    Ctr Try.prog 7 #[vI age, .slice oo rk.length cc] [rsl oo rk.length 1 (rk.map vI)] [] (fun _ : Unit => True) (fun _ => .bool true) (fun _ => []) := by
  refine spec_start (n := 107) [(0, vI age), (1, .slice oo rk.length cc)] Try.func7 rfl rfl ⟨rfl, rfl, trivial⟩ rfl ?_
  intro w0 K hR
  have hA := hR _ (List.mem_cons_self ..)
  refine wc_seq ?_
  refine wc_region ?_
  refine wl_y rfl (y_assign rfl) ?_
  refine wl_nil ?_
  refine wq_then ?_
  refine wc_seq ?_
  refine wc_region ?_
  refine wl_y rfl (y_move rfl) ?_
  refine wl_c (fun _ _ => want_none) rfl (yc_spec (fst := []) (cap := []) _ FN8 (new_i_ok age h1 h2) rfl rfl rfl (by simp) (by (repeat (first | exact pt_nil | apply pt0 | apply pt1 | apply pt2 | apply pt3 | apply pt4 | apply pt5 | apply pt6 | apply pt7 | apply pt8 | apply pt9 | apply pt10 | apply pt11 | apply pt12 | apply pt13 | apply pt14 | apply pt15 | apply pt16 | apply pt17)))) (wl_ex fun x18 hx18 => ?_)
  refine wl_y rfl (y_move rfl) ?_
  refine wl_y rfl (y_extract rfl rfl) ?_
  refine wl_y rfl (y_extract rfl rfl) ?_
  refine wl_y rfl (y_assign rfl) ?_
  refine wl_y rfl (y_assign rfl) ?_
  refine wl_nil ?_
  refine wq_then ?_
  refine wc_seq ?_
  refine wc_seq ?_
  refine wc_region ?_
  refine wl_y rfl (y_move rfl) ?_
  refine wl_y rfl (y_neqI rfl rfl) ?_
  refine wl_nil ?_
  refine wq_then ?_
  refine wc_known 22 false rfl (rfl) ?_
  refine wc_cond_false rfl ?_
  refine wc_skip ?_
  refine wq_then ?_
  refine wc_seq (wc_cut (α := Nat × Int × List (It Int)) (fun y => y.1 ≤ 200 ∧ QR age y.2.1 y.1 rk y.2.2 ∧ y.2.2.length ≤ 200) [(1, _), (5, _)] (fun y => []) (fun y => Hp w0 K [qA 50 58 vI x18 age (y.2.1) (y.2.2)]) ⟨rfl, rfl, trivial⟩ ?_ ?_)
  ·
    refine wc_seq ?_
    refine wc_region ?_
    refine wl_y rfl (y_assign rfl) ?_
    refine wl_nil ?_
    refine wq_then ?_
    refine wc_block ?_
    refine wc_loop (α := Nat × Int × List (It Int)) (fun y => y.1 ≤ rk.length ∧ y.1 ≤ 200 ∧ 0 ≤ y.2.1 ∧ y.2.1 ≤ y.1 ∧ y.2.2.length ≤ y.1 ∧ QR age y.2.1 y.1 rk y.2.2) [(1, _), (5, _)] (fun y => [(7, vI y.1)]) (fun y => Hp w0 K [qA 50 58 vI x18 age (y.2.1) (y.2.2)]) (fun y => rk.length - y.1) (0, 0, []) ?_ ⟨rfl, rfl, rfl, trivial⟩ ?_ ?_
    · exact ⟨Nat.zero_le _, Nat.zero_le _, by decide, by decide, by decide, ⟨by simp, List.Pairwise.nil⟩⟩
    · exact fun w hw => hw
    · rintro ⟨k, m, R⟩ ⟨hk, hk2, hm0, hm1, hRl, hQ⟩; simp only at hk hk2 hm0 hm1 hRl hQ
      refine wc_world (S' := Hp w0 K [qA 50 58 vI x18 age (m) (R)]) (fun w hw => hw) ?_
      refine wc_seq ?_
      refine wc_seq ?_
      refine wc_region ?_
      refine wl_y rfl (y_move rfl) ?_
      refine wl_y rfl (y_move rfl) ?_
      refine wl_y rfl (y_lenSl Try.underlying46 rfl) ?_
      refine wl_y rfl (y_lss rfl rfl) ?_
      refine wl_y rfl (y_move rfl) ?_
      refine wl_case 32 rfl (fun hg32 => ?_) (fun hg32 => ?_)
      ·
        simp at hg32
        refine wl_yg rfl rfl rfl (y_move rfl) ?_
        refine wl_yg rfl rfl rfl (y_lss rfl rfl) ?_
        refine wl_y rfl (y_pick_t rfl rfl) ?_
        refine wl_nil ?_
        refine wq_then ?_
        refine wc_cond rfl (fun hc35 => ?_) (fun hc35 => ?_)
        ·
          simp at hc35
          refine wc_skip ?_
          refine wq_then ?_
          refine wc_seq ?_
          refine wc_block ?_
          refine wc_region ?_
          obtain ⟨x, hx⟩ : ∃ x, rk[k]? = some x := ⟨_, List.getElem?_eq_getElem (by omega)⟩
          refine wl_y rfl (y_move rfl) ?_
          refine wl_y rfl (y_move rfl) ?_
          refine wl_y rfl (y_move rfl) ?_
          refine wl_y rfl (y_move rfl) ?_
          refine wl_y rfl (y_indexAddr Try.underlying46 T3 rfl rfl rfl (by omega) (fun _ _ => hA.isSome (by omega))) ?_
          refine wl_y rfl (y_load NA3 rfl (cell_ro hA (row_get hx))) ?_
          by_cases hv : 0 ≤ x ∧ x ≤ 9
          ·
            refine wl_c (fun _ _ => want_none) rfl (yc_spec (fst := []) (cap := []) _ FN11 (push_ok_i x18 age m R k x 7 ⟨by omega, h2⟩ (by omega) hv (by decide) (by omega)) rfl rfl rfl (by simp) (by (repeat (first | exact pt_nil | apply pt0 | apply pt1 | apply pt2 | apply pt3 | apply pt4 | apply pt5 | apply pt6 | apply pt7 | apply pt8 | apply pt9 | apply pt10 | apply pt11 | apply pt12 | apply pt13 | apply pt14 | apply pt15 | apply pt16 | apply pt17)))) (wl_ex fun x44 hx44 => ?_)
            refine wl_nil ?_
            refine wq_block_normal ?_
            refine wq_then ?_
            refine wc_region ?_
            refine wl_y rfl (y_move rfl) ?_
            refine wl_y rfl (y_add rfl rfl (by omega)) ?_
            refine wl_y rfl (y_assign rfl) ?_
            refine wl_nil ?_
            exact wq_round (k + 1, m + 1, R ++ [(⟨k, x, 7, 7 + age * x, m + 1⟩ : It Int)]) (by simp only; omega) ⟨by simp only; omega, by simp only; omega, by simp only; omega, by simp only; omega, by simp; omega, hQ.push hx hv.1⟩ ⟨rfl, rfl, rfl, trivial⟩ (fun w hw => hw)
          ·
            refine wl_c (fun _ _ => want_none) rfl (yc_spec (fst := []) (cap := []) _ FN11 (push_no_i x18 age m R k x 7 (by omega)) rfl rfl rfl (by simp) (by (repeat (first | exact pt_nil | apply pt0 | apply pt1 | apply pt2 | apply pt3 | apply pt4 | apply pt5 | apply pt6 | apply pt7 | apply pt8 | apply pt9 | apply pt10 | apply pt11 | apply pt12 | apply pt13 | apply pt14 | apply pt15 | apply pt16 | apply pt17)))) (wl_ex fun x44 hx44 => ?_)
            refine wl_nil ?_
            refine wq_block_normal ?_
            refine wq_then ?_
            refine wc_region ?_
            refine wl_y rfl (y_move rfl) ?_
            refine wl_y rfl (y_add rfl rfl (by omega)) ?_
            refine wl_y rfl (y_assign rfl) ?_
            refine wl_nil ?_
            exact wq_round (k + 1, m, R) (by simp only; omega) ⟨by simp only; omega, by simp only; omega, hm0, by simp only; omega, by simp only; omega, hQ.more⟩ ⟨rfl, rfl, rfl, trivial⟩ (fun w hw => hw)
        ·
          simp at hc35
          refine wc_exit ?_
          refine wq_then_exit (wq_then_exit (wq_block_exit ?_))
          exact wq_cut (k, m, R) ⟨hk2, hQ, by simp only; omega⟩ ⟨rfl, rfl, trivial⟩ (fun w hw => hw)
      ·
        simp at hg32
        refine wl_sk rfl rfl rfl rfl ?_
        refine wl_sk rfl rfl rfl rfl ?_
        refine wl_y rfl (y_pick_f rfl rfl) ?_
        refine wl_nil ?_
        refine wq_then ?_
        refine wc_cond_false rfl ?_
        refine wc_exit ?_
        refine wq_then_exit (wq_then_exit (wq_block_exit ?_))
        exact wq_cut (k, m, R) ⟨hk2, hQ, by simp only; omega⟩ ⟨rfl, rfl, trivial⟩ (fun w hw => hw)
  · rintro ⟨k, m, R⟩ ⟨hk, hQ, hRl⟩; simp only at hk hQ hRl
    refine wc_world (S' := Hp w0 K [qA 50 58 vI x18 age (m) (R)]) (fun w hw => hw) ?_
    refine all_wc ?_
    refine wc_seq ?_
    refine wc_region ?_
    refine wl_y rfl (y_assign rfl) ?_
    refine wl_nil ?_
    refine wq_then ?_
    refine wc_seq ?_
    refine wc_region ?_
    refine wl_y rfl (y_assign rfl) ?_
    refine wl_nil ?_
    refine wq_then ?_
    refine wc_seq ?_
    refine wc_block ?_
    refine wc_loop (α := Int × Int × List (It Int)) (fun y => QR age m k rk y.2.2 ∧ y.2.2.length ≤ 200 ∧ ∀ a ∈ y.2.2, y.1 ≤ a.rank ∧ (a.rank = y.1 → y.2.1 ≤ a.v)) [(1, _), (5, _)] (fun y => [(8, vI y.1), (9, vI y.2.1)]) (fun y => Hp w0 K [qA 50 58 vI x18 age (m) (y.2.2)]) (fun y => y.2.2.length) (0, -1, R) ?_ ⟨rfl, rfl, rfl, rfl, trivial⟩ ?_ ?_
    · exact ⟨hQ, hRl, fun a ha => by obtain ⟨_, _, h3, ⟨j, h4, _⟩, _⟩ := hQ.all a ha; exact ⟨h3, fun _ => by simp only; omega⟩⟩
    · exact fun w hw => hw
    · clear hQ hRl
      rintro ⟨l8, l9, R⟩ ⟨hQ, hRl, hL⟩; simp only at hQ hRl hL
      refine wc_world (S' := Hp w0 K [qA 50 58 vI x18 age (m) (R)]) (fun w hw => hw) ?_
      refine wc_seq ?_
      refine wc_seq ?_
      refine wc_region ?_
      refine wl_y rfl (y_move rfl) ?_
      refine wl_c (fun _ _ => want_none) rfl (yc_spec (fst := []) (cap := []) _ FN17 (len_ok_i x18 age m R) rfl rfl rfl (by simp) (by (repeat (first | exact pt_nil | apply pt0 | apply pt1 | apply pt2 | apply pt3 | apply pt4 | apply pt5 | apply pt6 | apply pt7 | apply pt8 | apply pt9 | apply pt10 | apply pt11 | apply pt12 | apply pt13 | apply pt14 | apply pt15 | apply pt16 | apply pt17)))) (wl_ex fun x46 hx46 => ?_)
      refine wl_y rfl (y_gtr rfl rfl) ?_
      refine wl_nil ?_
      refine wq_then ?_
      refine wc_cond rfl (fun hc47 => ?_) (fun hc47 => ?_)
      ·
        simp at hc47
        refine wc_skip ?_
        refine wq_then ?_
        refine wc_block ?_
        refine wc_seq ?_
        refine wc_region ?_
        have hne : R ≠ [] := fun h => by subst h; simp at hc47
        refine wl_y rfl (y_move rfl) ?_
        refine wl_c (fun _ _ => want_none) rfl (yc_spec (fst := []) (cap := []) _ FN15 (peek_ok_i x18 age m R hne) rfl rfl rfl (by simp) (by (repeat (first | exact pt_nil | apply pt0 | apply pt1 | apply pt2 | apply pt3 | apply pt4 | apply pt5 | apply pt6 | apply pt7 | apply pt8 | apply pt9 | apply pt10 | apply pt11 | apply pt12 | apply pt13 | apply pt14 | apply pt15 | apply pt16 | apply pt17)))) (wl_ex fun x50 hx50 => ?_)
        refine wl_y rfl (y_move rfl) ?_
        refine wl_y rfl (y_extract rfl rfl) ?_
        refine wl_y rfl (y_extract rfl rfl) ?_
        refine wl_y rfl (y_extract rfl rfl) ?_
        refine wl_y rfl (y_extract rfl rfl) ?_
        refine wl_y rfl (y_assign rfl) ?_
        refine wl_y rfl (y_assign rfl) ?_
        refine wl_y rfl (y_assign rfl) ?_
        refine wl_y rfl (y_assign rfl) ?_
        refine wl_nil ?_
        refine wq_then ?_
        refine wc_seq ?_
        refine wc_region ?_
        refine wl_y rfl (y_move rfl) ?_
        refine wl_c (fun _ _ => want_none) rfl (yc_spec (fst := []) (cap := []) _ FN13 (pop_ok_i x18 age m R hne (by omega) hQ.dist) rfl rfl rfl (by simp) (by (repeat (first | exact pt_nil | apply pt0 | apply pt1 | apply pt2 | apply pt3 | apply pt4 | apply pt5 | apply pt6 | apply pt7 | apply pt8 | apply pt9 | apply pt10 | apply pt11 | apply pt12 | apply pt13 | apply pt14 | apply pt15 | apply pt16 | apply pt17)))) (wl_ex fun x57 hx57 => ?_)
        obtain rfl : x57 = x50 := hx57.uniq hx50 hQ.dist
        obtain ⟨q1, q2, q3, ⟨j, hj, hjr⟩, q5, q6⟩ := hQ.all _ hx57.1
        have hjl := (List.getElem?_eq_some_iff.1 hjr).1
        have hnx := hQ.next h1 hx57
        have hlow := hL _ hx57.1
        refine wl_y rfl (y_move rfl) ?_
        refine wl_y rfl (y_extract rfl rfl) ?_
        refine wl_y rfl (y_extract rfl rfl) ?_
        refine wl_y rfl (y_assign rfl) ?_
        refine wl_y rfl (y_assign rfl) ?_
        refine wl_nil ?_
        refine wq_then ?_
        refine wc_seq ?_
        refine wc_seq ?_
        refine wc_region ?_
        refine wl_y rfl (y_move rfl) ?_
        refine wl_y rfl (y_not rfl) ?_
        refine wl_y rfl (y_move rfl) ?_
        refine wl_known 62 false rfl (rfl) ?_
        refine wl_yg rfl rfl rfl (y_move rfl) ?_
        refine wl_yg rfl rfl rfl (y_neqI rfl rfl) ?_
        refine wl_y rfl (y_pick_f rfl rfl) ?_
        refine wl_y rfl (y_move rfl) ?_
        refine wl_known 66 false rfl (by simp; omega) ?_
        refine wl_yg rfl rfl rfl (y_move rfl) ?_
        refine wl_yg rfl rfl rfl (y_lss rfl rfl) ?_
        refine wl_y rfl (y_pick_f rfl rfl) ?_
        refine wl_y rfl (y_move rfl) ?_
        refine wl_known 70 false rfl (by simp; omega) ?_
        refine wl_yg rfl rfl rfl (y_move rfl) ?_
        refine wl_yg rfl rfl rfl (y_move rfl) ?_
        refine wl_yg rfl rfl rfl (y_lenSl Try.underlying46 rfl) ?_
        refine wl_yg rfl rfl rfl (y_geq rfl rfl) ?_
        refine wl_y rfl (y_pick_f rfl rfl) ?_
        refine wl_y rfl (y_move rfl) ?_
        refine wl_known 76 false rfl (by simp; omega) ?_
        refine wl_yg rfl rfl rfl (y_move rfl) ?_
        refine wl_yg rfl rfl rfl (y_move rfl) ?_
        refine wl_yg rfl rfl rfl (y_indexAddr (i := j) Try.underlying46 T3 rfl rfl hj hjl (fun _ _ => hA.isSome (by omega))) ?_
        refine wl_yg rfl rfl rfl (y_load NA3 rfl (cell_ro hA (row_get hjr))) ?_
        refine wl_yg rfl rfl rfl (y_move rfl) ?_
        refine wl_yg rfl rfl rfl (y_neqI rfl rfl) ?_
        refine wl_y rfl (y_pick_f rfl rfl) ?_
        refine wl_y rfl (y_move rfl) ?_
        refine wl_known 84 false rfl (by simp) ?_
        refine wl_yg rfl rfl rfl (y_move rfl) ?_
        refine wl_yg rfl rfl rfl (y_move rfl) ?_
        refine wl_yg rfl rfl rfl (y_lss rfl rfl) ?_
        refine wl_y rfl (y_pick_f rfl rfl) ?_
        refine wl_y rfl (y_move rfl) ?_
        refine wl_known 89 false rfl (by simp; omega) ?_
        refine wl_yg rfl rfl rfl (y_move rfl) ?_
        refine wl_yg rfl rfl rfl (y_move rfl) ?_
        refine wl_yg rfl rfl rfl (y_eqlI rfl rfl) ?_
        refine wl_yg rfl rfl rfl (y_move rfl) ?_
        refine wl_case 93 rfl (fun hg93 => ?_) (fun hg93 => ?_)
        ·
          simp at hg93
          refine wl_yg rfl rfl rfl (y_move rfl) ?_
          refine wl_yg rfl rfl rfl (y_move rfl) ?_
          refine wl_yg rfl rfl rfl (y_lss rfl rfl) ?_
          refine wl_yg rfl rfl rfl (y_pick_t rfl rfl) ?_
          refine wl_y rfl (y_pick_f rfl rfl) ?_
          refine wl_nil ?_
          refine wq_then ?_
          refine wc_known 98 false rfl (by first | rfl | exact decide_eq_false (by have := hlow.2 hg93; simp only; omega)) ?_
          refine wc_cond_false rfl ?_
          refine wc_skip ?_
          refine wq_then ?_
          refine wc_seq ?_
          refine wc_seq ?_
          refine wc_region ?_
          refine wl_y rfl (y_move rfl) ?_
          refine wl_y rfl (y_move rfl) ?_
          refine wl_y rfl (y_gtr rfl rfl) ?_
          refine wl_nil ?_
          refine wq_then ?_
          refine wc_cond rfl (fun hc101 => ?_) (fun hc101 => ?_)
          ·
            simp at hc101
            refine wc_region ?_
            refine wl_y rfl (y_assign rfl) ?_
            refine wl_nil ?_
            refine wq_then ?_
            refine wc_seq ?_
            refine wc_region ?_
            refine wl_y rfl (y_move rfl) ?_
            refine wl_y rfl (y_assign rfl) ?_
            refine wl_nil ?_
            refine wq_then ?_
            refine wc_region ?_
            refine wl_y rfl (y_move rfl) ?_
            refine wl_y rfl (y_move rfl) ?_
            refine wl_y rfl (y_max rfl rfl) ?_
            refine wl_y rfl (y_assign rfl) ?_
            refine wl_nil ?_
            refine wq_block_normal ?_
            exact wq_round (x57.rank, max (-1) x57.v, rest R x57) (by simp only; exact rest_length hx57.1) ⟨hQ.rest _, by have := rest_length hx57.1; simp only; omega, fun a ha => ⟨(hnx a ha).1, fun he => by have := (hnx a ha).2 he; simp only; omega⟩⟩ ⟨rfl, rfl, rfl, rfl, trivial⟩ (fun w hw => hw)
          ·
            simp at hc101
            refine wc_skip ?_
            refine wq_then ?_
            refine wc_seq ?_
            refine wc_region ?_
            refine wl_y rfl (y_move rfl) ?_
            refine wl_y rfl (y_assign rfl) ?_
            refine wl_nil ?_
            refine wq_then ?_
            refine wc_region ?_
            refine wl_y rfl (y_move rfl) ?_
            refine wl_y rfl (y_move rfl) ?_
            refine wl_y rfl (y_max rfl rfl) ?_
            refine wl_y rfl (y_assign rfl) ?_
            refine wl_nil ?_
            refine wq_block_normal ?_
            exact wq_round (x57.rank, max l9 x57.v, rest R x57) (by simp only; exact rest_length hx57.1) ⟨hQ.rest _, by have := rest_length hx57.1; simp only; omega, fun a ha => ⟨(hnx a ha).1, fun he => by have := (hnx a ha).2 he; have := hlow.2 (by omega); simp only; omega⟩⟩ ⟨rfl, rfl, rfl, rfl, trivial⟩ (fun w hw => hw)
        ·
          simp at hg93
          refine wl_sk rfl rfl rfl rfl ?_
          refine wl_sk rfl rfl rfl rfl ?_
          refine wl_sk rfl rfl rfl rfl ?_
          refine wl_yg rfl rfl rfl (y_pick_f rfl rfl) ?_
          refine wl_y rfl (y_pick_f rfl rfl) ?_
          refine wl_nil ?_
          refine wq_then ?_
          refine wc_known 98 false rfl (by first | rfl | exact decide_eq_false (by have := hlow.2 hg93; simp only; omega)) ?_
          refine wc_cond_false rfl ?_
          refine wc_skip ?_
          refine wq_then ?_
          refine wc_seq ?_
          refine wc_seq ?_
          refine wc_region ?_
          refine wl_y rfl (y_move rfl) ?_
          refine wl_y rfl (y_move rfl) ?_
          refine wl_y rfl (y_gtr rfl rfl) ?_
          refine wl_nil ?_
          refine wq_then ?_
          refine wc_cond rfl (fun hc101 => ?_) (fun hc101 => ?_)
          ·
            simp at hc101
            refine wc_region ?_
            refine wl_y rfl (y_assign rfl) ?_
            refine wl_nil ?_
            refine wq_then ?_
            refine wc_seq ?_
            refine wc_region ?_
            refine wl_y rfl (y_move rfl) ?_
            refine wl_y rfl (y_assign rfl) ?_
            refine wl_nil ?_
            refine wq_then ?_
            refine wc_region ?_
            refine wl_y rfl (y_move rfl) ?_
            refine wl_y rfl (y_move rfl) ?_
            refine wl_y rfl (y_max rfl rfl) ?_
            refine wl_y rfl (y_assign rfl) ?_
            refine wl_nil ?_
            refine wq_block_normal ?_
            exact wq_round (x57.rank, max (-1) x57.v, rest R x57) (by simp only; exact rest_length hx57.1) ⟨hQ.rest _, by have := rest_length hx57.1; simp only; omega, fun a ha => ⟨(hnx a ha).1, fun he => by have := (hnx a ha).2 he; simp only; omega⟩⟩ ⟨rfl, rfl, rfl, rfl, trivial⟩ (fun w hw => hw)
          ·
            simp at hc101
            refine wc_skip ?_
            refine wq_then ?_
            refine wc_seq ?_
            refine wc_region ?_
            refine wl_y rfl (y_move rfl) ?_
            refine wl_y rfl (y_assign rfl) ?_
            refine wl_nil ?_
            refine wq_then ?_
            refine wc_region ?_
            refine wl_y rfl (y_move rfl) ?_
            refine wl_y rfl (y_move rfl) ?_
            refine wl_y rfl (y_max rfl rfl) ?_
            refine wl_y rfl (y_assign rfl) ?_
            refine wl_nil ?_
            refine wq_block_normal ?_
            exact wq_round (x57.rank, max l9 x57.v, rest R x57) (by simp only; exact rest_length hx57.1) ⟨hQ.rest _, by have := rest_length hx57.1; simp only; omega, fun a ha => ⟨(hnx a ha).1, fun he => by have := (hnx a ha).2 he; have := hlow.2 (by omega); simp only; omega⟩⟩ ⟨rfl, rfl, rfl, rfl, trivial⟩ (fun w hw => hw)
      ·
        simp at hc47
        refine wc_exit ?_
        refine wq_then_exit (wq_then_exit (wq_block_exit ?_))
        refine wq_then ?_
        refine wc_seq ?_
        refine wc_region ?_
        refine wl_c (fun _ _ => want_none) rfl (yc_spec (fst := []) (cap := []) _ FN10 awake_spec rfl rfl rfl (by simp) (by (repeat (first | exact pt_nil | apply pt0 | apply pt1 | apply pt2 | apply pt3 | apply pt4 | apply pt5 | apply pt6 | apply pt7 | apply pt8 | apply pt9 | apply pt10 | apply pt11 | apply pt12 | apply pt13 | apply pt14 | apply pt15 | apply pt16 | apply pt17)))) (wl_ex fun x106 hx106 => ?_)
        refine wl_y rfl (y_assign rfl) ?_
        refine wl_nil ?_
        refine wq_then ?_
        refine wc_ret ?_
        refine wq_ret1 rfl rfl (fun w hw => ?_)
        exact ⟨(), trivial, rfl, hw.bare⟩

theorem ranks_all (w : Int) (oo : Option Addr) (cc : Nat) (rk : List Int) : Ctr Try.prog 7 #[vI w, .slice oo rk.length cc] [rsl oo rk.length 1 (rk.map vI)] [] (fun _ : Unit => True) (fun _ => .bool true) (fun _ => []) := by
  rcases Int.lt_or_le w 1 with h | h
  · exact ranks_lo w h oo cc rk
  rcases Int.lt_or_le 1000000 w with h' | h'
  · exact ranks_hi w h' oo cc rk
  exact ranks_ok w (by omega) h' oo cc rk
end Go.Proofs.Ytblhphnnnihkmaa
