/-
  Walks: the calls.
-/
import Derived.Test.YtfnpjmlpiedgdaaSG
namespace Go.Proofs.Ytfnpjmlpiedgdaa
open Go.Eng


theorem Sc.Qk.tab {s : Sc} {k j : Nat} (h : s.Qk k) (t : Tb) (hj : j ≤ k) : ({ s with t := t } : Sc).Qk j := (⟨h.age, h.q, h.n0, h.n1, h.rl⟩ : ({ s with t := t } : Sc).Qk k).mono hj
theorem no_empty {s : Sc} {n : Int} {i : Nat} (h : s.In n i) : mget s.rows [] = none := by
  cases hm : mget s.rows [] with
  | none => rfl
  | some l => exact absurd (show nameE [] = 0 from h.names _ (mem_of_mget hm)) (by decide)
theorem next_none {s : Sc} {w : Str} {now : Int} (h : mget s.rows w = none) : s.next w now = (s, noL, 17) := by rw [Sc.next, h]
theorem next_time {s : Sc} {w : Str} {now : Int} {l : List Jb} (h : mget s.rows w = some l) (ht : timeB now = false) : s.next w now = (s, noL, 1) := by rw [Sc.next, h]; simp [ht]
theorem next_busy {s : Sc} {w : Str} {now : Int} {l : List Jb} (h : mget s.rows w = some l) (ht : timeB now = true) (hp : (s.pick w).2 = none) : s.next w now = ((s.pick w).1, noL, 45) := by rw [Sc.next, h]; simp [ht, hp]
theorem next_some {s : Sc} {w : Str} {now : Int} {l : List Jb} {j : Jb} (h : mget s.rows w = some l) (ht : timeB now = true) (hp : (s.pick w).2 = some j) : s.next w now = ({ (s.pick w).1 with t := ((s.pick w).1.t.grant j w now).1 }, ((s.pick w).1.t.grant j w now).2.1, ((s.pick w).1.t.grant j w now).2.2) := by rw [Sc.next, h]; simp [ht, hp]
/-- Jobs in the rows that came up. -/
def sumH (rows : List (Str × Sl Jb)) (dn : List Str) : Nat := ((rows.filter fun p => decide (p.1 ∈ dn)).map (·.2.xs.length)).sum
theorem sumH_nil (rows : List (Str × Sl Jb)) : sumH rows [] = 0 := by rw [sumH, List.filter_eq_nil_iff.2 (by simp)]; rfl
theorem sumH_step : ∀ {rows : List (Str × Sl Jb)} {dn : List Str} {q : Str × Sl Jb}, Keyed1 rows → q ∈ rows → q.1 ∉ dn → sumH rows (q.1 :: dn) = sumH rows dn + q.2.xs.length
  | [], _, _, _, h, _ => by cases h
  | p :: l, dn, q, hK, hq, hn => by
    obtain ⟨h1, h2⟩ := List.nodup_cons.1 (show (p.1 :: l.map (·.1)).Nodup from hK)
    unfold sumH
    rw [List.filter_cons, List.filter_cons]
    rcases List.mem_cons.1 hq with rfl | hq
    · have e : l.filter (fun p => decide (p.1 ∈ q.1 :: dn)) = l.filter (fun p => decide (p.1 ∈ dn)) := List.filter_congr fun y hy => by
        have hne : y.1 ≠ q.1 := fun e => h1 (by rw [← e]; exact List.mem_map.2 ⟨y, hy, rfl⟩)
        simp [hne]
      rw [e]; simp [hn]; omega
    · have hne : p.1 ≠ q.1 := fun e => h1 (by rw [e]; exact List.mem_map.2 ⟨q, hq, rfl⟩)
      have ih := sumH_step (dn := dn) (show Keyed1 l from h2) hq hn
      unfold sumH at ih
      simp only [List.mem_cons, hne, false_or] at ih ⊢
      by_cases hc : decide (p.1 ∈ dn) = true
      · simp only [hc, if_true, List.map_cons, List.sum_cons, ih]; omega
      · simp only [hc, Bool.false_eq_true, if_false, ih]
theorem sumH_all {rows : List (Str × Sl Jb)} {dn : List Str} (h : ∀ q ∈ rows, q.1 ∈ dn) : sumH rows dn = (rows.map (·.2.xs.length)).sum := by
  unfold sumH; rw [List.filter_eq_self.2 fun q hq => by simp [h q hq]]
theorem sum_sub {α : Type} (f : α → Nat) {l m : List α} (h : l.Sublist m) : (l.map f).sum ≤ (m.map f).sum := by
  induction h with
  | slnil => exact Nat.le_refl _
  | cons a _ ih => simp only [List.map_cons, List.sum_cons]; omega
  | cons_cons a _ ih => simp only [List.map_cons, List.sum_cons]; omega
theorem sumH_le (rows : List (Str × Sl Jb)) (dn : List Str) : sumH rows dn ≤ (rows.map (·.2.xs.length)).sum := sum_sub _ List.filter_sublist
theorem wait_rs {rs : List (Str × Sl Jb)} {s : Sc} (hx : mval Sl.xs rs = s.rows) : s.waiting = s.R.length + (rs.map (·.2.xs.length)).sum := by
  rw [Sc.waiting, ← hx, mval, List.map_map]; rfl
theorem waiting_le {s : Sc} {n : Int} {i : Nat} (h : s.In n i) : s.waiting ≤ i := by have := waiting_len s; have := h.cnt; omega
set_option maxHeartbeats 1000000 in
theorem snext_c (b : Nat) (s : Sc) (wk : Str) (now : Int) (n : Int) (i : Nat) (hI : s.In n i) (h1 : 1 ≤ n) (h2 : n ≤ 1000000) (hi : i ≤ 490) :
    Ctr Try.prog 11 #[ptr b, vS wk, vI now] [] [scA b s] (fun _ : Unit => True) (fun _ => .tuple #[agL (s.next wk now).2.1, vI (s.next wk now).2.2]) (fun _ => [scA b (s.next wk now).1]) := by
  refine spec_start (n := 53) [(0, ptr b), (1, vS wk), (2, vI now)] Try.func11 rfl rfl ⟨rfl, rfl, rfl, trivial⟩ rfl ?_
  intro w0 K hR
  refine wc_seq ?_
  refine wc_region ?_
  refine wl_w (fun _ _ => want_none) rfl (yw_alloc T36 rfl) (wl_ex fun b6 _ => ?_)
  refine wl_y rfl (y_assign rfl) ?_
  refine wl_nil ?_
  refine wq_then ?_
  refine wc_seq ?_
  refine wc_seq ?_
  refine wc_region ?_
  refine wl_y rfl (y_move rfl) ?_
  refine wl_y rfl (y_eqlP Try.underlying23 rfl rfl) ?_
  refine wl_nil ?_
  refine wq_then ?_
  refine wc_known 13 false rfl (rfl) ?_
  refine wc_cond_false rfl ?_
  refine wc_skip ?_
  refine wq_then ?_
  refine wc_seq ?_
  refine wc_seq ?_
  refine wc_region ?_
  refine wl_world (S' := Hp w0 K [scA b s, blk b6 (.cells (encL noL).toArray 36 (0, 0))]) (fun w hw => hw.sub (by (repeat (first | exact pt_nil | apply pt0 | apply pt1 | apply pt2 | apply pt3 | apply pt4 | apply pt5 | apply pt6 | apply pt7 | apply pt8 | apply pt9 | apply pt10 | apply pt11 | apply pt12 | apply pt13 | apply pt14 | apply pt15 | apply pt16 | apply pt17)))) ?_
  refine wl_exS sc_open (fun x => ?_)
  obtain ⟨x, hx⟩ := x
  rcases hg : mget s.rows wk with _ | l0
  ·
    refine wl_y rfl (y_move rfl) ?_
    refine wl_y rfl (y_nilCheck rfl) ?_
    refine wl_y rfl (y_fieldAddr F66_2 rfl) ?_
    refine wl_y rfl (y_load NA64 rfl (by first | exact cell_blk [] rfl | exact cell_blk [_] rfl | exact cell_blk [_, _] rfl | exact cell_blk [_, _, _] rfl | exact cell_blk [_, _, _, _] rfl | exact cell_blk [_, _, _, _, _] rfl | exact cell_blk [_, _, _, _, _, _] rfl | exact cell_blk [_, _, _, _, _, _, _] rfl | exact cell_blk [_, _, _, _, _, _, _, _] rfl | exact cellR_blk (by assumption) rfl)) ?_
    refine wl_y rfl (y_move rfl) ?_
    refine wl_y rfl (y_lookup Try.underlying64 (keyE_str Try.underlying9) T49 rfl rfl (by first | exact fun w hw => hw.seen [] | exact fun w hw => hw.seen [_] | exact fun w hw => hw.seen [_, _] | exact fun w hw => hw.seen [_, _, _] | exact fun w hw => hw.seen [_, _, _, _] | exact fun w hw => hw.seen [_, _, _, _, _] | exact fun w hw => hw.seen [_, _, _, _, _, _] | exact fun w hw => hw.seen [_, _, _, _, _, _, _] | exact fun w hw => hw.seen [_, _, _, _, _, _, _, _] | exact fun w hw => Seen.rngMap (hw.seen []) | exact fun w hw => Seen.rngMap (hw.seen [_]) | exact fun w hw => Seen.rngMap (hw.seen [_, _]) | exact fun w hw => Seen.rngMap (hw.seen [_, _, _]) | exact fun w hw => Seen.rngMap (hw.seen [_, _, _, _]) | exact fun w hw => Seen.rngMap (hw.seen [_, _, _, _, _]) | exact fun w hw => Seen.rngMap (hw.seen [_, _, _, _, _, _]) | exact fun w hw => Seen.rngMap (hw.seen [_, _, _, _, _, _, _]) | exact fun w hw => Seen.rngMap (hw.seen [_, _, _, _, _, _, _, _]))) ?_
    refine wl_same 21 (.tuple #[vJs (slOf x.rs wk), vB (mget s.rows wk).isSome]) rfl (by rw [← rs_has hx]; exact look_ok _ _) ?_
    refine wl_y rfl (y_move rfl) ?_
    refine wl_y rfl (y_extract rfl rfl) ?_
    refine wl_y rfl (y_extract rfl rfl) ?_
    refine wl_y rfl (y_assign rfl) ?_
    refine wl_y rfl (y_assign rfl) ?_
    refine wl_nil ?_
    refine wq_then ?_
    refine wc_seq ?_
    refine wc_region ?_
    refine wl_y rfl (y_move rfl) ?_
    refine wl_y rfl (y_not rfl) ?_
    refine wl_nil ?_
    refine wq_then ?_
    refine wc_known 25 true rfl (by rw [hg]; rfl) ?_
    refine wc_cond_true rfl ?_
    refine wc_seq ?_
    refine wc_region ?_
    refine wl_y rfl (y_build (cs := [_, _, _, _, _, _]) T36 PL36 rfl rfl rfl) ?_
    first | refine wl_u (yu_storeAgg [] (l' := [_, _, _, _, _, _]) T36 rfl rfl rfl (by simp [Value.oneCell', encL, encJ]) rfl rfl) ?_ | refine wl_u (yu_storeAgg [_] (l' := [_, _, _, _, _, _]) T36 rfl rfl rfl (by simp [Value.oneCell', encL, encJ]) rfl rfl) ?_ | refine wl_u (yu_storeAgg [_, _] (l' := [_, _, _, _, _, _]) T36 rfl rfl rfl (by simp [Value.oneCell', encL, encJ]) rfl rfl) ?_ | refine wl_u (yu_storeAgg [_, _, _] (l' := [_, _, _, _, _, _]) T36 rfl rfl rfl (by simp [Value.oneCell', encL, encJ]) rfl rfl) ?_ | refine wl_u (yu_storeAgg [_, _, _, _] (l' := [_, _, _, _, _, _]) T36 rfl rfl rfl (by simp [Value.oneCell', encL, encJ]) rfl rfl) ?_ | refine wl_u (yu_storeAgg [_, _, _, _, _] (l' := [_, _, _, _, _, _]) T36 rfl rfl rfl (by simp [Value.oneCell', encL, encJ]) rfl rfl) ?_ | refine wl_u (yu_storeAgg [_, _, _, _, _, _] (l' := [_, _, _, _, _, _]) T36 rfl rfl rfl (by simp [Value.oneCell', encL, encJ]) rfl rfl) ?_ | refine wl_u (yu_storeAgg [_, _, _, _, _, _, _] (l' := [_, _, _, _, _, _]) T36 rfl rfl rfl (by simp [Value.oneCell', encL, encJ]) rfl rfl) ?_ | refine wl_u (yu_storeAgg [_, _, _, _, _, _, _, _] (l' := [_, _, _, _, _, _]) T36 rfl rfl rfl (by simp [Value.oneCell', encL, encJ]) rfl rfl) ?_
    refine wl_y rfl (y_assign rfl) ?_
    refine wl_nil ?_
    refine wq_then ?_
    refine wc_ret ?_
    refine wq_then_ret ?_
    refine wq_retC2 (l := [_, _, _, _, _, _]) AG36 rfl rfl rfl rfl (by first | exact cells_blk [] rfl | exact cells_blk [_] rfl | exact cells_blk [_, _] rfl | exact cells_blk [_, _, _] rfl | exact cells_blk [_, _, _, _] rfl | exact cells_blk [_, _, _, _, _] rfl | exact cells_blk [_, _, _, _, _, _] rfl | exact cells_blk [_, _, _, _, _, _, _] rfl | exact cells_blk [_, _, _, _, _, _, _, _] rfl) (fun w hw => ?_)
    rw [next_none hg]; exact ⟨(), trivial, rfl, sc_shut x hx (hw.sub (by (repeat (first | exact pt_nil | apply pt0 | apply pt1 | apply pt2 | apply pt3 | apply pt4 | apply pt5 | apply pt6 | apply pt7 | apply pt8 | apply pt9 | apply pt10 | apply pt11 | apply pt12 | apply pt13 | apply pt14 | apply pt15 | apply pt16 | apply pt17))))⟩
  ·
    refine wl_y rfl (y_move rfl) ?_
    refine wl_y rfl (y_nilCheck rfl) ?_
    refine wl_y rfl (y_fieldAddr F66_2 rfl) ?_
    refine wl_y rfl (y_load NA64 rfl (by first | exact cell_blk [] rfl | exact cell_blk [_] rfl | exact cell_blk [_, _] rfl | exact cell_blk [_, _, _] rfl | exact cell_blk [_, _, _, _] rfl | exact cell_blk [_, _, _, _, _] rfl | exact cell_blk [_, _, _, _, _, _] rfl | exact cell_blk [_, _, _, _, _, _, _] rfl | exact cell_blk [_, _, _, _, _, _, _, _] rfl | exact cellR_blk (by assumption) rfl)) ?_
    refine wl_y rfl (y_move rfl) ?_
    refine wl_y rfl (y_lookup Try.underlying64 (keyE_str Try.underlying9) T49 rfl rfl (by first | exact fun w hw => hw.seen [] | exact fun w hw => hw.seen [_] | exact fun w hw => hw.seen [_, _] | exact fun w hw => hw.seen [_, _, _] | exact fun w hw => hw.seen [_, _, _, _] | exact fun w hw => hw.seen [_, _, _, _, _] | exact fun w hw => hw.seen [_, _, _, _, _, _] | exact fun w hw => hw.seen [_, _, _, _, _, _, _] | exact fun w hw => hw.seen [_, _, _, _, _, _, _, _] | exact fun w hw => Seen.rngMap (hw.seen []) | exact fun w hw => Seen.rngMap (hw.seen [_]) | exact fun w hw => Seen.rngMap (hw.seen [_, _]) | exact fun w hw => Seen.rngMap (hw.seen [_, _, _]) | exact fun w hw => Seen.rngMap (hw.seen [_, _, _, _]) | exact fun w hw => Seen.rngMap (hw.seen [_, _, _, _, _]) | exact fun w hw => Seen.rngMap (hw.seen [_, _, _, _, _, _]) | exact fun w hw => Seen.rngMap (hw.seen [_, _, _, _, _, _, _]) | exact fun w hw => Seen.rngMap (hw.seen [_, _, _, _, _, _, _, _]))) ?_
    refine wl_same 21 (.tuple #[vJs (slOf x.rs wk), vB (mget s.rows wk).isSome]) rfl (by rw [← rs_has hx]; exact look_ok _ _) ?_
    refine wl_y rfl (y_move rfl) ?_
    refine wl_y rfl (y_extract rfl rfl) ?_
    refine wl_y rfl (y_extract rfl rfl) ?_
    refine wl_y rfl (y_assign rfl) ?_
    refine wl_y rfl (y_assign rfl) ?_
    refine wl_nil ?_
    refine wq_then ?_
    refine wc_seq ?_
    refine wc_region ?_
    refine wl_y rfl (y_move rfl) ?_
    refine wl_y rfl (y_not rfl) ?_
    refine wl_nil ?_
    refine wq_then ?_
    refine wc_known 25 false rfl (by rw [hg]; rfl) ?_
    refine wc_cond_false rfl ?_
    refine wc_skip ?_
    refine wq_then ?_
    refine wc_seq ?_
    refine wc_seq ?_
    refine wc_region ?_
    refine wl_y rfl (y_move rfl) ?_
    refine wl_y rfl (y_lss rfl rfl) ?_
    refine wl_y rfl (y_move rfl) ?_
    apply wl_or 3 32 [(0, _), (1, _), (2, _), (6, _)] (t := 29) rfl ⟨rfl, rfl, rfl, rfl, trivial⟩
    · intro hg29 hM32
      refine wl_sk rfl rfl rfl rfl ?_
      refine wl_sk rfl rfl rfl rfl ?_
      refine wl_y rfl (y_pick_t rfl rfl) ?_
      exact wl_weaken hM32 ⟨rfl, rfl, rfl, rfl, rfl, trivial⟩
    · intro hg29 hM32
      try (simp at hg29)
      refine wl_yg rfl rfl rfl (y_move rfl) ?_
      refine wl_yg rfl rfl rfl (y_gtr rfl rfl) ?_
      refine wl_y rfl (y_pick_f rfl rfl) ?_
      exact wl_weaken hM32 ⟨rfl, rfl, rfl, rfl, rfl, trivial⟩
    ·
      refine wl_nil ?_
      refine wq_then ?_
      refine wc_cond rfl (fun hc32 => ?_) (fun hc32 => ?_)
      ·
        simp at hc32
        refine wc_seq ?_
        refine wc_region ?_
        refine wl_y rfl (y_build (cs := [_, _, _, _, _, _]) T36 PL36 rfl rfl rfl) ?_
        first | refine wl_u (yu_storeAgg [] (l' := [_, _, _, _, _, _]) T36 rfl rfl rfl (by simp [Value.oneCell', encL, encJ]) rfl rfl) ?_ | refine wl_u (yu_storeAgg [_] (l' := [_, _, _, _, _, _]) T36 rfl rfl rfl (by simp [Value.oneCell', encL, encJ]) rfl rfl) ?_ | refine wl_u (yu_storeAgg [_, _] (l' := [_, _, _, _, _, _]) T36 rfl rfl rfl (by simp [Value.oneCell', encL, encJ]) rfl rfl) ?_ | refine wl_u (yu_storeAgg [_, _, _] (l' := [_, _, _, _, _, _]) T36 rfl rfl rfl (by simp [Value.oneCell', encL, encJ]) rfl rfl) ?_ | refine wl_u (yu_storeAgg [_, _, _, _] (l' := [_, _, _, _, _, _]) T36 rfl rfl rfl (by simp [Value.oneCell', encL, encJ]) rfl rfl) ?_ | refine wl_u (yu_storeAgg [_, _, _, _, _] (l' := [_, _, _, _, _, _]) T36 rfl rfl rfl (by simp [Value.oneCell', encL, encJ]) rfl rfl) ?_ | refine wl_u (yu_storeAgg [_, _, _, _, _, _] (l' := [_, _, _, _, _, _]) T36 rfl rfl rfl (by simp [Value.oneCell', encL, encJ]) rfl rfl) ?_ | refine wl_u (yu_storeAgg [_, _, _, _, _, _, _] (l' := [_, _, _, _, _, _]) T36 rfl rfl rfl (by simp [Value.oneCell', encL, encJ]) rfl rfl) ?_ | refine wl_u (yu_storeAgg [_, _, _, _, _, _, _, _] (l' := [_, _, _, _, _, _]) T36 rfl rfl rfl (by simp [Value.oneCell', encL, encJ]) rfl rfl) ?_
        refine wl_y rfl (y_assign rfl) ?_
        refine wl_nil ?_
        refine wq_then ?_
        refine wc_ret ?_
        refine wq_then_ret ?_
        refine wq_retC2 (l := [_, _, _, _, _, _]) AG36 rfl rfl rfl rfl (by first | exact cells_blk [] rfl | exact cells_blk [_] rfl | exact cells_blk [_, _] rfl | exact cells_blk [_, _, _] rfl | exact cells_blk [_, _, _, _] rfl | exact cells_blk [_, _, _, _, _] rfl | exact cells_blk [_, _, _, _, _, _] rfl | exact cells_blk [_, _, _, _, _, _, _] rfl | exact cells_blk [_, _, _, _, _, _, _, _] rfl) (fun w hw => ?_)
        rw [next_time hg (by simp [timeB]; omega)]; exact ⟨(), trivial, rfl, sc_shut x hx (hw.sub (by (repeat (first | exact pt_nil | apply pt0 | apply pt1 | apply pt2 | apply pt3 | apply pt4 | apply pt5 | apply pt6 | apply pt7 | apply pt8 | apply pt9 | apply pt10 | apply pt11 | apply pt12 | apply pt13 | apply pt14 | apply pt15 | apply pt16 | apply pt17))))⟩
      ·
        simp at hc32
        refine wc_skip ?_
        refine wq_then ?_
        refine wc_seq ?_
        refine wc_region ?_
        have htb : timeB now = true := by simp [timeB]; omega
        refine wl_world (S' := Hp w0 K [scA b s, blk b6 (.cells (encL noL).toArray 36 (0, 0))]) (fun w hw => sc_shut x hx (hw.sub (by (repeat (first | exact pt_nil | apply pt0 | apply pt1 | apply pt2 | apply pt3 | apply pt4 | apply pt5 | apply pt6 | apply pt7 | apply pt8 | apply pt9 | apply pt10 | apply pt11 | apply pt12 | apply pt13 | apply pt14 | apply pt15 | apply pt16 | apply pt17))))) ?_
        refine wl_y rfl (y_move rfl) ?_
        refine wl_y rfl (y_move rfl) ?_
        refine wl_c (fun _ _ => want_none) rfl (yc_spec (fst := []) (cap := []) _ FN30 (spick_c b s wk ((hI.qk hi).mono (by omega)) hI.keyed (by rw [hg]; rfl) (no_empty hI) (fun u => by have := hI.row_len u; omega)) rfl rfl rfl (by (repeat (first | exact pt_nil | apply pt0 | apply pt1 | apply pt2 | apply pt3 | apply pt4 | apply pt5 | apply pt6 | apply pt7 | apply pt8 | apply pt9 | apply pt10 | apply pt11 | apply pt12 | apply pt13 | apply pt14 | apply pt15 | apply pt16 | apply pt17))) (by (repeat (first | exact ro_nil | exact ro_rest (by assumption) | refine ro_cons (by first | exact .inl (by assumption) | exact ro_f0 (fun _ h => h) | exact ro_f0 (fun _ => slc_rsl) | exact ro_f1 (fun _ h => h) | exact ro_f1 (fun _ => slc_rsl) | exact ro_f2 (fun _ h => h) | exact ro_f2 (fun _ => slc_rsl) | exact ro_f3 (fun _ h => h) | exact ro_f3 (fun _ => slc_rsl) | exact ro_f4 (fun _ h => h) | exact ro_f4 (fun _ => slc_rsl) | exact ro_f5 (fun _ h => h) | exact ro_f5 (fun _ => slc_rsl) | exact ro_f6 (fun _ h => h) | exact ro_f6 (fun _ => slc_rsl)) ?_)))) (wl_ex fun x37 hx37 => ?_)
        refine wl_y rfl (y_move rfl) ?_
        rcases hp : (s.pick wk).2 with _ | j
        ·
          refine wl_y rfl (y_extract rfl rfl) ?_
          refine wl_same 38 (agJ noJ) rfl (by first | rfl | (rw [hp]; rfl)) ?_
          refine wl_y rfl (y_extract rfl rfl) ?_
          refine wl_same 39 (vB false) rfl (by first | rfl | (rw [hp]; rfl)) ?_
          refine wl_w (fun _ _ => want_none) rfl (yw_alloc T30 rfl) (wl_ex fun b10 _ => ?_)
          first | refine wl_u (yu_storeAgg [] (l' := [_, _, _]) T30 rfl rfl rfl (by simp [Value.oneCell', encL, encJ]) rfl rfl) ?_ | refine wl_u (yu_storeAgg [_] (l' := [_, _, _]) T30 rfl rfl rfl (by simp [Value.oneCell', encL, encJ]) rfl rfl) ?_ | refine wl_u (yu_storeAgg [_, _] (l' := [_, _, _]) T30 rfl rfl rfl (by simp [Value.oneCell', encL, encJ]) rfl rfl) ?_ | refine wl_u (yu_storeAgg [_, _, _] (l' := [_, _, _]) T30 rfl rfl rfl (by simp [Value.oneCell', encL, encJ]) rfl rfl) ?_ | refine wl_u (yu_storeAgg [_, _, _, _] (l' := [_, _, _]) T30 rfl rfl rfl (by simp [Value.oneCell', encL, encJ]) rfl rfl) ?_ | refine wl_u (yu_storeAgg [_, _, _, _, _] (l' := [_, _, _]) T30 rfl rfl rfl (by simp [Value.oneCell', encL, encJ]) rfl rfl) ?_ | refine wl_u (yu_storeAgg [_, _, _, _, _, _] (l' := [_, _, _]) T30 rfl rfl rfl (by simp [Value.oneCell', encL, encJ]) rfl rfl) ?_ | refine wl_u (yu_storeAgg [_, _, _, _, _, _, _] (l' := [_, _, _]) T30 rfl rfl rfl (by simp [Value.oneCell', encL, encJ]) rfl rfl) ?_ | refine wl_u (yu_storeAgg [_, _, _, _, _, _, _, _] (l' := [_, _, _]) T30 rfl rfl rfl (by simp [Value.oneCell', encL, encJ]) rfl rfl) ?_
          refine wl_y rfl (y_assign rfl) ?_
          refine wl_nil ?_
          refine wq_then ?_
          refine wc_seq ?_
          refine wc_seq ?_
          refine wc_region ?_
          refine wl_y rfl (y_move rfl) ?_
          refine wl_y rfl (y_not rfl) ?_
          refine wl_nil ?_
          refine wq_then ?_
          refine wc_known 41 true rfl (rfl) ?_
          refine wc_cond_true rfl ?_
          refine wc_seq ?_
          refine wc_region ?_
          refine wl_y rfl (y_build (cs := [_, _, _, _, _, _]) T36 PL36 rfl rfl rfl) ?_
          first | refine wl_u (yu_storeAgg [] (l' := [_, _, _, _, _, _]) T36 rfl rfl rfl (by simp [Value.oneCell', encL, encJ]) rfl rfl) ?_ | refine wl_u (yu_storeAgg [_] (l' := [_, _, _, _, _, _]) T36 rfl rfl rfl (by simp [Value.oneCell', encL, encJ]) rfl rfl) ?_ | refine wl_u (yu_storeAgg [_, _] (l' := [_, _, _, _, _, _]) T36 rfl rfl rfl (by simp [Value.oneCell', encL, encJ]) rfl rfl) ?_ | refine wl_u (yu_storeAgg [_, _, _] (l' := [_, _, _, _, _, _]) T36 rfl rfl rfl (by simp [Value.oneCell', encL, encJ]) rfl rfl) ?_ | refine wl_u (yu_storeAgg [_, _, _, _] (l' := [_, _, _, _, _, _]) T36 rfl rfl rfl (by simp [Value.oneCell', encL, encJ]) rfl rfl) ?_ | refine wl_u (yu_storeAgg [_, _, _, _, _] (l' := [_, _, _, _, _, _]) T36 rfl rfl rfl (by simp [Value.oneCell', encL, encJ]) rfl rfl) ?_ | refine wl_u (yu_storeAgg [_, _, _, _, _, _] (l' := [_, _, _, _, _, _]) T36 rfl rfl rfl (by simp [Value.oneCell', encL, encJ]) rfl rfl) ?_ | refine wl_u (yu_storeAgg [_, _, _, _, _, _, _] (l' := [_, _, _, _, _, _]) T36 rfl rfl rfl (by simp [Value.oneCell', encL, encJ]) rfl rfl) ?_ | refine wl_u (yu_storeAgg [_, _, _, _, _, _, _, _] (l' := [_, _, _, _, _, _]) T36 rfl rfl rfl (by simp [Value.oneCell', encL, encJ]) rfl rfl) ?_
          refine wl_y rfl (y_assign rfl) ?_
          refine wl_nil ?_
          refine wq_then ?_
          refine wc_ret ?_
          refine wq_then_ret ?_
          refine wq_retC2 (l := [_, _, _, _, _, _]) AG36 rfl rfl rfl rfl (by first | exact cells_blk [] rfl | exact cells_blk [_] rfl | exact cells_blk [_, _] rfl | exact cells_blk [_, _, _] rfl | exact cells_blk [_, _, _, _] rfl | exact cells_blk [_, _, _, _, _] rfl | exact cells_blk [_, _, _, _, _, _] rfl | exact cells_blk [_, _, _, _, _, _, _] rfl | exact cells_blk [_, _, _, _, _, _, _, _] rfl) (fun w hw => ?_)
          rw [next_busy hg htb hp]; exact ⟨(), trivial, rfl, hw.sub (by (repeat (first | exact pt_nil | apply pt0 | apply pt1 | apply pt2 | apply pt3 | apply pt4 | apply pt5 | apply pt6 | apply pt7 | apply pt8 | apply pt9 | apply pt10 | apply pt11 | apply pt12 | apply pt13 | apply pt14 | apply pt15 | apply pt16 | apply pt17)))⟩
        ·
          refine wl_y rfl (y_extract rfl rfl) ?_
          refine wl_same 38 (agJ j) rfl (by first | rfl | (rw [hp]; rfl)) ?_
          refine wl_y rfl (y_extract rfl rfl) ?_
          refine wl_same 39 (vB true) rfl (by first | rfl | (rw [hp]; rfl)) ?_
          refine wl_w (fun _ _ => want_none) rfl (yw_alloc T30 rfl) (wl_ex fun b10 _ => ?_)
          first | refine wl_u (yu_storeAgg [] (l' := [_, _, _]) T30 rfl rfl rfl (by simp [Value.oneCell', encL, encJ]) rfl rfl) ?_ | refine wl_u (yu_storeAgg [_] (l' := [_, _, _]) T30 rfl rfl rfl (by simp [Value.oneCell', encL, encJ]) rfl rfl) ?_ | refine wl_u (yu_storeAgg [_, _] (l' := [_, _, _]) T30 rfl rfl rfl (by simp [Value.oneCell', encL, encJ]) rfl rfl) ?_ | refine wl_u (yu_storeAgg [_, _, _] (l' := [_, _, _]) T30 rfl rfl rfl (by simp [Value.oneCell', encL, encJ]) rfl rfl) ?_ | refine wl_u (yu_storeAgg [_, _, _, _] (l' := [_, _, _]) T30 rfl rfl rfl (by simp [Value.oneCell', encL, encJ]) rfl rfl) ?_ | refine wl_u (yu_storeAgg [_, _, _, _, _] (l' := [_, _, _]) T30 rfl rfl rfl (by simp [Value.oneCell', encL, encJ]) rfl rfl) ?_ | refine wl_u (yu_storeAgg [_, _, _, _, _, _] (l' := [_, _, _]) T30 rfl rfl rfl (by simp [Value.oneCell', encL, encJ]) rfl rfl) ?_ | refine wl_u (yu_storeAgg [_, _, _, _, _, _, _] (l' := [_, _, _]) T30 rfl rfl rfl (by simp [Value.oneCell', encL, encJ]) rfl rfl) ?_ | refine wl_u (yu_storeAgg [_, _, _, _, _, _, _, _] (l' := [_, _, _]) T30 rfl rfl rfl (by simp [Value.oneCell', encL, encJ]) rfl rfl) ?_
          refine wl_y rfl (y_assign rfl) ?_
          refine wl_nil ?_
          refine wq_then ?_
          refine wc_seq ?_
          refine wc_seq ?_
          refine wc_region ?_
          refine wl_y rfl (y_move rfl) ?_
          refine wl_y rfl (y_not rfl) ?_
          refine wl_nil ?_
          refine wq_then ?_
          refine wc_known 41 false rfl (rfl) ?_
          refine wc_cond_false rfl ?_
          refine wc_skip ?_
          refine wq_then ?_
          refine wc_seq ?_
          refine wc_mix (.q 0 0 (.q 1 0 (.q 2 0 (.q 3 1 (.q 4 1 (.q 5 0 (.q 6 0 (.w 7 2 (.q 8 0 (.q 9 0 (.w 10 2 (.q 11 0 .nil) .nil))) .nil)))))))) (fun _ => True) MO (by kernel_rfl) (Hp.drawless _ _ _) (fun _ _ => trivial) ?_
          refine wm_world (S' := Hp w0 K [scA b (s.pick wk).1, blk b10 (.cells (encJ j).toArray 30 (0, 0)), blk b6 (.cells (encL noL).toArray 36 (0, 0))]) (fun w hw => hw.sub (by (repeat (first | exact pt_nil | apply pt0 | apply pt1 | apply pt2 | apply pt3 | apply pt4 | apply pt5 | apply pt6 | apply pt7 | apply pt8 | apply pt9 | apply pt10 | apply pt11 | apply pt12 | apply pt13 | apply pt14 | apply pt15 | apply pt16 | apply pt17)))) ?_
          refine wm_exS sc_open (fun x => ?_)
          obtain ⟨x, hx⟩ := x
          have htt : (s.pick wk).1.t = s.t := by
            rcases pick_cases (hI.qk hi) hI.keyed (by rw [hg]; rfl) with ⟨_, _, hpk⟩ | ⟨hpk, _⟩
            · exact hpk.t
            · rw [hp] at hpk; cases hpk
          refine wm_g rfl rfl (y_move rfl) ?_
          refine wm_g rfl rfl (y_nilCheck rfl) ?_
          refine wm_g rfl rfl (y_fieldAddr F66_1 rfl) ?_
          refine wm_l rfl rfl (y_load NA61 rfl (by first | exact cell_blk [] rfl | exact cell_blk [_] rfl | exact cell_blk [_, _] rfl | exact cell_blk [_, _, _] rfl | exact cell_blk [_, _, _, _] rfl | exact cell_blk [_, _, _, _, _] rfl | exact cell_blk [_, _, _, _, _, _] rfl | exact cell_blk [_, _, _, _, _, _, _] rfl | exact cell_blk [_, _, _, _, _, _, _, _] rfl | exact cellR_blk (by assumption) rfl)) ?_
          refine wm_l rfl rfl (y_loadAgg (l := [_, _, _]) AG30 rfl rfl (by first | exact cells_blk [] rfl | exact cells_blk [_] rfl | exact cells_blk [_, _] rfl | exact cells_blk [_, _, _] rfl | exact cells_blk [_, _, _, _] rfl | exact cells_blk [_, _, _, _, _] rfl | exact cells_blk [_, _, _, _, _, _] rfl | exact cells_blk [_, _, _, _, _, _, _] rfl | exact cells_blk [_, _, _, _, _, _, _, _] rfl | exact cellsR_blk (by assumption) rfl)) ?_
          refine wm_g rfl rfl (y_move rfl) ?_
          refine wm_g rfl rfl (y_move rfl) ?_
          refine wm_c rfl rfl (fun _ _ _ => trivial) (yc_spec (fst := []) (cap := []) _ FN31 (grant_c x.tb (s.pick wk).1.t j wk now (by rw [htt]; exact hI.tok h1 h2 hi)) rfl rfl rfl (by (repeat (first | exact pt_nil | apply pt0 | apply pt1 | apply pt2 | apply pt3 | apply pt4 | apply pt5 | apply pt6 | apply pt7 | apply pt8 | apply pt9 | apply pt10 | apply pt11 | apply pt12 | apply pt13 | apply pt14 | apply pt15 | apply pt16 | apply pt17))) (by (repeat (first | exact ro_nil | exact ro_rest (by assumption) | refine ro_cons (by first | exact .inl (by assumption) | exact ro_f0 (fun _ h => h) | exact ro_f0 (fun _ => slc_rsl) | exact ro_f1 (fun _ h => h) | exact ro_f1 (fun _ => slc_rsl) | exact ro_f2 (fun _ h => h) | exact ro_f2 (fun _ => slc_rsl) | exact ro_f3 (fun _ h => h) | exact ro_f3 (fun _ => slc_rsl) | exact ro_f4 (fun _ h => h) | exact ro_f4 (fun _ => slc_rsl) | exact ro_f5 (fun _ h => h) | exact ro_f5 (fun _ => slc_rsl) | exact ro_f6 (fun _ h => h) | exact ro_f6 (fun _ => slc_rsl)) ?_)))) (wm_ex fun x50 hx50 => ?_)
          refine wm_g rfl rfl (y_extract rfl rfl) ?_
          refine wm_g rfl rfl (y_extract rfl rfl) ?_
          first | refine wm_u rfl (fun _ _ => trivial) (yu_storeAgg [] (l' := [_, _, _, _, _, _]) T36 rfl rfl rfl (by simp [Value.oneCell', encL, encJ]) rfl rfl) ?_ | refine wm_u rfl (fun _ _ => trivial) (yu_storeAgg [_] (l' := [_, _, _, _, _, _]) T36 rfl rfl rfl (by simp [Value.oneCell', encL, encJ]) rfl rfl) ?_ | refine wm_u rfl (fun _ _ => trivial) (yu_storeAgg [_, _] (l' := [_, _, _, _, _, _]) T36 rfl rfl rfl (by simp [Value.oneCell', encL, encJ]) rfl rfl) ?_ | refine wm_u rfl (fun _ _ => trivial) (yu_storeAgg [_, _, _] (l' := [_, _, _, _, _, _]) T36 rfl rfl rfl (by simp [Value.oneCell', encL, encJ]) rfl rfl) ?_ | refine wm_u rfl (fun _ _ => trivial) (yu_storeAgg [_, _, _, _] (l' := [_, _, _, _, _, _]) T36 rfl rfl rfl (by simp [Value.oneCell', encL, encJ]) rfl rfl) ?_ | refine wm_u rfl (fun _ _ => trivial) (yu_storeAgg [_, _, _, _, _] (l' := [_, _, _, _, _, _]) T36 rfl rfl rfl (by simp [Value.oneCell', encL, encJ]) rfl rfl) ?_ | refine wm_u rfl (fun _ _ => trivial) (yu_storeAgg [_, _, _, _, _, _] (l' := [_, _, _, _, _, _]) T36 rfl rfl rfl (by simp [Value.oneCell', encL, encJ]) rfl rfl) ?_ | refine wm_u rfl (fun _ _ => trivial) (yu_storeAgg [_, _, _, _, _, _, _] (l' := [_, _, _, _, _, _]) T36 rfl rfl rfl (by simp [Value.oneCell', encL, encJ]) rfl rfl) ?_ | refine wm_u rfl (fun _ _ => trivial) (yu_storeAgg [_, _, _, _, _, _, _, _] (l' := [_, _, _, _, _, _]) T36 rfl rfl rfl (by simp [Value.oneCell', encL, encJ]) rfl rfl) ?_
          refine wm_g rfl rfl (y_assign rfl) ?_
          refine wm_nil ?_
          refine all_wq ?_
          refine wq_then ?_
          refine wc_ret ?_
          refine wq_retC2 (l := [_, _, _, _, _, _]) AG36 rfl rfl rfl rfl (by first | exact cells_blk [] rfl | exact cells_blk [_] rfl | exact cells_blk [_, _] rfl | exact cells_blk [_, _, _] rfl | exact cells_blk [_, _, _, _] rfl | exact cells_blk [_, _, _, _, _] rfl | exact cells_blk [_, _, _, _, _, _] rfl | exact cells_blk [_, _, _, _, _, _, _] rfl | exact cells_blk [_, _, _, _, _, _, _, _] rfl) (fun w hw => ?_)
          rw [next_some hg htb hp]; exact ⟨(), trivial, rfl, sc_shut x hx (hw.sub (by (repeat (first | exact pt_nil | apply pt0 | apply pt1 | apply pt2 | apply pt3 | apply pt4 | apply pt5 | apply pt6 | apply pt7 | apply pt8 | apply pt9 | apply pt10 | apply pt11 | apply pt12 | apply pt13 | apply pt14 | apply pt15 | apply pt16 | apply pt17))))⟩

set_option maxHeartbeats 1000000 in
theorem sfinish_c (b : Nat) (s : Sc) (key : Str) (e : Int) :
    Ctr Try.prog 15 #[ptr b, vS key, vI e] [] [scA b s] (fun _ : Unit => True) (fun _ => vI (s.finish key e).2) (fun _ => [scA b (s.finish key e).1]) := by
  refine spec_start (n := 25) [(0, ptr b), (1, vS key), (2, vI e)] Try.func15 rfl rfl ⟨rfl, rfl, rfl, trivial⟩ rfl ?_
  intro w0 K hR
  refine wc_ex sc_open (fun x => ?_)
  obtain ⟨x, hx⟩ := x
  refine wc_seq ?_
  refine wc_region ?_
  refine wl_y rfl (y_assign rfl) ?_
  refine wl_nil ?_
  refine wq_then ?_
  refine wc_seq ?_
  refine wc_seq ?_
  refine wc_region ?_
  refine wl_y rfl (y_move rfl) ?_
  refine wl_y rfl (y_eqlP Try.underlying23 rfl rfl) ?_
  refine wl_nil ?_
  refine wq_then ?_
  refine wc_known 9 false rfl (rfl) ?_
  refine wc_cond_false rfl ?_
  refine wc_skip ?_
  refine wq_then ?_
  refine wc_seq ?_
  refine wc_region ?_
  refine wl_y rfl (y_move rfl) ?_
  refine wl_y rfl (y_nilCheck rfl) ?_
  refine wl_y rfl (y_fieldAddr F66_1 rfl) ?_
  refine wl_y rfl (y_load NA61 rfl (by first | exact cell_blk [] rfl | exact cell_blk [_] rfl | exact cell_blk [_, _] rfl | exact cell_blk [_, _, _] rfl | exact cell_blk [_, _, _, _] rfl | exact cell_blk [_, _, _, _, _] rfl | exact cell_blk [_, _, _, _, _, _] rfl | exact cell_blk [_, _, _, _, _, _, _] rfl | exact cellR_blk (by assumption) rfl)) ?_
  refine wl_y rfl (y_move rfl) ?_
  refine wl_y rfl (y_move rfl) ?_
  refine wl_c (fun _ _ => want_none) rfl (yc_spec (fst := []) (cap := []) _ FN36 (finish_c x.tb s.t key e) rfl rfl rfl (by (repeat (first | exact pt_nil | apply pt0 | apply pt1 | apply pt2 | apply pt3 | apply pt4 | apply pt5 | apply pt6 | apply pt7 | apply pt8 | apply pt9 | apply pt10 | apply pt11 | apply pt12 | apply pt13 | apply pt14 | apply pt15 | apply pt16 | apply pt17))) (by (repeat (first | exact ro_nil | exact ro_rest (by assumption) | refine ro_cons (by first | exact .inl (by assumption) | exact ro_f0 (fun _ h => h) | exact ro_f0 (fun _ => slc_rsl) | exact ro_f1 (fun _ h => h) | exact ro_f1 (fun _ => slc_rsl) | exact ro_f2 (fun _ h => h) | exact ro_f2 (fun _ => slc_rsl) | exact ro_f3 (fun _ h => h) | exact ro_f3 (fun _ => slc_rsl) | exact ro_f4 (fun _ h => h) | exact ro_f4 (fun _ => slc_rsl) | exact ro_f5 (fun _ h => h) | exact ro_f5 (fun _ => slc_rsl) | exact ro_f6 (fun _ h => h) | exact ro_f6 (fun _ => slc_rsl)) ?_)))) (wl_ex fun x16 hx16 => ?_)
  refine wl_y rfl (y_assign rfl) ?_
  refine wl_nil ?_
  refine wq_then ?_
  refine wc_seq ?_
  refine wc_seq ?_
  refine wc_region ?_
  refine wl_y rfl (y_move rfl) ?_
  refine wl_y rfl (y_eqlI rfl rfl) ?_
  refine wl_nil ?_
  refine wq_then ?_
  refine wc_cond rfl (fun hc18 => ?_) (fun hc18 => ?_)
  ·
    simp at hc18
    refine wc_region ?_
    refine wl_y rfl (y_move rfl) ?_
    refine wl_y rfl (y_nilCheck rfl) ?_
    refine wl_y rfl (y_fieldAddr F66_3 rfl) ?_
    refine wl_y rfl (y_load NA28 rfl (by first | exact cell_blk [] rfl | exact cell_blk [_] rfl | exact cell_blk [_, _] rfl | exact cell_blk [_, _, _] rfl | exact cell_blk [_, _, _, _] rfl | exact cell_blk [_, _, _, _, _] rfl | exact cell_blk [_, _, _, _, _, _] rfl | exact cell_blk [_, _, _, _, _, _, _] rfl | exact cellR_blk (by assumption) rfl)) ?_
    refine wl_y rfl (y_move rfl) ?_
    first | refine yu_delete [] Try.underlying28 (keyE_str Try.underlying9) rfl rfl ?_ | refine yu_delete [_] Try.underlying28 (keyE_str Try.underlying9) rfl rfl ?_ | refine yu_delete [_, _] Try.underlying28 (keyE_str Try.underlying9) rfl rfl ?_ | refine yu_delete [_, _, _] Try.underlying28 (keyE_str Try.underlying9) rfl rfl ?_ | refine yu_delete [_, _, _, _] Try.underlying28 (keyE_str Try.underlying9) rfl rfl ?_ | refine yu_delete [_, _, _, _, _] Try.underlying28 (keyE_str Try.underlying9) rfl rfl ?_ | refine yu_delete [_, _, _, _, _, _] Try.underlying28 (keyE_str Try.underlying9) rfl rfl ?_ | refine yu_delete [_, _, _, _, _, _, _] Try.underlying28 (keyE_str Try.underlying9) rfl rfl ?_
    refine wl_nil ?_
    refine wq_then ?_
    refine wc_seq ?_
    refine wc_region ?_
    refine wl_y rfl (y_move rfl) ?_
    refine wl_y rfl (y_assign rfl) ?_
    refine wl_nil ?_
    refine wq_then ?_
    refine wc_ret ?_
    refine wq_ret1 rfl rfl (fun w hw => ?_)
    have e9 : s.finish key e = ({ s with t := (s.t.finish key e).1, th := mdel s.th key }, 0) := if_pos hc18
    rw [e9, hc18]; exact ⟨(), trivial, rfl, sc_shut x hx (hw.sub (by (repeat (first | exact pt_nil | apply pt0 | apply pt1 | apply pt2 | apply pt3 | apply pt4 | apply pt5 | apply pt6 | apply pt7 | apply pt8 | apply pt9 | apply pt10 | apply pt11 | apply pt12 | apply pt13 | apply pt14 | apply pt15 | apply pt16 | apply pt17))))⟩
  ·
    simp at hc18
    refine wc_skip ?_
    refine wq_then ?_
    refine wc_seq ?_
    refine wc_region ?_
    refine wl_y rfl (y_move rfl) ?_
    refine wl_y rfl (y_assign rfl) ?_
    refine wl_nil ?_
    refine wq_then ?_
    refine wc_ret ?_
    refine wq_ret1 rfl rfl (fun w hw => ?_)
    have e9 : s.finish key e = (s, (s.t.finish key e).2) := if_neg hc18
    have e8 : (s.t.finish key e).1 = s.t := by
      unfold Tb.finish at hc18 ⊢
      split
      · rename_i h0; rw [if_pos h0] at hc18; exact absurd rfl hc18
      · rfl
    rw [e8] at hw
    rw [e9]; exact ⟨(), trivial, rfl, sc_shut x hx (hw.sub (by (repeat (first | exact pt_nil | apply pt0 | apply pt1 | apply pt2 | apply pt3 | apply pt4 | apply pt5 | apply pt6 | apply pt7 | apply pt8 | apply pt9 | apply pt10 | apply pt11 | apply pt12 | apply pt13 | apply pt14 | apply pt15 | apply pt16 | apply pt17))))⟩

set_option maxHeartbeats 1000000 in
theorem stick_c (b : Nat) (s : Sc) (now : Int) (n : Int) (i : Nat) (hI : s.In n i) (h1 : 1 ≤ n) (h2 : n ≤ 1000000) (hi : i ≤ 490) :
    Ctr Try.prog 22 #[ptr b, vI now] [] [scA b s] (fun _ : Unit => True) (fun _ => vI (s.tick now).2) (fun _ => [scA b (s.tick now).1]) := by
  refine spec_start (n := 19) [(0, ptr b), (1, vI now)] Try.func22 rfl rfl ⟨rfl, rfl, trivial⟩ rfl ?_
  intro w0 K hR
  refine wc_ex sc_open (fun x => ?_)
  obtain ⟨x, hx⟩ := x
  refine wc_seq ?_
  refine wc_region ?_
  refine wl_y rfl (y_assign rfl) ?_
  refine wl_nil ?_
  refine wq_then ?_
  refine wc_seq ?_
  refine wc_seq ?_
  refine wc_region ?_
  refine wl_y rfl (y_move rfl) ?_
  refine wl_y rfl (y_eqlP Try.underlying23 rfl rfl) ?_
  refine wl_nil ?_
  refine wq_then ?_
  refine wc_known 7 false rfl (rfl) ?_
  refine wc_cond_false rfl ?_
  refine wc_skip ?_
  refine wq_then ?_
  refine wc_seq ?_
  refine wc_region ?_
  refine wl_y rfl (y_move rfl) ?_
  refine wl_y rfl (y_nilCheck rfl) ?_
  refine wl_y rfl (y_fieldAddr F66_1 rfl) ?_
  refine wl_y rfl (y_load NA61 rfl (by first | exact cell_blk [] rfl | exact cell_blk [_] rfl | exact cell_blk [_, _] rfl | exact cell_blk [_, _, _] rfl | exact cell_blk [_, _, _, _] rfl | exact cell_blk [_, _, _, _, _] rfl | exact cell_blk [_, _, _, _, _, _] rfl | exact cell_blk [_, _, _, _, _, _, _] rfl | exact cellR_blk (by assumption) rfl)) ?_
  refine wl_y rfl (y_move rfl) ?_
  refine wl_c (fun _ _ => want_none) rfl (yc_spec (fst := []) (cap := []) _ FN47 (expire_c x.tb s.t (hI.fits hi) now) rfl rfl rfl (by (repeat (first | exact pt_nil | apply pt0 | apply pt1 | apply pt2 | apply pt3 | apply pt4 | apply pt5 | apply pt6 | apply pt7 | apply pt8 | apply pt9 | apply pt10 | apply pt11 | apply pt12 | apply pt13 | apply pt14 | apply pt15 | apply pt16 | apply pt17))) (by (repeat (first | exact ro_nil | exact ro_rest (by assumption) | refine ro_cons (by first | exact .inl (by assumption) | exact ro_f0 (fun _ h => h) | exact ro_f0 (fun _ => slc_rsl) | exact ro_f1 (fun _ h => h) | exact ro_f1 (fun _ => slc_rsl) | exact ro_f2 (fun _ h => h) | exact ro_f2 (fun _ => slc_rsl) | exact ro_f3 (fun _ h => h) | exact ro_f3 (fun _ => slc_rsl) | exact ro_f4 (fun _ h => h) | exact ro_f4 (fun _ => slc_rsl) | exact ro_f5 (fun _ h => h) | exact ro_f5 (fun _ => slc_rsl) | exact ro_f6 (fun _ h => h) | exact ro_f6 (fun _ => slc_rsl)) ?_)))) (wl_ex fun x13 hx13 => ?_)
  refine wl_y rfl (y_assign rfl) ?_
  refine wl_nil ?_
  refine wq_then ?_
  refine wc_seq ?_
  refine wc_region ?_
  refine wl_y rfl (y_move rfl) ?_
  refine wl_y rfl (y_move rfl) ?_
  have htl := take_len2 s.t (isOver now)
  have hll := hI.lens.2.2
  refine wl_world (S' := Hp w0 K [scA b { s with t := (s.t.take (isOver now)).1 }, slc 30 3 x13.1 (s.t.take (isOver now)).2.length x13.2 ((s.t.take (isOver now)).2.flatMap encJ)]) (fun w hw => sc_shut x hx (hw.sub (by (repeat (first | exact pt_nil | apply pt0 | apply pt1 | apply pt2 | apply pt3 | apply pt4 | apply pt5 | apply pt6 | apply pt7 | apply pt8 | apply pt9 | apply pt10 | apply pt11 | apply pt12 | apply pt13 | apply pt14 | apply pt15 | apply pt16 | apply pt17))))) ?_
  refine wl_c (fun _ _ => want_none) rfl (yc_spec (fst := []) (cap := []) _ FN32 (sagain_c b { s with t := (s.t.take (isOver now)).1 } (s.t.take (isOver now)).2 x13.1 x13.2 (hI.qk' hi rfl rfl rfl (by omega)) (by omega)) rfl rfl rfl (by (repeat (first | exact pt_nil | apply pt0 | apply pt1 | apply pt2 | apply pt3 | apply pt4 | apply pt5 | apply pt6 | apply pt7 | apply pt8 | apply pt9 | apply pt10 | apply pt11 | apply pt12 | apply pt13 | apply pt14 | apply pt15 | apply pt16 | apply pt17))) (by (repeat (first | exact ro_nil | exact ro_rest (by assumption) | refine ro_cons (by first | exact .inl (by assumption) | exact ro_f0 (fun _ h => h) | exact ro_f0 (fun _ => slc_rsl) | exact ro_f1 (fun _ h => h) | exact ro_f1 (fun _ => slc_rsl) | exact ro_f2 (fun _ h => h) | exact ro_f2 (fun _ => slc_rsl) | exact ro_f3 (fun _ h => h) | exact ro_f3 (fun _ => slc_rsl) | exact ro_f4 (fun _ h => h) | exact ro_f4 (fun _ => slc_rsl) | exact ro_f5 (fun _ h => h) | exact ro_f5 (fun _ => slc_rsl) | exact ro_f6 (fun _ h => h) | exact ro_f6 (fun _ => slc_rsl)) ?_)))) (wl_ex fun x16 hx16 => ?_)
  refine wl_nil ?_
  refine wq_then ?_
  refine wc_seq ?_
  refine wc_region ?_
  refine wl_y rfl (y_move rfl) ?_
  refine wl_y rfl (y_lenSl Try.underlying49 rfl) ?_
  refine wl_y rfl (y_assign rfl) ?_
  refine wl_nil ?_
  refine wq_then ?_
  refine wc_ret ?_
  refine wq_ret1 rfl rfl (fun w hw => ?_)
  exact ⟨(), trivial, rfl, hw.sub (by (repeat (first | exact pt_nil | apply pt0 | apply pt1 | apply pt2 | apply pt3 | apply pt4 | apply pt5 | apply pt6 | apply pt7 | apply pt8 | apply pt9 | apply pt10 | apply pt11 | apply pt12 | apply pt13 | apply pt14 | apply pt15 | apply pt16 | apply pt17)))⟩

set_option maxHeartbeats 1000000 in
theorem swait_c (b : Nat) (s : Sc) (hk : Keyed1 s.rows) (hl : s.waiting ≤ 1000000) :
    Ctr Try.prog 14 #[ptr b] [] [scA b s] (fun _ : Unit => True) (fun _ => vI (s.waiting : Nat)) (fun _ => [scA b s]) := by
  refine spec_start (n := 27) [(0, ptr b)] Try.func14 rfl rfl ⟨rfl, trivial⟩ rfl ?_
  intro w0 K hR
  refine wc_ex sc_open (fun x => ?_)
  obtain ⟨x, hx⟩ := x
  have hkr := keyed_rs hx hk
  refine wc_seq ?_
  refine wc_region ?_
  refine wl_y rfl (y_assign rfl) ?_
  refine wl_nil ?_
  refine wq_then ?_
  refine wc_seq ?_
  refine wc_seq ?_
  refine wc_region ?_
  refine wl_y rfl (y_move rfl) ?_
  refine wl_y rfl (y_eqlP Try.underlying23 rfl rfl) ?_
  refine wl_nil ?_
  refine wq_then ?_
  refine wc_known 7 false rfl (rfl) ?_
  refine wc_cond_false rfl ?_
  refine wc_skip ?_
  refine wq_then ?_
  refine wc_seq ?_
  refine wc_region ?_
  refine wl_y rfl (y_move rfl) ?_
  refine wl_y rfl (y_nilCheck rfl) ?_
  refine wl_y rfl (y_fieldAddr F66_0 rfl) ?_
  refine wl_y rfl (y_load NA58 rfl (by first | exact cell_blk [] rfl | exact cell_blk [_] rfl | exact cell_blk [_, _] rfl | exact cell_blk [_, _, _] rfl | exact cell_blk [_, _, _, _] rfl | exact cell_blk [_, _, _, _, _] rfl | exact cell_blk [_, _, _, _, _, _] rfl | exact cell_blk [_, _, _, _, _, _, _] rfl | exact cellR_blk (by assumption) rfl)) ?_
  refine wl_c (fun _ _ => want_none) rfl (yc_spec (fst := []) (cap := []) _ FN35 (qlen_ok x.qb s.age s.n s.R) rfl rfl rfl (by (repeat (first | exact pt_nil | apply pt0 | apply pt1 | apply pt2 | apply pt3 | apply pt4 | apply pt5 | apply pt6 | apply pt7 | apply pt8 | apply pt9 | apply pt10 | apply pt11 | apply pt12 | apply pt13 | apply pt14 | apply pt15 | apply pt16 | apply pt17))) (by (repeat (first | exact ro_nil | exact ro_rest (by assumption) | refine ro_cons (by first | exact .inl (by assumption) | exact ro_f0 (fun _ h => h) | exact ro_f0 (fun _ => slc_rsl) | exact ro_f1 (fun _ h => h) | exact ro_f1 (fun _ => slc_rsl) | exact ro_f2 (fun _ h => h) | exact ro_f2 (fun _ => slc_rsl) | exact ro_f3 (fun _ h => h) | exact ro_f3 (fun _ => slc_rsl) | exact ro_f4 (fun _ h => h) | exact ro_f4 (fun _ => slc_rsl) | exact ro_f5 (fun _ h => h) | exact ro_f5 (fun _ => slc_rsl) | exact ro_f6 (fun _ h => h) | exact ro_f6 (fun _ => slc_rsl)) ?_)))) (wl_ex fun x12 hx12 => ?_)
  refine wl_y rfl (y_assign rfl) ?_
  refine wl_nil ?_
  refine wq_then ?_
  refine wc_seq ?_
  refine wc_seq ?_
  refine wc_region ?_
  refine wl_y rfl (y_move rfl) ?_
  refine wl_y rfl (y_nilCheck rfl) ?_
  refine wl_y rfl (y_fieldAddr F66_2 rfl) ?_
  refine wl_y rfl (y_load NA64 rfl (by first | exact cell_blk [] rfl | exact cell_blk [_] rfl | exact cell_blk [_, _] rfl | exact cell_blk [_, _, _] rfl | exact cell_blk [_, _, _, _] rfl | exact cell_blk [_, _, _, _, _] rfl | exact cell_blk [_, _, _, _, _, _] rfl | exact cell_blk [_, _, _, _, _, _, _] rfl | exact cellR_blk (by assumption) rfl)) ?_
  first | refine wl_w (fun _ _ => want_none) rfl (yw_range [] Try.underlying64 rfl) (wl_ex fun b17 _ => ?_) | refine wl_w (fun _ _ => want_none) rfl (yw_range [_] Try.underlying64 rfl) (wl_ex fun b17 _ => ?_) | refine wl_w (fun _ _ => want_none) rfl (yw_range [_, _] Try.underlying64 rfl) (wl_ex fun b17 _ => ?_) | refine wl_w (fun _ _ => want_none) rfl (yw_range [_, _, _] Try.underlying64 rfl) (wl_ex fun b17 _ => ?_) | refine wl_w (fun _ _ => want_none) rfl (yw_range [_, _, _, _] Try.underlying64 rfl) (wl_ex fun b17 _ => ?_) | refine wl_w (fun _ _ => want_none) rfl (yw_range [_, _, _, _, _] Try.underlying64 rfl) (wl_ex fun b17 _ => ?_) | refine wl_w (fun _ _ => want_none) rfl (yw_range [_, _, _, _, _, _] Try.underlying64 rfl) (wl_ex fun b17 _ => ?_) | refine wl_w (fun _ _ => want_none) rfl (yw_range [_, _, _, _, _, _, _] Try.underlying64 rfl) (wl_ex fun b17 _ => ?_)
  refine wl_same 3 (vI (s.R.length + sumH x.rs [] : Nat)) rfl (by rw [sumH_nil]; rfl) ?_
  refine wl_nil ?_
  refine wq_then ?_
  refine wc_block ?_
  refine wc_loop (α := List Str) (fun dn => True) [(17, _)] (fun dn => [(3, vI (s.R.length + sumH x.rs dn : Nat))]) (fun dn => Hp w0 K [rngA vS vJs x.rm b17 x.rs dn, blk b (.cells #[ptr x.qb, ptr x.tb, .map (some x.rm), .map (some x.tm)] 66 (0, 0)), qA x.qb s.age s.n s.R, tbA x.tb s.t, rowsA x.rs, mapA vS vB x.tm s.th]) (fun dn => leftM x.rs dn) [] ?_ ⟨rfl, rfl, trivial⟩ ?_ ?_
  · trivial
  · exact fun w hw => hw.sub (by (repeat (first | exact pt_nil | apply pt0 | apply pt1 | apply pt2 | apply pt3 | apply pt4 | apply pt5 | apply pt6 | apply pt7 | apply pt8 | apply pt9 | apply pt10 | apply pt11 | apply pt12 | apply pt13 | apply pt14 | apply pt15 | apply pt16 | apply pt17)))
  · intro dn _
    refine wc_seq ?_
    refine wc_region ?_
    first | refine wl_w (fun _ _ => want_none) rfl (yw_next [] rfl) (wl_ex fun x18 hx18 => ?_) | refine wl_w (fun _ _ => want_none) rfl (yw_next [_] rfl) (wl_ex fun x18 hx18 => ?_) | refine wl_w (fun _ _ => want_none) rfl (yw_next [_, _] rfl) (wl_ex fun x18 hx18 => ?_) | refine wl_w (fun _ _ => want_none) rfl (yw_next [_, _, _] rfl) (wl_ex fun x18 hx18 => ?_) | refine wl_w (fun _ _ => want_none) rfl (yw_next [_, _, _, _] rfl) (wl_ex fun x18 hx18 => ?_) | refine wl_w (fun _ _ => want_none) rfl (yw_next [_, _, _, _, _] rfl) (wl_ex fun x18 hx18 => ?_) | refine wl_w (fun _ _ => want_none) rfl (yw_next [_, _, _, _, _, _] rfl) (wl_ex fun x18 hx18 => ?_) | refine wl_w (fun _ _ => want_none) rfl (yw_next [_, _, _, _, _, _, _] rfl) (wl_ex fun x18 hx18 => ?_)
    rcases x18 with _ | q18
    ·
      refine wl_y rfl (y_extract rfl rfl) ?_
      refine wl_nil ?_
      refine wq_then ?_
      refine wc_seq ?_
      refine wc_known 19 false rfl (rfl) ?_
      refine wc_cond_false rfl ?_
      refine wc_exit ?_
      refine wq_then_exit (wq_then_exit (wq_block_exit ?_))
      refine wq_then ?_
      refine wc_seq ?_
      refine wc_region ?_
      refine wl_y rfl (y_move rfl) ?_
      refine wl_y rfl (y_assign rfl) ?_
      refine wl_nil ?_
      refine wq_then ?_
      refine wc_ret ?_
      refine wq_ret1 rfl rfl (fun w hw => ?_)
      rw [wait_rs hx, ← sumH_all hx18]
      exact ⟨(), trivial, rfl, sc_shut x hx ((Hp.rngEnd hw).sub (by (repeat (first | exact pt_nil | apply pt0 | apply pt1 | apply pt2 | apply pt3 | apply pt4 | apply pt5 | apply pt6 | apply pt7 | apply pt8 | apply pt9 | apply pt10 | apply pt11 | apply pt12 | apply pt13 | apply pt14 | apply pt15 | apply pt16 | apply pt17))))⟩
    ·
      refine wl_y rfl (y_extract rfl rfl) ?_
      refine wl_nil ?_
      refine wq_then ?_
      refine wc_seq ?_
      refine wc_known 19 true rfl (rfl) ?_
      refine wc_cond_true rfl ?_
      refine wc_skip ?_
      refine wq_then ?_
      refine wc_block ?_
      refine wc_seq ?_
      refine wc_region ?_
      refine wl_y rfl (y_entry rfl (mget_of_mem (k := q18.1) (v := q18.2) hkr hx18.1) (by first | exact fun w hw => hw.seen [] | exact fun w hw => hw.seen [_] | exact fun w hw => hw.seen [_, _] | exact fun w hw => hw.seen [_, _, _] | exact fun w hw => hw.seen [_, _, _, _] | exact fun w hw => hw.seen [_, _, _, _, _] | exact fun w hw => hw.seen [_, _, _, _, _, _] | exact fun w hw => hw.seen [_, _, _, _, _, _, _])) ?_
      refine wl_y rfl (y_extract rfl rfl) ?_
      refine wl_y rfl (y_assign rfl) ?_
      refine wl_nil ?_
      refine wq_then ?_
      refine wc_region ?_
      have hs := sumH_step hkr hx18.1 hx18.2
      have hs2 := sumH_le x.rs (q18.1 :: dn)
      have hw9 := wait_rs hx
      refine wl_y rfl (y_move rfl) ?_
      refine wl_y rfl (y_move rfl) ?_
      refine wl_y rfl (y_lenSl Try.underlying49 rfl) ?_
      refine wl_y rfl (y_add rfl rfl (by omega)) ?_
      refine wl_y rfl (y_assign rfl) ?_
      refine wl_nil ?_
      refine wq_block_normal ?_
      refine wq_same 3 (vI (s.R.length + sumH x.rs (q18.1 :: dn) : Nat)) rfl (by rw [hs]; congr 1; omega) ?_
      exact wq_round (q18.1 :: dn) (leftM_lt hx18) trivial ⟨rfl, rfl, trivial⟩ (fun w hw => hw)

set_option maxHeartbeats 1000000 in
theorem sleases_c (b : Nat) (s : Sc) (hft : s.t.fits) :
    Ctr Try.prog 13 #[ptr b] [] [scA b s] (fun _ : Option Addr × Nat => True) (fun x => .slice x.1 s.t.srt.length x.2) (fun x => [scA b s, slc 36 6 x.1 s.t.srt.length x.2 (s.t.srt.flatMap encL)]) := by
  refine spec_start (n := 10) [(0, ptr b)] Try.func13 rfl rfl ⟨rfl, trivial⟩ rfl ?_
  intro w0 K hR
  refine wc_ex sc_open (fun x => ?_)
  obtain ⟨x, hx⟩ := x
  refine wc_seq ?_
  refine wc_region ?_
  refine wl_y rfl (y_assign rfl) ?_
  refine wl_nil ?_
  refine wq_then ?_
  refine wc_seq ?_
  refine wc_seq ?_
  refine wc_region ?_
  refine wl_y rfl (y_move rfl) ?_
  refine wl_y rfl (y_eqlP Try.underlying23 rfl rfl) ?_
  refine wl_nil ?_
  refine wq_then ?_
  refine wc_known 4 false rfl (rfl) ?_
  refine wc_cond_false rfl ?_
  refine wc_skip ?_
  refine wq_then ?_
  refine wc_seq ?_
  refine wc_region ?_
  refine wl_y rfl (y_move rfl) ?_
  refine wl_y rfl (y_nilCheck rfl) ?_
  refine wl_y rfl (y_fieldAddr F66_1 rfl) ?_
  refine wl_y rfl (y_load NA61 rfl (by first | exact cell_blk [] rfl | exact cell_blk [_] rfl | exact cell_blk [_, _] rfl | exact cell_blk [_, _, _] rfl | exact cell_blk [_, _, _, _] rfl | exact cell_blk [_, _, _, _, _] rfl | exact cell_blk [_, _, _, _, _, _] rfl | exact cell_blk [_, _, _, _, _, _, _] rfl | exact cellR_blk (by assumption) rfl)) ?_
  refine wl_c (fun _ _ => want_none) rfl (yc_spec (fst := []) (cap := []) _ FN34 (list_c x.tb s.t hft) rfl rfl rfl (by (repeat (first | exact pt_nil | apply pt0 | apply pt1 | apply pt2 | apply pt3 | apply pt4 | apply pt5 | apply pt6 | apply pt7 | apply pt8 | apply pt9 | apply pt10 | apply pt11 | apply pt12 | apply pt13 | apply pt14 | apply pt15 | apply pt16 | apply pt17))) (by (repeat (first | exact ro_nil | exact ro_rest (by assumption) | refine ro_cons (by first | exact .inl (by assumption) | exact ro_f0 (fun _ h => h) | exact ro_f0 (fun _ => slc_rsl) | exact ro_f1 (fun _ h => h) | exact ro_f1 (fun _ => slc_rsl) | exact ro_f2 (fun _ h => h) | exact ro_f2 (fun _ => slc_rsl) | exact ro_f3 (fun _ h => h) | exact ro_f3 (fun _ => slc_rsl) | exact ro_f4 (fun _ h => h) | exact ro_f4 (fun _ => slc_rsl) | exact ro_f5 (fun _ h => h) | exact ro_f5 (fun _ => slc_rsl) | exact ro_f6 (fun _ h => h) | exact ro_f6 (fun _ => slc_rsl)) ?_)))) (wl_ex fun x9 hx9 => ?_)
  refine wl_y rfl (y_assign rfl) ?_
  refine wl_nil ?_
  refine wq_then ?_
  refine wc_ret ?_
  refine wq_ret1 rfl rfl (fun w hw => ?_)
  rw [Tb.srt_len]; exact ⟨x9, trivial, rfl, sc_shut x hx (hw.sub (by (repeat (first | exact pt_nil | apply pt0 | apply pt1 | apply pt2 | apply pt3 | apply pt4 | apply pt5 | apply pt6 | apply pt7 | apply pt8 | apply pt9 | apply pt10 | apply pt11 | apply pt12 | apply pt13 | apply pt14 | apply pt15 | apply pt16 | apply pt17))))⟩

set_option maxHeartbeats 1000000 in
theorem sleave_c (b : Nat) (s : Sc) (wk : Str) (n : Int) (i : Nat) (hI : s.In n i) (h1 : 1 ≤ n) (h2 : n ≤ 1000000) (hi : i ≤ 490) :
    Ctr Try.prog 12 #[ptr b, vS wk] [] [scA b s] (fun _ : Unit => True) (fun _ => vI (s.leave wk).2) (fun _ => [scA b (s.leave wk).1]) := by
  refine spec_start (n := 36) [(0, ptr b), (1, vS wk)] Try.func12 rfl rfl ⟨rfl, rfl, trivial⟩ rfl ?_
  intro w0 K hR
  refine wc_ex sc_open (fun x => ?_)
  obtain ⟨x0, hx0⟩ := x
  refine wc_seq ?_
  refine wc_region ?_
  refine wl_y rfl (y_assign rfl) ?_
  refine wl_nil ?_
  refine wq_then ?_
  refine wc_seq ?_
  refine wc_seq ?_
  refine wc_region ?_
  refine wl_y rfl (y_move rfl) ?_
  refine wl_y rfl (y_eqlP Try.underlying23 rfl rfl) ?_
  refine wl_nil ?_
  refine wq_then ?_
  refine wc_known 8 false rfl (rfl) ?_
  refine wc_cond_false rfl ?_
  refine wc_skip ?_
  refine wq_then ?_
  refine wc_seq ?_
  refine wc_region ?_
  rcases hg : mget s.rows wk with _ | l0
  ·
    refine wl_y rfl (y_move rfl) ?_
    refine wl_y rfl (y_nilCheck rfl) ?_
    refine wl_y rfl (y_fieldAddr F66_2 rfl) ?_
    refine wl_y rfl (y_load NA64 rfl (by first | exact cell_blk [] rfl | exact cell_blk [_] rfl | exact cell_blk [_, _] rfl | exact cell_blk [_, _, _] rfl | exact cell_blk [_, _, _, _] rfl | exact cell_blk [_, _, _, _, _] rfl | exact cell_blk [_, _, _, _, _, _] rfl | exact cell_blk [_, _, _, _, _, _, _] rfl | exact cell_blk [_, _, _, _, _, _, _, _] rfl | exact cellR_blk (by assumption) rfl)) ?_
    refine wl_y rfl (y_move rfl) ?_
    refine wl_y rfl (y_lookup Try.underlying64 (keyE_str Try.underlying9) T49 rfl rfl (by first | exact fun w hw => hw.seen [] | exact fun w hw => hw.seen [_] | exact fun w hw => hw.seen [_, _] | exact fun w hw => hw.seen [_, _, _] | exact fun w hw => hw.seen [_, _, _, _] | exact fun w hw => hw.seen [_, _, _, _, _] | exact fun w hw => hw.seen [_, _, _, _, _, _] | exact fun w hw => hw.seen [_, _, _, _, _, _, _] | exact fun w hw => hw.seen [_, _, _, _, _, _, _, _] | exact fun w hw => Seen.rngMap (hw.seen []) | exact fun w hw => Seen.rngMap (hw.seen [_]) | exact fun w hw => Seen.rngMap (hw.seen [_, _]) | exact fun w hw => Seen.rngMap (hw.seen [_, _, _]) | exact fun w hw => Seen.rngMap (hw.seen [_, _, _, _]) | exact fun w hw => Seen.rngMap (hw.seen [_, _, _, _, _]) | exact fun w hw => Seen.rngMap (hw.seen [_, _, _, _, _, _]) | exact fun w hw => Seen.rngMap (hw.seen [_, _, _, _, _, _, _]) | exact fun w hw => Seen.rngMap (hw.seen [_, _, _, _, _, _, _, _]))) ?_
    refine wl_same 15 (.tuple #[vJs (slOf x0.rs wk), vB (mget s.rows wk).isSome]) rfl (by rw [← rs_has hx0]; exact look_ok _ _) ?_
    refine wl_y rfl (y_move rfl) ?_
    refine wl_y rfl (y_extract rfl rfl) ?_
    refine wl_y rfl (y_extract rfl rfl) ?_
    refine wl_y rfl (y_assign rfl) ?_
    refine wl_y rfl (y_assign rfl) ?_
    refine wl_nil ?_
    refine wq_then ?_
    refine wc_seq ?_
    refine wc_seq ?_
    refine wc_region ?_
    refine wl_y rfl (y_move rfl) ?_
    refine wl_y rfl (y_not rfl) ?_
    refine wl_nil ?_
    refine wq_then ?_
    refine wc_known 19 true rfl (by rw [hg]; rfl) ?_
    refine wc_cond_true rfl ?_
    refine wc_seq ?_
    refine wc_region ?_
    refine wl_y rfl (y_assign rfl) ?_
    refine wl_nil ?_
    refine wq_then ?_
    refine wc_ret ?_
    refine wq_then_ret ?_
    refine wq_ret1 rfl rfl (fun w hw => ?_)
    have e9 : s.leave wk = (s, 17) := by rw [Sc.leave, hg]
    rw [e9]; exact ⟨(), trivial, rfl, sc_shut x0 hx0 (hw.sub (by (repeat (first | exact pt_nil | apply pt0 | apply pt1 | apply pt2 | apply pt3 | apply pt4 | apply pt5 | apply pt6 | apply pt7 | apply pt8 | apply pt9 | apply pt10 | apply pt11 | apply pt12 | apply pt13 | apply pt14 | apply pt15 | apply pt16 | apply pt17))))⟩
  ·
    refine wl_y rfl (y_move rfl) ?_
    refine wl_y rfl (y_nilCheck rfl) ?_
    refine wl_y rfl (y_fieldAddr F66_2 rfl) ?_
    refine wl_y rfl (y_load NA64 rfl (by first | exact cell_blk [] rfl | exact cell_blk [_] rfl | exact cell_blk [_, _] rfl | exact cell_blk [_, _, _] rfl | exact cell_blk [_, _, _, _] rfl | exact cell_blk [_, _, _, _, _] rfl | exact cell_blk [_, _, _, _, _, _] rfl | exact cell_blk [_, _, _, _, _, _, _] rfl | exact cell_blk [_, _, _, _, _, _, _, _] rfl | exact cellR_blk (by assumption) rfl)) ?_
    refine wl_y rfl (y_move rfl) ?_
    refine wl_y rfl (y_lookup Try.underlying64 (keyE_str Try.underlying9) T49 rfl rfl (by first | exact fun w hw => hw.seen [] | exact fun w hw => hw.seen [_] | exact fun w hw => hw.seen [_, _] | exact fun w hw => hw.seen [_, _, _] | exact fun w hw => hw.seen [_, _, _, _] | exact fun w hw => hw.seen [_, _, _, _, _] | exact fun w hw => hw.seen [_, _, _, _, _, _] | exact fun w hw => hw.seen [_, _, _, _, _, _, _] | exact fun w hw => hw.seen [_, _, _, _, _, _, _, _] | exact fun w hw => Seen.rngMap (hw.seen []) | exact fun w hw => Seen.rngMap (hw.seen [_]) | exact fun w hw => Seen.rngMap (hw.seen [_, _]) | exact fun w hw => Seen.rngMap (hw.seen [_, _, _]) | exact fun w hw => Seen.rngMap (hw.seen [_, _, _, _]) | exact fun w hw => Seen.rngMap (hw.seen [_, _, _, _, _]) | exact fun w hw => Seen.rngMap (hw.seen [_, _, _, _, _, _]) | exact fun w hw => Seen.rngMap (hw.seen [_, _, _, _, _, _, _]) | exact fun w hw => Seen.rngMap (hw.seen [_, _, _, _, _, _, _, _]))) ?_
    refine wl_same 15 (.tuple #[vJs (slOf x0.rs wk), vB (mget s.rows wk).isSome]) rfl (by rw [← rs_has hx0]; exact look_ok _ _) ?_
    refine wl_y rfl (y_move rfl) ?_
    refine wl_y rfl (y_extract rfl rfl) ?_
    refine wl_y rfl (y_extract rfl rfl) ?_
    refine wl_y rfl (y_assign rfl) ?_
    refine wl_y rfl (y_assign rfl) ?_
    refine wl_nil ?_
    refine wq_then ?_
    refine wc_seq ?_
    refine wc_seq ?_
    refine wc_region ?_
    refine wl_y rfl (y_move rfl) ?_
    refine wl_y rfl (y_not rfl) ?_
    refine wl_nil ?_
    refine wq_then ?_
    refine wc_known 19 false rfl (by rw [hg]; rfl) ?_
    refine wc_cond_false rfl ?_
    refine wc_skip ?_
    refine wq_then ?_
    refine wc_seq ?_
    refine wc_region ?_
    have hsl := slOf_xs hx0 wk
    have hrl := hI.row_len wk
    have hsm : (mget x0.rs wk).isSome = true := by rw [rs_has hx0, hg]; rfl
    refine wl_y rfl (y_move rfl) ?_
    refine wl_y rfl (y_nilCheck rfl) ?_
    refine wl_y rfl (y_fieldAddr F66_2 rfl) ?_
    refine wl_y rfl (y_load NA64 rfl (by first | exact cell_blk [] rfl | exact cell_blk [_] rfl | exact cell_blk [_, _] rfl | exact cell_blk [_, _, _] rfl | exact cell_blk [_, _, _, _] rfl | exact cell_blk [_, _, _, _, _] rfl | exact cell_blk [_, _, _, _, _, _] rfl | exact cell_blk [_, _, _, _, _, _, _] rfl | exact cell_blk [_, _, _, _, _, _, _, _] rfl | exact cellR_blk (by assumption) rfl)) ?_
    refine wl_y rfl (y_move rfl) ?_
    first | refine yu_delete [] Try.underlying64 (keyE_str Try.underlying9) rfl rfl ?_ | refine yu_delete [_] Try.underlying64 (keyE_str Try.underlying9) rfl rfl ?_ | refine yu_delete [_, _] Try.underlying64 (keyE_str Try.underlying9) rfl rfl ?_ | refine yu_delete [_, _, _] Try.underlying64 (keyE_str Try.underlying9) rfl rfl ?_ | refine yu_delete [_, _, _, _] Try.underlying64 (keyE_str Try.underlying9) rfl rfl ?_ | refine yu_delete [_, _, _, _, _] Try.underlying64 (keyE_str Try.underlying9) rfl rfl ?_ | refine yu_delete [_, _, _, _, _, _] Try.underlying64 (keyE_str Try.underlying9) rfl rfl ?_ | refine yu_delete [_, _, _, _, _, _, _] Try.underlying64 (keyE_str Try.underlying9) rfl rfl ?_ | refine yu_delete [_, _, _, _, _, _, _, _] Try.underlying64 (keyE_str Try.underlying9) rfl rfl ?_
    refine wl_nil ?_
    refine wq_then ?_
    refine wc_seq ?_
    refine wc_region ?_
    refine wl_y rfl (y_move rfl) ?_
    refine wl_y rfl (y_move rfl) ?_
    refine wl_world (S' := Hp w0 K [scA b { s with rows := mdel s.rows wk }, slc 30 3 (slOf x0.rs wk).a (slOf x0.rs wk).xs.length (slOf x0.rs wk).cap ((slOf x0.rs wk).xs.flatMap encJ)]) (fun w hw => by
      have h9 := rows_out (sl_some hsm) (hw.sub (by (repeat (first | exact pt_nil | apply pt0 | apply pt1 | apply pt2 | apply pt3 | apply pt4 | apply pt5 | apply pt6 | apply pt7 | apply pt8 | apply pt9 | apply pt10 | apply pt11 | apply pt12 | apply pt13 | apply pt14 | apply pt15 | apply pt16 | apply pt17))) : Hp w0 K [rowsA x0.rs, blk b (.cells #[ptr x0.qb, ptr x0.tb, .map (some x0.rm), .map (some x0.tm)] 66 (0, 0)), qA x0.qb s.age s.n s.R, tbA x0.tb s.t, mapA vS vJs x0.rm (mdel x0.rs wk), mapA vS vB x0.tm s.th] w)
      exact sc_shut ⟨x0.qb, x0.tb, x0.rm, x0.tm, mdel x0.rs wk⟩ (by rw [mdel_val, hx0]) (h9.sub (by (repeat (first | exact pt_nil | apply pt0 | apply pt1 | apply pt2 | apply pt3 | apply pt4 | apply pt5 | apply pt6 | apply pt7 | apply pt8 | apply pt9 | apply pt10 | apply pt11 | apply pt12 | apply pt13 | apply pt14 | apply pt15 | apply pt16 | apply pt17))))) ?_
    refine wl_c (fun _ _ => want_none) rfl (yc_spec (fst := []) (cap := []) _ FN32 (sagain_c b { s with rows := mdel s.rows wk } (slOf x0.rs wk).xs (slOf x0.rs wk).a (slOf x0.rs wk).cap (hI.qk' hi rfl rfl rfl (by rw [hsl]; omega)) (by rw [hsl]; omega)) rfl rfl rfl (by (repeat (first | exact pt_nil | apply pt0 | apply pt1 | apply pt2 | apply pt3 | apply pt4 | apply pt5 | apply pt6 | apply pt7 | apply pt8 | apply pt9 | apply pt10 | apply pt11 | apply pt12 | apply pt13 | apply pt14 | apply pt15 | apply pt16 | apply pt17))) (by (repeat (first | exact ro_nil | exact ro_rest (by assumption) | refine ro_cons (by first | exact .inl (by assumption) | exact ro_f0 (fun _ h => h) | exact ro_f0 (fun _ => slc_rsl) | exact ro_f1 (fun _ h => h) | exact ro_f1 (fun _ => slc_rsl) | exact ro_f2 (fun _ h => h) | exact ro_f2 (fun _ => slc_rsl) | exact ro_f3 (fun _ h => h) | exact ro_f3 (fun _ => slc_rsl) | exact ro_f4 (fun _ h => h) | exact ro_f4 (fun _ => slc_rsl) | exact ro_f5 (fun _ h => h) | exact ro_f5 (fun _ => slc_rsl) | exact ro_f6 (fun _ h => h) | exact ro_f6 (fun _ => slc_rsl)) ?_)))) (wl_ex fun x27 hx27 => ?_)
    refine wl_nil ?_
    refine wq_then ?_
    refine wc_seq ?_
    refine wc_region ?_
    obtain ⟨_, hb2, _, _⟩ := again_rest (slOf x0.rs wk).xs { s with rows := mdel s.rows wk }
    have hq1 : (({ s with rows := mdel s.rows wk } : Sc).again (slOf x0.rs wk).xs).Qk 5000 := Sc.Qk.again (hI.qk' hi rfl rfl rfl (by rw [hsl]; omega))
    have htl := take_len2 (({ s with rows := mdel s.rows wk } : Sc).again (slOf x0.rs wk).xs).t (isOf wk)
    have hll := hI.lens.2.2
    have hft : (({ s with rows := mdel s.rows wk } : Sc).again (slOf x0.rs wk).xs).t.fits := by rw [hb2]; exact hI.fits hi
    have htm : (({ s with rows := mdel s.rows wk } : Sc).again (slOf x0.rs wk).xs).t.m.length ≤ i := by rw [hb2]; exact hll
    refine wl_world (S' := Hp w0 K [scA b (({ s with rows := mdel s.rows wk } : Sc).again (slOf x0.rs wk).xs)]) (fun w hw => hw.sub (by (repeat (first | exact pt_nil | apply pt0 | apply pt1 | apply pt2 | apply pt3 | apply pt4 | apply pt5 | apply pt6 | apply pt7 | apply pt8 | apply pt9 | apply pt10 | apply pt11 | apply pt12 | apply pt13 | apply pt14 | apply pt15 | apply pt16 | apply pt17)))) ?_
    refine wl_exS sc_open (fun x => ?_)
    obtain ⟨x, hx⟩ := x
    refine wl_y rfl (y_move rfl) ?_
    refine wl_y rfl (y_move rfl) ?_
    refine wl_y rfl (y_nilCheck rfl) ?_
    refine wl_y rfl (y_fieldAddr F66_1 rfl) ?_
    refine wl_y rfl (y_load NA61 rfl (by first | exact cell_blk [] rfl | exact cell_blk [_] rfl | exact cell_blk [_, _] rfl | exact cell_blk [_, _, _] rfl | exact cell_blk [_, _, _, _] rfl | exact cell_blk [_, _, _, _, _] rfl | exact cell_blk [_, _, _, _, _, _] rfl | exact cell_blk [_, _, _, _, _, _, _] rfl | exact cell_blk [_, _, _, _, _, _, _, _] rfl | exact cellR_blk (by assumption) rfl)) ?_
    refine wl_y rfl (y_move rfl) ?_
    refine wl_c (fun _ _ => want_none) rfl (yc_spec (fst := []) (cap := []) _ FN33 (drop_c x.tb (({ s with rows := mdel s.rows wk } : Sc).again (slOf x0.rs wk).xs).t hft wk) rfl rfl rfl (by (repeat (first | exact pt_nil | apply pt0 | apply pt1 | apply pt2 | apply pt3 | apply pt4 | apply pt5 | apply pt6 | apply pt7 | apply pt8 | apply pt9 | apply pt10 | apply pt11 | apply pt12 | apply pt13 | apply pt14 | apply pt15 | apply pt16 | apply pt17))) (by (repeat (first | exact ro_nil | exact ro_rest (by assumption) | refine ro_cons (by first | exact .inl (by assumption) | exact ro_f0 (fun _ h => h) | exact ro_f0 (fun _ => slc_rsl) | exact ro_f1 (fun _ h => h) | exact ro_f1 (fun _ => slc_rsl) | exact ro_f2 (fun _ h => h) | exact ro_f2 (fun _ => slc_rsl) | exact ro_f3 (fun _ h => h) | exact ro_f3 (fun _ => slc_rsl) | exact ro_f4 (fun _ h => h) | exact ro_f4 (fun _ => slc_rsl) | exact ro_f5 (fun _ h => h) | exact ro_f5 (fun _ => slc_rsl) | exact ro_f6 (fun _ h => h) | exact ro_f6 (fun _ => slc_rsl)) ?_)))) (wl_ex fun x34 hx34 => ?_)
    refine wl_world (S' := Hp w0 K [scA b { (({ s with rows := mdel s.rows wk } : Sc).again (slOf x0.rs wk).xs) with t := ((({ s with rows := mdel s.rows wk } : Sc).again (slOf x0.rs wk).xs).t.take (isOf wk)).1 }, slc 30 3 x34.1 ((({ s with rows := mdel s.rows wk } : Sc).again (slOf x0.rs wk).xs).t.take (isOf wk)).2.length x34.2 (((({ s with rows := mdel s.rows wk } : Sc).again (slOf x0.rs wk).xs).t.take (isOf wk)).2.flatMap encJ)]) (fun w hw => sc_shut x hx (hw.sub (by (repeat (first | exact pt_nil | apply pt0 | apply pt1 | apply pt2 | apply pt3 | apply pt4 | apply pt5 | apply pt6 | apply pt7 | apply pt8 | apply pt9 | apply pt10 | apply pt11 | apply pt12 | apply pt13 | apply pt14 | apply pt15 | apply pt16 | apply pt17))))) ?_
    refine wl_c (fun _ _ => want_none) rfl (yc_spec (fst := []) (cap := []) _ FN32 (sagain_c b { (({ s with rows := mdel s.rows wk } : Sc).again (slOf x0.rs wk).xs) with t := ((({ s with rows := mdel s.rows wk } : Sc).again (slOf x0.rs wk).xs).t.take (isOf wk)).1 } ((({ s with rows := mdel s.rows wk } : Sc).again (slOf x0.rs wk).xs).t.take (isOf wk)).2 x34.1 x34.2 (hq1.tab _ (by omega)) (by omega)) rfl rfl rfl (by (repeat (first | exact pt_nil | apply pt0 | apply pt1 | apply pt2 | apply pt3 | apply pt4 | apply pt5 | apply pt6 | apply pt7 | apply pt8 | apply pt9 | apply pt10 | apply pt11 | apply pt12 | apply pt13 | apply pt14 | apply pt15 | apply pt16 | apply pt17))) (by (repeat (first | exact ro_nil | exact ro_rest (by assumption) | refine ro_cons (by first | exact .inl (by assumption) | exact ro_f0 (fun _ h => h) | exact ro_f0 (fun _ => slc_rsl) | exact ro_f1 (fun _ h => h) | exact ro_f1 (fun _ => slc_rsl) | exact ro_f2 (fun _ h => h) | exact ro_f2 (fun _ => slc_rsl) | exact ro_f3 (fun _ h => h) | exact ro_f3 (fun _ => slc_rsl) | exact ro_f4 (fun _ h => h) | exact ro_f4 (fun _ => slc_rsl) | exact ro_f5 (fun _ h => h) | exact ro_f5 (fun _ => slc_rsl) | exact ro_f6 (fun _ h => h) | exact ro_f6 (fun _ => slc_rsl)) ?_)))) (wl_ex fun x35 hx35 => ?_)
    refine wl_nil ?_
    refine wq_then ?_
    refine wc_seq ?_
    refine wc_region ?_
    refine wl_y rfl (y_assign rfl) ?_
    refine wl_nil ?_
    refine wq_then ?_
    refine wc_ret ?_
    refine wq_ret1 rfl rfl (fun w hw => ?_)
    have hl0 : (slOf x0.rs wk).xs = l0 := by rw [hsl, Sc.row, hg]; rfl
    have e9 : s.leave wk = ((({ s with rows := mdel s.rows wk } : Sc).again (slOf x0.rs wk).xs).back (isOf wk), 0) := by rw [Sc.leave, hg, hl0]
    rw [e9]; exact ⟨(), trivial, rfl, hw.sub (by (repeat (first | exact pt_nil | apply pt0 | apply pt1 | apply pt2 | apply pt3 | apply pt4 | apply pt5 | apply pt6 | apply pt7 | apply pt8 | apply pt9 | apply pt10 | apply pt11 | apply pt12 | apply pt13 | apply pt14 | apply pt15 | apply pt16 | apply pt17)))⟩

end Go.Proofs.Ytfnpjmlpiedgdaa
