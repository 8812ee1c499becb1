/-
  What both do; leases compared.
-/
import Derived.Test.YtfnpjmlpiedgdaaRG
namespace Go.Proofs.Ytfnpjmlpiedgdaa
open Go.Eng


theorem perm_all {L1 L2 : List Atom} (p : L1.Perm (L2 ++ [])) : L1.Perm L2 := by rwa [List.append_nil] at p
theorem rf_open3 {w0 : World} {O : Nat → Prop} {b : Nat} {s : Sc} {As : List Atom} : ∀ w, Hp w0 O (rfA b s :: As) w → ∃ y : {x : Rp // RRel s x.jobs x.RI x.ws} × (Option Addr × Nat) × (Option Addr × Nat), Hp w0 O (rfAs2 b s y.1.1 y.2.1 y.2.2 ++ As) w := fun w h => by
  obtain ⟨⟨x, hx⟩, h⟩ := rf_open w h
  have h1 : Hp w0 O ([refA x.qb s.age x.RI, blk b (.cells (rfC x) 54 (0, 0)), slc 30 3 x.ja x.jobs.length x.jc (x.jobs.flatMap encJ), slc 83 2 x.wa x.ws.length x.wc (x.ws.flatMap encW), rowsA x.ws, rtA x.tb s.t.ref] ++ As) w := h.perm (List.Perm.append_right As (perm_all (by (repeat (first | exact pt_nil | apply pt0 | apply pt1 | apply pt2 | apply pt3 | apply pt4 | apply pt5 | apply pt6 | apply pt7 | apply pt8 | apply pt9 | apply pt10 | apply pt11 | apply pt12 | apply pt13 | apply pt14 | apply pt15 | apply pt16 | apply pt17)))))
  obtain ⟨⟨oc, _⟩, h2⟩ := exA_open w h1
  have h2 : Hp w0 O ([blk x.qb (.cells [vI s.age, .slice oc.1 x.RI.length oc.2].toArray 89 (0, 0)), slc 112 3 oc.1 x.RI.length oc.2 (x.RI.flatMap encR), blk b (.cells (rfC x) 54 (0, 0)), slc 30 3 x.ja x.jobs.length x.jc (x.jobs.flatMap encJ), slc 83 2 x.wa x.ws.length x.wc (x.ws.flatMap encW), rowsA x.ws, rtA x.tb s.t.ref] ++ As) w := h2
  have h3 : Hp w0 O ([rtA x.tb s.t.ref, blk x.qb (.cells [vI s.age, .slice oc.1 x.RI.length oc.2].toArray 89 (0, 0)), slc 112 3 oc.1 x.RI.length oc.2 (x.RI.flatMap encR), blk b (.cells (rfC x) 54 (0, 0)), slc 30 3 x.ja x.jobs.length x.jc (x.jobs.flatMap encJ), slc 83 2 x.wa x.ws.length x.wc (x.ws.flatMap encW), rowsA x.ws] ++ As) w := h2.perm (List.Perm.append_right As (perm_all (by (repeat (first | exact pt_nil | apply pt0 | apply pt1 | apply pt2 | apply pt3 | apply pt4 | apply pt5 | apply pt6 | apply pt7 | apply pt8 | apply pt9 | apply pt10 | apply pt11 | apply pt12 | apply pt13 | apply pt14 | apply pt15 | apply pt16 | apply pt17)))))
  obtain ⟨ot, h4⟩ := rt_open w h3
  have h4 : Hp w0 O ([blk x.tb (.cells (rtCells s.t.ref ot).toArray 48 (0, 0)), slc 36 6 ot.1 s.t.ref.l.length ot.2 (s.t.ref.l.flatMap encL), blk x.qb (.cells [vI s.age, .slice oc.1 x.RI.length oc.2].toArray 89 (0, 0)), slc 112 3 oc.1 x.RI.length oc.2 (x.RI.flatMap encR), blk b (.cells (rfC x) 54 (0, 0)), slc 30 3 x.ja x.jobs.length x.jc (x.jobs.flatMap encJ), slc 83 2 x.wa x.ws.length x.wc (x.ws.flatMap encW), rowsA x.ws] ++ As) w := h4
  exact ⟨(⟨x, hx⟩, oc, ot), h4.perm (List.Perm.append_right As (perm_all (by (repeat (first | exact pt_nil | apply pt0 | apply pt1 | apply pt2 | apply pt3 | apply pt4 | apply pt5 | apply pt6 | apply pt7 | apply pt8 | apply pt9 | apply pt10 | apply pt11 | apply pt12 | apply pt13 | apply pt14 | apply pt15 | apply pt16 | apply pt17)))))⟩
theorem rf_shut3 {w0 w : World} {O : Nat → Prop} {b : Nat} {s : Sc} {As : List Atom} (x : Rp) (hx : RRel s x.jobs x.RI x.ws) {oc ot : Option Addr × Nat} (h : Hp w0 O (rfAs2 b s x oc ot ++ As) w) : Hp w0 O (rfA b s :: As) w := by
  have h1 : Hp w0 O ([blk x.tb (.cells (rtCells s.t.ref ot).toArray 48 (0, 0)), slc 36 6 ot.1 s.t.ref.l.length ot.2 (s.t.ref.l.flatMap encL), blk x.qb (.cells [vI s.age, .slice oc.1 x.RI.length oc.2].toArray 89 (0, 0)), slc 112 3 oc.1 x.RI.length oc.2 (x.RI.flatMap encR), blk b (.cells (rfC x) 54 (0, 0)), slc 30 3 x.ja x.jobs.length x.jc (x.jobs.flatMap encJ), slc 83 2 x.wa x.ws.length x.wc (x.ws.flatMap encW), rowsA x.ws] ++ As) w := h.perm (List.Perm.append_right As (perm_all (by (repeat (first | exact pt_nil | apply pt0 | apply pt1 | apply pt2 | apply pt3 | apply pt4 | apply pt5 | apply pt6 | apply pt7 | apply pt8 | apply pt9 | apply pt10 | apply pt11 | apply pt12 | apply pt13 | apply pt14 | apply pt15 | apply pt16 | apply pt17)))))
  have h2 : Hp w0 O ([rtA x.tb s.t.ref, blk x.qb (.cells [vI s.age, .slice oc.1 x.RI.length oc.2].toArray 89 (0, 0)), slc 112 3 oc.1 x.RI.length oc.2 (x.RI.flatMap encR), blk b (.cells (rfC x) 54 (0, 0)), slc 30 3 x.ja x.jobs.length x.jc (x.jobs.flatMap encJ), slc 83 2 x.wa x.ws.length x.wc (x.ws.flatMap encW), rowsA x.ws] ++ As) w := rt_shut ot h1
  have h3 : Hp w0 O ([blk x.qb (.cells [vI s.age, .slice oc.1 x.RI.length oc.2].toArray 89 (0, 0)), slc 112 3 oc.1 x.RI.length oc.2 (x.RI.flatMap encR), blk b (.cells (rfC x) 54 (0, 0)), slc 30 3 x.ja x.jobs.length x.jc (x.jobs.flatMap encJ), slc 83 2 x.wa x.ws.length x.wc (x.ws.flatMap encW), rowsA x.ws, rtA x.tb s.t.ref] ++ As) w := h2.perm (List.Perm.append_right As (perm_all (by (repeat (first | exact pt_nil | apply pt0 | apply pt1 | apply pt2 | apply pt3 | apply pt4 | apply pt5 | apply pt6 | apply pt7 | apply pt8 | apply pt9 | apply pt10 | apply pt11 | apply pt12 | apply pt13 | apply pt14 | apply pt15 | apply pt16 | apply pt17)))))
  have h4 : Hp w0 O ([refA x.qb s.age x.RI, blk b (.cells (rfC x) 54 (0, 0)), slc 30 3 x.ja x.jobs.length x.jc (x.jobs.flatMap encJ), slc 83 2 x.wa x.ws.length x.wc (x.ws.flatMap encW), rowsA x.ws, rtA x.tb s.t.ref] ++ As) w := exA_shut oc trivial h3
  exact rf_shut x hx (h4.perm (List.Perm.append_right As (perm_all (by (repeat (first | exact pt_nil | apply pt0 | apply pt1 | apply pt2 | apply pt3 | apply pt4 | apply pt5 | apply pt6 | apply pt7 | apply pt8 | apply pt9 | apply pt10 | apply pt11 | apply pt12 | apply pt13 | apply pt14 | apply pt15 | apply pt16 | apply pt17))))))
theorem mdel_len2 {β : Type} (l : List (Str × β)) (k : Str) : (mdel l k).length ≤ l.length := (mdel_sub l k).length_le
theorem rows_join_len (s : Sc) (w : Str) : (s.join w).1.rows.length ≤ s.rows.length + 1 := by
  unfold Sc.join
  split
  · split
    · show s.rows.length ≤ _; omega
    · show (mput s.rows w []).length ≤ _
      have := (mput_perm w ([] : List Jb) s.rows).length_eq
      have := mdel_len2 s.rows w
      rw [List.length_cons] at *; omega
  · show s.rows.length ≤ _; omega
theorem rows_add_len (s : Sc) (j : Jb) : (s.add j).1.rows = s.rows := by
  unfold Sc.add
  split
  · rfl
  · split
    · exact (push_rest s j).2.2.1
    · rfl
theorem rows_back (s : Sc) (p : Ls → Bool) : (s.back p).rows = s.rows := (again_rest _ _).2.2.1
theorem rows_leave_len (s : Sc) (w : Str) : (s.leave w).1.rows.length ≤ s.rows.length := by
  unfold Sc.leave
  split
  · exact Nat.le_refl _
  · show ((({ s with rows := mdel s.rows w } : Sc).again _).back _).rows.length ≤ _
    rw [rows_back, (again_rest _ _).2.2.1]; exact mdel_len2 _ _
theorem rows_next_len {s : Sc} {n : Int} {i : Nat} (h : s.In n i) (hi : i ≤ 490) (w : Str) (now : Int) : (s.next w now).1.rows.length = s.rows.length := by
  have key : ∀ {a b : List (Str × List Jb)}, a.map (·.1) = b.map (·.1) → a.length = b.length := fun h => by
    have := congrArg List.length h
    rwa [List.length_map, List.length_map] at this
  unfold Sc.next
  cases hw : mget s.rows w with
  | none => rfl
  | some l =>
    simp only
    split
    · rcases pick_cases (h.qk hi) h.keyed (w := w) (by rw [hw]; rfl) with ⟨j, h1, hp⟩ | ⟨h1, h2, _⟩
      · rw [h1]; exact key hp.keys
      · rw [h1, h2]; exact key (first_like (h.qk hi) (by rw [hw]; rfl)).keys
    · rfl
theorem finish_tab (s : Sc) (k : Str) (e : Int) : (s.finish k e).1.t = (s.t.finish k e).1 ∧ (s.finish k e).2 = (s.t.finish k e).2 ∧ (s.finish k e).1.R = s.R ∧ (s.finish k e).1.n = s.n ∧ (s.finish k e).1.rows = s.rows ∧ (s.finish k e).1.age = s.age := by
  unfold Sc.finish
  split
  · rename_i h; exact ⟨rfl, h.symm, rfl, rfl, rfl, rfl⟩
  · rename_i h
    refine ⟨?_, rfl, rfl, rfl, rfl, rfl⟩
    show s.t = _
    unfold Tb.finish at h ⊢
    split
    · rename_i h0; rw [if_pos h0] at h; exact absurd rfl h
    · rfl
/-- The reference's table finishes a lease: so do both. -/
theorem rf_fin {w0 w : World} {O : Nat → Prop} {b : Nat} {s : Sc} {As : List Atom} (k : Str) (e : Int) (x : Rp) (hx : RRel s x.jobs x.RI x.ws)
    (h : Hp w0 O ([blk b (.cells (rfC x) 54 (0, 0)), slc 30 3 x.ja x.jobs.length x.jc (x.jobs.flatMap encJ), refA x.qb s.age x.RI, slc 83 2 x.wa x.ws.length x.wc (x.ws.flatMap encW), rowsA x.ws, rtA x.tb (s.t.finish k e).1.ref] ++ As) w) : Hp w0 O (rfA b (s.finish k e).1 :: As) w := by
  obtain ⟨h1, _, h3, h4, h5, h6⟩ := finish_tab s k e
  refine rf_shut x (hx.turn h3 h4 hx.up (by rw [h5]; exact hx.p)) ?_
  simp only [rfAs]
  rw [h1, h6]; exact h
set_option maxHeartbeats 1000000 in
theorem leases_c (l m : List Ls) (oo om : Option Addr) (cc cm : Nat) (hl : l.length ≤ 1000000) :
    Ctr Try.prog 25 #[.slice oo l.length cc, .slice om m.length cm] [rsl oo l.length 6 (l.flatMap encL), rsl om m.length 6 (m.flatMap encL)] [] (fun _ : Unit => True) (fun _ => vB (decide (l = m))) (fun _ => []) := by
  refine spec_start (n := 26) [(0, .slice oo l.length cc), (1, .slice om m.length cm)] Try.func25 rfl rfl ⟨rfl, rfl, trivial⟩ rfl ?_
  intro w0 K hR
  have hA := hR _ (List.mem_cons_self ..)
  have hB := hR _ (List.mem_cons_of_mem _ (List.mem_cons_self ..))
  refine wc_seq ?_
  refine wc_region ?_
  refine wl_y rfl (y_assign rfl) ?_
  refine wl_nil ?_
  refine wq_then ?_
  refine wc_seq ?_
  refine wc_seq ?_
  refine wc_region ?_
  refine wl_y rfl (y_move rfl) ?_
  refine wl_y rfl (y_lenSl Try.underlying39 rfl) ?_
  refine wl_y rfl (y_move rfl) ?_
  refine wl_y rfl (y_lenSl Try.underlying39 rfl) ?_
  refine wl_y rfl (y_neqI rfl rfl) ?_
  refine wl_nil ?_
  refine wq_then ?_
  refine wc_cond rfl (fun hc10 => ?_) (fun hc10 => ?_)
  ·
    simp at hc10
    refine wc_seq ?_
    refine wc_region ?_
    refine wl_y rfl (y_assign rfl) ?_
    refine wl_nil ?_
    refine wq_then ?_
    refine wc_ret ?_
    refine wq_then_ret ?_
    refine wq_ret1 rfl rfl (fun w hw => ?_)
    exact ⟨(), trivial, by rw [decide_eq_false (fun e => hc10 (by rw [e]))], hw⟩
  ·
    simp at hc10
    refine wc_skip ?_
    refine wq_then ?_
    refine wc_seq ?_
    refine wc_seq ?_
    refine wc_region ?_
    refine wl_y rfl (y_assign rfl) ?_
    refine wl_nil ?_
    refine wq_then ?_
    refine wc_block ?_
    refine wc_loop (α := Nat) (fun y => y ≤ l.length ∧ l.take y = m.take y) [(0, _), (1, _)] (fun y => [(5, vI y)]) (fun y => Hp w0 K []) (fun y => l.length - y) 0 ?_ ⟨rfl, rfl, rfl, trivial⟩ ?_ ?_
    · exact ⟨Nat.zero_le _, rfl⟩
    · exact fun w hw => hw
    · rintro i ⟨hi, hall⟩
      refine wc_seq ?_
      refine wc_seq ?_
      refine wc_region ?_
      refine wl_y rfl (y_move rfl) ?_
      refine wl_y rfl (y_move rfl) ?_
      refine wl_y rfl (y_lenSl Try.underlying39 rfl) ?_
      refine wl_y rfl (y_lss rfl rfl) ?_
      refine wl_nil ?_
      refine wq_then ?_
      refine wc_cond rfl (fun hc14 => ?_) (fun hc14 => ?_)
      ·
        simp at hc14
        refine wc_skip ?_
        refine wq_then ?_
        refine wc_seq ?_
        refine wc_block ?_
        refine wc_seq ?_
        refine wc_quiet MO (by kernel_rfl) (Hp.drawless _ _ _) ?_
        obtain ⟨x, hx⟩ : ∃ x, l[i]? = some x := ⟨_, List.getElem?_eq_getElem (by omega)⟩
        obtain ⟨y, hy⟩ : ∃ y, m[i]? = some y := ⟨_, List.getElem?_eq_getElem (by omega)⟩
        refine wt_y rfl (y_move rfl) ?_
        refine wt_y rfl (y_move rfl) ?_
        refine wt_y rfl (y_indexAddr Try.underlying39 T36 rfl rfl rfl (by omega) (by first | assumption | exact fun _ _ => rfl | exact fun _ _ => hA.isSome (by omega) | exact fun _ _ => hB.isSome (by omega) | exact fun w hw => hw.slc_isSome [] (by omega) | exact fun w hw => hw.slc_isSome [_] (by omega) | exact fun w hw => hw.slc_isSome [_, _] (by omega) | exact fun w hw => hw.slc_isSome [_, _, _] (by omega))) ?_
        refine wt_y rfl (y_loadAgg (l := encL x) AG36 rfl rfl (by first | exact agg_ro hA (fun i u h => rows_get encL_len hx h) | exact agg_ro hB (fun i u h => rows_get encL_len hx h) | exact agg_own [] (fun i u h => rows_get encL_len hx h) | exact agg_own [_] (fun i u h => rows_get encL_len hx h) | exact agg_own [_, _] (fun i u h => rows_get encL_len hx h) | exact agg_own [_, _, _] (fun i u h => rows_get encL_len hx h))) ?_
        refine wt_y rfl (y_move rfl) ?_
        refine wt_y rfl (y_move rfl) ?_
        refine wt_y rfl (y_indexAddr Try.underlying39 T36 rfl rfl rfl (by omega) (by first | assumption | exact fun _ _ => rfl | exact fun _ _ => hA.isSome (by omega) | exact fun _ _ => hB.isSome (by omega) | exact fun w hw => hw.slc_isSome [] (by omega) | exact fun w hw => hw.slc_isSome [_] (by omega) | exact fun w hw => hw.slc_isSome [_, _] (by omega) | exact fun w hw => hw.slc_isSome [_, _, _] (by omega))) ?_
        refine wt_y rfl (y_loadAgg (l := encL y) AG36 rfl rfl (by first | exact agg_ro hA (fun i u h => rows_get encL_len hy h) | exact agg_ro hB (fun i u h => rows_get encL_len hy h) | exact agg_own [] (fun i u h => rows_get encL_len hy h) | exact agg_own [_] (fun i u h => rows_get encL_len hy h) | exact agg_own [_, _] (fun i u h => rows_get encL_len hy h) | exact agg_own [_, _, _] (fun i u h => rows_get encL_len hy h))) ?_
        refine wt_y rfl (y_neqAgg (E36 x y) rfl rfl) ?_
        refine wt_nil ?_
        refine wq_then ?_
        refine wc_cond rfl (fun hc25 => ?_) (fun hc25 => ?_)
        ·
          simp at hc25
          refine wc_seq ?_
          refine wc_region ?_
          refine wl_y rfl (y_assign rfl) ?_
          refine wl_nil ?_
          refine wq_then ?_
          refine wc_ret ?_
          refine wq_block_ret (wq_then_ret (wq_then_ret (wq_block_ret (wq_then_ret ?_))))
          refine wq_ret1 rfl rfl (fun w hw => ?_)
          exact ⟨(), trivial, by rw [decide_eq_false (fun e => hc25 (by rw [e, hy] at hx; exact (Option.some.inj hx).symm))], hw⟩
        ·
          simp at hc25
          refine wc_skip ?_
          refine wq_block_normal ?_
          refine wq_then ?_
          refine wc_region ?_
          refine wl_y rfl (y_move rfl) ?_
          refine wl_y rfl (y_add rfl rfl (by omega)) ?_
          refine wl_y rfl (y_assign rfl) ?_
          refine wl_nil ?_
          exact wq_round (i + 1) (by omega) ⟨by omega, take_same hall hx hy hc25⟩ ⟨rfl, rfl, rfl, trivial⟩ (fun w hw => hw)
      ·
        simp at hc14
        refine wc_exit ?_
        refine wq_then_exit (wq_then_exit (wq_block_exit ?_))
        refine wq_then ?_
        refine wc_seq ?_
        refine wc_region ?_
        refine wl_y rfl (y_assign rfl) ?_
        refine wl_nil ?_
        refine wq_then ?_
        refine wc_ret ?_
        refine wq_ret1 rfl rfl (fun w hw => ?_)
        exact ⟨(), trivial, by rw [decide_eq_true (by rw [List.take_of_length_le (by omega), List.take_of_length_le (by omega)] at hall; exact hall)], hw⟩

end Go.Proofs.Ytfnpjmlpiedgdaa
