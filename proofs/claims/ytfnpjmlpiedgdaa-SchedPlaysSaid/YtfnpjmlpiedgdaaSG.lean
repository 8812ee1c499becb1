/-
  Walks: what is picked.
-/
import Derived.Test.YtfnpjmlpiedgdaaSF
namespace Go.Proofs.Ytfnpjmlpiedgdaa
open Go.Eng


theorem pick_first {s : Sc} {w : Str} {j : Jb} {l : List Jb} (h : (s.first w).row w = j :: l) : s.pick w = ({ s.first w with rows := mput (s.first w).rows w l }, some j) := by
  rw [Sc.pick, h]
theorem pick_busy {s : Sc} {w v : Str} (h : (s.first w).row w = []) (hv : vic (s.first w).rows = v) (h2 : (s.first w).row v = []) : s.pick w = (s.first w, none) := by
  subst hv
  rw [Sc.pick, h, h2]; rfl
theorem pick_vic {s : Sc} {w v : Str} {j : Jb} {l : List Jb} (h : (s.first w).row w = []) (hv : vic (s.first w).rows = v) (h2 : (s.first w).row v = l ++ [j]) : s.pick w = ({ s.first w with rows := mput (s.first w).rows v l }, some j) := by
  subst hv
  rw [Sc.pick, h]
  simp only
  rw [show ((s.first w).row (vic (s.first w).rows)).getLast? = some j by rw [h2]; simp, h2]
  simp
theorem sl_has {rs : List (Str × Sl Jb)} {w : Str} (h : (slOf rs w).xs ≠ []) : mget rs w = some (slOf rs w) := by
  unfold slOf at h ⊢
  cases hm : mget rs w with
  | none => rw [hm] at h; exact absurd rfl h
  | some l => rfl
set_option maxHeartbeats 1000000 in
theorem spick_c (b : Nat) (s : Sc) (wk : Str) (hq : s.Qk 0) (hk : Keyed1 s.rows) (hwk : (mget s.rows wk).isSome = true) (hn : mget s.rows [] = none) (hl : ∀ u, (s.row u).length ≤ 1000) :
    Ctr Try.prog 30 #[ptr b, vS wk] [] [scA b s] (fun _ : Unit => True) (fun _ => .tuple #[agJ ((s.pick wk).2.getD noJ), vB (s.pick wk).2.isSome]) (fun _ => [scA b (s.pick wk).1]) := by
  refine spec_start (n := 67) [(0, ptr b), (1, vS wk)] Try.func30 rfl rfl ⟨rfl, rfl, trivial⟩ rfl ?_
  intro w0 K hR
  refine wc_seq ?_
  refine wc_region ?_
  refine wl_w (fun _ _ => want_none) rfl (yw_alloc T30 rfl) (wl_ex fun b4 _ => ?_)
  refine wl_y rfl (y_assign rfl) ?_
  refine wl_nil ?_
  refine wq_then ?_
  refine wc_seq (wc_cut (α := Unit) (fun x => True) [(0, _), (1, _), (4, _)] (fun x => []) (fun x => Hp w0 K [scA b (s.first wk), blk b4 (.cells (encJ noJ).toArray 30 (0, 0))]) ⟨rfl, rfl, rfl, trivial⟩ ?_ ?_)
  ·
    refine wc_seq ?_
    refine wc_region ?_
    refine wl_world (S' := Hp w0 K [scA b s, blk b4 (.cells (encJ noJ).toArray 30 (0, 0))]) (fun w hw => hw.sub (by (repeat (first | exact pt_nil | apply pt0 | apply pt1 | apply pt2 | apply pt3 | apply pt4 | apply pt5 | apply pt6 | apply pt7 | apply pt8 | apply pt9 | apply pt10 | apply pt11 | apply pt12 | apply pt13 | apply pt14 | apply pt15 | apply pt16 | apply pt17)))) ?_
    refine wl_exS sc_open (fun x => ?_)
    obtain ⟨x, hx⟩ := x
    have hsl := slOf_xs hx wk
    have hlw := hl wk
    rw [← hsl] at hlw
    refine wl_y rfl (y_move rfl) ?_
    refine wl_y rfl (y_nilCheck rfl) ?_
    refine wl_y rfl (y_fieldAddr F66_2 rfl) ?_
    refine wl_y rfl (y_load NA64 rfl (by first | exact cell_blk [] rfl | exact cell_blk [_] rfl | exact cell_blk [_, _] rfl | exact cell_blk [_, _, _] rfl | exact cell_blk [_, _, _, _] rfl | exact cell_blk [_, _, _, _, _] rfl | exact cell_blk [_, _, _, _, _, _] rfl | exact cell_blk [_, _, _, _, _, _, _] rfl | exact cell_blk [_, _, _, _, _, _, _, _] rfl | exact cellR_blk (by assumption) rfl)) ?_
    refine wl_y rfl (y_move rfl) ?_
    refine wl_y rfl (y_lookup Try.underlying64 (keyE_str Try.underlying9) T49 rfl rfl (by first | exact fun w hw => hw.seen [] | exact fun w hw => hw.seen [_] | exact fun w hw => hw.seen [_, _] | exact fun w hw => hw.seen [_, _, _] | exact fun w hw => hw.seen [_, _, _, _] | exact fun w hw => hw.seen [_, _, _, _, _] | exact fun w hw => hw.seen [_, _, _, _, _, _] | exact fun w hw => hw.seen [_, _, _, _, _, _, _] | exact fun w hw => hw.seen [_, _, _, _, _, _, _, _] | exact fun w hw => Seen.rngMap (hw.seen []) | exact fun w hw => Seen.rngMap (hw.seen [_]) | exact fun w hw => Seen.rngMap (hw.seen [_, _]) | exact fun w hw => Seen.rngMap (hw.seen [_, _, _]) | exact fun w hw => Seen.rngMap (hw.seen [_, _, _, _]) | exact fun w hw => Seen.rngMap (hw.seen [_, _, _, _, _]) | exact fun w hw => Seen.rngMap (hw.seen [_, _, _, _, _, _]) | exact fun w hw => Seen.rngMap (hw.seen [_, _, _, _, _, _, _]) | exact fun w hw => Seen.rngMap (hw.seen [_, _, _, _, _, _, _, _]))) ?_
    refine wl_same 15 (vJs (slOf x.rs wk)) rfl (look_sl _ _) ?_
    refine wl_y rfl (y_lenSl Try.underlying49 rfl) ?_
    refine wl_y rfl (y_eqlI rfl rfl) ?_
    refine wl_nil ?_
    refine wq_then ?_
    refine wc_cond rfl (fun hc17 => ?_) (fun hc17 => ?_)
    ·
      simp at hc17
      refine wc_region ?_
      refine wl_y rfl (y_move rfl) ?_
      refine wl_y rfl (y_move rfl) ?_
      refine wl_world (S' := Hp w0 K [scA b s, blk b4 (.cells (encJ noJ).toArray 30 (0, 0))]) (fun w hw => sc_shut x hx (hw.sub (by (repeat (first | exact pt_nil | apply pt0 | apply pt1 | apply pt2 | apply pt3 | apply pt4 | apply pt5 | apply pt6 | apply pt7 | apply pt8 | apply pt9 | apply pt10 | apply pt11 | apply pt12 | apply pt13 | apply pt14 | apply pt15 | apply pt16 | apply pt17))))) ?_
      refine wl_c (fun _ _ => want_none) rfl (yc_spec (fst := []) (cap := []) _ FN51 (sfetch_c b s wk hq hwk (hl wk)) rfl rfl rfl (by (repeat (first | exact pt_nil | apply pt0 | apply pt1 | apply pt2 | apply pt3 | apply pt4 | apply pt5 | apply pt6 | apply pt7 | apply pt8 | apply pt9 | apply pt10 | apply pt11 | apply pt12 | apply pt13 | apply pt14 | apply pt15 | apply pt16 | apply pt17))) (by (repeat (first | exact ro_nil | exact ro_rest (by assumption) | refine ro_cons (by first | exact .inl (by assumption) | exact ro_f0 (fun _ h => h) | exact ro_f0 (fun _ => slc_rsl) | exact ro_f1 (fun _ h => h) | exact ro_f1 (fun _ => slc_rsl) | exact ro_f2 (fun _ h => h) | exact ro_f2 (fun _ => slc_rsl) | exact ro_f3 (fun _ h => h) | exact ro_f3 (fun _ => slc_rsl) | exact ro_f4 (fun _ h => h) | exact ro_f4 (fun _ => slc_rsl) | exact ro_f5 (fun _ h => h) | exact ro_f5 (fun _ => slc_rsl) | exact ro_f6 (fun _ h => h) | exact ro_f6 (fun _ => slc_rsl)) ?_)))) (wl_ex fun x20 hx20 => ?_)
      refine wl_nil ?_
      have e : (s.first wk) = s.fetch wk := if_pos (by rw [← hsl]; exact hc17)
      exact wq_cut () trivial ⟨rfl, rfl, rfl, trivial⟩ (fun w hw => by rw [e]; exact hw.sub (by (repeat (first | exact pt_nil | apply pt0 | apply pt1 | apply pt2 | apply pt3 | apply pt4 | apply pt5 | apply pt6 | apply pt7 | apply pt8 | apply pt9 | apply pt10 | apply pt11 | apply pt12 | apply pt13 | apply pt14 | apply pt15 | apply pt16 | apply pt17))))
    ·
      simp at hc17
      refine wc_skip ?_
      have e : (s.first wk) = s := if_neg (fun h => hc17 (by rw [hsl, h]))
      exact wq_cut () trivial ⟨rfl, rfl, rfl, trivial⟩ (fun w hw => by rw [e]; exact sc_shut x hx (hw.sub (by (repeat (first | exact pt_nil | apply pt0 | apply pt1 | apply pt2 | apply pt3 | apply pt4 | apply pt5 | apply pt6 | apply pt7 | apply pt8 | apply pt9 | apply pt10 | apply pt11 | apply pt12 | apply pt13 | apply pt14 | apply pt15 | apply pt16 | apply pt17)))))
  · intro _ _
    have hlk := first_like hq hwk
    have hk1 : Keyed1 (s.first wk).rows := by unfold Keyed1; rw [hlk.keys]; exact hk
    have hn1 : mget (s.first wk).rows [] = none := by
      have := hlk.has (w := [])
      rw [hn] at this
      simpa using this
    have hl1 : (s.first wk).row wk = s.row wk ∨ True := .inr trivial
    refine all_wc ?_
    refine wc_seq ?_
    refine wc_seq ?_
    refine wc_region ?_
    refine wl_exS sc_open (fun x => ?_)
    obtain ⟨x, hx⟩ := x
    have hsl := slOf_xs hx wk
    have hlw := first_len s wk wk
    have hlw2 := hl wk
    rw [← hsl] at hlw
    refine wl_y rfl (y_move rfl) ?_
    refine wl_y rfl (y_nilCheck rfl) ?_
    refine wl_y rfl (y_fieldAddr F66_2 rfl) ?_
    refine wl_y rfl (y_load NA64 rfl (by first | exact cell_blk [] rfl | exact cell_blk [_] rfl | exact cell_blk [_, _] rfl | exact cell_blk [_, _, _] rfl | exact cell_blk [_, _, _, _] rfl | exact cell_blk [_, _, _, _, _] rfl | exact cell_blk [_, _, _, _, _, _] rfl | exact cell_blk [_, _, _, _, _, _, _] rfl | exact cell_blk [_, _, _, _, _, _, _, _] rfl | exact cellR_blk (by assumption) rfl)) ?_
    refine wl_y rfl (y_move rfl) ?_
    refine wl_y rfl (y_lookup Try.underlying64 (keyE_str Try.underlying9) T49 rfl rfl (by first | exact fun w hw => hw.seen [] | exact fun w hw => hw.seen [_] | exact fun w hw => hw.seen [_, _] | exact fun w hw => hw.seen [_, _, _] | exact fun w hw => hw.seen [_, _, _, _] | exact fun w hw => hw.seen [_, _, _, _, _] | exact fun w hw => hw.seen [_, _, _, _, _, _] | exact fun w hw => hw.seen [_, _, _, _, _, _, _] | exact fun w hw => hw.seen [_, _, _, _, _, _, _, _] | exact fun w hw => Seen.rngMap (hw.seen []) | exact fun w hw => Seen.rngMap (hw.seen [_]) | exact fun w hw => Seen.rngMap (hw.seen [_, _]) | exact fun w hw => Seen.rngMap (hw.seen [_, _, _]) | exact fun w hw => Seen.rngMap (hw.seen [_, _, _, _]) | exact fun w hw => Seen.rngMap (hw.seen [_, _, _, _, _]) | exact fun w hw => Seen.rngMap (hw.seen [_, _, _, _, _, _]) | exact fun w hw => Seen.rngMap (hw.seen [_, _, _, _, _, _, _]) | exact fun w hw => Seen.rngMap (hw.seen [_, _, _, _, _, _, _, _]))) ?_
    refine wl_same 26 (vJs (slOf x.rs wk)) rfl (look_sl _ _) ?_
    refine wl_y rfl (y_assign rfl) ?_
    refine wl_nil ?_
    refine wq_then ?_
    refine wc_seq ?_
    refine wc_region ?_
    refine wl_y rfl (y_move rfl) ?_
    refine wl_y rfl (y_lenSl Try.underlying49 rfl) ?_
    refine wl_y rfl (y_gtr rfl rfl) ?_
    refine wl_nil ?_
    refine wq_then ?_
    refine wc_cond rfl (fun hc29 => ?_) (fun hc29 => ?_)
    ·
      simp at hc29
      refine wc_seq ?_
      refine wc_mix (.q 0 0 (.q 1 0 (.q 2 0 (.q 3 1 (.q 4 0 (.q 5 0 (.q 6 0 (.w 7 2 .nil .nil)))))))) (fun _ => True) MO (by kernel_rfl) (Hp.drawless _ _ _) (fun _ _ => trivial) ?_
      have hne : (slOf x.rs wk).xs ≠ [] := fun e => by rw [e] at hc29; simp at hc29
      have hpos := List.length_pos_iff.2 hne
      obtain ⟨j, l, hjl⟩ : ∃ j l, (slOf x.rs wk).xs = j :: l := by
        cases he : (slOf x.rs wk).xs with
        | nil => exact absurd he hne
        | cons j l => exact ⟨j, l, rfl⟩
      have hx0 : (slOf x.rs wk).xs[0]? = some j := by rw [hjl]; rfl
      refine wm_world (S' := Hp w0 K [slc 30 3 (slOf x.rs wk).a (slOf x.rs wk).xs.length (slOf x.rs wk).cap ((slOf x.rs wk).xs.flatMap encJ), blk b (.cells #[ptr x.qb, ptr x.tb, .map (some x.rm), .map (some x.tm)] 66 (0, 0)), qA x.qb (s.first wk).age (s.first wk).n (s.first wk).R, tbA x.tb (s.first wk).t, mapA vS vJs x.rm x.rs, rowsA (mdel x.rs wk), mapA vS vB x.tm (s.first wk).th, blk b4 (.cells (encJ noJ).toArray 30 (0, 0))]) (fun w hw => (rows_out (sl_has hne) (hw.sub (by (repeat (first | exact pt_nil | apply pt0 | apply pt1 | apply pt2 | apply pt3 | apply pt4 | apply pt5 | apply pt6 | apply pt7 | apply pt8 | apply pt9 | apply pt10 | apply pt11 | apply pt12 | apply pt13 | apply pt14 | apply pt15 | apply pt16 | apply pt17))) : Hp w0 K [rowsA x.rs, blk b (.cells #[ptr x.qb, ptr x.tb, .map (some x.rm), .map (some x.tm)] 66 (0, 0)), qA x.qb (s.first wk).age (s.first wk).n (s.first wk).R, tbA x.tb (s.first wk).t, mapA vS vJs x.rm x.rs, mapA vS vB x.tm (s.first wk).th, blk b4 (.cells (encJ noJ).toArray 30 (0, 0))] w)).sub (by (repeat (first | exact pt_nil | apply pt0 | apply pt1 | apply pt2 | apply pt3 | apply pt4 | apply pt5 | apply pt6 | apply pt7 | apply pt8 | apply pt9 | apply pt10 | apply pt11 | apply pt12 | apply pt13 | apply pt14 | apply pt15 | apply pt16 | apply pt17)))) ?_
      refine wm_have (p := (slOf x.rs wk).xs.length ≤ (slOf x.rs wk).cap) (fun w hw => hw.slc_le []) (fun hcap => ?_)
      refine wm_g rfl rfl (y_move rfl) ?_
      refine wm_g rfl rfl (y_nilCheck rfl) ?_
      refine wm_g rfl rfl (y_fieldAddr F66_2 rfl) ?_
      refine wm_l rfl rfl (y_load NA64 rfl (by first | exact cell_blk [] rfl | exact cell_blk [_] rfl | exact cell_blk [_, _] rfl | exact cell_blk [_, _, _] rfl | exact cell_blk [_, _, _, _] rfl | exact cell_blk [_, _, _, _, _] rfl | exact cell_blk [_, _, _, _, _, _] rfl | exact cell_blk [_, _, _, _, _, _, _] rfl | exact cell_blk [_, _, _, _, _, _, _, _] rfl | exact cellR_blk (by assumption) rfl)) ?_
      refine wm_g rfl rfl (y_move rfl) ?_
      refine wm_g rfl rfl (y_move rfl) ?_
      refine wm_g rfl rfl (y_sliceSl (i := 1) (j := (slOf x.rs wk).xs.length) Try.underlying49 T30 rfl ⟨_, rfl, rfl⟩ rfl (by omega) hcap) ?_
      refine wm_same 36 (vJs (⟨cutAt (slOf x.rs wk).a 1 (slOf x.rs wk).cap 3, (slOf x.rs wk).cap - 1, (slOf x.rs wk).xs.tail⟩ : Sl Jb)) rfl (by simp) ?_
      first | refine wm_u rfl (fun _ _ => trivial) (yu_mapUpdate [] (v := (⟨cutAt (slOf x.rs wk).a 1 (slOf x.rs wk).cap 3, (slOf x.rs wk).cap - 1, (slOf x.rs wk).xs.tail⟩ : Sl Jb)) Try.underlying64 (keyE_str Try.underlying9) rfl rfl rfl) ?_ | refine wm_u rfl (fun _ _ => trivial) (yu_mapUpdate [_] (v := (⟨cutAt (slOf x.rs wk).a 1 (slOf x.rs wk).cap 3, (slOf x.rs wk).cap - 1, (slOf x.rs wk).xs.tail⟩ : Sl Jb)) Try.underlying64 (keyE_str Try.underlying9) rfl rfl rfl) ?_ | refine wm_u rfl (fun _ _ => trivial) (yu_mapUpdate [_, _] (v := (⟨cutAt (slOf x.rs wk).a 1 (slOf x.rs wk).cap 3, (slOf x.rs wk).cap - 1, (slOf x.rs wk).xs.tail⟩ : Sl Jb)) Try.underlying64 (keyE_str Try.underlying9) rfl rfl rfl) ?_ | refine wm_u rfl (fun _ _ => trivial) (yu_mapUpdate [_, _, _] (v := (⟨cutAt (slOf x.rs wk).a 1 (slOf x.rs wk).cap 3, (slOf x.rs wk).cap - 1, (slOf x.rs wk).xs.tail⟩ : Sl Jb)) Try.underlying64 (keyE_str Try.underlying9) rfl rfl rfl) ?_ | refine wm_u rfl (fun _ _ => trivial) (yu_mapUpdate [_, _, _, _] (v := (⟨cutAt (slOf x.rs wk).a 1 (slOf x.rs wk).cap 3, (slOf x.rs wk).cap - 1, (slOf x.rs wk).xs.tail⟩ : Sl Jb)) Try.underlying64 (keyE_str Try.underlying9) rfl rfl rfl) ?_ | refine wm_u rfl (fun _ _ => trivial) (yu_mapUpdate [_, _, _, _, _] (v := (⟨cutAt (slOf x.rs wk).a 1 (slOf x.rs wk).cap 3, (slOf x.rs wk).cap - 1, (slOf x.rs wk).xs.tail⟩ : Sl Jb)) Try.underlying64 (keyE_str Try.underlying9) rfl rfl rfl) ?_ | refine wm_u rfl (fun _ _ => trivial) (yu_mapUpdate [_, _, _, _, _, _] (v := (⟨cutAt (slOf x.rs wk).a 1 (slOf x.rs wk).cap 3, (slOf x.rs wk).cap - 1, (slOf x.rs wk).xs.tail⟩ : Sl Jb)) Try.underlying64 (keyE_str Try.underlying9) rfl rfl rfl) ?_ | refine wm_u rfl (fun _ _ => trivial) (yu_mapUpdate [_, _, _, _, _, _, _] (v := (⟨cutAt (slOf x.rs wk).a 1 (slOf x.rs wk).cap 3, (slOf x.rs wk).cap - 1, (slOf x.rs wk).xs.tail⟩ : Sl Jb)) Try.underlying64 (keyE_str Try.underlying9) rfl rfl rfl) ?_ | refine wm_u rfl (fun _ _ => trivial) (yu_mapUpdate [_, _, _, _, _, _, _, _] (v := (⟨cutAt (slOf x.rs wk).a 1 (slOf x.rs wk).cap 3, (slOf x.rs wk).cap - 1, (slOf x.rs wk).xs.tail⟩ : Sl Jb)) Try.underlying64 (keyE_str Try.underlying9) rfl rfl rfl) ?_
      refine wm_nil ?_
      refine all_wq ?_
      refine wq_then ?_
      refine wc_seq ?_
      refine wc_region ?_
      refine wl_y rfl (y_move rfl) ?_
      refine wl_y rfl (y_indexAddr (i := 0) Try.underlying49 T30 rfl rfl rfl (by omega) (by first | exact fun w hw => hw.slc_isSome [] (by omega) | exact fun w hw => hw.slc_isSome [_] (by omega) | exact fun w hw => hw.slc_isSome [_, _] (by omega) | exact fun w hw => hw.slc_isSome [_, _, _] (by omega) | exact fun w hw => hw.slc_isSome [_, _, _, _] (by omega))) ?_
      refine wl_y rfl (y_loadAgg (l := encJ j) AG30 rfl rfl (by first | exact agg_own [] (fun i u h => rows_get (k := 0) encJ_len hx0 h) | exact agg_own [_] (fun i u h => rows_get (k := 0) encJ_len hx0 h) | exact agg_own [_, _] (fun i u h => rows_get (k := 0) encJ_len hx0 h) | exact agg_own [_, _, _] (fun i u h => rows_get (k := 0) encJ_len hx0 h) | exact agg_own [_, _, _, _] (fun i u h => rows_get (k := 0) encJ_len hx0 h))) ?_
      first | refine wl_u (yu_storeAgg [] (l' := [_, _, _]) T30 rfl rfl rfl (by simp [Value.oneCell', encJ]) rfl rfl) ?_ | refine wl_u (yu_storeAgg [_] (l' := [_, _, _]) T30 rfl rfl rfl (by simp [Value.oneCell', encJ]) rfl rfl) ?_ | refine wl_u (yu_storeAgg [_, _] (l' := [_, _, _]) T30 rfl rfl rfl (by simp [Value.oneCell', encJ]) rfl rfl) ?_ | refine wl_u (yu_storeAgg [_, _, _] (l' := [_, _, _]) T30 rfl rfl rfl (by simp [Value.oneCell', encJ]) rfl rfl) ?_ | refine wl_u (yu_storeAgg [_, _, _, _] (l' := [_, _, _]) T30 rfl rfl rfl (by simp [Value.oneCell', encJ]) rfl rfl) ?_ | refine wl_u (yu_storeAgg [_, _, _, _, _] (l' := [_, _, _]) T30 rfl rfl rfl (by simp [Value.oneCell', encJ]) rfl rfl) ?_ | refine wl_u (yu_storeAgg [_, _, _, _, _, _] (l' := [_, _, _]) T30 rfl rfl rfl (by simp [Value.oneCell', encJ]) rfl rfl) ?_ | refine wl_u (yu_storeAgg [_, _, _, _, _, _, _] (l' := [_, _, _]) T30 rfl rfl rfl (by simp [Value.oneCell', encJ]) rfl rfl) ?_ | refine wl_u (yu_storeAgg [_, _, _, _, _, _, _, _] (l' := [_, _, _]) T30 rfl rfl rfl (by simp [Value.oneCell', encJ]) rfl rfl) ?_
      refine wl_y rfl (y_assign rfl) ?_
      refine wl_nil ?_
      refine wq_then ?_
      refine wc_ret ?_
      refine wq_then_ret ?_
      refine wq_retC2 (l := [_, _, _]) AG30 rfl rfl rfl rfl (by first | exact cells_blk [] rfl | exact cells_blk [_] rfl | exact cells_blk [_, _] rfl | exact cells_blk [_, _, _] rfl | exact cells_blk [_, _, _, _] rfl | exact cells_blk [_, _, _, _, _] rfl | exact cells_blk [_, _, _, _, _, _] rfl | exact cells_blk [_, _, _, _, _, _, _] rfl | exact cells_blk [_, _, _, _, _, _, _, _] rfl) (fun w hw => ?_)
      have hxs : (slOf x.rs wk).xs.tail = l := by rw [hjl]; rfl
      rw [pick_first (by rw [← hsl]; exact hjl)]
      exact ⟨(), trivial, rfl, sc_shut ⟨x.qb, x.tb, x.rm, x.tm, mput x.rs wk (⟨cutAt (slOf x.rs wk).a 1 (slOf x.rs wk).cap 3, (slOf x.rs wk).cap - 1, (slOf x.rs wk).xs.tail⟩ : Sl Jb)⟩ (by rw [mput_val, hx]; simp only [hxs]) ((rows_in (k := wk) (s := (⟨cutAt (slOf x.rs wk).a 1 (slOf x.rs wk).cap 3, (slOf x.rs wk).cap - 1, (slOf x.rs wk).xs.tail⟩ : Sl Jb)) (Hp.mono_at [] (hw.sub (by (repeat (first | exact pt_nil | apply pt0 | apply pt1 | apply pt2 | apply pt3 | apply pt4 | apply pt5 | apply pt6 | apply pt7 | apply pt8 | apply pt9 | apply pt10 | apply pt11 | apply pt12 | apply pt13 | apply pt14 | apply pt15 | apply pt16 | apply pt17))) : Hp w0 K (slc 30 3 (slOf x.rs wk).a (slOf x.rs wk).xs.length (slOf x.rs wk).cap ((slOf x.rs wk).xs.flatMap encJ) :: [rowsA (mdel x.rs wk), blk b (.cells #[ptr x.qb, ptr x.tb, .map (some x.rm), .map (some x.tm)] 66 (0, 0)), qA x.qb (s.first wk).age (s.first wk).n (s.first wk).R, tbA x.tb (s.first wk).t, mapA vS vJs x.rm (mput x.rs wk (⟨cutAt (slOf x.rs wk).a 1 (slOf x.rs wk).cap 3, (slOf x.rs wk).cap - 1, (slOf x.rs wk).xs.tail⟩ : Sl Jb)), mapA vS vB x.tm (s.first wk).th]) w) (fun g hg => by have h3 := slc_cut 1 hg (by omega); rw [rows_drop encJ_len _ (by omega), List.drop_one] at h3; simp only [rowA, List.length_tail]; exact h3))).sub (by (repeat (first | exact pt_nil | apply pt0 | apply pt1 | apply pt2 | apply pt3 | apply pt4 | apply pt5 | apply pt6 | apply pt7 | apply pt8 | apply pt9 | apply pt10 | apply pt11 | apply pt12 | apply pt13 | apply pt14 | apply pt15 | apply pt16 | apply pt17))))⟩
    ·
      simp at hc29
      refine wc_skip ?_
      refine wq_then ?_
      refine wc_seq ?_
      refine wc_region ?_
      refine wl_y rfl (y_move rfl) ?_
      refine wl_world (S' := Hp w0 K [scA b (s.first wk), blk b4 (.cells (encJ noJ).toArray 30 (0, 0))]) (fun w hw => sc_shut x hx (hw.sub (by (repeat (first | exact pt_nil | apply pt0 | apply pt1 | apply pt2 | apply pt3 | apply pt4 | apply pt5 | apply pt6 | apply pt7 | apply pt8 | apply pt9 | apply pt10 | apply pt11 | apply pt12 | apply pt13 | apply pt14 | apply pt15 | apply pt16 | apply pt17))))) ?_
      refine wl_c (fun _ _ => want_none) rfl (yc_spec (fst := []) (cap := []) _ FN52 (svictim_c b (s.first wk) hk1 hn1) rfl rfl rfl (by (repeat (first | exact pt_nil | apply pt0 | apply pt1 | apply pt2 | apply pt3 | apply pt4 | apply pt5 | apply pt6 | apply pt7 | apply pt8 | apply pt9 | apply pt10 | apply pt11 | apply pt12 | apply pt13 | apply pt14 | apply pt15 | apply pt16 | apply pt17))) (by (repeat (first | exact ro_nil | exact ro_rest (by assumption) | refine ro_cons (by first | exact .inl (by assumption) | exact ro_f0 (fun _ h => h) | exact ro_f0 (fun _ => slc_rsl) | exact ro_f1 (fun _ h => h) | exact ro_f1 (fun _ => slc_rsl) | exact ro_f2 (fun _ h => h) | exact ro_f2 (fun _ => slc_rsl) | exact ro_f3 (fun _ h => h) | exact ro_f3 (fun _ => slc_rsl) | exact ro_f4 (fun _ h => h) | exact ro_f4 (fun _ => slc_rsl) | exact ro_f5 (fun _ h => h) | exact ro_f5 (fun _ => slc_rsl) | exact ro_f6 (fun _ h => h) | exact ro_f6 (fun _ => slc_rsl)) ?_)))) (wl_ex fun x41 hx41 => ?_)
      refine wl_y rfl (y_assign rfl) ?_
      refine wl_nil ?_
      refine wq_then ?_
      refine wc_seq ?_
      refine wc_region ?_
      obtain ⟨v, hv⟩ : ∃ v, vic (s.first wk).rows = v := ⟨_, rfl⟩
      refine wl_same 7 (vS v) rfl (by rw [hv]) ?_
      have hrow : (s.first wk).row wk = [] := by rw [← hsl]; first | exact hc29 | exact List.eq_nil_of_length_eq_zero (by omega)
      clear hsl hc29 hlw
      refine wl_exS sc_open (fun x => ?_)
      obtain ⟨x, hx⟩ := x
      have hsl := slOf_xs hx v
      have hlw := first_len s wk v
      have hlw2 := hl v
      rw [← hsl] at hlw
      refine wl_y rfl (y_move rfl) ?_
      refine wl_y rfl (y_nilCheck rfl) ?_
      refine wl_y rfl (y_fieldAddr F66_2 rfl) ?_
      refine wl_y rfl (y_load NA64 rfl (by first | exact cell_blk [] rfl | exact cell_blk [_] rfl | exact cell_blk [_, _] rfl | exact cell_blk [_, _, _] rfl | exact cell_blk [_, _, _, _] rfl | exact cell_blk [_, _, _, _, _] rfl | exact cell_blk [_, _, _, _, _, _] rfl | exact cell_blk [_, _, _, _, _, _, _] rfl | exact cell_blk [_, _, _, _, _, _, _, _] rfl | exact cellR_blk (by assumption) rfl)) ?_
      refine wl_y rfl (y_move rfl) ?_
      refine wl_y rfl (y_lookup Try.underlying64 (keyE_str Try.underlying9) T49 rfl rfl (by first | exact fun w hw => hw.seen [] | exact fun w hw => hw.seen [_] | exact fun w hw => hw.seen [_, _] | exact fun w hw => hw.seen [_, _, _] | exact fun w hw => hw.seen [_, _, _, _] | exact fun w hw => hw.seen [_, _, _, _, _] | exact fun w hw => hw.seen [_, _, _, _, _, _] | exact fun w hw => hw.seen [_, _, _, _, _, _, _] | exact fun w hw => hw.seen [_, _, _, _, _, _, _, _] | exact fun w hw => Seen.rngMap (hw.seen []) | exact fun w hw => Seen.rngMap (hw.seen [_]) | exact fun w hw => Seen.rngMap (hw.seen [_, _]) | exact fun w hw => Seen.rngMap (hw.seen [_, _, _]) | exact fun w hw => Seen.rngMap (hw.seen [_, _, _, _]) | exact fun w hw => Seen.rngMap (hw.seen [_, _, _, _, _]) | exact fun w hw => Seen.rngMap (hw.seen [_, _, _, _, _, _]) | exact fun w hw => Seen.rngMap (hw.seen [_, _, _, _, _, _, _]) | exact fun w hw => Seen.rngMap (hw.seen [_, _, _, _, _, _, _, _]))) ?_
      refine wl_same 47 (vJs (slOf x.rs v)) rfl (look_sl _ _) ?_
      refine wl_y rfl (y_assign rfl) ?_
      refine wl_nil ?_
      refine wq_then ?_
      refine wc_seq ?_
      refine wc_seq ?_
      refine wc_region ?_
      refine wl_y rfl (y_move rfl) ?_
      refine wl_y rfl (y_lenSl Try.underlying49 rfl) ?_
      refine wl_y rfl (y_eqlI rfl rfl) ?_
      refine wl_nil ?_
      refine wq_then ?_
      refine wc_cond rfl (fun hc50 => ?_) (fun hc50 => ?_)
      ·
        simp at hc50
        refine wc_seq ?_
        refine wc_region ?_
        refine wl_y rfl (y_build (cs := [_, _, _]) T30 PL30 rfl rfl rfl) ?_
        first | refine wl_u (yu_storeAgg [] (l' := [_, _, _]) T30 rfl rfl rfl (by simp [Value.oneCell', encJ]) rfl rfl) ?_ | refine wl_u (yu_storeAgg [_] (l' := [_, _, _]) T30 rfl rfl rfl (by simp [Value.oneCell', encJ]) rfl rfl) ?_ | refine wl_u (yu_storeAgg [_, _] (l' := [_, _, _]) T30 rfl rfl rfl (by simp [Value.oneCell', encJ]) rfl rfl) ?_ | refine wl_u (yu_storeAgg [_, _, _] (l' := [_, _, _]) T30 rfl rfl rfl (by simp [Value.oneCell', encJ]) rfl rfl) ?_ | refine wl_u (yu_storeAgg [_, _, _, _] (l' := [_, _, _]) T30 rfl rfl rfl (by simp [Value.oneCell', encJ]) rfl rfl) ?_ | refine wl_u (yu_storeAgg [_, _, _, _, _] (l' := [_, _, _]) T30 rfl rfl rfl (by simp [Value.oneCell', encJ]) rfl rfl) ?_ | refine wl_u (yu_storeAgg [_, _, _, _, _, _] (l' := [_, _, _]) T30 rfl rfl rfl (by simp [Value.oneCell', encJ]) rfl rfl) ?_ | refine wl_u (yu_storeAgg [_, _, _, _, _, _, _] (l' := [_, _, _]) T30 rfl rfl rfl (by simp [Value.oneCell', encJ]) rfl rfl) ?_ | refine wl_u (yu_storeAgg [_, _, _, _, _, _, _, _] (l' := [_, _, _]) T30 rfl rfl rfl (by simp [Value.oneCell', encJ]) rfl rfl) ?_
        refine wl_y rfl (y_assign rfl) ?_
        refine wl_nil ?_
        refine wq_then ?_
        refine wc_ret ?_
        refine wq_then_ret ?_
        refine wq_retC2 (l := [_, _, _]) AG30 rfl rfl rfl rfl (by first | exact cells_blk [] rfl | exact cells_blk [_] rfl | exact cells_blk [_, _] rfl | exact cells_blk [_, _, _] rfl | exact cells_blk [_, _, _, _] rfl | exact cells_blk [_, _, _, _, _] rfl | exact cells_blk [_, _, _, _, _, _] rfl | exact cells_blk [_, _, _, _, _, _, _] rfl | exact cells_blk [_, _, _, _, _, _, _, _] rfl) (fun w hw => ?_)
        rw [pick_busy hrow hv (by rw [← hsl]; first | exact hc50 | exact List.eq_nil_of_length_eq_zero (by omega))]
        exact ⟨(), trivial, rfl, sc_shut x hx (hw.sub (by (repeat (first | exact pt_nil | apply pt0 | apply pt1 | apply pt2 | apply pt3 | apply pt4 | apply pt5 | apply pt6 | apply pt7 | apply pt8 | apply pt9 | apply pt10 | apply pt11 | apply pt12 | apply pt13 | apply pt14 | apply pt15 | apply pt16 | apply pt17))))⟩
      ·
        simp at hc50
        refine wc_skip ?_
        refine wq_then ?_
        refine wc_seq ?_
        refine wc_region ?_
        refine wl_y rfl (y_move rfl) ?_
        refine wl_y rfl (y_lenSl Try.underlying49 rfl) ?_
        refine wl_y rfl (y_sub rfl rfl (by omega)) ?_
        refine wl_y rfl (y_assign rfl) ?_
        refine wl_nil ?_
        refine wq_then ?_
        refine wc_seq ?_
        refine wc_mix (.q 0 0 (.q 1 0 (.q 2 0 (.q 3 1 (.q 4 0 (.q 5 0 (.q 6 0 (.q 7 0 (.w 8 2 .nil .nil))))))))) (fun _ => True) MO (by kernel_rfl) (Hp.drawless _ _ _) (fun _ _ => trivial) ?_
        have hne : (slOf x.rs v).xs ≠ [] := fun e => by rw [e] at hc50; simp at hc50
        have hpos := List.length_pos_iff.2 hne
        obtain ⟨l, j, hjl⟩ : ∃ l j, (slOf x.rs v).xs = l ++ [j] := ⟨(slOf x.rs v).xs.dropLast, (slOf x.rs v).xs.getLast hne, (List.dropLast_concat_getLast hne).symm⟩
        have hln : (slOf x.rs v).xs.length = l.length + 1 := by rw [hjl]; simp
        have hx0 : (slOf x.rs v).xs[l.length]? = some j := by rw [hjl]; simp
        refine wm_same 9 (vI (l.length : Nat)) rfl (by rw [hln]; congr 1; omega) ?_
        refine wm_world (S' := Hp w0 K [slc 30 3 (slOf x.rs v).a (slOf x.rs v).xs.length (slOf x.rs v).cap ((slOf x.rs v).xs.flatMap encJ), blk b (.cells #[ptr x.qb, ptr x.tb, .map (some x.rm), .map (some x.tm)] 66 (0, 0)), qA x.qb (s.first wk).age (s.first wk).n (s.first wk).R, tbA x.tb (s.first wk).t, mapA vS vJs x.rm x.rs, rowsA (mdel x.rs v), mapA vS vB x.tm (s.first wk).th, blk b4 (.cells (encJ noJ).toArray 30 (0, 0))]) (fun w hw => (rows_out (sl_has hne) (hw.sub (by (repeat (first | exact pt_nil | apply pt0 | apply pt1 | apply pt2 | apply pt3 | apply pt4 | apply pt5 | apply pt6 | apply pt7 | apply pt8 | apply pt9 | apply pt10 | apply pt11 | apply pt12 | apply pt13 | apply pt14 | apply pt15 | apply pt16 | apply pt17))) : Hp w0 K [rowsA x.rs, blk b (.cells #[ptr x.qb, ptr x.tb, .map (some x.rm), .map (some x.tm)] 66 (0, 0)), qA x.qb (s.first wk).age (s.first wk).n (s.first wk).R, tbA x.tb (s.first wk).t, mapA vS vJs x.rm x.rs, mapA vS vB x.tm (s.first wk).th, blk b4 (.cells (encJ noJ).toArray 30 (0, 0))] w)).sub (by (repeat (first | exact pt_nil | apply pt0 | apply pt1 | apply pt2 | apply pt3 | apply pt4 | apply pt5 | apply pt6 | apply pt7 | apply pt8 | apply pt9 | apply pt10 | apply pt11 | apply pt12 | apply pt13 | apply pt14 | apply pt15 | apply pt16 | apply pt17)))) ?_
        refine wm_have (p := (slOf x.rs v).xs.length ≤ (slOf x.rs v).cap) (fun w hw => hw.slc_le []) (fun hcap => ?_)
        refine wm_g rfl rfl (y_move rfl) ?_
        refine wm_g rfl rfl (y_nilCheck rfl) ?_
        refine wm_g rfl rfl (y_fieldAddr F66_2 rfl) ?_
        refine wm_l rfl rfl (y_load NA64 rfl (by first | exact cell_blk [] rfl | exact cell_blk [_] rfl | exact cell_blk [_, _] rfl | exact cell_blk [_, _, _] rfl | exact cell_blk [_, _, _, _] rfl | exact cell_blk [_, _, _, _, _] rfl | exact cell_blk [_, _, _, _, _, _] rfl | exact cell_blk [_, _, _, _, _, _, _] rfl | exact cell_blk [_, _, _, _, _, _, _, _] rfl | exact cellR_blk (by assumption) rfl)) ?_
        refine wm_g rfl rfl (y_move rfl) ?_
        refine wm_g rfl rfl (y_move rfl) ?_
        refine wm_g rfl rfl (y_move rfl) ?_
        refine wm_g rfl rfl (y_sliceSl (i := 0) (j := l.length) Try.underlying49 T30 rfl rfl ⟨_, rfl, rfl⟩ (Nat.zero_le _) (by omega)) ?_
        refine wm_same 62 (vJs (⟨cutAt (slOf x.rs v).a 0 (slOf x.rs v).cap 3, (slOf x.rs v).cap, (slOf x.rs v).xs.dropLast⟩ : Sl Jb)) rfl (by simp [hln]) ?_
        first | refine wm_u rfl (fun _ _ => trivial) (yu_mapUpdate [] (v := (⟨cutAt (slOf x.rs v).a 0 (slOf x.rs v).cap 3, (slOf x.rs v).cap, (slOf x.rs v).xs.dropLast⟩ : Sl Jb)) Try.underlying64 (keyE_str Try.underlying9) rfl rfl rfl) ?_ | refine wm_u rfl (fun _ _ => trivial) (yu_mapUpdate [_] (v := (⟨cutAt (slOf x.rs v).a 0 (slOf x.rs v).cap 3, (slOf x.rs v).cap, (slOf x.rs v).xs.dropLast⟩ : Sl Jb)) Try.underlying64 (keyE_str Try.underlying9) rfl rfl rfl) ?_ | refine wm_u rfl (fun _ _ => trivial) (yu_mapUpdate [_, _] (v := (⟨cutAt (slOf x.rs v).a 0 (slOf x.rs v).cap 3, (slOf x.rs v).cap, (slOf x.rs v).xs.dropLast⟩ : Sl Jb)) Try.underlying64 (keyE_str Try.underlying9) rfl rfl rfl) ?_ | refine wm_u rfl (fun _ _ => trivial) (yu_mapUpdate [_, _, _] (v := (⟨cutAt (slOf x.rs v).a 0 (slOf x.rs v).cap 3, (slOf x.rs v).cap, (slOf x.rs v).xs.dropLast⟩ : Sl Jb)) Try.underlying64 (keyE_str Try.underlying9) rfl rfl rfl) ?_ | refine wm_u rfl (fun _ _ => trivial) (yu_mapUpdate [_, _, _, _] (v := (⟨cutAt (slOf x.rs v).a 0 (slOf x.rs v).cap 3, (slOf x.rs v).cap, (slOf x.rs v).xs.dropLast⟩ : Sl Jb)) Try.underlying64 (keyE_str Try.underlying9) rfl rfl rfl) ?_ | refine wm_u rfl (fun _ _ => trivial) (yu_mapUpdate [_, _, _, _, _] (v := (⟨cutAt (slOf x.rs v).a 0 (slOf x.rs v).cap 3, (slOf x.rs v).cap, (slOf x.rs v).xs.dropLast⟩ : Sl Jb)) Try.underlying64 (keyE_str Try.underlying9) rfl rfl rfl) ?_ | refine wm_u rfl (fun _ _ => trivial) (yu_mapUpdate [_, _, _, _, _, _] (v := (⟨cutAt (slOf x.rs v).a 0 (slOf x.rs v).cap 3, (slOf x.rs v).cap, (slOf x.rs v).xs.dropLast⟩ : Sl Jb)) Try.underlying64 (keyE_str Try.underlying9) rfl rfl rfl) ?_ | refine wm_u rfl (fun _ _ => trivial) (yu_mapUpdate [_, _, _, _, _, _, _] (v := (⟨cutAt (slOf x.rs v).a 0 (slOf x.rs v).cap 3, (slOf x.rs v).cap, (slOf x.rs v).xs.dropLast⟩ : Sl Jb)) Try.underlying64 (keyE_str Try.underlying9) rfl rfl rfl) ?_ | refine wm_u rfl (fun _ _ => trivial) (yu_mapUpdate [_, _, _, _, _, _, _, _] (v := (⟨cutAt (slOf x.rs v).a 0 (slOf x.rs v).cap 3, (slOf x.rs v).cap, (slOf x.rs v).xs.dropLast⟩ : Sl Jb)) Try.underlying64 (keyE_str Try.underlying9) rfl rfl rfl) ?_
        refine wm_nil ?_
        refine all_wq ?_
        refine wq_then ?_
        refine wc_seq ?_
        refine wc_region ?_
        refine wl_y rfl (y_move rfl) ?_
        refine wl_y rfl (y_move rfl) ?_
        refine wl_y rfl (y_indexAddr (i := l.length) Try.underlying49 T30 rfl rfl rfl (by omega) (by first | exact fun w hw => hw.slc_isSome [] (by omega) | exact fun w hw => hw.slc_isSome [_] (by omega) | exact fun w hw => hw.slc_isSome [_, _] (by omega) | exact fun w hw => hw.slc_isSome [_, _, _] (by omega) | exact fun w hw => hw.slc_isSome [_, _, _, _] (by omega))) ?_
        refine wl_y rfl (y_loadAgg (l := encJ j) AG30 rfl rfl (by first | exact agg_own [] (fun i u h => rows_get (k := l.length) encJ_len hx0 h) | exact agg_own [_] (fun i u h => rows_get (k := l.length) encJ_len hx0 h) | exact agg_own [_, _] (fun i u h => rows_get (k := l.length) encJ_len hx0 h) | exact agg_own [_, _, _] (fun i u h => rows_get (k := l.length) encJ_len hx0 h) | exact agg_own [_, _, _, _] (fun i u h => rows_get (k := l.length) encJ_len hx0 h))) ?_
        first | refine wl_u (yu_storeAgg [] (l' := [_, _, _]) T30 rfl rfl rfl (by simp [Value.oneCell', encJ]) rfl rfl) ?_ | refine wl_u (yu_storeAgg [_] (l' := [_, _, _]) T30 rfl rfl rfl (by simp [Value.oneCell', encJ]) rfl rfl) ?_ | refine wl_u (yu_storeAgg [_, _] (l' := [_, _, _]) T30 rfl rfl rfl (by simp [Value.oneCell', encJ]) rfl rfl) ?_ | refine wl_u (yu_storeAgg [_, _, _] (l' := [_, _, _]) T30 rfl rfl rfl (by simp [Value.oneCell', encJ]) rfl rfl) ?_ | refine wl_u (yu_storeAgg [_, _, _, _] (l' := [_, _, _]) T30 rfl rfl rfl (by simp [Value.oneCell', encJ]) rfl rfl) ?_ | refine wl_u (yu_storeAgg [_, _, _, _, _] (l' := [_, _, _]) T30 rfl rfl rfl (by simp [Value.oneCell', encJ]) rfl rfl) ?_ | refine wl_u (yu_storeAgg [_, _, _, _, _, _] (l' := [_, _, _]) T30 rfl rfl rfl (by simp [Value.oneCell', encJ]) rfl rfl) ?_ | refine wl_u (yu_storeAgg [_, _, _, _, _, _, _] (l' := [_, _, _]) T30 rfl rfl rfl (by simp [Value.oneCell', encJ]) rfl rfl) ?_ | refine wl_u (yu_storeAgg [_, _, _, _, _, _, _, _] (l' := [_, _, _]) T30 rfl rfl rfl (by simp [Value.oneCell', encJ]) rfl rfl) ?_
        refine wl_y rfl (y_assign rfl) ?_
        refine wl_nil ?_
        refine wq_then ?_
        refine wc_ret ?_
        refine wq_retC2 (l := [_, _, _]) AG30 rfl rfl rfl rfl (by first | exact cells_blk [] rfl | exact cells_blk [_] rfl | exact cells_blk [_, _] rfl | exact cells_blk [_, _, _] rfl | exact cells_blk [_, _, _, _] rfl | exact cells_blk [_, _, _, _, _] rfl | exact cells_blk [_, _, _, _, _, _] rfl | exact cells_blk [_, _, _, _, _, _, _] rfl | exact cells_blk [_, _, _, _, _, _, _, _] rfl) (fun w hw => ?_)
        have hxs : (slOf x.rs v).xs.dropLast = l := by rw [hjl]; simp
        rw [pick_vic hrow hv (by rw [← hsl]; exact hjl)]
        exact ⟨(), trivial, rfl, sc_shut ⟨x.qb, x.tb, x.rm, x.tm, mput x.rs v (⟨cutAt (slOf x.rs v).a 0 (slOf x.rs v).cap 3, (slOf x.rs v).cap, (slOf x.rs v).xs.dropLast⟩ : Sl Jb)⟩ (by rw [mput_val, hx]; simp only [hxs]) ((rows_in (k := v) (s := (⟨cutAt (slOf x.rs v).a 0 (slOf x.rs v).cap 3, (slOf x.rs v).cap, (slOf x.rs v).xs.dropLast⟩ : Sl Jb)) (Hp.mono_at [] (hw.sub (by (repeat (first | exact pt_nil | apply pt0 | apply pt1 | apply pt2 | apply pt3 | apply pt4 | apply pt5 | apply pt6 | apply pt7 | apply pt8 | apply pt9 | apply pt10 | apply pt11 | apply pt12 | apply pt13 | apply pt14 | apply pt15 | apply pt16 | apply pt17))) : Hp w0 K (slc 30 3 (slOf x.rs v).a (slOf x.rs v).xs.length (slOf x.rs v).cap ((slOf x.rs v).xs.flatMap encJ) :: [rowsA (mdel x.rs v), blk b (.cells #[ptr x.qb, ptr x.tb, .map (some x.rm), .map (some x.tm)] 66 (0, 0)), qA x.qb (s.first wk).age (s.first wk).n (s.first wk).R, tbA x.tb (s.first wk).t, mapA vS vJs x.rm (mput x.rs v (⟨cutAt (slOf x.rs v).a 0 (slOf x.rs v).cap 3, (slOf x.rs v).cap, (slOf x.rs v).xs.dropLast⟩ : Sl Jb)), mapA vS vB x.tm (s.first wk).th]) w) (fun g hg => by have h3 := slc_take l.length hg (by omega); rw [rows_take encJ_len _ (by omega)] at h3; simp only [rowA, List.length_dropLast, hln, Nat.add_sub_cancel]; rw [List.dropLast_eq_take, hln]; exact h3))).sub (by (repeat (first | exact pt_nil | apply pt0 | apply pt1 | apply pt2 | apply pt3 | apply pt4 | apply pt5 | apply pt6 | apply pt7 | apply pt8 | apply pt9 | apply pt10 | apply pt11 | apply pt12 | apply pt13 | apply pt14 | apply pt15 | apply pt16 | apply pt17))))⟩

end Go.Proofs.Ytfnpjmlpiedgdaa
