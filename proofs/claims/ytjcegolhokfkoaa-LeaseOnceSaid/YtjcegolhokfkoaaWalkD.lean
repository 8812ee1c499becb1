/-
  Walks: leases are renewed, and finished.
-/
import Derived.Test.YtjcegolhokfkoaaWalkC
namespace Go.Proofs.Ytjcegolhokfkoaa
open Go.Eng

set_option maxHeartbeats 1000000 in
theorem renew_c (b : Nat) (t : Tb) (key : Str) (epoch now : Int) (ht : t.ok) :
    Ctr Try.prog 11 #[ptr b, vS key, vI epoch, vI now] [] [tbA b t] (fun _ : Unit => True) (fun _ => vI (t.renew key epoch now).2) (fun _ => [tbA b (t.renew key epoch now).1]) := by
  refine spec_start (n := 49) [(0, ptr b), (1, vS key), (2, vI epoch), (3, vI now)] Try.func11 rfl rfl ⟨rfl, rfl, rfl, rfl, trivial⟩ rfl ?_
  intro w0 K hR
  obtain ⟨h1, h2, h3, h4⟩ := id ht
  refine wc_ex tb_open (fun mb => ?_)
  obtain ⟨fx, fe, hfd⟩ : ∃ fx fe, t.find key epoch = (fx, fe) := ⟨_, _, rfl⟩
  have hf := find_c b t key epoch mb
  rw [hfd] at hf
  refine wc_seq ?_
  refine wc_region ?_
  refine wl_y rfl (y_assign rfl) ?_
  refine wl_nil ?_
  refine wq_then ?_
  refine wc_seq ?_
  refine wc_block ?_
  refine wc_seq ?_
  refine wc_region ?_
  refine wl_y rfl (y_move rfl) ?_
  refine wl_y rfl (y_eqlP Try.underlying22 rfl rfl) ?_
  refine wl_y rfl (y_assign rfl) ?_
  refine wl_nil ?_
  refine wq_then ?_
  refine wc_known 11 false rfl (rfl) ?_
  refine wc_cond_false rfl ?_
  refine wc_seq ?_
  refine wc_region ?_
  refine wl_y rfl (y_move rfl) ?_
  refine wl_q (fun _ _ => want_none) rfl (yq_spec (fst := []) (cap := []) _ FN24 (time_c now) rfl rfl rfl (by (repeat (first | exact pt_nil | apply pt0 | apply pt1 | apply pt2 | apply pt3 | apply pt4 | apply pt5 | apply pt6 | apply pt7 | apply pt8 | apply pt9 | apply pt10 | apply pt11 | apply pt12 | apply pt13 | apply pt14 | apply pt15 | apply pt16 | apply pt17))) (by (repeat (first | exact ro_nil | exact ro_rest (by assumption) | refine ro_cons (by first | exact .inl (by assumption) | exact ro_f0 (fun _ h => h) | exact ro_f0 (fun _ => slc_rsl) | exact ro_f1 (fun _ h => h) | exact ro_f1 (fun _ => slc_rsl) | exact ro_f2 (fun _ h => h) | exact ro_f2 (fun _ => slc_rsl) | exact ro_f3 (fun _ h => h) | exact ro_f3 (fun _ => slc_rsl) | exact ro_f4 (fun _ h => h) | exact ro_f4 (fun _ => slc_rsl) | exact ro_f5 (fun _ h => h) | exact ro_f5 (fun _ => slc_rsl) | exact ro_f6 (fun _ h => h) | exact ro_f6 (fun _ => slc_rsl)) ?_))) (fun _ _ => rfl) (fun _ _ _ h => h.sub (by (repeat (first | exact pt_nil | apply pt0 | apply pt1 | apply pt2 | apply pt3 | apply pt4 | apply pt5 | apply pt6 | apply pt7 | apply pt8 | apply pt9 | apply pt10 | apply pt11 | apply pt12 | apply pt13 | apply pt14 | apply pt15 | apply pt16 | apply pt17))))) ?_
  refine wl_y rfl (y_not rfl) ?_
  refine wl_y rfl (y_assign rfl) ?_
  refine wl_nil ?_
  refine wq_then ?_
  refine wc_cond rfl (fun hc14 => ?_) (fun hc14 => ?_)
  ·
    simp at hc14
    refine wc_seq ?_
    refine wc_region ?_
    refine wl_y rfl (y_assign rfl) ?_
    refine wl_nil ?_
    refine wq_then ?_
    refine wc_ret ?_
    refine wq_block_ret (wq_then_ret ?_)
    refine wq_ret1 rfl rfl (fun w hw => ?_)
    have e : t.renew key epoch now = (t, 1) := by simp [Tb.renew, hc14]
    rw [e]; exact ⟨(), trivial, rfl, tb_shut mb (hw.sub (by (repeat (first | exact pt_nil | apply pt0 | apply pt1 | apply pt2 | apply pt3 | apply pt4 | apply pt5 | apply pt6 | apply pt7 | apply pt8 | apply pt9 | apply pt10 | apply pt11 | apply pt12 | apply pt13 | apply pt14 | apply pt15 | apply pt16 | apply pt17))))⟩
  ·
    simp at hc14
    have htb : 0 ≤ now ∧ now ≤ 1000000000 := by simpa [timeB] using hc14
    refine wc_skip ?_
    refine wq_block_normal ?_
    refine wq_then ?_
    refine wc_seq ?_
    refine wc_region ?_
    refine wl_y rfl (y_move rfl) ?_
    refine wl_y rfl (y_move rfl) ?_
    refine wl_y rfl (y_move rfl) ?_
    refine wl_c (fun _ _ => want_none) rfl (yc_spec (fst := []) (cap := []) _ FN27 hf rfl rfl rfl (by (repeat (first | exact pt_nil | apply pt0 | apply pt1 | apply pt2 | apply pt3 | apply pt4 | apply pt5 | apply pt6 | apply pt7 | apply pt8 | apply pt9 | apply pt10 | apply pt11 | apply pt12 | apply pt13 | apply pt14 | apply pt15 | apply pt16 | apply pt17))) (by (repeat (first | exact ro_nil | exact ro_rest (by assumption) | refine ro_cons (by first | exact .inl (by assumption) | exact ro_f0 (fun _ h => h) | exact ro_f0 (fun _ => slc_rsl) | exact ro_f1 (fun _ h => h) | exact ro_f1 (fun _ => slc_rsl) | exact ro_f2 (fun _ h => h) | exact ro_f2 (fun _ => slc_rsl) | exact ro_f3 (fun _ h => h) | exact ro_f3 (fun _ => slc_rsl) | exact ro_f4 (fun _ h => h) | exact ro_f4 (fun _ => slc_rsl) | exact ro_f5 (fun _ h => h) | exact ro_f5 (fun _ => slc_rsl) | exact ro_f6 (fun _ h => h) | exact ro_f6 (fun _ => slc_rsl)) ?_)))) (wl_ex fun x22 hx22 => ?_)
    refine wl_y rfl (y_move rfl) ?_
    refine wl_y rfl (y_extract rfl rfl) ?_
    refine wl_y rfl (y_extract rfl rfl) ?_
    refine wl_w (fun _ _ => want_none) rfl (yw_alloc T30 rfl) (wl_ex fun b9 _ => ?_)
    first | refine wl_u (yu_storeAgg [] (l' := [_, _, _, _, _, _]) T30 rfl rfl rfl (by simp [Value.oneCell', encL]) rfl rfl) ?_ | refine wl_u (yu_storeAgg [_] (l' := [_, _, _, _, _, _]) T30 rfl rfl rfl (by simp [Value.oneCell', encL]) rfl rfl) ?_ | refine wl_u (yu_storeAgg [_, _] (l' := [_, _, _, _, _, _]) T30 rfl rfl rfl (by simp [Value.oneCell', encL]) rfl rfl) ?_ | refine wl_u (yu_storeAgg [_, _, _] (l' := [_, _, _, _, _, _]) T30 rfl rfl rfl (by simp [Value.oneCell', encL]) rfl rfl) ?_ | refine wl_u (yu_storeAgg [_, _, _, _] (l' := [_, _, _, _, _, _]) T30 rfl rfl rfl (by simp [Value.oneCell', encL]) rfl rfl) ?_ | refine wl_u (yu_storeAgg [_, _, _, _, _] (l' := [_, _, _, _, _, _]) T30 rfl rfl rfl (by simp [Value.oneCell', encL]) rfl rfl) ?_
    refine wl_y rfl (y_assign rfl) ?_
    refine wl_nil ?_
    refine wq_then ?_
    refine wc_seq ?_
    refine wc_seq ?_
    refine wc_region ?_
    refine wl_y rfl (y_move rfl) ?_
    refine wl_y rfl (y_eqlI rfl rfl) ?_
    refine wl_y rfl (y_move rfl) ?_
    apply wl_and 5 32 [(0, _), (1, _), (3, _), (9, _), (10, _)] (t := 27) rfl ⟨rfl, rfl, rfl, rfl, rfl, trivial⟩
    · intro hg27 hM32
      try (simp at hg27)
      refine wl_yg rfl rfl rfl (y_fieldAddr F30_3 rfl) ?_
      refine wl_yg rfl rfl rfl (y_load NA3 rfl (by first | exact cell_blk [] rfl | exact cell_blk [_] rfl | exact cell_blk [_, _] rfl | exact cell_blk [_, _, _] rfl | exact cell_blk [_, _, _, _] rfl | exact cell_blk [_, _, _, _, _] rfl | exact cellR_blk (by assumption) rfl)) ?_
      refine wl_yg rfl rfl rfl (y_move rfl) ?_
      refine wl_yg rfl rfl rfl (y_lss rfl rfl) ?_
      refine wl_y rfl (y_pick_t rfl rfl) ?_
      exact wl_weaken hM32 ⟨rfl, rfl, rfl, rfl, rfl, rfl, trivial⟩
    · intro hg27 hM32
      refine wl_sk rfl rfl rfl rfl ?_
      refine wl_sk rfl rfl rfl rfl ?_
      refine wl_sk rfl rfl rfl rfl ?_
      refine wl_sk rfl rfl rfl rfl ?_
      refine wl_y rfl (y_pick_f rfl rfl) ?_
      exact wl_weaken hM32 ⟨rfl, rfl, rfl, rfl, rfl, rfl, trivial⟩
    ·
      refine wl_nil ?_
      refine wq_then ?_
      refine wc_cond rfl (fun hc32 => ?_) (fun hc32 => ?_)
      ·
        try simp at hc32
        refine wc_region ?_
        refine wl_y rfl (y_assign rfl) ?_
        refine wl_nil ?_
        refine wq_then ?_
        refine wc_seq ?_
        refine wc_seq ?_
        refine wc_region ?_
        refine wl_y rfl (y_move rfl) ?_
        refine wl_y rfl (y_eqlI rfl rfl) ?_
        refine wl_nil ?_
        refine wq_then ?_
        refine wc_known 34 false rfl (rfl) ?_
        refine wc_cond_false rfl ?_
        refine wc_skip ?_
        refine wq_then ?_
        refine wc_seq ?_
        refine wc_region ?_
        refine wl_y rfl (y_move rfl) ?_
        refine wl_y rfl (y_assign rfl) ?_
        refine wl_nil ?_
        refine wq_then ?_
        refine wc_ret ?_
        refine wq_ret1 rfl rfl (fun w hw => ?_)
        have e : t.renew key epoch now = (t, 44) := by simp [Tb.renew, hc14, hfd, hc32]
        rw [e]; exact ⟨(), trivial, rfl, tb_shut mb (hw.sub (by (repeat (first | exact pt_nil | apply pt0 | apply pt1 | apply pt2 | apply pt3 | apply pt4 | apply pt5 | apply pt6 | apply pt7 | apply pt8 | apply pt9 | apply pt10 | apply pt11 | apply pt12 | apply pt13 | apply pt14 | apply pt15 | apply pt16 | apply pt17))))⟩
      ·
        try simp at hc32
        refine wc_skip ?_
        refine wq_then ?_
        refine wc_seq ?_
        refine wc_seq ?_
        refine wc_region ?_
        refine wl_y rfl (y_move rfl) ?_
        refine wl_y rfl (y_eqlI rfl rfl) ?_
        refine wl_nil ?_
        refine wq_then ?_
        refine wc_cond rfl (fun hc34 => ?_) (fun hc34 => ?_)
        ·
          simp at hc34
          refine wc_seq ?_
          refine wc_region ?_
          refine wl_y rfl (y_move rfl) ?_
          refine wl_y rfl (y_move rfl) ?_
          refine wl_y rfl (y_nilCheck rfl) ?_
          refine wl_y rfl (y_fieldAddr F56_0 rfl) ?_
          refine wl_y rfl (y_load NA3 rfl (by first | exact cell_blk [] rfl | exact cell_blk [_] rfl | exact cell_blk [_, _] rfl | exact cell_blk [_, _, _] rfl | exact cell_blk [_, _, _, _] rfl | exact cell_blk [_, _, _, _, _] rfl | exact cellR_blk (by assumption) rfl)) ?_
          refine wl_y rfl (y_add rfl rfl (by omega)) ?_
          refine wl_y rfl (y_fieldAddr F30_3 rfl) ?_
          first | refine wl_u (yu_store [] (l' := [_, _, _, _, _, _]) T3 rfl rfl rfl rfl rfl rfl rfl) ?_ | refine wl_u (yu_store [_] (l' := [_, _, _, _, _, _]) T3 rfl rfl rfl rfl rfl rfl rfl) ?_ | refine wl_u (yu_store [_, _] (l' := [_, _, _, _, _, _]) T3 rfl rfl rfl rfl rfl rfl rfl) ?_ | refine wl_u (yu_store [_, _, _] (l' := [_, _, _, _, _, _]) T3 rfl rfl rfl rfl rfl rfl rfl) ?_ | refine wl_u (yu_store [_, _, _, _] (l' := [_, _, _, _, _, _]) T3 rfl rfl rfl rfl rfl rfl rfl) ?_ | refine wl_u (yu_store [_, _, _, _, _] (l' := [_, _, _, _, _, _]) T3 rfl rfl rfl rfl rfl rfl rfl) ?_
          refine wl_nil ?_
          refine wq_then ?_
          refine wc_mix (.q 0 0 (.q 1 0 (.q 2 0 (.q 3 0 (.q 4 0 (.q 5 0 (.w 6 2 .nil .nil))))))) (Sees [blk b (.cells (tbCells t mb).toArray 56 (0, 0)), blk b9 (.cells (encL { fx with upto := now + t.ttl }).toArray 30 (0, 0))]) MO (by kernel_rfl) (Hp.drawless _ _ _) (fun w hw => by refine ⟨?_, ?_, trivial⟩ <;> first | exact hw.seen [] | exact hw.seen [_] | exact hw.seen [_, _] | exact hw.seen [_, _, _] | exact hw.seen [_, _, _, _] | exact hw.seen [_, _, _, _, _]) ?_
          refine wm_g rfl rfl (y_move rfl) ?_
          refine wm_g rfl rfl (y_nilCheck rfl) ?_
          refine wm_g rfl rfl (y_fieldAddr F56_2 rfl) ?_
          refine wm_g rfl rfl (y_load NA54 rfl (fun w hw => by first | exact cell_of_heap hw.1.blk rfl | exact cell_of_heap hw.2.1.blk rfl)) ?_
          refine wm_g rfl rfl (y_move rfl) ?_
          refine wm_g rfl rfl (y_loadAgg (l := [_, _, _, _, _, _]) AG30 rfl rfl (fun w hw => by first | exact hw.1.cells rfl | exact hw.2.1.cells rfl)) ?_
          first | refine wm_u rfl (fun _ hw => by refine ⟨?_, ?_, trivial⟩ <;> first | exact hw.seen [] | exact hw.seen [_] | exact hw.seen [_, _] | exact hw.seen [_, _, _] | exact hw.seen [_, _, _, _] | exact hw.seen [_, _, _, _, _]) (yu_mapUpdate [] Try.underlying54 (keyE_str Try.underlying9) rfl rfl rfl) ?_ | refine wm_u rfl (fun _ hw => by refine ⟨?_, ?_, trivial⟩ <;> first | exact hw.seen [] | exact hw.seen [_] | exact hw.seen [_, _] | exact hw.seen [_, _, _] | exact hw.seen [_, _, _, _] | exact hw.seen [_, _, _, _, _]) (yu_mapUpdate [_] Try.underlying54 (keyE_str Try.underlying9) rfl rfl rfl) ?_ | refine wm_u rfl (fun _ hw => by refine ⟨?_, ?_, trivial⟩ <;> first | exact hw.seen [] | exact hw.seen [_] | exact hw.seen [_, _] | exact hw.seen [_, _, _] | exact hw.seen [_, _, _, _] | exact hw.seen [_, _, _, _, _]) (yu_mapUpdate [_, _] Try.underlying54 (keyE_str Try.underlying9) rfl rfl rfl) ?_ | refine wm_u rfl (fun _ hw => by refine ⟨?_, ?_, trivial⟩ <;> first | exact hw.seen [] | exact hw.seen [_] | exact hw.seen [_, _] | exact hw.seen [_, _, _] | exact hw.seen [_, _, _, _] | exact hw.seen [_, _, _, _, _]) (yu_mapUpdate [_, _, _] Try.underlying54 (keyE_str Try.underlying9) rfl rfl rfl) ?_ | refine wm_u rfl (fun _ hw => by refine ⟨?_, ?_, trivial⟩ <;> first | exact hw.seen [] | exact hw.seen [_] | exact hw.seen [_, _] | exact hw.seen [_, _, _] | exact hw.seen [_, _, _, _] | exact hw.seen [_, _, _, _, _]) (yu_mapUpdate [_, _, _, _] Try.underlying54 (keyE_str Try.underlying9) rfl rfl rfl) ?_ | refine wm_u rfl (fun _ hw => by refine ⟨?_, ?_, trivial⟩ <;> first | exact hw.seen [] | exact hw.seen [_] | exact hw.seen [_, _] | exact hw.seen [_, _, _] | exact hw.seen [_, _, _, _] | exact hw.seen [_, _, _, _, _]) (yu_mapUpdate [_, _, _, _, _] Try.underlying54 (keyE_str Try.underlying9) rfl rfl rfl) ?_
          refine wm_nil ?_
          refine all_wq ?_
          refine wq_then ?_
          refine wc_seq ?_
          refine wc_region ?_
          refine wl_y rfl (y_move rfl) ?_
          refine wl_y rfl (y_assign rfl) ?_
          refine wl_nil ?_
          refine wq_then ?_
          refine wc_ret ?_
          refine wq_ret1 rfl rfl (fun w hw => ?_)
          have e : t.renew key epoch now = ({ t with m := mput t.m key { fx with upto := now + t.ttl } }, 0) := by simp only [Tb.renew, hc14, hfd, hc34, if_true]; rw [if_neg (by omega)]
          rw [e, hc34]; exact ⟨(), trivial, rfl, tb_shut mb (hw.sub (by (repeat (first | exact pt_nil | apply pt0 | apply pt1 | apply pt2 | apply pt3 | apply pt4 | apply pt5 | apply pt6 | apply pt7 | apply pt8 | apply pt9 | apply pt10 | apply pt11 | apply pt12 | apply pt13 | apply pt14 | apply pt15 | apply pt16 | apply pt17))))⟩
        ·
          simp at hc34
          refine wc_skip ?_
          refine wq_then ?_
          refine wc_seq ?_
          refine wc_region ?_
          refine wl_y rfl (y_move rfl) ?_
          refine wl_y rfl (y_assign rfl) ?_
          refine wl_nil ?_
          refine wq_then ?_
          refine wc_ret ?_
          refine wq_ret1 rfl rfl (fun w hw => ?_)
          have e : t.renew key epoch now = (t, fe) := by simp [Tb.renew, hc14, hfd, hc34]
          rw [e]; exact ⟨(), trivial, rfl, tb_shut mb (hw.sub (by (repeat (first | exact pt_nil | apply pt0 | apply pt1 | apply pt2 | apply pt3 | apply pt4 | apply pt5 | apply pt6 | apply pt7 | apply pt8 | apply pt9 | apply pt10 | apply pt11 | apply pt12 | apply pt13 | apply pt14 | apply pt15 | apply pt16 | apply pt17))))⟩

set_option maxHeartbeats 1000000 in
theorem finish_c (b : Nat) (t : Tb) (key : Str) (epoch : Int) :
    Ctr Try.prog 16 #[ptr b, vS key, vI epoch] [] [tbA b t] (fun _ : Unit => True) (fun _ => vI (t.finish key epoch).2) (fun _ => [tbA b (t.finish key epoch).1]) := by
  refine spec_start (n := 26) [(0, ptr b), (1, vS key), (2, vI epoch)] Try.func16 rfl rfl ⟨rfl, rfl, rfl, trivial⟩ rfl ?_
  intro w0 K hR
  refine wc_ex tb_open (fun mb => ?_)
  obtain ⟨fx, fe, hfd⟩ : ∃ fx fe, t.find key epoch = (fx, fe) := ⟨_, _, rfl⟩
  have hf := find_c b t key epoch mb
  rw [hfd] at hf
  refine wc_seq ?_
  refine wc_region ?_
  refine wl_y rfl (y_assign rfl) ?_
  refine wl_nil ?_
  refine wq_then ?_
  refine wc_seq ?_
  refine wc_seq ?_
  refine wc_region ?_
  refine wl_y rfl (y_move rfl) ?_
  refine wl_y rfl (y_eqlP Try.underlying22 rfl rfl) ?_
  refine wl_nil ?_
  refine wq_then ?_
  refine wc_known 10 false rfl (rfl) ?_
  refine wc_cond_false rfl ?_
  refine wc_skip ?_
  refine wq_then ?_
  refine wc_seq ?_
  refine wc_region ?_
  refine wl_y rfl (y_move rfl) ?_
  refine wl_y rfl (y_move rfl) ?_
  refine wl_y rfl (y_move rfl) ?_
  refine wl_c (fun _ _ => want_none) rfl (yc_spec (fst := []) (cap := []) _ FN27 hf rfl rfl rfl (by (repeat (first | exact pt_nil | apply pt0 | apply pt1 | apply pt2 | apply pt3 | apply pt4 | apply pt5 | apply pt6 | apply pt7 | apply pt8 | apply pt9 | apply pt10 | apply pt11 | apply pt12 | apply pt13 | apply pt14 | apply pt15 | apply pt16 | apply pt17))) (by (repeat (first | exact ro_nil | exact ro_rest (by assumption) | refine ro_cons (by first | exact .inl (by assumption) | exact ro_f0 (fun _ h => h) | exact ro_f0 (fun _ => slc_rsl) | exact ro_f1 (fun _ h => h) | exact ro_f1 (fun _ => slc_rsl) | exact ro_f2 (fun _ h => h) | exact ro_f2 (fun _ => slc_rsl) | exact ro_f3 (fun _ h => h) | exact ro_f3 (fun _ => slc_rsl) | exact ro_f4 (fun _ h => h) | exact ro_f4 (fun _ => slc_rsl) | exact ro_f5 (fun _ h => h) | exact ro_f5 (fun _ => slc_rsl) | exact ro_f6 (fun _ h => h) | exact ro_f6 (fun _ => slc_rsl)) ?_)))) (wl_ex fun x15 hx15 => ?_)
  refine wl_y rfl (y_move rfl) ?_
  refine wl_y rfl (y_extract rfl rfl) ?_
  refine wl_y rfl (y_extract rfl rfl) ?_
  refine wl_w (fun _ _ => want_none) rfl (yw_alloc T30 rfl) (wl_ex fun b7 _ => ?_)
  first | refine wl_u (yu_storeAgg [] (l' := [_, _, _, _, _, _]) T30 rfl rfl rfl (by simp [Value.oneCell', encL]) rfl rfl) ?_ | refine wl_u (yu_storeAgg [_] (l' := [_, _, _, _, _, _]) T30 rfl rfl rfl (by simp [Value.oneCell', encL]) rfl rfl) ?_ | refine wl_u (yu_storeAgg [_, _] (l' := [_, _, _, _, _, _]) T30 rfl rfl rfl (by simp [Value.oneCell', encL]) rfl rfl) ?_ | refine wl_u (yu_storeAgg [_, _, _] (l' := [_, _, _, _, _, _]) T30 rfl rfl rfl (by simp [Value.oneCell', encL]) rfl rfl) ?_ | refine wl_u (yu_storeAgg [_, _, _, _] (l' := [_, _, _, _, _, _]) T30 rfl rfl rfl (by simp [Value.oneCell', encL]) rfl rfl) ?_ | refine wl_u (yu_storeAgg [_, _, _, _, _] (l' := [_, _, _, _, _, _]) T30 rfl rfl rfl (by simp [Value.oneCell', encL]) rfl rfl) ?_
  refine wl_y rfl (y_assign rfl) ?_
  refine wl_nil ?_
  refine wq_then ?_
  refine wc_seq ?_
  refine wc_seq ?_
  refine wc_region ?_
  refine wl_y rfl (y_move rfl) ?_
  refine wl_y rfl (y_eqlI rfl rfl) ?_
  refine wl_nil ?_
  refine wq_then ?_
  refine wc_cond rfl (fun hc19 => ?_) (fun hc19 => ?_)
  ·
    simp at hc19
    refine wc_region ?_
    refine wl_y rfl (y_move rfl) ?_
    refine wl_y rfl (y_nilCheck rfl) ?_
    refine wl_y rfl (y_fieldAddr F56_2 rfl) ?_
    refine wl_y rfl (y_load NA54 rfl (by first | exact cell_blk [] rfl | exact cell_blk [_] rfl | exact cell_blk [_, _] rfl | exact cell_blk [_, _, _] rfl | exact cell_blk [_, _, _, _] rfl | exact cell_blk [_, _, _, _, _] rfl | exact cellR_blk (by assumption) rfl)) ?_
    refine wl_y rfl (y_move rfl) ?_
    first | refine yu_delete [] Try.underlying54 (keyE_str Try.underlying9) rfl rfl ?_ | refine yu_delete [_] Try.underlying54 (keyE_str Try.underlying9) rfl rfl ?_ | refine yu_delete [_, _] Try.underlying54 (keyE_str Try.underlying9) rfl rfl ?_ | refine yu_delete [_, _, _] Try.underlying54 (keyE_str Try.underlying9) rfl rfl ?_ | refine yu_delete [_, _, _, _] Try.underlying54 (keyE_str Try.underlying9) rfl rfl ?_ | refine yu_delete [_, _, _, _, _] Try.underlying54 (keyE_str Try.underlying9) rfl rfl ?_
    refine wl_nil ?_
    refine wq_then ?_
    refine wc_seq ?_
    refine wc_region ?_
    refine wl_y rfl (y_move rfl) ?_
    refine wl_y rfl (y_assign rfl) ?_
    refine wl_nil ?_
    refine wq_then ?_
    refine wc_ret ?_
    refine wq_ret1 rfl rfl (fun w hw => ?_)
    have e : t.finish key epoch = ({ t with m := mdel t.m key }, 0) := by simp [Tb.finish, hfd, hc19]
    rw [e, hc19]; exact ⟨(), trivial, rfl, tb_shut mb (hw.sub (by (repeat (first | exact pt_nil | apply pt0 | apply pt1 | apply pt2 | apply pt3 | apply pt4 | apply pt5 | apply pt6 | apply pt7 | apply pt8 | apply pt9 | apply pt10 | apply pt11 | apply pt12 | apply pt13 | apply pt14 | apply pt15 | apply pt16 | apply pt17))))⟩
  ·
    simp at hc19
    refine wc_skip ?_
    refine wq_then ?_
    refine wc_seq ?_
    refine wc_region ?_
    refine wl_y rfl (y_move rfl) ?_
    refine wl_y rfl (y_assign rfl) ?_
    refine wl_nil ?_
    refine wq_then ?_
    refine wc_ret ?_
    refine wq_ret1 rfl rfl (fun w hw => ?_)
    have e : t.finish key epoch = (t, fe) := by simp [Tb.finish, hfd, hc19]
    rw [e]; exact ⟨(), trivial, rfl, tb_shut mb (hw.sub (by (repeat (first | exact pt_nil | apply pt0 | apply pt1 | apply pt2 | apply pt3 | apply pt4 | apply pt5 | apply pt6 | apply pt7 | apply pt8 | apply pt9 | apply pt10 | apply pt11 | apply pt12 | apply pt13 | apply pt14 | apply pt15 | apply pt16 | apply pt17))))⟩

end Go.Proofs.Ytjcegolhokfkoaa
