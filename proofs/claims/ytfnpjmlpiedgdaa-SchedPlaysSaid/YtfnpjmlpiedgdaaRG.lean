/-
  Walks: the reference: Next.
-/
import Derived.Test.YtfnpjmlpiedgdaaRF
namespace Go.Proofs.Ytfnpjmlpiedgdaa
open Go.Eng

set_option maxHeartbeats 1000000 in
theorem fnext_c (b : Nat) (s : Sc) (wk : Str) (now : Int) (n : Int) (q : Nat) (hI : s.In n q) (h1 : 1 ≤ n) (h2 : n ≤ 1000000) (hq : q ≤ 490) (hrl : s.rows.length ≤ 1000) :
    Ctr Try.prog 20 #[ptr b, vS wk, vI now] [] [rfA b s] (fun _ : Unit => True) (fun _ => .tuple #[agL (s.next wk now).2.1, vI (s.next wk now).2.2]) (fun _ => [rfA b (s.next wk now).1]) := by
  refine spec_start (n := 188) [(0, ptr b), (1, vS wk), (2, vI now)] Try.func20 rfl rfl ⟨rfl, rfl, rfl, trivial⟩ rfl ?_
  intro w0 K hR
  refine wc_ex rf_open (fun x => ?_)
  obtain ⟨x, hx⟩ := x
  refine wc_world (S' := Hp w0 K (rfAs b s x)) (fun _ hw => hw) ?_
  have hwl := hx.wlen
  have hqk : s.Qk 0 := (hI.qk hq).mono (by omega)
  refine wc_seq ?_
  refine wc_region ?_
  refine wl_w (fun _ _ => want_none) rfl (yw_alloc T36 rfl) (wl_ex fun b6 _ => ?_)
  refine wl_y rfl (y_assign rfl) ?_
  refine wl_nil ?_
  refine wq_then ?_
  refine wc_seq ?_
  refine wc_region ?_
  refine wl_y rfl (y_move rfl) ?_
  refine wl_y rfl (y_move rfl) ?_
  refine wl_q (fun _ _ => want_none) rfl (yq_spec (fst := []) (cap := []) _ FN42 (fat_c b s x wk (by omega)) rfl rfl rfl (by (repeat (first | exact pt_nil | apply pt0 | apply pt1 | apply pt2 | apply pt3 | apply pt4 | apply pt5 | apply pt6 | apply pt7 | apply pt8 | apply pt9 | apply pt10 | apply pt11 | apply pt12 | apply pt13 | apply pt14 | apply pt15 | apply pt16 | apply pt17))) (by (repeat (first | exact ro_nil | exact ro_rest (by assumption) | refine ro_cons (by first | exact .inl (by assumption) | exact ro_f0 (fun _ h => h) | exact ro_f0 (fun _ => slc_rsl) | exact ro_f1 (fun _ h => h) | exact ro_f1 (fun _ => slc_rsl) | exact ro_f2 (fun _ h => h) | exact ro_f2 (fun _ => slc_rsl) | exact ro_f3 (fun _ h => h) | exact ro_f3 (fun _ => slc_rsl) | exact ro_f4 (fun _ h => h) | exact ro_f4 (fun _ => slc_rsl) | exact ro_f5 (fun _ h => h) | exact ro_f5 (fun _ => slc_rsl) | exact ro_f6 (fun _ h => h) | exact ro_f6 (fun _ => slc_rsl)) ?_))) (fun _ _ => rfl) (fun _ _ _ h => h.sub (by (repeat (first | exact pt_nil | apply pt0 | apply pt1 | apply pt2 | apply pt3 | apply pt4 | apply pt5 | apply pt6 | apply pt7 | apply pt8 | apply pt9 | apply pt10 | apply pt11 | apply pt12 | apply pt13 | apply pt14 | apply pt15 | apply pt16 | apply pt17))))) ?_
  refine wl_y rfl (y_move rfl) ?_
  refine wl_y rfl (y_extract rfl rfl) ?_
  refine wl_y rfl (y_extract rfl rfl) ?_
  refine wl_y rfl (y_assign rfl) ?_
  refine wl_y rfl (y_assign rfl) ?_
  refine wl_nil ?_
  refine wq_then ?_
  refine wc_seq ?_
  refine wc_seq ?_
  refine wc_region ?_
  refine wl_y rfl (y_move rfl) ?_
  refine wl_y rfl (y_not rfl) ?_
  refine wl_nil ?_
  refine wq_then ?_
  refine wc_cond rfl (fun hc25 => ?_) (fun hc25 => ?_)
  ·
    refine wc_seq ?_
    refine wc_region ?_
    refine wl_y rfl (y_build (cs := [_, _, _, _, _, _]) T36 PL36 rfl rfl rfl) ?_
    first | refine wl_u (yu_storeAgg [] (l' := [_, _, _, _, _, _]) T36 rfl rfl rfl (by simp [Value.oneCell', encL, encJ]) rfl rfl) ?_ | refine wl_u (yu_storeAgg [_] (l' := [_, _, _, _, _, _]) T36 rfl rfl rfl (by simp [Value.oneCell', encL, encJ]) rfl rfl) ?_ | refine wl_u (yu_storeAgg [_, _] (l' := [_, _, _, _, _, _]) T36 rfl rfl rfl (by simp [Value.oneCell', encL, encJ]) rfl rfl) ?_ | refine wl_u (yu_storeAgg [_, _, _] (l' := [_, _, _, _, _, _]) T36 rfl rfl rfl (by simp [Value.oneCell', encL, encJ]) rfl rfl) ?_ | refine wl_u (yu_storeAgg [_, _, _, _] (l' := [_, _, _, _, _, _]) T36 rfl rfl rfl (by simp [Value.oneCell', encL, encJ]) rfl rfl) ?_ | refine wl_u (yu_storeAgg [_, _, _, _, _] (l' := [_, _, _, _, _, _]) T36 rfl rfl rfl (by simp [Value.oneCell', encL, encJ]) rfl rfl) ?_ | refine wl_u (yu_storeAgg [_, _, _, _, _, _] (l' := [_, _, _, _, _, _]) T36 rfl rfl rfl (by simp [Value.oneCell', encL, encJ]) rfl rfl) ?_ | refine wl_u (yu_storeAgg [_, _, _, _, _, _, _] (l' := [_, _, _, _, _, _]) T36 rfl rfl rfl (by simp [Value.oneCell', encL, encJ]) rfl rfl) ?_ | refine wl_u (yu_storeAgg [_, _, _, _, _, _, _, _] (l' := [_, _, _, _, _, _]) T36 rfl rfl rfl (by simp [Value.oneCell', encL, encJ]) rfl rfl) ?_
    refine wl_y rfl (y_assign rfl) ?_
    refine wl_nil ?_
    refine wq_then ?_
    refine wc_ret ?_
    refine wq_then_ret ?_
    refine wq_retC2 (l := [_, _, _, _, _, _]) AG36 rfl rfl rfl rfl (by first | exact cells_blk [] rfl | exact cells_blk [_] rfl | exact cells_blk [_, _] rfl | exact cells_blk [_, _, _] rfl | exact cells_blk [_, _, _, _] rfl | exact cells_blk [_, _, _, _, _] rfl | exact cells_blk [_, _, _, _, _, _] rfl | exact cells_blk [_, _, _, _, _, _, _] rfl | exact cells_blk [_, _, _, _, _, _, _, _] rfl) (fun w hw => ?_)
    have hno := hx.has wk
    rw [show wHas x.ws wk = false by simpa using hc25] at hno
    rw [next_none (by simpa using hno.symm)]; exact ⟨(), trivial, rfl, rf_shut x hx (hw.sub (by (repeat (first | exact pt_nil | apply pt0 | apply pt1 | apply pt2 | apply pt3 | apply pt4 | apply pt5 | apply pt6 | apply pt7 | apply pt8 | apply pt9 | apply pt10 | apply pt11 | apply pt12 | apply pt13 | apply pt14 | apply pt15 | apply pt16 | apply pt17))))⟩
  ·
    refine wc_skip ?_
    refine wq_then ?_
    refine wc_seq ?_
    refine wc_seq ?_
    refine wc_region ?_
    obtain ⟨sl0, hp0⟩ := wHas_get (ws := x.ws) (k := wk) (by simpa using hc25)
    obtain ⟨i, hi⟩ : ∃ i, wAt x.ws wk = i := ⟨_, rfl⟩
    rw [hi] at hp0
    have hil := (List.getElem?_eq_some_iff.1 hp0).1
    refine wl_same 8 (vI (i : Nat)) rfl (by rw [hi]) ?_
    have hg := hx.get hI.keyed hp0
    have hrow0 := hx.row hI.keyed hp0
    have hwk : (mget s.rows wk).isSome = true := by rw [hg]; rfl
    have hlk := first_like hqk hwk
    have hX0 : NX s x i wk x.RI x.ws := ⟨hx, rfl, sl0, hp0⟩
    refine wl_y rfl (y_move rfl) ?_
    refine wl_y rfl (y_lss rfl rfl) ?_
    refine wl_y rfl (y_move rfl) ?_
    refine wl_case 29 rfl (fun hg29 => ?_) (fun hg29 => ?_)
    ·
      simp at hg29
      refine wl_sk rfl rfl rfl rfl ?_
      refine wl_sk rfl rfl rfl rfl ?_
      refine wl_y rfl (y_pick_t rfl rfl) ?_
      refine wl_nil ?_
      refine wq_then ?_
      refine wc_cond_true rfl ?_
      refine wc_seq ?_
      refine wc_region ?_
      refine wl_y rfl (y_build (cs := [_, _, _, _, _, _]) T36 PL36 rfl rfl rfl) ?_
      first | refine wl_u (yu_storeAgg [] (l' := [_, _, _, _, _, _]) T36 rfl rfl rfl (by simp [Value.oneCell', encL, encJ]) rfl rfl) ?_ | refine wl_u (yu_storeAgg [_] (l' := [_, _, _, _, _, _]) T36 rfl rfl rfl (by simp [Value.oneCell', encL, encJ]) rfl rfl) ?_ | refine wl_u (yu_storeAgg [_, _] (l' := [_, _, _, _, _, _]) T36 rfl rfl rfl (by simp [Value.oneCell', encL, encJ]) rfl rfl) ?_ | refine wl_u (yu_storeAgg [_, _, _] (l' := [_, _, _, _, _, _]) T36 rfl rfl rfl (by simp [Value.oneCell', encL, encJ]) rfl rfl) ?_ | refine wl_u (yu_storeAgg [_, _, _, _] (l' := [_, _, _, _, _, _]) T36 rfl rfl rfl (by simp [Value.oneCell', encL, encJ]) rfl rfl) ?_ | refine wl_u (yu_storeAgg [_, _, _, _, _] (l' := [_, _, _, _, _, _]) T36 rfl rfl rfl (by simp [Value.oneCell', encL, encJ]) rfl rfl) ?_ | refine wl_u (yu_storeAgg [_, _, _, _, _, _] (l' := [_, _, _, _, _, _]) T36 rfl rfl rfl (by simp [Value.oneCell', encL, encJ]) rfl rfl) ?_ | refine wl_u (yu_storeAgg [_, _, _, _, _, _, _] (l' := [_, _, _, _, _, _]) T36 rfl rfl rfl (by simp [Value.oneCell', encL, encJ]) rfl rfl) ?_ | refine wl_u (yu_storeAgg [_, _, _, _, _, _, _, _] (l' := [_, _, _, _, _, _]) T36 rfl rfl rfl (by simp [Value.oneCell', encL, encJ]) rfl rfl) ?_
      refine wl_y rfl (y_assign rfl) ?_
      refine wl_nil ?_
      refine wq_then ?_
      refine wc_ret ?_
      refine wq_then_ret ?_
      refine wq_retC2 (l := [_, _, _, _, _, _]) AG36 rfl rfl rfl rfl (by first | exact cells_blk [] rfl | exact cells_blk [_] rfl | exact cells_blk [_, _] rfl | exact cells_blk [_, _, _] rfl | exact cells_blk [_, _, _, _] rfl | exact cells_blk [_, _, _, _, _] rfl | exact cells_blk [_, _, _, _, _, _] rfl | exact cells_blk [_, _, _, _, _, _, _] rfl | exact cells_blk [_, _, _, _, _, _, _, _] rfl) (fun w hw => ?_)
      rw [next_time hg (by simp [timeB]; omega)]; exact ⟨(), trivial, rfl, rf_shut x hx (hw.sub (by (repeat (first | exact pt_nil | apply pt0 | apply pt1 | apply pt2 | apply pt3 | apply pt4 | apply pt5 | apply pt6 | apply pt7 | apply pt8 | apply pt9 | apply pt10 | apply pt11 | apply pt12 | apply pt13 | apply pt14 | apply pt15 | apply pt16 | apply pt17))))⟩
    ·
      simp at hg29
      refine wl_yg rfl rfl rfl (y_move rfl) ?_
      refine wl_yg rfl rfl rfl (y_gtr rfl rfl) ?_
      refine wl_y rfl (y_pick_f rfl rfl) ?_
      refine wl_nil ?_
      refine wq_then ?_
      refine wc_cond rfl (fun hc32 => ?_) (fun hc32 => ?_)
      ·
        simp at hc32
        refine wc_seq ?_
        refine wc_region ?_
        refine wl_y rfl (y_build (cs := [_, _, _, _, _, _]) T36 PL36 rfl rfl rfl) ?_
        first | refine wl_u (yu_storeAgg [] (l' := [_, _, _, _, _, _]) T36 rfl rfl rfl (by simp [Value.oneCell', encL, encJ]) rfl rfl) ?_ | refine wl_u (yu_storeAgg [_] (l' := [_, _, _, _, _, _]) T36 rfl rfl rfl (by simp [Value.oneCell', encL, encJ]) rfl rfl) ?_ | refine wl_u (yu_storeAgg [_, _] (l' := [_, _, _, _, _, _]) T36 rfl rfl rfl (by simp [Value.oneCell', encL, encJ]) rfl rfl) ?_ | refine wl_u (yu_storeAgg [_, _, _] (l' := [_, _, _, _, _, _]) T36 rfl rfl rfl (by simp [Value.oneCell', encL, encJ]) rfl rfl) ?_ | refine wl_u (yu_storeAgg [_, _, _, _] (l' := [_, _, _, _, _, _]) T36 rfl rfl rfl (by simp [Value.oneCell', encL, encJ]) rfl rfl) ?_ | refine wl_u (yu_storeAgg [_, _, _, _, _] (l' := [_, _, _, _, _, _]) T36 rfl rfl rfl (by simp [Value.oneCell', encL, encJ]) rfl rfl) ?_ | refine wl_u (yu_storeAgg [_, _, _, _, _, _] (l' := [_, _, _, _, _, _]) T36 rfl rfl rfl (by simp [Value.oneCell', encL, encJ]) rfl rfl) ?_ | refine wl_u (yu_storeAgg [_, _, _, _, _, _, _] (l' := [_, _, _, _, _, _]) T36 rfl rfl rfl (by simp [Value.oneCell', encL, encJ]) rfl rfl) ?_ | refine wl_u (yu_storeAgg [_, _, _, _, _, _, _, _] (l' := [_, _, _, _, _, _]) T36 rfl rfl rfl (by simp [Value.oneCell', encL, encJ]) rfl rfl) ?_
        refine wl_y rfl (y_assign rfl) ?_
        refine wl_nil ?_
        refine wq_then ?_
        refine wc_ret ?_
        refine wq_then_ret ?_
        refine wq_retC2 (l := [_, _, _, _, _, _]) AG36 rfl rfl rfl rfl (by first | exact cells_blk [] rfl | exact cells_blk [_] rfl | exact cells_blk [_, _] rfl | exact cells_blk [_, _, _] rfl | exact cells_blk [_, _, _, _] rfl | exact cells_blk [_, _, _, _, _] rfl | exact cells_blk [_, _, _, _, _, _] rfl | exact cells_blk [_, _, _, _, _, _, _] rfl | exact cells_blk [_, _, _, _, _, _, _, _] rfl) (fun w hw => ?_)
        rw [next_time hg (by simp [timeB]; omega)]; exact ⟨(), trivial, rfl, rf_shut x hx (hw.sub (by (repeat (first | exact pt_nil | apply pt0 | apply pt1 | apply pt2 | apply pt3 | apply pt4 | apply pt5 | apply pt6 | apply pt7 | apply pt8 | apply pt9 | apply pt10 | apply pt11 | apply pt12 | apply pt13 | apply pt14 | apply pt15 | apply pt16 | apply pt17))))⟩
      ·
        simp at hc32
        refine wc_skip ?_
        refine wq_then ?_
        refine wc_seq ?_
        refine wc_region ?_
        have htb : timeB now = true := by simp [timeB]; omega
        refine wl_y rfl (y_move rfl) ?_
        refine wl_y rfl (y_nilCheck rfl) ?_
        refine wl_y rfl (y_fieldAddr F54_2 rfl) ?_
        refine wl_y rfl (y_load NA51 rfl (by first | exact cell_blk [] rfl | exact cell_blk [_] rfl | exact cell_blk [_, _] rfl | exact cell_blk [_, _, _] rfl | exact cell_blk [_, _, _, _] rfl | exact cell_blk [_, _, _, _, _] rfl | exact cell_blk [_, _, _, _, _, _] rfl | exact cell_blk [_, _, _, _, _, _, _] rfl | exact cell_blk [_, _, _, _, _, _, _, _] rfl | exact cellR_blk (by assumption) rfl)) ?_
        refine wl_y rfl (y_move rfl) ?_
        refine wl_y rfl (y_indexAddr (i := i) Try.underlying51 T83 rfl rfl rfl (by omega) (by first | exact fun _ _ => hjs | exact fun _ _ => hws | exact fun _ _ => hos | exact fun w hw => hw.slc_isSome [] (by omega) | exact fun w hw => hw.slc_isSome [_] (by omega) | exact fun w hw => hw.slc_isSome [_, _] (by omega) | exact fun w hw => hw.slc_isSome [_, _, _] (by omega) | exact fun w hw => hw.slc_isSome [_, _, _, _] (by omega) | exact fun w hw => hw.slc_isSome [_, _, _, _, _] (by omega) | exact fun w hw => hw.slc_isSome [_, _, _, _, _, _] (by omega) | exact fun w hw => hw.slc_isSome [_, _, _, _, _, _, _] (by omega) | exact fun w hw => hw.slc_isSome [_, _, _, _, _, _, _, _] (by omega))) ?_
        refine wl_y rfl (y_assign rfl) ?_
        refine wl_nil ?_
        refine wq_then ?_
        refine wc_seq (wc_cut (α := List (It Int) × List (Str × Sl Jb)) (fun y => NX (s.first wk) x i wk y.1 y.2) [(0, _), (1, _), (2, _), (6, _), (10, _)] (fun y => []) (fun y => Hp w0 K [blk b (.cells (rfC x) 54 (0, 0)), slc 30 3 x.ja x.jobs.length x.jc (x.jobs.flatMap encJ), refA x.qb s.age y.1, slc 83 2 x.wa x.ws.length x.wc (y.2.flatMap encW), rowsA y.2, rtA x.tb s.t.ref, blk b6 (.cells (encL noL).toArray 36 (0, 0))]) ⟨rfl, rfl, rfl, rfl, rfl, trivial⟩ ?_ ?_)
        ·
          refine wc_seq ?_
          refine wc_region ?_
          refine wl_y rfl (y_move rfl) ?_
          refine wl_y rfl (y_nilCheck rfl) ?_
          refine wl_y rfl (y_fieldAddr_adr F83_1 rfl) ?_
          refine wl_y rfl (y_load NA49 rfl (by first | exact cell_own [] (rows_get encW_len hp0 rfl) | exact cell_own [_] (rows_get encW_len hp0 rfl) | exact cell_own [_, _] (rows_get encW_len hp0 rfl) | exact cell_own [_, _, _] (rows_get encW_len hp0 rfl) | exact cell_own [_, _, _, _] (rows_get encW_len hp0 rfl) | exact cell_own [_, _, _, _, _] (rows_get encW_len hp0 rfl) | exact cell_own [_, _, _, _, _, _] (rows_get encW_len hp0 rfl) | exact cell_own [_, _, _, _, _, _, _] (rows_get encW_len hp0 rfl) | exact cell_own [_, _, _, _, _, _, _, _] (rows_get encW_len hp0 rfl))) ?_
          refine wl_same 43 (vJs sl0) rfl rfl ?_
          refine wl_y rfl (y_lenSl Try.underlying49 rfl) ?_
          refine wl_y rfl (y_eqlI rfl rfl) ?_
          refine wl_nil ?_
          refine wq_then ?_
          refine wc_cond rfl (fun hc45 => ?_) (fun hc45 => ?_)
          ·
            first | replace hc45 := of_decide_eq_true hc45 | replace hc45 := of_decide_eq_false hc45
            refine wc_seq ?_
            refine wc_region ?_
            refine wl_y rfl (y_assign rfl) ?_
            refine wl_nil ?_
            refine wq_then ?_
            refine wc_block ?_
            refine wc_loop (α := Nat × List (It Int) × List (Str × Sl Jb)) (fun y => y.1 ≤ 3 ∧ NX (s.tk wk y.1) x i wk y.2.1 y.2.2) [(0, _), (1, _), (2, _), (6, _), (10, _)] (fun y => [(11, vI y.1)]) (fun y => Hp w0 K [blk b (.cells (rfC x) 54 (0, 0)), slc 30 3 x.ja x.jobs.length x.jc (x.jobs.flatMap encJ), refA x.qb s.age y.2.1, slc 83 2 x.wa x.ws.length x.wc (y.2.2.flatMap encW), rowsA y.2.2, rtA x.tb s.t.ref, blk b6 (.cells (encL noL).toArray 36 (0, 0))]) (fun y => 3 - y.1) (0, x.RI, x.ws) ?_ ⟨rfl, rfl, rfl, rfl, rfl, rfl, trivial⟩ ?_ ?_
            · exact ⟨Nat.zero_le _, hX0⟩
            · exact fun w hw => hw.sub (by (repeat (first | exact pt_nil | apply pt0 | apply pt1 | apply pt2 | apply pt3 | apply pt4 | apply pt5 | apply pt6 | apply pt7 | apply pt8 | apply pt9 | apply pt10 | apply pt11 | apply pt12 | apply pt13 | apply pt14 | apply pt15 | apply pt16 | apply pt17)))
            · rintro ⟨k, RI, ws⟩ ⟨hk3, hX⟩; simp only at hk3 hX
              refine wc_world (S' := Hp w0 K [blk b (.cells (rfC x) 54 (0, 0)), slc 30 3 x.ja x.jobs.length x.jc (x.jobs.flatMap encJ), refA x.qb s.age RI, slc 83 2 x.wa x.ws.length x.wc (ws.flatMap encW), rowsA ws, rtA x.tb s.t.ref, blk b6 (.cells (encL noL).toArray 36 (0, 0))]) (fun w hw => hw) ?_
              refine wc_same 11 (vI k) rfl rfl ?_
              have hlk := tk_like hqk hwk k
              have hq2 := hlk.q 0 hqk
              have hk1 : Keyed1 (s.tk wk k).rows := by unfold Keyed1; rw [hlk.keys]; exact hI.keyed
              refine wc_seq ?_
              refine wc_seq ?_
              refine wc_region ?_
              refine wl_y rfl (y_move rfl) ?_
              refine wl_y rfl (y_lss rfl rfl) ?_
              refine wl_nil ?_
              refine wq_then ?_
              refine wc_cond rfl (fun hc47 => ?_) (fun hc47 => ?_)
              ·
                first | replace hc47 := of_decide_eq_true hc47 | replace hc47 := of_decide_eq_false hc47
                refine wc_skip ?_
                refine wq_then ?_
                refine wc_seq ?_
                refine wc_block ?_
                refine wc_seq ?_
                refine wc_region ?_
                by_cases hR : RI = []
                ·
                  refine wl_y rfl (y_move rfl) ?_
                  refine wl_y rfl (y_nilCheck rfl) ?_
                  refine wl_y rfl (y_fieldAddr F54_1 rfl) ?_
                  refine wl_y rfl (y_load NA50 rfl (by first | exact cell_blk [] rfl | exact cell_blk [_] rfl | exact cell_blk [_, _] rfl | exact cell_blk [_, _, _] rfl | exact cell_blk [_, _, _, _] rfl | exact cell_blk [_, _, _, _, _] rfl | exact cell_blk [_, _, _, _, _, _] rfl | exact cell_blk [_, _, _, _, _, _, _] rfl | exact cell_blk [_, _, _, _, _, _, _, _] rfl | exact cellR_blk (by assumption) rfl)) ?_
                  refine wl_c (fun _ _ => want_none) rfl (yc_spec (fst := []) (cap := []) _ FN44 (xpop_em2 x.qb s.age RI hR) rfl rfl rfl (by (repeat (first | exact pt_nil | apply pt0 | apply pt1 | apply pt2 | apply pt3 | apply pt4 | apply pt5 | apply pt6 | apply pt7 | apply pt8 | apply pt9 | apply pt10 | apply pt11 | apply pt12 | apply pt13 | apply pt14 | apply pt15 | apply pt16 | apply pt17))) (by (repeat (first | exact ro_nil | exact ro_rest (by assumption) | refine ro_cons (by first | exact .inl (by assumption) | exact ro_f0 (fun _ h => h) | exact ro_f0 (fun _ => slc_rsl) | exact ro_f1 (fun _ h => h) | exact ro_f1 (fun _ => slc_rsl) | exact ro_f2 (fun _ h => h) | exact ro_f2 (fun _ => slc_rsl) | exact ro_f3 (fun _ h => h) | exact ro_f3 (fun _ => slc_rsl) | exact ro_f4 (fun _ h => h) | exact ro_f4 (fun _ => slc_rsl) | exact ro_f5 (fun _ h => h) | exact ro_f5 (fun _ => slc_rsl) | exact ro_f6 (fun _ h => h) | exact ro_f6 (fun _ => slc_rsl)) ?_)))) (wl_ex fun x55 hx55 => ?_)
                  refine wl_y rfl (y_move rfl) ?_
                  refine wl_y rfl (y_extract rfl rfl) ?_
                  refine wl_y rfl (y_extract rfl rfl) ?_
                  refine wl_y rfl (y_assign rfl) ?_
                  refine wl_y rfl (y_assign rfl) ?_
                  refine wl_nil ?_
                  refine wq_then ?_
                  refine wc_seq ?_
                  refine wc_region ?_
                  skip
                  refine wl_y rfl (y_move rfl) ?_
                  refine wl_nil ?_
                  refine wq_then ?_
                  refine wc_known 58 false rfl (rfl) ?_
                  refine wc_cond_false rfl ?_
                  refine wc_skip ?_
                  refine wq_block_normal ?_
                  refine wq_then ?_
                  refine wc_region ?_
                  refine wl_y rfl (y_move rfl) ?_
                  refine wl_y rfl (y_add rfl rfl (by omega)) ?_
                  refine wl_y rfl (y_assign rfl) ?_
                  refine wl_nil ?_
                  exact wq_round (k + 1, RI, ws) (by simp only; omega) ⟨by simp only; omega, hX.none hR⟩ ⟨rfl, rfl, rfl, rfl, rfl, rfl, trivial⟩ (fun w hw => hw.sub (by (repeat (first | exact pt_nil | apply pt0 | apply pt1 | apply pt2 | apply pt3 | apply pt4 | apply pt5 | apply pt6 | apply pt7 | apply pt8 | apply pt9 | apply pt10 | apply pt11 | apply pt12 | apply pt13 | apply pt14 | apply pt15 | apply pt16 | apply pt17))))
                ·
                  refine wl_y rfl (y_move rfl) ?_
                  refine wl_y rfl (y_nilCheck rfl) ?_
                  refine wl_y rfl (y_fieldAddr F54_1 rfl) ?_
                  refine wl_y rfl (y_load NA50 rfl (by first | exact cell_blk [] rfl | exact cell_blk [_] rfl | exact cell_blk [_, _] rfl | exact cell_blk [_, _, _] rfl | exact cell_blk [_, _, _, _] rfl | exact cell_blk [_, _, _, _, _] rfl | exact cell_blk [_, _, _, _, _, _] rfl | exact cell_blk [_, _, _, _, _, _, _] rfl | exact cell_blk [_, _, _, _, _, _, _, _] rfl | exact cellR_blk (by assumption) rfl)) ?_
                  refine wl_c (fun _ _ => want_none) rfl (yc_spec (fst := []) (cap := []) _ FN44 (xpop_ok x.qb s.age (s.tk wk k).n RI ⟨by have := hI.age; omega, hI.age.2⟩ (by rw [hX.r.len]; have := hq2.rl; omega) (by have := hX.r.qok hq2.q; rw [hlk.age] at this; exact this) hR) rfl rfl rfl (by (repeat (first | exact pt_nil | apply pt0 | apply pt1 | apply pt2 | apply pt3 | apply pt4 | apply pt5 | apply pt6 | apply pt7 | apply pt8 | apply pt9 | apply pt10 | apply pt11 | apply pt12 | apply pt13 | apply pt14 | apply pt15 | apply pt16 | apply pt17))) (by (repeat (first | exact ro_nil | exact ro_rest (by assumption) | refine ro_cons (by first | exact .inl (by assumption) | exact ro_f0 (fun _ h => h) | exact ro_f0 (fun _ => slc_rsl) | exact ro_f1 (fun _ h => h) | exact ro_f1 (fun _ => slc_rsl) | exact ro_f2 (fun _ h => h) | exact ro_f2 (fun _ => slc_rsl) | exact ro_f3 (fun _ h => h) | exact ro_f3 (fun _ => slc_rsl) | exact ro_f4 (fun _ h => h) | exact ro_f4 (fun _ => slc_rsl) | exact ro_f5 (fun _ h => h) | exact ro_f5 (fun _ => slc_rsl) | exact ro_f6 (fun _ h => h) | exact ro_f6 (fun _ => slc_rsl)) ?_)))) (wl_ex fun x55 hx55 => ?_)
                  refine wl_y rfl (y_move rfl) ?_
                  refine wl_y rfl (y_extract rfl rfl) ?_
                  refine wl_y rfl (y_extract rfl rfl) ?_
                  refine wl_y rfl (y_assign rfl) ?_
                  refine wl_y rfl (y_assign rfl) ?_
                  refine wl_nil ?_
                  refine wq_then ?_
                  refine wc_seq ?_
                  refine wc_region ?_
                  obtain ⟨sl, hp⟩ := hX.at_
                  obtain ⟨m, hm⟩ := List.mem_iff_getElem?.1 hx55.1
                  obtain ⟨k9, j, hk9, hj, hzj⟩ := hX.r.job hm
                  have hk9l := (List.getElem?_eq_some_iff.1 hj).1
                  have hil2 := (List.getElem?_eq_some_iff.1 hp).1
                  have hXl := hX.l
                  have hsl1 := hX.r.row hk1 hp
                  have hsl2 := tkr_len (s := s) (w := wk) (u := wk) k
                  have hsl3 := hI.row_len wk
                  rw [hsl1] at hsl2
                  refine wl_same 12 (vI (k9 : Nat)) rfl (by rw [hk9]) ?_
                  refine wl_have (p := x.ja.isSome = true) (by first | exact fun w hw => hw.slc_isSome [] (by omega) | exact fun w hw => hw.slc_isSome [_] (by omega) | exact fun w hw => hw.slc_isSome [_, _] (by omega) | exact fun w hw => hw.slc_isSome [_, _, _] (by omega) | exact fun w hw => hw.slc_isSome [_, _, _, _] (by omega) | exact fun w hw => hw.slc_isSome [_, _, _, _, _] (by omega) | exact fun w hw => hw.slc_isSome [_, _, _, _, _, _] (by omega) | exact fun w hw => hw.slc_isSome [_, _, _, _, _, _, _] (by omega) | exact fun w hw => hw.slc_isSome [_, _, _, _, _, _, _, _] (by omega)) (fun hjs => ?_)
                  refine wl_world (S' := Hp w0 K [blk b (.cells (rfC x) 54 (0, 0)), slc 30 3 x.ja x.jobs.length x.jc (x.jobs.flatMap encJ), refA x.qb s.age (rest RI x55), slc 83 2 x.wa x.ws.length x.wc (ws.flatMap encW), slc 30 3 sl.a sl.xs.length sl.cap (sl.xs.flatMap encJ), rowsA (ws.eraseIdx i), rtA x.tb s.t.ref, blk b6 (.cells (encL noL).toArray 36 (0, 0))]) (fun w hw => (rows_outI hp (hw.sub (by (repeat (first | exact pt_nil | apply pt0 | apply pt1 | apply pt2 | apply pt3 | apply pt4 | apply pt5 | apply pt6 | apply pt7 | apply pt8 | apply pt9 | apply pt10 | apply pt11 | apply pt12 | apply pt13 | apply pt14 | apply pt15 | apply pt16 | apply pt17))) : Hp w0 K (rowsA ws :: [blk b (.cells (rfC x) 54 (0, 0)), slc 30 3 x.ja x.jobs.length x.jc (x.jobs.flatMap encJ), refA x.qb s.age (rest RI x55), slc 83 2 x.wa x.ws.length x.wc (ws.flatMap encW), rtA x.tb s.t.ref, blk b6 (.cells (encL noL).toArray 36 (0, 0))]) w)).sub (by (repeat (first | exact pt_nil | apply pt0 | apply pt1 | apply pt2 | apply pt3 | apply pt4 | apply pt5 | apply pt6 | apply pt7 | apply pt8 | apply pt9 | apply pt10 | apply pt11 | apply pt12 | apply pt13 | apply pt14 | apply pt15 | apply pt16 | apply pt17)))) ?_
                  refine wl_y rfl (y_move rfl) ?_
                  refine wl_nil ?_
                  refine wq_then ?_
                  refine wc_known 58 true rfl (rfl) ?_
                  refine wc_cond_true rfl ?_
                  refine wc_mix (.q 0 0 (.q 1 0 (.q 2 0 (.q 3 0 (.q 4 0 (.q 5 0 (.q 6 0 (.q 7 0 (.q 8 1 (.q 9 0 (.q 10 0 (.q 11 1 (.w 12 2 (.w 13 2 (.q 14 0 (.q 15 0 (.w 16 3 .nil .nil))) .nil) .nil))))))))))))) (Sees [blk b (.cells (rfC x) 54 (0, 0)), slc 83 2 x.wa x.ws.length x.wc (ws.flatMap encW)]) MO (by kernel_rfl) (Hp.drawless _ _ _) (fun w hw => by refine ⟨?_, ?_, trivial⟩ <;> first | exact hw.seen [] | exact hw.seen [_] | exact hw.seen [_, _] | exact hw.seen [_, _, _] | exact hw.seen [_, _, _, _] | exact hw.seen [_, _, _, _, _] | exact hw.seen [_, _, _, _, _, _] | exact hw.seen [_, _, _, _, _, _, _] | exact hw.seen [_, _, _, _, _, _, _, _]) ?_
                  refine wm_g rfl rfl (y_move rfl) ?_
                  refine wm_g rfl rfl (y_move rfl) ?_
                  refine wm_g rfl rfl (y_nilCheck rfl) ?_
                  refine wm_g rfl rfl (y_fieldAddr_adr F83_1 rfl) ?_
                  refine wm_g rfl rfl (y_load NA49 rfl (fun w hw => hw.2.1.slcCell (rows_get encW_len hp rfl))) ?_
                  refine wm_g rfl rfl (y_move rfl) ?_
                  refine wm_g rfl rfl (y_nilCheck rfl) ?_
                  refine wm_g rfl rfl (y_fieldAddr F54_0 rfl) ?_
                  refine wm_l rfl rfl (y_load NA49 rfl (by first | exact cell_blk [] rfl | exact cell_blk [_] rfl | exact cell_blk [_, _] rfl | exact cell_blk [_, _, _] rfl | exact cell_blk [_, _, _, _] rfl | exact cell_blk [_, _, _, _, _] rfl | exact cell_blk [_, _, _, _, _, _] rfl | exact cell_blk [_, _, _, _, _, _, _] rfl | exact cell_blk [_, _, _, _, _, _, _, _] rfl | exact cellR_blk (by assumption) rfl)) ?_
                  refine wm_g rfl rfl (y_move rfl) ?_
                  refine wm_g rfl rfl (y_indexAddr (i := k9) Try.underlying49 T30 rfl rfl rfl (by omega) (by first | exact fun _ _ => hjs | exact fun _ _ => hws | exact fun _ _ => hos | exact fun w hw => hw.slc_isSome [] (by omega) | exact fun w hw => hw.slc_isSome [_] (by omega) | exact fun w hw => hw.slc_isSome [_, _] (by omega) | exact fun w hw => hw.slc_isSome [_, _, _] (by omega) | exact fun w hw => hw.slc_isSome [_, _, _, _] (by omega) | exact fun w hw => hw.slc_isSome [_, _, _, _, _] (by omega) | exact fun w hw => hw.slc_isSome [_, _, _, _, _, _] (by omega) | exact fun w hw => hw.slc_isSome [_, _, _, _, _, _, _] (by omega) | exact fun w hw => hw.slc_isSome [_, _, _, _, _, _, _, _] (by omega))) ?_
                  refine wm_l rfl rfl (y_loadAgg (l := encJ j) AG30 rfl rfl (by first | exact agg_own [] (fun i u h => rows_get encJ_len hj h) | exact agg_own [_] (fun i u h => rows_get encJ_len hj h) | exact agg_own [_, _] (fun i u h => rows_get encJ_len hj h) | exact agg_own [_, _, _] (fun i u h => rows_get encJ_len hj h) | exact agg_own [_, _, _, _] (fun i u h => rows_get encJ_len hj h) | exact agg_own [_, _, _, _, _] (fun i u h => rows_get encJ_len hj h) | exact agg_own [_, _, _, _, _, _] (fun i u h => rows_get encJ_len hj h) | exact agg_own [_, _, _, _, _, _, _] (fun i u h => rows_get encJ_len hj h) | exact agg_own [_, _, _, _, _, _, _, _] (fun i u h => rows_get encJ_len hj h))) ?_
                  refine wm_w rfl rfl ?hC (yw_buildSlice (cs := encJ j) Try.underlying49 T30 rfl rfl rfl rfl rfl rfl rfl) (wm_ex fun b71 _ => ?_)
                  case hC => exact (fun _ _ h => by obtain ⟨_, _, _, hw⟩ := h; exact (by refine ⟨?_, ?_, trivial⟩ <;> first | exact hw.seen [] | exact hw.seen [_] | exact hw.seen [_, _] | exact hw.seen [_, _, _] | exact hw.seen [_, _, _, _] | exact hw.seen [_, _, _, _, _] | exact hw.seen [_, _, _, _, _, _] | exact hw.seen [_, _, _, _, _, _, _] | exact hw.seen [_, _, _, _, _, _, _, _]))
                  first | refine wm_w rfl rfl ?hC (yw_append (m := 1) [_] (cs := sl.xs.flatMap encJ) (news := encJ j) Try.underlying49 Try.underlying49 (.inl ⟨_, rfl⟩) T30 rfl rfl rfl (fun w hw => Src.slice ((hw.seen []).mono fun _ => slc_rsl)) (by omega) (by unfold maxLen; omega) (by simp [Value.oneCell', encJ]) rfl) (wm_ex fun p72 hp72 => ?_) | refine wm_w rfl rfl ?hC (yw_append (m := 1) [_, _] (cs := sl.xs.flatMap encJ) (news := encJ j) Try.underlying49 Try.underlying49 (.inl ⟨_, rfl⟩) T30 rfl rfl rfl (fun w hw => Src.slice ((hw.seen []).mono fun _ => slc_rsl)) (by omega) (by unfold maxLen; omega) (by simp [Value.oneCell', encJ]) rfl) (wm_ex fun p72 hp72 => ?_) | refine wm_w rfl rfl ?hC (yw_append (m := 1) [_, _, _] (cs := sl.xs.flatMap encJ) (news := encJ j) Try.underlying49 Try.underlying49 (.inl ⟨_, rfl⟩) T30 rfl rfl rfl (fun w hw => Src.slice ((hw.seen []).mono fun _ => slc_rsl)) (by omega) (by unfold maxLen; omega) (by simp [Value.oneCell', encJ]) rfl) (wm_ex fun p72 hp72 => ?_) | refine wm_w rfl rfl ?hC (yw_append (m := 1) [_, _, _, _] (cs := sl.xs.flatMap encJ) (news := encJ j) Try.underlying49 Try.underlying49 (.inl ⟨_, rfl⟩) T30 rfl rfl rfl (fun w hw => Src.slice ((hw.seen []).mono fun _ => slc_rsl)) (by omega) (by unfold maxLen; omega) (by simp [Value.oneCell', encJ]) rfl) (wm_ex fun p72 hp72 => ?_) | refine wm_w rfl rfl ?hC (yw_append (m := 1) [_, _, _, _, _] (cs := sl.xs.flatMap encJ) (news := encJ j) Try.underlying49 Try.underlying49 (.inl ⟨_, rfl⟩) T30 rfl rfl rfl (fun w hw => Src.slice ((hw.seen []).mono fun _ => slc_rsl)) (by omega) (by unfold maxLen; omega) (by simp [Value.oneCell', encJ]) rfl) (wm_ex fun p72 hp72 => ?_) | refine wm_w rfl rfl ?hC (yw_append (m := 1) [_, _, _, _, _, _] (cs := sl.xs.flatMap encJ) (news := encJ j) Try.underlying49 Try.underlying49 (.inl ⟨_, rfl⟩) T30 rfl rfl rfl (fun w hw => Src.slice ((hw.seen []).mono fun _ => slc_rsl)) (by omega) (by unfold maxLen; omega) (by simp [Value.oneCell', encJ]) rfl) (wm_ex fun p72 hp72 => ?_) | refine wm_w rfl rfl ?hC (yw_append (m := 1) [_, _, _, _, _, _, _] (cs := sl.xs.flatMap encJ) (news := encJ j) Try.underlying49 Try.underlying49 (.inl ⟨_, rfl⟩) T30 rfl rfl rfl (fun w hw => Src.slice ((hw.seen []).mono fun _ => slc_rsl)) (by omega) (by unfold maxLen; omega) (by simp [Value.oneCell', encJ]) rfl) (wm_ex fun p72 hp72 => ?_) | refine wm_w rfl rfl ?hC (yw_append (m := 1) [_, _, _, _, _, _, _, _] (cs := sl.xs.flatMap encJ) (news := encJ j) Try.underlying49 Try.underlying49 (.inl ⟨_, rfl⟩) T30 rfl rfl rfl (fun w hw => Src.slice ((hw.seen []).mono fun _ => slc_rsl)) (by omega) (by unfold maxLen; omega) (by simp [Value.oneCell', encJ]) rfl) (wm_ex fun p72 hp72 => ?_)
                  case hC => exact (fun _ _ h => by obtain ⟨_, _, _, hw⟩ := h; exact (by refine ⟨?_, ?_, trivial⟩ <;> first | exact hw.seen [] | exact hw.seen [_] | exact hw.seen [_, _] | exact hw.seen [_, _, _] | exact hw.seen [_, _, _, _] | exact hw.seen [_, _, _, _, _] | exact hw.seen [_, _, _, _, _, _] | exact hw.seen [_, _, _, _, _, _, _] | exact hw.seen [_, _, _, _, _, _, _, _]))
                  refine wm_g rfl rfl (y_nilCheck rfl) ?_
                  refine wm_g rfl rfl (y_fieldAddr_adr F83_1 rfl) ?_
                  refine wm_same 72 (vJs (⟨p72.1, p72.2, sl.xs ++ [j]⟩ : Sl Jb)) rfl (by simp) ?_
                  first | refine wm_u3 rfl (yu_storeSl [] (e := 83) T49 rfl rfl rfl rfl rfl (by simp [rows_length encW_len]; omega)) ?_ | refine wm_u3 rfl (yu_storeSl [_] (e := 83) T49 rfl rfl rfl rfl rfl (by simp [rows_length encW_len]; omega)) ?_ | refine wm_u3 rfl (yu_storeSl [_, _] (e := 83) T49 rfl rfl rfl rfl rfl (by simp [rows_length encW_len]; omega)) ?_ | refine wm_u3 rfl (yu_storeSl [_, _, _] (e := 83) T49 rfl rfl rfl rfl rfl (by simp [rows_length encW_len]; omega)) ?_ | refine wm_u3 rfl (yu_storeSl [_, _, _, _] (e := 83) T49 rfl rfl rfl rfl rfl (by simp [rows_length encW_len]; omega)) ?_ | refine wm_u3 rfl (yu_storeSl [_, _, _, _, _] (e := 83) T49 rfl rfl rfl rfl rfl (by simp [rows_length encW_len]; omega)) ?_ | refine wm_u3 rfl (yu_storeSl [_, _, _, _, _, _] (e := 83) T49 rfl rfl rfl rfl rfl (by simp [rows_length encW_len]; omega)) ?_ | refine wm_u3 rfl (yu_storeSl [_, _, _, _, _, _, _] (e := 83) T49 rfl rfl rfl rfl rfl (by simp [rows_length encW_len]; omega)) ?_ | refine wm_u3 rfl (yu_storeSl [_, _, _, _, _, _, _, _] (e := 83) T49 rfl rfl rfl rfl rfl (by simp [rows_length encW_len]; omega)) ?_
                  refine wm_nil ?_
                  refine all_wq ?_
                  refine wq_block_normal ?_
                  refine wq_then ?_
                  refine wc_region ?_
                  refine wl_y rfl (y_move rfl) ?_
                  refine wl_y rfl (y_add rfl rfl (by omega)) ?_
                  refine wl_y rfl (y_assign rfl) ?_
                  refine wl_nil ?_
                  exact wq_round (k + 1, rest RI x55, ws.set i (wk, (⟨p72.1, p72.2, sl.xs ++ [j]⟩ : Sl Jb))) (by simp only; omega) ⟨by simp only; omega, hX.take hk1 hq2.q hx55 hp hzj rfl⟩ ⟨rfl, rfl, rfl, rfl, rfl, rfl, trivial⟩ (fun w hw => by
                    rw [rows_setOne encW_len (x' := (wk, (⟨p72.1, p72.2, sl.xs ++ [j]⟩ : Sl Jb))) hp (by omega) rfl] at hw
                    have h9 : Hp w0 K (slc 30 3 p72.1 (sl.xs.length + 1) p72.2 (sl.xs.flatMap encJ ++ encJ j) :: [rowsA (ws.eraseIdx i), blk b (.cells (rfC x) 54 (0, 0)), slc 30 3 x.ja x.jobs.length x.jc (x.jobs.flatMap encJ), refA x.qb s.age (rest RI x55), slc 83 2 x.wa x.ws.length x.wc ((ws.set i (wk, (⟨p72.1, p72.2, sl.xs ++ [j]⟩ : Sl Jb))).flatMap encW), rtA x.tb s.t.ref, blk b6 (.cells (encL noL).toArray 36 (0, 0))]) w := hw.sub (by (repeat (first | exact pt_nil | apply pt0 | apply pt1 | apply pt2 | apply pt3 | apply pt4 | apply pt5 | apply pt6 | apply pt7 | apply pt8 | apply pt9 | apply pt10 | apply pt11 | apply pt12 | apply pt13 | apply pt14 | apply pt15 | apply pt16 | apply pt17)))
                    have h8 := rows_inI hp (p' := (wk, (⟨p72.1, p72.2, sl.xs ++ [j]⟩ : Sl Jb))) (Hp.mono_at [] h9 (fun g hg => by simp only [rowA, List.length_append, List.length_singleton, List.flatMap_append, List.flatMap_singleton]; exact hg))
                    exact h8.sub (by (repeat (first | exact pt_nil | apply pt0 | apply pt1 | apply pt2 | apply pt3 | apply pt4 | apply pt5 | apply pt6 | apply pt7 | apply pt8 | apply pt9 | apply pt10 | apply pt11 | apply pt12 | apply pt13 | apply pt14 | apply pt15 | apply pt16 | apply pt17))))
              ·
                first | replace hc47 := of_decide_eq_true hc47 | replace hc47 := of_decide_eq_false hc47
                refine wc_exit ?_
                refine wq_then_exit (wq_then_exit (wq_block_exit ?_))
                obtain rfl : k = 3 := by omega
                exact wq_cut (RI, ws) (by rw [first_fetch (hrow0.trans (List.eq_nil_of_length_eq_zero (by omega)))]; exact hX) ⟨rfl, rfl, rfl, rfl, rfl, trivial⟩ (fun w hw => hw)
          ·
            first | replace hc45 := of_decide_eq_true hc45 | replace hc45 := of_decide_eq_false hc45
            refine wc_skip ?_
            exact wq_cut (x.RI, x.ws) (by rw [first_same (fun e => by rw [hrow0] at e; rw [e] at hc45; exact hc45 rfl)]; exact hX0) ⟨rfl, rfl, rfl, rfl, rfl, trivial⟩ (fun w hw => hw.sub (by (repeat (first | exact pt_nil | apply pt0 | apply pt1 | apply pt2 | apply pt3 | apply pt4 | apply pt5 | apply pt6 | apply pt7 | apply pt8 | apply pt9 | apply pt10 | apply pt11 | apply pt12 | apply pt13 | apply pt14 | apply pt15 | apply pt16 | apply pt17))))
        · intro y hX
          obtain ⟨RI, ws⟩ := y
          have hX : NX (s.first wk) x i wk RI ws := hX
          have hk1 : Keyed1 (s.first wk).rows := by unfold Keyed1; rw [hlk.keys]; exact hI.keyed
          obtain ⟨sl, hp⟩ := hX.at_
          have hil2 := (List.getElem?_eq_some_iff.1 hp).1
          have hXl := hX.l
          have hsl1 := hX.r.row hk1 hp
          have hsl2 := first_len s wk wk
          have hsl3 := hI.row_len wk
          rw [hsl1] at hsl2
          refine all_wc ?_
          refine wc_seq ?_
          refine wc_seq ?_
          refine wc_region ?_
          refine wl_y rfl (y_move rfl) ?_
          refine wl_y rfl (y_nilCheck rfl) ?_
          refine wl_y rfl (y_fieldAddr_adr F83_1 rfl) ?_
          refine wl_y rfl (y_load NA49 rfl (by first | exact cell_own [] (rows_get encW_len hp rfl) | exact cell_own [_] (rows_get encW_len hp rfl) | exact cell_own [_, _] (rows_get encW_len hp rfl) | exact cell_own [_, _, _] (rows_get encW_len hp rfl) | exact cell_own [_, _, _, _] (rows_get encW_len hp rfl) | exact cell_own [_, _, _, _, _] (rows_get encW_len hp rfl) | exact cell_own [_, _, _, _, _, _] (rows_get encW_len hp rfl) | exact cell_own [_, _, _, _, _, _, _] (rows_get encW_len hp rfl) | exact cell_own [_, _, _, _, _, _, _, _] (rows_get encW_len hp rfl))) ?_
          refine wl_same 78 (vJs sl) rfl rfl ?_
          refine wl_y rfl (y_lenSl Try.underlying49 rfl) ?_
          refine wl_y rfl (y_gtr rfl rfl) ?_
          refine wl_nil ?_
          refine wq_then ?_
          refine wc_cond rfl (fun hc80 => ?_) (fun hc80 => ?_)
          ·
            first | replace hc80 := of_decide_eq_true hc80 | replace hc80 := of_decide_eq_false hc80
            refine wc_seq ?_
            refine wc_region ?_
            obtain ⟨j, l, hjl⟩ : ∃ j l, sl.xs = j :: l := by
              cases he : sl.xs with
              | nil => rw [he] at hc80; exact absurd hc80 (by decide)
              | cons j l => exact ⟨j, l, rfl⟩
            have hj0 : sl.xs[0]? = some j := by rw [hjl]; rfl
            have hln : sl.xs.length = l.length + 1 := by rw [hjl]; rfl
            have hnx := next_first hg htb hqk (hsl1.trans hjl)
            have hjm : j ∈ s.jobs := pick_mem hI hq hwk (pick_first (hsl1.trans hjl))
            refine wl_world (S' := Hp w0 K [blk b (.cells (rfC x) 54 (0, 0)), slc 30 3 x.ja x.jobs.length x.jc (x.jobs.flatMap encJ), refA x.qb s.age RI, slc 83 2 x.wa x.ws.length x.wc (ws.flatMap encW), slc 30 3 sl.a sl.xs.length sl.cap (sl.xs.flatMap encJ), rowsA (ws.eraseIdx i), rtA x.tb s.t.ref, blk b6 (.cells (encL noL).toArray 36 (0, 0))]) (fun w hw => (rows_outI hp (hw.sub (by (repeat (first | exact pt_nil | apply pt0 | apply pt1 | apply pt2 | apply pt3 | apply pt4 | apply pt5 | apply pt6 | apply pt7 | apply pt8 | apply pt9 | apply pt10 | apply pt11 | apply pt12 | apply pt13 | apply pt14 | apply pt15 | apply pt16 | apply pt17))) : Hp w0 K (rowsA ws :: [blk b (.cells (rfC x) 54 (0, 0)), slc 30 3 x.ja x.jobs.length x.jc (x.jobs.flatMap encJ), refA x.qb s.age RI, slc 83 2 x.wa x.ws.length x.wc (ws.flatMap encW), rtA x.tb s.t.ref, blk b6 (.cells (encL noL).toArray 36 (0, 0))]) w)).sub (by (repeat (first | exact pt_nil | apply pt0 | apply pt1 | apply pt2 | apply pt3 | apply pt4 | apply pt5 | apply pt6 | apply pt7 | apply pt8 | apply pt9 | apply pt10 | apply pt11 | apply pt12 | apply pt13 | apply pt14 | apply pt15 | apply pt16 | apply pt17)))) ?_
            refine wl_have (p := sl.xs.length ≤ sl.cap) (by first | exact fun w hw => hw.slc_le [] | exact fun w hw => hw.slc_le [_] | exact fun w hw => hw.slc_le [_, _] | exact fun w hw => hw.slc_le [_, _, _] | exact fun w hw => hw.slc_le [_, _, _, _] | exact fun w hw => hw.slc_le [_, _, _, _, _] | exact fun w hw => hw.slc_le [_, _, _, _, _, _] | exact fun w hw => hw.slc_le [_, _, _, _, _, _, _] | exact fun w hw => hw.slc_le [_, _, _, _, _, _, _, _]) (fun hcap => ?_)
            refine wl_y rfl (y_move rfl) ?_
            refine wl_y rfl (y_nilCheck rfl) ?_
            refine wl_y rfl (y_fieldAddr_adr F83_1 rfl) ?_
            refine wl_y rfl (y_load NA49 rfl (by first | exact cell_own [] (rows_get encW_len hp rfl) | exact cell_own [_] (rows_get encW_len hp rfl) | exact cell_own [_, _] (rows_get encW_len hp rfl) | exact cell_own [_, _, _] (rows_get encW_len hp rfl) | exact cell_own [_, _, _, _] (rows_get encW_len hp rfl) | exact cell_own [_, _, _, _, _] (rows_get encW_len hp rfl) | exact cell_own [_, _, _, _, _, _] (rows_get encW_len hp rfl) | exact cell_own [_, _, _, _, _, _, _] (rows_get encW_len hp rfl) | exact cell_own [_, _, _, _, _, _, _, _] (rows_get encW_len hp rfl))) ?_
            refine wl_same 84 (vJs sl) rfl rfl ?_
            refine wl_y rfl (y_indexAddr (i := 0) Try.underlying49 T30 rfl rfl rfl (by omega) (by first | exact fun _ _ => hjs | exact fun _ _ => hws | exact fun _ _ => hos | exact fun w hw => hw.slc_isSome [] (by omega) | exact fun w hw => hw.slc_isSome [_] (by omega) | exact fun w hw => hw.slc_isSome [_, _] (by omega) | exact fun w hw => hw.slc_isSome [_, _, _] (by omega) | exact fun w hw => hw.slc_isSome [_, _, _, _] (by omega) | exact fun w hw => hw.slc_isSome [_, _, _, _, _] (by omega) | exact fun w hw => hw.slc_isSome [_, _, _, _, _, _] (by omega) | exact fun w hw => hw.slc_isSome [_, _, _, _, _, _, _] (by omega) | exact fun w hw => hw.slc_isSome [_, _, _, _, _, _, _, _] (by omega))) ?_
            refine wl_y rfl (y_loadAgg (l := encJ j) AG30 rfl rfl (by first | exact agg_own [] (fun i u h => rows_get (k := 0) encJ_len hj0 h) | exact agg_own [_] (fun i u h => rows_get (k := 0) encJ_len hj0 h) | exact agg_own [_, _] (fun i u h => rows_get (k := 0) encJ_len hj0 h) | exact agg_own [_, _, _] (fun i u h => rows_get (k := 0) encJ_len hj0 h) | exact agg_own [_, _, _, _] (fun i u h => rows_get (k := 0) encJ_len hj0 h) | exact agg_own [_, _, _, _, _] (fun i u h => rows_get (k := 0) encJ_len hj0 h) | exact agg_own [_, _, _, _, _, _] (fun i u h => rows_get (k := 0) encJ_len hj0 h) | exact agg_own [_, _, _, _, _, _, _] (fun i u h => rows_get (k := 0) encJ_len hj0 h) | exact agg_own [_, _, _, _, _, _, _, _] (fun i u h => rows_get (k := 0) encJ_len hj0 h))) ?_
            refine wl_w (fun _ _ => want_none) rfl (yw_alloc T30 rfl) (wl_ex fun b14 _ => ?_)
            first | refine wl_u (yu_storeAgg [] (l' := [_, _, _]) T30 rfl rfl rfl (by simp [Value.oneCell', encL, encJ]) rfl rfl) ?_ | refine wl_u (yu_storeAgg [_] (l' := [_, _, _]) T30 rfl rfl rfl (by simp [Value.oneCell', encL, encJ]) rfl rfl) ?_ | refine wl_u (yu_storeAgg [_, _] (l' := [_, _, _]) T30 rfl rfl rfl (by simp [Value.oneCell', encL, encJ]) rfl rfl) ?_ | refine wl_u (yu_storeAgg [_, _, _] (l' := [_, _, _]) T30 rfl rfl rfl (by simp [Value.oneCell', encL, encJ]) rfl rfl) ?_ | refine wl_u (yu_storeAgg [_, _, _, _] (l' := [_, _, _]) T30 rfl rfl rfl (by simp [Value.oneCell', encL, encJ]) rfl rfl) ?_ | refine wl_u (yu_storeAgg [_, _, _, _, _] (l' := [_, _, _]) T30 rfl rfl rfl (by simp [Value.oneCell', encL, encJ]) rfl rfl) ?_ | refine wl_u (yu_storeAgg [_, _, _, _, _, _] (l' := [_, _, _]) T30 rfl rfl rfl (by simp [Value.oneCell', encL, encJ]) rfl rfl) ?_ | refine wl_u (yu_storeAgg [_, _, _, _, _, _, _] (l' := [_, _, _]) T30 rfl rfl rfl (by simp [Value.oneCell', encL, encJ]) rfl rfl) ?_ | refine wl_u (yu_storeAgg [_, _, _, _, _, _, _, _] (l' := [_, _, _]) T30 rfl rfl rfl (by simp [Value.oneCell', encL, encJ]) rfl rfl) ?_
            refine wl_nil ?_
            refine wq_then ?_
            refine wc_seq ?_
            refine wc_region ?_
            refine wl_y rfl (y_move rfl) ?_
            refine wl_y rfl (y_move rfl) ?_
            refine wl_y rfl (y_nilCheck rfl) ?_
            refine wl_y rfl (y_fieldAddr_adr F83_1 rfl) ?_
            refine wl_y rfl (y_load NA49 rfl (by first | exact cell_own [] (rows_get encW_len hp rfl) | exact cell_own [_] (rows_get encW_len hp rfl) | exact cell_own [_, _] (rows_get encW_len hp rfl) | exact cell_own [_, _, _] (rows_get encW_len hp rfl) | exact cell_own [_, _, _, _] (rows_get encW_len hp rfl) | exact cell_own [_, _, _, _, _] (rows_get encW_len hp rfl) | exact cell_own [_, _, _, _, _, _] (rows_get encW_len hp rfl) | exact cell_own [_, _, _, _, _, _, _] (rows_get encW_len hp rfl) | exact cell_own [_, _, _, _, _, _, _, _] (rows_get encW_len hp rfl))) ?_
            refine wl_same 91 (vJs sl) rfl rfl ?_
            refine wl_y rfl (y_sliceSl (i := 1) (j := sl.xs.length) Try.underlying49 T30 rfl ⟨_, rfl, rfl⟩ rfl (by omega) hcap) ?_
            refine wl_same 92 (vJs (⟨cutAt sl.a 1 sl.cap 3, sl.cap - 1, l⟩ : Sl Jb)) rfl (by simp [hln]) ?_
            refine wl_y rfl (y_nilCheck rfl) ?_
            refine wl_y rfl (y_fieldAddr_adr F83_1 rfl) ?_
            first | refine wl_u (yu_storeSl [] (e := 83) T49 rfl rfl rfl rfl rfl (by simp [rows_length encW_len]; omega)) ?_ | refine wl_u (yu_storeSl [_] (e := 83) T49 rfl rfl rfl rfl rfl (by simp [rows_length encW_len]; omega)) ?_ | refine wl_u (yu_storeSl [_, _] (e := 83) T49 rfl rfl rfl rfl rfl (by simp [rows_length encW_len]; omega)) ?_ | refine wl_u (yu_storeSl [_, _, _] (e := 83) T49 rfl rfl rfl rfl rfl (by simp [rows_length encW_len]; omega)) ?_ | refine wl_u (yu_storeSl [_, _, _, _] (e := 83) T49 rfl rfl rfl rfl rfl (by simp [rows_length encW_len]; omega)) ?_ | refine wl_u (yu_storeSl [_, _, _, _, _] (e := 83) T49 rfl rfl rfl rfl rfl (by simp [rows_length encW_len]; omega)) ?_ | refine wl_u (yu_storeSl [_, _, _, _, _, _] (e := 83) T49 rfl rfl rfl rfl rfl (by simp [rows_length encW_len]; omega)) ?_ | refine wl_u (yu_storeSl [_, _, _, _, _, _, _] (e := 83) T49 rfl rfl rfl rfl rfl (by simp [rows_length encW_len]; omega)) ?_ | refine wl_u (yu_storeSl [_, _, _, _, _, _, _, _] (e := 83) T49 rfl rfl rfl rfl rfl (by simp [rows_length encW_len]; omega)) ?_
            refine wl_nil ?_
            refine wq_then ?_
            refine wc_seq ?_
            refine wc_mix (.q 0 0 (.q 1 0 (.q 2 0 (.q 3 1 (.q 4 1 (.q 5 0 (.q 6 0 (.w 7 2 (.q 8 0 (.q 9 0 (.w 10 2 (.q 11 0 .nil) .nil))) .nil)))))))) (fun _ => True) MO (by kernel_rfl) (Hp.drawless _ _ _) (fun _ _ => trivial) ?_
            refine wm_g rfl rfl (y_move rfl) ?_
            refine wm_g rfl rfl (y_nilCheck rfl) ?_
            refine wm_g rfl rfl (y_fieldAddr F54_3 rfl) ?_
            refine wm_l rfl rfl (y_load NA52 rfl (by first | exact cell_blk [] rfl | exact cell_blk [_] rfl | exact cell_blk [_, _] rfl | exact cell_blk [_, _, _] rfl | exact cell_blk [_, _, _, _] rfl | exact cell_blk [_, _, _, _, _] rfl | exact cell_blk [_, _, _, _, _, _] rfl | exact cell_blk [_, _, _, _, _, _, _] rfl | exact cell_blk [_, _, _, _, _, _, _, _] rfl | exact cellR_blk (by assumption) rfl)) ?_
            refine wm_l rfl rfl (y_loadAgg (l := [_, _, _]) AG30 rfl rfl (by first | exact cells_blk [] rfl | exact cells_blk [_] rfl | exact cells_blk [_, _] rfl | exact cells_blk [_, _, _] rfl | exact cells_blk [_, _, _, _] rfl | exact cells_blk [_, _, _, _, _] rfl | exact cells_blk [_, _, _, _, _, _] rfl | exact cells_blk [_, _, _, _, _, _, _] rfl | exact cells_blk [_, _, _, _, _, _, _, _] rfl | exact cellsR_blk (by assumption) rfl)) ?_
            refine wm_g rfl rfl (y_move rfl) ?_
            refine wm_g rfl rfl (y_move rfl) ?_
            refine wm_c rfl rfl (fun _ _ _ => trivial) (yc_spec (fst := []) (cap := []) _ FN45 (rgrant_s x.tb s.t j wk now (hI.rok h1 h2 hq) hI.good (hI.len j hjm)) rfl rfl rfl (by (repeat (first | exact pt_nil | apply pt0 | apply pt1 | apply pt2 | apply pt3 | apply pt4 | apply pt5 | apply pt6 | apply pt7 | apply pt8 | apply pt9 | apply pt10 | apply pt11 | apply pt12 | apply pt13 | apply pt14 | apply pt15 | apply pt16 | apply pt17))) (by (repeat (first | exact ro_nil | exact ro_rest (by assumption) | refine ro_cons (by first | exact .inl (by assumption) | exact ro_f0 (fun _ h => h) | exact ro_f0 (fun _ => slc_rsl) | exact ro_f1 (fun _ h => h) | exact ro_f1 (fun _ => slc_rsl) | exact ro_f2 (fun _ h => h) | exact ro_f2 (fun _ => slc_rsl) | exact ro_f3 (fun _ h => h) | exact ro_f3 (fun _ => slc_rsl) | exact ro_f4 (fun _ h => h) | exact ro_f4 (fun _ => slc_rsl) | exact ro_f5 (fun _ h => h) | exact ro_f5 (fun _ => slc_rsl) | exact ro_f6 (fun _ h => h) | exact ro_f6 (fun _ => slc_rsl)) ?_)))) (wm_ex fun x102 hx102 => ?_)
            refine wm_g rfl rfl (y_extract rfl rfl) ?_
            refine wm_g rfl rfl (y_extract rfl rfl) ?_
            first | refine wm_u rfl (fun _ _ => trivial) (yu_storeAgg [] (l' := [_, _, _, _, _, _]) T36 rfl rfl rfl (by simp [Value.oneCell', encL, encJ]) rfl rfl) ?_ | refine wm_u rfl (fun _ _ => trivial) (yu_storeAgg [_] (l' := [_, _, _, _, _, _]) T36 rfl rfl rfl (by simp [Value.oneCell', encL, encJ]) rfl rfl) ?_ | refine wm_u rfl (fun _ _ => trivial) (yu_storeAgg [_, _] (l' := [_, _, _, _, _, _]) T36 rfl rfl rfl (by simp [Value.oneCell', encL, encJ]) rfl rfl) ?_ | refine wm_u rfl (fun _ _ => trivial) (yu_storeAgg [_, _, _] (l' := [_, _, _, _, _, _]) T36 rfl rfl rfl (by simp [Value.oneCell', encL, encJ]) rfl rfl) ?_ | refine wm_u rfl (fun _ _ => trivial) (yu_storeAgg [_, _, _, _] (l' := [_, _, _, _, _, _]) T36 rfl rfl rfl (by simp [Value.oneCell', encL, encJ]) rfl rfl) ?_ | refine wm_u rfl (fun _ _ => trivial) (yu_storeAgg [_, _, _, _, _] (l' := [_, _, _, _, _, _]) T36 rfl rfl rfl (by simp [Value.oneCell', encL, encJ]) rfl rfl) ?_ | refine wm_u rfl (fun _ _ => trivial) (yu_storeAgg [_, _, _, _, _, _] (l' := [_, _, _, _, _, _]) T36 rfl rfl rfl (by simp [Value.oneCell', encL, encJ]) rfl rfl) ?_ | refine wm_u rfl (fun _ _ => trivial) (yu_storeAgg [_, _, _, _, _, _, _] (l' := [_, _, _, _, _, _]) T36 rfl rfl rfl (by simp [Value.oneCell', encL, encJ]) rfl rfl) ?_ | refine wm_u rfl (fun _ _ => trivial) (yu_storeAgg [_, _, _, _, _, _, _, _] (l' := [_, _, _, _, _, _]) T36 rfl rfl rfl (by simp [Value.oneCell', encL, encJ]) rfl rfl) ?_
            refine wm_g rfl rfl (y_assign rfl) ?_
            refine wm_nil ?_
            refine all_wq ?_
            refine wq_then ?_
            refine wc_ret ?_
            refine wq_then_ret ?_
            refine wq_retC2 (l := [_, _, _, _, _, _]) AG36 rfl rfl rfl rfl (by first | exact cells_blk [] rfl | exact cells_blk [_] rfl | exact cells_blk [_, _] rfl | exact cells_blk [_, _, _] rfl | exact cells_blk [_, _, _, _] rfl | exact cells_blk [_, _, _, _, _] rfl | exact cells_blk [_, _, _, _, _, _] rfl | exact cells_blk [_, _, _, _, _, _, _] rfl | exact cells_blk [_, _, _, _, _, _, _, _] rfl) (fun w hw => ?_)
            rw [rows_setOne encW_len (x' := (wk, (⟨cutAt sl.a 1 sl.cap 3, sl.cap - 1, l⟩ : Sl Jb))) hp (by omega) rfl] at hw
            have h9 : Hp w0 K (slc 30 3 sl.a sl.xs.length sl.cap (sl.xs.flatMap encJ) :: [rowsA (ws.eraseIdx i), blk b (.cells (rfC x) 54 (0, 0)), slc 30 3 x.ja x.jobs.length x.jc (x.jobs.flatMap encJ), refA x.qb s.age RI, slc 83 2 x.wa x.ws.length x.wc ((ws.set i (wk, (⟨cutAt sl.a 1 sl.cap 3, sl.cap - 1, l⟩ : Sl Jb))).flatMap encW), rtA x.tb (s.t.grant j wk now).1.ref]) w := hw.sub (by (repeat (first | exact pt_nil | apply pt0 | apply pt1 | apply pt2 | apply pt3 | apply pt4 | apply pt5 | apply pt6 | apply pt7 | apply pt8 | apply pt9 | apply pt10 | apply pt11 | apply pt12 | apply pt13 | apply pt14 | apply pt15 | apply pt16 | apply pt17)))
            have h8 := rows_inI hp (p' := (wk, (⟨cutAt sl.a 1 sl.cap 3, sl.cap - 1, l⟩ : Sl Jb))) (Hp.mono_at [] h9 (fun g hg => by have h3 := slc_cut 1 hg (by omega); rw [rows_drop encJ_len _ (by omega), List.drop_one, hln, hjl] at h3; exact h3))
            rw [hnx]
            exact ⟨(), trivial, rfl, rf_shutW (hX.r.turn (s' := { (s.first wk) with rows := mput (s.first wk).rows wk l, t := (s.t.grant j wk now).1 }) rfl rfl (set_up hX.r.up hp) (hX.r.put hk1 hp)) (by rw [List.length_set]; exact hX.l) hlk.age rfl (As := []) (h8.sub (by (repeat (first | exact pt_nil | apply pt0 | apply pt1 | apply pt2 | apply pt3 | apply pt4 | apply pt5 | apply pt6 | apply pt7 | apply pt8 | apply pt9 | apply pt10 | apply pt11 | apply pt12 | apply pt13 | apply pt14 | apply pt15 | apply pt16 | apply pt17))))⟩
          ·
            first | replace hc80 := of_decide_eq_true hc80 | replace hc80 := of_decide_eq_false hc80
            refine wc_skip ?_
            refine wq_then ?_
            refine wc_seq ?_
            refine wc_region ?_
            refine wl_y rfl (y_assign rfl) ?_
            refine wl_nil ?_
            refine wq_then ?_
            refine wc_seq ?_
            refine wc_seq ?_
            refine wc_region ?_
            refine wl_y rfl (y_assign rfl) ?_
            refine wl_nil ?_
            refine wq_then ?_
            refine wc_block ?_
            refine wc_loop (α := Nat × Option Nat) (fun y => y.1 ≤ ws.length ∧ BestW ws y.1 y.2) [(0, _), (1, _), (2, _), (6, _)] (fun y => [(15, vI (bst y.2)), (16, vI y.1)]) (fun y => Hp w0 K [blk b (.cells (rfC x) 54 (0, 0)), slc 30 3 x.ja x.jobs.length x.jc (x.jobs.flatMap encJ), refA x.qb s.age RI, slc 83 2 x.wa x.ws.length x.wc (ws.flatMap encW), rowsA ws, rtA x.tb s.t.ref, blk b6 (.cells (encL noL).toArray 36 (0, 0))]) (fun y => ws.length - y.1) (0, none) ?_ ⟨rfl, rfl, rfl, rfl, rfl, rfl, trivial⟩ ?_ ?_
            · exact ⟨Nat.zero_le _, fun m _ hm => absurd hm (Nat.not_lt_zero _)⟩
            · exact fun w hw => hw.sub (by (repeat (first | exact pt_nil | apply pt0 | apply pt1 | apply pt2 | apply pt3 | apply pt4 | apply pt5 | apply pt6 | apply pt7 | apply pt8 | apply pt9 | apply pt10 | apply pt11 | apply pt12 | apply pt13 | apply pt14 | apply pt15 | apply pt16 | apply pt17)))
            · have hrow1 : (s.first wk).row wk = [] := by rw [hsl1]; exact List.eq_nil_of_length_eq_zero (by omega)
              rintro ⟨c, bo⟩ ⟨hcl, hB⟩; simp only at hcl hB
              refine wc_same 16 (vI c) rfl rfl ?_
              refine wc_same 15 (vI (bst bo)) rfl rfl ?_
              refine wc_seq ?_
              refine wc_seq ?_
              refine wc_region ?_
              refine wl_y rfl (y_move rfl) ?_
              refine wl_y rfl (y_move rfl) ?_
              refine wl_y rfl (y_nilCheck rfl) ?_
              refine wl_y rfl (y_fieldAddr F54_2 rfl) ?_
              refine wl_y rfl (y_load NA51 rfl (by first | exact cell_blk [] rfl | exact cell_blk [_] rfl | exact cell_blk [_, _] rfl | exact cell_blk [_, _, _] rfl | exact cell_blk [_, _, _, _] rfl | exact cell_blk [_, _, _, _, _] rfl | exact cell_blk [_, _, _, _, _, _] rfl | exact cell_blk [_, _, _, _, _, _, _] rfl | exact cell_blk [_, _, _, _, _, _, _, _] rfl | exact cellR_blk (by assumption) rfl)) ?_
              refine wl_y rfl (y_lenSl Try.underlying51 rfl) ?_
              refine wl_y rfl (y_lss rfl rfl) ?_
              refine wl_nil ?_
              refine wq_then ?_
              refine wc_cond rfl (fun hc111 => ?_) (fun hc111 => ?_)
              ·
                first | replace hc111 := of_decide_eq_true hc111 | replace hc111 := of_decide_eq_false hc111
                refine wc_skip ?_
                refine wq_then ?_
                refine wc_seq ?_
                refine wc_block ?_
                refine wc_seq ?_
                refine wc_quiet MO (by kernel_rfl) (Hp.drawless _ _ _) ?_
                rcases bo with _ | v
                ·
                  obtain ⟨r, hr⟩ : ∃ r, ws[c]? = some r := ⟨_, List.getElem?_eq_getElem (by omega)⟩
                  refine wt_y rfl (y_move rfl) ?_
                  refine wt_y rfl (y_nilCheck rfl) ?_
                  refine wt_y rfl (y_fieldAddr F54_2 rfl) ?_
                  refine wt_y rfl (y_load NA51 rfl (by first | exact cell_blk [] rfl | exact cell_blk [_] rfl | exact cell_blk [_, _] rfl | exact cell_blk [_, _, _] rfl | exact cell_blk [_, _, _, _] rfl | exact cell_blk [_, _, _, _, _] rfl | exact cell_blk [_, _, _, _, _, _] rfl | exact cell_blk [_, _, _, _, _, _, _] rfl | exact cell_blk [_, _, _, _, _, _, _, _] rfl | exact cellR_blk (by assumption) rfl)) ?_
                  refine wt_y rfl (y_move rfl) ?_
                  refine wt_y rfl (y_indexAddr (i := c) Try.underlying51 T83 rfl rfl rfl (by omega) (by first | exact fun _ _ => hjs | exact fun _ _ => hws | exact fun _ _ => hos | exact fun w hw => hw.slc_isSome [] (by omega) | exact fun w hw => hw.slc_isSome [_] (by omega) | exact fun w hw => hw.slc_isSome [_, _] (by omega) | exact fun w hw => hw.slc_isSome [_, _, _] (by omega) | exact fun w hw => hw.slc_isSome [_, _, _, _] (by omega) | exact fun w hw => hw.slc_isSome [_, _, _, _, _] (by omega) | exact fun w hw => hw.slc_isSome [_, _, _, _, _, _] (by omega) | exact fun w hw => hw.slc_isSome [_, _, _, _, _, _, _] (by omega) | exact fun w hw => hw.slc_isSome [_, _, _, _, _, _, _, _] (by omega))) ?_
                  refine wt_y rfl (y_fieldAddr_adr F83_1 rfl) ?_
                  refine wt_y rfl (y_load NA49 rfl (by first | exact cell_own [] (rows_get encW_len hr rfl) | exact cell_own [_] (rows_get encW_len hr rfl) | exact cell_own [_, _] (rows_get encW_len hr rfl) | exact cell_own [_, _, _] (rows_get encW_len hr rfl) | exact cell_own [_, _, _, _] (rows_get encW_len hr rfl) | exact cell_own [_, _, _, _, _] (rows_get encW_len hr rfl) | exact cell_own [_, _, _, _, _, _] (rows_get encW_len hr rfl) | exact cell_own [_, _, _, _, _, _, _] (rows_get encW_len hr rfl) | exact cell_own [_, _, _, _, _, _, _, _] (rows_get encW_len hr rfl))) ?_
                  refine wt_y rfl (y_lenSl Try.underlying49 rfl) ?_
                  refine wt_y rfl (y_gtr rfl rfl) ?_
                  refine wt_y rfl (y_move rfl) ?_
                  refine wt_case 124 rfl (fun hg124 => ?_) (fun hg124 => ?_)
                  ·
                    first | replace hg124 := of_decide_eq_true hg124 | replace hg124 := of_decide_eq_false hg124
                    refine wt_yg rfl rfl rfl (y_move rfl) ?_
                    refine wt_yg rfl rfl rfl (y_lss rfl rfl) ?_
                    refine wt_yg rfl rfl rfl (y_move rfl) ?_
                    refine wt_known 127 true rfl (by decide) ?_
                    refine wt_sk rfl rfl rfl rfl ?_
                    refine wt_sk rfl rfl rfl rfl ?_
                    refine wt_sk rfl rfl rfl rfl ?_
                    refine wt_sk rfl rfl rfl rfl ?_
                    refine wt_sk rfl rfl rfl rfl ?_
                    refine wt_sk rfl rfl rfl rfl ?_
                    refine wt_sk rfl rfl rfl rfl ?_
                    refine wt_sk rfl rfl rfl rfl ?_
                    refine wt_sk rfl rfl rfl rfl ?_
                    refine wt_sk rfl rfl rfl rfl ?_
                    refine wt_sk rfl rfl rfl rfl ?_
                    refine wt_sk rfl rfl rfl rfl ?_
                    refine wt_sk rfl rfl rfl rfl ?_
                    refine wt_sk rfl rfl rfl rfl ?_
                    refine wt_sk rfl rfl rfl rfl ?_
                    refine wt_sk rfl rfl rfl rfl ?_
                    refine wt_sk rfl rfl rfl rfl ?_
                    refine wt_sk rfl rfl rfl rfl ?_
                    refine wt_sk rfl rfl rfl rfl ?_
                    refine wt_yg rfl rfl rfl (y_pick_t rfl rfl) ?_
                    refine wt_y rfl (y_pick_t rfl rfl) ?_
                    refine wt_nil ?_
                    refine wq_then ?_
                    refine wc_cond_true rfl ?_
                    refine wc_region ?_
                    refine wl_y rfl (y_move rfl) ?_
                    refine wl_y rfl (y_assign rfl) ?_
                    refine wl_nil ?_
                    refine wq_block_normal ?_
                    refine wq_then ?_
                    refine wc_region ?_
                    refine wl_y rfl (y_move rfl) ?_
                    refine wl_y rfl (y_add rfl rfl (by omega)) ?_
                    refine wl_y rfl (y_assign rfl) ?_
                    refine wl_nil ?_
                    exact wq_round (c + 1, some c) (by simp only; omega) ⟨by simp only; omega, bestW_one hB hr (by omega)⟩ ⟨rfl, rfl, rfl, rfl, rfl, rfl, trivial⟩ (fun w hw => hw)
                  ·
                    first | replace hg124 := of_decide_eq_true hg124 | replace hg124 := of_decide_eq_false hg124
                    refine wt_sk rfl rfl rfl rfl ?_
                    refine wt_sk rfl rfl rfl rfl ?_
                    refine wt_sk rfl rfl rfl rfl ?_
                    refine wt_sku rfl rfl rfl ?_
                    refine wt_sku rfl rfl rfl ?_
                    refine wt_sku rfl rfl rfl ?_
                    refine wt_sku rfl rfl rfl ?_
                    refine wt_sku rfl rfl rfl ?_
                    refine wt_sku rfl rfl rfl ?_
                    refine wt_sku rfl rfl rfl ?_
                    refine wt_sku rfl rfl rfl ?_
                    refine wt_sku rfl rfl rfl ?_
                    refine wt_sku rfl rfl rfl ?_
                    refine wt_sku rfl rfl rfl ?_
                    refine wt_sku rfl rfl rfl ?_
                    refine wt_sku rfl rfl rfl ?_
                    refine wt_sku rfl rfl rfl ?_
                    refine wt_sku rfl rfl rfl ?_
                    refine wt_sku rfl rfl rfl ?_
                    refine wt_sku rfl rfl rfl ?_
                    refine wt_sku rfl rfl rfl ?_
                    refine wt_sku rfl rfl rfl ?_
                    refine wt_sk rfl rfl rfl rfl ?_
                    refine wt_y rfl (y_pick_f rfl rfl) ?_
                    refine wt_nil ?_
                    refine wq_then ?_
                    refine wc_cond_false rfl ?_
                    refine wc_skip ?_
                    refine wq_block_normal ?_
                    refine wq_then ?_
                    refine wc_region ?_
                    refine wl_y rfl (y_move rfl) ?_
                    refine wl_y rfl (y_add rfl rfl (by omega)) ?_
                    refine wl_y rfl (y_assign rfl) ?_
                    refine wl_nil ?_
                    exact wq_round (c + 1, none) (by simp only; omega) ⟨by simp only; omega, bestW_none hB hr (by omega)⟩ ⟨rfl, rfl, rfl, rfl, rfl, rfl, trivial⟩ (fun w hw => hw)
                ·
                  obtain ⟨r, hr⟩ : ∃ r, ws[c]? = some r := ⟨_, List.getElem?_eq_getElem (by omega)⟩
                  obtain ⟨p, hpv, hvc, _, _⟩ := id hB
                  refine wt_same 15 (vI (v : Nat)) rfl rfl ?_
                  refine wt_y rfl (y_move rfl) ?_
                  refine wt_y rfl (y_nilCheck rfl) ?_
                  refine wt_y rfl (y_fieldAddr F54_2 rfl) ?_
                  refine wt_y rfl (y_load NA51 rfl (by first | exact cell_blk [] rfl | exact cell_blk [_] rfl | exact cell_blk [_, _] rfl | exact cell_blk [_, _, _] rfl | exact cell_blk [_, _, _, _] rfl | exact cell_blk [_, _, _, _, _] rfl | exact cell_blk [_, _, _, _, _, _] rfl | exact cell_blk [_, _, _, _, _, _, _] rfl | exact cell_blk [_, _, _, _, _, _, _, _] rfl | exact cellR_blk (by assumption) rfl)) ?_
                  refine wt_y rfl (y_move rfl) ?_
                  refine wt_y rfl (y_indexAddr (i := c) Try.underlying51 T83 rfl rfl rfl (by omega) (by first | exact fun _ _ => hjs | exact fun _ _ => hws | exact fun _ _ => hos | exact fun w hw => hw.slc_isSome [] (by omega) | exact fun w hw => hw.slc_isSome [_] (by omega) | exact fun w hw => hw.slc_isSome [_, _] (by omega) | exact fun w hw => hw.slc_isSome [_, _, _] (by omega) | exact fun w hw => hw.slc_isSome [_, _, _, _] (by omega) | exact fun w hw => hw.slc_isSome [_, _, _, _, _] (by omega) | exact fun w hw => hw.slc_isSome [_, _, _, _, _, _] (by omega) | exact fun w hw => hw.slc_isSome [_, _, _, _, _, _, _] (by omega) | exact fun w hw => hw.slc_isSome [_, _, _, _, _, _, _, _] (by omega))) ?_
                  refine wt_y rfl (y_fieldAddr_adr F83_1 rfl) ?_
                  refine wt_y rfl (y_load NA49 rfl (by first | exact cell_own [] (rows_get encW_len hr rfl) | exact cell_own [_] (rows_get encW_len hr rfl) | exact cell_own [_, _] (rows_get encW_len hr rfl) | exact cell_own [_, _, _] (rows_get encW_len hr rfl) | exact cell_own [_, _, _, _] (rows_get encW_len hr rfl) | exact cell_own [_, _, _, _, _] (rows_get encW_len hr rfl) | exact cell_own [_, _, _, _, _, _] (rows_get encW_len hr rfl) | exact cell_own [_, _, _, _, _, _, _] (rows_get encW_len hr rfl) | exact cell_own [_, _, _, _, _, _, _, _] (rows_get encW_len hr rfl))) ?_
                  refine wt_y rfl (y_lenSl Try.underlying49 rfl) ?_
                  refine wt_y rfl (y_gtr rfl rfl) ?_
                  refine wt_y rfl (y_move rfl) ?_
                  refine wt_case 124 rfl (fun hg124 => ?_) (fun hg124 => ?_)
                  ·
                    first | replace hg124 := of_decide_eq_true hg124 | replace hg124 := of_decide_eq_false hg124
                    refine wt_yg rfl rfl rfl (y_move rfl) ?_
                    refine wt_yg rfl rfl rfl (y_lss rfl rfl) ?_
                    refine wt_yg rfl rfl rfl (y_move rfl) ?_
                    refine wt_known 127 false rfl (decide_eq_false (show ¬ ((v : Nat) : Int) < 0 by omega)) ?_
                    refine wt_yg rfl rfl rfl (y_move rfl) ?_
                    refine wt_yg rfl rfl rfl (y_nilCheck rfl) ?_
                    refine wt_yg rfl rfl rfl (y_fieldAddr F54_2 rfl) ?_
                    refine wt_yg rfl rfl rfl (y_load NA51 rfl (by first | exact cell_blk [] rfl | exact cell_blk [_] rfl | exact cell_blk [_, _] rfl | exact cell_blk [_, _, _] rfl | exact cell_blk [_, _, _, _] rfl | exact cell_blk [_, _, _, _, _] rfl | exact cell_blk [_, _, _, _, _, _] rfl | exact cell_blk [_, _, _, _, _, _, _] rfl | exact cell_blk [_, _, _, _, _, _, _, _] rfl | exact cellR_blk (by assumption) rfl)) ?_
                    refine wt_yg rfl rfl rfl (y_move rfl) ?_
                    refine wt_yg rfl rfl rfl (y_indexAddr (i := c) Try.underlying51 T83 rfl rfl rfl (by omega) (by first | exact fun _ _ => hjs | exact fun _ _ => hws | exact fun _ _ => hos | exact fun w hw => hw.slc_isSome [] (by omega) | exact fun w hw => hw.slc_isSome [_] (by omega) | exact fun w hw => hw.slc_isSome [_, _] (by omega) | exact fun w hw => hw.slc_isSome [_, _, _] (by omega) | exact fun w hw => hw.slc_isSome [_, _, _, _] (by omega) | exact fun w hw => hw.slc_isSome [_, _, _, _, _] (by omega) | exact fun w hw => hw.slc_isSome [_, _, _, _, _, _] (by omega) | exact fun w hw => hw.slc_isSome [_, _, _, _, _, _, _] (by omega) | exact fun w hw => hw.slc_isSome [_, _, _, _, _, _, _, _] (by omega))) ?_
                    refine wt_yg rfl rfl rfl (y_fieldAddr_adr F83_1 rfl) ?_
                    refine wt_yg rfl rfl rfl (y_load NA49 rfl (by first | exact cell_own [] (rows_get encW_len hr rfl) | exact cell_own [_] (rows_get encW_len hr rfl) | exact cell_own [_, _] (rows_get encW_len hr rfl) | exact cell_own [_, _, _] (rows_get encW_len hr rfl) | exact cell_own [_, _, _, _] (rows_get encW_len hr rfl) | exact cell_own [_, _, _, _, _] (rows_get encW_len hr rfl) | exact cell_own [_, _, _, _, _, _] (rows_get encW_len hr rfl) | exact cell_own [_, _, _, _, _, _, _] (rows_get encW_len hr rfl) | exact cell_own [_, _, _, _, _, _, _, _] (rows_get encW_len hr rfl))) ?_
                    refine wt_yg rfl rfl rfl (y_lenSl Try.underlying49 rfl) ?_
                    refine wt_yg rfl rfl rfl (y_move rfl) ?_
                    refine wt_yg rfl rfl rfl (y_nilCheck rfl) ?_
                    refine wt_yg rfl rfl rfl (y_fieldAddr F54_2 rfl) ?_
                    refine wt_yg rfl rfl rfl (y_load NA51 rfl (by first | exact cell_blk [] rfl | exact cell_blk [_] rfl | exact cell_blk [_, _] rfl | exact cell_blk [_, _, _] rfl | exact cell_blk [_, _, _, _] rfl | exact cell_blk [_, _, _, _, _] rfl | exact cell_blk [_, _, _, _, _, _] rfl | exact cell_blk [_, _, _, _, _, _, _] rfl | exact cell_blk [_, _, _, _, _, _, _, _] rfl | exact cellR_blk (by assumption) rfl)) ?_
                    refine wt_yg rfl rfl rfl (y_move rfl) ?_
                    refine wt_yg rfl rfl rfl (y_indexAddr (i := v) Try.underlying51 T83 rfl rfl rfl (by omega) (by first | exact fun _ _ => hjs | exact fun _ _ => hws | exact fun _ _ => hos | exact fun w hw => hw.slc_isSome [] (by omega) | exact fun w hw => hw.slc_isSome [_] (by omega) | exact fun w hw => hw.slc_isSome [_, _] (by omega) | exact fun w hw => hw.slc_isSome [_, _, _] (by omega) | exact fun w hw => hw.slc_isSome [_, _, _, _] (by omega) | exact fun w hw => hw.slc_isSome [_, _, _, _, _] (by omega) | exact fun w hw => hw.slc_isSome [_, _, _, _, _, _] (by omega) | exact fun w hw => hw.slc_isSome [_, _, _, _, _, _, _] (by omega) | exact fun w hw => hw.slc_isSome [_, _, _, _, _, _, _, _] (by omega))) ?_
                    refine wt_yg rfl rfl rfl (y_fieldAddr_adr F83_1 rfl) ?_
                    refine wt_yg rfl rfl rfl (y_load NA49 rfl (by first | exact cell_own [] (rows_get encW_len hpv rfl) | exact cell_own [_] (rows_get encW_len hpv rfl) | exact cell_own [_, _] (rows_get encW_len hpv rfl) | exact cell_own [_, _, _] (rows_get encW_len hpv rfl) | exact cell_own [_, _, _, _] (rows_get encW_len hpv rfl) | exact cell_own [_, _, _, _, _] (rows_get encW_len hpv rfl) | exact cell_own [_, _, _, _, _, _] (rows_get encW_len hpv rfl) | exact cell_own [_, _, _, _, _, _, _] (rows_get encW_len hpv rfl) | exact cell_own [_, _, _, _, _, _, _, _] (rows_get encW_len hpv rfl))) ?_
                    refine wt_yg rfl rfl rfl (y_lenSl Try.underlying49 rfl) ?_
                    refine wt_yg rfl rfl rfl (y_gtr rfl rfl) ?_
                    refine wt_yg rfl rfl rfl (y_pick_f rfl rfl) ?_
                    refine wt_y rfl (y_pick_t rfl rfl) ?_
                    refine wt_nil ?_
                    refine wq_then ?_
                    refine wc_cond rfl (fun hc148 => ?_) (fun hc148 => ?_)
                    ·
                      first | replace hc148 := of_decide_eq_true hc148 | replace hc148 := of_decide_eq_false hc148
                      refine wc_region ?_
                      refine wl_y rfl (y_move rfl) ?_
                      refine wl_y rfl (y_assign rfl) ?_
                      refine wl_nil ?_
                      refine wq_block_normal ?_
                      refine wq_then ?_
                      refine wc_region ?_
                      refine wl_y rfl (y_move rfl) ?_
                      refine wl_y rfl (y_add rfl rfl (by omega)) ?_
                      refine wl_y rfl (y_assign rfl) ?_
                      refine wl_nil ?_
                      exact wq_round (c + 1, some c) (by simp only; omega) ⟨by simp only; omega, bestW_up hB hpv hr (by omega)⟩ ⟨rfl, rfl, rfl, rfl, rfl, rfl, trivial⟩ (fun w hw => hw)
                    ·
                      first | replace hc148 := of_decide_eq_true hc148 | replace hc148 := of_decide_eq_false hc148
                      refine wc_skip ?_
                      refine wq_block_normal ?_
                      refine wq_then ?_
                      refine wc_region ?_
                      refine wl_y rfl (y_move rfl) ?_
                      refine wl_y rfl (y_add rfl rfl (by omega)) ?_
                      refine wl_y rfl (y_assign rfl) ?_
                      refine wl_nil ?_
                      exact wq_round (c + 1, some v) (by simp only; omega) ⟨by simp only; omega, bestW_stay hB hpv hr (by omega)⟩ ⟨rfl, rfl, rfl, rfl, rfl, rfl, trivial⟩ (fun w hw => hw)
                  ·
                    first | replace hg124 := of_decide_eq_true hg124 | replace hg124 := of_decide_eq_false hg124
                    refine wt_sk rfl rfl rfl rfl ?_
                    refine wt_sk rfl rfl rfl rfl ?_
                    refine wt_sk rfl rfl rfl rfl ?_
                    refine wt_sku rfl rfl rfl ?_
                    refine wt_sku rfl rfl rfl ?_
                    refine wt_sku rfl rfl rfl ?_
                    refine wt_sku rfl rfl rfl ?_
                    refine wt_sku rfl rfl rfl ?_
                    refine wt_sku rfl rfl rfl ?_
                    refine wt_sku rfl rfl rfl ?_
                    refine wt_sku rfl rfl rfl ?_
                    refine wt_sku rfl rfl rfl ?_
                    refine wt_sku rfl rfl rfl ?_
                    refine wt_sku rfl rfl rfl ?_
                    refine wt_sku rfl rfl rfl ?_
                    refine wt_sku rfl rfl rfl ?_
                    refine wt_sku rfl rfl rfl ?_
                    refine wt_sku rfl rfl rfl ?_
                    refine wt_sku rfl rfl rfl ?_
                    refine wt_sku rfl rfl rfl ?_
                    refine wt_sku rfl rfl rfl ?_
                    refine wt_sku rfl rfl rfl ?_
                    refine wt_sk rfl rfl rfl rfl ?_
                    refine wt_y rfl (y_pick_f rfl rfl) ?_
                    refine wt_nil ?_
                    refine wq_then ?_
                    refine wc_cond_false rfl ?_
                    refine wc_skip ?_
                    refine wq_block_normal ?_
                    refine wq_then ?_
                    refine wc_region ?_
                    refine wl_y rfl (y_move rfl) ?_
                    refine wl_y rfl (y_add rfl rfl (by omega)) ?_
                    refine wl_y rfl (y_assign rfl) ?_
                    refine wl_nil ?_
                    exact wq_round (c + 1, some v) (by simp only; omega) ⟨by simp only; omega, bestW_stay hB hpv hr (by omega)⟩ ⟨rfl, rfl, rfl, rfl, rfl, rfl, trivial⟩ (fun w hw => hw)
              ·
                first | replace hc111 := of_decide_eq_true hc111 | replace hc111 := of_decide_eq_false hc111
                refine wc_exit ?_
                refine wq_then_exit (wq_then_exit (wq_block_exit ?_))
                refine wq_then ?_
                refine wc_seq ?_
                refine wc_seq ?_
                refine wc_region ?_
                rcases bo with _ | v
                ·
                  refine wl_y rfl (y_move rfl) ?_
                  refine wl_y rfl (y_lss rfl rfl) ?_
                  refine wl_nil ?_
                  refine wq_then ?_
                  refine wc_known 151 true rfl (by decide) ?_
                  refine wc_cond_true rfl ?_
                  refine wc_seq ?_
                  refine wc_region ?_
                  have hem := bestW_all hX.r hB (by omega)
                  refine wl_y rfl (y_build (cs := [_, _, _, _, _, _]) T36 PL36 rfl rfl rfl) ?_
                  first | refine wl_u (yu_storeAgg [] (l' := [_, _, _, _, _, _]) T36 rfl rfl rfl (by simp [Value.oneCell', encL, encJ]) rfl rfl) ?_ | refine wl_u (yu_storeAgg [_] (l' := [_, _, _, _, _, _]) T36 rfl rfl rfl (by simp [Value.oneCell', encL, encJ]) rfl rfl) ?_ | refine wl_u (yu_storeAgg [_, _] (l' := [_, _, _, _, _, _]) T36 rfl rfl rfl (by simp [Value.oneCell', encL, encJ]) rfl rfl) ?_ | refine wl_u (yu_storeAgg [_, _, _] (l' := [_, _, _, _, _, _]) T36 rfl rfl rfl (by simp [Value.oneCell', encL, encJ]) rfl rfl) ?_ | refine wl_u (yu_storeAgg [_, _, _, _] (l' := [_, _, _, _, _, _]) T36 rfl rfl rfl (by simp [Value.oneCell', encL, encJ]) rfl rfl) ?_ | refine wl_u (yu_storeAgg [_, _, _, _, _] (l' := [_, _, _, _, _, _]) T36 rfl rfl rfl (by simp [Value.oneCell', encL, encJ]) rfl rfl) ?_ | refine wl_u (yu_storeAgg [_, _, _, _, _, _] (l' := [_, _, _, _, _, _]) T36 rfl rfl rfl (by simp [Value.oneCell', encL, encJ]) rfl rfl) ?_ | refine wl_u (yu_storeAgg [_, _, _, _, _, _, _] (l' := [_, _, _, _, _, _]) T36 rfl rfl rfl (by simp [Value.oneCell', encL, encJ]) rfl rfl) ?_ | refine wl_u (yu_storeAgg [_, _, _, _, _, _, _, _] (l' := [_, _, _, _, _, _]) T36 rfl rfl rfl (by simp [Value.oneCell', encL, encJ]) rfl rfl) ?_
                  refine wl_y rfl (y_assign rfl) ?_
                  refine wl_nil ?_
                  refine wq_then ?_
                  refine wc_ret ?_
                  refine wq_then_ret ?_
                  refine wq_retC2 (l := [_, _, _, _, _, _]) AG36 rfl rfl rfl rfl (by first | exact cells_blk [] rfl | exact cells_blk [_] rfl | exact cells_blk [_, _] rfl | exact cells_blk [_, _, _] rfl | exact cells_blk [_, _, _, _] rfl | exact cells_blk [_, _, _, _, _] rfl | exact cells_blk [_, _, _, _, _, _] rfl | exact cells_blk [_, _, _, _, _, _, _] rfl | exact cells_blk [_, _, _, _, _, _, _, _] rfl) (fun w hw => ?_)
                  rw [next_empty hg htb hem]; exact ⟨(), trivial, rfl, rf_shutW hX.r hX.l hlk.age (by rw [hlk.t]) (As := []) (hw.sub (by (repeat (first | exact pt_nil | apply pt0 | apply pt1 | apply pt2 | apply pt3 | apply pt4 | apply pt5 | apply pt6 | apply pt7 | apply pt8 | apply pt9 | apply pt10 | apply pt11 | apply pt12 | apply pt13 | apply pt14 | apply pt15 | apply pt16 | apply pt17))))⟩
                ·
                  refine wl_y rfl (y_move rfl) ?_
                  refine wl_y rfl (y_lss rfl rfl) ?_
                  refine wl_nil ?_
                  refine wq_then ?_
                  refine wc_known 151 false rfl (decide_eq_false (show ¬ ((v : Nat) : Int) < 0 by omega)) ?_
                  refine wc_cond_false rfl ?_
                  refine wc_skip ?_
                  refine wq_then ?_
                  refine wc_seq ?_
                  refine wc_region ?_
                  obtain ⟨⟨u, sl⟩, hpv, hvc, _, _⟩ := id hB
                  obtain ⟨hvic, hne⟩ := bestW_vic hX.r hk1 hB (by omega) hpv
                  have hvl := (List.getElem?_eq_some_iff.1 hpv).1
                  have hslv := hX.r.row hk1 hpv
                  have hsl2 := first_len s wk u
                  have hsl3 := hI.row_len u
                  rw [hslv] at hsl2
                  obtain ⟨l, j, hjl⟩ : ∃ l j, sl.xs = l ++ [j] := ⟨sl.xs.dropLast, sl.xs.getLast hne, (List.dropLast_concat_getLast hne).symm⟩
                  have hln : sl.xs.length = l.length + 1 := by rw [hjl]; simp
                  have hj0 : sl.xs[l.length]? = some j := by rw [hjl]; simp
                  have hnx := next_vic hg htb hqk hrow1 hvic (hslv.trans hjl)
                  have hjm : j ∈ s.jobs := pick_mem hI hq hwk (pick_vic hrow1 (the_vic hvic) (hslv.trans hjl))
                  refine wl_same 15 (vI (v : Nat)) rfl rfl ?_
                  refine wl_have (p := x.wa.isSome = true) (by first | exact fun w hw => hw.slc_isSome [] (by omega) | exact fun w hw => hw.slc_isSome [_] (by omega) | exact fun w hw => hw.slc_isSome [_, _] (by omega) | exact fun w hw => hw.slc_isSome [_, _, _] (by omega) | exact fun w hw => hw.slc_isSome [_, _, _, _] (by omega) | exact fun w hw => hw.slc_isSome [_, _, _, _, _] (by omega) | exact fun w hw => hw.slc_isSome [_, _, _, _, _, _] (by omega) | exact fun w hw => hw.slc_isSome [_, _, _, _, _, _, _] (by omega) | exact fun w hw => hw.slc_isSome [_, _, _, _, _, _, _, _] (by omega)) (fun hws => ?_)
                  refine wl_world (S' := Hp w0 K [blk b (.cells (rfC x) 54 (0, 0)), slc 30 3 x.ja x.jobs.length x.jc (x.jobs.flatMap encJ), refA x.qb s.age RI, slc 83 2 x.wa x.ws.length x.wc (ws.flatMap encW), slc 30 3 sl.a sl.xs.length sl.cap (sl.xs.flatMap encJ), rowsA (ws.eraseIdx v), rtA x.tb s.t.ref, blk b6 (.cells (encL noL).toArray 36 (0, 0))]) (fun w hw => (rows_outI hpv (hw.sub (by (repeat (first | exact pt_nil | apply pt0 | apply pt1 | apply pt2 | apply pt3 | apply pt4 | apply pt5 | apply pt6 | apply pt7 | apply pt8 | apply pt9 | apply pt10 | apply pt11 | apply pt12 | apply pt13 | apply pt14 | apply pt15 | apply pt16 | apply pt17))) : Hp w0 K (rowsA ws :: [blk b (.cells (rfC x) 54 (0, 0)), slc 30 3 x.ja x.jobs.length x.jc (x.jobs.flatMap encJ), refA x.qb s.age RI, slc 83 2 x.wa x.ws.length x.wc (ws.flatMap encW), rtA x.tb s.t.ref, blk b6 (.cells (encL noL).toArray 36 (0, 0))]) w)).sub (by (repeat (first | exact pt_nil | apply pt0 | apply pt1 | apply pt2 | apply pt3 | apply pt4 | apply pt5 | apply pt6 | apply pt7 | apply pt8 | apply pt9 | apply pt10 | apply pt11 | apply pt12 | apply pt13 | apply pt14 | apply pt15 | apply pt16 | apply pt17)))) ?_
                  refine wl_have (p := sl.xs.length ≤ sl.cap) (by first | exact fun w hw => hw.slc_le [] | exact fun w hw => hw.slc_le [_] | exact fun w hw => hw.slc_le [_, _] | exact fun w hw => hw.slc_le [_, _, _] | exact fun w hw => hw.slc_le [_, _, _, _] | exact fun w hw => hw.slc_le [_, _, _, _, _] | exact fun w hw => hw.slc_le [_, _, _, _, _, _] | exact fun w hw => hw.slc_le [_, _, _, _, _, _, _] | exact fun w hw => hw.slc_le [_, _, _, _, _, _, _, _]) (fun hcap => ?_)
                  refine wl_have (p := sl.a.isSome = true) (by first | exact fun w hw => hw.slc_isSome [] (by omega) | exact fun w hw => hw.slc_isSome [_] (by omega) | exact fun w hw => hw.slc_isSome [_, _] (by omega) | exact fun w hw => hw.slc_isSome [_, _, _] (by omega) | exact fun w hw => hw.slc_isSome [_, _, _, _] (by omega) | exact fun w hw => hw.slc_isSome [_, _, _, _, _] (by omega) | exact fun w hw => hw.slc_isSome [_, _, _, _, _, _] (by omega) | exact fun w hw => hw.slc_isSome [_, _, _, _, _, _, _] (by omega) | exact fun w hw => hw.slc_isSome [_, _, _, _, _, _, _, _] (by omega)) (fun hos => ?_)
                  refine wl_y rfl (y_move rfl) ?_
                  refine wl_y rfl (y_nilCheck rfl) ?_
                  refine wl_y rfl (y_fieldAddr F54_2 rfl) ?_
                  refine wl_y rfl (y_load NA51 rfl (by first | exact cell_blk [] rfl | exact cell_blk [_] rfl | exact cell_blk [_, _] rfl | exact cell_blk [_, _, _] rfl | exact cell_blk [_, _, _, _] rfl | exact cell_blk [_, _, _, _, _] rfl | exact cell_blk [_, _, _, _, _, _] rfl | exact cell_blk [_, _, _, _, _, _, _] rfl | exact cell_blk [_, _, _, _, _, _, _, _] rfl | exact cellR_blk (by assumption) rfl)) ?_
                  refine wl_y rfl (y_move rfl) ?_
                  refine wl_y rfl (y_indexAddr (i := v) Try.underlying51 T83 rfl rfl rfl (by omega) (by first | exact fun _ _ => hjs | exact fun _ _ => hws | exact fun _ _ => hos | exact fun w hw => hw.slc_isSome [] (by omega) | exact fun w hw => hw.slc_isSome [_] (by omega) | exact fun w hw => hw.slc_isSome [_, _] (by omega) | exact fun w hw => hw.slc_isSome [_, _, _] (by omega) | exact fun w hw => hw.slc_isSome [_, _, _, _] (by omega) | exact fun w hw => hw.slc_isSome [_, _, _, _, _] (by omega) | exact fun w hw => hw.slc_isSome [_, _, _, _, _, _] (by omega) | exact fun w hw => hw.slc_isSome [_, _, _, _, _, _, _] (by omega) | exact fun w hw => hw.slc_isSome [_, _, _, _, _, _, _, _] (by omega))) ?_
                  refine wl_y rfl (y_fieldAddr_adr F83_1 rfl) ?_
                  refine wl_y rfl (y_load NA49 rfl (by first | exact cell_own [] (rows_get encW_len hpv rfl) | exact cell_own [_] (rows_get encW_len hpv rfl) | exact cell_own [_, _] (rows_get encW_len hpv rfl) | exact cell_own [_, _, _] (rows_get encW_len hpv rfl) | exact cell_own [_, _, _, _] (rows_get encW_len hpv rfl) | exact cell_own [_, _, _, _, _] (rows_get encW_len hpv rfl) | exact cell_own [_, _, _, _, _, _] (rows_get encW_len hpv rfl) | exact cell_own [_, _, _, _, _, _, _] (rows_get encW_len hpv rfl) | exact cell_own [_, _, _, _, _, _, _, _] (rows_get encW_len hpv rfl))) ?_
                  refine wl_same 160 (vJs sl) rfl rfl ?_
                  refine wl_y rfl (y_assign rfl) ?_
                  refine wl_nil ?_
                  refine wq_then ?_
                  refine wc_seq ?_
                  refine wc_mix (.q 0 0 (.q 1 0 (.q 2 0 (.q 3 1 (.q 4 0 (.q 5 0 (.q 6 0 (.q 7 0 (.q 8 0 (.q 9 0 (.q 10 0 (.q 11 0 (.w 12 2 .nil .nil))))))))))))) (fun _ => True) MO (by kernel_rfl) (Hp.drawless _ _ _) (fun _ _ => trivial) ?_
                  refine wm_g rfl rfl (y_move rfl) ?_
                  refine wm_g rfl rfl (y_nilCheck rfl) ?_
                  refine wm_g rfl rfl (y_fieldAddr F54_2 rfl) ?_
                  refine wm_l rfl rfl (y_load NA51 rfl (by first | exact cell_blk [] rfl | exact cell_blk [_] rfl | exact cell_blk [_, _] rfl | exact cell_blk [_, _, _] rfl | exact cell_blk [_, _, _, _] rfl | exact cell_blk [_, _, _, _, _] rfl | exact cell_blk [_, _, _, _, _, _] rfl | exact cell_blk [_, _, _, _, _, _, _] rfl | exact cell_blk [_, _, _, _, _, _, _, _] rfl | exact cellR_blk (by assumption) rfl)) ?_
                  refine wm_g rfl rfl (y_move rfl) ?_
                  refine wm_g rfl rfl (y_move rfl) ?_
                  refine wm_g rfl rfl (y_move rfl) ?_
                  refine wm_g rfl rfl (y_lenSl Try.underlying49 rfl) ?_
                  refine wm_g rfl rfl (y_sub rfl rfl (by omega)) ?_
                  refine wm_same 169 (vI (l.length : Nat)) rfl (by rw [hln]; congr 1; omega) ?_
                  refine wm_g rfl rfl (y_sliceSl (i := 0) (j := l.length) Try.underlying49 T30 rfl rfl ⟨_, rfl, rfl⟩ (Nat.zero_le _) (by omega)) ?_
                  refine wm_same 170 (vJs (⟨cutAt sl.a 0 sl.cap 3, sl.cap, l⟩ : Sl Jb)) rfl (by simp) ?_
                  refine wm_g rfl rfl (y_indexAddr (i := v) Try.underlying51 T83 rfl rfl rfl (by omega) (by first | exact fun _ _ => hjs | exact fun _ _ => hws | exact fun _ _ => hos | exact fun w hw => hw.slc_isSome [] (by omega) | exact fun w hw => hw.slc_isSome [_] (by omega) | exact fun w hw => hw.slc_isSome [_, _] (by omega) | exact fun w hw => hw.slc_isSome [_, _, _] (by omega) | exact fun w hw => hw.slc_isSome [_, _, _, _] (by omega) | exact fun w hw => hw.slc_isSome [_, _, _, _, _] (by omega) | exact fun w hw => hw.slc_isSome [_, _, _, _, _, _] (by omega) | exact fun w hw => hw.slc_isSome [_, _, _, _, _, _, _] (by omega) | exact fun w hw => hw.slc_isSome [_, _, _, _, _, _, _, _] (by omega))) ?_
                  refine wm_g rfl rfl (y_fieldAddr_adr F83_1 rfl) ?_
                  first | refine wm_u rfl (fun _ _ => trivial) (yu_storeSl [] (e := 83) T49 rfl rfl rfl rfl rfl (by simp [rows_length encW_len]; omega)) ?_ | refine wm_u rfl (fun _ _ => trivial) (yu_storeSl [_] (e := 83) T49 rfl rfl rfl rfl rfl (by simp [rows_length encW_len]; omega)) ?_ | refine wm_u rfl (fun _ _ => trivial) (yu_storeSl [_, _] (e := 83) T49 rfl rfl rfl rfl rfl (by simp [rows_length encW_len]; omega)) ?_ | refine wm_u rfl (fun _ _ => trivial) (yu_storeSl [_, _, _] (e := 83) T49 rfl rfl rfl rfl rfl (by simp [rows_length encW_len]; omega)) ?_ | refine wm_u rfl (fun _ _ => trivial) (yu_storeSl [_, _, _, _] (e := 83) T49 rfl rfl rfl rfl rfl (by simp [rows_length encW_len]; omega)) ?_ | refine wm_u rfl (fun _ _ => trivial) (yu_storeSl [_, _, _, _, _] (e := 83) T49 rfl rfl rfl rfl rfl (by simp [rows_length encW_len]; omega)) ?_ | refine wm_u rfl (fun _ _ => trivial) (yu_storeSl [_, _, _, _, _, _] (e := 83) T49 rfl rfl rfl rfl rfl (by simp [rows_length encW_len]; omega)) ?_ | refine wm_u rfl (fun _ _ => trivial) (yu_storeSl [_, _, _, _, _, _, _] (e := 83) T49 rfl rfl rfl rfl rfl (by simp [rows_length encW_len]; omega)) ?_ | refine wm_u rfl (fun _ _ => trivial) (yu_storeSl [_, _, _, _, _, _, _, _] (e := 83) T49 rfl rfl rfl rfl rfl (by simp [rows_length encW_len]; omega)) ?_
                  refine wm_nil ?_
                  refine all_wq ?_
                  refine wq_then ?_
                  refine wc_seq ?_
                  refine wc_mix (.q 0 0 (.q 1 0 (.q 2 0 (.q 3 1 (.q 4 0 (.q 5 0 (.q 6 0 (.q 7 0 (.q 8 0 (.q 9 1 (.q 10 0 (.q 11 0 (.w 12 2 (.q 13 0 (.q 14 0 (.w 15 2 (.q 16 0 .nil) .nil))) .nil))))))))))))) (fun _ => True) MO (by kernel_rfl) (Hp.drawless _ _ _) (fun _ _ => trivial) ?_
                  refine wm_g rfl rfl (y_move rfl) ?_
                  refine wm_g rfl rfl (y_nilCheck rfl) ?_
                  refine wm_g rfl rfl (y_fieldAddr F54_3 rfl) ?_
                  refine wm_l rfl rfl (y_load NA52 rfl (by first | exact cell_blk [] rfl | exact cell_blk [_] rfl | exact cell_blk [_, _] rfl | exact cell_blk [_, _, _] rfl | exact cell_blk [_, _, _, _] rfl | exact cell_blk [_, _, _, _, _] rfl | exact cell_blk [_, _, _, _, _, _] rfl | exact cell_blk [_, _, _, _, _, _, _] rfl | exact cell_blk [_, _, _, _, _, _, _, _] rfl | exact cellR_blk (by assumption) rfl)) ?_
                  refine wm_g rfl rfl (y_move rfl) ?_
                  refine wm_g rfl rfl (y_move rfl) ?_
                  refine wm_g rfl rfl (y_lenSl Try.underlying49 rfl) ?_
                  refine wm_g rfl rfl (y_sub rfl rfl (by omega)) ?_
                  refine wm_same 180 (vI (l.length : Nat)) rfl (by rw [hln]; congr 1; omega) ?_
                  refine wm_g rfl rfl (y_indexAddr (i := l.length) Try.underlying49 T30 rfl rfl rfl (by omega) (by first | exact fun _ _ => hjs | exact fun _ _ => hws | exact fun _ _ => hos | exact fun w hw => hw.slc_isSome [] (by omega) | exact fun w hw => hw.slc_isSome [_] (by omega) | exact fun w hw => hw.slc_isSome [_, _] (by omega) | exact fun w hw => hw.slc_isSome [_, _, _] (by omega) | exact fun w hw => hw.slc_isSome [_, _, _, _] (by omega) | exact fun w hw => hw.slc_isSome [_, _, _, _, _] (by omega) | exact fun w hw => hw.slc_isSome [_, _, _, _, _, _] (by omega) | exact fun w hw => hw.slc_isSome [_, _, _, _, _, _, _] (by omega) | exact fun w hw => hw.slc_isSome [_, _, _, _, _, _, _, _] (by omega))) ?_
                  refine wm_l rfl rfl (y_loadAgg (l := encJ j) AG30 rfl rfl (by first | exact agg_own [] (fun i u h => rows_get (k := l.length) encJ_len hj0 h) | exact agg_own [_] (fun i u h => rows_get (k := l.length) encJ_len hj0 h) | exact agg_own [_, _] (fun i u h => rows_get (k := l.length) encJ_len hj0 h) | exact agg_own [_, _, _] (fun i u h => rows_get (k := l.length) encJ_len hj0 h) | exact agg_own [_, _, _, _] (fun i u h => rows_get (k := l.length) encJ_len hj0 h) | exact agg_own [_, _, _, _, _] (fun i u h => rows_get (k := l.length) encJ_len hj0 h) | exact agg_own [_, _, _, _, _, _] (fun i u h => rows_get (k := l.length) encJ_len hj0 h) | exact agg_own [_, _, _, _, _, _, _] (fun i u h => rows_get (k := l.length) encJ_len hj0 h) | exact agg_own [_, _, _, _, _, _, _, _] (fun i u h => rows_get (k := l.length) encJ_len hj0 h))) ?_
                  refine wm_g rfl rfl (y_move rfl) ?_
                  refine wm_g rfl rfl (y_move rfl) ?_
                  refine wm_c rfl rfl (fun _ _ _ => trivial) (yc_spec (fst := []) (cap := []) _ FN45 (rgrant_s x.tb s.t j wk now (hI.rok h1 h2 hq) hI.good (hI.len j hjm)) rfl rfl rfl (by (repeat (first | exact pt_nil | apply pt0 | apply pt1 | apply pt2 | apply pt3 | apply pt4 | apply pt5 | apply pt6 | apply pt7 | apply pt8 | apply pt9 | apply pt10 | apply pt11 | apply pt12 | apply pt13 | apply pt14 | apply pt15 | apply pt16 | apply pt17))) (by (repeat (first | exact ro_nil | exact ro_rest (by assumption) | refine ro_cons (by first | exact .inl (by assumption) | exact ro_f0 (fun _ h => h) | exact ro_f0 (fun _ => slc_rsl) | exact ro_f1 (fun _ h => h) | exact ro_f1 (fun _ => slc_rsl) | exact ro_f2 (fun _ h => h) | exact ro_f2 (fun _ => slc_rsl) | exact ro_f3 (fun _ h => h) | exact ro_f3 (fun _ => slc_rsl) | exact ro_f4 (fun _ h => h) | exact ro_f4 (fun _ => slc_rsl) | exact ro_f5 (fun _ h => h) | exact ro_f5 (fun _ => slc_rsl) | exact ro_f6 (fun _ h => h) | exact ro_f6 (fun _ => slc_rsl)) ?_)))) (wm_ex fun x185 hx185 => ?_)
                  refine wm_g rfl rfl (y_extract rfl rfl) ?_
                  refine wm_g rfl rfl (y_extract rfl rfl) ?_
                  first | refine wm_u rfl (fun _ _ => trivial) (yu_storeAgg [] (l' := [_, _, _, _, _, _]) T36 rfl rfl rfl (by simp [Value.oneCell', encL, encJ]) rfl rfl) ?_ | refine wm_u rfl (fun _ _ => trivial) (yu_storeAgg [_] (l' := [_, _, _, _, _, _]) T36 rfl rfl rfl (by simp [Value.oneCell', encL, encJ]) rfl rfl) ?_ | refine wm_u rfl (fun _ _ => trivial) (yu_storeAgg [_, _] (l' := [_, _, _, _, _, _]) T36 rfl rfl rfl (by simp [Value.oneCell', encL, encJ]) rfl rfl) ?_ | refine wm_u rfl (fun _ _ => trivial) (yu_storeAgg [_, _, _] (l' := [_, _, _, _, _, _]) T36 rfl rfl rfl (by simp [Value.oneCell', encL, encJ]) rfl rfl) ?_ | refine wm_u rfl (fun _ _ => trivial) (yu_storeAgg [_, _, _, _] (l' := [_, _, _, _, _, _]) T36 rfl rfl rfl (by simp [Value.oneCell', encL, encJ]) rfl rfl) ?_ | refine wm_u rfl (fun _ _ => trivial) (yu_storeAgg [_, _, _, _, _] (l' := [_, _, _, _, _, _]) T36 rfl rfl rfl (by simp [Value.oneCell', encL, encJ]) rfl rfl) ?_ | refine wm_u rfl (fun _ _ => trivial) (yu_storeAgg [_, _, _, _, _, _] (l' := [_, _, _, _, _, _]) T36 rfl rfl rfl (by simp [Value.oneCell', encL, encJ]) rfl rfl) ?_ | refine wm_u rfl (fun _ _ => trivial) (yu_storeAgg [_, _, _, _, _, _, _] (l' := [_, _, _, _, _, _]) T36 rfl rfl rfl (by simp [Value.oneCell', encL, encJ]) rfl rfl) ?_ | refine wm_u rfl (fun _ _ => trivial) (yu_storeAgg [_, _, _, _, _, _, _, _] (l' := [_, _, _, _, _, _]) T36 rfl rfl rfl (by simp [Value.oneCell', encL, encJ]) rfl rfl) ?_
                  refine wm_g rfl rfl (y_assign rfl) ?_
                  refine wm_nil ?_
                  refine all_wq ?_
                  refine wq_then ?_
                  refine wc_ret ?_
                  refine wq_retC2 (l := [_, _, _, _, _, _]) AG36 rfl rfl rfl rfl (by first | exact cells_blk [] rfl | exact cells_blk [_] rfl | exact cells_blk [_, _] rfl | exact cells_blk [_, _, _] rfl | exact cells_blk [_, _, _, _] rfl | exact cells_blk [_, _, _, _, _] rfl | exact cells_blk [_, _, _, _, _, _] rfl | exact cells_blk [_, _, _, _, _, _, _] rfl | exact cells_blk [_, _, _, _, _, _, _, _] rfl) (fun w hw => ?_)
                  rw [rows_setOne encW_len (x' := (u, (⟨cutAt sl.a 0 sl.cap 3, sl.cap, l⟩ : Sl Jb))) hpv (by omega) rfl] at hw
                  have h9 : Hp w0 K (slc 30 3 sl.a sl.xs.length sl.cap (sl.xs.flatMap encJ) :: [rowsA (ws.eraseIdx v), blk b (.cells (rfC x) 54 (0, 0)), slc 30 3 x.ja x.jobs.length x.jc (x.jobs.flatMap encJ), refA x.qb s.age RI, slc 83 2 x.wa x.ws.length x.wc ((ws.set v (u, (⟨cutAt sl.a 0 sl.cap 3, sl.cap, l⟩ : Sl Jb))).flatMap encW), rtA x.tb (s.t.grant j wk now).1.ref]) w := hw.sub (by (repeat (first | exact pt_nil | apply pt0 | apply pt1 | apply pt2 | apply pt3 | apply pt4 | apply pt5 | apply pt6 | apply pt7 | apply pt8 | apply pt9 | apply pt10 | apply pt11 | apply pt12 | apply pt13 | apply pt14 | apply pt15 | apply pt16 | apply pt17)))
                  have h8 := rows_inI hpv (p' := (u, (⟨cutAt sl.a 0 sl.cap 3, sl.cap, l⟩ : Sl Jb))) (Hp.mono_at [] h9 (fun g hg => by have h3 := slc_take l.length hg (by omega); rw [rows_take encJ_len _ (by omega)] at h3; rw [hjl, List.take_left' rfl] at h3; exact h3))
                  rw [hnx]
                  exact ⟨(), trivial, rfl, rf_shutW (hX.r.turn (s' := { (s.first wk) with rows := mput (s.first wk).rows u l, t := (s.t.grant j wk now).1 }) rfl rfl (set_up hX.r.up hpv) (hX.r.put hk1 hpv)) (by rw [List.length_set]; exact hX.l) hlk.age rfl (As := []) (h8.sub (by (repeat (first | exact pt_nil | apply pt0 | apply pt1 | apply pt2 | apply pt3 | apply pt4 | apply pt5 | apply pt6 | apply pt7 | apply pt8 | apply pt9 | apply pt10 | apply pt11 | apply pt12 | apply pt13 | apply pt14 | apply pt15 | apply pt16 | apply pt17))))⟩

end Go.Proofs.Ytfnpjmlpiedgdaa
