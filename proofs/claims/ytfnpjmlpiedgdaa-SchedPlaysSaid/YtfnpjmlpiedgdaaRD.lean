/-
  Walks: the reference: Add, Join, Tick, Waiting.
-/
import Derived.Test.YtfnpjmlpiedgdaaRC
namespace Go.Proofs.Ytfnpjmlpiedgdaa
open Go.Eng


theorem rfA_th (b : Nat) (s : Sc) (m : List (Str × Bool)) : rfA b { s with th := m } = rfA b s := by
  have e : (fun x : Rp => RRel { s with th := m } x.jobs x.RI x.ws) = fun x : Rp => RRel s x.jobs x.RI x.ws := by
    funext x; exact propext ⟨fun h => ⟨h.r, h.b, h.up, h.p, h.n⟩, fun h => ⟨h.r, h.b, h.up, h.p, h.n⟩⟩
  show exA (fun x : Rp => RRel { s with th := m } x.jobs x.RI x.ws) (rfAs b s) = _
  rw [e]; rfl
theorem rexp_s (b : Nat) (t : Tb) (now : Int) (hr : t.ref.ok) (hg : t.good) :
    Ctr Try.prog 48 #[ptr b, vI now] [] [rtA b t.ref] (fun _ : Option Addr × Nat => True) (fun x => .slice x.1 (t.take (isOver now)).2.length x.2) (fun x => [rtA b (t.take (isOver now)).1.ref, slc 30 3 x.1 (t.take (isOver now)).2.length x.2 ((t.take (isOver now)).2.flatMap encJ)]) := by
  have h := rexpire_c b t.ref now hr
  rw [rp_now, ref_take hg] at h; exact h
theorem rdrop_s (b : Nat) (t : Tb) (wk : Str) (hr : t.ref.ok) (hg : t.good) :
    Ctr Try.prog 43 #[ptr b, vS wk] [] [rtA b t.ref] (fun _ : Option Addr × Nat => True) (fun x => .slice x.1 (t.take (isOf wk)).2.length x.2) (fun x => [rtA b (t.take (isOf wk)).1.ref, slc 30 3 x.1 (t.take (isOf wk)).2.length x.2 ((t.take (isOf wk)).2.flatMap encJ)]) := by
  by_cases hw : wk = []
  · subst hw
    have h := rdrop_none b t.ref
    rw [take_noone hg]; exact h
  · have h := rdrop_c b t.ref wk hr hw
    rw [rp_wk hw, ref_take hg] at h; exact h
theorem rgrant_s (b : Nat) (t : Tb) (j : Jb) (wk : Str) (now : Int) (hr : t.ref.ok) (hg : t.good) (hl : j.key.length ≤ maxLen) :
    Ctr Try.prog 45 #[ptr b, agJ j, vS wk, vI now] [] [rtA b t.ref] (fun _ : Unit => True) (fun _ => .tuple #[agL (t.grant j wk now).2.1, vI (t.grant j wk now).2.2]) (fun _ => [rtA b (t.grant j wk now).1.ref]) := by
  have h := rgrant_c b t.ref j wk now hr
  rw [(ref_grant hg j wk now hl).1] at h; exact h
theorem rfin_s (b : Nat) (t : Tb) (key : Str) (e : Int) (hr : t.ref.ok) (hg : t.good) :
    Ctr Try.prog 21 #[ptr b, vS key, vI e] [] [rtA b t.ref] (fun _ : Unit => True) (fun _ => vI (t.finish key e).2) (fun _ => [rtA b (t.finish key e).1.ref]) := by
  have h := rfinish_c b t.ref key e hr
  rw [(ref_finish hg key e).1] at h; exact h
theorem RRel.tab {s : Sc} {jobs : List Jb} {RI : List (It Int)} {ws : List (Str × Sl Jb)} (h : RRel s jobs RI ws) (t : Tb) : RRel { s with t := t } jobs RI ws := h.turn rfl rfl h.up h.p
theorem RRel.sum {s : Sc} {jobs : List Jb} {RI : List (It Int)} {ws : List (Str × Sl Jb)} (h : RRel s jobs RI ws) : s.waiting = RI.length + (ws.map (·.2.xs.length)).sum := by
  have := (h.p.map (fun p : Str × List Jb => p.2.length)).sum_nat
  rw [Sc.waiting, ← this, h.len, mval, List.map_map]; rfl
theorem sum_take {α : Type} (f : α → Nat) {l : List α} {i : Nat} {x : α} (hx : l[i]? = some x) : ((l.take (i + 1)).map f).sum = ((l.take i).map f).sum + f x := by
  rw [List.take_add_one, hx]; simp
theorem sum_take_le {α : Type} (f : α → Nat) (l : List α) (i : Nat) : ((l.take i).map f).sum ≤ (l.map f).sum := sum_sub f (List.take_sublist i l)
set_option maxHeartbeats 1000000 in
theorem fadd_c (b : Nat) (s : Sc) (j : Jb) (n : Int) (q : Nat) (hI : s.In n q) (h1 : 1 ≤ n) (h2 : n ≤ 1000000) (hq : q ≤ 490) (hrl : s.rows.length ≤ 1000) :
    Ctr Try.prog 17 #[ptr b, agJ j] [] [rfA b s] (fun _ : Unit => True) (fun _ => vI (s.add j).2) (fun _ => [rfA b (s.add j).1]) := by
  refine spec_start (n := 12) [(0, ptr b), (1, agJ j)] Try.func17 rfl rfl ⟨rfl, rfl, trivial⟩ rfl ?_
  intro w0 K hR
  refine wc_seq ?_
  refine wc_region ?_
  refine wl_w (fun _ _ => want_none) rfl (yw_box rfl rfl) (wl_ex fun b3 _ => ?_)
  refine wl_y rfl (y_assign rfl) ?_
  refine wl_nil ?_
  refine wq_then ?_
  refine wc_seq ?_
  refine wc_seq ?_
  refine wc_region ?_
  refine wl_y rfl (y_move rfl) ?_
  refine wl_y rfl (y_fieldAddr F30_0 rfl) ?_
  refine wl_y rfl (y_load NA9 rfl (by first | exact cell_blk [] rfl | exact cell_blk [_] rfl | exact cell_blk [_, _] rfl | exact cell_blk [_, _, _] rfl | exact cellR_blk (by assumption) rfl)) ?_
  refine wl_c (fun _ _ => want_none) rfl (yc_spec (fst := []) (cap := []) _ FN39 (fknown_c b s j.key n q hI h1 h2 hq hrl) rfl rfl rfl (by (repeat (first | exact pt_nil | apply pt0 | apply pt1 | apply pt2 | apply pt3 | apply pt4 | apply pt5 | apply pt6 | apply pt7 | apply pt8 | apply pt9 | apply pt10 | apply pt11 | apply pt12 | apply pt13 | apply pt14 | apply pt15 | apply pt16 | apply pt17))) (by (repeat (first | exact ro_nil | exact ro_rest (by assumption) | refine ro_cons (by first | exact .inl (by assumption) | exact ro_f0 (fun _ h => h) | exact ro_f0 (fun _ => slc_rsl) | exact ro_f1 (fun _ h => h) | exact ro_f1 (fun _ => slc_rsl) | exact ro_f2 (fun _ h => h) | exact ro_f2 (fun _ => slc_rsl) | exact ro_f3 (fun _ h => h) | exact ro_f3 (fun _ => slc_rsl) | exact ro_f4 (fun _ h => h) | exact ro_f4 (fun _ => slc_rsl) | exact ro_f5 (fun _ h => h) | exact ro_f5 (fun _ => slc_rsl) | exact ro_f6 (fun _ h => h) | exact ro_f6 (fun _ => slc_rsl)) ?_)))) (wl_ex fun x8 hx8 => ?_)
  refine wl_nil ?_
  refine wq_then ?_
  refine wc_cond rfl (fun hc8 => ?_) (fun hc8 => ?_)
  ·
    refine wc_seq ?_
    refine wc_region ?_
    refine wl_y rfl (y_assign rfl) ?_
    refine wl_nil ?_
    refine wq_then ?_
    refine wc_ret ?_
    refine wq_then_ret ?_
    refine wq_ret1 rfl rfl (fun w hw => ?_)
    have e : s.add j = (s, 16) := if_pos (by rw [← knows_in hI]; exact hc8)
    rw [e]; exact ⟨(), trivial, rfl, hw.sub (by (repeat (first | exact pt_nil | apply pt0 | apply pt1 | apply pt2 | apply pt3 | apply pt4 | apply pt5 | apply pt6 | apply pt7 | apply pt8 | apply pt9 | apply pt10 | apply pt11 | apply pt12 | apply pt13 | apply pt14 | apply pt15 | apply pt16 | apply pt17)))⟩
  ·
    refine wc_skip ?_
    refine wq_then ?_
    refine wc_seq ?_
    refine wc_region ?_
    refine wl_y rfl (y_move rfl) ?_
    refine wl_y rfl (y_loadAgg (l := [_, _, _]) AG30 rfl rfl (by first | exact cells_blk [] rfl | exact cells_blk [_] rfl | exact cells_blk [_, _] rfl | exact cells_blk [_, _, _] rfl | exact cellsR_blk (by assumption) rfl)) ?_
    refine wl_c (fun _ _ => want_none) rfl (yc_spec (fst := []) (cap := []) _ FN40 (fpush_c b s j ((hI.qk hq).mono (by omega))) rfl rfl rfl (by (repeat (first | exact pt_nil | apply pt0 | apply pt1 | apply pt2 | apply pt3 | apply pt4 | apply pt5 | apply pt6 | apply pt7 | apply pt8 | apply pt9 | apply pt10 | apply pt11 | apply pt12 | apply pt13 | apply pt14 | apply pt15 | apply pt16 | apply pt17))) (by (repeat (first | exact ro_nil | exact ro_rest (by assumption) | refine ro_cons (by first | exact .inl (by assumption) | exact ro_f0 (fun _ h => h) | exact ro_f0 (fun _ => slc_rsl) | exact ro_f1 (fun _ h => h) | exact ro_f1 (fun _ => slc_rsl) | exact ro_f2 (fun _ h => h) | exact ro_f2 (fun _ => slc_rsl) | exact ro_f3 (fun _ h => h) | exact ro_f3 (fun _ => slc_rsl) | exact ro_f4 (fun _ h => h) | exact ro_f4 (fun _ => slc_rsl) | exact ro_f5 (fun _ h => h) | exact ro_f5 (fun _ => slc_rsl) | exact ro_f6 (fun _ h => h) | exact ro_f6 (fun _ => slc_rsl)) ?_)))) (wl_ex fun x11 hx11 => ?_)
    refine wl_y rfl (y_assign rfl) ?_
    refine wl_nil ?_
    refine wq_then ?_
    refine wc_ret ?_
    refine wq_ret1 rfl rfl (fun w hw => ?_)
    have hk9 : ¬ (mget s.th j.key).getD false = true := by rw [← knows_in hI, hc8]; decide
    rcases hv : validB j with _ | _
    · have e : s.add j = (s, 1) := by rw [Sc.add, if_neg hk9, if_neg (by rw [hv]; decide)]
      have e2 : s.push j = s := by rw [Sc.push, if_neg (by rw [hv]; decide)]
      rw [e2] at hw
      rw [e, if_neg (by decide)]; exact ⟨(), trivial, rfl, hw.sub (by (repeat (first | exact pt_nil | apply pt0 | apply pt1 | apply pt2 | apply pt3 | apply pt4 | apply pt5 | apply pt6 | apply pt7 | apply pt8 | apply pt9 | apply pt10 | apply pt11 | apply pt12 | apply pt13 | apply pt14 | apply pt15 | apply pt16 | apply pt17)))⟩
    · have e : s.add j = ({ s.push j with th := mput s.th j.key true }, 0) := by rw [Sc.add, if_neg hk9, if_pos hv]
      rw [e, if_pos rfl]; exact ⟨(), trivial, rfl, by rw [rfA_th]; exact hw.sub (by (repeat (first | exact pt_nil | apply pt0 | apply pt1 | apply pt2 | apply pt3 | apply pt4 | apply pt5 | apply pt6 | apply pt7 | apply pt8 | apply pt9 | apply pt10 | apply pt11 | apply pt12 | apply pt13 | apply pt14 | apply pt15 | apply pt16 | apply pt17)))⟩

set_option maxHeartbeats 1000000 in
theorem fjoin_c (b : Nat) (s : Sc) (wk : Str) (hrl : s.rows.length ≤ 1000) :
    Ctr Try.prog 18 #[ptr b, vS wk] [] [rfA b s] (fun _ : Unit => True) (fun _ => vI (s.join wk).2) (fun _ => [rfA b (s.join wk).1]) := by
  refine spec_start (n := 42) [(0, ptr b), (1, vS wk)] Try.func18 rfl rfl ⟨rfl, rfl, trivial⟩ rfl ?_
  intro w0 K hR
  refine wc_ex rf_open (fun x => ?_)
  obtain ⟨x, hx⟩ := x
  refine wc_world (S' := Hp w0 K (rfAs b s x)) (fun _ hw => hw) ?_
  have hwl := hx.wlen
  refine wc_seq ?_
  refine wc_region ?_
  refine wl_y rfl (y_assign rfl) ?_
  refine wl_nil ?_
  refine wq_then ?_
  refine wc_seq ?_
  refine wc_seq ?_
  refine wc_region ?_
  refine wl_y rfl (y_move rfl) ?_
  refine wl_q (fun _ _ => want_none) rfl (yq_spec (fst := []) (cap := []) _ FN41 (rname_c wk) rfl rfl rfl (by (repeat (first | exact pt_nil | apply pt0 | apply pt1 | apply pt2 | apply pt3 | apply pt4 | apply pt5 | apply pt6 | apply pt7 | apply pt8 | apply pt9 | apply pt10 | apply pt11 | apply pt12 | apply pt13 | apply pt14 | apply pt15 | apply pt16 | apply pt17))) (by (repeat (first | exact ro_nil | exact ro_rest (by assumption) | refine ro_cons (by first | exact .inl (by assumption) | exact ro_f0 (fun _ h => h) | exact ro_f0 (fun _ => slc_rsl) | exact ro_f1 (fun _ h => h) | exact ro_f1 (fun _ => slc_rsl) | exact ro_f2 (fun _ h => h) | exact ro_f2 (fun _ => slc_rsl) | exact ro_f3 (fun _ h => h) | exact ro_f3 (fun _ => slc_rsl) | exact ro_f4 (fun _ h => h) | exact ro_f4 (fun _ => slc_rsl) | exact ro_f5 (fun _ h => h) | exact ro_f5 (fun _ => slc_rsl) | exact ro_f6 (fun _ h => h) | exact ro_f6 (fun _ => slc_rsl)) ?_))) (fun _ _ => rfl) (fun _ _ _ h => h.sub (by (repeat (first | exact pt_nil | apply pt0 | apply pt1 | apply pt2 | apply pt3 | apply pt4 | apply pt5 | apply pt6 | apply pt7 | apply pt8 | apply pt9 | apply pt10 | apply pt11 | apply pt12 | apply pt13 | apply pt14 | apply pt15 | apply pt16 | apply pt17))))) ?_
  refine wl_y rfl (y_neqI rfl rfl) ?_
  refine wl_nil ?_
  refine wq_then ?_
  refine wc_cond rfl (fun hc10 => ?_) (fun hc10 => ?_)
  ·
    simp at hc10
    refine wc_seq ?_
    refine wc_region ?_
    refine wl_y rfl (y_assign rfl) ?_
    refine wl_nil ?_
    refine wq_then ?_
    refine wc_ret ?_
    refine wq_then_ret ?_
    refine wq_ret1 rfl rfl (fun w hw => ?_)
    have e : s.join wk = (s, nameE wk) := if_neg hc10
    have e2 : nameE wk = 14 := by rcases nameE_cases wk with h | h; exact absurd h hc10; exact h
    rw [e, e2]; exact ⟨(), trivial, rfl, rf_shut x hx (hw.sub (by (repeat (first | exact pt_nil | apply pt0 | apply pt1 | apply pt2 | apply pt3 | apply pt4 | apply pt5 | apply pt6 | apply pt7 | apply pt8 | apply pt9 | apply pt10 | apply pt11 | apply pt12 | apply pt13 | apply pt14 | apply pt15 | apply pt16 | apply pt17))))⟩
  ·
    simp at hc10
    refine wc_skip ?_
    refine wq_then ?_
    refine wc_seq ?_
    refine wc_region ?_
    refine wl_y rfl (y_move rfl) ?_
    refine wl_y rfl (y_move rfl) ?_
    refine wl_q (fun _ _ => want_none) rfl (yq_spec (fst := []) (cap := []) _ FN42 (fat_c b s x wk (by omega)) rfl rfl rfl (by (repeat (first | exact pt_nil | apply pt0 | apply pt1 | apply pt2 | apply pt3 | apply pt4 | apply pt5 | apply pt6 | apply pt7 | apply pt8 | apply pt9 | apply pt10 | apply pt11 | apply pt12 | apply pt13 | apply pt14 | apply pt15 | apply pt16 | apply pt17))) (by (repeat (first | exact ro_nil | exact ro_rest (by assumption) | refine ro_cons (by first | exact .inl (by assumption) | exact ro_f0 (fun _ h => h) | exact ro_f0 (fun _ => slc_rsl) | exact ro_f1 (fun _ h => h) | exact ro_f1 (fun _ => slc_rsl) | exact ro_f2 (fun _ h => h) | exact ro_f2 (fun _ => slc_rsl) | exact ro_f3 (fun _ h => h) | exact ro_f3 (fun _ => slc_rsl) | exact ro_f4 (fun _ h => h) | exact ro_f4 (fun _ => slc_rsl) | exact ro_f5 (fun _ h => h) | exact ro_f5 (fun _ => slc_rsl) | exact ro_f6 (fun _ h => h) | exact ro_f6 (fun _ => slc_rsl)) ?_))) (fun _ _ => rfl) (fun _ _ _ h => h.sub (by (repeat (first | exact pt_nil | apply pt0 | apply pt1 | apply pt2 | apply pt3 | apply pt4 | apply pt5 | apply pt6 | apply pt7 | apply pt8 | apply pt9 | apply pt10 | apply pt11 | apply pt12 | apply pt13 | apply pt14 | apply pt15 | apply pt16 | apply pt17))))) ?_
    refine wl_y rfl (y_move rfl) ?_
    refine wl_y rfl (y_extract rfl rfl) ?_
    refine wl_y rfl (y_extract rfl rfl) ?_
    refine wl_y rfl (y_assign rfl) ?_
    refine wl_y rfl (y_assign rfl) ?_
    refine wl_nil ?_
    refine wq_then ?_
    refine wc_seq ?_
    refine wc_seq ?_
    refine wc_region ?_
    refine wl_y rfl (y_move rfl) ?_
    refine wl_nil ?_
    refine wq_then ?_
    refine wc_cond rfl (fun hc17 => ?_) (fun hc17 => ?_)
    ·
      refine wc_seq ?_
      refine wc_region ?_
      refine wl_y rfl (y_assign rfl) ?_
      refine wl_nil ?_
      refine wq_then ?_
      refine wc_ret ?_
      refine wq_then_ret ?_
      refine wq_ret1 rfl rfl (fun w hw => ?_)
      have e : s.join wk = (s, 16) := by rw [Sc.join, if_pos hc10, if_pos (by rw [← hx.has]; exact hc17)]
      rw [e]; exact ⟨(), trivial, rfl, rf_shut x hx (hw.sub (by (repeat (first | exact pt_nil | apply pt0 | apply pt1 | apply pt2 | apply pt3 | apply pt4 | apply pt5 | apply pt6 | apply pt7 | apply pt8 | apply pt9 | apply pt10 | apply pt11 | apply pt12 | apply pt13 | apply pt14 | apply pt15 | apply pt16 | apply pt17))))⟩
    ·
      refine wc_skip ?_
      refine wq_then ?_
      refine wc_seq ?_
      refine wc_region ?_
      refine wl_y rfl (y_assign rfl) ?_
      refine wl_nil ?_
      refine wq_then ?_
      refine wc_seq ?_
      refine wc_region ?_
      obtain ⟨i, hi⟩ : ∃ i, wAt x.ws wk = i := ⟨_, rfl⟩
      have hat := wAt_le x.ws wk
      rw [hi] at hat
      refine wl_have (p := x.ws.length ≤ x.wc) (by first | exact fun w hw => hw.slc_le [_, _, _] | exact fun w hw => hw.slc_le [_, _, _, _] | exact fun w hw => hw.slc_le [_, _, _, _, _] | exact fun w hw => hw.slc_le [_, _, _, _, _, _] | exact fun w hw => hw.slc_le [_, _, _, _, _, _, _]) (fun hcap => ?_)
      refine wl_same 5 (vI (i : Nat)) rfl (by rw [hi]) ?_
      refine wl_world (fun w hw => Hp.addNil (e := 83) (sz := 2) [] _ hw) ?_
      refine wl_y rfl (y_move rfl) ?_
      refine wl_y rfl (y_move rfl) ?_
      refine wl_y rfl (y_nilCheck rfl) ?_
      refine wl_y rfl (y_fieldAddr F54_2 rfl) ?_
      refine wl_y rfl (y_load NA51 rfl (by first | exact cell_blk [] rfl | exact cell_blk [_] rfl | exact cell_blk [_, _] rfl | exact cell_blk [_, _, _] rfl | exact cell_blk [_, _, _, _] rfl | exact cell_blk [_, _, _, _, _] rfl | exact cell_blk [_, _, _, _, _, _] rfl | exact cell_blk [_, _, _, _, _, _, _] rfl | exact cell_blk [_, _, _, _, _, _, _, _] rfl | exact cellR_blk (by assumption) rfl)) ?_
      refine wl_y rfl (y_move rfl) ?_
      refine wl_y rfl (y_sliceSl (i := 0) (j := i) Try.underlying51 T83 rfl rfl ⟨_, rfl, rfl⟩ (by omega) (by omega)) ?_
      first | refine wl_w (fun _ _ => want_none) rfl (yw_append [] Try.underlying51 Try.underlying51 (.inl ⟨_, rfl⟩) T83 rfl rfl rfl (fun w hw => Src.slice ((hw.seen []).mono fun _ h => slc_rsl (slc_take i h (by omega)))) (by omega) (by unfold maxLen; omega) (one_take (one_rows encW_one)) (by simp [rows_length encW_len]; omega)) (wl_ex fun p25 hp25 => ?_) | refine wl_w (fun _ _ => want_none) rfl (yw_append [] Try.underlying51 Try.underlying51 (.inl ⟨_, rfl⟩) T83 rfl rfl rfl (fun w hw => Src.slice ((hw.seen [_]).mono fun _ h => slc_rsl (slc_take i h (by omega)))) (by omega) (by unfold maxLen; omega) (one_take (one_rows encW_one)) (by simp [rows_length encW_len]; omega)) (wl_ex fun p25 hp25 => ?_) | refine wl_w (fun _ _ => want_none) rfl (yw_append [] Try.underlying51 Try.underlying51 (.inl ⟨_, rfl⟩) T83 rfl rfl rfl (fun w hw => Src.slice ((hw.seen [_, _]).mono fun _ h => slc_rsl (slc_take i h (by omega)))) (by omega) (by unfold maxLen; omega) (one_take (one_rows encW_one)) (by simp [rows_length encW_len]; omega)) (wl_ex fun p25 hp25 => ?_) | refine wl_w (fun _ _ => want_none) rfl (yw_append [] Try.underlying51 Try.underlying51 (.inl ⟨_, rfl⟩) T83 rfl rfl rfl (fun w hw => Src.slice ((hw.seen [_, _, _]).mono fun _ h => slc_rsl (slc_take i h (by omega)))) (by omega) (by unfold maxLen; omega) (one_take (one_rows encW_one)) (by simp [rows_length encW_len]; omega)) (wl_ex fun p25 hp25 => ?_) | refine wl_w (fun _ _ => want_none) rfl (yw_append [] Try.underlying51 Try.underlying51 (.inl ⟨_, rfl⟩) T83 rfl rfl rfl (fun w hw => Src.slice ((hw.seen [_, _, _, _]).mono fun _ h => slc_rsl (slc_take i h (by omega)))) (by omega) (by unfold maxLen; omega) (one_take (one_rows encW_one)) (by simp [rows_length encW_len]; omega)) (wl_ex fun p25 hp25 => ?_) | refine wl_w (fun _ _ => want_none) rfl (yw_append [] Try.underlying51 Try.underlying51 (.inl ⟨_, rfl⟩) T83 rfl rfl rfl (fun w hw => Src.slice ((hw.seen [_, _, _, _, _]).mono fun _ h => slc_rsl (slc_take i h (by omega)))) (by omega) (by unfold maxLen; omega) (one_take (one_rows encW_one)) (by simp [rows_length encW_len]; omega)) (wl_ex fun p25 hp25 => ?_) | refine wl_w (fun _ _ => want_none) rfl (yw_append [] Try.underlying51 Try.underlying51 (.inl ⟨_, rfl⟩) T83 rfl rfl rfl (fun w hw => Src.slice ((hw.seen [_, _, _, _, _, _]).mono fun _ h => slc_rsl (slc_take i h (by omega)))) (by omega) (by unfold maxLen; omega) (one_take (one_rows encW_one)) (by simp [rows_length encW_len]; omega)) (wl_ex fun p25 hp25 => ?_) | refine wl_w (fun _ _ => want_none) rfl (yw_append [] Try.underlying51 Try.underlying51 (.inl ⟨_, rfl⟩) T83 rfl rfl rfl (fun w hw => Src.slice ((hw.seen [_, _, _, _, _, _, _]).mono fun _ h => slc_rsl (slc_take i h (by omega)))) (by omega) (by unfold maxLen; omega) (one_take (one_rows encW_one)) (by simp [rows_length encW_len]; omega)) (wl_ex fun p25 hp25 => ?_) | refine wl_w (fun _ _ => want_none) rfl (yw_append [] Try.underlying51 Try.underlying51 (.inl ⟨_, rfl⟩) T83 rfl rfl rfl (fun w hw => Src.slice ((hw.seen [_, _, _, _, _, _, _, _]).mono fun _ h => slc_rsl (slc_take i h (by omega)))) (by omega) (by unfold maxLen; omega) (one_take (one_rows encW_one)) (by simp [rows_length encW_len]; omega)) (wl_ex fun p25 hp25 => ?_) | refine wl_w (fun _ _ => want_none) rfl (yw_append [] Try.underlying51 Try.underlying51 (.inl ⟨_, rfl⟩) T83 rfl rfl rfl (fun w hw => Src.slice ((hw.seen [_, _, _, _, _, _, _, _, _]).mono fun _ h => slc_rsl (slc_take i h (by omega)))) (by omega) (by unfold maxLen; omega) (one_take (one_rows encW_one)) (by simp [rows_length encW_len]; omega)) (wl_ex fun p25 hp25 => ?_) | refine wl_w (fun _ _ => want_none) rfl (yw_append [_] Try.underlying51 Try.underlying51 (.inl ⟨_, rfl⟩) T83 rfl rfl rfl (fun w hw => Src.slice ((hw.seen []).mono fun _ h => slc_rsl (slc_take i h (by omega)))) (by omega) (by unfold maxLen; omega) (one_take (one_rows encW_one)) (by simp [rows_length encW_len]; omega)) (wl_ex fun p25 hp25 => ?_) | refine wl_w (fun _ _ => want_none) rfl (yw_append [_] Try.underlying51 Try.underlying51 (.inl ⟨_, rfl⟩) T83 rfl rfl rfl (fun w hw => Src.slice ((hw.seen [_]).mono fun _ h => slc_rsl (slc_take i h (by omega)))) (by omega) (by unfold maxLen; omega) (one_take (one_rows encW_one)) (by simp [rows_length encW_len]; omega)) (wl_ex fun p25 hp25 => ?_) | refine wl_w (fun _ _ => want_none) rfl (yw_append [_] Try.underlying51 Try.underlying51 (.inl ⟨_, rfl⟩) T83 rfl rfl rfl (fun w hw => Src.slice ((hw.seen [_, _]).mono fun _ h => slc_rsl (slc_take i h (by omega)))) (by omega) (by unfold maxLen; omega) (one_take (one_rows encW_one)) (by simp [rows_length encW_len]; omega)) (wl_ex fun p25 hp25 => ?_) | refine wl_w (fun _ _ => want_none) rfl (yw_append [_] Try.underlying51 Try.underlying51 (.inl ⟨_, rfl⟩) T83 rfl rfl rfl (fun w hw => Src.slice ((hw.seen [_, _, _]).mono fun _ h => slc_rsl (slc_take i h (by omega)))) (by omega) (by unfold maxLen; omega) (one_take (one_rows encW_one)) (by simp [rows_length encW_len]; omega)) (wl_ex fun p25 hp25 => ?_) | refine wl_w (fun _ _ => want_none) rfl (yw_append [_] Try.underlying51 Try.underlying51 (.inl ⟨_, rfl⟩) T83 rfl rfl rfl (fun w hw => Src.slice ((hw.seen [_, _, _, _]).mono fun _ h => slc_rsl (slc_take i h (by omega)))) (by omega) (by unfold maxLen; omega) (one_take (one_rows encW_one)) (by simp [rows_length encW_len]; omega)) (wl_ex fun p25 hp25 => ?_) | refine wl_w (fun _ _ => want_none) rfl (yw_append [_] Try.underlying51 Try.underlying51 (.inl ⟨_, rfl⟩) T83 rfl rfl rfl (fun w hw => Src.slice ((hw.seen [_, _, _, _, _]).mono fun _ h => slc_rsl (slc_take i h (by omega)))) (by omega) (by unfold maxLen; omega) (one_take (one_rows encW_one)) (by simp [rows_length encW_len]; omega)) (wl_ex fun p25 hp25 => ?_) | refine wl_w (fun _ _ => want_none) rfl (yw_append [_] Try.underlying51 Try.underlying51 (.inl ⟨_, rfl⟩) T83 rfl rfl rfl (fun w hw => Src.slice ((hw.seen [_, _, _, _, _, _]).mono fun _ h => slc_rsl (slc_take i h (by omega)))) (by omega) (by unfold maxLen; omega) (one_take (one_rows encW_one)) (by simp [rows_length encW_len]; omega)) (wl_ex fun p25 hp25 => ?_) | refine wl_w (fun _ _ => want_none) rfl (yw_append [_] Try.underlying51 Try.underlying51 (.inl ⟨_, rfl⟩) T83 rfl rfl rfl (fun w hw => Src.slice ((hw.seen [_, _, _, _, _, _, _]).mono fun _ h => slc_rsl (slc_take i h (by omega)))) (by omega) (by unfold maxLen; omega) (one_take (one_rows encW_one)) (by simp [rows_length encW_len]; omega)) (wl_ex fun p25 hp25 => ?_) | refine wl_w (fun _ _ => want_none) rfl (yw_append [_] Try.underlying51 Try.underlying51 (.inl ⟨_, rfl⟩) T83 rfl rfl rfl (fun w hw => Src.slice ((hw.seen [_, _, _, _, _, _, _, _]).mono fun _ h => slc_rsl (slc_take i h (by omega)))) (by omega) (by unfold maxLen; omega) (one_take (one_rows encW_one)) (by simp [rows_length encW_len]; omega)) (wl_ex fun p25 hp25 => ?_) | refine wl_w (fun _ _ => want_none) rfl (yw_append [_] Try.underlying51 Try.underlying51 (.inl ⟨_, rfl⟩) T83 rfl rfl rfl (fun w hw => Src.slice ((hw.seen [_, _, _, _, _, _, _, _, _]).mono fun _ h => slc_rsl (slc_take i h (by omega)))) (by omega) (by unfold maxLen; omega) (one_take (one_rows encW_one)) (by simp [rows_length encW_len]; omega)) (wl_ex fun p25 hp25 => ?_)
      refine wl_y rfl (y_assign rfl) ?_
      refine wl_nil ?_
      refine wq_then ?_
      refine wc_seq ?_
      refine wc_region ?_
      refine wl_y rfl (y_move rfl) ?_
      refine wl_y rfl (y_move rfl) ?_
      refine wl_y rfl (y_build (cs := [_, _]) T83 PL83 rfl rfl rfl) ?_
      refine wl_w (fun _ _ => want_none) rfl (yw_buildSlice (cs := encW (wk, nilJs)) Try.underlying51 T83 rfl rfl rfl rfl rfl rfl rfl) (wl_ex fun b29 _ => ?_)
      first | refine wl_w (fun _ _ => want_none) rfl (yw_append [] Try.underlying51 Try.underlying51 (.inl ⟨_, rfl⟩) T83 rfl rfl rfl (fun w hw => Src.slice ((hw.seen []).mono fun _ => slc_rsl)) (by omega) (by unfold maxLen; omega) (by simp [Value.oneCell', encW]) rfl) (wl_ex fun p30 hp30 => ?_) | refine wl_w (fun _ _ => want_none) rfl (yw_append [_] Try.underlying51 Try.underlying51 (.inl ⟨_, rfl⟩) T83 rfl rfl rfl (fun w hw => Src.slice ((hw.seen []).mono fun _ => slc_rsl)) (by omega) (by unfold maxLen; omega) (by simp [Value.oneCell', encW]) rfl) (wl_ex fun p30 hp30 => ?_) | refine wl_w (fun _ _ => want_none) rfl (yw_append [_, _] Try.underlying51 Try.underlying51 (.inl ⟨_, rfl⟩) T83 rfl rfl rfl (fun w hw => Src.slice ((hw.seen []).mono fun _ => slc_rsl)) (by omega) (by unfold maxLen; omega) (by simp [Value.oneCell', encW]) rfl) (wl_ex fun p30 hp30 => ?_) | refine wl_w (fun _ _ => want_none) rfl (yw_append [_, _, _] Try.underlying51 Try.underlying51 (.inl ⟨_, rfl⟩) T83 rfl rfl rfl (fun w hw => Src.slice ((hw.seen []).mono fun _ => slc_rsl)) (by omega) (by unfold maxLen; omega) (by simp [Value.oneCell', encW]) rfl) (wl_ex fun p30 hp30 => ?_)
      refine wl_y rfl (y_assign rfl) ?_
      refine wl_nil ?_
      refine wq_then ?_
      refine wc_seq ?_
      refine wc_region ?_
      refine wl_y rfl (y_move rfl) ?_
      refine wl_y rfl (y_move rfl) ?_
      refine wl_y rfl (y_move rfl) ?_
      refine wl_y rfl (y_nilCheck rfl) ?_
      refine wl_y rfl (y_fieldAddr F54_2 rfl) ?_
      refine wl_y rfl (y_load NA51 rfl (by first | exact cell_blk [] rfl | exact cell_blk [_] rfl | exact cell_blk [_, _] rfl | exact cell_blk [_, _, _] rfl | exact cell_blk [_, _, _, _] rfl | exact cell_blk [_, _, _, _, _] rfl | exact cell_blk [_, _, _, _, _, _] rfl | exact cell_blk [_, _, _, _, _, _, _] rfl | exact cell_blk [_, _, _, _, _, _, _, _] rfl | exact cellR_blk (by assumption) rfl)) ?_
      refine wl_y rfl (y_move rfl) ?_
      refine wl_y rfl (y_sliceSl (i := i) (j := x.ws.length) Try.underlying51 T83 rfl ⟨_, rfl, rfl⟩ rfl (by omega) (by omega)) ?_
      first | refine wl_w (fun _ _ => want_none) rfl (yw_append [] Try.underlying51 Try.underlying51 (.inl ⟨_, rfl⟩) T83 rfl rfl rfl (fun w hw => Src.slice ((hw.seen []).mono fun _ h => slc_rsl (slc_cut i h (by omega)))) (by omega) (by unfold maxLen; omega) (one_drop (one_rows encW_one)) (by simp [rows_length encW_len]; omega)) (wl_ex fun p39 hp39 => ?_) | refine wl_w (fun _ _ => want_none) rfl (yw_append [] Try.underlying51 Try.underlying51 (.inl ⟨_, rfl⟩) T83 rfl rfl rfl (fun w hw => Src.slice ((hw.seen [_]).mono fun _ h => slc_rsl (slc_cut i h (by omega)))) (by omega) (by unfold maxLen; omega) (one_drop (one_rows encW_one)) (by simp [rows_length encW_len]; omega)) (wl_ex fun p39 hp39 => ?_) | refine wl_w (fun _ _ => want_none) rfl (yw_append [] Try.underlying51 Try.underlying51 (.inl ⟨_, rfl⟩) T83 rfl rfl rfl (fun w hw => Src.slice ((hw.seen [_, _]).mono fun _ h => slc_rsl (slc_cut i h (by omega)))) (by omega) (by unfold maxLen; omega) (one_drop (one_rows encW_one)) (by simp [rows_length encW_len]; omega)) (wl_ex fun p39 hp39 => ?_) | refine wl_w (fun _ _ => want_none) rfl (yw_append [] Try.underlying51 Try.underlying51 (.inl ⟨_, rfl⟩) T83 rfl rfl rfl (fun w hw => Src.slice ((hw.seen [_, _, _]).mono fun _ h => slc_rsl (slc_cut i h (by omega)))) (by omega) (by unfold maxLen; omega) (one_drop (one_rows encW_one)) (by simp [rows_length encW_len]; omega)) (wl_ex fun p39 hp39 => ?_) | refine wl_w (fun _ _ => want_none) rfl (yw_append [] Try.underlying51 Try.underlying51 (.inl ⟨_, rfl⟩) T83 rfl rfl rfl (fun w hw => Src.slice ((hw.seen [_, _, _, _]).mono fun _ h => slc_rsl (slc_cut i h (by omega)))) (by omega) (by unfold maxLen; omega) (one_drop (one_rows encW_one)) (by simp [rows_length encW_len]; omega)) (wl_ex fun p39 hp39 => ?_) | refine wl_w (fun _ _ => want_none) rfl (yw_append [] Try.underlying51 Try.underlying51 (.inl ⟨_, rfl⟩) T83 rfl rfl rfl (fun w hw => Src.slice ((hw.seen [_, _, _, _, _]).mono fun _ h => slc_rsl (slc_cut i h (by omega)))) (by omega) (by unfold maxLen; omega) (one_drop (one_rows encW_one)) (by simp [rows_length encW_len]; omega)) (wl_ex fun p39 hp39 => ?_) | refine wl_w (fun _ _ => want_none) rfl (yw_append [] Try.underlying51 Try.underlying51 (.inl ⟨_, rfl⟩) T83 rfl rfl rfl (fun w hw => Src.slice ((hw.seen [_, _, _, _, _, _]).mono fun _ h => slc_rsl (slc_cut i h (by omega)))) (by omega) (by unfold maxLen; omega) (one_drop (one_rows encW_one)) (by simp [rows_length encW_len]; omega)) (wl_ex fun p39 hp39 => ?_) | refine wl_w (fun _ _ => want_none) rfl (yw_append [] Try.underlying51 Try.underlying51 (.inl ⟨_, rfl⟩) T83 rfl rfl rfl (fun w hw => Src.slice ((hw.seen [_, _, _, _, _, _, _]).mono fun _ h => slc_rsl (slc_cut i h (by omega)))) (by omega) (by unfold maxLen; omega) (one_drop (one_rows encW_one)) (by simp [rows_length encW_len]; omega)) (wl_ex fun p39 hp39 => ?_) | refine wl_w (fun _ _ => want_none) rfl (yw_append [] Try.underlying51 Try.underlying51 (.inl ⟨_, rfl⟩) T83 rfl rfl rfl (fun w hw => Src.slice ((hw.seen [_, _, _, _, _, _, _, _]).mono fun _ h => slc_rsl (slc_cut i h (by omega)))) (by omega) (by unfold maxLen; omega) (one_drop (one_rows encW_one)) (by simp [rows_length encW_len]; omega)) (wl_ex fun p39 hp39 => ?_) | refine wl_w (fun _ _ => want_none) rfl (yw_append [] Try.underlying51 Try.underlying51 (.inl ⟨_, rfl⟩) T83 rfl rfl rfl (fun w hw => Src.slice ((hw.seen [_, _, _, _, _, _, _, _, _]).mono fun _ h => slc_rsl (slc_cut i h (by omega)))) (by omega) (by unfold maxLen; omega) (one_drop (one_rows encW_one)) (by simp [rows_length encW_len]; omega)) (wl_ex fun p39 hp39 => ?_) | refine wl_w (fun _ _ => want_none) rfl (yw_append [_] Try.underlying51 Try.underlying51 (.inl ⟨_, rfl⟩) T83 rfl rfl rfl (fun w hw => Src.slice ((hw.seen []).mono fun _ h => slc_rsl (slc_cut i h (by omega)))) (by omega) (by unfold maxLen; omega) (one_drop (one_rows encW_one)) (by simp [rows_length encW_len]; omega)) (wl_ex fun p39 hp39 => ?_) | refine wl_w (fun _ _ => want_none) rfl (yw_append [_] Try.underlying51 Try.underlying51 (.inl ⟨_, rfl⟩) T83 rfl rfl rfl (fun w hw => Src.slice ((hw.seen [_]).mono fun _ h => slc_rsl (slc_cut i h (by omega)))) (by omega) (by unfold maxLen; omega) (one_drop (one_rows encW_one)) (by simp [rows_length encW_len]; omega)) (wl_ex fun p39 hp39 => ?_) | refine wl_w (fun _ _ => want_none) rfl (yw_append [_] Try.underlying51 Try.underlying51 (.inl ⟨_, rfl⟩) T83 rfl rfl rfl (fun w hw => Src.slice ((hw.seen [_, _]).mono fun _ h => slc_rsl (slc_cut i h (by omega)))) (by omega) (by unfold maxLen; omega) (one_drop (one_rows encW_one)) (by simp [rows_length encW_len]; omega)) (wl_ex fun p39 hp39 => ?_) | refine wl_w (fun _ _ => want_none) rfl (yw_append [_] Try.underlying51 Try.underlying51 (.inl ⟨_, rfl⟩) T83 rfl rfl rfl (fun w hw => Src.slice ((hw.seen [_, _, _]).mono fun _ h => slc_rsl (slc_cut i h (by omega)))) (by omega) (by unfold maxLen; omega) (one_drop (one_rows encW_one)) (by simp [rows_length encW_len]; omega)) (wl_ex fun p39 hp39 => ?_) | refine wl_w (fun _ _ => want_none) rfl (yw_append [_] Try.underlying51 Try.underlying51 (.inl ⟨_, rfl⟩) T83 rfl rfl rfl (fun w hw => Src.slice ((hw.seen [_, _, _, _]).mono fun _ h => slc_rsl (slc_cut i h (by omega)))) (by omega) (by unfold maxLen; omega) (one_drop (one_rows encW_one)) (by simp [rows_length encW_len]; omega)) (wl_ex fun p39 hp39 => ?_) | refine wl_w (fun _ _ => want_none) rfl (yw_append [_] Try.underlying51 Try.underlying51 (.inl ⟨_, rfl⟩) T83 rfl rfl rfl (fun w hw => Src.slice ((hw.seen [_, _, _, _, _]).mono fun _ h => slc_rsl (slc_cut i h (by omega)))) (by omega) (by unfold maxLen; omega) (one_drop (one_rows encW_one)) (by simp [rows_length encW_len]; omega)) (wl_ex fun p39 hp39 => ?_) | refine wl_w (fun _ _ => want_none) rfl (yw_append [_] Try.underlying51 Try.underlying51 (.inl ⟨_, rfl⟩) T83 rfl rfl rfl (fun w hw => Src.slice ((hw.seen [_, _, _, _, _, _]).mono fun _ h => slc_rsl (slc_cut i h (by omega)))) (by omega) (by unfold maxLen; omega) (one_drop (one_rows encW_one)) (by simp [rows_length encW_len]; omega)) (wl_ex fun p39 hp39 => ?_) | refine wl_w (fun _ _ => want_none) rfl (yw_append [_] Try.underlying51 Try.underlying51 (.inl ⟨_, rfl⟩) T83 rfl rfl rfl (fun w hw => Src.slice ((hw.seen [_, _, _, _, _, _, _]).mono fun _ h => slc_rsl (slc_cut i h (by omega)))) (by omega) (by unfold maxLen; omega) (one_drop (one_rows encW_one)) (by simp [rows_length encW_len]; omega)) (wl_ex fun p39 hp39 => ?_) | refine wl_w (fun _ _ => want_none) rfl (yw_append [_] Try.underlying51 Try.underlying51 (.inl ⟨_, rfl⟩) T83 rfl rfl rfl (fun w hw => Src.slice ((hw.seen [_, _, _, _, _, _, _, _]).mono fun _ h => slc_rsl (slc_cut i h (by omega)))) (by omega) (by unfold maxLen; omega) (one_drop (one_rows encW_one)) (by simp [rows_length encW_len]; omega)) (wl_ex fun p39 hp39 => ?_) | refine wl_w (fun _ _ => want_none) rfl (yw_append [_] Try.underlying51 Try.underlying51 (.inl ⟨_, rfl⟩) T83 rfl rfl rfl (fun w hw => Src.slice ((hw.seen [_, _, _, _, _, _, _, _, _]).mono fun _ h => slc_rsl (slc_cut i h (by omega)))) (by omega) (by unfold maxLen; omega) (one_drop (one_rows encW_one)) (by simp [rows_length encW_len]; omega)) (wl_ex fun p39 hp39 => ?_)
      refine wl_y rfl (y_nilCheck rfl) ?_
      refine wl_y rfl (y_fieldAddr F54_2 rfl) ?_
      first | refine wl_u (yu_store [] (l' := [_, _, _, _]) T51 rfl rfl rfl rfl rfl rfl rfl) ?_ | refine wl_u (yu_store [_] (l' := [_, _, _, _]) T51 rfl rfl rfl rfl rfl rfl rfl) ?_ | refine wl_u (yu_store [_, _] (l' := [_, _, _, _]) T51 rfl rfl rfl rfl rfl rfl rfl) ?_ | refine wl_u (yu_store [_, _, _] (l' := [_, _, _, _]) T51 rfl rfl rfl rfl rfl rfl rfl) ?_ | refine wl_u (yu_store [_, _, _, _] (l' := [_, _, _, _]) T51 rfl rfl rfl rfl rfl rfl rfl) ?_ | refine wl_u (yu_store [_, _, _, _, _] (l' := [_, _, _, _]) T51 rfl rfl rfl rfl rfl rfl rfl) ?_ | refine wl_u (yu_store [_, _, _, _, _, _] (l' := [_, _, _, _]) T51 rfl rfl rfl rfl rfl rfl rfl) ?_ | refine wl_u (yu_store [_, _, _, _, _, _, _] (l' := [_, _, _, _]) T51 rfl rfl rfl rfl rfl rfl rfl) ?_ | refine wl_u (yu_store [_, _, _, _, _, _, _, _] (l' := [_, _, _, _]) T51 rfl rfl rfl rfl rfl rfl rfl) ?_
      refine wl_nil ?_
      refine wq_then ?_
      refine wc_seq ?_
      refine wc_region ?_
      refine wl_y rfl (y_assign rfl) ?_
      refine wl_nil ?_
      refine wq_then ?_
      refine wc_ret ?_
      refine wq_ret1 rfl rfl (fun w hw => ?_)
      have hno := hx.has wk
      rw [hc17] at hno
      have hnn : mget s.rows wk = none := by simpa using hno.symm
      have e : s.join wk = ({ s with rows := mput s.rows wk [] }, 0) := by rw [Sc.join, if_pos hc10, if_neg (by rw [hnn]; decide)]
      have e1 : (x.ws.take i ++ [(wk, nilJs)] ++ x.ws.drop i).length = 0 + (i - 0) + 1 + (x.ws.length - i) := by simp; omega
      have e2 : (x.ws.take i ++ [(wk, nilJs)] ++ x.ws.drop i).flatMap encW = [] ++ (x.ws.flatMap encW).take (i * 2) ++ encW (wk, nilJs) ++ (x.ws.flatMap encW).drop (i * 2) := by rw [rows_take encW_len _ (by omega), rows_drop encW_len _ (by omega), List.flatMap_append, List.flatMap_append, List.flatMap_singleton]; rfl
      have hup := ins_up hx.up hc17 nilJs
      rw [hi] at hup
      rw [e]
      refine ⟨(), trivial, rfl, rf_shut ⟨x.qb, x.tb, x.ja, x.jc, p39.1, p39.2, x.jobs, x.RI, x.ws.take i ++ [(wk, nilJs)] ++ x.ws.drop i⟩ (hx.turn rfl rfl hup (hx.ins hnn i)) ?_⟩
      have h9 := rows_ins i wk (As := [blk b (.cells #[.slice x.ja x.jobs.length x.jc, ptr x.qb, .slice p39.1 (0 + (i - 0) + 1 + (x.ws.length - i)) p39.2, ptr x.tb] 54 (0, 0)), slc 30 3 x.ja x.jobs.length x.jc (x.jobs.flatMap encJ), refA x.qb s.age x.RI, slc 83 2 p39.1 (0 + (i - 0) + 1 + (x.ws.length - i)) p39.2 ([] ++ (x.ws.flatMap encW).take (i * 2) ++ encW (wk, nilJs) ++ (x.ws.flatMap encW).drop (i * 2)), rtA x.tb s.t.ref]) (hw.sub (by (repeat (first | exact pt_nil | apply pt0 | apply pt1 | apply pt2 | apply pt3 | apply pt4 | apply pt5 | apply pt6 | apply pt7 | apply pt8 | apply pt9 | apply pt10 | apply pt11 | apply pt12 | apply pt13 | apply pt14 | apply pt15 | apply pt16 | apply pt17))))
      simp only [rfAs, rfC]
      rw [e1, e2]
      exact h9.sub (by (repeat (first | exact pt_nil | apply pt0 | apply pt1 | apply pt2 | apply pt3 | apply pt4 | apply pt5 | apply pt6 | apply pt7 | apply pt8 | apply pt9 | apply pt10 | apply pt11 | apply pt12 | apply pt13 | apply pt14 | apply pt15 | apply pt16 | apply pt17)))

set_option maxHeartbeats 1000000 in
theorem ftick_c (b : Nat) (s : Sc) (now : Int) (n : Int) (q : Nat) (hI : s.In n q) (h1 : 1 ≤ n) (h2 : n ≤ 1000000) (hq : q ≤ 490) (hrl : s.rows.length ≤ 1000) :
    Ctr Try.prog 23 #[ptr b, vI now] [] [rfA b s] (fun _ : Unit => True) (fun _ => vI (s.tick now).2) (fun _ => [rfA b (s.tick now).1]) := by
  refine spec_start (n := 27) [(0, ptr b), (1, vI now)] Try.func23 rfl rfl ⟨rfl, rfl, trivial⟩ rfl ?_
  intro w0 K hR
  refine wc_ex rf_open (fun x => ?_)
  obtain ⟨x, hx⟩ := x
  refine wc_world (S' := Hp w0 K (rfAs b s x)) (fun _ hw => hw) ?_
  refine wc_seq ?_
  refine wc_region ?_
  refine wl_y rfl (y_assign rfl) ?_
  refine wl_nil ?_
  refine wq_then ?_
  refine wc_seq ?_
  refine wc_region ?_
  refine wl_y rfl (y_move rfl) ?_
  refine wl_y rfl (y_nilCheck rfl) ?_
  refine wl_y rfl (y_fieldAddr F54_3 rfl) ?_
  refine wl_y rfl (y_load NA52 rfl (by first | exact cell_blk [] rfl | exact cell_blk [_] rfl | exact cell_blk [_, _] rfl | exact cell_blk [_, _, _] rfl | exact cell_blk [_, _, _, _] rfl | exact cell_blk [_, _, _, _, _] rfl | exact cell_blk [_, _, _, _, _, _] rfl | exact cell_blk [_, _, _, _, _, _, _] rfl | exact cell_blk [_, _, _, _, _, _, _, _] rfl | exact cellR_blk (by assumption) rfl)) ?_
  refine wl_y rfl (y_move rfl) ?_
  refine wl_c (fun _ _ => want_none) rfl (yc_spec (fst := []) (cap := []) _ FN48 (rexp_s x.tb s.t now (hI.rok h1 h2 hq) hI.good) rfl rfl rfl (by (repeat (first | exact pt_nil | apply pt0 | apply pt1 | apply pt2 | apply pt3 | apply pt4 | apply pt5 | apply pt6 | apply pt7 | apply pt8 | apply pt9 | apply pt10 | apply pt11 | apply pt12 | apply pt13 | apply pt14 | apply pt15 | apply pt16 | apply pt17))) (by (repeat (first | exact ro_nil | exact ro_rest (by assumption) | refine ro_cons (by first | exact .inl (by assumption) | exact ro_f0 (fun _ h => h) | exact ro_f0 (fun _ => slc_rsl) | exact ro_f1 (fun _ h => h) | exact ro_f1 (fun _ => slc_rsl) | exact ro_f2 (fun _ h => h) | exact ro_f2 (fun _ => slc_rsl) | exact ro_f3 (fun _ h => h) | exact ro_f3 (fun _ => slc_rsl) | exact ro_f4 (fun _ h => h) | exact ro_f4 (fun _ => slc_rsl) | exact ro_f5 (fun _ h => h) | exact ro_f5 (fun _ => slc_rsl) | exact ro_f6 (fun _ h => h) | exact ro_f6 (fun _ => slc_rsl)) ?_)))) (wl_ex fun x12 hx12 => ?_)
  refine wl_y rfl (y_assign rfl) ?_
  refine wl_nil ?_
  refine wq_then ?_
  refine wc_seq ?_
  refine wc_seq ?_
  refine wc_region ?_
  have htl := take_len2 s.t (isOver now)
  have hll := hI.lens.2.2
  have hq1 : ({ s with t := (s.t.take (isOver now)).1 } : Sc).Qk (s.t.take (isOver now)).2.length := hI.qk' hq rfl rfl rfl (by omega)
  refine wl_world (S' := Hp w0 K [rfA b ({ s with t := (s.t.take (isOver now)).1 } : Sc), slc 30 3 x12.1 (s.t.take (isOver now)).2.length x12.2 ((s.t.take (isOver now)).2.flatMap encJ)]) (fun w hw => rf_shut x (hx.tab _) (hw.sub (by (repeat (first | exact pt_nil | apply pt0 | apply pt1 | apply pt2 | apply pt3 | apply pt4 | apply pt5 | apply pt6 | apply pt7 | apply pt8 | apply pt9 | apply pt10 | apply pt11 | apply pt12 | apply pt13 | apply pt14 | apply pt15 | apply pt16 | apply pt17))))) ?_
  refine wl_y rfl (y_assign rfl) ?_
  refine wl_nil ?_
  refine wq_then ?_
  refine wc_block ?_
  refine wc_loop (α := Nat) (fun y => y ≤ (s.t.take (isOver now)).2.length) [(0, _), (5, _)] (fun y => [(6, vI y)]) (fun y => Hp w0 K [rfA b (({ s with t := (s.t.take (isOver now)).1 } : Sc).again ((s.t.take (isOver now)).2.take y)), slc 30 3 x12.1 (s.t.take (isOver now)).2.length x12.2 ((s.t.take (isOver now)).2.flatMap encJ)]) (fun y => (s.t.take (isOver now)).2.length - y) 0 ?_ ⟨rfl, rfl, rfl, trivial⟩ ?_ ?_
  · exact Nat.zero_le _
  · exact fun w hw => (show Hp w0 K [rfA b ({ s with t := (s.t.take (isOver now)).1 } : Sc), slc 30 3 x12.1 (s.t.take (isOver now)).2.length x12.2 ((s.t.take (isOver now)).2.flatMap encJ)] w from hw.sub (by (repeat (first | exact pt_nil | apply pt0 | apply pt1 | apply pt2 | apply pt3 | apply pt4 | apply pt5 | apply pt6 | apply pt7 | apply pt8 | apply pt9 | apply pt10 | apply pt11 | apply pt12 | apply pt13 | apply pt14 | apply pt15 | apply pt16 | apply pt17))))
  · intro i hi
    refine wc_seq ?_
    refine wc_seq ?_
    refine wc_region ?_
    refine wl_y rfl (y_move rfl) ?_
    refine wl_y rfl (y_move rfl) ?_
    refine wl_y rfl (y_lenSl Try.underlying49 rfl) ?_
    refine wl_y rfl (y_lss rfl rfl) ?_
    refine wl_nil ?_
    refine wq_then ?_
    refine wc_cond rfl (fun hc16 => ?_) (fun hc16 => ?_)
    ·
      simp at hc16
      refine wc_skip ?_
      refine wq_then ?_
      refine wc_seq ?_
      refine wc_block ?_
      refine wc_region ?_
      obtain ⟨z, hz⟩ : ∃ z, (s.t.take (isOver now)).2[i]? = some z := ⟨_, List.getElem?_eq_getElem (by omega)⟩
      have hq2 := (hq1).some i (by omega)
      refine wl_y rfl (y_move rfl) ?_
      refine wl_y rfl (y_move rfl) ?_
      refine wl_y rfl (y_move rfl) ?_
      refine wl_y rfl (y_indexAddr Try.underlying49 T30 rfl rfl rfl (by omega) (by first | assumption | exact fun _ _ => rfl | exact fun w hw => hw.slc_isSome [] (by omega) | exact fun w hw => hw.slc_isSome [_] (by omega) | exact fun w hw => hw.slc_isSome [_, _] (by omega) | exact fun w hw => hw.slc_isSome [_, _, _] (by omega) | exact fun w hw => hw.slc_isSome [_, _, _, _] (by omega) | exact fun w hw => hw.slc_isSome [_, _, _, _, _] (by omega) | exact fun w hw => hw.slc_isSome [_, _, _, _, _, _] (by omega) | exact fun w hw => hw.slc_isSome [_, _, _, _, _, _, _] (by omega) | exact fun w hw => hw.slc_isSome [_, _, _, _, _, _, _, _] (by omega))) ?_
      refine wl_y rfl (y_loadAgg (l := encJ z) AG30 rfl rfl (by first | exact agg_own [] (fun i u h => rows_get encJ_len hz h) | exact agg_own [_] (fun i u h => rows_get encJ_len hz h) | exact agg_own [_, _] (fun i u h => rows_get encJ_len hz h) | exact agg_own [_, _, _] (fun i u h => rows_get encJ_len hz h) | exact agg_own [_, _, _, _] (fun i u h => rows_get encJ_len hz h) | exact agg_own [_, _, _, _, _] (fun i u h => rows_get encJ_len hz h) | exact agg_own [_, _, _, _, _, _] (fun i u h => rows_get encJ_len hz h) | exact agg_own [_, _, _, _, _, _, _] (fun i u h => rows_get encJ_len hz h) | exact agg_own [_, _, _, _, _, _, _, _] (fun i u h => rows_get encJ_len hz h))) ?_
      refine wl_c (fun _ _ => want_none) rfl (yc_spec (fst := []) (cap := []) _ FN40 (fpush_c b (({ s with t := (s.t.take (isOver now)).1 } : Sc).again ((s.t.take (isOver now)).2.take i)) z (hq2.mono (by omega))) rfl rfl rfl (by (repeat (first | exact pt_nil | apply pt0 | apply pt1 | apply pt2 | apply pt3 | apply pt4 | apply pt5 | apply pt6 | apply pt7 | apply pt8 | apply pt9 | apply pt10 | apply pt11 | apply pt12 | apply pt13 | apply pt14 | apply pt15 | apply pt16 | apply pt17))) (by (repeat (first | exact ro_nil | exact ro_rest (by assumption) | refine ro_cons (by first | exact .inl (by assumption) | exact ro_f0 (fun _ h => h) | exact ro_f0 (fun _ => slc_rsl) | exact ro_f1 (fun _ h => h) | exact ro_f1 (fun _ => slc_rsl) | exact ro_f2 (fun _ h => h) | exact ro_f2 (fun _ => slc_rsl) | exact ro_f3 (fun _ h => h) | exact ro_f3 (fun _ => slc_rsl) | exact ro_f4 (fun _ h => h) | exact ro_f4 (fun _ => slc_rsl) | exact ro_f5 (fun _ h => h) | exact ro_f5 (fun _ => slc_rsl) | exact ro_f6 (fun _ h => h) | exact ro_f6 (fun _ => slc_rsl)) ?_)))) (wl_ex fun x24 hx24 => ?_)
      refine wl_nil ?_
      refine wq_block_normal ?_
      refine wq_then ?_
      refine wc_region ?_
      refine wl_y rfl (y_move rfl) ?_
      refine wl_y rfl (y_add rfl rfl (by omega)) ?_
      refine wl_y rfl (y_assign rfl) ?_
      refine wl_nil ?_
      have e := again_next (s := ({ s with t := (s.t.take (isOver now)).1 } : Sc)) hz
      exact wq_round (i + 1) (by omega) (by omega) ⟨rfl, rfl, rfl, trivial⟩ (fun w hw => by rw [e]; exact hw.sub (by (repeat (first | exact pt_nil | apply pt0 | apply pt1 | apply pt2 | apply pt3 | apply pt4 | apply pt5 | apply pt6 | apply pt7 | apply pt8 | apply pt9 | apply pt10 | apply pt11 | apply pt12 | apply pt13 | apply pt14 | apply pt15 | apply pt16 | apply pt17))))
    ·
      simp at hc16
      refine wc_exit ?_
      refine wq_then_exit (wq_then_exit (wq_block_exit ?_))
      refine wq_then ?_
      refine wc_seq ?_
      refine wc_region ?_
      refine wl_y rfl (y_move rfl) ?_
      refine wl_y rfl (y_lenSl Try.underlying49 rfl) ?_
      refine wl_y rfl (y_assign rfl) ?_
      refine wl_nil ?_
      refine wq_then ?_
      refine wc_ret ?_
      refine wq_ret1 rfl rfl (fun w hw => ?_)
      obtain rfl : i = (s.t.take (isOver now)).2.length := by omega
      rw [List.take_length] at hw
      exact ⟨(), trivial, rfl, hw.sub (by (repeat (first | exact pt_nil | apply pt0 | apply pt1 | apply pt2 | apply pt3 | apply pt4 | apply pt5 | apply pt6 | apply pt7 | apply pt8 | apply pt9 | apply pt10 | apply pt11 | apply pt12 | apply pt13 | apply pt14 | apply pt15 | apply pt16 | apply pt17)))⟩

set_option maxHeartbeats 1000000 in
theorem fwait_c (b : Nat) (s : Sc) (x : Rp) (hx : RRel s x.jobs x.RI x.ws) (oc ot : Option Addr × Nat) (n : Int) (q : Nat) (hI : s.In n q) (h1 : 1 ≤ n) (h2 : n ≤ 1000000) (hq : q ≤ 490) (hrl : s.rows.length ≤ 1000) :
    Ctr Try.prog 24 #[ptr b] [] (rfAs2 b s x oc ot) (fun _ : Unit => True) (fun _ => vI (s.waiting : Nat)) (fun _ => rfAs2 b s x oc ot) := by
  refine spec_start (n := 34) [(0, ptr b)] Try.func24 rfl rfl ⟨rfl, trivial⟩ rfl ?_
  intro w0 K hR
  have hwl := hx.wlen
  refine wc_seq ?_
  refine wc_region ?_
  refine wl_y rfl (y_assign rfl) ?_
  refine wl_nil ?_
  refine wq_then ?_
  refine wc_seq ?_
  refine wc_region ?_
  refine wl_y rfl (y_move rfl) ?_
  refine wl_y rfl (y_nilCheck rfl) ?_
  refine wl_y rfl (y_fieldAddr F54_1 rfl) ?_
  refine wl_y rfl (y_load NA50 rfl (by first | exact cell_blk [] rfl | exact cell_blk [_] rfl | exact cell_blk [_, _] rfl | exact cell_blk [_, _, _] rfl | exact cell_blk [_, _, _, _] rfl | exact cell_blk [_, _, _, _, _] rfl | exact cell_blk [_, _, _, _, _, _] rfl | exact cell_blk [_, _, _, _, _, _, _] rfl | exact cell_blk [_, _, _, _, _, _, _, _] rfl | exact cellR_blk (by assumption) rfl)) ?_
  refine wl_y rfl (y_nilCheck rfl) ?_
  refine wl_y rfl (y_fieldAddr F89_1 rfl) ?_
  refine wl_y rfl (y_load NA87 rfl (by first | exact cell_blk [] rfl | exact cell_blk [_] rfl | exact cell_blk [_, _] rfl | exact cell_blk [_, _, _] rfl | exact cell_blk [_, _, _, _] rfl | exact cell_blk [_, _, _, _, _] rfl | exact cell_blk [_, _, _, _, _, _] rfl | exact cell_blk [_, _, _, _, _, _, _] rfl | exact cell_blk [_, _, _, _, _, _, _, _] rfl | exact cellR_blk (by assumption) rfl)) ?_
  refine wl_y rfl (y_lenSl Try.underlying87 rfl) ?_
  refine wl_y rfl (y_assign rfl) ?_
  refine wl_nil ?_
  refine wq_then ?_
  refine wc_seq ?_
  refine wc_seq ?_
  refine wc_region ?_
  refine wl_y rfl (y_assign rfl) ?_
  refine wl_nil ?_
  refine wq_then ?_
  refine wc_block ?_
  refine wc_loop (α := Nat) (fun y => y ≤ x.ws.length) [(0, _)] (fun y => [(3, vI (x.RI.length + ((x.ws.take y).map (·.2.xs.length)).sum : Nat)), (4, vI y)]) (fun y => Hp w0 K (rfAs2 b s x oc ot)) (fun y => x.ws.length - y) 0 ?_ ⟨rfl, rfl, rfl, trivial⟩ ?_ ?_
  · exact Nat.zero_le _
  · exact fun w hw => hw
  · intro i hi
    refine wc_seq ?_
    refine wc_seq ?_
    refine wc_region ?_
    refine wl_y rfl (y_move rfl) ?_
    refine wl_y rfl (y_move rfl) ?_
    refine wl_y rfl (y_nilCheck rfl) ?_
    refine wl_y rfl (y_fieldAddr F54_2 rfl) ?_
    refine wl_y rfl (y_load NA51 rfl (by first | exact cell_blk [] rfl | exact cell_blk [_] rfl | exact cell_blk [_, _] rfl | exact cell_blk [_, _, _] rfl | exact cell_blk [_, _, _, _] rfl | exact cell_blk [_, _, _, _, _] rfl | exact cell_blk [_, _, _, _, _, _] rfl | exact cell_blk [_, _, _, _, _, _, _] rfl | exact cell_blk [_, _, _, _, _, _, _, _] rfl | exact cellR_blk (by assumption) rfl)) ?_
    refine wl_y rfl (y_lenSl Try.underlying51 rfl) ?_
    refine wl_y rfl (y_lss rfl rfl) ?_
    refine wl_nil ?_
    refine wq_then ?_
    refine wc_cond rfl (fun hc19 => ?_) (fun hc19 => ?_)
    ·
      simp at hc19
      refine wc_skip ?_
      refine wq_then ?_
      refine wc_seq ?_
      refine wc_block ?_
      refine wc_region ?_
      obtain ⟨p, hp⟩ : ∃ p, x.ws[i]? = some p := ⟨_, List.getElem?_eq_getElem (by omega)⟩
      have hs := sum_take (·.2.xs.length) hp
      have hs2 := sum_take_le (·.2.xs.length) x.ws (i + 1)
      have hw9 := hx.sum
      have hw8 := waiting_le hI
      refine wl_y rfl (y_move rfl) ?_
      refine wl_y rfl (y_move rfl) ?_
      refine wl_y rfl (y_nilCheck rfl) ?_
      refine wl_y rfl (y_fieldAddr F54_2 rfl) ?_
      refine wl_y rfl (y_load NA51 rfl (by first | exact cell_blk [] rfl | exact cell_blk [_] rfl | exact cell_blk [_, _] rfl | exact cell_blk [_, _, _] rfl | exact cell_blk [_, _, _, _] rfl | exact cell_blk [_, _, _, _, _] rfl | exact cell_blk [_, _, _, _, _, _] rfl | exact cell_blk [_, _, _, _, _, _, _] rfl | exact cell_blk [_, _, _, _, _, _, _, _] rfl | exact cellR_blk (by assumption) rfl)) ?_
      refine wl_y rfl (y_move rfl) ?_
      refine wl_y rfl (y_indexAddr Try.underlying51 T83 rfl rfl rfl (by omega) (by first | assumption | exact fun _ _ => rfl | exact fun w hw => hw.slc_isSome [] (by omega) | exact fun w hw => hw.slc_isSome [_] (by omega) | exact fun w hw => hw.slc_isSome [_, _] (by omega) | exact fun w hw => hw.slc_isSome [_, _, _] (by omega) | exact fun w hw => hw.slc_isSome [_, _, _, _] (by omega) | exact fun w hw => hw.slc_isSome [_, _, _, _, _] (by omega) | exact fun w hw => hw.slc_isSome [_, _, _, _, _, _] (by omega) | exact fun w hw => hw.slc_isSome [_, _, _, _, _, _, _] (by omega) | exact fun w hw => hw.slc_isSome [_, _, _, _, _, _, _, _] (by omega))) ?_
      refine wl_y rfl (y_fieldAddr_adr F83_1 rfl) ?_
      refine wl_y rfl (y_load NA49 rfl (by first | exact cell_own [] (rows_get encW_len hp rfl) | exact cell_own [_] (rows_get encW_len hp rfl) | exact cell_own [_, _] (rows_get encW_len hp rfl) | exact cell_own [_, _, _] (rows_get encW_len hp rfl) | exact cell_own [_, _, _, _] (rows_get encW_len hp rfl) | exact cell_own [_, _, _, _, _] (rows_get encW_len hp rfl) | exact cell_own [_, _, _, _, _, _] (rows_get encW_len hp rfl) | exact cell_own [_, _, _, _, _, _, _] (rows_get encW_len hp rfl) | exact cell_own [_, _, _, _, _, _, _, _] (rows_get encW_len hp rfl))) ?_
      refine wl_y rfl (y_lenSl Try.underlying49 rfl) ?_
      refine wl_y rfl (y_add rfl rfl (by omega)) ?_
      refine wl_y rfl (y_assign rfl) ?_
      refine wl_nil ?_
      refine wq_block_normal ?_
      refine wq_then ?_
      refine wc_region ?_
      refine wl_y rfl (y_move rfl) ?_
      refine wl_y rfl (y_add rfl rfl (by omega)) ?_
      refine wl_y rfl (y_assign rfl) ?_
      refine wl_nil ?_
      refine wq_same 3 (vI (x.RI.length + ((x.ws.take (i + 1)).map (·.2.xs.length)).sum : Nat)) rfl (by rw [hs]; congr 1; omega) ?_
      exact wq_round (i + 1) (by omega) (by omega) ⟨rfl, rfl, rfl, trivial⟩ (fun w hw => hw)
    ·
      simp at hc19
      refine wc_exit ?_
      refine wq_then_exit (wq_then_exit (wq_block_exit ?_))
      refine wq_then ?_
      refine wc_seq ?_
      refine wc_region ?_
      refine wl_y rfl (y_move rfl) ?_
      refine wl_y rfl (y_assign rfl) ?_
      refine wl_nil ?_
      refine wq_then ?_
      refine wc_ret ?_
      refine wq_ret1 rfl rfl (fun w hw => ?_)
      obtain rfl : i = x.ws.length := by omega
      rw [List.take_length, ← hx.sum]
      exact ⟨(), trivial, rfl, hw⟩

end Go.Proofs.Ytfnpjmlpiedgdaa
