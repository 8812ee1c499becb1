/-
  Walks: nil ones, the examples.
-/
import Derived.Test.YtfnpjmlpiedgdaaSH
import Derived.Test.YtfnpjmlpiedgdaaEngConv
namespace Go.Proofs.Ytfnpjmlpiedgdaa
open Go.Eng

set_option maxHeartbeats 1000000 in
theorem snext_nil (s : Str) (n : Int) :
    Ctr Try.prog 11 #[.pointer none, vS s, vI n] [] [] (fun _ : Unit => True) (fun _ => .tuple #[agL noL, vI 2]) (fun _ => []) := by
  refine spec_start (n := 53) [(0, .pointer none), (1, vS s), (2, vI n)] Try.func11 rfl rfl ⟨rfl, rfl, rfl, trivial⟩ rfl ?_
  intro w0 K hR
  refine wc_seq ?_
  refine wc_region ?_
  refine wl_w (fun _ _ => want_none) rfl (yw_alloc T36 rfl) (wl_ex fun b6 _ => ?_)
  refine wl_y rfl (y_assign rfl) ?_
  refine wl_nil ?_
  refine wq_then ?_
  refine wc_seq ?_
  refine wc_seq ?_
  refine wc_region ?_
  refine wl_y rfl (y_move rfl) ?_
  refine wl_y rfl (y_eqlP Try.underlying23 rfl rfl) ?_
  refine wl_nil ?_
  refine wq_then ?_
  refine wc_known 13 true rfl (rfl) ?_
  refine wc_cond_true rfl ?_
  refine wc_seq ?_
  refine wc_region ?_
  refine wl_y rfl (y_build (cs := [_, _, _, _, _, _]) T36 PL36 rfl rfl rfl) ?_
  first | refine wl_u (yu_storeAgg [] (l' := [_, _, _, _, _, _]) T36 rfl rfl rfl (by simp [Value.oneCell', encL]) rfl rfl) ?_ | refine wl_u (yu_storeAgg [_] (l' := [_, _, _, _, _, _]) T36 rfl rfl rfl (by simp [Value.oneCell', encL]) rfl rfl) ?_ | refine wl_u (yu_storeAgg [_, _] (l' := [_, _, _, _, _, _]) T36 rfl rfl rfl (by simp [Value.oneCell', encL]) rfl rfl) ?_
  refine wl_y rfl (y_assign rfl) ?_
  refine wl_nil ?_
  refine wq_then ?_
  refine wc_ret ?_
  refine wq_then_ret ?_
  refine wq_retC2 (l := [_, _, _, _, _, _]) AG36 rfl rfl rfl rfl (by first | exact cells_blk [] rfl | exact cells_blk [_] rfl | exact cells_blk [_, _] rfl | exact cells_blk [_, _, _] rfl) (fun w hw => ?_)
  exact ⟨(), trivial, rfl, hw.bare⟩

set_option maxHeartbeats 1000000 in
theorem sadd_nil (j : Jb) :
    Ctr Try.prog 9 #[.pointer none, agJ j] [] [] (fun _ : Unit => True) (fun _ => vI 2) (fun _ => []) := by
  refine spec_start (n := 36) [(0, .pointer none), (1, agJ j)] Try.func9 rfl rfl ⟨rfl, rfl, trivial⟩ rfl ?_
  intro w0 K hR
  refine wc_seq ?_
  refine wc_region ?_
  refine wl_w (fun _ _ => want_none) rfl (yw_box rfl rfl) (wl_ex fun b3 _ => ?_)
  refine wl_y rfl (y_assign rfl) ?_
  refine wl_nil ?_
  refine wq_then ?_
  refine wc_seq ?_
  refine wc_block ?_
  refine wc_seq ?_
  refine wc_region ?_
  refine wl_y rfl (y_move rfl) ?_
  refine wl_y rfl (y_eqlP Try.underlying23 rfl rfl) ?_
  refine wl_y rfl (y_assign rfl) ?_
  refine wl_nil ?_
  refine wq_then ?_
  refine wc_known 6 true rfl (rfl) ?_
  refine wc_cond_true rfl ?_
  refine wc_seq ?_
  refine wc_region ?_
  refine wl_y rfl (y_assign rfl) ?_
  refine wl_nil ?_
  refine wq_then ?_
  refine wc_ret ?_
  refine wq_block_ret (wq_then_ret ?_)
  refine wq_ret1 rfl rfl (fun w hw => ?_)
  exact ⟨(), trivial, rfl, hw.bare⟩

set_option maxHeartbeats 1000000 in
theorem sjoin_nil (s : Str) :
    Ctr Try.prog 10 #[.pointer none, vS s] [] [] (fun _ : Unit => True) (fun _ => vI 2) (fun _ => []) := by
  refine spec_start (n := 30) [(0, .pointer none), (1, vS s)] Try.func10 rfl rfl ⟨rfl, rfl, trivial⟩ rfl ?_
  intro w0 K hR
  refine wc_seq ?_
  refine wc_region ?_
  refine wl_y rfl (y_assign rfl) ?_
  refine wl_nil ?_
  refine wq_then ?_
  refine wc_seq ?_
  refine wc_seq ?_
  refine wc_region ?_
  refine wl_y rfl (y_move rfl) ?_
  refine wl_y rfl (y_eqlP Try.underlying23 rfl rfl) ?_
  refine wl_nil ?_
  refine wq_then ?_
  refine wc_known 9 true rfl (rfl) ?_
  refine wc_cond_true rfl ?_
  refine wc_seq ?_
  refine wc_region ?_
  refine wl_y rfl (y_assign rfl) ?_
  refine wl_nil ?_
  refine wq_then ?_
  refine wc_ret ?_
  refine wq_then_ret ?_
  refine wq_ret1 rfl rfl (fun w hw => ?_)
  exact ⟨(), trivial, rfl, hw.bare⟩

set_option maxHeartbeats 1000000 in
theorem sleave_nil (s : Str) :
    Ctr Try.prog 12 #[.pointer none, vS s] [] [] (fun _ : Unit => True) (fun _ => vI 2) (fun _ => []) := by
  refine spec_start (n := 36) [(0, .pointer none), (1, vS s)] Try.func12 rfl rfl ⟨rfl, rfl, trivial⟩ rfl ?_
  intro w0 K hR
  refine wc_seq ?_
  refine wc_region ?_
  refine wl_y rfl (y_assign rfl) ?_
  refine wl_nil ?_
  refine wq_then ?_
  refine wc_seq ?_
  refine wc_seq ?_
  refine wc_region ?_
  refine wl_y rfl (y_move rfl) ?_
  refine wl_y rfl (y_eqlP Try.underlying23 rfl rfl) ?_
  refine wl_nil ?_
  refine wq_then ?_
  refine wc_known 8 true rfl (rfl) ?_
  refine wc_cond_true rfl ?_
  refine wc_seq ?_
  refine wc_region ?_
  refine wl_y rfl (y_assign rfl) ?_
  refine wl_nil ?_
  refine wq_then ?_
  refine wc_ret ?_
  refine wq_then_ret ?_
  refine wq_ret1 rfl rfl (fun w hw => ?_)
  exact ⟨(), trivial, rfl, hw.bare⟩

set_option maxHeartbeats 1000000 in
theorem sfinish_nil (s : Str) (n : Int) :
    Ctr Try.prog 15 #[.pointer none, vS s, vI n] [] [] (fun _ : Unit => True) (fun _ => vI 2) (fun _ => []) := by
  refine spec_start (n := 25) [(0, .pointer none), (1, vS s), (2, vI n)] Try.func15 rfl rfl ⟨rfl, rfl, rfl, trivial⟩ rfl ?_
  intro w0 K hR
  refine wc_seq ?_
  refine wc_region ?_
  refine wl_y rfl (y_assign rfl) ?_
  refine wl_nil ?_
  refine wq_then ?_
  refine wc_seq ?_
  refine wc_seq ?_
  refine wc_region ?_
  refine wl_y rfl (y_move rfl) ?_
  refine wl_y rfl (y_eqlP Try.underlying23 rfl rfl) ?_
  refine wl_nil ?_
  refine wq_then ?_
  refine wc_known 9 true rfl (rfl) ?_
  refine wc_cond_true rfl ?_
  refine wc_seq ?_
  refine wc_region ?_
  refine wl_y rfl (y_assign rfl) ?_
  refine wl_nil ?_
  refine wq_then ?_
  refine wc_ret ?_
  refine wq_then_ret ?_
  refine wq_ret1 rfl rfl (fun w hw => ?_)
  exact ⟨(), trivial, rfl, hw.bare⟩

set_option maxHeartbeats 1000000 in
theorem stick_nil (n : Int) :
    Ctr Try.prog 22 #[.pointer none, vI n] [] [] (fun _ : Unit => True) (fun _ => vI 0) (fun _ => []) := by
  refine spec_start (n := 19) [(0, .pointer none), (1, vI n)] Try.func22 rfl rfl ⟨rfl, rfl, trivial⟩ rfl ?_
  intro w0 K hR
  refine wc_seq ?_
  refine wc_region ?_
  refine wl_y rfl (y_assign rfl) ?_
  refine wl_nil ?_
  refine wq_then ?_
  refine wc_seq ?_
  refine wc_seq ?_
  refine wc_region ?_
  refine wl_y rfl (y_move rfl) ?_
  refine wl_y rfl (y_eqlP Try.underlying23 rfl rfl) ?_
  refine wl_nil ?_
  refine wq_then ?_
  refine wc_known 7 true rfl (rfl) ?_
  refine wc_cond_true rfl ?_
  refine wc_seq ?_
  refine wc_region ?_
  refine wl_y rfl (y_assign rfl) ?_
  refine wl_nil ?_
  refine wq_then ?_
  refine wc_ret ?_
  refine wq_then_ret ?_
  refine wq_ret1 rfl rfl (fun w hw => ?_)
  exact ⟨(), trivial, rfl, hw.bare⟩

set_option maxHeartbeats 1000000 in
theorem swait_nil  :
    Ctr Try.prog 14 #[.pointer none] [] [] (fun _ : Unit => True) (fun _ => vI 0) (fun _ => []) := by
  refine spec_start (n := 27) [(0, .pointer none)] Try.func14 rfl rfl ⟨rfl, trivial⟩ rfl ?_
  intro w0 K hR
  refine wc_seq ?_
  refine wc_region ?_
  refine wl_y rfl (y_assign rfl) ?_
  refine wl_nil ?_
  refine wq_then ?_
  refine wc_seq ?_
  refine wc_seq ?_
  refine wc_region ?_
  refine wl_y rfl (y_move rfl) ?_
  refine wl_y rfl (y_eqlP Try.underlying23 rfl rfl) ?_
  refine wl_nil ?_
  refine wq_then ?_
  refine wc_known 7 true rfl (rfl) ?_
  refine wc_cond_true rfl ?_
  refine wc_seq ?_
  refine wc_region ?_
  refine wl_y rfl (y_assign rfl) ?_
  refine wl_nil ?_
  refine wq_then ?_
  refine wc_ret ?_
  refine wq_then_ret ?_
  refine wq_ret1 rfl rfl (fun w hw => ?_)
  exact ⟨(), trivial, rfl, hw.bare⟩

set_option maxHeartbeats 1000000 in
theorem sleases_nil  :
    Ctr Try.prog 13 #[.pointer none] [] [] (fun _ : Unit => True) (fun _ => .slice none 0 0) (fun _ => []) := by
  refine spec_start (n := 10) [(0, .pointer none)] Try.func13 rfl rfl ⟨rfl, trivial⟩ rfl ?_
  intro w0 K hR
  refine wc_seq ?_
  refine wc_region ?_
  refine wl_y rfl (y_assign rfl) ?_
  refine wl_nil ?_
  refine wq_then ?_
  refine wc_seq ?_
  refine wc_seq ?_
  refine wc_region ?_
  refine wl_y rfl (y_move rfl) ?_
  refine wl_y rfl (y_eqlP Try.underlying23 rfl rfl) ?_
  refine wl_nil ?_
  refine wq_then ?_
  refine wc_known 4 true rfl (rfl) ?_
  refine wc_cond_true rfl ?_
  refine wc_seq ?_
  refine wc_region ?_
  refine wl_y rfl (y_assign rfl) ?_
  refine wl_nil ?_
  refine wq_then ?_
  refine wc_ret ?_
  refine wq_then_ret ?_
  refine wq_ret1 rfl rfl (fun w hw => ?_)
  exact ⟨(), trivial, rfl, hw.bare⟩

/-! ### The chapter's example, call by call -/
abbrev jb (c : UInt8) : Jb := ⟨[c], 0, 0⟩
abbrev itA (c : UInt8) (n : Int) : It Jb := ⟨jb c, 0, 0, 0, n⟩
def cha (i : Nat) : UInt8 := UInt8.ofNat (97 + i)
def aw : Nat → Sc
  | 0 => ⟨10, 0, [], ⟨10, 0, []⟩, [], []⟩
  | i + 1 => ((aw i).add (jb (cha i))).1
theorem in_aw : ∀ i, i ≤ 490 → (aw i).In 10 i
  | 0, _ => in_new (by omega) (by omega)
  | i + 1, h => in_add (in_aw i (by omega)) (by omega) _ (by simp [maxLen])
abbrev thA : List (Str × Bool) := [([97], true), ([98], true), ([99], true), ([100], true)]
abbrev lsA (c w : UInt8) (e : Int) : Ls := ⟨jb c, [w], e, 10⟩
abbrev S6 : Sc := ⟨10, 4, [itA 97 1, itA 98 2, itA 99 3, itA 100 4], ⟨10, 0, []⟩, [([119], []), ([118], [])], thA⟩
abbrev S7 : Sc := ⟨10, 4, [itA 100 4], ⟨10, 1, [([97], lsA 97 119 1)]⟩, [([119], [jb 98, jb 99]), ([118], [])], thA⟩
abbrev S8 : Sc := ⟨10, 4, [], ⟨10, 2, [([97], lsA 97 119 1), ([100], lsA 100 118 2)]⟩, [([119], [jb 98, jb 99]), ([118], [])], thA⟩
abbrev S9 : Sc := ⟨10, 4, [], ⟨10, 3, [([97], lsA 97 119 1), ([100], lsA 100 118 2), ([99], lsA 99 118 3)]⟩, [([119], [jb 98]), ([118], [])], thA⟩
abbrev S10 : Sc := ⟨10, 4, [], ⟨10, 4, [([97], lsA 97 119 1), ([100], lsA 100 118 2), ([99], lsA 99 118 3), ([98], lsA 98 118 4)]⟩, [([119], []), ([118], [])], thA⟩
theorem name_w : nameE [119] = 0 := by decide +kernel
theorem name_v : nameE [118] = 0 := by decide +kernel
theorem aw4 : aw 4 = ⟨10, 4, [itA 97 1, itA 98 2, itA 99 3, itA 100 4], ⟨10, 0, []⟩, [], thA⟩ := by rfl
theorem aw6 : (((aw 4).join [119]).1.join [118]).1 = S6 := by
  rw [aw4]
  simp only [Sc.join, name_w, name_v, if_true]
  rfl
theorem take1_at {s s' : Sc} {w : Str} (r : It Jb) (h : IsMin r s.R) (hd : s.R.Pairwise fun x y => x.no ≠ y.no) (he : { s with R := rest s.R r, rows := mput s.rows w (s.row w ++ [r.v]) } = s') : s.take1 w = s' := by
  rw [take1_some (fun e => by rw [e] at h; cases h.1), the_min h hd]; exact he
theorem next_at2 {s s' : Sc} {w : Str} {now : Int} {l : List Jb} {j : Jb} (h : mget s.rows w = some l) (ht : timeB now = true) (hp : s.pick w = (s', some j)) (hw : nameE w = 0) (hk : mget s'.t.m j.key = none) :
    s.next w now = ({ s' with t := { s'.t with epoch := s'.t.epoch + 1, m := mput s'.t.m j.key (s'.t.lease j w now) } }, s'.t.lease j w now, 0) := by
  rw [next_some h ht (by rw [hp]), hp, grant_new hw ht hk]
theorem nx1 : S6.next [119] 0 = (S7, lsA 97 119 1, 0) := by
  have e1 : S6.take1 [119] = ⟨10, 4, [itA 98 2, itA 99 3, itA 100 4], ⟨10, 0, []⟩, [([119], [jb 97]), ([118], [])], thA⟩ := take1_at (itA 97 1) ⟨List.mem_cons_self .., by decide⟩ (by decide) rfl
  have e2 : (⟨10, 4, [itA 98 2, itA 99 3, itA 100 4], ⟨10, 0, []⟩, [([119], [jb 97]), ([118], [])], thA⟩ : Sc).take1 [119] = ⟨10, 4, [itA 99 3, itA 100 4], ⟨10, 0, []⟩, [([119], [jb 97, jb 98]), ([118], [])], thA⟩ := take1_at (itA 98 2) ⟨List.mem_cons_self .., by decide⟩ (by decide) rfl
  have e3 : (⟨10, 4, [itA 99 3, itA 100 4], ⟨10, 0, []⟩, [([119], [jb 97, jb 98]), ([118], [])], thA⟩ : Sc).take1 [119] = ⟨10, 4, [itA 100 4], ⟨10, 0, []⟩, [([119], [jb 97, jb 98, jb 99]), ([118], [])], thA⟩ := take1_at (itA 99 3) ⟨List.mem_cons_self .., by decide⟩ (by decide) rfl
  have hf : S6.first [119] = ⟨10, 4, [itA 100 4], ⟨10, 0, []⟩, [([119], [jb 97, jb 98, jb 99]), ([118], [])], thA⟩ := by
    rw [Sc.first, if_pos (by rfl), Sc.fetch, e1, e2, e3]
  have hp := pick_first (s := S6) (w := [119]) (j := jb 97) (l := [jb 98, jb 99]) (by rw [hf]; rfl)
  rw [hf] at hp
  exact next_at2 (l := []) rfl (by decide) hp name_w rfl
theorem nx2 : S7.next [118] 0 = (S8, lsA 100 118 2, 0) := by
  have e1 : S7.take1 [118] = ⟨10, 4, [], ⟨10, 1, [([97], lsA 97 119 1)]⟩, [([119], [jb 98, jb 99]), ([118], [jb 100])], thA⟩ := take1_at (itA 100 4) ⟨List.mem_cons_self .., by decide⟩ (by decide) rfl
  have hf : S7.first [118] = ⟨10, 4, [], ⟨10, 1, [([97], lsA 97 119 1)]⟩, [([119], [jb 98, jb 99]), ([118], [jb 100])], thA⟩ := by
    rw [Sc.first, if_pos (by rfl), Sc.fetch, e1, take1_none rfl, take1_none rfl]
  have hp := pick_first (s := S7) (w := [118]) (j := jb 100) (l := []) (by rw [hf]; rfl)
  rw [hf] at hp
  exact next_at2 (l := []) rfl (by decide) hp name_v rfl
theorem nx3 : S8.next [118] 0 = (S9, lsA 99 118 3, 0) := by
  have hf : S8.first [118] = S8 := by rw [Sc.first, if_pos (by rfl), Sc.fetch, take1_none rfl, take1_none rfl, take1_none rfl]
  have hv : vic S8.rows = [119] := the_vic (.inr ⟨[jb 98, jb 99], rfl, by simp, by decide⟩)
  have hp := pick_vic (s := S8) (w := [118]) (v := [119]) (j := jb 99) (l := [jb 98]) (by rw [hf]; rfl) (by rw [hf]; exact hv) (by rw [hf]; rfl)
  rw [hf] at hp
  exact next_at2 (l := []) rfl (by decide) hp name_v rfl
theorem nx4 : S9.next [118] 0 = (S10, lsA 98 118 4, 0) := by
  have hf : S9.first [118] = S9 := by rw [Sc.first, if_pos (by rfl), Sc.fetch, take1_none rfl, take1_none rfl, take1_none rfl]
  have hv : vic S9.rows = [119] := the_vic (.inr ⟨[jb 98], rfl, by simp, by decide⟩)
  have hp := pick_vic (s := S9) (w := [118]) (v := [119]) (j := jb 98) (l := []) (by rw [hf]; rfl) (by rw [hf]; exact hv) (by rw [hf]; rfl)
  rw [hf] at hp
  exact next_at2 (l := []) rfl (by decide) hp name_v rfl
theorem nx5 : S10.next [118] 0 = (S10, noL, 45) := by
  have hf : S10.first [118] = S10 := by rw [Sc.first, if_pos (by rfl), Sc.fetch, take1_none rfl, take1_none rfl, take1_none rfl]
  have hv : vic S10.rows = [] := the_vic (.inl ⟨rfl, by decide⟩)
  have hp := pick_busy (s := S10) (w := [118]) (v := []) (by rw [hf]; rfl) (by rw [hf]; exact hv) (by rw [hf]; rfl)
  rw [hf] at hp
  rw [next_busy (l := []) rfl (by decide) (by rw [hp]), hp]
theorem in6 : S6.In 10 6 := by rw [← aw6]; exact in_join (in_join (in_aw 4 (by omega)) _) _
theorem in7 : S7.In 10 7 := by have := (next_cases in6 (by omega) [119] 0).1; rw [nx1] at this; exact this
theorem in8 : S8.In 10 8 := by have := (next_cases in7 (by omega) [118] 0).1; rw [nx2] at this; exact this
theorem in9 : S9.In 10 9 := by have := (next_cases in8 (by omega) [118] 0).1; rw [nx3] at this; exact this
theorem in10 : S10.In 10 10 := by have := (next_cases in9 (by omega) [118] 0).1; rw [nx4] at this; exact this
section
variable {b : Nat} {s s' : Sc} {wk : Str} {now n : Int} {i : Nat} {x : Ls} {e : Int}
theorem next_at (hI : s.In n i) (h1 : 1 ≤ n) (h2 : n ≤ 1000000) (hi : i ≤ 490) (h : s.next wk now = (s', x, e)) :
    Ctr Try.prog 11 #[ptr b, vS wk, vI now] [] [scA b s] (fun _ : Unit => True) (fun _ => .tuple #[agL x, vI e]) (fun _ => [scA b s']) := by have := snext_c b s wk now n i hI h1 h2 hi; rw [h] at this; exact this
end
theorem wrap_cha {i : Nat} (h : i < 4) : IntKind.u8.wrap (97 + (i : Int)) = ((cha i).toNat : Nat) := by
  rcases i with _ | _ | _ | _ | i
  · decide
  · decide
  · decide
  · decide
  · omega
set_option maxHeartbeats 1000000 in
theorem awake_c  :
    Ctr Try.prog 8 #[] [] [] (fun _ : Unit => True) (fun _ => vB true) (fun _ => []) := by
  refine spec_start (n := 91) [] Try.func8 rfl rfl trivial rfl ?_
  intro w0 K hR
  refine wc_seq ?_
  refine wc_region ?_
  refine wl_y rfl (y_assign rfl) ?_
  refine wl_nil ?_
  refine wq_then ?_
  refine wc_seq ?_
  refine wc_region ?_
  refine wl_c (fun _ _ => want_none) rfl (yc_spec (fst := []) (cap := []) _ FN7 (snew_ok 10 10 (by omega) (by omega) (by omega) (by omega)) rfl rfl rfl (by (repeat (first | exact pt_nil | apply pt0 | apply pt1 | apply pt2 | apply pt3 | apply pt4 | apply pt5 | apply pt6 | apply pt7 | apply pt8 | apply pt9 | apply pt10 | apply pt11 | apply pt12 | apply pt13 | apply pt14 | apply pt15 | apply pt16 | apply pt17))) (by (repeat (first | exact ro_nil | exact ro_rest (by assumption) | refine ro_cons (by first | exact .inl (by assumption) | exact ro_f0 (fun _ h => h) | exact ro_f0 (fun _ => slc_rsl) | exact ro_f1 (fun _ h => h) | exact ro_f1 (fun _ => slc_rsl) | exact ro_f2 (fun _ h => h) | exact ro_f2 (fun _ => slc_rsl) | exact ro_f3 (fun _ h => h) | exact ro_f3 (fun _ => slc_rsl) | exact ro_f4 (fun _ h => h) | exact ro_f4 (fun _ => slc_rsl) | exact ro_f5 (fun _ h => h) | exact ro_f5 (fun _ => slc_rsl) | exact ro_f6 (fun _ h => h) | exact ro_f6 (fun _ => slc_rsl)) ?_)))) (wl_ex fun x15 hx15 => ?_)
  refine wl_y rfl (y_move rfl) ?_
  refine wl_y rfl (y_extract rfl rfl) ?_
  refine wl_y rfl (y_extract rfl rfl) ?_
  refine wl_y rfl (y_assign rfl) ?_
  refine wl_y rfl (y_assign rfl) ?_
  refine wl_nil ?_
  refine wq_then ?_
  refine wc_seq ?_
  refine wc_seq ?_
  refine wc_region ?_
  refine wl_y rfl (y_move rfl) ?_
  refine wl_y rfl (y_neqI rfl rfl) ?_
  refine wl_y rfl (y_move rfl) ?_
  refine wl_known 20 false rfl (by decide) ?_
  refine wl_yg rfl rfl rfl (y_move rfl) ?_
  refine wl_yg rfl rfl rfl (y_eqlP Try.underlying23 rfl rfl) ?_
  refine wl_y rfl (y_pick_f rfl rfl) ?_
  refine wl_nil ?_
  refine wq_then ?_
  refine wc_known 23 false rfl (rfl) ?_
  refine wc_cond_false rfl ?_
  refine wc_skip ?_
  refine wq_then ?_
  refine wc_seq ?_
  refine wc_seq ?_
  refine wc_region ?_
  refine wl_y rfl (y_assign rfl) ?_
  refine wl_nil ?_
  refine wq_then ?_
  refine wc_block ?_
  refine wc_loop (α := Nat) (fun y => y ≤ 4) [(1, _)] (fun y => [(3, vI y)]) (fun y => Hp w0 K [scA x15 (aw y)]) (fun y => 4 - y) 0 ?_ ⟨rfl, rfl, trivial⟩ ?_ ?_
  · exact Nat.zero_le _
  · exact fun w hw => hw
  · intro i hi
    refine wc_seq ?_
    refine wc_seq ?_
    refine wc_region ?_
    refine wl_y rfl (y_move rfl) ?_
    refine wl_y rfl (y_lss rfl rfl) ?_
    refine wl_nil ?_
    refine wq_then ?_
    refine wc_cond rfl (fun hc25 => ?_) (fun hc25 => ?_)
    ·
      simp at hc25
      refine wc_skip ?_
      refine wq_then ?_
      refine wc_seq ?_
      refine wc_block ?_
      refine wc_region ?_
      refine wl_y rfl (y_move rfl) ?_
      refine wl_y rfl (y_move rfl) ?_
      refine wl_y rfl (y_add rfl rfl (by omega)) ?_
      refine wl_y rfl (y_convInt (q := ((cha i).toNat : Nat)) Try.underlying3 Try.underlying5 rfl (wrap_cha (by omega))) ?_
      refine wl_w (fun _ _ => want_none) rfl (yw_buildSlice (cs := [.int .u8 ((cha i).toNat : Nat)]) Try.underlying67 T5 rfl rfl rfl rfl rfl rfl rfl) (wl_ex fun b32 _ => ?_)
      refine wl_w (fun _ _ => want_none) rfl (yw_of (y_convBytes (l := [cha i]) Try.underlying67 Try.underlying5 Try.underlying9 rfl (by first | exact fun w hw => (hw.seen []).mono fun _ => slc_rsl | exact fun w hw => (hw.seen [_]).mono fun _ => slc_rsl | exact fun w hw => (hw.seen [_, _]).mono fun _ => slc_rsl | exact fun w hw => (hw.seen [_, _, _]).mono fun _ => slc_rsl | exact fun w hw => (hw.seen [_, _, _, _]).mono fun _ => slc_rsl | exact fun w hw => (hw.seen [_, _, _, _, _]).mono fun _ => slc_rsl | exact fun w hw => (hw.seen [_, _, _, _, _, _]).mono fun _ => slc_rsl | exact fun w hw => (hw.seen [_, _, _, _, _, _, _]).mono fun _ => slc_rsl))) (wl_ex fun _ _ => ?_)
      refine wl_y rfl (y_build (cs := [_, _, _]) T30 PL30 rfl rfl rfl) ?_
      refine wl_c (fun _ _ => want_none) rfl (yc_spec (fst := []) (cap := []) _ FN9 (sadd_c x15 (aw i) (jb (cha i)) (((in_aw i (by omega)).qk (by omega)).mono (by omega))) rfl rfl rfl (by (repeat (first | exact pt_nil | apply pt0 | apply pt1 | apply pt2 | apply pt3 | apply pt4 | apply pt5 | apply pt6 | apply pt7 | apply pt8 | apply pt9 | apply pt10 | apply pt11 | apply pt12 | apply pt13 | apply pt14 | apply pt15 | apply pt16 | apply pt17))) (by (repeat (first | exact ro_nil | exact ro_rest (by assumption) | refine ro_cons (by first | exact .inl (by assumption) | exact ro_f0 (fun _ h => h) | exact ro_f0 (fun _ => slc_rsl) | exact ro_f1 (fun _ h => h) | exact ro_f1 (fun _ => slc_rsl) | exact ro_f2 (fun _ h => h) | exact ro_f2 (fun _ => slc_rsl) | exact ro_f3 (fun _ h => h) | exact ro_f3 (fun _ => slc_rsl) | exact ro_f4 (fun _ h => h) | exact ro_f4 (fun _ => slc_rsl) | exact ro_f5 (fun _ h => h) | exact ro_f5 (fun _ => slc_rsl) | exact ro_f6 (fun _ h => h) | exact ro_f6 (fun _ => slc_rsl)) ?_)))) (wl_ex fun x35 hx35 => ?_)
      refine wl_nil ?_
      refine wq_block_normal ?_
      refine wq_then ?_
      refine wc_region ?_
      refine wl_y rfl (y_move rfl) ?_
      refine wl_y rfl (y_add rfl rfl (by omega)) ?_
      refine wl_y rfl (y_assign rfl) ?_
      refine wl_nil ?_
      exact wq_round (i + 1) (by omega) (by omega) ⟨rfl, rfl, trivial⟩ (fun w hw => hw.sub (by (repeat (first | exact pt_nil | apply pt0 | apply pt1 | apply pt2 | apply pt3 | apply pt4 | apply pt5 | apply pt6 | apply pt7 | apply pt8 | apply pt9 | apply pt10 | apply pt11 | apply pt12 | apply pt13 | apply pt14 | apply pt15 | apply pt16 | apply pt17))))
    ·
      simp at hc25
      refine wc_exit ?_
      refine wq_then_exit (wq_then_exit (wq_block_exit ?_))
      refine wq_then ?_
      refine wc_seq ?_
      refine wc_region ?_
      obtain rfl : i = 4 := by omega
      refine wl_y rfl (y_move rfl) ?_
      refine wl_c (fun _ _ => want_none) rfl (yc_spec (fst := []) (cap := []) _ FN10 (sjoin_c x15 (aw 4) [119]) rfl rfl rfl (by (repeat (first | exact pt_nil | apply pt0 | apply pt1 | apply pt2 | apply pt3 | apply pt4 | apply pt5 | apply pt6 | apply pt7 | apply pt8 | apply pt9 | apply pt10 | apply pt11 | apply pt12 | apply pt13 | apply pt14 | apply pt15 | apply pt16 | apply pt17))) (by (repeat (first | exact ro_nil | exact ro_rest (by assumption) | refine ro_cons (by first | exact .inl (by assumption) | exact ro_f0 (fun _ h => h) | exact ro_f0 (fun _ => slc_rsl) | exact ro_f1 (fun _ h => h) | exact ro_f1 (fun _ => slc_rsl) | exact ro_f2 (fun _ h => h) | exact ro_f2 (fun _ => slc_rsl) | exact ro_f3 (fun _ h => h) | exact ro_f3 (fun _ => slc_rsl) | exact ro_f4 (fun _ h => h) | exact ro_f4 (fun _ => slc_rsl) | exact ro_f5 (fun _ h => h) | exact ro_f5 (fun _ => slc_rsl) | exact ro_f6 (fun _ h => h) | exact ro_f6 (fun _ => slc_rsl)) ?_)))) (wl_ex fun x37 hx37 => ?_)
      refine wl_nil ?_
      refine wq_then ?_
      refine wc_seq ?_
      refine wc_region ?_
      refine wl_y rfl (y_move rfl) ?_
      refine wl_c (fun _ _ => want_none) rfl (yc_spec (fst := []) (cap := []) _ FN10 (sjoin_c x15 ((aw 4).join [119]).1 [118]) rfl rfl rfl (by (repeat (first | exact pt_nil | apply pt0 | apply pt1 | apply pt2 | apply pt3 | apply pt4 | apply pt5 | apply pt6 | apply pt7 | apply pt8 | apply pt9 | apply pt10 | apply pt11 | apply pt12 | apply pt13 | apply pt14 | apply pt15 | apply pt16 | apply pt17))) (by (repeat (first | exact ro_nil | exact ro_rest (by assumption) | refine ro_cons (by first | exact .inl (by assumption) | exact ro_f0 (fun _ h => h) | exact ro_f0 (fun _ => slc_rsl) | exact ro_f1 (fun _ h => h) | exact ro_f1 (fun _ => slc_rsl) | exact ro_f2 (fun _ h => h) | exact ro_f2 (fun _ => slc_rsl) | exact ro_f3 (fun _ h => h) | exact ro_f3 (fun _ => slc_rsl) | exact ro_f4 (fun _ h => h) | exact ro_f4 (fun _ => slc_rsl) | exact ro_f5 (fun _ h => h) | exact ro_f5 (fun _ => slc_rsl) | exact ro_f6 (fun _ h => h) | exact ro_f6 (fun _ => slc_rsl)) ?_)))) (wl_ex fun x39 hx39 => ?_)
      refine wl_world (S' := Hp w0 K [scA x15 S6]) (fun w hw => by rw [← aw6]; exact hw.sub (by (repeat (first | exact pt_nil | apply pt0 | apply pt1 | apply pt2 | apply pt3 | apply pt4 | apply pt5 | apply pt6 | apply pt7 | apply pt8 | apply pt9 | apply pt10 | apply pt11 | apply pt12 | apply pt13 | apply pt14 | apply pt15 | apply pt16 | apply pt17)))) ?_
      refine wl_nil ?_
      refine wq_then ?_
      refine wc_seq ?_
      refine wc_region ?_
      refine wl_y rfl (y_move rfl) ?_
      refine wl_c (fun _ _ => want_none) rfl (yc_spec (fst := []) (cap := []) _ FN11 (next_at (b := x15) (now := 0) (in6) (by omega) (by omega) (by omega) nx1) rfl rfl rfl (by (repeat (first | exact pt_nil | apply pt0 | apply pt1 | apply pt2 | apply pt3 | apply pt4 | apply pt5 | apply pt6 | apply pt7 | apply pt8 | apply pt9 | apply pt10 | apply pt11 | apply pt12 | apply pt13 | apply pt14 | apply pt15 | apply pt16 | apply pt17))) (by (repeat (first | exact ro_nil | exact ro_rest (by assumption) | refine ro_cons (by first | exact .inl (by assumption) | exact ro_f0 (fun _ h => h) | exact ro_f0 (fun _ => slc_rsl) | exact ro_f1 (fun _ h => h) | exact ro_f1 (fun _ => slc_rsl) | exact ro_f2 (fun _ h => h) | exact ro_f2 (fun _ => slc_rsl) | exact ro_f3 (fun _ h => h) | exact ro_f3 (fun _ => slc_rsl) | exact ro_f4 (fun _ h => h) | exact ro_f4 (fun _ => slc_rsl) | exact ro_f5 (fun _ h => h) | exact ro_f5 (fun _ => slc_rsl) | exact ro_f6 (fun _ h => h) | exact ro_f6 (fun _ => slc_rsl)) ?_)))) (wl_ex fun x42 hx42 => ?_)
      refine wl_y rfl (y_move rfl) ?_
      refine wl_y rfl (y_extract rfl rfl) ?_
      refine wl_y rfl (y_extract rfl rfl) ?_
      refine wl_w (fun _ _ => want_none) rfl (yw_alloc T36 rfl) (wl_ex fun b4 _ => ?_)
      first | refine wl_u (yu_storeAgg [] (l' := [_, _, _, _, _, _]) T36 rfl rfl rfl (by simp [Value.oneCell', encL, encJ]) rfl rfl) ?_ | refine wl_u (yu_storeAgg [_] (l' := [_, _, _, _, _, _]) T36 rfl rfl rfl (by simp [Value.oneCell', encL, encJ]) rfl rfl) ?_ | refine wl_u (yu_storeAgg [_, _] (l' := [_, _, _, _, _, _]) T36 rfl rfl rfl (by simp [Value.oneCell', encL, encJ]) rfl rfl) ?_ | refine wl_u (yu_storeAgg [_, _, _] (l' := [_, _, _, _, _, _]) T36 rfl rfl rfl (by simp [Value.oneCell', encL, encJ]) rfl rfl) ?_ | refine wl_u (yu_storeAgg [_, _, _, _] (l' := [_, _, _, _, _, _]) T36 rfl rfl rfl (by simp [Value.oneCell', encL, encJ]) rfl rfl) ?_ | refine wl_u (yu_storeAgg [_, _, _, _, _] (l' := [_, _, _, _, _, _]) T36 rfl rfl rfl (by simp [Value.oneCell', encL, encJ]) rfl rfl) ?_ | refine wl_u (yu_storeAgg [_, _, _, _, _, _] (l' := [_, _, _, _, _, _]) T36 rfl rfl rfl (by simp [Value.oneCell', encL, encJ]) rfl rfl) ?_ | refine wl_u (yu_storeAgg [_, _, _, _, _, _, _] (l' := [_, _, _, _, _, _]) T36 rfl rfl rfl (by simp [Value.oneCell', encL, encJ]) rfl rfl) ?_
      refine wl_y rfl (y_assign rfl) ?_
      refine wl_nil ?_
      refine wq_then ?_
      refine wc_seq ?_
      refine wc_region ?_
      refine wl_y rfl (y_move rfl) ?_
      refine wl_c (fun _ _ => want_none) rfl (yc_spec (fst := []) (cap := []) _ FN11 (next_at (b := x15) (now := 0) (in7) (by omega) (by omega) (by omega) nx2) rfl rfl rfl (by (repeat (first | exact pt_nil | apply pt0 | apply pt1 | apply pt2 | apply pt3 | apply pt4 | apply pt5 | apply pt6 | apply pt7 | apply pt8 | apply pt9 | apply pt10 | apply pt11 | apply pt12 | apply pt13 | apply pt14 | apply pt15 | apply pt16 | apply pt17))) (by (repeat (first | exact ro_nil | exact ro_rest (by assumption) | refine ro_cons (by first | exact .inl (by assumption) | exact ro_f0 (fun _ h => h) | exact ro_f0 (fun _ => slc_rsl) | exact ro_f1 (fun _ h => h) | exact ro_f1 (fun _ => slc_rsl) | exact ro_f2 (fun _ h => h) | exact ro_f2 (fun _ => slc_rsl) | exact ro_f3 (fun _ h => h) | exact ro_f3 (fun _ => slc_rsl) | exact ro_f4 (fun _ h => h) | exact ro_f4 (fun _ => slc_rsl) | exact ro_f5 (fun _ h => h) | exact ro_f5 (fun _ => slc_rsl) | exact ro_f6 (fun _ h => h) | exact ro_f6 (fun _ => slc_rsl)) ?_)))) (wl_ex fun x47 hx47 => ?_)
      refine wl_y rfl (y_move rfl) ?_
      refine wl_y rfl (y_extract rfl rfl) ?_
      refine wl_y rfl (y_extract rfl rfl) ?_
      refine wl_w (fun _ _ => want_none) rfl (yw_alloc T36 rfl) (wl_ex fun b6 _ => ?_)
      first | refine wl_u (yu_storeAgg [] (l' := [_, _, _, _, _, _]) T36 rfl rfl rfl (by simp [Value.oneCell', encL, encJ]) rfl rfl) ?_ | refine wl_u (yu_storeAgg [_] (l' := [_, _, _, _, _, _]) T36 rfl rfl rfl (by simp [Value.oneCell', encL, encJ]) rfl rfl) ?_ | refine wl_u (yu_storeAgg [_, _] (l' := [_, _, _, _, _, _]) T36 rfl rfl rfl (by simp [Value.oneCell', encL, encJ]) rfl rfl) ?_ | refine wl_u (yu_storeAgg [_, _, _] (l' := [_, _, _, _, _, _]) T36 rfl rfl rfl (by simp [Value.oneCell', encL, encJ]) rfl rfl) ?_ | refine wl_u (yu_storeAgg [_, _, _, _] (l' := [_, _, _, _, _, _]) T36 rfl rfl rfl (by simp [Value.oneCell', encL, encJ]) rfl rfl) ?_ | refine wl_u (yu_storeAgg [_, _, _, _, _] (l' := [_, _, _, _, _, _]) T36 rfl rfl rfl (by simp [Value.oneCell', encL, encJ]) rfl rfl) ?_ | refine wl_u (yu_storeAgg [_, _, _, _, _, _] (l' := [_, _, _, _, _, _]) T36 rfl rfl rfl (by simp [Value.oneCell', encL, encJ]) rfl rfl) ?_ | refine wl_u (yu_storeAgg [_, _, _, _, _, _, _] (l' := [_, _, _, _, _, _]) T36 rfl rfl rfl (by simp [Value.oneCell', encL, encJ]) rfl rfl) ?_
      refine wl_y rfl (y_assign rfl) ?_
      refine wl_nil ?_
      refine wq_then ?_
      refine wc_seq ?_
      refine wc_region ?_
      refine wl_y rfl (y_move rfl) ?_
      refine wl_c (fun _ _ => want_none) rfl (yc_spec (fst := []) (cap := []) _ FN11 (next_at (b := x15) (now := 0) (in8) (by omega) (by omega) (by omega) nx3) rfl rfl rfl (by (repeat (first | exact pt_nil | apply pt0 | apply pt1 | apply pt2 | apply pt3 | apply pt4 | apply pt5 | apply pt6 | apply pt7 | apply pt8 | apply pt9 | apply pt10 | apply pt11 | apply pt12 | apply pt13 | apply pt14 | apply pt15 | apply pt16 | apply pt17))) (by (repeat (first | exact ro_nil | exact ro_rest (by assumption) | refine ro_cons (by first | exact .inl (by assumption) | exact ro_f0 (fun _ h => h) | exact ro_f0 (fun _ => slc_rsl) | exact ro_f1 (fun _ h => h) | exact ro_f1 (fun _ => slc_rsl) | exact ro_f2 (fun _ h => h) | exact ro_f2 (fun _ => slc_rsl) | exact ro_f3 (fun _ h => h) | exact ro_f3 (fun _ => slc_rsl) | exact ro_f4 (fun _ h => h) | exact ro_f4 (fun _ => slc_rsl) | exact ro_f5 (fun _ h => h) | exact ro_f5 (fun _ => slc_rsl) | exact ro_f6 (fun _ h => h) | exact ro_f6 (fun _ => slc_rsl)) ?_)))) (wl_ex fun x52 hx52 => ?_)
      refine wl_y rfl (y_move rfl) ?_
      refine wl_y rfl (y_extract rfl rfl) ?_
      refine wl_y rfl (y_extract rfl rfl) ?_
      refine wl_w (fun _ _ => want_none) rfl (yw_alloc T36 rfl) (wl_ex fun b8 _ => ?_)
      first | refine wl_u (yu_storeAgg [] (l' := [_, _, _, _, _, _]) T36 rfl rfl rfl (by simp [Value.oneCell', encL, encJ]) rfl rfl) ?_ | refine wl_u (yu_storeAgg [_] (l' := [_, _, _, _, _, _]) T36 rfl rfl rfl (by simp [Value.oneCell', encL, encJ]) rfl rfl) ?_ | refine wl_u (yu_storeAgg [_, _] (l' := [_, _, _, _, _, _]) T36 rfl rfl rfl (by simp [Value.oneCell', encL, encJ]) rfl rfl) ?_ | refine wl_u (yu_storeAgg [_, _, _] (l' := [_, _, _, _, _, _]) T36 rfl rfl rfl (by simp [Value.oneCell', encL, encJ]) rfl rfl) ?_ | refine wl_u (yu_storeAgg [_, _, _, _] (l' := [_, _, _, _, _, _]) T36 rfl rfl rfl (by simp [Value.oneCell', encL, encJ]) rfl rfl) ?_ | refine wl_u (yu_storeAgg [_, _, _, _, _] (l' := [_, _, _, _, _, _]) T36 rfl rfl rfl (by simp [Value.oneCell', encL, encJ]) rfl rfl) ?_ | refine wl_u (yu_storeAgg [_, _, _, _, _, _] (l' := [_, _, _, _, _, _]) T36 rfl rfl rfl (by simp [Value.oneCell', encL, encJ]) rfl rfl) ?_ | refine wl_u (yu_storeAgg [_, _, _, _, _, _, _] (l' := [_, _, _, _, _, _]) T36 rfl rfl rfl (by simp [Value.oneCell', encL, encJ]) rfl rfl) ?_
      refine wl_y rfl (y_assign rfl) ?_
      refine wl_nil ?_
      refine wq_then ?_
      refine wc_seq ?_
      refine wc_region ?_
      refine wl_y rfl (y_move rfl) ?_
      refine wl_c (fun _ _ => want_none) rfl (yc_spec (fst := []) (cap := []) _ FN11 (next_at (b := x15) (now := 0) (in9) (by omega) (by omega) (by omega) nx4) rfl rfl rfl (by (repeat (first | exact pt_nil | apply pt0 | apply pt1 | apply pt2 | apply pt3 | apply pt4 | apply pt5 | apply pt6 | apply pt7 | apply pt8 | apply pt9 | apply pt10 | apply pt11 | apply pt12 | apply pt13 | apply pt14 | apply pt15 | apply pt16 | apply pt17))) (by (repeat (first | exact ro_nil | exact ro_rest (by assumption) | refine ro_cons (by first | exact .inl (by assumption) | exact ro_f0 (fun _ h => h) | exact ro_f0 (fun _ => slc_rsl) | exact ro_f1 (fun _ h => h) | exact ro_f1 (fun _ => slc_rsl) | exact ro_f2 (fun _ h => h) | exact ro_f2 (fun _ => slc_rsl) | exact ro_f3 (fun _ h => h) | exact ro_f3 (fun _ => slc_rsl) | exact ro_f4 (fun _ h => h) | exact ro_f4 (fun _ => slc_rsl) | exact ro_f5 (fun _ h => h) | exact ro_f5 (fun _ => slc_rsl) | exact ro_f6 (fun _ h => h) | exact ro_f6 (fun _ => slc_rsl)) ?_)))) (wl_ex fun x57 hx57 => ?_)
      refine wl_y rfl (y_move rfl) ?_
      refine wl_y rfl (y_extract rfl rfl) ?_
      refine wl_y rfl (y_extract rfl rfl) ?_
      refine wl_w (fun _ _ => want_none) rfl (yw_alloc T36 rfl) (wl_ex fun b10 _ => ?_)
      first | refine wl_u (yu_storeAgg [] (l' := [_, _, _, _, _, _]) T36 rfl rfl rfl (by simp [Value.oneCell', encL, encJ]) rfl rfl) ?_ | refine wl_u (yu_storeAgg [_] (l' := [_, _, _, _, _, _]) T36 rfl rfl rfl (by simp [Value.oneCell', encL, encJ]) rfl rfl) ?_ | refine wl_u (yu_storeAgg [_, _] (l' := [_, _, _, _, _, _]) T36 rfl rfl rfl (by simp [Value.oneCell', encL, encJ]) rfl rfl) ?_ | refine wl_u (yu_storeAgg [_, _, _] (l' := [_, _, _, _, _, _]) T36 rfl rfl rfl (by simp [Value.oneCell', encL, encJ]) rfl rfl) ?_ | refine wl_u (yu_storeAgg [_, _, _, _] (l' := [_, _, _, _, _, _]) T36 rfl rfl rfl (by simp [Value.oneCell', encL, encJ]) rfl rfl) ?_ | refine wl_u (yu_storeAgg [_, _, _, _, _] (l' := [_, _, _, _, _, _]) T36 rfl rfl rfl (by simp [Value.oneCell', encL, encJ]) rfl rfl) ?_ | refine wl_u (yu_storeAgg [_, _, _, _, _, _] (l' := [_, _, _, _, _, _]) T36 rfl rfl rfl (by simp [Value.oneCell', encL, encJ]) rfl rfl) ?_ | refine wl_u (yu_storeAgg [_, _, _, _, _, _, _] (l' := [_, _, _, _, _, _]) T36 rfl rfl rfl (by simp [Value.oneCell', encL, encJ]) rfl rfl) ?_
      refine wl_y rfl (y_assign rfl) ?_
      refine wl_nil ?_
      refine wq_then ?_
      refine wc_seq ?_
      refine wc_region ?_
      refine wl_y rfl (y_move rfl) ?_
      refine wl_c (fun _ _ => want_none) rfl (yc_spec (fst := []) (cap := []) _ FN11 (next_at (b := x15) (now := 0) (in10) (by omega) (by omega) (by omega) nx5) rfl rfl rfl (by (repeat (first | exact pt_nil | apply pt0 | apply pt1 | apply pt2 | apply pt3 | apply pt4 | apply pt5 | apply pt6 | apply pt7 | apply pt8 | apply pt9 | apply pt10 | apply pt11 | apply pt12 | apply pt13 | apply pt14 | apply pt15 | apply pt16 | apply pt17))) (by (repeat (first | exact ro_nil | exact ro_rest (by assumption) | refine ro_cons (by first | exact .inl (by assumption) | exact ro_f0 (fun _ h => h) | exact ro_f0 (fun _ => slc_rsl) | exact ro_f1 (fun _ h => h) | exact ro_f1 (fun _ => slc_rsl) | exact ro_f2 (fun _ h => h) | exact ro_f2 (fun _ => slc_rsl) | exact ro_f3 (fun _ h => h) | exact ro_f3 (fun _ => slc_rsl) | exact ro_f4 (fun _ h => h) | exact ro_f4 (fun _ => slc_rsl) | exact ro_f5 (fun _ h => h) | exact ro_f5 (fun _ => slc_rsl) | exact ro_f6 (fun _ h => h) | exact ro_f6 (fun _ => slc_rsl)) ?_)))) (wl_ex fun x62 hx62 => ?_)
      refine wl_y rfl (y_move rfl) ?_
      refine wl_y rfl (y_extract rfl rfl) ?_
      refine wl_y rfl (y_extract rfl rfl) ?_
      refine wl_w (fun _ _ => want_none) rfl (yw_alloc T36 rfl) (wl_ex fun b12 _ => ?_)
      first | refine wl_u (yu_storeAgg [] (l' := [_, _, _, _, _, _]) T36 rfl rfl rfl (by simp [Value.oneCell', encL, encJ]) rfl rfl) ?_ | refine wl_u (yu_storeAgg [_] (l' := [_, _, _, _, _, _]) T36 rfl rfl rfl (by simp [Value.oneCell', encL, encJ]) rfl rfl) ?_ | refine wl_u (yu_storeAgg [_, _] (l' := [_, _, _, _, _, _]) T36 rfl rfl rfl (by simp [Value.oneCell', encL, encJ]) rfl rfl) ?_ | refine wl_u (yu_storeAgg [_, _, _] (l' := [_, _, _, _, _, _]) T36 rfl rfl rfl (by simp [Value.oneCell', encL, encJ]) rfl rfl) ?_ | refine wl_u (yu_storeAgg [_, _, _, _] (l' := [_, _, _, _, _, _]) T36 rfl rfl rfl (by simp [Value.oneCell', encL, encJ]) rfl rfl) ?_ | refine wl_u (yu_storeAgg [_, _, _, _, _] (l' := [_, _, _, _, _, _]) T36 rfl rfl rfl (by simp [Value.oneCell', encL, encJ]) rfl rfl) ?_ | refine wl_u (yu_storeAgg [_, _, _, _, _, _] (l' := [_, _, _, _, _, _]) T36 rfl rfl rfl (by simp [Value.oneCell', encL, encJ]) rfl rfl) ?_ | refine wl_u (yu_storeAgg [_, _, _, _, _, _, _] (l' := [_, _, _, _, _, _]) T36 rfl rfl rfl (by simp [Value.oneCell', encL, encJ]) rfl rfl) ?_
      refine wl_y rfl (y_assign rfl) ?_
      refine wl_nil ?_
      refine wq_then ?_
      refine wc_seq ?_
      refine wc_region ?_
      refine wl_y rfl (y_fieldAddr F36_0 rfl) ?_
      refine wl_y rfl (y_fieldAddr F30_0 rfl) ?_
      refine wl_y rfl (y_load NA9 rfl (by first | exact cell_blk [] rfl | exact cell_blk [_] rfl | exact cell_blk [_, _] rfl | exact cell_blk [_, _, _] rfl | exact cell_blk [_, _, _, _] rfl | exact cell_blk [_, _, _, _, _] rfl | exact cell_blk [_, _, _, _, _, _] rfl | exact cell_blk [_, _, _, _, _, _, _] rfl | exact cellR_blk (by assumption) rfl)) ?_
      refine wl_y rfl (y_eqlS rfl rfl) ?_
      refine wl_y rfl (y_move rfl) ?_
      refine wl_known 69 true rfl (by decide) ?_
      refine wl_yg rfl rfl rfl (y_fieldAddr F36_0 rfl) ?_
      refine wl_yg rfl rfl rfl (y_fieldAddr F30_0 rfl) ?_
      refine wl_yg rfl rfl rfl (y_load NA9 rfl (by first | exact cell_blk [] rfl | exact cell_blk [_] rfl | exact cell_blk [_, _] rfl | exact cell_blk [_, _, _] rfl | exact cell_blk [_, _, _, _] rfl | exact cell_blk [_, _, _, _, _] rfl | exact cell_blk [_, _, _, _, _, _] rfl | exact cell_blk [_, _, _, _, _, _, _] rfl | exact cellR_blk (by assumption) rfl)) ?_
      refine wl_yg rfl rfl rfl (y_eqlS rfl rfl) ?_
      refine wl_y rfl (y_pick_t rfl rfl) ?_
      refine wl_y rfl (y_move rfl) ?_
      refine wl_known 75 true rfl (by decide) ?_
      refine wl_yg rfl rfl rfl (y_fieldAddr F36_0 rfl) ?_
      refine wl_yg rfl rfl rfl (y_fieldAddr F30_0 rfl) ?_
      refine wl_yg rfl rfl rfl (y_load NA9 rfl (by first | exact cell_blk [] rfl | exact cell_blk [_] rfl | exact cell_blk [_, _] rfl | exact cell_blk [_, _, _] rfl | exact cell_blk [_, _, _, _] rfl | exact cell_blk [_, _, _, _, _] rfl | exact cell_blk [_, _, _, _, _, _] rfl | exact cell_blk [_, _, _, _, _, _, _] rfl | exact cellR_blk (by assumption) rfl)) ?_
      refine wl_yg rfl rfl rfl (y_eqlS rfl rfl) ?_
      refine wl_y rfl (y_pick_t rfl rfl) ?_
      refine wl_y rfl (y_move rfl) ?_
      refine wl_known 81 true rfl (by decide) ?_
      refine wl_yg rfl rfl rfl (y_fieldAddr F36_0 rfl) ?_
      refine wl_yg rfl rfl rfl (y_fieldAddr F30_0 rfl) ?_
      refine wl_yg rfl rfl rfl (y_load NA9 rfl (by first | exact cell_blk [] rfl | exact cell_blk [_] rfl | exact cell_blk [_, _] rfl | exact cell_blk [_, _, _] rfl | exact cell_blk [_, _, _, _] rfl | exact cell_blk [_, _, _, _, _] rfl | exact cell_blk [_, _, _, _, _, _] rfl | exact cell_blk [_, _, _, _, _, _, _] rfl | exact cellR_blk (by assumption) rfl)) ?_
      refine wl_yg rfl rfl rfl (y_eqlS rfl rfl) ?_
      refine wl_y rfl (y_pick_t rfl rfl) ?_
      refine wl_y rfl (y_move rfl) ?_
      refine wl_known 87 true rfl (by decide) ?_
      refine wl_yg rfl rfl rfl (y_move rfl) ?_
      refine wl_yg rfl rfl rfl (y_eqlI rfl rfl) ?_
      refine wl_y rfl (y_pick_t rfl rfl) ?_
      refine wl_y rfl (y_assign rfl) ?_
      refine wl_nil ?_
      refine wq_then ?_
      refine wc_ret ?_
      refine wq_ret1 rfl rfl (fun w hw => ?_)
      exact ⟨(), trivial, rfl, hw.bare⟩

end Go.Proofs.Ytfnpjmlpiedgdaa
