/-
  Leases, tables of them; names and times; what is found.
-/
import Derived.Test.YtfnpjmlpiedgdaaTy
namespace Go.Proofs.Ytfnpjmlpiedgdaa
open Go.Eng


abbrev vI (n : Int) : Value := .int .i64 n
abbrev vS (l : Str) : Value := .string (bs l)
abbrev vB (b : Bool) : Value := .bool b
abbrev ptr (b : Nat) : Value := .pointer (some ⟨b, 0, none⟩)
def nameC (c : UInt8) : Bool := decide ((c.toNat : Int) = 45) || decide ((c.toNat : Int) = 95) || (decide ((48 : Int) ≤ c.toNat) && decide ((c.toNat : Int) ≤ 57)) || (decide ((97 : Int) ≤ c.toNat) && decide ((c.toNat : Int) ≤ 122))
def isName (s : Str) : Bool := !(decide (s = []) || decide ((16 : Int) < (s.length : Nat))) && s.all nameC
def nameE (s : Str) : Int := if isName s then 0 else 14
theorem badN1 (c : UInt8) : ((((!decide ((c.toNat : Int) = 45)) && (!decide ((c.toNat : Int) = 95))) && (decide ((c.toNat : Int) < 48) || decide ((57 : Int) < c.toNat))) && (decide ((c.toNat : Int) < 97) || decide ((122 : Int) < c.toNat))) = !nameC c := by
  rw [Bool.eq_iff_iff]; simp only [nameC, Bool.and_eq_true, Bool.or_eq_true, Bool.not_eq_true', Bool.or_eq_false_iff, Bool.and_eq_false_iff, decide_eq_true_eq, decide_eq_false_iff_not]; omega
theorem badN2 (c : UInt8) : (!((((decide ((97 : Int) ≤ c.toNat) && decide ((c.toNat : Int) ≤ 122)) || (decide ((48 : Int) ≤ c.toNat) && decide ((c.toNat : Int) ≤ 57))) || decide ((c.toNat : Int) = 45)) || decide ((c.toNat : Int) = 95))) = !nameC c := by
  rw [Bool.eq_iff_iff]; simp only [nameC, Bool.and_eq_true, Bool.or_eq_true, Bool.not_eq_true', Bool.or_eq_false_iff, Bool.and_eq_false_iff, decide_eq_true_eq, decide_eq_false_iff_not]; omega
theorem all_snoc {p : Str} {j : Nat} {ch : UInt8} (f : UInt8 → Bool) (h : p[j]? = some ch) : (p.take (j + 1)).all f = ((p.take j).all f && f ch) := by
  rw [List.take_add_one, h]; simp
theorem not_all {p : Str} {j : Nat} {ch : UInt8} {f : UInt8 → Bool} (h : p[j]? = some ch) (hf : f ch = false) : p.all f = false := by
  cases hp : p.all f
  · rfl
  · rw [List.all_eq_true] at hp; have := hp ch (List.mem_of_getElem? h); rw [hf] at this; cases this
theorem lenZ (s : Str) : (decide ((s.length : Int) < 1)) = decide (s = []) := by
  cases s with
  | nil => rfl
  | cons a l => simp; omega

theorem ex_open {α : Type} {f : α → List Atom} {w0 : World} {O : Nat → Prop} {As : List Atom} : ∀ w, Hp w0 O ((fun h => ∃ x, Own (f x) h) :: As) w → ∃ x, Hp w0 O (f x ++ As) w := fun w h => by
  obtain ⟨g, ⟨h1, h2, ⟨oc, ha⟩, ho, rfl⟩, hf⟩ := h
  exact ⟨oc, h1 ++ h2, own_append.2 ⟨h1, h2, ha, ho, rfl⟩, hf⟩
theorem ex_shut {α : Type} {f : α → List Atom} {w0 : World} {O : Nat → Prop} {As : List Atom} {w : World} (x : α) (h : Hp w0 O (f x ++ As) w) : Hp w0 O ((fun h => ∃ x, Own (f x) h) :: As) w := by
  obtain ⟨g, ho, hf⟩ := h
  obtain ⟨h1, h2, h1o, h2o, rfl⟩ := own_append.1 ho
  exact ⟨_, ⟨h1, h2, ⟨x, h1o⟩, h2o, rfl⟩, hf⟩

structure Jb where
  key : Str
  rank : Int
  since : Int
deriving DecidableEq
structure Ls where
  job : Jb
  worker : Str
  epoch : Int
  upto : Int
deriving DecidableEq
abbrev encJ (j : Jb) : List Value := [vS j.key, vI j.rank, vI j.since]
abbrev encL (x : Ls) : List Value := [vS x.job.key, vI x.job.rank, vI x.job.since, vS x.worker, vI x.epoch, vI x.upto]
abbrev agJ (j : Jb) : Value := .agg (encJ j).toArray
abbrev agL (x : Ls) : Value := .agg (encL x).toArray
theorem encJ_len (j : Jb) : (encJ j).length = 3 := rfl
theorem encL_len (x : Ls) : (encL x).length = 6 := rfl
abbrev noL : Ls := ⟨⟨[], 0, 0⟩, [], 0, 0⟩

/-- A table: its leases in the order in which the map bears them. -/
structure Tb where
  ttl : Int
  epoch : Int
  m : List (Str × Ls)
abbrev tbCells (t : Tb) (mb : Nat) : List Value := [vI t.ttl, vI t.epoch, .map (some mb)]
abbrev tbAs (b : Nat) (t : Tb) (mb : Nat) : List Atom := [blk b (.cells (tbCells t mb).toArray 95 (0, 0)), mapA vS agL mb t.m]
def tbA (b : Nat) (t : Tb) : Atom := fun h => ∃ mb, Own (tbAs b t mb) h
theorem tb_open {w0 : World} {O : Nat → Prop} {b : Nat} {t : Tb} {As : List Atom} : ∀ w, Hp w0 O (tbA b t :: As) w → ∃ mb, Hp w0 O (tbAs b t mb ++ As) w := ex_open (f := tbAs b t)
theorem tb_shut {w0 : World} {O : Nat → Prop} {b : Nat} {t : Tb} {As : List Atom} {w : World} (mb : Nat) (h : Hp w0 O (tbAs b t mb ++ As) w) : Hp w0 O (tbA b t :: As) w := ex_shut (f := tbAs b t) mb h

def timeB (n : Int) : Bool := decide (0 ≤ n) && decide (n ≤ 1000000000)
/-- Bounds that keep the sums small. -/
def Tb.ok (t : Tb) : Prop := 1 ≤ t.ttl ∧ t.ttl ≤ 1000000 ∧ 0 ≤ t.epoch ∧ t.epoch ≤ 1000000000
def Tb.find (t : Tb) (key : Str) (epoch : Int) : Ls × Int := match mget t.m key with
  | none => (noL, 17)
  | some x => if x.epoch = epoch then (x, 0) else (noL, 44)
def Tb.lease (t : Tb) (j : Jb) (w : Str) (now : Int) : Ls := ⟨j, w, t.epoch + 1, now + t.ttl⟩
def Tb.grant (t : Tb) (j : Jb) (w : Str) (now : Int) : Tb × Ls × Int :=
  if nameE w = 0 then
    if timeB now = true then match mget t.m j.key with
      | some _ => (t, noL, 16)
      | none => ({ t with epoch := t.epoch + 1, m := mput t.m j.key (t.lease j w now) }, t.lease j w now, 0)
    else (t, noL, 1)
  else (t, noL, nameE w)
def Tb.renew (t : Tb) (key : Str) (epoch now : Int) : Tb × Int :=
  if timeB now = true then
    if (t.find key epoch).2 = 0 then
      if (t.find key epoch).1.upto < now then (t, 44) else ({ t with m := mput t.m key { (t.find key epoch).1 with upto := now + t.ttl } }, 0)
    else (t, (t.find key epoch).2)
  else (t, 1)
def Tb.finish (t : Tb) (key : Str) (epoch : Int) : Tb × Int :=
  if (t.find key epoch).2 = 0 then ({ t with m := mdel t.m key }, 0) else (t, (t.find key epoch).2)

set_option maxHeartbeats 1000000 in
theorem name_c (s : Str) :
    Ctr Try.prog 29 #[vS s] [] [] (fun _ : Unit => True) (fun _ => vI (nameE s)) (fun _ => []) := by
  refine spec_start (n := 43) [(0, vS s)] Try.func29 rfl rfl ⟨rfl, trivial⟩ rfl ?_
  intro w0 K hR
  refine wc_seq ?_
  refine wc_region ?_
  refine wl_y rfl (y_assign rfl) ?_
  refine wl_nil ?_
  refine wq_then ?_
  refine wc_seq ?_
  refine wc_seq ?_
  refine wc_region ?_
  refine wl_y rfl (y_move rfl) ?_
  refine wl_y rfl (y_eqlS rfl rfl) ?_
  refine wl_y rfl (y_move rfl) ?_
  apply wl_or 4 11 [(0, _)] (t := 7) rfl ⟨rfl, trivial⟩
  · intro hg7 hM11
    refine wl_sk rfl rfl rfl rfl ?_
    refine wl_sk rfl rfl rfl rfl ?_
    refine wl_sk rfl rfl rfl rfl ?_
    refine wl_y rfl (y_pick_t rfl rfl) ?_
    exact wl_weaken hM11 ⟨rfl, rfl, trivial⟩
  · intro hg7 hM11
    try (simp at hg7)
    refine wl_yg rfl rfl rfl (y_move rfl) ?_
    refine wl_yg rfl rfl rfl (y_lenS Try.underlying9 rfl) ?_
    refine wl_yg rfl rfl rfl (y_gtr rfl rfl) ?_
    refine wl_y rfl (y_pick_f rfl rfl) ?_
    exact wl_weaken hM11 ⟨rfl, rfl, trivial⟩
  ·
    refine wl_nil ?_
    refine wq_then ?_
    refine wc_cond rfl (fun hc0 => ?_) (fun hc0 => ?_)
    ·
      refine wc_seq ?_
      refine wc_region ?_
      refine wl_y rfl (y_assign rfl) ?_
      refine wl_nil ?_
      refine wq_then ?_
      refine wc_ret ?_
      refine wq_then_ret ?_
      refine wq_ret1 rfl rfl (fun w hw => ?_)
      exact ⟨(), trivial, by rw [show nameE s = 14 by simp only [nameE, isName, hc0]; rfl], hw⟩
    ·
      have hlen : s.length ≤ 16 := by simp at hc0; omega
      refine wc_skip ?_
      refine wq_then ?_
      refine wc_seq ?_
      refine wc_seq ?_
      refine wc_region ?_
      refine wl_y rfl (y_move rfl) ?_
      refine wl_y rfl (y_lenS Try.underlying9 rfl) ?_
      refine wl_y rfl (y_move rfl) ?_
      refine wl_nil ?_
      refine wq_then ?_
      refine wc_block ?_
      refine wc_loop (α := Nat) (fun y => y ≤ s.length ∧ (s.take y).all nameC = true) [(0, _), (13, _)] (fun y => [(14, vI y)]) (fun y => Hp w0 K []) (fun y => s.length - y) 0 ?_ ⟨rfl, rfl, rfl, trivial⟩ ?_ ?_
      · exact ⟨Nat.zero_le _, rfl⟩
      · exact fun w hw => hw
      · rintro k ⟨hk, hall⟩
        refine wc_seq ?_
        refine wc_region ?_
        refine wl_y rfl (y_lss rfl rfl) ?_
        refine wl_nil ?_
        refine wq_then ?_
        refine wc_seq ?_
        refine wc_cond rfl (fun hc15 => ?_) (fun hc15 => ?_)
        ·
          simp at hc15
          refine wc_skip ?_
          refine wq_then ?_
          refine wc_seq ?_
          refine wc_block ?_
          refine wc_seq ?_
          refine wc_region ?_
          obtain ⟨ch, hch⟩ : ∃ ch, s[k]? = some ch := ⟨_, List.getElem?_eq_getElem (by omega)⟩
          refine wl_y rfl (y_move rfl) ?_
          refine wl_y rfl (y_assign rfl) ?_
          refine wl_nil ?_
          refine wq_then ?_
          refine wc_seq ?_
          refine wc_region ?_
          refine wl_y rfl (y_move rfl) ?_
          refine wl_y rfl (y_move rfl) ?_
          refine wl_y rfl (y_indexS Try.underlying9 rfl rfl rfl hch) ?_
          refine wl_y rfl (y_assign rfl) ?_
          refine wl_nil ?_
          refine wq_then ?_
          refine wc_seq ?_
          refine wc_region ?_
          refine wl_y rfl (y_move rfl) ?_
          refine wl_y rfl (y_neqI rfl rfl) ?_
          refine wl_y rfl (y_move rfl) ?_
          apply wl_and 3 25 [(0, _), (4, _), (13, _), (14, _)] (t := 22) rfl ⟨rfl, rfl, rfl, rfl, trivial⟩
          · intro hg22 hM25
            try (simp at hg22)
            refine wl_yg rfl rfl rfl (y_move rfl) ?_
            refine wl_yg rfl rfl rfl (y_neqI rfl rfl) ?_
            refine wl_y rfl (y_pick_t rfl rfl) ?_
            exact wl_weaken hM25 ⟨rfl, rfl, rfl, rfl, rfl, trivial⟩
          · intro hg22 hM25
            refine wl_sk rfl rfl rfl rfl ?_
            refine wl_sk rfl rfl rfl rfl ?_
            refine wl_y rfl (y_pick_f rfl rfl) ?_
            exact wl_weaken hM25 ⟨rfl, rfl, rfl, rfl, rfl, trivial⟩
          ·
            refine wl_y rfl (y_move rfl) ?_
            apply wl_and 7 33 [(0, _), (4, _), (13, _), (14, _)] (t := 26) rfl ⟨rfl, rfl, rfl, rfl, trivial⟩
            · intro hg26 hM33
              try (simp at hg26)
              refine wl_yg rfl rfl rfl (y_move rfl) ?_
              refine wl_yg rfl rfl rfl (y_lss rfl rfl) ?_
              refine wl_yg rfl rfl rfl (y_move rfl) ?_
              apply wl_or 3 32 [(0, _), (4, _), (13, _), (14, _), (26, _)] (t := 29) rfl ⟨rfl, rfl, rfl, rfl, rfl, trivial⟩
              · intro hg29 hM32
                refine wl_sk rfl rfl rfl rfl ?_
                refine wl_sk rfl rfl rfl rfl ?_
                refine wl_yg rfl rfl rfl (y_pick_t rfl rfl) ?_
                exact wl_weaken hM32 ⟨rfl, rfl, rfl, rfl, rfl, rfl, trivial⟩
              · intro hg29 hM32
                try (simp at hg29)
                refine wl_yg rfl rfl rfl (y_move rfl) ?_
                refine wl_yg rfl rfl rfl (y_gtr rfl rfl) ?_
                refine wl_yg rfl rfl rfl (y_pick_f rfl rfl) ?_
                exact wl_weaken hM32 ⟨rfl, rfl, rfl, rfl, rfl, rfl, trivial⟩
              ·
                refine wl_y rfl (y_pick_t rfl rfl) ?_
                exact wl_weaken hM33 ⟨rfl, rfl, rfl, rfl, rfl, trivial⟩
            · intro hg26 hM33
              refine wl_sk rfl rfl rfl rfl ?_
              refine wl_sk rfl rfl rfl rfl ?_
              refine wl_sk rfl rfl rfl rfl ?_
              refine wl_sku rfl rfl rfl ?_
              refine wl_sku rfl rfl rfl ?_
              refine wl_sk rfl rfl rfl rfl ?_
              refine wl_y rfl (y_pick_f rfl rfl) ?_
              exact wl_weaken hM33 ⟨rfl, rfl, rfl, rfl, rfl, trivial⟩
            ·
              refine wl_y rfl (y_move rfl) ?_
              apply wl_and 7 41 [(0, _), (13, _), (14, _)] (t := 34) rfl ⟨rfl, rfl, rfl, trivial⟩
              · intro hg34 hM41
                try (simp at hg34)
                refine wl_yg rfl rfl rfl (y_move rfl) ?_
                refine wl_yg rfl rfl rfl (y_lss rfl rfl) ?_
                refine wl_yg rfl rfl rfl (y_move rfl) ?_
                apply wl_or 3 40 [(0, _), (13, _), (14, _), (34, _)] (t := 37) rfl ⟨rfl, rfl, rfl, rfl, trivial⟩
                · intro hg37 hM40
                  refine wl_sk rfl rfl rfl rfl ?_
                  refine wl_sk rfl rfl rfl rfl ?_
                  refine wl_yg rfl rfl rfl (y_pick_t rfl rfl) ?_
                  exact wl_weaken hM40 ⟨rfl, rfl, rfl, rfl, rfl, trivial⟩
                · intro hg37 hM40
                  try (simp at hg37)
                  refine wl_yg rfl rfl rfl (y_move rfl) ?_
                  refine wl_yg rfl rfl rfl (y_gtr rfl rfl) ?_
                  refine wl_yg rfl rfl rfl (y_pick_f rfl rfl) ?_
                  exact wl_weaken hM40 ⟨rfl, rfl, rfl, rfl, rfl, trivial⟩
                ·
                  refine wl_y rfl (y_pick_t rfl rfl) ?_
                  exact wl_weaken hM41 ⟨rfl, rfl, rfl, rfl, trivial⟩
              · intro hg34 hM41
                refine wl_sk rfl rfl rfl rfl ?_
                refine wl_sk rfl rfl rfl rfl ?_
                refine wl_sk rfl rfl rfl rfl ?_
                refine wl_sku rfl rfl rfl ?_
                refine wl_sku rfl rfl rfl ?_
                refine wl_sk rfl rfl rfl rfl ?_
                refine wl_y rfl (y_pick_f rfl rfl) ?_
                exact wl_weaken hM41 ⟨rfl, rfl, rfl, rfl, trivial⟩
              ·
                refine wl_same 41 (vB (!nameC ch)) rfl (by rw [badN1]) ?_
                refine wl_nil ?_
                refine wq_then ?_
                refine wc_cond rfl (fun hc41 => ?_) (fun hc41 => ?_)
                ·
                  simp at hc41
                  refine wc_seq ?_
                  refine wc_region ?_
                  refine wl_y rfl (y_assign rfl) ?_
                  refine wl_nil ?_
                  refine wq_then ?_
                  refine wc_ret ?_
                  refine wq_block_ret (wq_then_ret (wq_then_ret (wq_block_ret (wq_then_ret ?_))))
                  refine wq_ret1 rfl rfl (fun w hw => ?_)
                  exact ⟨(), trivial, by rw [show nameE s = 14 by simp only [nameE, isName, not_all hch hc41, Bool.and_false]; rfl], hw⟩
                ·
                  simp at hc41
                  refine wc_skip ?_
                  refine wq_block_normal ?_
                  refine wq_then ?_
                  refine wc_region ?_
                  refine wl_y rfl (y_add rfl rfl (by omega)) ?_
                  refine wl_y rfl (y_move rfl) ?_
                  refine wl_nil ?_
                  exact wq_round (k + 1) (by omega) ⟨by omega, by rw [all_snoc _ hch, hall, hc41]; rfl⟩ ⟨rfl, rfl, rfl, trivial⟩ (fun w hw => hw)
        ·
          simp at hc15
          refine wc_exit ?_
          refine wq_then_exit (wq_then_exit (wq_block_exit ?_))
          refine wq_then ?_
          refine wc_seq ?_
          refine wc_region ?_
          refine wl_y rfl (y_assign rfl) ?_
          refine wl_nil ?_
          refine wq_then ?_
          refine wc_ret ?_
          refine wq_ret1 rfl rfl (fun w hw => ?_)
          exact ⟨(), trivial, by rw [show nameE s = 0 by
            have hk' : k = s.length := by omega
            rw [hk', List.take_length] at hall
            simp only [nameE, isName, hc0, hall]; rfl], hw⟩

set_option maxHeartbeats 1000000 in
theorem rname_c (s : Str) :
    Ctr Try.prog 41 #[vS s] [] [] (fun _ : Unit => True) (fun _ => vI (nameE s)) (fun _ => []) := by
  refine spec_start (n := 45) [(0, vS s)] Try.func41 rfl rfl ⟨rfl, trivial⟩ rfl ?_
  intro w0 K hR
  refine wc_seq ?_
  refine wc_region ?_
  refine wl_y rfl (y_assign rfl) ?_
  refine wl_nil ?_
  refine wq_then ?_
  refine wc_seq ?_
  refine wc_seq ?_
  refine wc_region ?_
  refine wl_y rfl (y_move rfl) ?_
  refine wl_y rfl (y_lenS Try.underlying9 rfl) ?_
  refine wl_y rfl (y_lss rfl rfl) ?_
  refine wl_y rfl (y_move rfl) ?_
  apply wl_or 4 12 [(0, _)] (t := 8) rfl ⟨rfl, trivial⟩
  · intro hg8 hM12
    refine wl_sk rfl rfl rfl rfl ?_
    refine wl_sk rfl rfl rfl rfl ?_
    refine wl_sk rfl rfl rfl rfl ?_
    refine wl_y rfl (y_pick_t rfl rfl) ?_
    exact wl_weaken hM12 ⟨rfl, rfl, trivial⟩
  · intro hg8 hM12
    try (simp at hg8)
    refine wl_yg rfl rfl rfl (y_move rfl) ?_
    refine wl_yg rfl rfl rfl (y_lenS Try.underlying9 rfl) ?_
    refine wl_yg rfl rfl rfl (y_gtr rfl rfl) ?_
    refine wl_y rfl (y_pick_f rfl rfl) ?_
    exact wl_weaken hM12 ⟨rfl, rfl, trivial⟩
  ·
    refine wl_nil ?_
    refine wq_then ?_
    refine wc_cond rfl (fun hc0 => ?_) (fun hc0 => ?_)
    ·
      refine wc_seq ?_
      refine wc_region ?_
      refine wl_y rfl (y_assign rfl) ?_
      refine wl_nil ?_
      refine wq_then ?_
      refine wc_ret ?_
      refine wq_then_ret ?_
      refine wq_ret1 rfl rfl (fun w hw => ?_)
      exact ⟨(), trivial, by rw [show nameE s = 14 by simp only [nameE, isName, ← lenZ, hc0]; rfl], hw⟩
    ·
      have hlen : s.length ≤ 16 := by simp at hc0; omega
      refine wc_skip ?_
      refine wq_then ?_
      refine wc_seq ?_
      refine wc_seq ?_
      refine wc_region ?_
      refine wl_y rfl (y_assign rfl) ?_
      refine wl_nil ?_
      refine wq_then ?_
      refine wc_block ?_
      refine wc_loop (α := Nat) (fun y => y ≤ s.length ∧ (s.take y).all nameC = true) [(0, _)] (fun y => [(3, vI y)]) (fun y => Hp w0 K []) (fun y => s.length - y) 0 ?_ ⟨rfl, rfl, trivial⟩ ?_ ?_
      · exact ⟨Nat.zero_le _, rfl⟩
      · exact fun w hw => hw
      · rintro k ⟨hk, hall⟩
        refine wc_seq ?_
        refine wc_seq ?_
        refine wc_region ?_
        refine wl_y rfl (y_move rfl) ?_
        refine wl_y rfl (y_move rfl) ?_
        refine wl_y rfl (y_lenS Try.underlying9 rfl) ?_
        refine wl_y rfl (y_lss rfl rfl) ?_
        refine wl_nil ?_
        refine wq_then ?_
        refine wc_cond rfl (fun hc15 => ?_) (fun hc15 => ?_)
        ·
          simp at hc15
          refine wc_skip ?_
          refine wq_then ?_
          refine wc_seq ?_
          refine wc_block ?_
          refine wc_seq ?_
          refine wc_region ?_
          obtain ⟨ch, hch⟩ : ∃ ch, s[k]? = some ch := ⟨_, List.getElem?_eq_getElem (by omega)⟩
          refine wl_y rfl (y_move rfl) ?_
          refine wl_y rfl (y_move rfl) ?_
          refine wl_y rfl (y_indexS Try.underlying9 rfl rfl rfl hch) ?_
          refine wl_y rfl (y_assign rfl) ?_
          refine wl_nil ?_
          refine wq_then ?_
          refine wc_seq ?_
          refine wc_region ?_
          refine wl_y rfl (y_move rfl) ?_
          refine wl_y rfl (y_geq rfl rfl) ?_
          refine wl_y rfl (y_move rfl) ?_
          apply wl_and 3 27 [(0, _), (3, _), (4, _)] (t := 24) rfl ⟨rfl, rfl, rfl, trivial⟩
          · intro hg24 hM27
            try (simp at hg24)
            refine wl_yg rfl rfl rfl (y_move rfl) ?_
            refine wl_yg rfl rfl rfl (y_leq rfl rfl) ?_
            refine wl_y rfl (y_pick_t rfl rfl) ?_
            exact wl_weaken hM27 ⟨rfl, rfl, rfl, rfl, trivial⟩
          · intro hg24 hM27
            refine wl_sk rfl rfl rfl rfl ?_
            refine wl_sk rfl rfl rfl rfl ?_
            refine wl_y rfl (y_pick_f rfl rfl) ?_
            exact wl_weaken hM27 ⟨rfl, rfl, rfl, rfl, trivial⟩
          ·
            refine wl_y rfl (y_move rfl) ?_
            apply wl_or 7 35 [(0, _), (3, _), (4, _)] (t := 28) rfl ⟨rfl, rfl, rfl, trivial⟩
            · intro hg28 hM35
              refine wl_sk rfl rfl rfl rfl ?_
              refine wl_sk rfl rfl rfl rfl ?_
              refine wl_sk rfl rfl rfl rfl ?_
              refine wl_sku rfl rfl rfl ?_
              refine wl_sku rfl rfl rfl ?_
              refine wl_sk rfl rfl rfl rfl ?_
              refine wl_y rfl (y_pick_t rfl rfl) ?_
              exact wl_weaken hM35 ⟨rfl, rfl, rfl, rfl, trivial⟩
            · intro hg28 hM35
              try (simp at hg28)
              refine wl_yg rfl rfl rfl (y_move rfl) ?_
              refine wl_yg rfl rfl rfl (y_geq rfl rfl) ?_
              refine wl_yg rfl rfl rfl (y_move rfl) ?_
              apply wl_and 3 34 [(0, _), (3, _), (4, _), (28, _)] (t := 31) rfl ⟨rfl, rfl, rfl, rfl, trivial⟩
              · intro hg31 hM34
                try (simp at hg31)
                refine wl_yg rfl rfl rfl (y_move rfl) ?_
                refine wl_yg rfl rfl rfl (y_leq rfl rfl) ?_
                refine wl_yg rfl rfl rfl (y_pick_t rfl rfl) ?_
                exact wl_weaken hM34 ⟨rfl, rfl, rfl, rfl, rfl, trivial⟩
              · intro hg31 hM34
                refine wl_sk rfl rfl rfl rfl ?_
                refine wl_sk rfl rfl rfl rfl ?_
                refine wl_yg rfl rfl rfl (y_pick_f rfl rfl) ?_
                exact wl_weaken hM34 ⟨rfl, rfl, rfl, rfl, rfl, trivial⟩
              ·
                refine wl_y rfl (y_pick_f rfl rfl) ?_
                exact wl_weaken hM35 ⟨rfl, rfl, rfl, rfl, trivial⟩
            ·
              refine wl_y rfl (y_move rfl) ?_
              apply wl_or 3 39 [(0, _), (3, _), (4, _)] (t := 36) rfl ⟨rfl, rfl, rfl, trivial⟩
              · intro hg36 hM39
                refine wl_sk rfl rfl rfl rfl ?_
                refine wl_sk rfl rfl rfl rfl ?_
                refine wl_y rfl (y_pick_t rfl rfl) ?_
                exact wl_weaken hM39 ⟨rfl, rfl, rfl, rfl, trivial⟩
              · intro hg36 hM39
                try (simp at hg36)
                refine wl_yg rfl rfl rfl (y_move rfl) ?_
                refine wl_yg rfl rfl rfl (y_eqlI rfl rfl) ?_
                refine wl_y rfl (y_pick_f rfl rfl) ?_
                exact wl_weaken hM39 ⟨rfl, rfl, rfl, rfl, trivial⟩
              ·
                refine wl_y rfl (y_move rfl) ?_
                apply wl_or 3 43 [(0, _), (3, _)] (t := 40) rfl ⟨rfl, rfl, trivial⟩
                · intro hg40 hM43
                  refine wl_sk rfl rfl rfl rfl ?_
                  refine wl_sk rfl rfl rfl rfl ?_
                  refine wl_y rfl (y_pick_t rfl rfl) ?_
                  exact wl_weaken hM43 ⟨rfl, rfl, rfl, trivial⟩
                · intro hg40 hM43
                  try (simp at hg40)
                  refine wl_yg rfl rfl rfl (y_move rfl) ?_
                  refine wl_yg rfl rfl rfl (y_eqlI rfl rfl) ?_
                  refine wl_y rfl (y_pick_f rfl rfl) ?_
                  exact wl_weaken hM43 ⟨rfl, rfl, rfl, trivial⟩
                ·
                  refine wl_y rfl (y_not rfl) ?_
                  refine wl_same 44 (vB (!nameC ch)) rfl (by rw [badN2]) ?_
                  refine wl_nil ?_
                  refine wq_then ?_
                  refine wc_cond rfl (fun hc41 => ?_) (fun hc41 => ?_)
                  ·
                    simp at hc41
                    refine wc_seq ?_
                    refine wc_region ?_
                    refine wl_y rfl (y_assign rfl) ?_
                    refine wl_nil ?_
                    refine wq_then ?_
                    refine wc_ret ?_
                    refine wq_block_ret (wq_then_ret (wq_then_ret (wq_block_ret (wq_then_ret ?_))))
                    refine wq_ret1 rfl rfl (fun w hw => ?_)
                    exact ⟨(), trivial, by rw [show nameE s = 14 by simp only [nameE, isName, not_all hch hc41, Bool.and_false]; rfl], hw⟩
                  ·
                    simp at hc41
                    refine wc_skip ?_
                    refine wq_block_normal ?_
                    refine wq_then ?_
                    refine wc_region ?_
                    refine wl_y rfl (y_move rfl) ?_
                    refine wl_y rfl (y_add rfl rfl (by omega)) ?_
                    refine wl_y rfl (y_assign rfl) ?_
                    refine wl_nil ?_
                    exact wq_round (k + 1) (by omega) ⟨by omega, by rw [all_snoc _ hch, hall, hc41]; rfl⟩ ⟨rfl, rfl, trivial⟩ (fun w hw => hw)
        ·
          simp at hc15
          refine wc_exit ?_
          refine wq_then_exit (wq_then_exit (wq_block_exit ?_))
          refine wq_then ?_
          refine wc_seq ?_
          refine wc_region ?_
          refine wl_y rfl (y_assign rfl) ?_
          refine wl_nil ?_
          refine wq_then ?_
          refine wc_ret ?_
          refine wq_ret1 rfl rfl (fun w hw => ?_)
          exact ⟨(), trivial, by rw [show nameE s = 0 by
            have hk' : k = s.length := by omega
            rw [hk', List.take_length] at hall
            simp only [nameE, isName, ← lenZ, hc0, hall]; rfl], hw⟩

set_option maxHeartbeats 1000000 in
theorem time_c (n : Int) :
    Ctr Try.prog 53 #[vI n] [] [] (fun _ : Unit => True) (fun _ => vB (timeB n)) (fun _ => []) := by
  refine spec_start (n := 9) [(0, vI n)] Try.func53 rfl rfl ⟨rfl, trivial⟩ rfl ?_
  intro w0 K hR
  refine wc_seq ?_
  refine wc_region ?_
  refine wl_y rfl (y_assign rfl) ?_
  refine wl_nil ?_
  refine wq_then ?_
  refine wc_seq ?_
  refine wc_region ?_
  refine wl_y rfl (y_move rfl) ?_
  refine wl_y rfl (y_geq rfl rfl) ?_
  refine wl_y rfl (y_move rfl) ?_
  apply wl_and 3 8 [] (t := 5) rfl trivial
  · intro hg5 hM8
    try (simp at hg5)
    refine wl_yg rfl rfl rfl (y_move rfl) ?_
    refine wl_yg rfl rfl rfl (y_leq rfl rfl) ?_
    refine wl_y rfl (y_pick_t rfl rfl) ?_
    exact wl_weaken hM8 ⟨rfl, trivial⟩
  · intro hg5 hM8
    refine wl_sk rfl rfl rfl rfl ?_
    refine wl_sk rfl rfl rfl rfl ?_
    refine wl_y rfl (y_pick_f rfl rfl) ?_
    exact wl_weaken hM8 ⟨rfl, trivial⟩
  ·
    refine wl_y rfl (y_assign rfl) ?_
    refine wl_nil ?_
    refine wq_then ?_
    refine wc_ret ?_
    refine wq_ret1 rfl rfl (fun w hw => ?_)
    exact ⟨(), trivial, rfl, hw⟩

set_option maxHeartbeats 1000000 in
theorem rtime_c (n : Int) :
    Ctr Try.prog 62 #[vI n] [] [] (fun _ : Unit => True) (fun _ => vB (timeB n)) (fun _ => []) := by
  refine spec_start (n := 9) [(0, vI n)] Try.func62 rfl rfl ⟨rfl, trivial⟩ rfl ?_
  intro w0 K hR
  refine wc_seq ?_
  refine wc_region ?_
  refine wl_y rfl (y_assign rfl) ?_
  refine wl_nil ?_
  refine wq_then ?_
  refine wc_seq ?_
  refine wc_region ?_
  refine wl_y rfl (y_move rfl) ?_
  refine wl_y rfl (y_geq rfl rfl) ?_
  refine wl_y rfl (y_move rfl) ?_
  apply wl_and 3 8 [] (t := 5) rfl trivial
  · intro hg5 hM8
    try (simp at hg5)
    refine wl_yg rfl rfl rfl (y_move rfl) ?_
    refine wl_yg rfl rfl rfl (y_leq rfl rfl) ?_
    refine wl_y rfl (y_pick_t rfl rfl) ?_
    exact wl_weaken hM8 ⟨rfl, trivial⟩
  · intro hg5 hM8
    refine wl_sk rfl rfl rfl rfl ?_
    refine wl_sk rfl rfl rfl rfl ?_
    refine wl_y rfl (y_pick_f rfl rfl) ?_
    exact wl_weaken hM8 ⟨rfl, trivial⟩
  ·
    refine wl_y rfl (y_assign rfl) ?_
    refine wl_nil ?_
    refine wq_then ?_
    refine wc_ret ?_
    refine wq_ret1 rfl rfl (fun w hw => ?_)
    exact ⟨(), trivial, rfl, hw⟩


set_option maxHeartbeats 1000000 in
theorem new_lo (n : Int) (hn : n < 1 ∨ 1000000 < n) :
    Ctr Try.prog 27 #[vI n] [] [] (fun _ : Unit => True) (fun _ => .tuple #[.pointer none, vI 1]) (fun _ => []) := by
  refine spec_start (n := 14) [(0, vI n)] Try.func27 rfl rfl ⟨rfl, trivial⟩ rfl ?_
  intro w0 K hR
  refine wc_seq ?_
  refine wc_region ?_
  refine wl_y rfl (y_assign rfl) ?_
  refine wl_y rfl (y_assign rfl) ?_
  refine wl_nil ?_
  refine wq_then ?_
  refine wc_seq ?_
  refine wc_seq ?_
  refine wc_region ?_
  refine wl_y rfl (y_move rfl) ?_
  refine wl_y rfl (y_lss rfl rfl) ?_
  refine wl_y rfl (y_move rfl) ?_
  apply wl_or 3 9 [(0, _)] (t := 6) rfl ⟨rfl, trivial⟩
  · intro hg6 hM9
    refine wl_sk rfl rfl rfl rfl ?_
    refine wl_sk rfl rfl rfl rfl ?_
    refine wl_y rfl (y_pick_t rfl rfl) ?_
    exact wl_weaken hM9 ⟨rfl, rfl, trivial⟩
  · intro hg6 hM9
    try (simp at hg6)
    refine wl_yg rfl rfl rfl (y_move rfl) ?_
    refine wl_yg rfl rfl rfl (y_gtr rfl rfl) ?_
    refine wl_y rfl (y_pick_f rfl rfl) ?_
    exact wl_weaken hM9 ⟨rfl, rfl, trivial⟩
  ·
    refine wl_nil ?_
    refine wq_then ?_
    refine wc_known 9 true rfl (by simp; omega) ?_
    refine wc_cond_true rfl ?_
    refine wc_seq ?_
    refine wc_region ?_
    refine wl_y rfl (y_assign rfl) ?_
    refine wl_y rfl (y_assign rfl) ?_
    refine wl_nil ?_
    refine wq_then ?_
    refine wc_ret ?_
    refine wq_then_ret ?_
    refine wq_ret2 rfl rfl rfl (fun w hw => ?_)
    exact ⟨(), trivial, rfl, hw⟩

set_option maxHeartbeats 1000000 in
theorem new_ok (n : Int) (h1 : 1 ≤ n) (h2 : n ≤ 1000000) :
    Ctr Try.prog 27 #[vI n] [] [] (fun _ : Nat => True) (fun b => .tuple #[ptr b, vI 0]) (fun b => [tbA b ⟨n, 0, []⟩]) := by
  refine spec_start (n := 14) [(0, vI n)] Try.func27 rfl rfl ⟨rfl, trivial⟩ rfl ?_
  intro w0 K hR
  refine wc_seq ?_
  refine wc_region ?_
  refine wl_y rfl (y_assign rfl) ?_
  refine wl_y rfl (y_assign rfl) ?_
  refine wl_nil ?_
  refine wq_then ?_
  refine wc_seq ?_
  refine wc_seq ?_
  refine wc_region ?_
  refine wl_y rfl (y_move rfl) ?_
  refine wl_y rfl (y_lss rfl rfl) ?_
  refine wl_y rfl (y_move rfl) ?_
  apply wl_or 3 9 [(0, _)] (t := 6) rfl ⟨rfl, trivial⟩
  · intro hg6 hM9
    refine wl_sk rfl rfl rfl rfl ?_
    refine wl_sk rfl rfl rfl rfl ?_
    refine wl_y rfl (y_pick_t rfl rfl) ?_
    exact wl_weaken hM9 ⟨rfl, rfl, trivial⟩
  · intro hg6 hM9
    try (simp at hg6)
    refine wl_yg rfl rfl rfl (y_move rfl) ?_
    refine wl_yg rfl rfl rfl (y_gtr rfl rfl) ?_
    refine wl_y rfl (y_pick_f rfl rfl) ?_
    exact wl_weaken hM9 ⟨rfl, rfl, trivial⟩
  ·
    refine wl_nil ?_
    refine wq_then ?_
    refine wc_known 9 false rfl (by simp; omega) ?_
    refine wc_cond_false rfl ?_
    refine wc_skip ?_
    refine wq_then ?_
    refine wc_seq ?_
    refine wc_region ?_
    refine wl_y rfl (y_move rfl) ?_
    refine wl_w (fun _ _ => want_none) rfl (yw_makeMap (ek := vS) (ev := agL)) (wl_ex fun b11 _ => ?_)
    refine wl_y rfl (y_build (cs := [_, _, _]) T95 PL95 rfl rfl rfl) ?_
    refine wl_w (fun _ _ => want_none) rfl (yw_box rfl rfl) (wl_ex fun b13 _ => ?_)
    refine wl_y rfl (y_assign rfl) ?_
    refine wl_y rfl (y_assign rfl) ?_
    refine wl_nil ?_
    refine wq_then ?_
    refine wc_ret ?_
    refine wq_ret2 rfl rfl rfl (fun w hw => ?_)
    exact ⟨b13, trivial, rfl, tb_shut b11 hw⟩

set_option maxHeartbeats 1000000 in
theorem find_c (b : Nat) (t : Tb) (key : Str) (epoch : Int) (mb : Nat) :
    Ctr Try.prog 58 #[ptr b, vS key, vI epoch] [] (tbAs b t mb) (fun _ : Unit => True) (fun _ => .tuple #[agL (t.find key epoch).1, vI (t.find key epoch).2]) (fun _ => tbAs b t mb) := by
  refine spec_start (n := 30) [(0, ptr b), (1, vS key), (2, vI epoch)] Try.func58 rfl rfl ⟨rfl, rfl, rfl, trivial⟩ rfl ?_
  intro w0 K hR
  refine wc_seq ?_
  refine wc_region ?_
  refine wl_w (fun _ _ => want_none) rfl (yw_alloc T36 rfl) (wl_ex fun b6 _ => ?_)
  refine wl_y rfl (y_assign rfl) ?_
  refine wl_nil ?_
  refine wq_then ?_
  refine wc_seq ?_
  refine wc_region ?_
  rcases hg : mget t.m key with _ | x
  ·
    refine wl_y rfl (y_move rfl) ?_
    refine wl_y rfl (y_nilCheck rfl) ?_
    refine wl_y rfl (y_fieldAddr F95_2 rfl) ?_
    refine wl_y rfl (y_load NA93 rfl (by first | exact cell_blk [] rfl | exact cell_blk [_] rfl | exact cell_blk [_, _] rfl | exact cell_blk [_, _, _] rfl | exact cell_blk [_, _, _, _] rfl | exact cellR_blk (by assumption) rfl)) ?_
    refine wl_y rfl (y_move rfl) ?_
    refine wl_y rfl (y_lookup Try.underlying93 (keyE_str Try.underlying9) T36 rfl rfl (by first | exact fun w hw => hw.seen [] | exact fun w hw => hw.seen [_] | exact fun w hw => hw.seen [_, _] | exact fun w hw => hw.seen [_, _, _] | exact fun w hw => hw.seen [_, _, _, _] | exact fun w hw => Seen.rngMap (hw.seen []) | exact fun w hw => Seen.rngMap (hw.seen [_]) | exact fun w hw => Seen.rngMap (hw.seen [_, _]) | exact fun w hw => Seen.rngMap (hw.seen [_, _, _]) | exact fun w hw => Seen.rngMap (hw.seen [_, _, _, _]))) ?_
    refine wl_same 16 (.tuple #[agL noL, vB false]) rfl (by rw [hg]; rfl) ?_
    refine wl_y rfl (y_move rfl) ?_
    refine wl_y rfl (y_extract rfl rfl) ?_
    refine wl_y rfl (y_extract rfl rfl) ?_
    refine wl_w (fun _ _ => want_none) rfl (yw_alloc T36 rfl) (wl_ex fun b8 _ => ?_)
    first | refine wl_u (yu_storeAgg [] (l' := [_, _, _, _, _, _]) T36 rfl rfl rfl (by simp [Value.oneCell']) rfl rfl) ?_ | refine wl_u (yu_storeAgg [_] (l' := [_, _, _, _, _, _]) T36 rfl rfl rfl (by simp [Value.oneCell']) rfl rfl) ?_ | refine wl_u (yu_storeAgg [_, _] (l' := [_, _, _, _, _, _]) T36 rfl rfl rfl (by simp [Value.oneCell']) rfl rfl) ?_ | refine wl_u (yu_storeAgg [_, _, _] (l' := [_, _, _, _, _, _]) T36 rfl rfl rfl (by simp [Value.oneCell']) rfl rfl) ?_ | refine wl_u (yu_storeAgg [_, _, _, _] (l' := [_, _, _, _, _, _]) T36 rfl rfl rfl (by simp [Value.oneCell']) rfl rfl) ?_
    refine wl_y rfl (y_assign rfl) ?_
    refine wl_nil ?_
    refine wq_then ?_
    refine wc_seq ?_
    refine wc_block ?_
    refine wc_seq ?_
    refine wc_region ?_
    refine wl_y rfl (y_move rfl) ?_
    refine wl_y rfl (y_not rfl) ?_
    refine wl_y rfl (y_assign rfl) ?_
    refine wl_nil ?_
    refine wq_then ?_
    refine wc_known 19 true rfl (rfl) ?_
    refine wc_cond_true rfl ?_
    refine wc_seq ?_
    refine wc_region ?_
    refine wl_y rfl (y_build (cs := [_, _, _, _, _, _]) T36 PL36 rfl rfl rfl) ?_
    first | refine wl_u (yu_storeAgg [] (l' := [_, _, _, _, _, _]) T36 rfl rfl rfl (by simp [Value.oneCell']) rfl rfl) ?_ | refine wl_u (yu_storeAgg [_] (l' := [_, _, _, _, _, _]) T36 rfl rfl rfl (by simp [Value.oneCell']) rfl rfl) ?_ | refine wl_u (yu_storeAgg [_, _] (l' := [_, _, _, _, _, _]) T36 rfl rfl rfl (by simp [Value.oneCell']) rfl rfl) ?_ | refine wl_u (yu_storeAgg [_, _, _] (l' := [_, _, _, _, _, _]) T36 rfl rfl rfl (by simp [Value.oneCell']) rfl rfl) ?_ | refine wl_u (yu_storeAgg [_, _, _, _] (l' := [_, _, _, _, _, _]) T36 rfl rfl rfl (by simp [Value.oneCell']) rfl rfl) ?_
    refine wl_y rfl (y_assign rfl) ?_
    refine wl_nil ?_
    refine wq_then ?_
    refine wc_ret ?_
    refine wq_block_ret (wq_then_ret ?_)
    refine wq_retC2 (l := [_, _, _, _, _, _]) AG36 rfl rfl rfl rfl (by first | exact cells_blk [] rfl | exact cells_blk [_] rfl | exact cells_blk [_, _] rfl | exact cells_blk [_, _, _] rfl | exact cells_blk [_, _, _, _] rfl) (fun w hw => ?_)
    exact ⟨(), trivial, by simp only [Tb.find, hg], hw.drop.drop⟩
  ·
    refine wl_y rfl (y_move rfl) ?_
    refine wl_y rfl (y_nilCheck rfl) ?_
    refine wl_y rfl (y_fieldAddr F95_2 rfl) ?_
    refine wl_y rfl (y_load NA93 rfl (by first | exact cell_blk [] rfl | exact cell_blk [_] rfl | exact cell_blk [_, _] rfl | exact cell_blk [_, _, _] rfl | exact cell_blk [_, _, _, _] rfl | exact cellR_blk (by assumption) rfl)) ?_
    refine wl_y rfl (y_move rfl) ?_
    refine wl_y rfl (y_lookup Try.underlying93 (keyE_str Try.underlying9) T36 rfl rfl (by first | exact fun w hw => hw.seen [] | exact fun w hw => hw.seen [_] | exact fun w hw => hw.seen [_, _] | exact fun w hw => hw.seen [_, _, _] | exact fun w hw => hw.seen [_, _, _, _] | exact fun w hw => Seen.rngMap (hw.seen []) | exact fun w hw => Seen.rngMap (hw.seen [_]) | exact fun w hw => Seen.rngMap (hw.seen [_, _]) | exact fun w hw => Seen.rngMap (hw.seen [_, _, _]) | exact fun w hw => Seen.rngMap (hw.seen [_, _, _, _]))) ?_
    refine wl_same 16 (.tuple #[agL x, vB true]) rfl (by rw [hg]; rfl) ?_
    refine wl_y rfl (y_move rfl) ?_
    refine wl_y rfl (y_extract rfl rfl) ?_
    refine wl_y rfl (y_extract rfl rfl) ?_
    refine wl_w (fun _ _ => want_none) rfl (yw_alloc T36 rfl) (wl_ex fun b8 _ => ?_)
    first | refine wl_u (yu_storeAgg [] (l' := [_, _, _, _, _, _]) T36 rfl rfl rfl (by simp [Value.oneCell']) rfl rfl) ?_ | refine wl_u (yu_storeAgg [_] (l' := [_, _, _, _, _, _]) T36 rfl rfl rfl (by simp [Value.oneCell']) rfl rfl) ?_ | refine wl_u (yu_storeAgg [_, _] (l' := [_, _, _, _, _, _]) T36 rfl rfl rfl (by simp [Value.oneCell']) rfl rfl) ?_ | refine wl_u (yu_storeAgg [_, _, _] (l' := [_, _, _, _, _, _]) T36 rfl rfl rfl (by simp [Value.oneCell']) rfl rfl) ?_ | refine wl_u (yu_storeAgg [_, _, _, _] (l' := [_, _, _, _, _, _]) T36 rfl rfl rfl (by simp [Value.oneCell']) rfl rfl) ?_
    refine wl_y rfl (y_assign rfl) ?_
    refine wl_nil ?_
    refine wq_then ?_
    refine wc_seq ?_
    refine wc_block ?_
    refine wc_seq ?_
    refine wc_region ?_
    refine wl_y rfl (y_move rfl) ?_
    refine wl_y rfl (y_not rfl) ?_
    refine wl_y rfl (y_assign rfl) ?_
    refine wl_nil ?_
    refine wq_then ?_
    refine wc_known 19 false rfl (rfl) ?_
    refine wc_cond_false rfl ?_
    refine wc_seq ?_
    refine wc_region ?_
    refine wl_y rfl (y_fieldAddr F36_2 rfl) ?_
    refine wl_y rfl (y_load NA3 rfl (by first | exact cell_blk [] rfl | exact cell_blk [_] rfl | exact cell_blk [_, _] rfl | exact cell_blk [_, _, _] rfl | exact cell_blk [_, _, _, _] rfl | exact cellR_blk (by assumption) rfl)) ?_
    refine wl_y rfl (y_move rfl) ?_
    refine wl_y rfl (y_neqI rfl rfl) ?_
    refine wl_y rfl (y_assign rfl) ?_
    refine wl_nil ?_
    refine wq_then ?_
    refine wc_cond rfl (fun hc23 => ?_) (fun hc23 => ?_)
    ·
      simp at hc23
      refine wc_seq ?_
      refine wc_region ?_
      refine wl_y rfl (y_build (cs := [_, _, _, _, _, _]) T36 PL36 rfl rfl rfl) ?_
      first | refine wl_u (yu_storeAgg [] (l' := [_, _, _, _, _, _]) T36 rfl rfl rfl (by simp [Value.oneCell']) rfl rfl) ?_ | refine wl_u (yu_storeAgg [_] (l' := [_, _, _, _, _, _]) T36 rfl rfl rfl (by simp [Value.oneCell']) rfl rfl) ?_ | refine wl_u (yu_storeAgg [_, _] (l' := [_, _, _, _, _, _]) T36 rfl rfl rfl (by simp [Value.oneCell']) rfl rfl) ?_ | refine wl_u (yu_storeAgg [_, _, _] (l' := [_, _, _, _, _, _]) T36 rfl rfl rfl (by simp [Value.oneCell']) rfl rfl) ?_ | refine wl_u (yu_storeAgg [_, _, _, _] (l' := [_, _, _, _, _, _]) T36 rfl rfl rfl (by simp [Value.oneCell']) rfl rfl) ?_
      refine wl_y rfl (y_assign rfl) ?_
      refine wl_nil ?_
      refine wq_then ?_
      refine wc_ret ?_
      refine wq_block_ret (wq_then_ret ?_)
      refine wq_retC2 (l := [_, _, _, _, _, _]) AG36 rfl rfl rfl rfl (by first | exact cells_blk [] rfl | exact cells_blk [_] rfl | exact cells_blk [_, _] rfl | exact cells_blk [_, _, _] rfl | exact cells_blk [_, _, _, _] rfl) (fun w hw => ?_)
      exact ⟨(), trivial, by simp only [Tb.find, hg]; rw [if_neg hc23], hw.drop.drop⟩
    ·
      simp at hc23
      refine wc_skip ?_
      refine wq_block_normal ?_
      refine wq_then ?_
      refine wc_seq ?_
      refine wc_region ?_
      refine wl_y rfl (y_loadAgg (l := [_, _, _, _, _, _]) AG36 rfl rfl (by first | exact cells_blk [] rfl | exact cells_blk [_] rfl | exact cells_blk [_, _] rfl | exact cells_blk [_, _, _] rfl | exact cells_blk [_, _, _, _] rfl | exact cellsR_blk (by assumption) rfl)) ?_
      first | refine wl_u (yu_storeAgg [] (l' := [_, _, _, _, _, _]) T36 rfl rfl rfl (by simp [Value.oneCell']) rfl rfl) ?_ | refine wl_u (yu_storeAgg [_] (l' := [_, _, _, _, _, _]) T36 rfl rfl rfl (by simp [Value.oneCell']) rfl rfl) ?_ | refine wl_u (yu_storeAgg [_, _] (l' := [_, _, _, _, _, _]) T36 rfl rfl rfl (by simp [Value.oneCell']) rfl rfl) ?_ | refine wl_u (yu_storeAgg [_, _, _] (l' := [_, _, _, _, _, _]) T36 rfl rfl rfl (by simp [Value.oneCell']) rfl rfl) ?_ | refine wl_u (yu_storeAgg [_, _, _, _] (l' := [_, _, _, _, _, _]) T36 rfl rfl rfl (by simp [Value.oneCell']) rfl rfl) ?_
      refine wl_y rfl (y_assign rfl) ?_
      refine wl_nil ?_
      refine wq_then ?_
      refine wc_ret ?_
      refine wq_retC2 (l := [_, _, _, _, _, _]) AG36 rfl rfl rfl rfl (by first | exact cells_blk [] rfl | exact cells_blk [_] rfl | exact cells_blk [_, _] rfl | exact cells_blk [_, _, _] rfl | exact cells_blk [_, _, _, _] rfl) (fun w hw => ?_)
      exact ⟨(), trivial, by simp only [Tb.find, hg]; rw [if_pos hc23], hw.drop.drop⟩

end Go.Proofs.Ytfnpjmlpiedgdaa
