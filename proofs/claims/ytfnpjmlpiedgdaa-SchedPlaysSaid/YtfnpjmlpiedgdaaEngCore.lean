/-
  The walk's own bookkeeping: what is known of a frame is a list of slots and values; what is known of the world is one predicate.
-/
import Derived.Test.YtfnpjmlpiedgdaaEngMix
import Derived.Deep.Quiet
import Derived.OwnWalk
namespace Go.Eng

abbrev Env := List (Nat × Value)

def Env.find : Env → Nat → Option Value
  | [], _ => none
  | (d, v) :: t, k => bif Nat.beq d k then some v else Env.find t k

def Env.ev (env : Env) : Operand → Option Value
  | .tmp t => env.find t
  | .const v => some v
  | .global g => some (.pointer (some ⟨g, 0, none⟩))
  | .func f => some (.func (.func f) #[] #[])

/-- What is known of the frame. -/
structure Sat (n : Nat) (env : Env) (a : Act) : Prop where
  defers : a.defers = []
  size : a.tmps.size = n
  get : ∀ d v, env.find d = some v → a.tmps[d]? = some v

theorem Sat.eval {n : Nat} {env : Env} {a : Act} (h : Sat n env a) {x : Operand} {v : Value} (hx : env.ev x = some v) : a.eval x = v := by
  cases x with
  | tmp t => simp [Act.eval, Array.getD_eq_getD_getElem?, h.get t v hx]
  | const u => exact Option.some.inj hx
  | global g => exact Option.some.inj hx
  | func f => exact Option.some.inj hx

theorem Env.find_cons (d : Nat) (v : Value) (t : Env) (k : Nat) : Env.find ((d, v) :: t) k = if d = k then some v else Env.find t k := by
  show (bif Nat.beq d k then some v else Env.find t k) = _
  by_cases h : d = k
  · subst h; simp
  · rw [if_neg h]
    have : Nat.beq d k = false := by
      cases hb : Nat.beq d k
      · rfl
      · exact absurd (Nat.eq_of_beq_eq_true hb) h
    rw [this]; rfl

theorem Sat.put {n : Nat} {env : Env} {a : Act} (h : Sat n env a) (d : Nat) (v : Value) (hd : Nat.blt d n = true) : Sat n ((d, v) :: env) (a.put (some d) v) := by
  have hd' : d < n := Nat.le_of_ble_eq_true hd
  refine ⟨h.defers, by simp [Act.put, h.size], fun k u hk => ?_⟩
  rw [Env.find_cons] at hk
  by_cases hdk : d = k
  · subst hdk
    rw [if_pos rfl] at hk
    obtain rfl := Option.some.inj hk
    simp [Act.put, h.size, hd']
  · rw [if_neg hdk] at hk
    simp only [Act.put]
    rw [Array.getElem?_setIfInBounds_ne hdk]
    exact h.get k u hk

/-- 'env'' says no more than 'env'. -/
def Env.Sub : Env → Env → Prop
  | [], _ => True
  | (d, v) :: t, env => env.find d = some v ∧ Env.Sub t env

theorem Env.Sub.find {env' env : Env} (h : Env.Sub env' env) : ∀ d v, env'.find d = some v → env.find d = some v := by
  induction env' with
  | nil => intro d v hd; cases hd
  | cons p t ih =>
    obtain ⟨d0, v0⟩ := p
    intro d v hd
    rw [Env.find_cons] at hd
    split at hd
    · rename_i he; subst he; obtain rfl := Option.some.inj hd; exact h.1
    · exact ih h.2 d v hd

theorem Sat.sub {n : Nat} {env env' : Env} {a : Act} (h : Sat n env a) (hs : Env.Sub env' env) : Sat n env' a :=
  ⟨h.defers, h.size, fun d v hd => h.get d v (hs.find d v hd)⟩

theorem Sat.yielded {n : Nat} {env : Env} {a : Act} (h : Sat n env a) {ops : Array Oper} {j t : Nat} {b : Bool} (hj : (ops[j]?).bind (·.dst) = some t)
    (hf : env.find t = some (.bool b)) : Go.yielded ops a.tmps j = some b := by
  simp [Go.yielded, hj, h.get t _ hf]

theorem Sat.yielded_none {n : Nat} {env : Env} {a : Act} (h : Sat n env a) {ops : Array Oper} {j t : Nat} (hj : (ops[j]?).bind (·.dst) = some t)
    (hf : env.find t = some undef) : Go.yielded ops a.tmps j = none := by
  simp [Go.yielded, hj, h.get t _ hf, undef]

/-! ### Judgements -/

section
variable (P : Program) (n : Nat)

/-- What holds of every frame that fits and every world that fits. -/
def All (K : Act → World → Prop) (env : Env) (S : World → Prop) : Prop := ∀ a w, Sat n env a → S w → K a w

/-- A list of operations. -/
def WL (ops : Array Oper) (Q : Exit → Act → World → Prop) (l : List Oper) (env : Env) (S : World → Prop) : Prop :=
  ∀ a w, Sat n env a → S w → wpList P ops Q l a w

/-- Code. -/
def WC (Q : Exit → Act → World → Prop) (c : Code) (env : Env) (S : World → Prop) : Prop := ∀ a w, Sat n env a → S w → c.wp P Q a w

/-- What stands behind: at an exit. -/
def WQ (Q : Exit → Act → World → Prop) (e : Exit) (env : Env) (S : World → Prop) : Prop := ∀ a w, Sat n env a → S w → Q e a w

/-- The operation yields this value, in every frame and world that fit, and leaves the world. -/
def Yv (o : Oper) (env : Env) (S : World → Prop) (v : Value) : Prop := ∀ a w, Sat n env a → S w → (execOp a.eval o).run P w = .ok (.value v) w

/-- The mixed walk. -/
def WM (ops : Array Oper) (C : World → Prop) (Q : Act → World → Prop) (r : MT) (env : Env) (S : World → Prop) : Prop :=
  ∀ a w, Sat n env a → S w → wpMix P ops C Q r true a w

/-- The quiet walk. -/
def WQt (ops : Array Oper) (S : World → Prop) (Q : Act → Prop) (l : List Oper) (env : Env) : Prop := ∀ a, Sat n env a → wpQuiet P ops S Q l a
end

section
variable {P : Program} {n : Nat} {Q : Exit → Act → World → Prop} {env : Env} {S : World → Prop} {ops : Array Oper}

/-! ### Code -/

theorem wc_seq {x y : Code} (h : WC P n (Exit.then (y.wp P Q) Q) x env S) : WC P n Q (.seq x y) env S := fun a w ha hw => wp_seq (h a w ha hw)

theorem wc_block {id : Nat} {c : Code} (h : WC P n (Exit.inBlock id Q) c env S) : WC P n Q (.block id c) env S := fun a w ha hw => wp_block (h a w ha hw)

theorem wc_skip (h : WQ n Q .normal env S) : WC P n Q .skip env S := fun a w ha hw => wp_skip (h a w ha hw)

theorem wc_ret (h : WQ n Q .ret env S) : WC P n Q .ret env S := fun a w ha hw => wp_ret (h a w ha hw)

theorem wc_exit {id : Nat} (h : WQ n Q (.exit id) env S) : WC P n Q (.exit id) env S := fun a w ha hw => wp_exit (h a w ha hw)

theorem wc_cond {c : Operand} {x y : Code} {b : Bool} (hc : env.ev c = some (.bool b)) (ht : b = true → WC P n Q x env S) (hf : b = false → WC P n Q y env S) :
    WC P n Q (.cond c x y) env S := fun a w ha hw =>
  wp_cond_split (t := b) (ha.eval hc) (fun h => ht h a w ha hw) (fun h => hf h a w ha hw)

theorem wc_cond_true {c : Operand} {x y : Code} (hc : env.ev c = some (.bool true)) (ht : WC P n Q x env S) :
    WC P n Q (.cond c x y) env S := fun a w ha hw => wp_cond_true (ha.eval hc) (ht a w ha hw)

theorem wc_cond_false {c : Operand} {x y : Code} (hc : env.ev c = some (.bool false)) (hf : WC P n Q y env S) :
    WC P n Q (.cond c x y) env S := fun a w ha hw => wp_cond_false (ha.eval hc) (hf a w ha hw)

theorem wc_region {id : Nat} {l : List Oper} (h : WL P n l.toArray Q l env S) : WC P n Q (.region id l.toArray false) env S :=
  fun a w ha hw => wp_region_lit (h a w ha hw)

/-- Behind the code x: what stands behind it takes over. -/
theorem wq_then {y : Code} {Q' : Exit → Act → World → Prop} (h : WC P n Q' y env S) : WQ n (Exit.then (y.wp P Q') Q) .normal env S := h
theorem wq_then_ret {K : Act → World → Prop} (h : WQ n Q .ret env S) : WQ n (Exit.then K Q) .ret env S := h
theorem wq_then_exit {K : Act → World → Prop} {id : Nat} (h : WQ n Q (.exit id) env S) : WQ n (Exit.then K Q) (.exit id) env S := h
theorem wq_block_normal {id : Nat} (h : WQ n Q .normal env S) : WQ n (Exit.inBlock id Q) .normal env S := h
theorem wq_block_ret {id : Nat} (h : WQ n Q .ret env S) : WQ n (Exit.inBlock id Q) .ret env S := h
theorem wq_block_exit {id : Nat} (h : WQ n Q .normal env S) : WQ n (Exit.inBlock id Q) (.exit id) env S := fun a w ha hw => by
  show (if id = id then _ else _)
  rw [if_pos rfl]; exact h a w ha hw
theorem wq_block_other {id id' : Nat} (hne : Nat.beq id' id = false) (h : WQ n Q (.exit id') env S) : WQ n (Exit.inBlock id Q) (.exit id') env S := fun a w ha hw => by
  show (if id' = id then _ else _)
  rw [if_neg (fun e => by rw [e, Nat.beq_refl] at hne; cases hne)]; exact h a w ha hw

/-- Weaker knowledge of the frame; other words for the world. -/
theorem wc_weaken (env' : Env) {c : Code} (hs : Env.Sub env' env) (h : WC P n Q c env' S) : WC P n Q c env S := fun a w ha hw => h a w (ha.sub hs) hw
theorem wq_weaken (env' : Env) {e : Exit} (hs : Env.Sub env' env) (h : WQ n Q e env' S) : WQ n Q e env S := fun a w ha hw => h a w (ha.sub hs) hw
theorem wc_world {S' : World → Prop} {c : Code} (hs : ∀ w, S w → S' w) (h : WC P n Q c env S') : WC P n Q c env S := fun a w ha hw => h a w ha (hs w hw)
theorem wq_world {S' : World → Prop} {e : Exit} (hs : ∀ w, S w → S' w) (h : WQ n Q e env S') : WQ n Q e env S := fun a w ha hw => h a w ha (hs w hw)
theorem wl_world {S' : World → Prop} {l : List Oper} (hs : ∀ w, S w → S' w) (h : WL P n ops Q l env S') : WL P n ops Q l env S := fun a w ha hw => h a w ha (hs w hw)

/-- A cut: behind c, whichever way it went, this is known. -/
theorem wc_cut {α : Type} (I : α → Prop) (base : Env) (env' : α → Env) (S' : α → World → Prop) {c : Code} {K : Act → World → Prop} (_hb : Env.Sub base env)
    (h : WC P n (Exit.then (fun a w => ∃ x, I x ∧ Sat n (env' x ++ base) a ∧ S' x w) Q) c env S)
    (hk : ∀ x, I x → All n K (env' x ++ base) (S' x)) : WC P n (Exit.then K Q) c env S := fun a w ha hw =>
  wp_mono (h a w ha hw) fun e a' w' hq => by
    cases e with
    | normal => obtain ⟨x, hI, h1, h2⟩ := hq; exact hk x hI a' w' h1 h2
    | _ => exact hq

theorem wq_cut {α : Type} {I : α → Prop} {base : Env} {env' : α → Env} {S' : α → World → Prop} (x : α) (hI : I x) (hs : Env.Sub (env' x ++ base) env) (hw : ∀ w, S w → S' x w) :
    WQ n (Exit.then (fun a w => ∃ x, I x ∧ Sat n (env' x ++ base) a ∧ S' x w) Q) .normal env S := fun _ w ha h => ⟨x, hI, ha.sub hs, hw w h⟩

/-- A cut ahead of whatever goal on frames and worlds. -/
theorem all_wc {y : Code} (h : WC P n Q y env S) : All n (y.wp P Q) env S := h
theorem all_wq {e : Exit} (h : WQ n Q e env S) : All n (Q e) env S := h

/-- A loop: its states are told by a ghost x, a number of which falls round by round. -/
theorem wc_loop {α : Type} (I : α → Prop) (base : Env) (env' : α → Env) (S' : α → World → Prop) (μ : α → Nat) {c : Code} (x0 : α) (hI : I x0) (hs : Env.Sub (env' x0 ++ base) env) (hw : ∀ w, S w → S' x0 w)
    (round : ∀ x, I x → WC P n (Exit.then (fun a w => ∃ y, μ y < μ x ∧ I y ∧ Sat n (env' y ++ base) a ∧ S' y w) Q) c (env' x ++ base) (S' x)) : WC P n Q (.loop c) env S := by
  intro a w ha h b k cs
  have key : ∀ m x a w, μ x = m → I x → Sat n (env' x ++ base) a → S' x w →
      ∃ e a' w', Q e a' w' ∧ Arrives P (lone (b.at a (.code c :: .inLoop c :: k)) cs w) b k cs e a' w' := by
    intro m
    induction m using Nat.strongRecOn with
    | _ m ih =>
      intro x a w hm hI ha hw
      obtain ⟨e, a₁, w₁, hq, harr⟩ := round x hI a w ha hw b (.inLoop c :: k) cs
      cases e with
      | normal =>
        obtain ⟨y, hlt, hyI, hya, hyw⟩ := hq
        obtain ⟨e₂, a₂, w₂, hq₂, harr₂⟩ := ih (μ y) (hm ▸ hlt) y a₁ w₁ rfl hyI hya hyw
        exact ⟨e₂, a₂, w₂, hq₂, .of_steps (Steps.trans harr (.one step_inLoop)) harr₂⟩
      | exit id => exact ⟨_, a₁, w₁, hq, .pass (x := .inLoop c) rfl (fun _ _ => .inl (by simp)) harr⟩
      | goto l => exact ⟨_, a₁, w₁, hq, .pass (x := .inLoop c) rfl (fun _ _ => .inl (by simp)) harr⟩
      | ret => exact ⟨_, a₁, w₁, hq, .pass (x := .inLoop c) rfl (fun _ _ => .inl (by simp)) harr⟩
      | panic ch => exact ⟨_, a₁, w₁, hq, .pass (x := .inLoop c) rfl (fun _ _ => .inl (by simp)) harr⟩
      | outgrown => exact ⟨_, a₁, w₁, hq, .pass (x := .inLoop c) rfl (fun _ _ => .inl (by simp)) harr⟩
  obtain ⟨e, a', w', hq, harr⟩ := key _ x0 a w rfl hI (ha.sub hs) (hw w h)
  exact ⟨e, a', w', hq, .of_steps (.one step_loop) harr⟩

theorem wq_round {α : Type} {I : α → Prop} {base : Env} {env' : α → Env} {S' : α → World → Prop} {μ : α → Nat} {x : α} (y : α) (hlt : μ y < μ x) (hI : I y) (hs : Env.Sub (env' y ++ base) env) (hw : ∀ w, S w → S' y w) :
    WQ n (Exit.then (fun a w => ∃ y, μ y < μ x ∧ I y ∧ Sat n (env' y ++ base) a ∧ S' y w) Q) .normal env S := fun _ w ha h => ⟨y, hlt, hI, ha.sub hs, hw w h⟩

/-! ### Operations in a list -/

variable {rest : List Oper} {d : Nat} {op : Op} {ty : TypeId} {pos : String} {after : Array Edge} {v : Value}

theorem wl_nil (h : WQ n Q .normal env S) : WL P n ops Q [] env S := fun a w ha hw => wpList_nil (h a w ha hw)

theorem wl_y (hd : Nat.blt d n = true) (hy : Yv P n ⟨some d, op, ty, pos, after, none⟩ env S v) (h : WL P n ops Q rest ((d, v) :: env) S) :
    WL P n ops Q (⟨some d, op, ty, pos, after, none⟩ :: rest) env S := fun a w ha hw => wpList_step fun K hK => by
  rw [if_pos (by rfl)]
  unfold Oper.wp
  rw [hy a w ha hw]
  exact hK _ _ (h _ w (ha.put d v hd) hw)

/-- A guarded operation that is wanted. -/
theorem wl_yg {j t : Nat} {b : Bool} (hj : (ops[j]?).bind (·.dst) = some t) (hg : env.find t = some (.bool b)) (hd : Nat.blt d n = true)
    (hy : Yv P n ⟨some d, op, ty, pos, after, some (j, b)⟩ env S v) (h : WL P n ops Q rest ((d, v) :: env) S) :
    WL P n ops Q (⟨some d, op, ty, pos, after, some (j, b)⟩ :: rest) env S := fun a w ha hw => wpList_step fun K hK => by
  rw [if_pos (by simp [Region.wanted, ha.yielded hj hg])]
  unfold Oper.wp
  rw [hy a w ha hw]
  exact hK _ _ (h _ w (ha.put d v hd) hw)

/-- A guarded operation that is not wanted. -/
theorem wl_sk {j t : Nat} {b c : Bool} (hj : (ops[j]?).bind (·.dst) = some t) (hg : env.find t = some (.bool c)) (hne : (c == b) = false) (hd : Nat.blt d n = true)
    (h : WL P n ops Q rest ((d, undef) :: env) S) :
    WL P n ops Q (⟨some d, op, ty, pos, after, some (j, b)⟩ :: rest) env S := fun a w ha hw => wpList_step fun K hK => by
  rw [if_neg (by simp [Region.wanted, ha.yielded hj hg]; simpa using hne)]
  exact hK _ _ (h _ w (ha.put d undef hd) hw)

theorem wl_sku {j t : Nat} {b : Bool} (hj : (ops[j]?).bind (·.dst) = some t) (hg : env.find t = some undef) (hd : Nat.blt d n = true)
    (h : WL P n ops Q rest ((d, undef) :: env) S) :
    WL P n ops Q (⟨some d, op, ty, pos, after, some (j, b)⟩ :: rest) env S := fun a w ha hw => wpList_step fun K hK => by
  rw [if_neg (by simp [Region.wanted, ha.yielded_none hj hg])]
  exact hK _ _ (h _ w (ha.put d undef hd) hw)

/-- An operation that yields a value and turns the world. -/
def Yw (P : Program) (n : Nat) (o : Oper) (env : Env) (S : World → Prop) (R : Value → World → Prop) : Prop :=
  ∀ a w, Sat n env a → S w → ∃ v w', (execOp a.eval o).run P w = .ok (.value v) w' ∧ R v w'

/-- An operation that yields nothing and turns the world. -/
def Yu (P : Program) (n : Nat) (o : Oper) (env : Env) (S S' : World → Prop) : Prop :=
  ∀ a w, Sat n env a → S w → ∃ w', (execOp a.eval o).run P w = .ok .skip w' ∧ S' w'

/-- A call. -/
def Yc (P : Program) (n : Nat) (o : Oper) (env : Env) (S : World → Prop) (R : Value → World → Prop) : Prop :=
  ∀ a w, Sat n env a → S w → ∃ f args, (execOp a.eval o).run P w = .ok (.enter f args) w ∧ Calls P f args w fun e w' => ∃ v, e = .returned v ∧ R v w'

theorem wl_w {g : Option (Nat × Bool)} (hwant : ∀ a, Sat n env a → Region.wanted ⟨some d, op, ty, pos, after, g⟩ (yielded ops a.tmps) = true) {R : Value → World → Prop} (hd : Nat.blt d n = true)
    (hy : Yw P n ⟨some d, op, ty, pos, after, g⟩ env S R) (h : ∀ v, WL P n ops Q rest ((d, v) :: env) (R v)) :
    WL P n ops Q (⟨some d, op, ty, pos, after, g⟩ :: rest) env S := fun a w ha hw => wpList_step fun K hK => by
  rw [if_pos (hwant a ha)]
  unfold Oper.wp
  obtain ⟨v, w', hr, hR⟩ := hy a w ha hw
  rw [hr]
  exact hK _ _ (h v _ w' (ha.put d v hd) hR)

theorem wl_u {S' : World → Prop} (hy : Yu P n ⟨none, op, ty, pos, after, none⟩ env S S') (h : WL P n ops Q rest env S') :
    WL P n ops Q (⟨none, op, ty, pos, after, none⟩ :: rest) env S := fun a w ha hw => wpList_step fun K hK => by
  rw [if_pos (by rfl)]
  unfold Oper.wp
  obtain ⟨w', hr, hR⟩ := hy a w ha hw
  rw [hr]
  exact hK _ _ (h _ w' ha hR)

theorem wl_c {g : Option (Nat × Bool)} (hwant : ∀ a, Sat n env a → Region.wanted ⟨some d, op, ty, pos, after, g⟩ (yielded ops a.tmps) = true) {R : Value → World → Prop} (hd : Nat.blt d n = true)
    (hy : Yc P n ⟨some d, op, ty, pos, after, g⟩ env S R) (h : ∀ v, WL P n ops Q rest ((d, v) :: env) (R v)) :
    WL P n ops Q (⟨some d, op, ty, pos, after, g⟩ :: rest) env S := fun a w ha hw => wpList_step fun K hK => by
  rw [if_pos (hwant a ha)]
  unfold Oper.wp
  obtain ⟨f, args, hr, hc⟩ := hy a w ha hw
  rw [hr]
  refine Calls.mono hc fun e w' ⟨v, he, hR⟩ => ?_
  subst he
  exact hK _ _ (h v _ w' (ha.put d v hd) hR)

/-- The same where the call's result is dropped. -/
theorem wl_c0 {R : Value → World → Prop}
    (hy : Yc P n ⟨none, op, ty, pos, after, none⟩ env S R) (h : ∀ v, WL P n ops Q rest env (R v)) :
    WL P n ops Q (⟨none, op, ty, pos, after, none⟩ :: rest) env S := fun a w ha hw => wpList_step fun K hK => by
  rw [if_pos (by rfl)]
  unfold Oper.wp
  obtain ⟨f, args, hr, hc⟩ := hy a w ha hw
  rw [hr]
  refine Calls.mono hc fun e w' ⟨v, he, hR⟩ => ?_
  subst he
  exact hK _ _ (h v _ w' ha hR)

theorem want_none {a : Act} : Region.wanted ⟨some d, op, ty, pos, after, none⟩ (yielded ops a.tmps) = true := rfl
theorem want_some {j t : Nat} {b : Bool} (hj : (ops[j]?).bind (·.dst) = some t) (hg : env.find t = some (.bool b)) :
    ∀ a, Sat n env a → Region.wanted ⟨some d, op, ty, pos, after, some (j, b)⟩ (yielded ops a.tmps) = true := fun a ha => by
  simp [Region.wanted, ha.yielded hj hg]

/-! ### A region that draws its order -/

/-- The class of worlds does not look at the count of draws. -/
def Drawless (S : World → Prop) : Prop := ∀ w, S w → S { w with drawn := w.drawn + 1 }

theorem wc_mix {id : Nat} (τ : MT) (C : World → Prop) (hm : P.follows .mixedOrders = true) (hB : mixB ops τ = true) (hS : Drawless S) (hC : ∀ w, S w → C w)
    (h : WM P n ops C (Q .normal) τ env S) : WC P n Q (.region id ops true) env S := fun a w ha hw =>
  wp_region_mix τ hm hB (hC _ (hS w hw)) (h a _ ha (hS w hw))

theorem wm_nil {C : World → Prop} {Q : Act → World → Prop} (h : All n Q env S) : WM P n ops C Q .nil env S := h

theorem wm_g {C : World → Prop} {Q : Act → World → Prop} {i : Nat} {r : MT} (hi : ops[i]? = some ⟨some d, op, ty, pos, after, none⟩) (hd : Nat.blt d n = true)
    (hy : Yv P n ⟨some d, op, ty, pos, after, none⟩ env C v) (h : WM P n ops C Q r ((d, v) :: env) S) : WM P n ops C Q (.q i 0 r) env S := fun a w ha hw => by
  simp only [wpMix, hi]
  refine ⟨trivial, ?_⟩
  exact ⟨v, fun w' hw' => .inl ⟨rfl, .inl (hy a w' ha hw')⟩, h _ w (ha.put d v hd) hw⟩

theorem wm_gg {C : World → Prop} {Q : Act → World → Prop} {i j t : Nat} {b : Bool} {r : MT} (hi : ops[i]? = some ⟨some d, op, ty, pos, after, some (j, b)⟩)
    (hj : (ops[j]?).bind (·.dst) = some t) (hg : env.find t = some (.bool b)) (hd : Nat.blt d n = true)
    (hy : Yv P n ⟨some d, op, ty, pos, after, some (j, b)⟩ env C v) (h : WM P n ops C Q r ((d, v) :: env) S) : WM P n ops C Q (.q i 0 r) env S := fun a w ha hw => by
  simp only [wpMix, hi]
  refine ⟨trivial, ?_⟩
  exact ⟨v, fun w' hw' => .inl ⟨want_some hj hg a ha, .inl (hy a w' ha hw')⟩, h _ w (ha.put d v hd) hw⟩

theorem wm_gs {C : World → Prop} {Q : Act → World → Prop} {i j t : Nat} {b c : Bool} {r : MT} (hi : ops[i]? = some ⟨some d, op, ty, pos, after, some (j, b)⟩)
    (hj : (ops[j]?).bind (·.dst) = some t) (hg : env.find t = some (.bool c)) (hne : (c == b) = false) (hd : Nat.blt d n = true)
    (h : WM P n ops C Q r ((d, undef) :: env) S) : WM P n ops C Q (.q i 0 r) env S := fun a w ha hw => by
  simp only [wpMix, hi]
  refine ⟨trivial, ?_⟩
  exact ⟨undef, fun w' hw' => .inr ⟨by simp [Region.wanted, ha.yielded hj hg]; simpa using hne, rfl⟩, h _ w (ha.put d undef hd) hw⟩

theorem wm_gu {C : World → Prop} {Q : Act → World → Prop} {i j t : Nat} {b : Bool} {r : MT} (hi : ops[i]? = some ⟨some d, op, ty, pos, after, some (j, b)⟩)
    (hj : (ops[j]?).bind (·.dst) = some t) (hg : env.find t = some undef) (hd : Nat.blt d n = true)
    (h : WM P n ops C Q r ((d, undef) :: env) S) : WM P n ops C Q (.q i 0 r) env S := fun a w ha hw => by
  simp only [wpMix, hi]
  refine ⟨trivial, ?_⟩
  exact ⟨undef, fun w' hw' => .inr ⟨by simp [Region.wanted, ha.yielded_none hj hg], rfl⟩, h _ w (ha.put d undef hd) hw⟩

theorem wm_l {C : World → Prop} {Q : Act → World → Prop} {i : Nat} {r : MT} (hi : ops[i]? = some ⟨some d, op, ty, pos, after, none⟩) (hd : Nat.blt d n = true)
    (hy : Yv P n ⟨some d, op, ty, pos, after, none⟩ env S v) (h : WM P n ops C Q r ((d, v) :: env) S) : WM P n ops C Q (.q i 1 r) env S := fun a w ha hw => by
  simp only [wpMix, hi]
  refine ⟨trivial, ?_⟩
  exact ⟨v, .inl ⟨rfl, .inl (hy a w ha hw)⟩, h _ w (ha.put d v hd) hw⟩

theorem wm_w {C : World → Prop} {Q : Act → World → Prop} {i : Nat} {r : MT} (hi : ops[i]? = some ⟨some d, op, ty, pos, after, none⟩) {R : Value → World → Prop} (hd : Nat.blt d n = true)
    (hC : ∀ v w, R v w → C w)
    (hy : Yw P n ⟨some d, op, ty, pos, after, none⟩ env S R) (h : ∀ v, WM P n ops C Q r ((d, v) :: env) (R v)) : WM P n ops C Q (.w i 2 r .nil) env S := fun a w ha hw => by
  simp only [wpMix, hi]
  refine ⟨⟨rfl, ?_⟩, by simp⟩
  unfold Oper.wp
  obtain ⟨v, w', hr, hR⟩ := hy a w ha hw
  rw [hr]
  exact ⟨hC v w' hR, h v _ w' (ha.put d v hd) hR⟩

theorem wm_u {C : World → Prop} {Q : Act → World → Prop} {i : Nat} {r : MT} (hi : ops[i]? = some ⟨none, op, ty, pos, after, none⟩) {S' : World → Prop}
    (hC : ∀ w, S' w → C w)
    (hy : Yu P n ⟨none, op, ty, pos, after, none⟩ env S S') (h : WM P n ops C Q r env S') : WM P n ops C Q (.w i 2 r .nil) env S := fun a w ha hw => by
  simp only [wpMix, hi]
  refine ⟨⟨rfl, ?_⟩, by simp⟩
  unfold Oper.wp
  obtain ⟨w', hr, hR⟩ := hy a w ha hw
  rw [hr]
  exact ⟨hC w' hR, h _ w' ha hR⟩

theorem wm_c {C : World → Prop} {Q : Act → World → Prop} {i : Nat} {r : MT} (hi : ops[i]? = some ⟨some d, op, ty, pos, after, none⟩) {R : Value → World → Prop} (hd : Nat.blt d n = true)
    (hC : ∀ v w, R v w → C w)
    (hy : Yc P n ⟨some d, op, ty, pos, after, none⟩ env S R) (h : ∀ v, WM P n ops C Q r ((d, v) :: env) (R v)) : WM P n ops C Q (.w i 2 r .nil) env S := fun a w ha hw => by
  simp only [wpMix, hi]
  refine ⟨⟨rfl, ?_⟩, by simp⟩
  unfold Oper.wp
  obtain ⟨f, args, hr, hc⟩ := hy a w ha hw
  rw [hr]
  refine Calls.mono hc fun e w' ⟨v, he, hR⟩ => ?_
  subst he
  exact ⟨hC v w' hR, h v _ w' (ha.put d v hd) hR⟩

/-- The like, for an operation that leaves the class. -/
theorem wm_u3 {C : World → Prop} {Q : Act → World → Prop} {i : Nat} {r : MT} (hi : ops[i]? = some ⟨none, op, ty, pos, after, none⟩) {S' : World → Prop}
    (hy : Yu P n ⟨none, op, ty, pos, after, none⟩ env S S') (h : WM P n ops C Q r env S') : WM P n ops C Q (.w i 3 r .nil) env S := fun a w ha hw => by
  simp only [wpMix, hi]
  refine ⟨⟨rfl, ?_⟩, by simp⟩
  unfold Oper.wp
  obtain ⟨w', hr, hR⟩ := hy a w ha hw
  rw [hr]
  exact h _ w' ha hR
theorem wm_w3 {C : World → Prop} {Q : Act → World → Prop} {i : Nat} {r : MT} (hi : ops[i]? = some ⟨some d, op, ty, pos, after, none⟩) {R : Value → World → Prop} (hd : Nat.blt d n = true)
    (hy : Yw P n ⟨some d, op, ty, pos, after, none⟩ env S R) (h : ∀ v, WM P n ops C Q r ((d, v) :: env) (R v)) : WM P n ops C Q (.w i 3 r .nil) env S := fun a w ha hw => by
  simp only [wpMix, hi]
  refine ⟨⟨rfl, ?_⟩, by simp⟩
  unfold Oper.wp
  obtain ⟨v, w', hr, hR⟩ := hy a w ha hw
  rw [hr]
  exact h v _ w' (ha.put d v hd) hR
theorem wm_c3 {C : World → Prop} {Q : Act → World → Prop} {i : Nat} {r : MT} (hi : ops[i]? = some ⟨some d, op, ty, pos, after, none⟩) {R : Value → World → Prop} (hd : Nat.blt d n = true)
    (hy : Yc P n ⟨some d, op, ty, pos, after, none⟩ env S R) (h : ∀ v, WM P n ops C Q r ((d, v) :: env) (R v)) : WM P n ops C Q (.w i 3 r .nil) env S := fun a w ha hw => by
  simp only [wpMix, hi]
  refine ⟨⟨rfl, ?_⟩, by simp⟩
  unfold Oper.wp
  obtain ⟨f, args, hr, hc⟩ := hy a w ha hw
  rw [hr]
  refine Calls.mono hc fun e w' ⟨v, he, hR⟩ => ?_
  subst he
  exact h v _ w' (ha.put d v hd) hR

/-- The like, guarded. -/
theorem wm_lg {C : World → Prop} {Q : Act → World → Prop} {i : Nat} {r : MT} {g : Option (Nat × Bool)} (hi : ops[i]? = some ⟨some d, op, ty, pos, after, g⟩)
    (hwant : ∀ a, Sat n env a → Region.wanted ⟨some d, op, ty, pos, after, g⟩ (yielded ops a.tmps) = true) (hd : Nat.blt d n = true)
    (hy : Yv P n ⟨some d, op, ty, pos, after, g⟩ env S v) (h : WM P n ops C Q r ((d, v) :: env) S) : WM P n ops C Q (.q i 1 r) env S := fun a w ha hw => by
  simp only [wpMix, hi]
  exact ⟨trivial, v, .inl ⟨hwant a ha, .inl (hy a w ha hw)⟩, h _ w (ha.put d v hd) hw⟩
theorem wm_wg {C : World → Prop} {Q : Act → World → Prop} {i : Nat} {r : MT} {g : Option (Nat × Bool)} (hi : ops[i]? = some ⟨some d, op, ty, pos, after, g⟩)
    (hwant : ∀ a, Sat n env a → Region.wanted ⟨some d, op, ty, pos, after, g⟩ (yielded ops a.tmps) = true) {R : Value → World → Prop} (hd : Nat.blt d n = true)
    (hC : ∀ v w, R v w → C w)
    (hy : Yw P n ⟨some d, op, ty, pos, after, g⟩ env S R) (h : ∀ v, WM P n ops C Q r ((d, v) :: env) (R v)) : WM P n ops C Q (.w i 2 r .nil) env S := fun a w ha hw => by
  simp only [wpMix, hi]
  refine ⟨⟨hwant a ha, ?_⟩, by simp⟩
  unfold Oper.wp
  obtain ⟨v, w', hr, hR⟩ := hy a w ha hw
  rw [hr]
  exact ⟨hC v w' hR, h v _ w' (ha.put d v hd) hR⟩
theorem wm_cg {C : World → Prop} {Q : Act → World → Prop} {i : Nat} {r : MT} {g : Option (Nat × Bool)} (hi : ops[i]? = some ⟨some d, op, ty, pos, after, g⟩)
    (hwant : ∀ a, Sat n env a → Region.wanted ⟨some d, op, ty, pos, after, g⟩ (yielded ops a.tmps) = true) {R : Value → World → Prop} (hd : Nat.blt d n = true)
    (hC : ∀ v w, R v w → C w)
    (hy : Yc P n ⟨some d, op, ty, pos, after, g⟩ env S R) (h : ∀ v, WM P n ops C Q r ((d, v) :: env) (R v)) : WM P n ops C Q (.w i 2 r .nil) env S := fun a w ha hw => by
  simp only [wpMix, hi]
  refine ⟨⟨hwant a ha, ?_⟩, by simp⟩
  unfold Oper.wp
  obtain ⟨f, args, hr, hc⟩ := hy a w ha hw
  rw [hr]
  refine Calls.mono hc fun e w' ⟨v, he, hR⟩ => ?_
  subst he
  exact ⟨hC v w' hR, h v _ w' (ha.put d v hd) hR⟩
/-- Either may come up. -/
theorem wm_alt {C : World → Prop} {Q : Act → World → Prop} {i t j u : Nat} {r s alt : MT} (h1 : WM P n ops C Q (.w i t r .nil) env S) (h2 : WM P n ops C Q (.w j u s alt) env S) :
    WM P n ops C Q (.w i t r (.w j u s alt)) env S := fun a w ha hw => by
  have g1 := h1 a w ha hw
  have g2 := h2 a w ha hw
  simp only [wpMix] at g1 g2 ⊢
  exact ⟨g1.1, g2⟩
theorem wm_world {C : World → Prop} {Q : Act → World → Prop} {S' : World → Prop} {r : MT} (hs : ∀ w, S w → S' w) (h : WM P n ops C Q r env S') : WM P n ops C Q r env S := fun a w ha hw => h a w ha (hs w hw)

/-- A region that draws its order and holds nothing but quiet operations and quiet calls. -/
theorem wc_quiet {id : Nat} {l : List Oper} (hm : P.follows .mixedOrders = true) (hB : Region.lexB .any l.toArray = true) (hS : Drawless S)
    (h : WQt P n l.toArray S (fun a' => ∀ w', S w' → Q .normal a' w') l env) : WC P n Q (.region id l.toArray true) env S := fun a w ha hw =>
  wp_region_quiet (C := S) hm hB (hS w hw) (by simpa using h a ha)

theorem wt_nil {K : Exit → Act → World → Prop} (h : WQ n K .normal env S) : WQt P n ops S (fun a' => ∀ w', S w' → K .normal a' w') [] env := fun a ha w' hw' => h a w' ha hw'

theorem wt_y {Q : Act → Prop} (hd : Nat.blt d n = true) (hy : Yv P n ⟨some d, op, ty, pos, after, none⟩ env S v) (h : WQt P n ops S Q rest ((d, v) :: env)) :
    WQt P n ops S Q (⟨some d, op, ty, pos, after, none⟩ :: rest) env := fun a ha => wpQuiet_step fun K hK => by
  rw [if_pos (by rfl)]
  exact ⟨v, fun w hw => by unfold Oper.quietAt; rw [hy a w ha hw]; exact ⟨rfl, rfl⟩, hK _ (h _ (ha.put d v hd))⟩

theorem wt_yg {Q : Act → Prop} {j t : Nat} {b : Bool} (hj : (ops[j]?).bind (·.dst) = some t) (hg : env.find t = some (.bool b)) (hd : Nat.blt d n = true)
    (hy : Yv P n ⟨some d, op, ty, pos, after, some (j, b)⟩ env S v) (h : WQt P n ops S Q rest ((d, v) :: env)) :
    WQt P n ops S Q (⟨some d, op, ty, pos, after, some (j, b)⟩ :: rest) env := fun a ha => wpQuiet_step fun K hK => by
  rw [if_pos (by simp [Region.wanted, ha.yielded hj hg])]
  exact ⟨v, fun w hw => by unfold Oper.quietAt; rw [hy a w ha hw]; exact ⟨rfl, rfl⟩, hK _ (h _ (ha.put d v hd))⟩

theorem wt_sk {Q : Act → Prop} {j t : Nat} {b c : Bool} (hj : (ops[j]?).bind (·.dst) = some t) (hg : env.find t = some (.bool c)) (hne : (c == b) = false) (hd : Nat.blt d n = true)
    (h : WQt P n ops S Q rest ((d, undef) :: env)) :
    WQt P n ops S Q (⟨some d, op, ty, pos, after, some (j, b)⟩ :: rest) env := fun a ha => wpQuiet_step fun K hK => by
  rw [if_neg (by simp [Region.wanted, ha.yielded hj hg]; simpa using hne)]
  exact hK _ (h _ (ha.put d undef hd))

theorem wt_sku {Q : Act → Prop} {j t : Nat} {b : Bool} (hj : (ops[j]?).bind (·.dst) = some t) (hg : env.find t = some undef) (hd : Nat.blt d n = true)
    (h : WQt P n ops S Q rest ((d, undef) :: env)) :
    WQt P n ops S Q (⟨some d, op, ty, pos, after, some (j, b)⟩ :: rest) env := fun a ha => wpQuiet_step fun K hK => by
  rw [if_neg (by simp [Region.wanted, ha.yielded_none hj hg])]
  exact hK _ (h _ (ha.put d undef hd))

/-- A quiet call: its result is the same in every world of the class, and it leaves a world of the class. -/
def Yq (P : Program) (n : Nat) (o : Oper) (env : Env) (S : World → Prop) (v : Value) : Prop :=
  ∀ a w, Sat n env a → S w → ∃ f args, (execOp a.eval o).run P w = .ok (.enter f args) w ∧ Calls P f args w fun e w' => e = .returned v ∧ S w'

theorem wt_c {Q : Act → Prop} {g : Option (Nat × Bool)} (hwant : ∀ a, Sat n env a → Region.wanted ⟨some d, op, ty, pos, after, g⟩ (yielded ops a.tmps) = true) (hd : Nat.blt d n = true)
    (hy : Yq P n ⟨some d, op, ty, pos, after, g⟩ env S v) (h : WQt P n ops S Q rest ((d, v) :: env)) :
    WQt P n ops S Q (⟨some d, op, ty, pos, after, g⟩ :: rest) env := fun a ha => wpQuiet_step fun K hK => by
  rw [if_pos (hwant a ha)]
  refine ⟨v, fun w hw => ?_, hK _ (h _ (ha.put d v hd))⟩
  unfold Oper.quietAt
  obtain ⟨f, args, hr, hc⟩ := hy a w ha hw
  rw [hr]
  exact ⟨rfl, hc⟩

/-- A quiet call in a list. -/
theorem wl_q {g : Option (Nat × Bool)} (hwant : ∀ a, Sat n env a → Region.wanted ⟨some d, op, ty, pos, after, g⟩ (yielded ops a.tmps) = true) (hd : Nat.blt d n = true)
    (hy : Yq P n ⟨some d, op, ty, pos, after, g⟩ env S v) (h : WL P n ops Q rest ((d, v) :: env) S) :
    WL P n ops Q (⟨some d, op, ty, pos, after, g⟩ :: rest) env S := fun a w ha hw => wpList_step fun K hK => by
  rw [if_pos (hwant a ha)]
  unfold Oper.wp
  obtain ⟨f, args, hr, hc⟩ := hy a w ha hw
  rw [hr]
  refine Calls.mono hc fun e w' ⟨he, hS⟩ => ?_
  subst he
  exact hK _ _ (h _ w' (ha.put d v hd) hS)

/-! ### A bool that is known, or parted -/

theorem Sat.known {n : Nat} {env : Env} {a : Act} (h : Sat n env a) {t : Nat} {c b : Bool} (hf : env.find t = some (.bool c)) (hc : c = b) : Sat n ((t, .bool b) :: env) a := by
  subst hc
  refine ⟨h.defers, h.size, fun d v hd => ?_⟩
  rw [Env.find_cons] at hd
  split at hd
  · rename_i he; subst he; obtain rfl := Option.some.inj hd; exact h.get t _ hf
  · exact h.get d v hd

theorem Sat.same {n : Nat} {env : Env} {a : Act} (h : Sat n env a) {t : Nat} {v u : Value} (hf : env.find t = some v) (hc : v = u) : Sat n ((t, u) :: env) a := by
  subst hc
  refine ⟨h.defers, h.size, fun d v hd => ?_⟩
  rw [Env.find_cons] at hd
  split at hd
  · rename_i he; subst he; obtain rfl := Option.some.inj hd; exact h.get t _ hf
  · exact h.get d v hd

theorem wl_known (t : Nat) (b : Bool) {c : Bool} {l : List Oper} (hf : env.find t = some (.bool c)) (hc : c = b) (h : WL P n ops Q l ((t, .bool b) :: env) S) : WL P n ops Q l env S := fun a w ha hw => h a w (ha.known hf hc) hw
theorem wt_known (t : Nat) (b : Bool) {c : Bool} {l : List Oper} {Q : Act → Prop} (hf : env.find t = some (.bool c)) (hc : c = b) (h : WQt P n ops S Q l ((t, .bool b) :: env)) : WQt P n ops S Q l env := fun a ha => h a (ha.known hf hc)
theorem wm_known (t : Nat) (b : Bool) {c : Bool} {r : MT} {C : World → Prop} {Q : Act → World → Prop} (hf : env.find t = some (.bool c)) (hc : c = b) (h : WM P n ops C Q r ((t, .bool b) :: env) S) : WM P n ops C Q r env S := fun a w ha hw => h a w (ha.known hf hc) hw
theorem wc_known (t : Nat) (b : Bool) {c : Bool} {y : Code} (hf : env.find t = some (.bool c)) (hc : c = b) (h : WC P n Q y ((t, .bool b) :: env) S) : WC P n Q y env S := fun a w ha hw => h a w (ha.known hf hc) hw
theorem wl_same (t : Nat) (u : Value) {v : Value} {l : List Oper} (hf : env.find t = some v) (hc : v = u) (h : WL P n ops Q l ((t, u) :: env) S) : WL P n ops Q l env S := fun a w ha hw => h a w (ha.same hf hc) hw
theorem wt_same (t : Nat) (u : Value) {v : Value} {l : List Oper} {Q : Act → Prop} (hf : env.find t = some v) (hc : v = u) (h : WQt P n ops S Q l ((t, u) :: env)) : WQt P n ops S Q l env := fun a ha => h a (ha.same hf hc)
theorem wc_same (t : Nat) (u : Value) {v : Value} {y : Code} (hf : env.find t = some v) (hc : v = u) (h : WC P n Q y ((t, u) :: env) S) : WC P n Q y env S := fun a w ha hw => h a w (ha.same hf hc) hw
theorem wm_same (t : Nat) (u : Value) {v : Value} {r : MT} {C : World → Prop} {Q : Act → World → Prop} (hf : env.find t = some v) (hc : v = u) (h : WM P n ops C Q r ((t, u) :: env) S) : WM P n ops C Q r env S := fun a w ha hw => h a w (ha.same hf hc) hw

theorem wq_same (t : Nat) (u : Value) {v : Value} {e : Exit} (hf : env.find t = some v) (hc : v = u) (h : WQ n Q e ((t, u) :: env) S) : WQ n Q e env S := fun a w ha hw => h a w (ha.same hf hc) hw
theorem wl_case (t : Nat) {c : Bool} {l : List Oper} (hf : env.find t = some (.bool c)) (ht : c = true → WL P n ops Q l ((t, .bool true) :: env) S) (he : c = false → WL P n ops Q l ((t, .bool false) :: env) S) : WL P n ops Q l env S := by
  cases c
  · exact wl_known t false hf rfl (he rfl)
  · exact wl_known t true hf rfl (ht rfl)
theorem wt_case (t : Nat) {c : Bool} {l : List Oper} {Q : Act → Prop} (hf : env.find t = some (.bool c)) (ht : c = true → WQt P n ops S Q l ((t, .bool true) :: env)) (he : c = false → WQt P n ops S Q l ((t, .bool false) :: env)) : WQt P n ops S Q l env := by
  cases c
  · exact wt_known t false hf rfl (he rfl)
  · exact wt_known t true hf rfl (ht rfl)
theorem wm_case (t : Nat) {c : Bool} {r : MT} {C : World → Prop} {Q : Act → World → Prop} (hf : env.find t = some (.bool c)) (ht : c = true → WM P n ops C Q r ((t, .bool true) :: env) S) (he : c = false → WM P n ops C Q r ((t, .bool false) :: env) S) : WM P n ops C Q r env S := by
  cases c
  · exact wm_known t false hf rfl (he rfl)
  · exact wm_known t true hf rfl (ht rfl)

theorem wl_weaken {env' : Env} {l : List Oper} (h : WL P n ops Q l env' S) (hs : Env.Sub env' env) : WL P n ops Q l env S := fun a w ha hw => h a w (ha.sub hs) hw
theorem wt_weaken {env' : Env} {l : List Oper} {Q : Act → Prop} (h : WQt P n ops S Q l env') (hs : Env.Sub env' env) : WQt P n ops S Q l env := fun a ha => h a (ha.sub hs)

/-- What a short circuit yields: both ways end at one frame. -/
theorem wl_or (k d : Nat) (base : Env) {t : Nat} {c : Bool} {l : List Oper} (hf : env.find t = some (.bool c)) (_hb : Env.Sub base env) (X : Bool)
    (hT : c = true → WL P n ops Q (l.drop k) ((d, .bool true) :: base) S → WL P n ops Q l ((t, .bool true) :: env) S)
    (hF : c = false → WL P n ops Q (l.drop k) ((d, .bool X) :: base) S → WL P n ops Q l ((t, .bool false) :: env) S)
    (hp : WL P n ops Q (l.drop k) ((d, .bool (c || X)) :: base) S) : WL P n ops Q l env S := by
  cases c
  · exact wl_known t false hf rfl (hF rfl hp)
  · exact wl_known t true hf rfl (hT rfl hp)
theorem wl_and (k d : Nat) (base : Env) {t : Nat} {c : Bool} {l : List Oper} (hf : env.find t = some (.bool c)) (_hb : Env.Sub base env) (X : Bool)
    (hT : c = true → WL P n ops Q (l.drop k) ((d, .bool X) :: base) S → WL P n ops Q l ((t, .bool true) :: env) S)
    (hF : c = false → WL P n ops Q (l.drop k) ((d, .bool false) :: base) S → WL P n ops Q l ((t, .bool false) :: env) S)
    (hp : WL P n ops Q (l.drop k) ((d, .bool (c && X)) :: base) S) : WL P n ops Q l env S := by
  cases c
  · exact wl_known t false hf rfl (hF rfl hp)
  · exact wl_known t true hf rfl (hT rfl hp)
theorem wt_or (k d : Nat) (base : Env) {t : Nat} {c : Bool} {l : List Oper} {Q : Act → Prop} (hf : env.find t = some (.bool c)) (_hb : Env.Sub base env) (X : Bool)
    (hT : c = true → WQt P n ops S Q (l.drop k) ((d, .bool true) :: base) → WQt P n ops S Q l ((t, .bool true) :: env))
    (hF : c = false → WQt P n ops S Q (l.drop k) ((d, .bool X) :: base) → WQt P n ops S Q l ((t, .bool false) :: env))
    (hp : WQt P n ops S Q (l.drop k) ((d, .bool (c || X)) :: base)) : WQt P n ops S Q l env := by
  cases c
  · exact wt_known t false hf rfl (hF rfl hp)
  · exact wt_known t true hf rfl (hT rfl hp)
theorem wt_and (k d : Nat) (base : Env) {t : Nat} {c : Bool} {l : List Oper} {Q : Act → Prop} (hf : env.find t = some (.bool c)) (_hb : Env.Sub base env) (X : Bool)
    (hT : c = true → WQt P n ops S Q (l.drop k) ((d, .bool X) :: base) → WQt P n ops S Q l ((t, .bool true) :: env))
    (hF : c = false → WQt P n ops S Q (l.drop k) ((d, .bool false) :: base) → WQt P n ops S Q l ((t, .bool false) :: env))
    (hp : WQt P n ops S Q (l.drop k) ((d, .bool (c && X)) :: base)) : WQt P n ops S Q l env := by
  cases c
  · exact wt_known t false hf rfl (hF rfl hp)
  · exact wt_known t true hf rfl (hT rfl hp)

/-- What is known of the world, parted by what it says exists. -/
theorem wc_ex {α : Type} {S' : α → World → Prop} {c : Code} (hs : ∀ w, S w → ∃ x, S' x w) (h : ∀ x, WC P n Q c env (S' x)) : WC P n Q c env S := fun a w ha hw => let ⟨x, hx⟩ := hs w hw; h x a w ha hx
theorem wl_exS {α : Type} {S' : α → World → Prop} {l : List Oper} (hs : ∀ w, S w → ∃ x, S' x w) (h : ∀ x, WL P n ops Q l env (S' x)) : WL P n ops Q l env S := fun a w ha hw => let ⟨x, hx⟩ := hs w hw; h x a w ha hx
theorem wm_exS {α : Type} {S' : α → World → Prop} {r : MT} {C : World → Prop} {Q : Act → World → Prop} (hs : ∀ w, S w → ∃ x, S' x w) (h : ∀ x, WM P n ops C Q r env (S' x)) : WM P n ops C Q r env S := fun a w ha hw => let ⟨x, hx⟩ := hs w hw; h x a w ha hx

/-! ### The ends of a function -/


theorem wq_ret1 {fn : Func} {R : Ending → World → Prop} {t : Tmp} {v : Value} (hr : fn.results = #[.tmp t]) (hv : env.find t = some v)
    (h : ∀ w, S w → R (.returned v) w) : WQ n (bodyPost P fn R) .ret env S := fun a w ha hw =>
  ⟨ha.defers, v, by rw [results_tmp hr]; simp [Array.getD_eq_getD_getElem?, ha.get t v hv], h w hw⟩

theorem wq_ret0 {fn : Func} {R : Ending → World → Prop} (hr : fn.results = #[])
    (h : ∀ w, S w → R (.returned (.tuple #[])) w) : WQ n (bodyPost P fn R) .ret env S := fun a w ha hw =>
  ⟨ha.defers, .tuple #[], by rw [results_none hr], h w hw⟩

theorem wq_end0 {fn : Func} {R : Ending → World → Prop} (hr : fn.results = #[])
    (h : ∀ w, S w → R (.returned (.tuple #[])) w) : WQ n (bodyPost P fn R) .normal env S := fun a w ha hw =>
  ⟨ha.defers, .tuple #[], by rw [results_none hr], h w hw⟩

theorem wq_ret2 {fn : Func} {R : Ending → World → Prop} {t u : Tmp} {v x : Value} (hr : fn.results = #[.tmp t, .tmp u]) (hv : env.find t = some v) (hx : env.find u = some x)
    (h : ∀ w, S w → R (.returned (.tuple #[v, x])) w) : WQ n (bodyPost P fn R) .ret env S := fun a w ha hw =>
  ⟨ha.defers, .tuple #[v, x], by rw [results_tmp2 hr]; simp [Array.getD_eq_getD_getElem?, ha.get t v hv, ha.get u x hx], h w hw⟩

theorem wq_ret3 {fn : Func} {R : Ending → World → Prop} {t u s : Tmp} {v x y : Value} (hr : fn.results = #[.tmp t, .tmp u, .tmp s]) (hv : env.find t = some v) (hx : env.find u = some x) (hy : env.find s = some y)
    (h : ∀ w, S w → R (.returned (.tuple #[v, x, y])) w) : WQ n (bodyPost P fn R) .ret env S := fun a w ha hw =>
  ⟨ha.defers, .tuple #[v, x, y], by rw [results_tmp3 hr]; simp [Array.getD_eq_getD_getElem?, ha.get t v hv, ha.get u x hx, ha.get s y hy], h w hw⟩

/-- The frame's first slots are the arguments. -/
def Env.Args : Env → Array Value → Prop
  | [], _ => True
  | (d, v) :: t, args => args[d]? = some v ∧ Env.Args t args
theorem Env.Args.find {args : Array Value} : ∀ {env : Env}, Env.Args env args → ∀ d v, env.find d = some v → args[d]? = some v
  | [], _, d, v, h => by cases h
  | (d0, v0) :: t, ha, d, v, h => by
    rw [Env.find_cons] at h
    split at h
    · rename_i he; subst he; obtain rfl := Option.some.inj h; exact ha.1
    · exact Env.Args.find ha.2 d v h

/-- The beginning of a function. -/
theorem calls_start {f : FuncId} {fn : Func} {c : Code} {args : Array Value} {w : World} {R : Ending → World → Prop} (env : Env) (S : World → Prop)
    (hf : P.funcs[f]? = some fn) (hb : fn.body = some c) (hn : fn.ntmps = n) (henv : Env.Args env args)
    (hsz : Nat.ble args.size n = true) (hw : S w)
    (h : WC P n (bodyPost P fn R) c env S) : Calls P f args w R := by
  refine calls_of_wp hf hb (h _ w ⟨rfl, ?_, fun d v hd => ?_⟩ hw)
  · have := Nat.le_of_ble_eq_true hsz; simp [hn]; omega
  · have h1 := henv.find d v hd
    have hlt := (Array.getElem?_eq_some_iff.1 h1).1
    show (args ++ _)[d]? = _
    rw [Array.getElem?_append_left hlt]; exact h1
end
end Go.Eng
