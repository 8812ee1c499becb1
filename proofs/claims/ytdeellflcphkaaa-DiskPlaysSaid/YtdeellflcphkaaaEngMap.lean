/-
  Maps: what one holds is a list of pairs, with keys that are apart.
-/
import Derived.Test.YtdeellflcphkaaaEngEx
import Derived.Laws.IdiomRangeMap
import Derived.Maps.RangeRun
namespace Go.Eng

section
variable {α β : Type} [DecidableEq α]
def mget : List (α × β) → α → Option β
  | [], _ => none
  | p :: l, k => if k = p.1 then some p.2 else mget l k
def mput : List (α × β) → α → β → List (α × β)
  | [], k, v => [(k, v)]
  | p :: l, k, v => if k = p.1 then (p.1, v) :: l else p :: mput l k v
def mdel : List (α × β) → α → List (α × β)
  | [], _ => []
  | p :: l, k => if k = p.1 then l else p :: mdel l k
def Keyed1 (l : List (α × β)) : Prop := (l.map (·.1)).Nodup

theorem mget_put (l : List (α × β)) (k : α) (v : β) (k' : α) : mget (mput l k v) k' = if k' = k then some v else mget l k' := by
  induction l with
  | nil => simp [mput, mget]
  | cons p l ih =>
    unfold mput
    split
    · rename_i h; subst h
      simp only [mget]
      split <;> rfl
    · rename_i h
      simp only [mget, ih]
      split
      · rename_i h1; subst h1
        rw [if_neg (fun e => h e.symm)]
      · rfl
theorem mget_none {l : List (α × β)} {k : α} : mget l k = none ↔ k ∉ l.map (·.1) := by
  induction l with
  | nil => simp [mget]
  | cons p l ih =>
    simp only [mget, List.map_cons, List.mem_cons]
    split
    · rename_i h; simp [h]
    · rename_i h; rw [ih]; simp [h]
theorem mget_del {l : List (α × β)} (hl : Keyed1 l) (k k' : α) : mget (mdel l k) k' = if k' = k then none else mget l k' := by
  induction l with
  | nil => simp [mdel, mget]
  | cons p l ih =>
    obtain ⟨h1, h2⟩ := List.nodup_cons.1 (show (p.1 :: l.map (·.1)).Nodup from hl)
    unfold mdel
    split
    · rename_i h; subst h
      simp only [mget]
      split
      · rename_i h3; subst h3; exact mget_none.2 h1
      · rfl
    · rename_i h
      simp only [mget, ih h2]
      split
      · rename_i h3; subst h3; rw [if_neg (fun e => h e.symm)]
      · rfl
theorem mem_of_mget {l : List (α × β)} {k : α} {v : β} (h : mget l k = some v) : (k, v) ∈ l := by
  induction l with
  | nil => cases h
  | cons p l ih =>
    simp only [mget] at h
    split at h
    · rename_i h1; subst h1; obtain rfl := Option.some.inj h; exact List.mem_cons_self ..
    · exact List.mem_cons_of_mem _ (ih h)
theorem mget_of_mem {l : List (α × β)} (hl : Keyed1 l) {k : α} {v : β} (h : (k, v) ∈ l) : mget l k = some v := by
  induction l with
  | nil => cases h
  | cons p l ih =>
    obtain ⟨h1, h2⟩ := List.nodup_cons.1 (show (p.1 :: l.map (·.1)).Nodup from hl)
    simp only [mget]
    rcases List.mem_cons.1 h with rfl | h
    · rw [if_pos rfl]
    · rw [if_neg (fun e => h1 (by have := List.mem_map_of_mem (f := (·.1)) h; simp only at this; rw [e] at this; exact this)), ih h2 h]
theorem mput_keys (l : List (α × β)) (k : α) (v : β) : (mput l k v).map (·.1) = if k ∈ l.map (·.1) then l.map (·.1) else l.map (·.1) ++ [k] := by
  induction l with
  | nil => simp [mput]
  | cons p l ih =>
    unfold mput
    split
    · rename_i h; subst h; simp
    · rename_i h
      rw [List.map_cons, ih]
      by_cases h1 : k ∈ l.map (·.1)
      · rw [if_pos h1, if_pos (by simp [h1])]; rfl
      · rw [if_neg h1, if_neg (by simp only [List.map_cons, List.mem_cons]; exact fun e => e.elim h h1)]; rfl
theorem Keyed1.put {l : List (α × β)} (hl : Keyed1 l) (k : α) (v : β) : Keyed1 (mput l k v) := by
  unfold Keyed1
  rw [mput_keys]
  split
  · exact hl
  · rename_i h
    exact List.nodup_append.2 ⟨hl, by simp, fun a ha b hb => by rw [List.mem_singleton.1 hb]; exact fun e => h (e ▸ ha)⟩
theorem mdel_sub (l : List (α × β)) (k : α) : (mdel l k).Sublist l := by
  induction l with
  | nil => exact List.Sublist.slnil
  | cons p l ih =>
    unfold mdel
    split
    · exact List.sublist_cons_self ..
    · exact ih.cons_cons p
theorem Keyed1.del {l : List (α × β)} (hl : Keyed1 l) (k : α) : Keyed1 (mdel l k) := hl.sublist ((mdel_sub l k).map _)
omit [DecidableEq α] in
theorem keyed1_nil : Keyed1 ([] : List (α × β)) := List.Pairwise.nil
theorem mdel_none {l : List (α × β)} {k : α} (h : mget l k = none) : mdel l k = l := by
  induction l with
  | nil => rfl
  | cons p l ih =>
    simp only [mget] at h
    split at h
    · cases h
    · rename_i h1; simp only [mdel, if_neg h1, ih h]
theorem mdel_len {l : List (α × β)} {k : α} {v : β} (h : mget l k = some v) : (mdel l k).length + 1 = l.length := by
  induction l with
  | nil => cases h
  | cons p l ih =>
    simp only [mget] at h
    unfold mdel
    split at h
    · rename_i h1; rw [if_pos h1]; rfl
    · rename_i h1; rw [if_neg h1, List.length_cons, List.length_cons, ih h]
theorem mput_len {l : List (α × β)} {k : α} (v : β) : (mput l k v).length = if (mget l k).isSome then l.length else l.length + 1 := by
  have := congrArg List.length (mput_keys l k v)
  rw [List.length_map] at this
  rw [this]
  cases h : mget l k with
  | none => rw [if_neg (mget_none.1 h)]; simp
  | some u => rw [if_pos (by have := mem_of_mget h; exact List.mem_map_of_mem (f := (·.1)) this)]; simp
end

/-! ### How a map lies in memory -/

/-- How keys of a type are written down, and found. -/
structure KeyE (P : Program) (kt : TypeId) {α : Type} [DecidableEq α] (ek : α → Value) : Prop where
  now : ∃ kind, P.underlying kt = some kind ∧ (∀ a b, Instr.sameNow kind (ek a) (ek b) = some (decide (a = b))) ∧ ∀ (e : Bool) (k : α) (w : World), (Instr.checkKey e 10000 kt (ek k)).run P w = .ok () w
  bits : ∀ a, Instr.sameBits 10000 (ek a) (ek a) = true

theorem checkKey_plain {P : Program} {kt : TypeId} {kind : TypeDesc} {v : Value} (hk : P.underlying kt = some kind) (hn : match kind with | .interface _ | .array _ _ | .struct _ => False | _ => True) (e : Bool) (w : World) : (Instr.checkKey e 10000 kt v).run P w = .ok () w := by
  have key : ∀ n, (Instr.checkKey e (n + 1) kt v).run P w = .ok () w := fun n => by
    cases kind <;> simp at hn <;> simp [Instr.checkKey, run_underlying hk]
  exact key 9999
theorem keyE_int {P : Program} {kt : TypeId} {kd : IntKind} (hk : P.underlying kt = some (.int kd)) : KeyE P kt (fun n : Int => .int .i64 n) where
  now := ⟨_, hk, fun a b => by simp [Instr.sameNow]; rfl, fun e k w => checkKey_plain hk trivial e w⟩
  bits := fun a => by
    have key : ∀ n, Instr.sameBits (n + 1) (.int .i64 a) (.int .i64 a) = true := fun n => by simp [Instr.sameBits]
    exact key 9999
theorem bs_eq_iff (a b : Str) : bs a = bs b ↔ a = b := ⟨fun h => by have := congrArg (fun s : ByteArray => s.data.toList) h; simpa using this, fun h => by rw [h]⟩
theorem keyE_str {P : Program} {kt : TypeId} (hk : P.underlying kt = some .string) : KeyE P kt (fun s : Str => .string (bs s)) where
  now := ⟨_, hk, fun a b => by
    simp only [Instr.sameNow, beq_toListBytes, bs_toList, beq_dec], fun e k w => checkKey_plain hk trivial e w⟩
  bits := fun a => by
    have key : ∀ n, Instr.sameBits (n + 1) (.string (bs a)) (.string (bs a)) = true := fun n => by simp [Instr.sameBits, beq_toListBytes]
    exact key 9999

/-- The entries hold these pairs. -/
structure Ents {α β : Type} (ek : α → Value) (ev : β → Value) (l : List (α × β)) (es : List MapEntry) (clock : Nat) : Prop where
  kv : es.map (fun e => (e.key, e.val)) = l.map (fun p => (ek p.1, ev p.2))
  old : ∀ e ∈ es, e.born < clock
  nd : (es.map (·.born)).Nodup

/-- A map that holds these pairs. -/
def mapA {α β : Type} (ek : α → Value) (ev : β → Value) (b : Nat) (l : List (α × β)) : Atom := fun h => ∃ es clock, Ents ek ev l es clock ∧ Keyed1 l ∧ h = [(b, .map es.toArray clock)]

section
variable {P : Program} {α β : Type} [DecidableEq α] {ek : α → Value} {ev : β → Value}

theorem findNow_list {kind : TypeDesc} (hs : ∀ a b, Instr.sameNow kind (ek a) (ek b) = some (decide (a = b))) (k : α) : ∀ (l : List (α × β)) (es : List MapEntry) (i : Nat), es.map (fun e => (e.key, e.val)) = l.map (fun p => (ek p.1, ev p.2)) →
    ∃ r, Instr.findNow kind (ek k) es i = some r ∧ (match mget l k with
      | none => r = none
      | some v => ∃ j, r = some (i + j, ev v) ∧ j < es.length ∧ (∃ e, es[j]? = some e ∧ e.key = ek k ∧ (es.eraseIdx j).map (fun e => (e.key, e.val)) = (mdel l k).map (fun p => (ek p.1, ev p.2)) ∧
          ∀ v' : β, (es.modify j (fun e => { e with key := ek k, val := ev v' })).map (fun e => (e.key, e.val)) = (mput l k v').map (fun p => (ek p.1, ev p.2))))
  | [], [], i, _ => ⟨none, rfl, rfl⟩
  | [], e :: es, i, h => by simp at h
  | p :: l, [], i, h => by simp at h
  | p :: l, e :: es, i, h => by
    simp only [List.map_cons, List.cons.injEq, Prod.mk.injEq] at h
    obtain ⟨⟨h1, h2⟩, h3⟩ := h
    have hs1 := hs k p.1
    rw [← h1] at hs1
    by_cases hk : k = p.1
    · refine ⟨some (i, e.val), ?_, ?_⟩
      · simp only [Instr.findNow, hs1, decide_eq_true hk]
      · simp only [mget, if_pos hk]
        refine ⟨0, by rw [h2]; rfl, by simp, e, rfl, by rw [h1, hk], ?_, fun v' => ?_⟩
        · simp [mdel, if_pos hk, h3]
        · simp [mput, h3, hk]
    · obtain ⟨r, hr, hm⟩ := findNow_list hs k l es (i + 1) h3
      refine ⟨r, ?_, ?_⟩
      · simp only [Instr.findNow, hs1, decide_eq_false hk, hr]
      · simp only [mget, if_neg hk]
        cases hg : mget l k with
        | none => rw [hg] at hm; exact hm
        | some v =>
          rw [hg] at hm
          obtain ⟨j, hj, hlt, e', he', hk', hd, hp⟩ := hm
          refine ⟨j + 1, by rw [hj, show i + 1 + j = i + (j + 1) by omega], by simp; omega, e', by simpa using he', hk', ?_, fun v' => ?_⟩
          · simp [mdel, if_neg hk, hd, h1, h2]
          · simp [mput, if_neg hk, hp, h1, h2]

theorem run_findKey {kt : TypeId} (K : KeyE P kt ek) (k : α) {l : List (α × β)} {es : List MapEntry} (h : es.map (fun e => (e.key, e.val)) = l.map (fun p => (ek p.1, ev p.2))) (w : World) :
    ∃ r, (Instr.findKey kt (ek k) es).run P w = .ok r w ∧ (match mget l k with
      | none => r = none
      | some v => ∃ j, r = some (j, ev v) ∧ j < es.length ∧ (∃ e, es[j]? = some e ∧ e.key = ek k ∧ (es.eraseIdx j).map (fun e => (e.key, e.val)) = (mdel l k).map (fun p => (ek p.1, ev p.2)) ∧
          ∀ v' : β, (es.modify j (fun e => { e with key := ek k, val := ev v' })).map (fun e => (e.key, e.val)) = (mput l k v').map (fun p => (ek p.1, ev p.2)))) := by
  obtain ⟨kind, hk, hs, _⟩ := K.now
  obtain ⟨r, hr, hm⟩ := findNow_list hs k l es 0 h
  refine ⟨r, ?_, ?_⟩
  · simp [Instr.findKey, run_underlying hk, hr]
  · simpa using hm

omit [DecidableEq α] in
theorem Seen.map {b : Nat} {l : List (α × β)} {w : World} (h : Seen (mapA ek ev b l) w) : ∃ es clock, Ents ek ev l es clock ∧ Keyed1 l ∧ w.heap[b]? = some (.map es.toArray clock) := by
  obtain ⟨g, ⟨es, clock, h1, h2, rfl⟩, hg⟩ := h
  exact ⟨es, clock, h1, h2, hg (b, _) (by simp)⟩
omit [DecidableEq α] in
theorem Hp.keyed (pre : List Atom) {w0 : World} {O : Nat → Prop} {b : Nat} {l : List (α × β)} {post : List Atom} {w : World} (h : Hp w0 O (pre ++ mapA ek ev b l :: post) w) : Keyed1 l := by
  obtain ⟨_, _, _, h2, _⟩ := (h.seen pre).map
  exact h2

variable {n : Nat} {env : Env} {S : World → Prop} {dst : Option Tmp} {ty : TypeId} {pos : String} {after : Array Edge} {g : Option (Nat × Bool)} {x y z : Operand} {t kt et : TypeId} {w0 : World} {O : Nat → Prop} {As post : List Atom}

theorem run_getObj {b : Nat} {es : Array MapEntry} {c : Nat} {w : World} (h : w.heap[b]? = some (.map es c)) : (getObj b).run P w = .ok (.map es c) w := by
  simp [getObj, Sem.run, h]

def lookV (ok : Bool) (ev : β → Value) (zero : Value) (o : Option β) : Value := match ok, o with
  | true, some v => .tuple #[ev v, .bool true]
  | true, none => .tuple #[zero, .bool false]
  | false, some v => ev v
  | false, none => zero

theorem y_lookup {b : Nat} {l : List (α × β)} {k : α} {size bytes : Nat} {zero : Value} {ok : Bool} (ht : P.underlying t = some (.map kt et)) (K : KeyE P kt ek) (he : TI P et size bytes zero) (hx : env.ev x = some (.map (some b))) (hy : env.ev y = some (ek k)) (hm : ∀ w, S w → Seen (mapA ek ev b l) w) :
    Yv P n ⟨dst, .lookup t x y ok, ty, pos, after, g⟩ env S (lookV ok ev zero (mget l k)) := fun a w ha hw => by
  obtain ⟨inf, h1, h2, _, _⟩ := he.parts
  obtain ⟨es, clock, hE, _, hb⟩ := (hm w hw).map
  obtain ⟨r, hr, hres⟩ := run_findKey K k hE.kv w
  obtain ⟨kind, hk, hs, hck⟩ := K.now
  have hz : (zeroValue et).run P w = .ok zero w := by simp [zeroValue, typeInfo, h1, h2]
  show ((Functor.map Next.value (Instr.lookup t (a.eval x) (a.eval y) ok)) : Sem Next).run P w = _
  rw [ha.eval hx, ha.eval hy]
  simp only [Sem.run_map, Instr.lookup, Sem.run_bind, run_underlying ht, Result.andThen_ok, run_getObj hb, Sem.run_pure, hck, hr]
  cases hg : mget l k with
  | none =>
    rw [hg] at hres
    subst hres
    cases ok <;> simp [lookV, hz]
  | some v =>
    rw [hg] at hres
    obtain ⟨j, rfl, _⟩ := hres
    cases ok <;> simp [lookV]

omit [DecidableEq α] in
theorem y_lenMap {b : Nat} {l : List (α × β)} (ht : P.underlying t = some (.map kt et)) (hx : env.ev x = some (.map (some b))) (hm : ∀ w, S w → Seen (mapA ek ev b l) w) : Yv P n ⟨dst, .call { callee := .builtin .len, args := #[x], argTypes := #[t] }, ty, pos, after, g⟩ env S (.int .i64 (l.length : Nat)) := fun a w ha hw => by
  obtain ⟨es, clock, hE, _, hb⟩ := (hm w hw).map
  have hl := congrArg List.length hE.kv
  simp only [List.length_map] at hl
  simp [execOp, resolve, invoke, builtin, Builtin.len_, run_underlying ht, ha.eval hx, goInt, run_getObj hb, hl]

omit [DecidableEq α] in
theorem yw_makeMap : Yw P n ⟨dst, .makeMap t none, ty, pos, after, g⟩ env (Hp w0 O As) (Rx (fun _ : Nat => True) (fun b => .map (some b)) (fun b => Hp w0 O (mapA ek ev b [] :: As))) := fun a w _ hw => by
  refine ⟨.map (some w.heap.size), w.alloc (.map #[] 0), ?_, w.heap.size, trivial, rfl, ?_⟩
  · simp [execOp, Instr.makeMap]
  · exact (hw.alloc (.map #[] 0)).conv (Bs := [mapA ek ev w.heap.size []]) fun h hh => ⟨h, [], ⟨[], 0, ⟨rfl, by simp, by simp⟩, keyed1_nil, hh⟩, rfl, by simp⟩

omit [DecidableEq α] in
theorem Hp.turnMap (pre : List Atom) {b : Nat} {l l' : List (α × β)} {es' : List MapEntry} {clock' : Nat} {w : World} (h : Hp w0 O (pre ++ mapA ek ev b l :: post) w) (hE : Ents ek ev l' es' clock') (hK : Keyed1 l') :
    Hp w0 O (pre ++ mapA ek ev b l' :: post) { w with heap := w.heap.setIfInBounds b (.map es'.toArray clock') } := by
  obtain ⟨g, ⟨h1, h2, ⟨es, clock, _, _, rfl⟩, ho, rfl⟩, hf⟩ := h.pick pre
  have hb : w.heap[b]? = some (.map es.toArray clock) := hf.here (b, _) (by simp)
  have hlt := lt_of_heap hb
  have hp : Hp w0 O (blk b (.map es.toArray clock) :: (pre ++ post)) w := ⟨_, ⟨[(b, .map es.toArray clock)], h2, rfl, ho, rfl⟩, hf⟩
  have ht := hp.turn (w' := { w with heap := w.heap.setIfInBounds b (.map es'.toArray clock') }) (o' := .map es'.toArray clock') (by simp [hlt]) (by simp) (fun k hk => by simp [Ne.symm hk]) rfl rfl rfl
  exact Hp.perm (As := mapA ek ev b l' :: (pre ++ post)) (ht.conv (Bs := [mapA ek ev b l']) fun g hg => ⟨g, [], ⟨es', clock', hE, hK, hg⟩, rfl, by simp⟩) List.perm_middle.symm

theorem run_setObj {b : Nat} {es : Array MapEntry} {c : Nat} {o' : Obj} {w : World} (h : w.heap[b]? = some (.map es c)) : (setObj b o').run P w = .ok () { w with heap := w.heap.setIfInBounds b o' } := by
  simp [setObj, Sem.run, h]

theorem yu_mapUpdate (pre : List Atom) {b : Nat} {l : List (α × β)} {k : α} {v : β} (ht : P.underlying t = some (.map kt et)) (K : KeyE P kt ek) (hx : env.ev x = some (.map (some b))) (hy : env.ev y = some (ek k)) (hz : env.ev z = some (ev v)) :
    Yu P n ⟨none, .mapUpdate t x y z, ty, pos, after, g⟩ env (Hp w0 O (pre ++ mapA ek ev b l :: post)) (Hp w0 O (pre ++ mapA ek ev b (mput l k v) :: post)) := fun a w ha hw => by
  obtain ⟨es, clock, hE, hK, hb⟩ := (hw.seen pre).map
  obtain ⟨r, hr, hres⟩ := run_findKey K k hE.kv w
  obtain ⟨kind, hk, hs, hck⟩ := K.now
  have hrun : ∀ w', (Instr.mapUpdate t (.map (some b)) (ek k) (ev v)).run P w = .ok () w' → (execOp a.eval ⟨none, .mapUpdate t x y z, ty, pos, after, g⟩).run P w = .ok .skip w' := fun w' h => by
    simp [execOp, ha.eval hx, ha.eval hy, ha.eval hz, h]
  cases hg : mget l k with
  | none =>
    rw [hg] at hres
    subst hres
    refine ⟨_, hrun _ ?_, hw.turnMap pre (l' := mput l k v) (es' := es ++ [⟨ek k, ev v, clock⟩]) (clock' := clock + 1) ⟨?_, fun e he => ?_, ?_⟩ (hK.put k v)⟩
    · simp only [Instr.mapUpdate, Sem.run_bind, run_underlying ht, Result.andThen_ok, run_getObj hb, hck, hr]
      rw [run_setObj hb]
      simp
    · have : ∀ (l : List (α × β)), mget l k = none → mput l k v = l ++ [(k, v)] := by
        intro l
        induction l with
        | nil => intro _; rfl
        | cons p l ih =>
          intro h
          simp only [mget] at h
          split at h
          · cases h
          · rename_i h1; simp only [mput, if_neg h1, ih h]; rfl
      rw [this l hg, List.map_append, List.map_append, hE.kv]; rfl
    · rcases List.mem_append.1 he with he | he
      · have := hE.old e he; omega
      · rw [List.mem_singleton.1 he]; simp
    · rw [List.map_append]
      exact List.nodup_append.2 ⟨hE.nd, by simp, fun c hc d hd => by
        obtain ⟨e, he, rfl⟩ := List.mem_map.1 hc
        have := hE.old e he
        simp at hd; omega⟩
  | some u =>
    rw [hg] at hres
    obtain ⟨j, rfl, hlt, e, he, hke, _, hp⟩ := hres
    have hm : (es.modify j (fun e => { e with key := ek k, val := ev v })).map (·.born) = es.map (·.born) := by
      apply List.ext_getElem?
      intro i
      simp only [List.getElem?_map, List.getElem?_modify]
      split
      · cases es[i]? <;> simp
      · simp
    refine ⟨_, hrun _ ?_, hw.turnMap pre (l' := mput l k v) (es' := es.modify j (fun e => { e with key := ek k, val := ev v })) (clock' := clock) ⟨hp v, fun e' he' => ?_, by rw [hm]; exact hE.nd⟩ (hK.put k v)⟩
    · have hkey : (Instr.keyThatStays (((es.toArray[j]?).map (·.key)).getD (ek k)) (ek k)).run P w = .ok (ek k) w := by
        simp [he, hke, Instr.keyThatStays, K.bits]
      simp only [Instr.mapUpdate, Sem.run_bind, run_underlying ht, Result.andThen_ok, run_getObj hb, hck, hr, hkey]
      rw [run_setObj hb]
      simp
    · have : e'.born ∈ es.map (·.born) := by rw [← hm]; exact List.mem_map_of_mem he'
      obtain ⟨e'', h1, h2⟩ := List.mem_map.1 this
      rw [← h2]; exact hE.old e'' h1

theorem run_delete (pre : List Atom) {b : Nat} {l : List (α × β)} {k : α} {kt' : TypeId} {w : World} (ht : P.underlying t = some (.map kt et)) (K : KeyE P kt ek) (hw : Hp w0 O (pre ++ mapA ek ev b l :: post) w) :
    ∃ w', (Builtin.delete_ #[t, kt'] ty #[.map (some b), ek k]).run P w = .ok (.tuple #[]) w' ∧ Hp w0 O (pre ++ mapA ek ev b (mdel l k) :: post) w' := by
  obtain ⟨es, clock, hE, hK, hb⟩ := (hw.seen pre).map
  obtain ⟨r, hr, hres⟩ := run_findKey K k hE.kv w
  obtain ⟨kind, hk, hs, hck⟩ := K.now
  cases hg : mget l k with
  | none =>
    rw [hg] at hres
    subst hres
    refine ⟨_, ?_, hw.turnMap pre (l' := mdel l k) (es' := es) (clock' := clock) (by rw [mdel_none hg]; exact hE) (hK.del k)⟩
    simp only [Builtin.delete_, List.getElem?_toArray, List.getElem?_cons_zero, List.getElem?_cons_succ, Sem.run_bind, run_underlying ht, Result.andThen_ok, run_getObj hb, hck, hr]
    rw [run_setObj hb]
    simp
  | some u =>
    rw [hg] at hres
    obtain ⟨j, rfl, hlt, e, he, hke, hd, _⟩ := hres
    refine ⟨_, ?_, hw.turnMap pre (l' := mdel l k) (es' := es.eraseIdx j) (clock' := clock) ⟨hd, fun e' he' => hE.old e' (List.mem_of_mem_eraseIdx he'), ?_⟩ (hK.del k)⟩
    · simp only [Builtin.delete_, List.getElem?_toArray, List.getElem?_cons_zero, List.getElem?_cons_succ, Sem.run_bind, run_underlying ht, Result.andThen_ok, run_getObj hb, hck, hr]
      rw [run_setObj hb]
      simp [Array.eraseIdxIfInBounds, hlt]
    · exact hE.nd.sublist ((List.eraseIdx_sublist es j).map _)
theorem yu_delete (pre : List Atom) {b : Nat} {l : List (α × β)} {k : α} {kt' : TypeId} {Q : Exit → Act → World → Prop} {ops : Array Oper} {rest : List Oper} (ht : P.underlying t = some (.map kt et)) (K : KeyE P kt ek) (hx : env.ev x = some (.map (some b))) (hy : env.ev y = some (ek k))
    (h : WL P n ops Q rest env (Hp w0 O (pre ++ mapA ek ev b (mdel l k) :: post))) :
    WL P n ops Q (⟨none, .call { callee := .builtin .delete, args := #[x, y], argTypes := #[t, kt'] }, ty, pos, after, none⟩ :: rest) env (Hp w0 O (pre ++ mapA ek ev b l :: post)) := fun a w ha hw => wpList_step fun K' hK' => by
  rw [if_pos (by rfl)]
  unfold Oper.wp
  obtain ⟨w', hr, hw'⟩ := run_delete (P := P) (k := k) (kt' := kt') (ty := ty) pre ht K hw
  have : (execOp a.eval ⟨none, .call { callee := .builtin .delete, args := #[x, y], argTypes := #[t, kt'] }, ty, pos, after, none⟩).run P w = .ok (.value (.tuple #[])) w' := by
    simp [execOp, resolve, invoke, builtin, ha.eval hx, ha.eval hy, hr]
  rw [this]
  exact hK' _ _ (h _ w' ha hw')

theorem wm_delete (pre : List Atom) {b : Nat} {l : List (α × β)} {k : α} {kt' : TypeId} {C : World → Prop} {Q : Act → World → Prop} {ops : Array Oper} {i : Nat} {r : MT} (hi : ops[i]? = some ⟨none, .call { callee := .builtin .delete, args := #[x, y], argTypes := #[t, kt'] }, ty, pos, after, none⟩)
    (hC : ∀ w, Hp w0 O (pre ++ mapA ek ev b (mdel l k) :: post) w → C w) (ht : P.underlying t = some (.map kt et)) (K : KeyE P kt ek) (hx : env.ev x = some (.map (some b))) (hy : env.ev y = some (ek k))
    (h : WM P n ops C Q r env (Hp w0 O (pre ++ mapA ek ev b (mdel l k) :: post))) : WM P n ops C Q (.w i 2 r .nil) env (Hp w0 O (pre ++ mapA ek ev b l :: post)) := fun a w ha hw => by
  simp only [wpMix, hi]
  refine ⟨⟨rfl, ?_⟩, by simp⟩
  unfold Oper.wp
  obtain ⟨w', hr, hw'⟩ := run_delete (P := P) (k := k) (kt' := kt') (ty := ty) pre ht K hw
  have : (execOp a.eval ⟨none, .call { callee := .builtin .delete, args := #[x, y], argTypes := #[t, kt'] }, ty, pos, after, none⟩).run P w = .ok (.value (.tuple #[])) w' := by
    simp [execOp, resolve, invoke, builtin, ha.eval hx, ha.eval hy, hr]
  rw [this]
  exact ⟨hC w' hw', h _ w' ha hw'⟩

/-! ### A map gone through -/

/-- A map that is gone through, unchanged: its keys dn have come up, the head of dn last. -/
def rngA {α β : Type} (ek : α → Value) (ev : β → Value) (b r : Nat) (l : List (α × β)) (dn : List α) : Atom := fun h => ∃ (es : List MapEntry) (clock : Nat) (seen : Array Nat), Ents ek ev l es clock ∧ Keyed1 l ∧ h = [(b, .map es.toArray clock), (r, .mapIter (some b) clock seen clock)] ∧
  (∀ (i : Nat) (p : α × β) (e : MapEntry), l[i]? = some p → es[i]? = some e → (p.1 ∈ dn ↔ seen.contains e.born = true)) ∧
  ∀ k, dn.head? = some k → ∃ (i : Nat) (p : α × β) (e : MapEntry), l[i]? = some p ∧ p.1 = k ∧ es[i]? = some e ∧ ∃ s : Array Nat, seen = s.push e.born

omit [DecidableEq α] in
theorem Seen.rngMap {b r : Nat} {l : List (α × β)} {dn : List α} {w : World} (h : Seen (rngA ek ev b r l dn) w) : Seen (mapA ek ev b l) w := by
  obtain ⟨g, ⟨es, clock, seen, h1, h2, rfl, _⟩, hg⟩ := h
  exact ⟨[(b, .map es.toArray clock)], ⟨es, clock, h1, h2, rfl⟩, fun p hp => hg p (by simp at hp ⊢; exact .inl hp)⟩

omit [DecidableEq α] in
theorem Hp.rngEnd {b r : Nat} {l : List (α × β)} {dn : List α} {w : World} (h : Hp w0 O (rngA ek ev b r l dn :: As) w) : Hp w0 O (mapA ek ev b l :: As) w := by
  have h1 := h.conv (Bs := [mapA ek ev b l, fun h => ∃ o, h = [(r, o)]]) fun g hg => by
    obtain ⟨es, clock, seen, h1, h2, rfl, _⟩ := hg
    exact ⟨[(b, .map es.toArray clock)], [(r, .mapIter (some b) clock seen clock)], ⟨es, clock, h1, h2, rfl⟩, ⟨_, [], ⟨_, rfl⟩, rfl, rfl⟩, rfl⟩
  exact (h1.pick [mapA ek ev b l]).drop

omit [DecidableEq α] in
theorem Ents.pair {l : List (α × β)} {es : List MapEntry} {clock i : Nat} {e : MapEntry} (hE : Ents ek ev l es clock) (he : es[i]? = some e) : ∃ p, l[i]? = some p ∧ e.key = ek p.1 ∧ e.val = ev p.2 := by
  have := congrArg (fun x => x[i]?) hE.kv
  simp only [List.getElem?_map, he, Option.map_some] at this
  cases hp : l[i]? with
  | none => rw [hp] at this; cases this
  | some p =>
    rw [hp] at this
    simp only [Option.map_some, Option.some.injEq, Prod.mk.injEq] at this
    exact ⟨p, rfl, this.1, this.2⟩

theorem run_range_at {b : Nat} {es : Array MapEntry} {clock : Nat} {w : World} (ht : P.underlying t = some (.map kt et)) (hb : w.heap[b]? = some (.map es clock)) :
    (Instr.range t (.map (some b))).run P w = .ok (.pointer (some ⟨w.heap.size, 0, none⟩)) (w.alloc (.mapIter (some b) clock #[] clock)) := by
  simp [Instr.range, run_underlying ht, run_getObj hb]

omit [DecidableEq α] in
theorem yw_range (pre : List Atom) {b : Nat} {l : List (α × β)} (ht : P.underlying t = some (.map kt et)) (hx : env.ev x = some (.map (some b))) :
    Yw P n ⟨dst, .range t x, ty, pos, after, g⟩ env (Hp w0 O (pre ++ mapA ek ev b l :: post)) (Rx (fun _ : Nat => True) (fun r => .pointer (some ⟨r, 0, none⟩)) (fun r => Hp w0 O (rngA ek ev b r l [] :: (pre ++ post)))) := fun a w ha hw => by
  obtain ⟨g, ⟨h1, h2, ⟨es, clock, hE, hK, rfl⟩, ho, rfl⟩, hf⟩ := hw.pick pre
  have hb : w.heap[b]? = some (.map es.toArray clock) := hf.here (b, _) (by simp)
  have hr := run_range_at (P := P) ht hb
  refine ⟨.pointer (some ⟨w.heap.size, 0, none⟩), w.alloc (.mapIter (some b) clock #[] clock), by simp [execOp, ha.eval hx, hr], w.heap.size, trivial, rfl, ?_⟩
  have hp : Hp w0 O (blk b (.map es.toArray clock) :: (pre ++ post)) w := ⟨_, ⟨[(b, .map es.toArray clock)], h2, rfl, ho, rfl⟩, hf⟩
  have h3 := hp.alloc (.mapIter (some b) clock #[] clock)
  have h4 := h3.perm (List.Perm.swap _ _ _)
  refine Hp.convs (Cs := [blk b (.map es.toArray clock), blk w.heap.size (.mapIter (some b) clock #[] clock)]) (Bs := [rngA ek ev b w.heap.size l []]) h4 fun g hg => ?_
  obtain ⟨g1, g2, rfl, ⟨g3, g4, rfl, rfl, rfl⟩, rfl⟩ := hg
  exact ⟨_, [], ⟨es, clock, #[], hE, hK, rfl, by simp, by simp⟩, rfl, rfl⟩

def nextV (ek : α → Value) (ev : β → Value) : Option (α × β) → Value
  | none => .tuple #[.bool false]
  | some q => .tuple #[.bool true, ek q.1, ev q.2]
def nextP (l : List (α × β)) (dn : List α) : Option (α × β) → Prop
  | none => ∀ q ∈ l, q.1 ∈ dn
  | some q => q ∈ l ∧ q.1 ∉ dn
def nextD (dn : List α) : Option (α × β) → List α
  | none => dn
  | some q => q.1 :: dn

omit [DecidableEq α] in
theorem yw_next (pre : List Atom) {b r : Nat} {l : List (α × β)} {dn : List α} (hx : env.ev x = some (.pointer (some ⟨r, 0, none⟩))) :
    Yw P n ⟨dst, .next x false, ty, pos, after, g⟩ env (Hp w0 O (pre ++ rngA ek ev b r l dn :: post)) (Rx (nextP l dn) (nextV ek ev) (fun q => Hp w0 O (pre ++ rngA ek ev b r l (nextD dn q) :: post))) := fun a w ha hw => by
  obtain ⟨g, ⟨h1, h2, ⟨es, clock, seen, hE, hK, rfl, hdn, hhd⟩, ho, rfl⟩, hf⟩ := hw.pick pre
  have hb : w.heap[b]? = some (.map es.toArray clock) := hf.here (b, _) (by simp)
  have hr : w.heap[r]? = some (.mapIter (some b) clock seen clock) := hf.here (r, _) (by simp)
  have hex : ∀ (v : Value) (w' : World), (Instr.next (.pointer (some ⟨r, 0, none⟩)) false ty).run P w = .ok v w' → (execOp a.eval ⟨dst, .next x false, ty, pos, after, g⟩).run P w = .ok (.value v) w' := fun v w' h => by
    simp [execOp, ha.eval hx, h]
  have hkey : ∀ (i j : Nat) (p q : α × β), l[i]? = some p → l[j]? = some q → p.1 = q.1 → i = j := fun i j p q hp hq he => by
    have hp' : (l.map (·.1))[i]? = some p.1 := by simp [hp]
    have hq' : (l.map (·.1))[j]? = some p.1 := by simp [hq, he]
    exact (List.getElem?_inj (List.getElem?_eq_some_iff.1 hp').1 hK).1 (hp'.trans hq'.symm)
  have hborn : ∀ (i j : Nat) (e f : MapEntry), es[i]? = some e → es[j]? = some f → e.born = f.born → i = j := fun i j e f he hf he' => by
    have hp' : (es.map (·.born))[i]? = some e.born := by simp [he]
    have hq' : (es.map (·.born))[j]? = some e.born := by simp [hf, he']
    exact (List.getElem?_inj (List.getElem?_eq_some_iff.1 hp').1 hE.nd).1 (hp'.trans hq'.symm)
  rcases run_next_at (P := P) w ty r b clock clock seen es.toArray clock hr hb (fun x hx => hE.old x (by simpa using hx)) (Nat.le_refl _) with ⟨h0, hrun⟩ | ⟨e, he, w1, hw1, hrun⟩
  · refine ⟨_, w, hex _ _ hrun, none, ?_, rfl, hw⟩
    intro q hq
    obtain ⟨i, hi⟩ := List.mem_iff_getElem?.1 hq
    have hil := (List.getElem?_eq_some_iff.1 hi).1
    have hlen := congrArg List.length hE.kv
    simp only [List.length_map] at hlen
    have hei : es[i]? = some es[i] := List.getElem?_eq_getElem (by omega)
    exact (hdn i q _ hi hei).2 (all_seen es.toArray seen h0 _ (by simp))
  · obtain ⟨hm, hns⟩ := mem_left he
    obtain ⟨i, hi⟩ := List.mem_iff_getElem?.1 (show e ∈ es by simpa using hm)
    obtain ⟨p, hp, hk, hv⟩ := hE.pair hi
    refine ⟨_, _, hex _ _ hrun, some p, ⟨List.mem_of_getElem? hp, fun hd => ?_⟩, by rw [hk, hv]; rfl, ?_⟩
    · rw [(hdn i p e hp hi).1 hd] at hns; cases hns
    · have hw1' : Hp w0 O (pre ++ rngA ek ev b r l dn :: post) w1 := by
        rcases hw1 with rfl | rfl
        · exact hw
        · exact Hp.drawless _ _ _ w hw
      have hp1 : Hp w0 O (blk r (.mapIter (some b) clock seen clock) :: blk b (.map es.toArray clock) :: (pre ++ post)) w1 := by
        have : Hp w0 O (blk b (.map es.toArray clock) :: blk r (.mapIter (some b) clock seen clock) :: (pre ++ post)) w1 := by
          refine ⟨_, ⟨[(b, .map es.toArray clock)], _, rfl, ⟨[(r, .mapIter (some b) clock seen clock)], h2, rfl, ho, rfl⟩, rfl⟩, ?_⟩
          rcases hw1 with rfl | rfl
          · simpa using hf
          · exact ⟨by simpa using hf.nodup, fun p hp => hf.here p (by simpa using hp), fun p hp => hf.own p (by simpa using hp), hf.grow, hf.keep, hf.os, hf.tape, hf.output⟩
        exact this.perm (List.Perm.swap _ _ _)
      have hr1 := hp1.blk_heap
      have hlt := lt_of_heap hr1
      have ht := hp1.turn (w' := ChangeMaps.setBlock w1 r (.mapIter (some b) clock (seen.push e.born) clock)) (o' := .mapIter (some b) clock (seen.push e.born) clock) (by simp [ChangeMaps.setBlock, hlt]) (by simp [ChangeMaps.setBlock]) (fun k hk => by simp [ChangeMaps.setBlock, Ne.symm hk]) rfl rfl rfl
      have h4 := ht.perm (List.Perm.swap _ _ _)
      refine Hp.perm (As := rngA ek ev b r l (p.1 :: dn) :: (pre ++ post)) ?_ List.perm_middle.symm
      refine Hp.convs (Cs := [blk b (.map es.toArray clock), blk r (.mapIter (some b) clock (seen.push e.born) clock)]) (Bs := [rngA ek ev b r l (p.1 :: dn)]) h4 fun g hg => ?_
      obtain ⟨g1, g2, rfl, ⟨g3, g4, rfl, rfl, rfl⟩, rfl⟩ := hg
      refine ⟨_, [], ⟨es, clock, seen.push e.born, hE, hK, rfl, fun j q f hq hf' => ?_, fun k hk' => ?_⟩, rfl, rfl⟩
      · rw [contains_push, List.mem_cons, Bool.or_eq_true, ← hdn j q f hq hf', beq_iff_eq]
        constructor
        · rintro (h | h)
          · obtain rfl := hkey j i q p hq hp h
            rw [hi] at hf'; cases hf'; exact .inr rfl
          · exact .inl h
        · rintro (h | h)
          · exact .inr h
          · obtain rfl := hborn j i f e hf' hi h
            rw [hp] at hq; cases hq; exact .inl rfl
      · simp only [List.head?_cons, Option.some.injEq] at hk'
        exact ⟨i, p, e, hp, hk', hi, seen, rfl⟩

theorem y_entry {b r : Nat} {l : List (α × β)} {dn : List α} {k : α} {v : β} (hx : env.ev x = some (.pointer (some ⟨r, 0, none⟩))) (hv : mget l k = some v) (hm : ∀ w, S w → Seen (rngA ek ev b r l (k :: dn)) w) :
    Yv P n ⟨dst, .entry x, ty, pos, after, g⟩ env S (.tuple #[ek k, ev v]) := fun a w ha hw => by
  obtain ⟨g, ⟨es, clock, seen, hE, hK, rfl, hdn, hhd⟩, hg⟩ := hm w hw
  have hb : w.heap[b]? = some (.map es.toArray clock) := hg (b, _) (by simp)
  have hr : w.heap[r]? = some (.mapIter (some b) clock seen clock) := hg (r, _) (by simp)
  obtain ⟨i, p, e, hp, rfl, hi, s, rfl⟩ := hhd k rfl
  obtain ⟨q, hq, hk, hv'⟩ := hE.pair hi
  obtain rfl : q = p := Option.some.inj (hq.symm.trans hp)
  have hpv : q.2 = v := by
    have := mget_of_mem hK (k := q.1) (v := q.2) (List.mem_of_getElem? hq)
    rw [hv] at this; exact (Option.some.inj this).symm
  have hrun := run_entry_at (P := P) w r b clock s es.toArray clock e hr hb (by simpa using List.mem_of_getElem? hi) (by simpa using hE.nd)
  rw [hk, hv', hpv] at hrun
  simp [execOp, ha.eval hx, hrun]

/-- How many have not come up. -/
def leftM (l : List (α × β)) (dn : List α) : Nat := (l.filter fun p => !decide (p.1 ∈ dn)).length
theorem leftM_lt {l : List (α × β)} {dn : List α} {q : α × β} (h : q ∈ l ∧ q.1 ∉ dn) : leftM l (q.1 :: dn) < leftM l dn :=
  filter_lt _ _ (fun x hx => by simp only [Bool.not_eq_true', decide_eq_false_iff_not, List.mem_cons, not_or] at hx ⊢; exact hx.2) q (by simpa using h.2) (by simp) l h.1
theorem mget_eq_nil {l : List (α × β)} (h : ∀ k, mget l k = none) : l = [] := by
  cases l with
  | nil => rfl
  | cons p l => have := h p.1; simp [mget] at this
end
end Go.Eng
