/-
  The library's contracts in the engine's words: numbers that are written and read.
-/
import Derived.Test.YtbnahfjhlbibcaaGreatDoorEngLib0
import Derived.Shelf.Strconv.Itoa4
import Derived.Shelf.Strconv.AtoiAll
import Derived.Shelf.Strconv.ParseIntPublic10
namespace Go.Eng
open Go.Proofs Go.RowKit Go.Sort Go.Lib Go.Shelf

theorem below_grow (w : World) (k : Nat) (os : Array Obj) : Below w.heap.size w (grow (w.drewN k) os) :=
  ⟨rfl, rfl, rfl, by simp, fun j hj => by
    show (w.heap ++ os)[j]? = _
    rw [Array.getElem?_append_left hj]⟩
theorem below_bytes (w : World) (e : TypeId) (s : ByteArray) : Below w.heap.size w (bytesWorld w e s) :=
  ⟨rfl, rfl, rfl, by simp [bytesWorld, World.freeze, World.alloc, World.drew, -World.alloc_eq, -World.drew_eq], fun j hj => bytesWorld_at_old w e s j hj⟩
section
variable {P : Program} {ρ : Ren} {g1 g2 g3 : Nat}
theorem lib_tab {w : World} {K : Nat → Prop} (h : Ro w K (libA g1 g2 g3)) (hg : P.globalNamed "internal/strconv.uint64pow10" = some g1) : Lib.TabIs P w "internal/strconv.uint64pow10" .u64 Lib.pow10Tab := by
  obtain ⟨_, ⟨t1, f1, c2, t2, f2, e2, c3, t3, f3, e3, rfl, _⟩, hh⟩ := h
  have := (hh (g1, _) (List.mem_cons_self ..)).1
  simp only at this
  simp only [TabIs, World.var?, hg, Option.bind_some, this]
theorem lib_syn {w : World} {K : Nat → Prop} (h : Ro w K (libA g1 g2 g3)) : ∃ ev, w.cell? ⟨g2, 0, none⟩ = some ev ∧ (ev = .nilIface ∨ ∃ te pe, ev = .iface te pe) := by
  obtain ⟨_, ⟨t1, f1, c2, t2, f2, e2, c3, t3, f3, e3, rfl, h2, h2e, _⟩, hh⟩ := h
  have := (hh (g2, .cells c2 t2 f2) (by simp)).1
  simp only at this
  exact ⟨e2, by simp [World.cell?, this, h2], h2e⟩
theorem lib_rng {w : World} {K : Nat → Prop} (h : Ro w K (libA g1 g2 g3)) : ∃ ev, w.cell? ⟨g3, 0, none⟩ = some ev ∧ (ev = .nilIface ∨ ∃ te pe, ev = .iface te pe) := by
  obtain ⟨_, ⟨t1, f1, c2, t2, f2, e2, c3, t3, f3, e3, rfl, _, _, h3, h3e⟩, hh⟩ := h
  have := (hh (g3, .cells c3 t3 f3) (by simp)).1
  simp only at this
  exact ⟨e3, by simp [World.cell?, this, h3], h3e⟩

theorem itoa_ctr (L : LaysM.n171 P ρ) (hg : P.globalNamed "internal/strconv.uint64pow10" = some g1) (n : Int) (h0 : -9223372036854775808 ≤ n) (h1 : n ≤ 9223372036854775807) :
    Ctr P (ρ.f 171) #[.int .i64 n] [libA g1 g2 g3] [] (fun _ : Unit => True) (fun _ => .string (bs (Lib.itoa n))) (fun _ => []) := fun w K hR _ =>
  (Any.strconv_Itoa L n h0 h1 w (lib_tab (hR _ (List.mem_singleton.2 rfl)) hg)).mono fun e w' ⟨he, k, os, hw'⟩ => ⟨(), trivial, he, by subst hw'; exact below_hp (below_grow w k os)⟩
theorem formatInt_ctr (L : LaysM.n173 P ρ) (hg : P.globalNamed "internal/strconv.uint64pow10" = some g1) (n : Int) (h0 : -9223372036854775808 ≤ n) (h1 : n ≤ 9223372036854775807) :
    Ctr P (ρ.f 173) #[.int .i64 n, .int .i64 10] [libA g1 g2 g3] [] (fun _ : Unit => True) (fun _ => .string (bs (Lib.itoa n))) (fun _ => []) := fun w K hR _ =>
  (Any.strconv_FormatInt_10 L n h0 h1 w (lib_tab (hR _ (List.mem_singleton.2 rfl)) hg)).mono fun e w' ⟨he, k, os, hw'⟩ => ⟨(), trivial, he, by subst hw'; exact below_hp (below_grow w k os)⟩
theorem atoi_ctr (L : Lays.n172 P ρ) (s : Str) (n : Int) (hl : s.length ≤ 18) (h : Lib.atoi s = some n) :
    Ctr P (ρ.f 172) #[.string (bs s)] [] [] (fun _ : Unit => True) (fun _ => .tuple #[.int .i64 n, .nilIface]) (fun _ => []) := fun w K _ _ =>
  (Any.strconv_Atoi L (bs s) n (by simpa [ByteArray.size] using hl) (by simpa using h) w).mono fun e w' ⟨he, t, hw'⟩ => ⟨(), trivial, he, by subst hw'; exact below_hp (below_bytes w _ t)⟩
/-- ParseInt(s, 10, 64): a number. -/
theorem parseOk_ctr (L : LaysC.n174 P ρ) (s : Str) (v : Int) (hl : s.length ≤ 281474976710656) (hv : Lib.parseIntB 64 s = .ok v) :
    Ctr P (ρ.f 174) #[.string (bs s), .int .i64 10, .int .i64 64] [] [] (fun _ : Unit => True) (fun _ => .tuple #[.int .i64 v, .nilIface]) (fun _ => []) := fun w K _ _ => by
  have hs : (bs s).size ≤ 281474976710656 := by simpa [ByteArray.size] using hl
  refine (Any.strconv_ParseInt_10_at64_ok L (bs s) (by omega) v (by simpa using hv) w).mono ?_
  rintro e w' ⟨he, hw'⟩
  refine ⟨(), trivial, he, ?_⟩
  rcases hw' with rfl | ⟨t, rfl⟩
  · exact Hp.start
  · exact below_hp (below_bytes w _ t)
/-- .. or an error somewhere. -/
theorem parseBad_ctr (L : LaysC.n174 P ρ) (s : Str) (hl : s.length ≤ 281474976710656) (hg2 : ρ.g 15 = g2) (hg3 : ρ.g 16 = g3) (hv : ∀ v, Lib.parseIntB 64 s ≠ .ok v) :
    Ctr P (ρ.f 174) #[.string (bs s), .int .i64 10, .int .i64 64] [libA g1 g2 g3] [] (fun _ : Int × Nat => True) (fun x => .tuple #[.int .i64 x.1, .iface (ρ.t 168) (.pointer (some ⟨x.2, 0, none⟩))]) (fun _ => []) := fun w K hR _ => by
  subst hg2 hg3
  have hs : (bs s).size ≤ 281474976710656 := by simpa [ByteArray.size] using hl
  have hd : (bs s).data.toList = s := by simp
  have hA := hR _ (List.mem_singleton.2 rfl)
  rcases hp : Lib.parseIntB 64 s with v | _ | _
  · exact absurd hp (hv v)
  · obtain ⟨ev, h1, h2⟩ := lib_syn hA
    refine (Any.strconv_ParseInt_10_at64_syntax L (bs s) hs (by rw [hd]; exact hp) ev w h1 h2).mono ?_
    rintro e w' ⟨N, he, _, _, hb⟩
    exact ⟨(0, N), trivial, he, below_hp hb⟩
  · obtain ⟨ev, h1, h2⟩ := lib_rng hA
    refine (Any.strconv_ParseInt_10_at64_range L (bs s) hs (by rw [hd]; exact hp) ev w h1 h2).mono ?_
    rintro e w' ⟨N, he, _, _, hb⟩
    exact ⟨(Lib.intSat 64 s, N), trivial, by rw [he, hd], below_hp hb⟩
end
end Go.Eng
