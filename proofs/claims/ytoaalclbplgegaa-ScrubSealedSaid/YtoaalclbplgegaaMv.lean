/- A mirror of two that are there: what is written, flushed, spoilt, and new (own work). -/
import Derived.Test.YtoaalclbplgegaaSb
set_option linter.unusedVariables false
set_option linter.unusedSimpArgs false
namespace Go.Sl
section
variable {A : Da} {K : Nat} {X Y : List Sec} {k0 k1 n : Nat} {s : Sec} {ask : Da → Bool → Bool}
theorem Vw.side (h : Vw A K X Y k0 k1) (i : Bool) (hn : n < K) (hs : s.length = 128) (ha : ask A i = false → (pick2 i X Y)[n]? = some s) :
    pd A i ask n = true ∧ Vw (pA A i ask n s) K (if i then X else X.set n s) (if i then Y.set n s else Y) (if i then k0 else k0 + 1) (if i then k1 + 1 else k1) := by
  obtain ⟨w1, w2⟩ := h.write (n := n) (s := s) i hn hs
  unfold pd pA
  rw [h.thr i]
  cases hk : ask A i
  · have hX := ha hk
    refine ⟨by simp, ?_⟩
    simp only [Bool.and_false, Bool.false_eq_true, if_false]
    cases i
    · simp only [pick2, Bool.false_eq_true, if_false] at hX ⊢
      rw [set_self hX]
      exact h.mono (Nat.le_succ _) (Nat.le_refl _)
    · simp only [pick2, if_true] at hX ⊢
      rw [set_self hX]
      exact h.mono (Nat.le_refl _) (Nat.le_succ _)
  · refine ⟨by simp [w1], ?_⟩
    simp only [Bool.and_self, if_true]
    exact w2
/-- Is it asked for only where something else stands? -/
def AskOk (K : Nat) (n : Nat) (s : Sec) (ask : Da → Bool → Bool) : Prop := ∀ A X Y k0 k1, Vw A K X Y k0 k1 → ∀ i, ask A i = false → (pick2 i X Y)[n]? = some s
theorem askok_all (K n : Nat) (s : Sec) : AskOk K n s askAll := fun A X Y k0 k1 h i hi => by cases hi
theorem askok_new {K n : Nat} (hn : n < K) (s : Sec) : AskOk K n s (askNew n s) := fun A X Y k0 k1 h i hi => by
  have hl := (h.dev i).wlen
  obtain ⟨u, hu⟩ : ∃ u, (pick2 i X Y)[n]? = some u := ⟨_, gt_get hl hn⟩
  obtain ⟨r, e⟩ := h.reads i hu
  unfold askNew at hi
  rw [r, e] at hi
  have : u = s := by simpa using hi
  rw [← this]; exact hu
theorem Vw.put (h : Vw A K X Y k0 k1) {m : Mi} (hm : m.n = K) (z0 : m.k0 = []) (z1 : m.k1 = []) (hn : n < K) (hs : s.length = 128) (ha : AskOk K n s ask) :
    putE m A ask n s = 0 ∧ putm m A ask n s = m ∧ Vw (putDa m A ask n s) K (X.set n s) (Y.set n s) (k0 + 1) (k1 + 1) := by
  obtain ⟨d0, v0⟩ := h.side (n := n) (s := s) (ask := ask) false hn hs (ha _ _ _ _ _ h false)
  simp only [Bool.false_eq_true, if_false] at v0
  obtain ⟨d1, v1⟩ := v0.side (n := n) (s := s) (ask := ask) true hn hs (ha _ _ _ _ _ v0 true)
  simp only [if_true] at v1
  have hh : m.has (n : Int) = true := by simp [Mi.has]; omega
  refine ⟨?_, ?_, ?_⟩
  · unfold putE putD; rw [hh, d0]; rfl
  · unfold putm putD; rw [hh, d0, d1]
    obtain ⟨b, r0, r1, bx, bys, n', gv, l0, c0, l1, c1⟩ := m
    simp only at z0 z1
    subst z0 z1
    rfl
  · unfold putDa putA; rw [hh]; exact v1
theorem Vw.mfl (h : Vw A K X Y k0 k1) : (Sl.mfl A).2 = 0 ∧ Vw (Sl.mfl A).1 K X Y 0 0 := by
  obtain ⟨e0, v0⟩ := h.flush false
  simp only [Bool.false_eq_true, if_false] at v0
  obtain ⟨e1, v1⟩ := v0.flush true
  simp only [if_true] at v1
  unfold Sl.mfl fl1
  rw [h.thr false, h.thr true]
  simp only [if_true, e0, e1]
  exact ⟨trivial, v1⟩
/-- A byte of a sector is spoilt. -/
def rotB (s : Sec) (j : Nat) (c : UInt8) : Sec := s.set j (s.getD j 0 ^^^ c)
theorem rotB_len {s : Sec} {j : Nat} {c : UInt8} : (rotB s j c).length = s.length := by simp [rotB]
theorem RdW.rot {a : Ab} {W : List Sec} {j : Nat} {c : UInt8} (h : RdW K W a 0) (hn : W[n]? = some s) : RdW K (W.set n (rotB s j c)) (a.rot n j c) 0 := by
  obtain ⟨hq, hS⟩ := h.stable
  have hlt : n < K := by have := (List.getElem?_eq_some_iff.1 hn).1; have := h.wlen; omega
  have hg : a.S.getD n [] = s := by rw [hS]; simp [List.getD, hn]
  refine ⟨Ab.rot_ok h.ok (by rw [h.len]; exact hlt), by simp [Ab.rot, h.len], h.out, h.lies, by simp [Ab.rot, hq], by simpa using h.wlen, fun k u hk => ?_⟩
  have : (a.rot n j c).read k = (W.set n (rotB s j c)).getD k [] := by
    simp only [Ab.read, Ab.rot, hq, lastW, List.reverse_nil, List.find?_nil, Option.map_none, Option.getD_none, hg]
    rw [hS]; rfl
  rw [this]; simp [List.getD, hk]
theorem Vw.rot {i : Bool} {j : Nat} {c : UInt8} (h : Vw A K X Y 0 0) (hn : (pick2 i X Y)[n]? = some s) (hj : j < 128) :
    (A.dev i).rotE (n : Int) (j : Int) = true ∧ Vw (A.setd i ((A.dev i).rots (n : Int) (j : Int) c)) K (if i then X else X.set n (rotB s j c)) (if i then Y.set n (rotB s j c) else Y) 0 0 := by
  have hd := h.dev i
  have hlt : n < K := by have := (List.getElem?_eq_some_iff.1 hn).1; have := hd.wlen; omega
  have e : (A.dev i).rotE (n : Int) (j : Int) = true := by unfold Ab.rotE; rw [hd.has]; simp; omega
  refine ⟨e, ?_⟩
  unfold Ab.rots
  rw [e]
  simp only [if_true, Int.toNat_natCast]
  have hc := Da.calm_setd h.calm i ((A.dev i).rot n j c)
  cases i
  · exact ⟨hc, h.a.rot hn, h.b⟩
  · exact ⟨hc, h.a, h.b.rot hn⟩
end
section
variable {t : DT} {gv : Value} {D D' : Duo} {A A' : Da} {m : Mi} {K : Nat} {X Y X' Y' : List Sec} {k0 k1 j0 j1 mb bx bys bp : Nat} {p : Int → Sec → Bool} {n : Nat} {u v s : Sec}
theorem Ms.with (h : Ms t gv D A m K X Y k0 k1 mb bx bys bp) (hT : Two t D' A' bx bys bp) (hv : Vw A' K X' Y' j0 j1) (hx : ∀ s ∈ X', s.length = 128) (hy : ∀ s ∈ Y', s.length = 128) : Ms t gv D' A' m K X' Y' j0 j1 mb bx bys bp :=
  ⟨hT, hv, h.mb, h.bx, h.bys, h.n, h.s0, h.s1, h.gv, hx, hy⟩
theorem set_ok2 {X : List Sec} (h : ∀ s ∈ X, s.length = 128) (hs : s.length = 128) : ∀ u ∈ X.set n s, u.length = 128 := fun u hu => by
  rcases List.mem_or_eq_of_mem_set hu with h1 | rfl
  · exact h u h1
  · exact hs
/-- A mirror that has just been made of two. -/
theorem Ms.new (hT : Two t D A bx bys bp) (hv : Vw A K X Y k0 k1) (b r0 r1 : Nat) (hX : ∀ s ∈ X, s.length = 128) (hY : ∀ s ∈ Y, s.length = 128) : Ms t gv D A (mnew A bx bys gv b r0 r1) K X Y k0 k1 b bx bys bp := by
  have ht0 := hv.thr false
  have ht1 := hv.thr true
  have hl0 := hv.a.len
  have hl1 := hv.b.len
  refine ⟨hT, hv, rfl, rfl, rfl, ?_, ?_, ?_, rfl, hX, hY⟩
  · show min _ _ = _; rw [hl0, hl1]; omega
  · show stale0 _ _ = []; rw [ht0]; rfl
  · show stale0 _ _ = []; rw [ht1]; rfl
end
end Go.Sl
