/- Scrubbing what one device missed (own work). -/
import Derived.Test.YtoaalclbplgegaaSc
set_option linter.unusedVariables false
set_option linter.unusedSimpArgs false
namespace Go.Sl
section
variable {m : Mi} {A B : Da} {p : Int → Sec → Bool} {K : Nat} {X Y : List Sec} {k0 k1 : Nat}
theorem heal_none {j : Nat} {s : Sec} (hh : m.has (j : Int) = true) (t0 : thr A false = true) (t1 : thr A true = true) (g0 : kHas m.k0 (j : Int) = false) (g1 : kHas m.k1 (j : Int) = false) (r0 : A.rS false j = s) (r1 : A.rS true j = s) :
    healA m A p j = A ∧ healM m A p j = m ∧ healR m A p j = (if p j s then 0 else 2, 0) := by
  have e : healTo m A p j = none := by
    unfold healTo hg0 hg1
    rw [hh, t0, t1, g0, g1, r0, r1]
    cases p j s <;> simp
  refine ⟨by unfold healA; rw [e], by unfold healM; rw [e], ?_⟩
  unfold healR hg0 hg1
  rw [hh, t0, t1, g0, g1, r0, r1]
  cases p j s <;> simp
theorem heal_st {j : Nat} {s : Sec} (hh : m.has (j : Int) = true) (t0 : thr A false = true) (t1 : thr A true = true) (g0 : kHas m.k0 (j : Int) = true) (g1 : kHas m.k1 (j : Int) = false) (r1 : A.rS true j = s) :
    healTo m A p j = (if p j s then some false else none) ∧ healR m A p j = (if p j s then 1 else 2, 0) := by
  unfold healTo healR hg0 hg1
  rw [hh, t0, t1, g0, g1, r1]
  cases p j s <;> simp
theorem scr_next (k : Nat) : scr m A p (k + 1) = (healA (scr m A p k).2.1 (scr m A p k).1 p k, healM (scr m A p k).2.1 (scr m A p k).1 p k, cnt (scr m A p k).2.2 (healR (scr m A p k).2.1 (scr m A p k).1 p k)) := rfl
theorem has_of {k : Nat} (hm : m.n = K) (h : k < K) : m.has (k : Int) = true := by simp [Mi.has]; omega
theorem scr_still (h : Vw A K X X k0 k1) (hm : m.n = K) (z0 : m.k0 = []) (z1 : m.k1 = []) : ∀ k, k ≤ K → ∃ a c, scr m A p k = (A, m, (a, 0, c))
  | 0, _ => ⟨0, 0, rfl⟩
  | k + 1, hk => by
    obtain ⟨a, c, e⟩ := scr_still h hm z0 z1 k (by omega)
    have g := gt_get h.a.wlen (show k < K by omega)
    obtain ⟨e1, e2, e3⟩ := heal_none (p := p) (has_of hm (show k < K by omega)) (h.thr false) (h.thr true) (by rw [z0]; rfl) (by rw [z1]; rfl) (h.reads false (s := gt X k) g).1 (h.reads true (s := gt X k) g).1
    rw [scr_next, e]
    dsimp only
    rw [e1, e2, e3]
    cases p k (gt X k)
    · exact ⟨a, c + 1, rfl⟩
    · exact ⟨a + 1, c, rfl⟩
theorem kHas_one {t : Nat} {c : Nat} {j : Nat} : kHas [((t : Int), c)] (j : Int) = decide (j = t) := by
  unfold kHas
  simp only [List.any_cons, List.any_nil, Bool.or_false]
  by_cases h : j = t
  · subst h; simp
  · have : ¬ ((t : Int) = (j : Int)) := by omega
    simp [h, this]
theorem kDel_one {t : Nat} {c : Nat} : kDel [((t : Int), c)] (t : Int) = [] := by simp [kDel]
theorem scr_heals {t : Nat} {s : Sec} {c : Nat} (h : Vw B K X (X.set t s) k0 k1) (ht : t < K) (hs : s.length = 128) (hm : m.n = K) (z0 : m.k0 = [((t : Int), c)]) (z1 : m.k1 = []) (hg : p t s = true) :
    ∀ k, k ≤ K → (k ≤ t → ∃ a b, scr m B p k = (B, m, (a, 0, b))) ∧ (t < k → ∃ a b, scr m B p k = (B.write false t s, { m with k0 := [] }, (a, 1, b)))
  | 0, _ => ⟨fun _ => ⟨0, 0, rfl⟩, fun h => by omega⟩
  | k + 1, hk => by
    obtain ⟨i1, i2⟩ := scr_heals h ht hs hm z0 z1 hg k (by omega)
    have wl := h.a.wlen
    rcases Nat.lt_trichotomy k t with hlt | rfl | hgt
    · refine ⟨fun _ => ?_, fun h => by omega⟩
      obtain ⟨a, b, e⟩ := i1 (by omega)
      have g := gt_get wl (show k < K by omega)
      have g2 : (X.set t s)[k]? = some (gt X k) := by rw [List.getElem?_set_ne (by omega)]; exact g
      obtain ⟨e1, e2, e3⟩ := heal_none (p := p) (has_of hm (show k < K by omega)) (h.thr false) (h.thr true) (by rw [z0, kHas_one, decide_eq_false (by omega)]) (by rw [z1]; rfl) (h.reads false (s := gt X k) g).1 (h.reads true (s := gt X k) g2).1
      rw [scr_next, e]
      dsimp only
      rw [e1, e2, e3]
      cases p k (gt X k)
      · exact ⟨a, b + 1, rfl⟩
      · exact ⟨a + 1, b, rfl⟩
    · refine ⟨fun h => by omega, fun _ => ?_⟩
      obtain ⟨a, b, e⟩ := i1 (Nat.le_refl _)
      have g2 : (X.set k s)[k]? = some s := by rw [List.getElem?_set_self (by omega)]
      have r1 := (h.reads true (s := s) g2).1
      obtain ⟨e1, e2⟩ := heal_st (p := p) (has_of hm ht) (h.thr false) (h.thr true) (by rw [z0, kHas_one, decide_eq_true rfl]) (by rw [z1]; rfl) r1
      rw [hg] at e1 e2
      have w := (h.write (n := k) (s := s) false ht hs).1
      rw [scr_next, e]
      dsimp only
      unfold healA healM
      rw [e1, e2]
      simp only [if_true, Bool.not_false, r1, w, Bool.false_eq_true, if_false]
      refine ⟨a, b, ?_⟩
      rw [z0, kDel_one]
      rfl
    · refine ⟨fun h => by omega, fun _ => ?_⟩
      obtain ⟨a, b, e⟩ := i2 (by omega)
      have v := (h.write (n := t) (s := s) false ht hs).2
      simp only [Bool.false_eq_true, if_false] at v
      have g := gt_get v.a.wlen (show k < K by omega)
      obtain ⟨e1, e2, e3⟩ := heal_none (m := { m with k0 := [] }) (p := p) (has_of (m := { m with k0 := [] }) hm (show k < K by omega)) (v.thr false) (v.thr true) rfl (by show kHas m.k1 _ = _; rw [z1]; rfl) (v.reads false (s := gt (X.set t s) k) g).1 (v.reads true (s := gt (X.set t s) k) g).1
      rw [scr_next, e]
      dsimp only
      rw [e1, e2, e3]
      cases p k (gt (X.set t s) k)
      · exact ⟨a, b + 1, rfl⟩
      · exact ⟨a + 1, b, rfl⟩
theorem scr_loses {t : Nat} {s : Sec} {c : Nat} (h : Vw B K X (X.set t s) k0 k1) (ht : t < K) (hm : m.n = K) (z0 : m.k0 = [((t : Int), c)]) (z1 : m.k1 = []) (hg : p t s = false) :
    ∀ k, k ≤ K → ∃ (a : Int) (b : Nat), scr m B p k = (B, m, (a, 0, (b : Int))) ∧ (t < k → 1 ≤ b)
  | 0, _ => ⟨0, 0, rfl, fun h => by omega⟩
  | k + 1, hk => by
    obtain ⟨a, b, e, i2⟩ := scr_loses h ht hm z0 z1 hg k (by omega)
    have wl := h.a.wlen
    by_cases hkt : k = t
    · subst hkt
      have g2 : (X.set k s)[k]? = some s := by rw [List.getElem?_set_self (by omega)]
      have r1 := (h.reads true (s := s) g2).1
      obtain ⟨e1, e2⟩ := heal_st (p := p) (has_of hm ht) (h.thr false) (h.thr true) (by rw [z0, kHas_one, decide_eq_true rfl]) (by rw [z1]; rfl) r1
      rw [hg] at e1 e2
      rw [scr_next, e]
      dsimp only
      unfold healA healM
      rw [e1, e2]
      exact ⟨a, b + 1, rfl, fun _ => by omega⟩
    · have g := gt_get wl (show k < K by omega)
      have g2 : (X.set t s)[k]? = some (gt X k) := by rw [List.getElem?_set_ne (by omega)]; exact g
      obtain ⟨e1, e2, e3⟩ := heal_none (p := p) (has_of hm (show k < K by omega)) (h.thr false) (h.thr true) (by rw [z0, kHas_one, decide_eq_false (by omega)]) (by rw [z1]; rfl) (h.reads false (s := gt X k) g).1 (h.reads true (s := gt X k) g2).1
      rw [scr_next, e]
      dsimp only
      rw [e1, e2, e3]
      cases p k (gt X k)
      · exact ⟨a, b + 1, rfl, fun _ => by omega⟩
      · exact ⟨a + 1, b, rfl, fun h => i2 (by omega)⟩
/-- A write while the first device is out, and in again. -/
theorem put_out {t : Nat} {s : Sec} (h : Vw A K X Y 0 k1) (ht : t < K) (hm : m.n = K) (z0 : m.k0 = []) (z1 : m.k1 = []) :
    putE m (A.setd false ((A.dev false).outs true)) askAll t s = 0 ∧
    (putDa m (A.setd false ((A.dev false).outs true)) askAll t s).setd false (((putDa m (A.setd false ((A.dev false).outs true)) askAll t s).dev false).outs false) = A.write true t s ∧
    (putm m (A.setd false ((A.dev false).outs true)) askAll t s).k0 = [((t : Int), m.c0)] ∧ (putm m (A.setd false ((A.dev false).outs true)) askAll t s).k1 = [] ∧
    (putm m (A.setd false ((A.dev false).outs true)) askAll t s).b = m.b ∧ (putm m (A.setd false ((A.dev false).outs true)) askAll t s).bx = m.bx ∧ (putm m (A.setd false ((A.dev false).outs true)) askAll t s).bys = m.bys ∧
    (putm m (A.setd false ((A.dev false).outs true)) askAll t s).n = m.n ∧ (putm m (A.setd false ((A.dev false).outs true)) askAll t s).gv = m.gv := by
  have c2 : (A.setd false ((A.dev false).outs true)).calm := Da.calm_setd h.calm false _
  have to : thr (A.setd false ((A.dev false).outs true)) false = false := by simp [thr, Da.setd, Da.dev, Ab.outs, Ab.down]
  have ti : thr (A.setd false ((A.dev false).outs true)) true = true := h.thr true
  have hh := has_of hm ht
  obtain ⟨w1, w2⟩ := Da.write_calm h.calm true (t : Int) s
  obtain ⟨v1, v2⟩ := Da.write_calm c2 true (t : Int) s
  have hd := h.dev true
  have hx : (A.dev true).has (t : Int) = true := by rw [hd.has]; simp; omega
  have ho : (A.dev true).out = false := hd.out
  rw [ho, hx] at w1 w2
  rw [show (A.setd false ((A.dev false).outs true)).dev true = A.dev true from rfl, ho, hx] at v1 v2
  simp only [Bool.not_false, Bool.and_self, if_true, Bool.false_eq_true, if_false] at w1 w2 v1 v2
  have pa : pA (A.setd false ((A.dev false).outs true)) false askAll t s = A.setd false ((A.dev false).outs true) := by unfold pA; rw [to]; rfl
  have d0 : putD (A.setd false ((A.dev false).outs true)) askAll t s false = false := by unfold putD pd; rw [to]; rfl
  have d1 : putD (A.setd false ((A.dev false).outs true)) askAll t s true = true := by unfold putD pd; rw [pa, ti, v2]; rfl
  have pt : putA (A.setd false ((A.dev false).outs true)) askAll t s = (A.setd false ((A.dev false).outs true)).setd true ((A.dev true).push t s) := by
    unfold putA; rw [pa]; unfold pA; rw [ti, v1]; rfl
  have hq : (A.dev false).Q = [] := List.eq_nil_of_length_eq_zero (by have := (h.dev false).many; simp only [pick2] at this; simp at this; simp [this])
  have hf := (h.dev false).out
  refine ⟨?_, ?_, ?_, ?_, ?_⟩
  · unfold putE; rw [hh, d0, d1]; rfl
  · unfold putDa; rw [hh, if_pos rfl, pt, w1]
    obtain ⟨a, b, q, r⟩ := A
    obtain ⟨S, Q, k, by_, l, o⟩ := a
    simp only [Da.dev] at hq hf
    subst hq hf
    rfl
  · unfold putm; rw [hh, d0, d1]; simp [Mi.mark, z0, kPut, kHas]
  · unfold putm; rw [hh, d0, d1]; simp [Mi.mark, z1, kDel]
  · unfold putm; rw [hh, d0, d1]; exact ⟨rfl, rfl, rfl, rfl, rfl⟩
end
/-- The sector of that law. -/
def sec3 (u v w : UInt8) : Sec := u :: v :: w :: List.replicate 125 0
theorem sec3_len (u v w : UInt8) : (sec3 u v w).length = 128 := by simp [sec3]
theorem sec3_fill (u v w : UInt8) : bs (sec3 u v w) = Value.int .u8 (u.toNat : Int) :: Value.int .u8 (v.toNat : Int) :: Value.int .u8 (w.toNat : Int) :: List.replicate 125 (Value.int .u8 0) := by simp [sec3, bs, u8]
theorem pb_zero (k : Nat) : zcells [Value.int .u8 0, .int .u8 0] k = bs (pb (List.replicate k (0, 0))) := by
  induction k with
  | zero => rfl
  | succ k ih =>
    have : zcells [Value.int .u8 0, .int .u8 0] (k + 1) = [Value.int .u8 0, .int .u8 0] ++ zcells [Value.int .u8 0, .int .u8 0] k := by simp [zcells, List.replicate_succ]
    rw [this, ih]
    rfl
theorem prX_zero {k : Nat} : prX (List.replicate k (0, 0)) k = prX (List.replicate k (0, 0)) k := rfl
end Go.Sl
namespace Go.Sl
theorem gset {X : List Sec} {K t : Nat} {s : Sec} (h : X.length = K) (ht : t < K) : (X.set t s)[t]? = some s := by rw [List.getElem?_set_self (by omega)]
end Go.Sl
