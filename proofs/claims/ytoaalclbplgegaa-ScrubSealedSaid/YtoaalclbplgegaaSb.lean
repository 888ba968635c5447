/- Scrubbing a mirror: the plain model (own work). -/
import Derived.Test.YtoaalclbplgegaaMi
import Derived.Test.YtoaalclbplgegaaDw
set_option linter.unusedVariables false
set_option linter.unusedSimpArgs false
namespace Go.Sl
/-- The little rule of the laws. -/
def goodP (n : Int) (s : Sec) : Bool := !decide ((IntKind.i64.wrap (((s.getD 0 0).toNat : Int) + ((s.getD 1 0).toNat : Int) + n)).tmod 4 = 3)
abbrev Rp := Int × Int × Int
def cnt (r : Rp) (h : Int × Int) : Rp := if h.2 = 0 then (if h.1 = 0 then (r.1 + 1, r.2.1, r.2.2) else if h.1 = 1 then (r.1, r.2.1 + 1, r.2.2) else if h.1 = 2 then (r.1, r.2.1, r.2.2 + 1) else r) else r
abbrev wcells (mb : Nat) (nx : Int) (r : Rp) : List Value := [ptr mb, .int .i64 nx, .int .i64 r.1, .int .i64 r.2.1, .int .i64 r.2.2]
/-- What is there behind so many steps. -/
def scr (m : Mi) (A : Da) (p : Int → Sec → Bool) : Nat → Da × Mi × Rp
  | 0 => (A, m, (0, 0, 0))
  | k + 1 => let q := scr m A p k
    (healA q.2.1 q.1 p k, healM q.2.1 q.1 p k, cnt q.2.2 (healR q.2.1 q.1 p k))
theorem healM_same (m : Mi) (A : Da) (p : Int → Sec → Bool) (n : Int) : (healM m A p n).b = m.b ∧ (healM m A p n).bx = m.bx ∧ (healM m A p n).bys = m.bys ∧ (healM m A p n).n = m.n ∧ (healM m A p n).gv = m.gv := by
  unfold healM
  split
  · exact ⟨rfl, rfl, rfl, rfl, rfl⟩
  · split
    · split <;> exact ⟨rfl, rfl, rfl, rfl, rfl⟩
    · exact ⟨rfl, rfl, rfl, rfl, rfl⟩
theorem healA_many (m : Mi) (A : Da) (p : Int → Sec → Bool) (n : Int) (i : Bool) : ((healA m A p n).dev i).Q.length ≤ (A.dev i).Q.length + 1 := by
  unfold healA
  split
  · omega
  · exact Da.write_many _ _ _ _ _
theorem scr_same (m : Mi) (A : Da) (p : Int → Sec → Bool) : ∀ k, (scr m A p k).2.1.b = m.b ∧ (scr m A p k).2.1.bx = m.bx ∧ (scr m A p k).2.1.bys = m.bys ∧ (scr m A p k).2.1.n = m.n ∧ (scr m A p k).2.1.gv = m.gv
  | 0 => ⟨rfl, rfl, rfl, rfl, rfl⟩
  | k + 1 => by
    obtain ⟨h1, h2, h3, h4, h5⟩ := scr_same m A p k
    obtain ⟨g1, g2, g3, g4, g5⟩ := healM_same (scr m A p k).2.1 (scr m A p k).1 p k
    exact ⟨g1.trans h1, g2.trans h2, g3.trans h3, g4.trans h4, g5.trans h5⟩
theorem scr_many (m : Mi) (A : Da) (p : Int → Sec → Bool) (i : Bool) : ∀ k, ((scr m A p k).1.dev i).Q.length ≤ (A.dev i).Q.length + k
  | 0 => Nat.le_refl _
  | k + 1 => by
    have h := scr_many m A p i k
    have g := healA_many (scr m A p k).2.1 (scr m A p k).1 p k i
    show ((healA (scr m A p k).2.1 (scr m A p k).1 p k).dev i).Q.length ≤ _
    omega
theorem cnt_le (r : Rp) (h : Int × Int) : (cnt r h).1 ≤ r.1 + 1 ∧ (cnt r h).2.1 ≤ r.2.1 + 1 ∧ (cnt r h).2.2 ≤ r.2.2 + 1 ∧ r.1 ≤ (cnt r h).1 ∧ r.2.1 ≤ (cnt r h).2.1 ∧ r.2.2 ≤ (cnt r h).2.2 := by
  unfold cnt
  split
  · split
    · dsimp only; omega
    · split
      · dsimp only; omega
      · split <;> (try dsimp only) <;> omega
  · omega
theorem scr_cnt (m : Mi) (A : Da) (p : Int → Sec → Bool) : ∀ k : Nat, 0 ≤ (scr m A p k).2.2.1 ∧ (scr m A p k).2.2.1 ≤ k ∧ 0 ≤ (scr m A p k).2.2.2.1 ∧ (scr m A p k).2.2.2.1 ≤ k ∧ 0 ≤ (scr m A p k).2.2.2.2 ∧ (scr m A p k).2.2.2.2 ≤ k
  | 0 => ⟨Int.le_refl 0, Int.le_refl 0, Int.le_refl 0, Int.le_refl 0, Int.le_refl 0, Int.le_refl 0⟩
  | k + 1 => by
    have h := scr_cnt m A p k
    have g := cnt_le (scr m A p k).2.2 (healR (scr m A p k).2.1 (scr m A p k).1 p k)
    show 0 ≤ (cnt _ _).1 ∧ (cnt _ _).1 ≤ _ ∧ 0 ≤ (cnt _ _).2.1 ∧ (cnt _ _).2.1 ≤ _ ∧ 0 ≤ (cnt _ _).2.2 ∧ (cnt _ _).2.2 ≤ _
    omega
theorem healR_is (m : Mi) (A : Da) (p : Int → Sec → Bool) (n : Int) (hn : m.has n = true) : healR m A p n = (0, 0) ∨ healR m A p n = (1, 0) ∨ healR m A p n = (2, 0) ∨ healR m A p n = (0, 13) := by
  unfold healR
  rw [hn]
  simp only [if_true]
  split
  · split
    · split
      · exact .inl rfl
      · exact .inr (.inl rfl)
    · split
      · exact .inr (.inl rfl)
      · exact .inr (.inr (.inl rfl))
  · exact .inr (.inr (.inr rfl))
/-! ### Two devices that are there, and don't lie, while power doesn't fail: what is read of each -/
structure Vw (A : Da) (K : Nat) (X Y : List Sec) (k0 k1 : Nat) : Prop where
  calm : A.calm
  a : RdW K X A.a k0
  b : RdW K Y A.b k1
abbrev pick2 {α : Type} (i : Bool) (x y : α) : α := if i then y else x
theorem Vw.dev {A : Da} {K : Nat} {X Y : List Sec} {k0 k1 : Nat} (h : Vw A K X Y k0 k1) (i : Bool) : RdW K (pick2 i X Y) (A.dev i) (pick2 i k0 k1) := by
  cases i
  · exact h.a
  · exact h.b
theorem Vw.new {K : Nat} (h : K ≤ 4096) (q : Option Pa) (hq : q = none ∨ q = some q0) : Vw ⟨Ab.new K, Ab.new K, q0, q⟩ K (List.replicate K (secOf 0)) (List.replicate K (secOf 0)) 0 0 :=
  ⟨⟨rfl, rfl, fun x hx => by rcases hq with rfl | rfl <;> simp at hx; subst hx; exact ⟨rfl, rfl⟩⟩, RdW.new h, RdW.new h⟩
theorem Vw.thr {A : Da} {K : Nat} {X Y : List Sec} {k0 k1 : Nat} (h : Vw A K X Y k0 k1) (i : Bool) : thr A i = true := by
  unfold Sl.thr Ab.down
  rw [(h.dev i).out, (Da.calm_pow h.calm i).1]
  rfl
theorem Vw.reads {A : Da} {K : Nat} {X Y : List Sec} {k0 k1 n : Nat} {s : Sec} (h : Vw A K X Y k0 k1) (i : Bool) (hs : (pick2 i X Y)[n]? = some s) : A.rS i (n : Int) = s ∧ A.rE i (n : Int) = 0 := by
  have hd := h.dev i
  have hk : n < K := by rw [← hd.wlen]; exact (List.getElem?_eq_some_iff.1 hs).1
  obtain ⟨h1, h2⟩ := Da.read_calm h.calm i (n : Int)
  have hh : (A.dev i).has (n : Int) = true := by rw [hd.has]; simp; omega
  rw [h1, h2, hd.out, hh]
  exact ⟨by simpa using hd.read n s hs, rfl⟩
theorem Da.write_calm2 {A : Da} (h : A.calm) (i : Bool) (n : Int) (s : Sec) : (A.write i n s).calm := by
  rw [(Da.write_calm h i n s).1]
  split
  · exact Da.calm_setd h i _
  · exact h
theorem Vw.write {A : Da} {K : Nat} {X Y : List Sec} {k0 k1 n : Nat} {s : Sec} (h : Vw A K X Y k0 k1) (i : Bool) (hn : n < K) (hs : s.length = 128) :
    A.wE i (n : Int) = 0 ∧ Vw (A.write i (n : Int) s) K (if i then X else X.set n s) (if i then Y.set n s else Y) (if i then k0 else k0 + 1) (if i then k1 + 1 else k1) := by
  have hd := h.dev i
  obtain ⟨h1, h2⟩ := Da.write_calm h.calm i (n : Int) s
  have hh : (A.dev i).has (n : Int) = true := by rw [hd.has]; simp; omega
  rw [hd.out, hh] at h1 h2
  refine ⟨by simpa using h2, ?_⟩
  have hw : A.write i (n : Int) s = A.setd i ((A.dev i).push n s) := by simpa using h1
  have hc := Da.write_calm2 h.calm i (n : Int) s
  rw [hw] at hc ⊢
  cases i
  · exact ⟨hc, h.a.write hn hs, h.b⟩
  · exact ⟨hc, h.a, h.b.write hn hs⟩
theorem Vw.flush {A : Da} {K : Nat} {X Y : List Sec} {k0 k1 : Nat} (h : Vw A K X Y k0 k1) (i : Bool) : A.fE i = 0 ∧ Vw (A.flush i) K X Y (if i then k0 else 0) (if i then 0 else k1) := by
  have hd := h.dev i
  obtain ⟨h1, h2⟩ := Da.flush_calm h.calm i
  rw [hd.out] at h1 h2
  refine ⟨by simpa using h2, ?_⟩
  have hw : A.flush i = A.setd i (A.dev i).flush := by simpa using h1
  have hc := Da.calm_setd h.calm i (A.dev i).flush
  rw [hw]
  cases i
  · exact ⟨hc, h.a.flush, h.b⟩
  · exact ⟨hc, h.a, h.b.flush⟩
theorem Vw.mono {A : Da} {K : Nat} {X Y : List Sec} {k0 k1 j0 j1 : Nat} (h : Vw A K X Y k0 k1) (h0 : k0 ≤ j0) (h1 : k1 ≤ j1) : Vw A K X Y j0 j1 := ⟨h.calm, h.a.mono h0, h.b.mono h1⟩
/-! ### What a scrub makes of them -/
def hX (p : Int → Sec → Bool) (n : Nat) (a b : Sec) : Sec := if p n a then a else if p n b then b else a
def hY (p : Int → Sec → Bool) (n : Nat) (a b : Sec) : Sec := if p n a then a else b
def hC (p : Int → Sec → Bool) (n : Nat) (a b : Sec) : Int := if p n a then (if p n b && decide (a = b) then 0 else 1) else if p n b then 1 else 2
def gt (X : List Sec) (j : Nat) : Sec := X.getD j []
def XK (p : Int → Sec → Bool) (X Y : List Sec) (K k : Nat) : List Sec := (List.range K).map fun j => if j < k then hX p j (gt X j) (gt Y j) else gt X j
def YK (p : Int → Sec → Bool) (X Y : List Sec) (K k : Nat) : List Sec := (List.range K).map fun j => if j < k then hY p j (gt X j) (gt Y j) else gt Y j
def rK (p : Int → Sec → Bool) (X Y : List Sec) : Nat → Rp
  | 0 => (0, 0, 0)
  | k + 1 => cnt (rK p X Y k) (hC p k (gt X k) (gt Y k), 0)
theorem XK_get {p : Int → Sec → Bool} {X Y : List Sec} {K k j : Nat} (h : j < K) : (XK p X Y K k)[j]? = some (if j < k then hX p j (gt X j) (gt Y j) else gt X j) := by simp [XK, h]
theorem YK_get {p : Int → Sec → Bool} {X Y : List Sec} {K k j : Nat} (h : j < K) : (YK p X Y K k)[j]? = some (if j < k then hY p j (gt X j) (gt Y j) else gt Y j) := by simp [YK, h]
theorem XK_0 {p : Int → Sec → Bool} {X Y : List Sec} {K : Nat} (h : X.length = K) : XK p X Y K 0 = X := by
  apply List.ext_getElem?
  intro j
  by_cases hj : j < K
  · rw [XK_get hj]; simp [gt, List.getD, show j < X.length by omega]
  · rw [List.getElem?_eq_none (by simp [XK]; omega), List.getElem?_eq_none (by omega)]
theorem YK_0 {p : Int → Sec → Bool} {X Y : List Sec} {K : Nat} (h : Y.length = K) : YK p X Y K 0 = Y := by
  apply List.ext_getElem?
  intro j
  by_cases hj : j < K
  · rw [YK_get hj]; simp [gt, List.getD, show j < Y.length by omega]
  · rw [List.getElem?_eq_none (by simp [YK]; omega), List.getElem?_eq_none (by omega)]
theorem map_range_set {α : Type} (f f' : Nat → α) (n i : Nat) (h : ∀ j, j ≠ i → f j = f' j) : ((List.range n).map f).set i (f' i) = (List.range n).map f' := by
  apply List.ext_getElem?
  intro j
  rw [List.getElem?_set]
  by_cases hj : i = j
  · subst hj
    by_cases hi : i < n <;> simp [hi]
  · simp only [hj, if_false, List.getElem?_map]
    by_cases hi : j < n
    · simp [hi, h j (Ne.symm hj)]
    · simp [List.getElem?_eq_none (show (List.range n).length ≤ j by simp; omega)]
theorem XK_set (p : Int → Sec → Bool) (X Y : List Sec) (K k : Nat) : (XK p X Y K k).set k (hX p k (gt X k) (gt Y k)) = XK p X Y K (k + 1) := by
  have := map_range_set (fun j => if j < k then hX p j (gt X j) (gt Y j) else gt X j) (fun j => if j < k + 1 then hX p j (gt X j) (gt Y j) else gt X j) K k (fun j hj => by
    by_cases h1 : j < k
    · simp [h1, show j < k + 1 by omega]
    · simp [h1, show ¬ j < k + 1 by omega])
  simp only [Nat.lt_succ_self, if_true] at this
  exact this
theorem YK_set (p : Int → Sec → Bool) (X Y : List Sec) (K k : Nat) : (YK p X Y K k).set k (hY p k (gt X k) (gt Y k)) = YK p X Y K (k + 1) := by
  have := map_range_set (fun j => if j < k then hY p j (gt X j) (gt Y j) else gt Y j) (fun j => if j < k + 1 then hY p j (gt X j) (gt Y j) else gt Y j) K k (fun j hj => by
    by_cases h1 : j < k
    · simp [h1, show j < k + 1 by omega]
    · simp [h1, show ¬ j < k + 1 by omega])
  simp only [Nat.lt_succ_self, if_true] at this
  exact this
theorem set_self {α : Type} {l : List α} {k : Nat} {x : α} (h : l[k]? = some x) : l.set k x = l := by
  obtain ⟨hk, rfl⟩ := List.getElem?_eq_some_iff.1 h
  simp
/-- A step of a scrub of two that are there, nothing stale. -/
theorem Vw.heal {A : Da} {K : Nat} {X Y : List Sec} {k0 k1 n : Nat} {m : Mi} {p : Int → Sec → Bool} {a b : Sec} (h : Vw A K X Y k0 k1) (hm : m.n = K) (hk0 : m.k0 = []) (hk1 : m.k1 = []) (ha : X[n]? = some a) (hb : Y[n]? = some b) (hla : a.length = 128) (hlb : b.length = 128) :
    healR m A p n = (hC p n a b, 0) ∧ (healM m A p n).k0 = [] ∧ (healM m A p n).k1 = [] ∧ Vw (healA m A p n) K (X.set n (hX p n a b)) (Y.set n (hY p n a b)) (k0 + 1) (k1 + 1) := by
  have hn : n < K := by rw [← h.a.wlen]; exact (List.getElem?_eq_some_iff.1 ha).1
  obtain ⟨ra, ea⟩ := h.reads false ha
  obtain ⟨rb, eb⟩ := h.reads true hb
  have hh : m.has (n : Int) = true := by simp [Mi.has, hm, hn]
  have t0 := h.thr false
  have t1 := h.thr true
  have g0 : hg0 m A p n = p n a := by simp [Sl.hg0, hk0, kHas, ra]
  have g1 : hg1 m A p n = p n b := by simp [Sl.hg1, hk1, kHas, rb]
  have w0 := h.write (n := n) (s := b) false hn hlb
  have w1 := h.write (n := n) (s := a) true hn hla
  have sa := set_self ha
  have sb := set_self hb
  unfold healR healM healA healTo
  rw [hh, t0, t1, g0, g1, ra, rb]
  cases hp : p n a
  · cases hq : p n b
    · refine ⟨by simp [hC, hp, hq], by simp [hk0], by simp [hk1], ?_⟩
      simp only [Bool.false_eq_true, if_false, Bool.and_self, if_true, hX, hY, hp, hq, sa, sb]
      exact h.mono (Nat.le_succ _) (Nat.le_succ _)
    · refine ⟨by simp [hC, hp, hq], ?_, ?_, ?_⟩
      · simp [w0.1, hk0, kDel]
      · simp [w0.1, hk1]
      · simp only [Bool.false_eq_true, if_false, Bool.and_self, if_true, hX, hY, hp, hq, sb, Bool.not_false, rb]
        exact w0.2.mono (Nat.le_refl _) (Nat.le_succ _)
  · by_cases hq : (p n b && decide (a = b)) = true
    · have hab : a = b := by simp at hq; exact hq.2
      refine ⟨by simp [hC, hp, hq], by simp [hq, hk0], by simp [hq, hk1], ?_⟩
      simp only [hq, if_true, Bool.and_self, hX, hY, hp, sa]
      rw [hab, sb]
      exact h.mono (Nat.le_succ _) (Nat.le_succ _)
    · refine ⟨by simp [hC, hp, hq], ?_, ?_, ?_⟩
      · simp [hq, w1.1, hk0]
      · simp [hq, w1.1, hk1, kDel]
      · simp only [hq, Bool.false_eq_true, if_false, if_true, Bool.and_self, hX, hY, hp, sa, Bool.not_true, ra]
        exact (show Vw _ K X (Y.set n a) k0 (k1 + 1) from w1.2).mono (Nat.le_succ _) (Nat.le_refl _)
theorem gt_get {X : List Sec} {j K : Nat} (h : X.length = K) (hj : j < K) : X[j]? = some (gt X j) := by simp [gt, List.getD, show j < X.length by omega]
theorem scr_view {A : Da} {K : Nat} {X Y : List Sec} {k0 k1 : Nat} {m : Mi} {p : Int → Sec → Bool} (h : Vw A K X Y k0 k1) (hm : m.n = K) (hk0 : m.k0 = []) (hk1 : m.k1 = []) (hX : ∀ s ∈ X, s.length = 128) (hY : ∀ s ∈ Y, s.length = 128) :
    ∀ k, k ≤ K → Vw (scr m A p k).1 K (XK p X Y K k) (YK p X Y K k) (k0 + k) (k1 + k) ∧ (scr m A p k).2.1.k0 = [] ∧ (scr m A p k).2.1.k1 = [] ∧ (scr m A p k).2.2 = rK p X Y k
  | 0, _ => ⟨by rw [XK_0 h.a.wlen, YK_0 h.b.wlen]; exact h, hk0, hk1, rfl⟩
  | k + 1, hk => by
    obtain ⟨v, e0, e1, e2⟩ := scr_view h hm hk0 hk1 hX hY k (by omega)
    have ga := gt_get h.a.wlen (show k < K by omega)
    have gb := gt_get h.b.wlen (show k < K by omega)
    have xa : (XK p X Y K k)[k]? = some (gt X k) := by rw [XK_get (by omega)]; simp
    have xb : (YK p X Y K k)[k]? = some (gt Y k) := by rw [YK_get (by omega)]; simp
    obtain ⟨s1, s2, s3, s4, s5⟩ := scr_same m A p k
    obtain ⟨r1, r2, r3, r4⟩ := v.heal (p := p) (s4.trans hm) e0 e1 xa xb (hX _ (List.mem_of_getElem? ga)) (hY _ (List.mem_of_getElem? gb))
    refine ⟨?_, r2, r3, ?_⟩
    · rw [XK_set, YK_set] at r4; exact r4
    · show cnt (scr m A p k).2.2 (healR (scr m A p k).2.1 (scr m A p k).1 p k) = _
      rw [r1, e2]; rfl
/-! ### What the laws write -/
def sec2 (x : UInt8 × UInt8) : Sec := x.1 :: x.2 :: List.replicate 126 0
theorem sec2_len (x : UInt8 × UInt8) : (sec2 x).length = 128 := by simp [sec2]
/-- Pairs of bytes, as they lie. -/
def pb (l : List (UInt8 × UInt8)) : List UInt8 := l.flatMap fun x => [x.1, x.2]
theorem pb_len (l : List (UInt8 × UInt8)) : (pb l).length = 2 * l.length := by
  induction l with
  | nil => rfl
  | cons x l ih => simp only [pb, List.flatMap_cons, List.length_append, List.length_cons, List.length_nil] at ih ⊢; omega
theorem pb_get : ∀ {l : List (UInt8 × UInt8)} {i : Nat} {x : UInt8 × UInt8}, l[i]? = some x → (pb l)[i * 2]? = some x.1 ∧ (pb l)[i * 2 + 1]? = some x.2
  | [], i, x, h => by simp at h
  | y :: l, 0, x, h => by simp at h; subst h; exact ⟨rfl, rfl⟩
  | y :: l, i + 1, x, h => by
    simp only [List.getElem?_cons_succ] at h
    have := pb_get h
    simp only [pb, List.flatMap_cons] at this ⊢
    rw [show (i + 1) * 2 = i * 2 + 2 by omega, show i * 2 + 2 + 1 = (i * 2 + 1) + 2 by omega]
    simpa using this
theorem pair_at {l : List Value} {off i j : Nat} {la : List (UInt8 × UInt8)} {x : UInt8 × UInt8} {v : UInt8} (hv : (l.drop off).take (2 * la.length) = bs (pb la)) (hi : la[i]? = some x) (hj : j = 0 ∧ v = x.1 ∨ j = 1 ∧ v = x.2) : l[off + i * 2 + j]? = some (u8 v) := by
  obtain ⟨h1, h2⟩ := pb_get hi
  have hlt := (List.getElem?_eq_some_iff.1 hi).1
  have key : ((l.drop off).take (2 * la.length))[i * 2 + j]? = some (u8 v) := by
    rw [hv, bs_get]
    rcases hj with ⟨rfl, rfl⟩ | ⟨rfl, rfl⟩
    · rw [Nat.add_zero, h1]; rfl
    · rw [h2]; rfl
  rw [List.getElem?_take_of_lt (by omega), List.getElem?_drop] at key
  rw [Nat.add_assoc]
  exact key
def prX (la : List (UInt8 × UInt8)) (n : Nat) : List Sec := (la.take n).map sec2
theorem prX_ok (la : List (UInt8 × UInt8)) (n : Nat) : ∀ s ∈ prX la n, s.length = 128 := fun s hs => by
  obtain ⟨x, _, rfl⟩ := List.mem_map.1 hs
  exact sec2_len x
theorem prX_len {la : List (UInt8 × UInt8)} {n : Nat} (h : n ≤ la.length) : (prX la n).length = n := by simp [prX]; omega
theorem prX_succ {la : List (UInt8 × UInt8)} {n : Nat} {x : UInt8 × UInt8} (h : la[n]? = some x) : prX la (n + 1) = prX la n ++ [sec2 x] := by simp [prX, List.take_add_one, h]
/-- The places that were written, and the others. -/
def wX (la : List (UInt8 × UInt8)) (n i : Nat) : List Sec := prX la i ++ List.replicate (n - i) (secOf 0)
theorem wX_set {la : List (UInt8 × UInt8)} {n i : Nat} {x : UInt8 × UInt8} (h : la[i]? = some x) (hn : i < n) : (wX la n i).set i (sec2 x) = wX la n (i + 1) := by
  have hi := (List.getElem?_eq_some_iff.1 h).1
  have hl := prX_len (la := la) (n := i) (by omega)
  rw [wX, wX, List.set_append_right _ _ (by omega), hl, Nat.sub_self, show n - i = (n - (i + 1)) + 1 by omega, List.replicate_succ, List.set_cons_zero, prX_succ h]
  simp
theorem wX_all (la : List (UInt8 × UInt8)) (n : Nat) : wX la n n = prX la n := by simp [wX]
theorem wX_0 (la : List (UInt8 × UInt8)) (n : Nat) : wX la n 0 = List.replicate n (secOf 0) := by simp [wX, prX]
theorem sec2_fill (x : UInt8 × UInt8) : bs (sec2 x) = Value.int .u8 (x.1.toNat : Int) :: Value.int .u8 (x.2.toNat : Int) :: List.replicate 126 (Value.int .u8 0) := by simp [sec2, bs, u8]
theorem rK_le (p : Int → Sec → Bool) (X Y : List Sec) : ∀ k : Nat, 0 ≤ (rK p X Y k).1 ∧ (rK p X Y k).1 ≤ k ∧ 0 ≤ (rK p X Y k).2.1 ∧ (rK p X Y k).2.1 ≤ k ∧ 0 ≤ (rK p X Y k).2.2 ∧ (rK p X Y k).2.2 ≤ k
  | 0 => ⟨Int.le_refl 0, Int.le_refl 0, Int.le_refl 0, Int.le_refl 0, Int.le_refl 0, Int.le_refl 0⟩
  | k + 1 => by
    have h := rK_le p X Y k
    have g := cnt_le (rK p X Y k) (hC p k (gt X k) (gt Y k), 0)
    show 0 ≤ (cnt _ _).1 ∧ (cnt _ _).1 ≤ _ ∧ 0 ≤ (cnt _ _).2.1 ∧ (cnt _ _).2.1 ≤ _ ∧ 0 ≤ (cnt _ _).2.2 ∧ (cnt _ _).2.2 ≤ _
    omega
def rsel (r : Rp) (j : Nat) : Int := if j = 0 then r.1 else if j = 1 then r.2.1 else r.2.2
theorem hC_nat (p : Int → Sec → Bool) (n : Nat) (a b : Sec) : ∃ j : Nat, j < 3 ∧ hC p n a b = (j : Int) := by
  unfold hC
  split
  · split
    · exact ⟨0, by decide, rfl⟩
    · exact ⟨1, by decide, rfl⟩
  · split
    · exact ⟨1, by decide, rfl⟩
    · exact ⟨2, by decide, rfl⟩
theorem rsel_get (r : Rp) {j : Nat} (hj : j < 3) : [Value.int .i64 r.1, .int .i64 r.2.1, .int .i64 r.2.2][j]? = some (.int .i64 (rsel r j)) := by
  match j, hj with
  | 0, _ => rfl
  | 1, _ => rfl
  | 2, _ => rfl
theorem rK_set {p : Int → Sec → Bool} {X Y : List Sec} {i j : Nat} {s t : Sec} (hs : gt X i = s) (ht : gt Y i = t) (hj : j < 3) (hc : hC p i s t = (j : Int)) :
    [Value.int .i64 (rK p X Y i).1, .int .i64 (rK p X Y i).2.1, .int .i64 (rK p X Y i).2.2].set j (.int .i64 (rsel (rK p X Y i) j + 1)) = [Value.int .i64 (rK p X Y (i + 1)).1, .int .i64 (rK p X Y (i + 1)).2.1, .int .i64 (rK p X Y (i + 1)).2.2] := by
  have e : rK p X Y (i + 1) = cnt (rK p X Y i) ((j : Int), 0) := by show cnt _ _ = _; rw [hs, ht, hc]
  rw [e]
  match j, hj with
  | 0, _ => simp [cnt, rsel]
  | 1, _ => simp [cnt, rsel]
  | 2, _ => simp [cnt, rsel]
theorem rsel_le {p : Int → Sec → Bool} {X Y : List Sec} {i j : Nat} : 0 ≤ rsel (rK p X Y i) j ∧ rsel (rK p X Y i) j ≤ i := by
  have := rK_le p X Y i
  unfold rsel
  split
  · omega
  · split <;> omega
theorem XK_ok {p : Int → Sec → Bool} {X Y : List Sec} {K k : Nat} (hX : ∀ s ∈ X, s.length = 128) (hY : ∀ s ∈ Y, s.length = 128) (lX : X.length = K) (lY : Y.length = K) : ∀ s ∈ XK p X Y K k, s.length = 128 := fun s hs => by
  obtain ⟨j, hj, rfl⟩ := List.mem_map.1 hs
  have hj := List.mem_range.1 hj
  have a := hX _ (List.mem_of_getElem? (gt_get lX hj))
  have b := hY _ (List.mem_of_getElem? (gt_get lY hj))
  split
  · unfold Sl.hX; split
    · exact a
    · split
      · exact b
      · exact a
  · exact a
theorem YK_ok {p : Int → Sec → Bool} {X Y : List Sec} {K k : Nat} (hX : ∀ s ∈ X, s.length = 128) (hY : ∀ s ∈ Y, s.length = 128) (lX : X.length = K) (lY : Y.length = K) : ∀ s ∈ YK p X Y K k, s.length = 128 := fun s hs => by
  obtain ⟨j, hj, rfl⟩ := List.mem_map.1 hs
  have hj := List.mem_range.1 hj
  have a := hX _ (List.mem_of_getElem? (gt_get lX hj))
  have b := hY _ (List.mem_of_getElem? (gt_get lY hj))
  split
  · unfold Sl.hY; split
    · exact a
    · exact b
  · exact b
/-- A mirror of two that are there, nothing stale. -/
structure Ms (t : DT) (gv : Value) (D : Duo) (A : Da) (m : Mi) (K : Nat) (X Y : List Sec) (k0 k1 : Nat) (mb bx bys bp : Nat) : Prop where
  two : Two t D A bx bys bp
  vw : Vw A K X Y k0 k1
  mb : m.b = mb
  bx : m.bx = bx
  bys : m.bys = bys
  n : m.n = K
  s0 : m.k0 = []
  s1 : m.k1 = []
  gv : m.gv = gv
  okX : ∀ s ∈ X, s.length = 128
  okY : ∀ s ∈ Y, s.length = 128
theorem Ms.scr {t : DT} {gv : Value} {D D' : Duo} {A : Da} {m : Mi} {K : Nat} {X Y : List Sec} {k0 k1 mb bx bys bp : Nat} {p : Int → Sec → Bool} (h : Ms t gv D A m K X Y k0 k1 mb bx bys bp) (hT : Two t D' (Sl.scr m A p m.n).1 m.bx m.bys bp) :
    (Sl.scr m A p m.n).2.2 = rK p X Y K ∧ Ms t gv D' (Sl.scr m A p m.n).1 (Sl.scr m A p m.n).2.1 K (XK p X Y K K) (YK p X Y K K) (k0 + K) (k1 + K) mb bx bys bp := by
  have hn := h.n
  rw [hn] at hT ⊢
  obtain ⟨v, e0, e1, e2⟩ := scr_view (p := p) h.vw h.n h.s0 h.s1 h.okX h.okY K (Nat.le_refl _)
  obtain ⟨s1, s2, s3, s4, s5⟩ := scr_same m A p K
  rw [h.bx, h.bys] at hT
  exact ⟨e2, hT, v, s1.trans h.mb, s2.trans h.bx, s3.trans h.bys, s4.trans h.n, e0, e1, s5.trans h.gv, XK_ok h.okX h.okY h.vw.a.wlen h.vw.b.wlen, YK_ok h.okX h.okY h.vw.a.wlen h.vw.b.wlen⟩
theorem Ms.many {t : DT} {gv : Value} {D : Duo} {A : Da} {m : Mi} {K : Nat} {X Y : List Sec} {k0 k1 mb bx bys bp k : Nat} (h : Ms t gv D A m K X Y k0 k1 mb bx bys bp) (h0 : k0 ≤ k) (h1 : k1 ≤ k) (i : Bool) : (A.dev i).Q.length ≤ k := by
  have := (h.vw.dev i).many
  cases i
  · exact Nat.le_trans this h0
  · exact Nat.le_trans this h1
theorem XK_at {p : Int → Sec → Bool} {X Y : List Sec} {K j : Nat} {s t : Sec} (h : j < K) (hs : X[j]? = some s) (ht : Y[j]? = some t) : (XK p X Y K K)[j]? = some (hX p j s t) := by
  rw [XK_get h, if_pos h]; simp [gt, List.getD, hs, ht]
theorem YK_at {p : Int → Sec → Bool} {X Y : List Sec} {K j : Nat} {s t : Sec} (h : j < K) (hs : X[j]? = some s) (ht : Y[j]? = some t) : (YK p X Y K K)[j]? = some (hY p j s t) := by
  rw [YK_get h, if_pos h]; simp [gt, List.getD, hs, ht]
theorem hX_len {p : Int → Sec → Bool} {n : Nat} {a b : Sec} (ha : a.length = 128) (hb : b.length = 128) : (hX p n a b).length = 128 := by
  unfold hX; split
  · exact ha
  · split
    · exact hb
    · exact ha
theorem hY_len {p : Int → Sec → Bool} {n : Nat} {a b : Sec} (ha : a.length = 128) (hb : b.length = 128) : (hY p n a b).length = 128 := by
  unfold hY; split
  · exact ha
  · exact hb
theorem rK_take {p : Int → Sec → Bool} {X Y : List Sec} {k : Nat} : ∀ j, j ≤ k → rK p (X.take k) (Y.take k) j = rK p X Y j
  | 0, _ => rfl
  | j + 1, h => by
    show cnt _ _ = cnt _ _
    rw [rK_take j (by omega)]
    have e1 : gt (X.take k) j = gt X j := by simp [gt, List.getD, List.getElem?_take_of_lt (show j < k by omega)]
    have e2 : gt (Y.take k) j = gt Y j := by simp [gt, List.getD, List.getElem?_take_of_lt (show j < k by omega)]
    rw [e1, e2]
theorem take_ok {X : List Sec} {k : Nat} (h : ∀ s ∈ X, s.length = 128) : ∀ s ∈ X.take k, s.length = 128 := fun s hs => h s (List.mem_of_mem_take hs)
/-- With a device out nothing is scrubbed. -/
theorem scr_down {m : Mi} {A : Da} {p : Int → Sec → Bool} (h : (thr A false && thr A true) = false) : ∀ k : Nat, k ≤ m.n → scr m A p k = (A, m, (0, 0, 0))
  | 0, _ => rfl
  | k + 1, hk => by
    have hh : m.has (k : Int) = true := by simp [Mi.has]; omega
    have e := scr_down (m := m) (p := p) h k (by omega)
    have e0 : healTo m A p k = none := by simp [healTo, hh, h]
    have e1 : healR m A p k = (0, 13) := by simp [healR, hh, h]
    show (healA (scr m A p k).2.1 (scr m A p k).1 p k, healM (scr m A p k).2.1 (scr m A p k).1 p k, cnt (scr m A p k).2.2 (healR (scr m A p k).2.1 (scr m A p k).1 p k)) = _
    rw [e]
    simp only [healA, healM, e0, e1]
    rfl
theorem out_thr (A : Da) (i : Bool) : (thr (A.setd i ((A.dev i).outs true)) false && thr (A.setd i ((A.dev i).outs true)) true) = false := by
  cases i <;> simp [thr, Da.setd, Da.dev, Ab.outs, Ab.down]
/-! ### Scrubbed again -/
theorem hC_again {p : Int → Sec → Bool} {n : Nat} {a b : Sec} : hC p n (hX p n a b) (hY p n a b) = (if hC p n a b = 2 then 2 else 0) := by
  unfold hC hX hY
  cases ha : p n a
  · cases hb : p n b
    · simp [ha, hb]
    · simp [hb]
  · by_cases h : (p n b && decide (a = b)) = true
    · simp [ha, h]
    · simp [ha, h]
theorem rK_again {p : Int → Sec → Bool} {X Y : List Sec} {K : Nat} : ∀ k, k ≤ K → rK p (XK p X Y K K) (YK p X Y K K) k = ((rK p X Y k).1 + (rK p X Y k).2.1, 0, (rK p X Y k).2.2) ∧ (rK p X Y k).1 + (rK p X Y k).2.1 + (rK p X Y k).2.2 = k
  | 0, _ => ⟨rfl, rfl⟩
  | k + 1, h => by
    obtain ⟨e, e2⟩ := rK_again (p := p) (X := X) (Y := Y) (K := K) k (by omega)
    have g1 : gt (XK p X Y K K) k = hX p k (gt X k) (gt Y k) := by
      have := XK_get (p := p) (X := X) (Y := Y) (k := K) (show k < K by omega)
      rw [if_pos (by omega)] at this
      simp [gt, List.getD] at this ⊢
      rw [this]; rfl
    have g2 : gt (YK p X Y K K) k = hY p k (gt X k) (gt Y k) := by
      have := YK_get (p := p) (X := X) (Y := Y) (k := K) (show k < K by omega)
      rw [if_pos (by omega)] at this
      simp [gt, List.getD] at this ⊢
      rw [this]; rfl
    have s1 : rK p (XK p X Y K K) (YK p X Y K K) (k + 1) = cnt (rK p (XK p X Y K K) (YK p X Y K K) k) (hC p k (gt (XK p X Y K K) k) (gt (YK p X Y K K) k), 0) := rfl
    have s2 : rK p X Y (k + 1) = cnt (rK p X Y k) (hC p k (gt X k) (gt Y k), 0) := rfl
    rw [s1, s2, e, g1, g2, hC_again]
    obtain ⟨j, hj, hc⟩ := hC_nat p k (gt X k) (gt Y k)
    rw [hc]
    match j, hj with
    | 0, _ => simp [cnt]; omega
    | 1, _ => simp [cnt]; omega
    | 2, _ => simp [cnt]; omega
theorem hC_turn {p : Int → Sec → Bool} {n : Nat} {a b : Sec} : hC p n a b = hC p n b a := by
  unfold hC
  cases ha : p n a <;> cases hb : p n b
  · rfl
  · simp
  · simp
  · by_cases h : a = b
    · subst h; rfl
    · simp [h, Ne.symm h]
theorem rK_turn {p : Int → Sec → Bool} {X Y : List Sec} : ∀ k, rK p X Y k = rK p Y X k
  | 0 => rfl
  | k + 1 => by
    show cnt _ _ = cnt _ _
    rw [rK_turn k, hC_turn]
end Go.Sl
