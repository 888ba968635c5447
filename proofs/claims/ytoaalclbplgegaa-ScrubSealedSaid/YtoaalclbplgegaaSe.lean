/- Sealed sectors of one byte's copies, some of them spoilt (own work). -/
import Derived.Test.YtoaalclbplgegaaSd
import Derived.Test.YtoaalclbplgegaaMv
import Derived.Test.YtoaalclbplgegaaXc
set_option linter.unusedVariables false
set_option linter.unusedSimpArgs false
namespace Go.Sl
def b8 (n : Int) : UInt8 := UInt8.ofNat (n % 256).toNat
theorem wrap_b8 (n : Int) : IntKind.u8.wrap n = ((b8 n).toNat : Int) := by
  rw [IntKind.wrap_u8, b8]
  have : (n % 256).toNat < 256 := by omega
  rw [UInt8.toNat_ofNat', Nat.mod_eq_of_lt (by omega)]
  omega
def sealL (n : Int) (x : UInt8) : Sec := b8 n :: List.replicate 127 x
theorem sealL_len (n : Int) (x : UInt8) : (sealL n x).length = 128 := by simp [sealL]
def healP (n : Int) (s : Sec) : Bool := (decide (s = sealL n (s.getD 1 0)) && decide (s.getD 1 0 = s.getD 2 0)) && decide (s.getD 2 0 = s.getD 3 0)
theorem seal_at (n : Int) (x : UInt8) {j : Nat} (h0 : 0 < j) (h : j < 128) : (sealL n x)[j]? = some x := by
  obtain ⟨j, rfl⟩ : ∃ k, j = k + 1 := ⟨j - 1, by omega⟩
  rw [sealL, List.getElem?_cons_succ, List.getElem?_replicate, if_pos (by omega)]
theorem seal_getD (n : Int) (x : UInt8) {j : Nat} (h0 : 0 < j) (h : j < 128) : (sealL n x).getD j 0 = x := by
  rw [List.getD, seal_at n x h0 h]; rfl
theorem healP_seal (n : Int) (x : UInt8) : healP n (sealL n x) = true := by
  unfold healP
  rw [seal_getD n x (by decide) (by decide), seal_getD n x (by decide) (by decide), seal_getD n x (by decide) (by decide)]
  simp
theorem xor_self_zero {a c : UInt8} (h : a ^^^ c = a) : c = 0 := by
  have h2 := congrArg (a ^^^ ·) h
  simpa [← UInt8.xor_assoc] using h2
theorem healP_rot {n : Int} {x c : UInt8} {j : Nat} (hj : j < 128) (hc : c ≠ 0) : healP n (rotB (sealL n x) j c) = false := by
  have key : ¬ (rotB (sealL n x) j c = sealL n ((rotB (sealL n x) j c).getD 1 0)) := fun h => by
    have hl := sealL_len n x
    have self : (rotB (sealL n x) j c)[j]? = some ((sealL n x).getD j 0 ^^^ c) := by unfold rotB; rw [List.getElem?_set_self (by omega)]
    have other : ∀ i, i ≠ j → (rotB (sealL n x) j c)[i]? = (sealL n x)[i]? := fun i hi => by unfold rotB; rw [List.getElem?_set_ne (by omega)]
    rcases Nat.eq_zero_or_pos j with rfl | hp
    · have h0 := congrArg (fun l => l[0]?) h
      rw [self] at h0
      have : (sealL n x).getD 0 0 = b8 n := rfl
      rw [this] at h0
      have h1 : (sealL n ((rotB (sealL n x) 0 c).getD 1 0))[0]? = some (b8 n) := rfl
      rw [h1] at h0
      exact hc (xor_self_zero (Option.some.inj h0))
    · rw [seal_getD n x hp hj] at self
      by_cases h1 : j = 1
      · subst h1
        have g1 : (rotB (sealL n x) 1 c).getD 1 0 = x ^^^ c := by rw [List.getD, self]; rfl
        have h2 := congrArg (fun l => l[2]?) h
        rw [other 2 (by decide), seal_at n x (by decide) (by decide), g1, seal_at n _ (by decide) (by decide)] at h2
        exact hc (xor_self_zero (Option.some.inj h2).symm)
      · have g1 : (rotB (sealL n x) j c).getD 1 0 = x := by rw [List.getD, other 1 (by omega), seal_at n x (by decide) (by decide)]; rfl
        have h2 := congrArg (fun l => l[j]?) h
        rw [self, g1, seal_at n x hp hj] at h2
        exact hc (xor_self_zero (Option.some.inj h2))
  unfold healP
  rw [decide_eq_false key]
  rfl
/-! ### What was written -/
def wS (dd : List UInt8) (k : Nat) : List Sec := (List.range dd.length).map fun (i : Nat) => if i < k then sealL (i : Int) (dd.getD i 0) else secOf 0
theorem wS_0 (dd : List UInt8) : wS dd 0 = List.replicate dd.length (secOf 0) := by
  apply List.ext_getElem?
  intro i
  by_cases h : i < dd.length <;> simp [wS, h]
theorem wS_len (dd : List UInt8) (k : Nat) : (wS dd k).length = dd.length := by simp [wS]
theorem wS_ok (dd : List UInt8) (k : Nat) : ∀ s ∈ wS dd k, s.length = 128 := fun s hs => by
  obtain ⟨i, _, rfl⟩ := List.mem_map.1 hs
  split
  · exact sealL_len _ _
  · exact secOf_len _
theorem wS_set {dd : List UInt8} {k : Nat} (h : k < dd.length) : (wS dd k).set k (sealL (k : Int) (dd.getD k 0)) = wS dd (k + 1) := by
  have := map_set (fun (i : Nat) => if i < k then sealL (i : Int) (dd.getD i 0) else secOf 0) (fun (i : Nat) => if i < k + 1 then sealL (i : Int) (dd.getD i 0) else secOf 0) dd.length k (fun j hj => by
    by_cases h : j < k
    · rw [if_pos h, if_pos (by omega)]
    · rw [if_neg h, if_neg (by omega)])
  rw [if_pos (by omega)] at this
  exact this
def allS (dd : List UInt8) : List Sec := wS dd dd.length
theorem allS_at {dd : List UInt8} {i : Nat} (h : i < dd.length) : (allS dd)[i]? = some (sealL (i : Int) (dd.getD i 0)) := by
  simp [allS, wS, h]
/-- The places that are spoilt, told by a map. -/
def nHas (ks : List (Int × Nat)) (k : Nat) : Nat := ((List.range k).filter fun (i : Nat) => kHas ks (i : Int)).length
structure Rotten (dd : List UInt8) (c : UInt8) (ks : List (Int × Nat)) (R : List Sec) : Prop where
  len : R.length = dd.length
  ok : ∀ s ∈ R, s.length = 128
  same : ∀ i, i < dd.length → kHas ks (i : Int) = false → R[i]? = some (sealL (i : Int) (dd.getD i 0))
  rot : ∀ i, i < dd.length → kHas ks (i : Int) = true → c ≠ 0 ∧ ∃ j, j < 128 ∧ R[i]? = some (rotB (sealL (i : Int) (dd.getD i 0)) j c)
  cnt : nHas ks dd.length = ks.length
theorem nHas_nil (k : Nat) : nHas [] k = 0 := by
  unfold nHas
  rw [List.length_eq_zero_iff, List.filter_eq_nil_iff]
  intro i _
  simp [kHas]
theorem Rotten.nil (dd : List UInt8) (c : UInt8) : Rotten dd c [] (allS dd) :=
  ⟨wS_len _ _, wS_ok _ _, fun i hi _ => allS_at hi, fun i _ h => by simp [kHas] at h, nHas_nil _⟩
theorem kHas_app {ks : List (Int × Nat)} {c n i : Nat} : kHas (ks ++ [((n : Int), c)]) (i : Int) = (kHas ks (i : Int) || decide (i = n)) := by
  unfold kHas
  rw [List.any_append]
  congr 1
  have := kHas_one (t := n) (c := c) (j := i)
  unfold kHas at this
  exact this
theorem nHas_app {ks : List (Int × Nat)} {c n : Nat} (h : kHas ks (n : Int) = false) : ∀ k, nHas (ks ++ [((n : Int), c)]) k = nHas ks k + (if n < k then 1 else 0)
  | 0 => rfl
  | k + 1 => by
    have ih := nHas_app (c := c) h k
    unfold nHas at ih ⊢
    rw [List.range_succ, List.filter_append, List.filter_append, List.length_append, List.length_append, ih]
    by_cases hk : k = n
    · subst hk
      simp [kHas_app, h]
    · by_cases hb : kHas ks (k : Int) = true
      · have : (n < k + 1) ↔ n < k := by omega
        simp [kHas_app, hb, hk, this]; omega
      · have : (n < k + 1) ↔ n < k := by omega
        simp [kHas_app, hb, hk, this]
theorem kPut_new {ks : List (Int × Nat)} {c n : Nat} (h : kHas ks (n : Int) = false) : kPut ks c (n : Int) = ks ++ [((n : Int), c)] := by unfold kPut; rw [h]; rfl
theorem Rotten.put {dd : List UInt8} {c : UInt8} {ks : List (Int × Nat)} {R : List Sec} {n j ck : Nat} (h : Rotten dd c ks R) (hn : n < dd.length) (hk : kHas ks (n : Int) = false) (hj : j < 128) (hc : c ≠ 0) :
    Rotten dd c (kPut ks ck (n : Int)) (R.set n (rotB (sealL (n : Int) (dd.getD n 0)) j c)) := by
  rw [kPut_new hk]
  have hl := h.len
  refine ⟨by simp [hl], set_ok2 h.ok (rotB_len.trans (sealL_len _ _)), fun i hi hf => ?_, fun i hi hf => ?_, ?_⟩
  · rw [kHas_app] at hf
    have h1 : kHas ks (i : Int) = false := by cases hq : kHas ks (i : Int) <;> simp_all
    have h2 : i ≠ n := fun e => by subst e; simp at hf
    rw [List.getElem?_set_ne (by omega)]
    exact h.same i hi h1
  · by_cases e : i = n
    · subst e
      exact ⟨hc, j, hj, by rw [List.getElem?_set_self (by omega)]⟩
    · rw [kHas_app] at hf
      have h1 : kHas ks (i : Int) = true := by simpa [e] using hf
      rw [List.getElem?_set_ne (by omega)]
      exact h.rot i hi h1
  · rw [nHas_app hk, h.cnt, if_pos hn]; simp
section
variable {dd : List UInt8} {c : UInt8} {ks : List (Int × Nat)} {R : List Sec}
theorem Rotten.gt (h : Rotten dd c ks R) {i : Nat} (hi : i < dd.length) : ∃ r, Sl.gt R i = r ∧ healP (i : Int) r = !kHas ks (i : Int) ∧ (kHas ks (i : Int) = false → r = sealL (i : Int) (dd.getD i 0)) := by
  cases hk : kHas ks (i : Int)
  · have := gt_is (h.same i hi hk)
    exact ⟨_, this, healP_seal _ _, fun _ => rfl⟩
  · obtain ⟨hc, j, hj, e⟩ := h.rot i hi hk
    exact ⟨_, gt_is e, healP_rot hj hc, fun h => by cases h⟩
theorem nHas_succ (ks : List (Int × Nat)) (k : Nat) : nHas ks (k + 1) = nHas ks k + (if kHas ks (k : Int) then 1 else 0) := by
  unfold nHas
  rw [List.range_succ, List.filter_append, List.length_append]
  cases hq : kHas ks (k : Int) <;> simp [hq]
theorem Rotten.rK (h : Rotten dd c ks R) (f : Bool) : ∀ k : Nat, k ≤ dd.length → Sl.rK healP (if f then R else allS dd) (if f then allS dd else R) k = ((k : Int) - (nHas ks k : Int), (nHas ks k : Int), 0)
  | 0, _ => rfl
  | k + 1, hk => by
    have ih := h.rK f k (by omega)
    obtain ⟨r, e, hp, hs⟩ := h.gt (show k < dd.length by omega)
    have e2 := gt_is (allS_at (dd := dd) (show k < dd.length by omega))
    have hC1 : hC healP k (Sl.gt (if f then R else allS dd) k) (Sl.gt (if f then allS dd else R) k) = (if kHas ks (k : Int) then 1 else 0) := by
      have hw := healP_seal (k : Int) (dd.getD k 0)
      cases hq : kHas ks (k : Int)
      · have hr := hs hq
        rw [hr] at e
        cases f
        · simp only [Bool.false_eq_true, if_false]; rw [e, e2]; unfold hC; rw [hw]; simp
        · simp only [if_true]; rw [e, e2]; unfold hC; rw [hw]; simp
      · rw [hq] at hp
        cases f
        · simp only [Bool.false_eq_true, if_false]; rw [e, e2]; unfold hC; rw [hw, hp]; simp
        · simp only [if_true]; rw [e, e2]; unfold hC; rw [hw, hp]; simp
    show Sl.cnt _ _ = _
    rw [ih, hC1, nHas_succ]
    cases kHas ks (k : Int)
    · simp [Sl.cnt]; omega
    · simp [Sl.cnt]; omega
theorem Rotten.end (h : Rotten dd c ks R) (f : Bool) {i : Nat} (hi : i < dd.length) : (if f then XK healP R (allS dd) dd.length dd.length else YK healP (allS dd) R dd.length dd.length)[i]? = some (sealL (i : Int) (dd.getD i 0)) := by
  obtain ⟨r, e, hp, hs⟩ := h.gt hi
  have e2 := gt_is (allS_at (dd := dd) hi)
  have hw := healP_seal (i : Int) (dd.getD i 0)
  cases f
  · simp only [Bool.false_eq_true, if_false]
    rw [YK_get hi, if_pos hi, e, e2, hY, hw]; rfl
  · simp only [if_true]
    rw [XK_get hi, if_pos hi, e, e2, hX, hp, hw]
    cases hq : kHas ks (i : Int)
    · simp [hs hq]
    · simp
theorem Rotten.all (h : Rotten dd c ks R) (f : Bool) : Sl.rK healP (if f then R else allS dd) (if f then allS dd else R) dd.length = ((dd.length : Int) - (ks.length : Int), (ks.length : Int), 0) := by
  rw [h.rK f dd.length (Nat.le_refl _), h.cnt]
theorem Rotten.le (h : Rotten dd c ks R) : ks.length ≤ dd.length := by
  rw [← h.cnt]
  unfold nHas
  have := List.length_filter_le (fun (i : Nat) => kHas ks (i : Int)) (List.range dd.length)
  simpa using this
end
def fillS (x : UInt8) (i : Nat) : Sec := List.replicate i x ++ List.replicate (128 - i) 0
end Go.Sl
namespace Go.Sl
theorem byte_at {l : List Value} {off i : Nat} {u : List UInt8} (hv : (l.drop off).take u.length = bs u) (hi : i < u.length) : l[off + i * 1]? = some (Value.int .u8 ((u.getD i 0).toNat : Int)) := by
  have h1 : ((l.drop off).take u.length)[i]? = (bs u)[i]? := by rw [hv]
  rw [List.getElem?_take_of_lt hi, List.getElem?_drop, bs_getD hi] at h1
  rw [Nat.mul_one]; exact h1
theorem seal_fill (n : Int) (x : UInt8) : ((bs (secOf x)).set 0 (Value.int .u8 ((b8 n).toNat : Int))).set 1 (Value.int .u8 (x.toNat : Int)) = bs (sealL n x) := rfl
end Go.Sl
namespace Go.Sl
theorem dec_u8 (a b : UInt8) : decide (a = b) = decide ((a.toNat : Int) = (b.toNat : Int)) := by
  rw [decide_eq_decide]
  exact ⟨fun h => by rw [h], fun h => UInt8.toNat_inj.1 (by omega)⟩
end Go.Sl
