/- Own work: texts Se, Sv, XvW, MpW, put together. -/
import Derived.Test.YtjjiclgbdenkkaaMSectorMirrorb
/- Sealed sectors of one byte's copies, some of them spoilt (own work). -/
set_option linter.unusedVariables false
set_option linter.unusedSimpArgs false
namespace Go.Sl
def b8 (n : Int) : UInt8 := UInt8.ofNat (n % 256).toNat
def sealL (n : Int) (x : UInt8) : Sec := b8 n :: List.replicate 127 x
theorem sealL_len (n : Int) (x : UInt8) : (sealL n x).length = 128 := by simp [sealL]
def healP (n : Int) (s : Sec) : Bool := (decide (s = sealL n (s.getD 1 0)) && decide (s.getD 1 0 = s.getD 2 0)) && decide (s.getD 2 0 = s.getD 3 0)
theorem seal_at (n : Int) (x : UInt8) {j : Nat} (h0 : 0 < j) (h : j < 128) : (sealL n x)[j]? = some x := by
  obtain ⟨j, rfl⟩ : ∃ k, j = k + 1 := ⟨j - 1, by omega⟩
  rw [sealL, List.getElem?_cons_succ, List.getElem?_replicate, if_pos (by omega)]
theorem seal_getD (n : Int) (x : UInt8) {j : Nat} (h0 : 0 < j) (h : j < 128) : (sealL n x).getD j 0 = x := by
  rw [List.getD, seal_at n x h0 h]; rfl
theorem healP_seal (n : Int) (x : UInt8) : healP n (sealL n x) = true := by
  unfold healP
  rw [seal_getD n x (by decide) (by decide), seal_getD n x (by decide) (by decide), seal_getD n x (by decide) (by decide)]
  simp
theorem xor_self_zero {a c : UInt8} (h : a ^^^ c = a) : c = 0 := by
  have h2 := congrArg (a ^^^ ·) h
  simpa [← UInt8.xor_assoc] using h2
theorem healP_rot {n : Int} {x c : UInt8} {j : Nat} (hj : j < 128) (hc : c ≠ 0) : healP n (rotB (sealL n x) j c) = false := by
  have key : ¬ (rotB (sealL n x) j c = sealL n ((rotB (sealL n x) j c).getD 1 0)) := fun h => by
    have hl := sealL_len n x
    have self : (rotB (sealL n x) j c)[j]? = some ((sealL n x).getD j 0 ^^^ c) := by unfold rotB; rw [List.getElem?_set_self (by omega)]
    have other : ∀ i, i ≠ j → (rotB (sealL n x) j c)[i]? = (sealL n x)[i]? := fun i hi => by unfold rotB; rw [List.getElem?_set_ne (by omega)]
    rcases Nat.eq_zero_or_pos j with rfl | hp
    · have h0 := congrArg (fun l => l[0]?) h
      rw [self] at h0
      have : (sealL n x).getD 0 0 = b8 n := rfl
      rw [this] at h0
      have h1 : (sealL n ((rotB (sealL n x) 0 c).getD 1 0))[0]? = some (b8 n) := rfl
      rw [h1] at h0
      exact hc (xor_self_zero (Option.some.inj h0))
    · rw [seal_getD n x hp hj] at self
      by_cases h1 : j = 1
      · subst h1
        have g1 : (rotB (sealL n x) 1 c).getD 1 0 = x ^^^ c := by rw [List.getD, self]; rfl
        have h2 := congrArg (fun l => l[2]?) h
        rw [other 2 (by decide), seal_at n x (by decide) (by decide), g1, seal_at n _ (by decide) (by decide)] at h2
        exact hc (xor_self_zero (Option.some.inj h2).symm)
      · have g1 : (rotB (sealL n x) j c).getD 1 0 = x := by rw [List.getD, other 1 (by omega), seal_at n x (by decide) (by decide)]; rfl
        have h2 := congrArg (fun l => l[j]?) h
        rw [self, g1, seal_at n x hp hj] at h2
        exact hc (xor_self_zero (Option.some.inj h2))
  unfold healP
  rw [decide_eq_false key]
  rfl
/-! ### What was written -/
def wS (dd : List UInt8) (k : Nat) : List Sec := (List.range dd.length).map fun (i : Nat) => if i < k then sealL (i : Int) (dd.getD i 0) else secOf 0
theorem wS_len (dd : List UInt8) (k : Nat) : (wS dd k).length = dd.length := by simp [wS]
theorem wS_ok (dd : List UInt8) (k : Nat) : ∀ s ∈ wS dd k, s.length = 128 := fun s hs => by
  obtain ⟨i, _, rfl⟩ := List.mem_map.1 hs
  split
  · exact sealL_len _ _
  · exact secOf_len _
def allS (dd : List UInt8) : List Sec := wS dd dd.length
theorem allS_at {dd : List UInt8} {i : Nat} (h : i < dd.length) : (allS dd)[i]? = some (sealL (i : Int) (dd.getD i 0)) := by
  simp [allS, wS, h]
/-- The places that are spoilt, told by a map. -/
def nHas (ks : List (Int × Nat)) (k : Nat) : Nat := ((List.range k).filter fun (i : Nat) => kHas ks (i : Int)).length
structure Rotten (dd : List UInt8) (c : UInt8) (ks : List (Int × Nat)) (R : List Sec) : Prop where
  len : R.length = dd.length
  ok : ∀ s ∈ R, s.length = 128
  same : ∀ i, i < dd.length → kHas ks (i : Int) = false → R[i]? = some (sealL (i : Int) (dd.getD i 0))
  rot : ∀ i, i < dd.length → kHas ks (i : Int) = true → c ≠ 0 ∧ ∃ j, j < 128 ∧ R[i]? = some (rotB (sealL (i : Int) (dd.getD i 0)) j c)
  cnt : nHas ks dd.length = ks.length
theorem nHas_nil (k : Nat) : nHas [] k = 0 := by
  unfold nHas
  rw [List.length_eq_zero_iff, List.filter_eq_nil_iff]
  intro i _
  simp [kHas]
theorem Rotten.nil (dd : List UInt8) (c : UInt8) : Rotten dd c [] (allS dd) :=
  ⟨wS_len _ _, wS_ok _ _, fun i hi _ => allS_at hi, fun i _ h => by simp [kHas] at h, nHas_nil _⟩
theorem kHas_app {ks : List (Int × Nat)} {c n i : Nat} : kHas (ks ++ [((n : Int), c)]) (i : Int) = (kHas ks (i : Int) || decide (i = n)) := by
  unfold kHas
  rw [List.any_append]
  congr 1
  have := kHas_one (t := n) (c := c) (j := i)
  unfold kHas at this
  exact this
theorem nHas_app {ks : List (Int × Nat)} {c n : Nat} (h : kHas ks (n : Int) = false) : ∀ k, nHas (ks ++ [((n : Int), c)]) k = nHas ks k + (if n < k then 1 else 0)
  | 0 => rfl
  | k + 1 => by
    have ih := nHas_app (c := c) h k
    unfold nHas at ih ⊢
    rw [List.range_succ, List.filter_append, List.filter_append, List.length_append, List.length_append, ih]
    by_cases hk : k = n
    · subst hk
      simp [kHas_app, h]
    · by_cases hb : kHas ks (k : Int) = true
      · have : (n < k + 1) ↔ n < k := by omega
        simp [kHas_app, hb, hk, this]; omega
      · have : (n < k + 1) ↔ n < k := by omega
        simp [kHas_app, hb, hk, this]
theorem kPut_new {ks : List (Int × Nat)} {c n : Nat} (h : kHas ks (n : Int) = false) : kPut ks c (n : Int) = ks ++ [((n : Int), c)] := by unfold kPut; rw [h]; rfl
theorem Rotten.put {dd : List UInt8} {c : UInt8} {ks : List (Int × Nat)} {R : List Sec} {n j ck : Nat} (h : Rotten dd c ks R) (hn : n < dd.length) (hk : kHas ks (n : Int) = false) (hj : j < 128) (hc : c ≠ 0) :
    Rotten dd c (kPut ks ck (n : Int)) (R.set n (rotB (sealL (n : Int) (dd.getD n 0)) j c)) := by
  rw [kPut_new hk]
  have hl := h.len
  refine ⟨by simp [hl], set_ok2 h.ok (rotB_len.trans (sealL_len _ _)), fun i hi hf => ?_, fun i hi hf => ?_, ?_⟩
  · rw [kHas_app] at hf
    have h1 : kHas ks (i : Int) = false := by cases hq : kHas ks (i : Int) <;> simp_all
    have h2 : i ≠ n := fun e => by subst e; simp at hf
    rw [List.getElem?_set_ne (by omega)]
    exact h.same i hi h1
  · by_cases e : i = n
    · subst e
      exact ⟨hc, j, hj, by rw [List.getElem?_set_self (by omega)]⟩
    · rw [kHas_app] at hf
      have h1 : kHas ks (i : Int) = true := by simpa [e] using hf
      rw [List.getElem?_set_ne (by omega)]
      exact h.rot i hi h1
  · rw [nHas_app hk, h.cnt, if_pos hn]; simp
section
variable {dd : List UInt8} {c : UInt8} {ks : List (Int × Nat)} {R : List Sec}
theorem Rotten.gt (h : Rotten dd c ks R) {i : Nat} (hi : i < dd.length) : ∃ r, Sl.gt R i = r ∧ healP (i : Int) r = !kHas ks (i : Int) ∧ (kHas ks (i : Int) = false → r = sealL (i : Int) (dd.getD i 0)) := by
  cases hk : kHas ks (i : Int)
  · have := gt_is (h.same i hi hk)
    exact ⟨_, this, healP_seal _ _, fun _ => rfl⟩
  · obtain ⟨hc, j, hj, e⟩ := h.rot i hi hk
    exact ⟨_, gt_is e, healP_rot hj hc, fun h => by cases h⟩
theorem nHas_succ (ks : List (Int × Nat)) (k : Nat) : nHas ks (k + 1) = nHas ks k + (if kHas ks (k : Int) then 1 else 0) := by
  unfold nHas
  rw [List.range_succ, List.filter_append, List.length_append]
  cases hq : kHas ks (k : Int) <;> simp [hq]
theorem Rotten.rK (h : Rotten dd c ks R) (f : Bool) : ∀ k : Nat, k ≤ dd.length → Sl.rK healP (if f then R else allS dd) (if f then allS dd else R) k = ((k : Int) - (nHas ks k : Int), (nHas ks k : Int), 0)
  | 0, _ => rfl
  | k + 1, hk => by
    have ih := h.rK f k (by omega)
    obtain ⟨r, e, hp, hs⟩ := h.gt (show k < dd.length by omega)
    have e2 := gt_is (allS_at (dd := dd) (show k < dd.length by omega))
    have hC1 : hC healP k (Sl.gt (if f then R else allS dd) k) (Sl.gt (if f then allS dd else R) k) = (if kHas ks (k : Int) then 1 else 0) := by
      have hw := healP_seal (k : Int) (dd.getD k 0)
      cases hq : kHas ks (k : Int)
      · have hr := hs hq
        rw [hr] at e
        cases f
        · simp only [Bool.false_eq_true, if_false]; rw [e, e2]; unfold hC; rw [hw]; simp
        · simp only [if_true]; rw [e, e2]; unfold hC; rw [hw]; simp
      · rw [hq] at hp
        cases f
        · simp only [Bool.false_eq_true, if_false]; rw [e, e2]; unfold hC; rw [hw, hp]; simp
        · simp only [if_true]; rw [e, e2]; unfold hC; rw [hw, hp]; simp
    show Sl.cnt _ _ = _
    rw [ih, hC1, nHas_succ]
    cases kHas ks (k : Int)
    · simp [Sl.cnt]; omega
    · simp [Sl.cnt]; omega
theorem Rotten.end (h : Rotten dd c ks R) (f : Bool) {i : Nat} (hi : i < dd.length) : (if f then XK healP R (allS dd) dd.length dd.length else YK healP (allS dd) R dd.length dd.length)[i]? = some (sealL (i : Int) (dd.getD i 0)) := by
  obtain ⟨r, e, hp, hs⟩ := h.gt hi
  have e2 := gt_is (allS_at (dd := dd) hi)
  have hw := healP_seal (i : Int) (dd.getD i 0)
  cases f
  · simp only [Bool.false_eq_true, if_false]
    rw [YK_get hi, if_pos hi, e, e2, hY, hw]; rfl
  · simp only [if_true]
    rw [XK_get hi, if_pos hi, e, e2, hX, hp, hw]
    cases hq : kHas ks (i : Int)
    · simp [hs hq]
    · simp
theorem Rotten.all (h : Rotten dd c ks R) (f : Bool) : Sl.rK healP (if f then R else allS dd) (if f then allS dd else R) dd.length = ((dd.length : Int) - (ks.length : Int), (ks.length : Int), 0) := by
  rw [h.rK f dd.length (Nat.le_refl _), h.cnt]
end
def fillS (x : UInt8) (i : Nat) : Sec := List.replicate i x ++ List.replicate (128 - i) 0
end Go.Sl
namespace Go.Sl
end Go.Sl
namespace Go.Sl
end Go.Sl

/- Sealed sectors on a mirror (own work). -/
set_option linter.unusedVariables false
set_option linter.unusedSimpArgs false
namespace Go.Sl
/-- Which sectors are sealed. -/
def sP (n : Int) (s : Sec) : Bool := decide (isS n s)
theorem rotB_same {s : Sec} {j : Nat} {c : UInt8} (hs : s.length = 128) (hj : j < 128) : rotB s j c = s ↔ c = 0 := by
  constructor
  · intro h
    have h2 := congrArg (fun l => l[j]?) h
    simp only [rotB] at h2
    rw [List.getElem?_set_self (by omega), List.getElem?_eq_getElem (by omega)] at h2
    have h3 := Option.some.inj h2
    rw [List.getD_eq_getElem?_getD, List.getElem?_eq_getElem (by omega)] at h3
    exact xor_self_zero h3
  · rintro rfl
    exact getD_set_self (by omega) rfl
section
variable {p : Int → Sec → Bool} {n : Nat} {s t : Sec}
theorem sm_read (hp : p n s = true) (h : p n t = false ∨ t = s) : (rdv p n s t = s ∧ rde p n s t = 0) ∧ (rdv p n t s = s ∧ rde p n t s = 0) := by
  unfold rdv rde
  rcases h with h | rfl
  · simp [hp, h]
  · simp [hp]
theorem sm_heal (hp : p n s = true) (h : p n t = false ∨ t = s) : (hX p n s t = s ∧ hY p n s t = s) ∧ (hX p n t s = s ∧ hY p n t s = s) := by
  unfold hX hY
  rcases h with h | rfl
  · simp [hp, h]
  · simp [hp]
theorem sm_cnt (hp : p n s = true) (h : p n t = false ∨ t = s) : hC p n s t = (if t = s then 0 else 1) ∧ hC p n t s = (if t = s then 0 else 1) := by
  unfold hC
  rcases h with h | rfl
  · have : t ≠ s := fun e => by subst e; rw [hp] at h; cases h
    simp [hp, h, this, Ne.symm this]
  · simp [hp]
end
section
variable {p : Int → Sec → Bool} {s t : Sec}
theorem sm_rk (hp : p 1 s = true) (h : p 1 t = false ∨ t = s) (f : Bool) : ∃ a b, rK p (pick2 f [secOf 0, s, secOf 0] [secOf 0, t, secOf 0]) (pick2 f [secOf 0, t, secOf 0] [secOf 0, s, secOf 0]) 3 = (a, (if t = s then 0 else 1), b) := by
  have key : ∀ u v : Sec, hC p 1 u v = (if t = s then 0 else 1) → ∃ a b, rK p [secOf 0, u, secOf 0] [secOf 0, v, secOf 0] 3 = (a, (if t = s then 0 else 1), b) := by
    intro u v hc
    have e : rK p [secOf 0, u, secOf 0] [secOf 0, v, secOf 0] 3 = cnt (cnt (cnt (0, 0, 0) (hC p 0 (secOf 0) (secOf 0), 0)) (hC p 1 u v, 0)) (hC p 2 (secOf 0) (secOf 0), 0) := rfl
    rw [e, hc]
    have h0 : hC p 0 (secOf 0) (secOf 0) = 0 ∨ hC p 0 (secOf 0) (secOf 0) = 2 := by unfold hC; cases p (0 : Nat) (secOf 0) <;> simp
    have h2 : hC p 2 (secOf 0) (secOf 0) = 0 ∨ hC p 2 (secOf 0) (secOf 0) = 2 := by unfold hC; cases p (2 : Nat) (secOf 0) <;> simp
    rcases h0 with h0 | h0 <;> rcases h2 with h2 | h2 <;> rw [h0, h2] <;> by_cases e2 : t = s <;> simp [cnt, e2]
  obtain ⟨c1, c2⟩ := sm_cnt (n := 1) hp h
  cases f
  · exact key s t c1
  · exact key t s c2
theorem sm_xk (hp : p 1 s = true) (h : p 1 t = false ∨ t = s) (f : Bool) (i : Bool) : (pick2 i (XK p (pick2 f [secOf 0, s, secOf 0] [secOf 0, t, secOf 0]) (pick2 f [secOf 0, t, secOf 0] [secOf 0, s, secOf 0]) 3 3) (YK p (pick2 f [secOf 0, s, secOf 0] [secOf 0, t, secOf 0]) (pick2 f [secOf 0, t, secOf 0] [secOf 0, s, secOf 0]) 3 3))[1]? = some s := by
  obtain ⟨⟨a1, a2⟩, b1, b2⟩ := sm_heal (n := 1) hp h
  cases i
  · simp only [pick2, Bool.false_eq_true, if_false]
    rw [XK_get (by decide)]
    cases f
    · exact congrArg some a1
    · exact congrArg some b1
  · simp only [pick2, if_true]
    rw [YK_get (by decide)]
    cases f
    · exact congrArg some a2
    · exact congrArg some b2
end
theorem sP_pack {gen : Nat} {body : List UInt8} {n : Nat} (hn : n < 4096) (hg : gen < M64) (hb : body.length ≤ 103) : sP n (packR n gen body) = true := by
  have hp : packOk (n : Int) body := ⟨by omega, by omega, hb⟩
  exact decide_eq_true (unp_packR hp hg).1
end Go.Sl

/- walks (own work; the walks' lines by a program of this repo). -/
set_option linter.unusedVariables false
set_option linter.unusedSimpArgs false
set_option maxRecDepth 20000
namespace Go.Proofs.Ytjjiclgbdenkkaa
open Go.Sl
attribute [local irreducible] BodyQ WpC WpL WpS WpH OpW FnS


theorem sgood_s {w0 : World} {H : Hp} (c : Value) (hc : c.cells = #[c]) : FnS Try.prog w0 48 #[c] H (fun e H' => ∃ b, e = .returned (.func (.func 82) #[] #[ptr b]) ∧ H' = [(b, .cells [c].toArray 134)] :: H) := by
  refine FnS_intro (n := 4) (rs := [.tmp 2]) (vs := [c]) Try.func48 rfl Try.ntmps48 rfl rfl ?_
  refine C_seq ?_
  refine C_region ?_
  refine L_op rfl (op_box rfl hc rfl (fun B1 => ?_))
  refine L_y rfl (y_assign rfl) rfl ?_
  refine L_nil ?_
  refine C_seq ?_
  refine C_region ?_
  refine L_y rfl (y_makeFunc rfl rfl) rfl ?_
  refine L_y rfl (y_assign rfl) rfl ?_
  refine L_nil ?_
  refine C_ret ?_
  refine B_ret (rv_tmp rfl rv_nil) (HSub.refl _) ?_
  exact ⟨B1, rfl, rfl⟩

theorem sgood1_s {w0 : World} {H : Hp} {zc : List Value} {b : Nat} (hC : Sees (fun w => St w0 w H) b (.cells [.iface 78 (.agg zc.toArray)].toArray 134)) (a : Int) (s : List UInt8) (hs : s.length = 128) : FnS Try.prog w0 82 #[.int .i64 a, .agg (bs s).toArray, ptr b] H (fun e H' => e = .returned (.bool (decide (isS a s))) ∧ H' = H) := by
  refine FnS_intro (n := 18) (rs := [.tmp 5]) (vs := [.int .i64 a, .agg (bs s).toArray, ptr b]) Try.func82 rfl Try.ntmps82 rfl rfl ?_
  refine C_seq ?_
  refine C_region ?_
  refine L_op rfl (op_box rfl rfl rfl (fun B1 => ?_))
  refine L_y rfl (y_assign rfl) rfl ?_
  refine L_nil ?_
  refine C_seq ?_
  refine C_region ?_
  refine L_y rfl (y_load rfl ag_134 (hC.up) rfl) rfl ?_
  refine L_y rfl (y_move rfl) rfl ?_
  refine L_y rfl (y_loadA rfl ag_32 sz_32 (sees 0 0 rfl) (by rw [bs_length, hs]; decide) (bs_whole0 _ (hs))) rfl ?_
  refine L_op rfl (op_call rfl rfl (fun a w => Try.call77 a w) rfl ?_)
  refine FnS.mono (unpack_u a s hs) ?_
  rintro _ _ ⟨g1, hg1, rfl, rfl⟩
  refine ⟨_, rfl, ?_⟩
  refine L_y rfl (y_move rfl) rfl ?_
  refine L_y rfl (y_extract rfl rfl) rfl ?_
  refine L_y rfl (y_extract rfl rfl) rfl ?_
  refine L_y rfl (y_extract rfl rfl) rfl ?_
  refine L_y rfl (y_assign rfl) rfl ?_
  refine L_y rfl (y_assign rfl) rfl ?_
  refine L_y rfl (y_assign rfl) rfl ?_
  refine L_nil ?_
  refine C_seq ?_
  refine C_region ?_
  refine L_y rfl (y_move rfl) rfl ?_
  refine L_y rfl (y_assign rfl) rfl ?_
  refine L_nil ?_
  refine C_ret ?_
  refine B_ret (rv_tmp rfl rv_nil) (hsub (.cons _ (.cons _ (.refl _)))) ?_
  exact ⟨rfl, rfl⟩

theorem sgood_at {w0 : World} {H : Hp} {zc : List Value} {b : Nat} (hC : Sees (fun w => St w0 w H) b (.cells [.iface 78 (.agg zc.toArray)].toArray 134)) : GoodAt Try.prog w0 H (.func (.func 82) #[] [ptr b].toArray) sP :=
  .inr ⟨82, [ptr b], rfl, fun a w => Try.call82 a w, fun H' n s hH hs => sgood1_s (hC.sub hH) n s hs⟩

end Go.Proofs.Ytjjiclgbdenkkaa

/- walks (own work; the walks' lines by a program of this repo). -/
set_option linter.unusedVariables false
set_option linter.unusedSimpArgs false
set_option maxRecDepth 20000
namespace Go.Proofs.Ytjjiclgbdenkkaa
open Go.Sl
attribute [local irreducible] BodyQ WpC WpL WpS WpH OpW FnS


theorem put_no {w0 : World} {H : Hp} {D : Duo} {A : Da} {bp : Nat} {m : Mi} (h : Two dt D A m.bx m.bys bp) (n : Int) (s : Sec) (hs : s.length = 128) {fa : Nat} {cap : List Value} {ask : Da → Bool → Bool} (hask : AskAt Try.prog dt 110 w0 H m bp fa cap ask) (hQ : ∀ i, (A.dev i).Q.length < 99990) (hn : m.has n = false) : FnS Try.prog w0 54 #[ptr m.b, .int .i64 n, .agg (bs s).toArray, .func (.func fa) #[] cap.toArray] (m.seg 110 :: D.seg dt :: H) (fun e H' => e = .returned (.int .i64 (putE m A ask n s)) ∧ ∃ D', Two dt D' (putDa m A ask n s) m.bx m.bys bp ∧ H' = (putm m A ask n s).seg 110 :: D'.seg dt :: H) := by
  refine FnS_intro (n := 77) (rs := [.tmp 8]) (vs := [ptr m.b, .int .i64 n, .agg (bs s).toArray, .func (.func fa) #[] cap.toArray]) Try.func54 rfl Try.ntmps54 rfl rfl ?_
  refine C_seq ?_
  refine C_region ?_
  refine L_op rfl (op_box rfl rfl rfl (fun B1 => ?_))
  refine L_y rfl (y_assign rfl) rfl ?_
  refine L_nil ?_
  refine C_seq ?_
  refine C_seq ?_
  refine C_region ?_
  refine L_y rfl (y_move rfl) rfl ?_
  refine L_y rfl (y_move rfl) rfl ?_
  refine L_op rfl (op_call rfl rfl (fun a w => Try.call58 a w) rfl ?_)
  refine (has_m _ (sees 1 0 rfl)).mono ?_
  rintro _ _ ⟨rfl, rfl⟩
  rw [hn]
  refine ⟨_, rfl, ?_⟩
  refine L_y rfl (y_not rfl) rfl ?_
  refine L_nil ?_
  refine C_cond_t rfl ?_
  refine C_seq ?_
  refine C_region ?_
  refine L_y rfl (y_assign rfl) rfl ?_
  refine L_nil ?_
  refine C_ret ?_
  refine B_ret (rv_tmp rfl rv_nil) (hsub (.cons _ (.refl _))) ?_
  exact ⟨ret_int (by simp [putE, hn]), D, h.to (by simp [putDa, hn]), by rw [show putm m A ask n s = m from by simp [putm, hn]]⟩

set_option maxHeartbeats 4000000 in

theorem put_yes {w0 : World} {H : Hp} {D : Duo} {A : Da} {bp : Nat} {m : Mi} (h : Two dt D A m.bx m.bys bp) (n : Int) (s : Sec) (hs : s.length = 128) {fa : Nat} {cap : List Value} {ask : Da → Bool → Bool} (hask : AskAt Try.prog dt 110 w0 H m bp fa cap ask) (hQ : ∀ i, (A.dev i).Q.length < 99990) (hn : m.has n = true) : FnS Try.prog w0 54 #[ptr m.b, .int .i64 n, .agg (bs s).toArray, .func (.func fa) #[] cap.toArray] (m.seg 110 :: D.seg dt :: H) (fun e H' => e = .returned (.int .i64 (putE m A ask n s)) ∧ ∃ D', Two dt D' (putDa m A ask n s) m.bx m.bys bp ∧ H' = (putm m A ask n s).seg 110 :: D'.seg dt :: H) := by
  refine FnS_intro (n := 77) (rs := [.tmp 8]) (vs := [ptr m.b, .int .i64 n, .agg (bs s).toArray, .func (.func fa) #[] cap.toArray]) Try.func54 rfl Try.ntmps54 rfl rfl ?_
  refine C_seq ?_
  refine C_region ?_
  refine L_op rfl (op_box rfl rfl rfl (fun B1 => ?_))
  refine L_y rfl (y_assign rfl) rfl ?_
  refine L_nil ?_
  refine C_seq ?_
  refine C_seq ?_
  refine C_region ?_
  refine L_y rfl (y_move rfl) rfl ?_
  refine L_y rfl (y_move rfl) rfl ?_
  refine L_op rfl (op_call rfl rfl (fun a w => Try.call58 a w) rfl ?_)
  refine (has_m _ (sees 1 0 rfl)).mono ?_
  rintro _ _ ⟨rfl, rfl⟩
  rw [hn]
  refine ⟨_, rfl, ?_⟩
  refine L_y rfl (y_not rfl) rfl ?_
  refine L_nil ?_
  refine C_cond_f rfl ?_
  refine C_skip ?_
  refine C_seq ?_
  refine C_region ?_
  refine L_op rfl (op_alloc zl_62 rfl (fun B2 => ?_))
  refine L_nil ?_
  refine C_seq ?_
  refine C_seq ?_
  refine C_region ?_
  refine L_y rfl (y_move rfl) rfl ?_
  refine L_nil ?_
  refine C_block ?_
  refine C_loopIn (In_round ?_)
  refine C_seq ?_
  refine C_region ?_
  refine L_y rfl (y_lss rfl rfl) rfl ?_
  refine L_nil ?_
  refine C_seq ?_
  refine C_cond_t rfl ?_
  refine C_skip ?_
  refine C_seq ?_
  refine C_block ?_
  refine C_seq ?_
  refine C_region ?_
  refine L_y rfl (y_move rfl) rfl ?_
  refine L_y rfl (y_assign rfl) rfl ?_
  refine L_nil ?_
  refine C_seq ?_
  refine C_region ?_
  refine L_y rfl (y_move rfl) rfl ?_
  refine L_y rfl (y_move rfl) rfl ?_
  refine L_y rfl (y_nilCheck rfl) rfl ?_
  refine L_y rfl (y_fieldAddr rfl fl_110_0) rfl ?_
  refine L_y rfl (y_indexA rfl rfl Try.underlying108 sz_107 (by omega) (by omega) (show _ = 0 from rfl)) rfl ?_
  refine L_y rfl (y_assign rfl) rfl ?_
  refine L_nil ?_
  refine C_seq ?_
  refine C_region ?_
  refine L_y rfl (y_move rfl) rfl ?_
  refine L_y rfl (y_nilCheck rfl) rfl ?_
  refine L_y rfl (y_loadA rfl ag_107 sz_107 (sees 2 0 rfl) (Nat.le_of_ble_eq_true rfl) rfl) rfl ?_
  refine L_op rfl (op_call rfl rfl (fun a w => Try.call53 a w) rfl ?_)
  refine ((there_d h false).sub (hsub_pick [3] rfl)).mono ?_
  rintro _ _ ⟨rfl, rfl⟩
  refine ⟨_, rfl, ?_⟩
  refine L_nil ?_
  refine C_cond rfl (fun hc2 => ?_) (fun hc2 => ?_)
  · skip
    refine C_regionH H (by kernel_rfl) ?_
    refine H_y 0 rfl (by kernel_rfl) (by kernel_rfl) (by kernel_rfl) (hsub (.cons _ (.cons _ (.cons _ (.cons _ (.refl _)))))) rfl (y_move rfl) rfl ?_
    refine H_y 1 rfl (by kernel_rfl) (by kernel_rfl) (by kernel_rfl) (hsub (.cons _ (.cons _ (.cons _ (.cons _ (.refl _)))))) rfl (y_move rfl) rfl ?_
    refine H_y 2 rfl (by kernel_rfl) (by kernel_rfl) (by kernel_rfl) (hsub (.cons _ (.cons _ (.cons _ (.cons _ (.refl _)))))) rfl (y_move rfl) rfl ?_
    refine H_one 3 rfl (by kernel_rfl) rfl (op_call (f := fa) (first := []) (cap := cap) rfl rfl hask.1 rfl ?_)
    refine FnS.mono (FnS.sub (hsub_pick [3, 0] rfl) (hask.2 false _ _ _ h (hsub (.cons _ (.cons _ (.refl _)))))) ?_
    rintro _ _ ⟨rfl, rfl⟩
    refine ⟨_, rfl, ?_⟩
    refine ⟨hsub (.cons _ (.cons _ (.cons _ (.cons _ (.refl _))))), ?_⟩
    refine H_y 4 rfl (by kernel_rfl) (by kernel_rfl) (by kernel_rfl) (hsub (.cons _ (.cons _ (.cons _ (.cons _ (.refl _)))))) rfl (y_not rfl) rfl ?_
    refine H_y 5 rfl (by kernel_rfl) (by kernel_rfl) (by kernel_rfl) (hsub (.cons _ (.cons _ (.cons _ (.cons _ (.refl _)))))) rfl (y_move rfl) rfl ?_
    refine H_case 34 rfl (fun hg9_6 => ?_) (fun hg9_6 => ?_)
    · skip
      refine H_skip 6 rfl (by kernel_rfl) (by kernel_rfl) (by kernel_rfl) (hsub (.cons _ (.cons _ (.cons _ (.cons _ (.refl _)))))) rfl rfl ?_
      refine H_skip 7 rfl (by kernel_rfl) (by kernel_rfl) (by kernel_rfl) (hsub (.cons _ (.cons _ (.cons _ (.cons _ (.refl _)))))) rfl rfl ?_
      refine H_skip 8 rfl (by kernel_rfl) (by kernel_rfl) (by kernel_rfl) (hsub (.cons _ (.cons _ (.cons _ (.cons _ (.refl _)))))) rfl rfl ?_
      refine H_skip 9 rfl (by kernel_rfl) (by kernel_rfl) (by kernel_rfl) (hsub (.cons _ (.cons _ (.cons _ (.cons _ (.refl _)))))) rfl rfl ?_
      refine H_skip 10 rfl (by kernel_rfl) (by kernel_rfl) (by kernel_rfl) (hsub (.cons _ (.cons _ (.cons _ (.cons _ (.refl _)))))) rfl rfl ?_
      refine H_skip 11 rfl (by kernel_rfl) (by kernel_rfl) (by kernel_rfl) (hsub (.cons _ (.cons _ (.cons _ (.cons _ (.refl _)))))) rfl rfl ?_
      refine H_skip 12 rfl (by kernel_rfl) (by kernel_rfl) (by kernel_rfl) (hsub (.cons _ (.cons _ (.cons _ (.cons _ (.refl _)))))) rfl rfl ?_
      refine H_skip 13 rfl (by kernel_rfl) (by kernel_rfl) (by kernel_rfl) (hsub (.cons _ (.cons _ (.cons _ (.cons _ (.refl _)))))) rfl rfl ?_
      refine H_y 14 rfl (by kernel_rfl) (by kernel_rfl) (by kernel_rfl) (hsub (.cons _ (.cons _ (.cons _ (.cons _ (.refl _)))))) rfl (y_pick_t rfl rfl) rfl ?_
      refine H_y 15 rfl (by kernel_rfl) (by kernel_rfl) (by kernel_rfl) (hsub (.cons _ (.cons _ (.cons _ (.cons _ (.refl _)))))) rfl (y_indexA rfl rfl Try.underlying62 sz_4 (by omega) (by omega) (show _ = 0 from rfl)) rfl ?_
      refine H_one 16 rfl (by kernel_rfl) rfl (op_store1 2 0 rfl rfl rfl sz_4 rfl (Nat.le_of_ble_eq_true rfl) ?_)
      refine ⟨hsub (.cons _ (.cons _ (.cons _ (.cons _ (.refl _))))), ?_⟩
      refine H_done (by kernel_rfl) ?_
      refine C_region ?_
      refine L_y rfl (y_add rfl rfl (show _ = (1 : Int) from rfl)) rfl ?_
      refine L_y rfl (y_move rfl) rfl ?_
      refine L_nil ?_
      refine In_round ?_
      refine C_seq ?_
      refine C_region ?_
      refine L_y rfl (y_lss rfl rfl) rfl ?_
      refine L_nil ?_
      refine C_seq ?_
      refine C_cond_t rfl ?_
      refine C_skip ?_
      refine C_seq ?_
      refine C_block ?_
      refine C_seq ?_
      refine C_region ?_
      refine L_y rfl (y_move rfl) rfl ?_
      refine L_y rfl (y_assign rfl) rfl ?_
      refine L_nil ?_
      refine C_seq ?_
      refine C_region ?_
      refine L_y rfl (y_move rfl) rfl ?_
      refine L_y rfl (y_move rfl) rfl ?_
      refine L_y rfl (y_nilCheck rfl) rfl ?_
      refine L_y rfl (y_fieldAddr rfl fl_110_0) rfl ?_
      refine L_y rfl (y_indexA rfl rfl Try.underlying108 sz_107 (by omega) (by omega) (show _ = 2 from rfl)) rfl ?_
      refine L_y rfl (y_assign rfl) rfl ?_
      refine L_nil ?_
      refine C_seq ?_
      refine C_region ?_
      refine L_y rfl (y_move rfl) rfl ?_
      refine L_y rfl (y_nilCheck rfl) rfl ?_
      refine L_y rfl (y_loadA rfl ag_107 sz_107 (sees 0 0 rfl) (Nat.le_of_ble_eq_true rfl) rfl) rfl ?_
      refine L_op rfl (op_call rfl rfl (fun a w => Try.call53 a w) rfl ?_)
      refine ((there_d h true).sub (hsub_pick [1] rfl)).mono ?_
      rintro _ _ ⟨rfl, rfl⟩
      refine ⟨_, rfl, ?_⟩
      refine L_nil ?_
      refine C_cond rfl (fun hc2 => ?_) (fun hc2 => ?_)
      · skip
        refine C_regionH H (by kernel_rfl) ?_
        refine H_y 0 rfl (by kernel_rfl) (by kernel_rfl) (by kernel_rfl) (hsub (.cons _ (.cons _ (.cons _ (.cons _ (.refl _)))))) rfl (y_move rfl) rfl ?_
        refine H_y 1 rfl (by kernel_rfl) (by kernel_rfl) (by kernel_rfl) (hsub (.cons _ (.cons _ (.cons _ (.cons _ (.refl _)))))) rfl (y_move rfl) rfl ?_
        refine H_y 2 rfl (by kernel_rfl) (by kernel_rfl) (by kernel_rfl) (hsub (.cons _ (.cons _ (.cons _ (.cons _ (.refl _)))))) rfl (y_move rfl) rfl ?_
        refine H_one 3 rfl (by kernel_rfl) rfl (op_call (f := fa) (first := []) (cap := cap) rfl rfl hask.1 rfl ?_)
        refine FnS.mono (FnS.sub (hsub_pick [1, 0] rfl) (hask.2 true _ _ _ h (hsub (.cons _ (.cons _ (.refl _)))))) ?_
        rintro _ _ ⟨rfl, rfl⟩
        refine ⟨_, rfl, ?_⟩
        refine ⟨hsub (.cons _ (.cons _ (.cons _ (.cons _ (.refl _))))), ?_⟩
        refine H_y 4 rfl (by kernel_rfl) (by kernel_rfl) (by kernel_rfl) (hsub (.cons _ (.cons _ (.cons _ (.cons _ (.refl _)))))) rfl (y_not rfl) rfl ?_
        refine H_y 5 rfl (by kernel_rfl) (by kernel_rfl) (by kernel_rfl) (hsub (.cons _ (.cons _ (.cons _ (.cons _ (.refl _)))))) rfl (y_move rfl) rfl ?_
        refine H_case 34 rfl (fun hg9_6 => ?_) (fun hg9_6 => ?_)
        · skip
          refine H_skip 6 rfl (by kernel_rfl) (by kernel_rfl) (by kernel_rfl) (hsub (.cons _ (.cons _ (.cons _ (.cons _ (.refl _)))))) rfl rfl ?_
          refine H_skip 7 rfl (by kernel_rfl) (by kernel_rfl) (by kernel_rfl) (hsub (.cons _ (.cons _ (.cons _ (.cons _ (.refl _)))))) rfl rfl ?_
          refine H_skip 8 rfl (by kernel_rfl) (by kernel_rfl) (by kernel_rfl) (hsub (.cons _ (.cons _ (.cons _ (.cons _ (.refl _)))))) rfl rfl ?_
          refine H_skip 9 rfl (by kernel_rfl) (by kernel_rfl) (by kernel_rfl) (hsub (.cons _ (.cons _ (.cons _ (.cons _ (.refl _)))))) rfl rfl ?_
          refine H_skip 10 rfl (by kernel_rfl) (by kernel_rfl) (by kernel_rfl) (hsub (.cons _ (.cons _ (.cons _ (.cons _ (.refl _)))))) rfl rfl ?_
          refine H_skip 11 rfl (by kernel_rfl) (by kernel_rfl) (by kernel_rfl) (hsub (.cons _ (.cons _ (.cons _ (.cons _ (.refl _)))))) rfl rfl ?_
          refine H_skip 12 rfl (by kernel_rfl) (by kernel_rfl) (by kernel_rfl) (hsub (.cons _ (.cons _ (.cons _ (.cons _ (.refl _)))))) rfl rfl ?_
          refine H_skip 13 rfl (by kernel_rfl) (by kernel_rfl) (by kernel_rfl) (hsub (.cons _ (.cons _ (.cons _ (.cons _ (.refl _)))))) rfl rfl ?_
          refine H_y 14 rfl (by kernel_rfl) (by kernel_rfl) (by kernel_rfl) (hsub (.cons _ (.cons _ (.cons _ (.cons _ (.refl _)))))) rfl (y_pick_t rfl rfl) rfl ?_
          refine H_y 15 rfl (by kernel_rfl) (by kernel_rfl) (by kernel_rfl) (hsub (.cons _ (.cons _ (.cons _ (.cons _ (.refl _)))))) rfl (y_indexA rfl rfl Try.underlying62 sz_4 (by omega) (by omega) (show _ = 1 from rfl)) rfl ?_
          refine H_one 16 rfl (by kernel_rfl) rfl (op_store1 2 0 rfl rfl rfl sz_4 rfl (Nat.le_of_ble_eq_true rfl) ?_)
          refine ⟨hsub (.cons _ (.cons _ (.cons _ (.cons _ (.refl _))))), ?_⟩
          refine H_done (by kernel_rfl) ?_
          refine C_region ?_
          refine L_y rfl (y_add rfl rfl (show _ = (2 : Int) from rfl)) rfl ?_
          refine L_y rfl (y_move rfl) rfl ?_
          refine L_nil ?_
          refine In_round ?_
          refine C_seq ?_
          refine C_region ?_
          refine L_y rfl (y_lss rfl rfl) rfl ?_
          refine L_nil ?_
          refine C_seq ?_
          refine C_cond_f rfl ?_
          refine C_exit ?_
          refine C_seq ?_
          refine C_seq ?_
          refine C_region ?_
          refine L_y rfl (y_indexA rfl rfl Try.underlying62 sz_4 (by omega) (by omega) (show _ = 0 from rfl)) rfl ?_
          refine L_y rfl (y_load rfl ag_4 (sees 2 0 rfl) rfl) rfl ?_
          refine L_y rfl (y_not rfl) rfl ?_
          refine L_y rfl (y_move rfl) rfl ?_
          refine L_skip rfl rfl ?_
          refine L_skip rfl rfl ?_
          refine L_skip rfl rfl ?_
          refine L_y rfl (y_pick_f rfl rfl) rfl ?_
          refine L_nil ?_
          refine C_cond_f rfl ?_
          refine C_skip ?_
          refine C_seq ?_
          refine C_seq ?_
          refine C_region ?_
          refine L_y rfl (y_move rfl) rfl ?_
          refine L_nil ?_
          refine C_block ?_
          refine C_loopIn (In_round ?_)
          refine C_seq ?_
          refine C_region ?_
          refine L_y rfl (y_lss rfl rfl) rfl ?_
          refine L_nil ?_
          refine C_seq ?_
          refine C_cond_t rfl ?_
          refine C_skip ?_
          refine C_seq ?_
          refine C_block ?_
          refine C_seq ?_
          refine C_region ?_
          refine L_y rfl (y_move rfl) rfl ?_
          refine L_y rfl (y_assign rfl) rfl ?_
          refine L_nil ?_
          refine C_seq ?_
          refine C_region ?_
          refine L_y rfl (y_move rfl) rfl ?_
          refine L_y rfl (y_indexA rfl rfl Try.underlying62 sz_4 (by omega) (by omega) (show _ = 0 from rfl)) rfl ?_
          refine L_y rfl (y_load rfl ag_4 (sees 2 0 rfl) rfl) rfl ?_
          refine L_nil ?_
          refine C_cond_t rfl ?_
          refine C_region ?_
          refine L_y rfl (y_move rfl) rfl ?_
          refine L_y rfl (y_move rfl) rfl ?_
          refine L_y rfl (y_nilCheck rfl) rfl ?_
          refine L_y rfl (y_fieldAddr rfl fl_110_0) rfl ?_
          refine L_y rfl (y_indexA rfl rfl Try.underlying108 sz_107 (by omega) (by omega) (show _ = 0 from rfl)) rfl ?_
          refine L_y rfl (y_fieldAddr rfl fl_107_1) rfl ?_
          refine L_y rfl (y_load rfl ag_105 (sees 0 0 rfl) rfl) rfl ?_
          refine L_y rfl (y_move rfl) rfl ?_
          refine L_op rfl (op_delete 0 1 rfl rfl rfl Try.underlying105 Try.underlying3 rfl rfl ?_)
          refine L_nil ?_
          refine C_region ?_
          refine L_y rfl (y_add rfl rfl (show _ = (1 : Int) from rfl)) rfl ?_
          refine L_y rfl (y_move rfl) rfl ?_
          refine L_nil ?_
          refine In_round ?_
          refine C_seq ?_
          refine C_region ?_
          refine L_y rfl (y_lss rfl rfl) rfl ?_
          refine L_nil ?_
          refine C_seq ?_
          refine C_cond_t rfl ?_
          refine C_skip ?_
          refine C_seq ?_
          refine C_block ?_
          refine C_seq ?_
          refine C_region ?_
          refine L_y rfl (y_move rfl) rfl ?_
          refine L_y rfl (y_assign rfl) rfl ?_
          refine L_nil ?_
          refine C_seq ?_
          refine C_region ?_
          refine L_y rfl (y_move rfl) rfl ?_
          refine L_y rfl (y_indexA rfl rfl Try.underlying62 sz_4 (by omega) (by omega) (show _ = 1 from rfl)) rfl ?_
          refine L_y rfl (y_load rfl ag_4 (sees 2 0 rfl) rfl) rfl ?_
          refine L_nil ?_
          refine C_cond_t rfl ?_
          refine C_region ?_
          refine L_y rfl (y_move rfl) rfl ?_
          refine L_y rfl (y_move rfl) rfl ?_
          refine L_y rfl (y_nilCheck rfl) rfl ?_
          refine L_y rfl (y_fieldAddr rfl fl_110_0) rfl ?_
          refine L_y rfl (y_indexA rfl rfl Try.underlying108 sz_107 (by omega) (by omega) (show _ = 2 from rfl)) rfl ?_
          refine L_y rfl (y_fieldAddr rfl fl_107_1) rfl ?_
          refine L_y rfl (y_load rfl ag_105 (sees 0 0 rfl) rfl) rfl ?_
          refine L_y rfl (y_move rfl) rfl ?_
          refine L_op rfl (op_delete 0 2 rfl rfl rfl Try.underlying105 Try.underlying3 rfl rfl ?_)
          refine L_nil ?_
          refine C_region ?_
          refine L_y rfl (y_add rfl rfl (show _ = (2 : Int) from rfl)) rfl ?_
          refine L_y rfl (y_move rfl) rfl ?_
          refine L_nil ?_
          refine In_round ?_
          refine C_seq ?_
          refine C_region ?_
          refine L_y rfl (y_lss rfl rfl) rfl ?_
          refine L_nil ?_
          refine C_seq ?_
          refine C_cond_f rfl ?_
          refine C_exit ?_
          refine C_seq ?_
          refine C_region ?_
          refine L_y rfl (y_assign rfl) rfl ?_
          refine L_nil ?_
          refine C_ret ?_
          refine B_ret (rv_tmp rfl rv_nil) ((hsub (.cons_cons _ (.cons_cons _ (.cons _ (.cons _ (.refl _)))))).trans (hsub_pick [0, 0] rfl)) ?_
          have e0 : putD A ask n s false = true := by simp_all [putD, pd]
          have e1 : putD A ask n s true = true := by simp_all [putD, pd, pA]
          have ea : putA A ask n s = A := by simp_all [putA, pA]
          have em : putm m A ask n s = m.mark n true true := by simp [putm, hn, e0, e1]
          exact ⟨ret_int (by simp [putE, hn, e0, e1]), D, h.to (by simp [putDa, hn, ea]), by rw [em]; rfl⟩
        · skip
          refine H_y 6 rfl (by kernel_rfl) (by kernel_rfl) (by kernel_rfl) (hsub (.cons _ (.cons _ (.cons _ (.cons _ (.refl _)))))) rfl (y_move rfl) rfl ?_
          refine H_y 7 rfl (by kernel_rfl) (by kernel_rfl) (by kernel_rfl) (hsub (.cons _ (.cons _ (.cons _ (.cons _ (.refl _)))))) rfl (y_nilCheck rfl) rfl ?_
          refine H_y 8 rfl (by kernel_rfl) (by kernel_rfl) (by kernel_rfl) (hsub (.cons _ (.cons _ (.cons _ (.cons _ (.refl _)))))) rfl (y_fieldAddr rfl fl_107_0) rfl ?_
          refine H_y 10 rfl (by kernel_rfl) (by kernel_rfl) (by kernel_rfl) (hsub (.cons _ (.cons _ (.cons _ (.cons _ (.refl _)))))) rfl (y_move rfl) rfl ?_
          refine H_two 9 11 rfl rfl (by kernel_rfl) rfl rfl ?_ ?_
          · refine op_y (y_load rfl ag_24 (sees 0 0 rfl) rfl) rfl ?_
            refine ⟨hsub (.cons _ (.cons _ (.cons _ (.cons _ (.refl _))))), ?_⟩
            refine H_one 11 rfl (by kernel_rfl) rfl (op_y (y_loadA rfl ag_32 sz_32 (sees 3 0 rfl) (by rw [bs_length, hs]; decide) (bs_whole0 _ hs)) rfl ?_)
            refine ⟨hsub (.cons _ (.cons _ (.cons _ (.cons _ (.refl _))))), ?_⟩
            refine H_one 12 rfl (by kernel_rfl) rfl (op_call rfl rfl (fun a w => Try.call62 a w) rfl ?_)
            refine ((write_d h true n s hs (by have := hQ true; omega)).sub (hsub_pick [1] rfl)).mono ?_
            rintro _ _ ⟨rfl, D1, h1, rfl⟩
            refine ⟨_, rfl, ?_⟩
            refine ⟨hsub (.cons _ (.cons _ (.cons _ (.cons _ (.refl _))))), ?_⟩
            refine H_y 13 rfl (by kernel_rfl) (by kernel_rfl) (by kernel_rfl) (hsub (.cons _ (.cons _ (.cons _ (.cons _ (.refl _)))))) rfl (y_eqi rfl rfl) rfl ?_
            refine H_case 42 rfl (fun hg9_14 => ?_) (fun hg9_14 => ?_)
            · skip
              refine H_y 14 rfl (by kernel_rfl) (by kernel_rfl) (by kernel_rfl) (hsub (.cons _ (.cons _ (.cons _ (.cons _ (.refl _)))))) rfl (y_pick_f rfl rfl) rfl ?_
              refine H_y 15 rfl (by kernel_rfl) (by kernel_rfl) (by kernel_rfl) (hsub (.cons _ (.cons _ (.cons _ (.cons _ (.refl _)))))) rfl (y_indexA rfl rfl Try.underlying62 sz_4 (by omega) (by omega) (show _ = 1 from rfl)) rfl ?_
              refine H_one 16 rfl (by kernel_rfl) rfl (op_store1 2 0 rfl rfl rfl sz_4 rfl (Nat.le_of_ble_eq_true rfl) ?_)
              refine ⟨hsub (.cons _ (.cons _ (.cons _ (.cons _ (.refl _))))), ?_⟩
              refine H_done (by kernel_rfl) ?_
              refine C_region ?_
              refine L_y rfl (y_add rfl rfl (show _ = (2 : Int) from rfl)) rfl ?_
              refine L_y rfl (y_move rfl) rfl ?_
              refine L_nil ?_
              refine In_round ?_
              refine C_seq ?_
              refine C_region ?_
              refine L_y rfl (y_lss rfl rfl) rfl ?_
              refine L_nil ?_
              refine C_seq ?_
              refine C_cond_f rfl ?_
              refine C_exit ?_
              refine C_seq ?_
              refine C_seq ?_
              refine C_region ?_
              refine L_y rfl (y_indexA rfl rfl Try.underlying62 sz_4 (by omega) (by omega) (show _ = 0 from rfl)) rfl ?_
              refine L_y rfl (y_load rfl ag_4 (sees 2 0 rfl) rfl) rfl ?_
              refine L_y rfl (y_not rfl) rfl ?_
              refine L_y rfl (y_move rfl) rfl ?_
              refine L_skip rfl rfl ?_
              refine L_skip rfl rfl ?_
              refine L_skip rfl rfl ?_
              refine L_y rfl (y_pick_f rfl rfl) rfl ?_
              refine L_nil ?_
              refine C_cond_f rfl ?_
              refine C_skip ?_
              refine C_seq ?_
              refine C_seq ?_
              refine C_region ?_
              refine L_y rfl (y_move rfl) rfl ?_
              refine L_nil ?_
              refine C_block ?_
              refine C_loopIn (In_round ?_)
              refine C_seq ?_
              refine C_region ?_
              refine L_y rfl (y_lss rfl rfl) rfl ?_
              refine L_nil ?_
              refine C_seq ?_
              refine C_cond_t rfl ?_
              refine C_skip ?_
              refine C_seq ?_
              refine C_block ?_
              refine C_seq ?_
              refine C_region ?_
              refine L_y rfl (y_move rfl) rfl ?_
              refine L_y rfl (y_assign rfl) rfl ?_
              refine L_nil ?_
              refine C_seq ?_
              refine C_region ?_
              refine L_y rfl (y_move rfl) rfl ?_
              refine L_y rfl (y_indexA rfl rfl Try.underlying62 sz_4 (by omega) (by omega) (show _ = 0 from rfl)) rfl ?_
              refine L_y rfl (y_load rfl ag_4 (sees 2 0 rfl) rfl) rfl ?_
              refine L_nil ?_
              refine C_cond_t rfl ?_
              refine C_region ?_
              refine L_y rfl (y_move rfl) rfl ?_
              refine L_y rfl (y_move rfl) rfl ?_
              refine L_y rfl (y_nilCheck rfl) rfl ?_
              refine L_y rfl (y_fieldAddr rfl fl_110_0) rfl ?_
              refine L_y rfl (y_indexA rfl rfl Try.underlying108 sz_107 (by omega) (by omega) (show _ = 0 from rfl)) rfl ?_
              refine L_y rfl (y_fieldAddr rfl fl_107_1) rfl ?_
              refine L_y rfl (y_load rfl ag_105 (sees 1 0 rfl) rfl) rfl ?_
              refine L_y rfl (y_move rfl) rfl ?_
              refine L_op rfl (op_delete 1 1 rfl rfl rfl Try.underlying105 Try.underlying3 rfl rfl ?_)
              refine L_nil ?_
              refine C_region ?_
              refine L_y rfl (y_add rfl rfl (show _ = (1 : Int) from rfl)) rfl ?_
              refine L_y rfl (y_move rfl) rfl ?_
              refine L_nil ?_
              refine In_round ?_
              refine C_seq ?_
              refine C_region ?_
              refine L_y rfl (y_lss rfl rfl) rfl ?_
              refine L_nil ?_
              refine C_seq ?_
              refine C_cond_t rfl ?_
              refine C_skip ?_
              refine C_seq ?_
              refine C_block ?_
              refine C_seq ?_
              refine C_region ?_
              refine L_y rfl (y_move rfl) rfl ?_
              refine L_y rfl (y_assign rfl) rfl ?_
              refine L_nil ?_
              refine C_seq ?_
              refine C_region ?_
              refine L_y rfl (y_move rfl) rfl ?_
              refine L_y rfl (y_indexA rfl rfl Try.underlying62 sz_4 (by omega) (by omega) (show _ = 1 from rfl)) rfl ?_
              refine L_y rfl (y_load rfl ag_4 (sees 2 0 rfl) rfl) rfl ?_
              refine L_nil ?_
              refine C_cond_t rfl ?_
              refine C_region ?_
              refine L_y rfl (y_move rfl) rfl ?_
              refine L_y rfl (y_move rfl) rfl ?_
              refine L_y rfl (y_nilCheck rfl) rfl ?_
              refine L_y rfl (y_fieldAddr rfl fl_110_0) rfl ?_
              refine L_y rfl (y_indexA rfl rfl Try.underlying108 sz_107 (by omega) (by omega) (show _ = 2 from rfl)) rfl ?_
              refine L_y rfl (y_fieldAddr rfl fl_107_1) rfl ?_
              refine L_y rfl (y_load rfl ag_105 (sees 1 0 rfl) rfl) rfl ?_
              refine L_y rfl (y_move rfl) rfl ?_
              refine L_op rfl (op_delete 1 2 rfl rfl rfl Try.underlying105 Try.underlying3 rfl rfl ?_)
              refine L_nil ?_
              refine C_region ?_
              refine L_y rfl (y_add rfl rfl (show _ = (2 : Int) from rfl)) rfl ?_
              refine L_y rfl (y_move rfl) rfl ?_
              refine L_nil ?_
              refine In_round ?_
              refine C_seq ?_
              refine C_region ?_
              refine L_y rfl (y_lss rfl rfl) rfl ?_
              refine L_nil ?_
              refine C_seq ?_
              refine C_cond_f rfl ?_
              refine C_exit ?_
              refine C_seq ?_
              refine C_region ?_
              refine L_y rfl (y_assign rfl) rfl ?_
              refine L_nil ?_
              refine C_ret ?_
              refine B_ret (rv_tmp rfl rv_nil) ((hsub (.cons_cons _ (.cons_cons _ (.cons _ (.cons _ (.refl _)))))).trans (hsub_pick [1, 0] rfl)) ?_
              have e0 : putD A ask n s false = true := by simp_all [putD, pd]
              have e1 : putD A ask n s true = true := by simp_all [putD, pd, pA]
              have ea : putA A ask n s = (A.write true n s) := by simp_all [putA, pA]
              have em : putm m A ask n s = m.mark n true true := by simp [putm, hn, e0, e1]
              exact ⟨ret_int (by simp [putE, hn, e0, e1]), D1, h1.to (by simp [putDa, hn, ea]), by rw [em]; rfl⟩
            · skip
              refine H_y 14 rfl (by kernel_rfl) (by kernel_rfl) (by kernel_rfl) (hsub (.cons _ (.cons _ (.cons _ (.cons _ (.refl _)))))) rfl (y_pick_f rfl rfl) rfl ?_
              refine H_y 15 rfl (by kernel_rfl) (by kernel_rfl) (by kernel_rfl) (hsub (.cons _ (.cons _ (.cons _ (.cons _ (.refl _)))))) rfl (y_indexA rfl rfl Try.underlying62 sz_4 (by omega) (by omega) (show _ = 1 from rfl)) rfl ?_
              refine H_one 16 rfl (by kernel_rfl) rfl (op_store1 2 0 rfl rfl rfl sz_4 rfl (Nat.le_of_ble_eq_true rfl) ?_)
              refine ⟨hsub (.cons _ (.cons _ (.cons _ (.cons _ (.refl _))))), ?_⟩
              refine H_done (by kernel_rfl) ?_
              refine C_region ?_
              refine L_y rfl (y_add rfl rfl (show _ = (2 : Int) from rfl)) rfl ?_
              refine L_y rfl (y_move rfl) rfl ?_
              refine L_nil ?_
              refine In_round ?_
              refine C_seq ?_
              refine C_region ?_
              refine L_y rfl (y_lss rfl rfl) rfl ?_
              refine L_nil ?_
              refine C_seq ?_
              refine C_cond_f rfl ?_
              refine C_exit ?_
              refine C_seq ?_
              refine C_seq ?_
              refine C_region ?_
              refine L_y rfl (y_indexA rfl rfl Try.underlying62 sz_4 (by omega) (by omega) (show _ = 0 from rfl)) rfl ?_
              refine L_y rfl (y_load rfl ag_4 (sees 2 0 rfl) rfl) rfl ?_
              refine L_y rfl (y_not rfl) rfl ?_
              refine L_y rfl (y_move rfl) rfl ?_
              refine L_skip rfl rfl ?_
              refine L_skip rfl rfl ?_
              refine L_skip rfl rfl ?_
              refine L_y rfl (y_pick_f rfl rfl) rfl ?_
              refine L_nil ?_
              refine C_cond_f rfl ?_
              refine C_skip ?_
              refine C_seq ?_
              refine C_seq ?_
              refine C_region ?_
              refine L_y rfl (y_move rfl) rfl ?_
              refine L_nil ?_
              refine C_block ?_
              refine C_loopIn (In_round ?_)
              refine C_seq ?_
              refine C_region ?_
              refine L_y rfl (y_lss rfl rfl) rfl ?_
              refine L_nil ?_
              refine C_seq ?_
              refine C_cond_t rfl ?_
              refine C_skip ?_
              refine C_seq ?_
              refine C_block ?_
              refine C_seq ?_
              refine C_region ?_
              refine L_y rfl (y_move rfl) rfl ?_
              refine L_y rfl (y_assign rfl) rfl ?_
              refine L_nil ?_
              refine C_seq ?_
              refine C_region ?_
              refine L_y rfl (y_move rfl) rfl ?_
              refine L_y rfl (y_indexA rfl rfl Try.underlying62 sz_4 (by omega) (by omega) (show _ = 0 from rfl)) rfl ?_
              refine L_y rfl (y_load rfl ag_4 (sees 2 0 rfl) rfl) rfl ?_
              refine L_nil ?_
              refine C_cond_t rfl ?_
              refine C_region ?_
              refine L_y rfl (y_move rfl) rfl ?_
              refine L_y rfl (y_move rfl) rfl ?_
              refine L_y rfl (y_nilCheck rfl) rfl ?_
              refine L_y rfl (y_fieldAddr rfl fl_110_0) rfl ?_
              refine L_y rfl (y_indexA rfl rfl Try.underlying108 sz_107 (by omega) (by omega) (show _ = 0 from rfl)) rfl ?_
              refine L_y rfl (y_fieldAddr rfl fl_107_1) rfl ?_
              refine L_y rfl (y_load rfl ag_105 (sees 1 0 rfl) rfl) rfl ?_
              refine L_y rfl (y_move rfl) rfl ?_
              refine L_op rfl (op_delete 1 1 rfl rfl rfl Try.underlying105 Try.underlying3 rfl rfl ?_)
              refine L_nil ?_
              refine C_region ?_
              refine L_y rfl (y_add rfl rfl (show _ = (1 : Int) from rfl)) rfl ?_
              refine L_y rfl (y_move rfl) rfl ?_
              refine L_nil ?_
              refine In_round ?_
              refine C_seq ?_
              refine C_region ?_
              refine L_y rfl (y_lss rfl rfl) rfl ?_
              refine L_nil ?_
              refine C_seq ?_
              refine C_cond_t rfl ?_
              refine C_skip ?_
              refine C_seq ?_
              refine C_block ?_
              refine C_seq ?_
              refine C_region ?_
              refine L_y rfl (y_move rfl) rfl ?_
              refine L_y rfl (y_assign rfl) rfl ?_
              refine L_nil ?_
              refine C_seq ?_
              refine C_region ?_
              refine L_y rfl (y_move rfl) rfl ?_
              refine L_y rfl (y_indexA rfl rfl Try.underlying62 sz_4 (by omega) (by omega) (show _ = 1 from rfl)) rfl ?_
              refine L_y rfl (y_load rfl ag_4 (sees 2 0 rfl) rfl) rfl ?_
              refine L_nil ?_
              refine C_cond_f rfl ?_
              refine C_region ?_
              refine L_y rfl (y_move rfl) rfl ?_
              refine L_y rfl (y_move rfl) rfl ?_
              refine L_y rfl (y_nilCheck rfl) rfl ?_
              refine L_y rfl (y_fieldAddr rfl fl_110_0) rfl ?_
              refine L_y rfl (y_indexA rfl rfl Try.underlying108 sz_107 (by omega) (by omega) (show _ = 2 from rfl)) rfl ?_
              refine L_y rfl (y_fieldAddr rfl fl_107_1) rfl ?_
              refine L_y rfl (y_load rfl ag_105 (sees 1 0 rfl) rfl) rfl ?_
              refine L_y rfl (y_move rfl) rfl ?_
              refine L_op rfl (op_mapUpdate 1 2 rfl rfl rfl Try.underlying105 Try.underlying3 rfl rfl ?_)
              refine L_nil ?_
              refine C_region ?_
              refine L_y rfl (y_add rfl rfl (show _ = (2 : Int) from rfl)) rfl ?_
              refine L_y rfl (y_move rfl) rfl ?_
              refine L_nil ?_
              refine In_round ?_
              refine C_seq ?_
              refine C_region ?_
              refine L_y rfl (y_lss rfl rfl) rfl ?_
              refine L_nil ?_
              refine C_seq ?_
              refine C_cond_f rfl ?_
              refine C_exit ?_
              refine C_seq ?_
              refine C_region ?_
              refine L_y rfl (y_assign rfl) rfl ?_
              refine L_nil ?_
              refine C_ret ?_
              refine B_ret (rv_tmp rfl rv_nil) ((hsub (.cons_cons _ (.cons_cons _ (.cons _ (.cons _ (.refl _)))))).trans (hsub_pick [1, 0] rfl)) ?_
              have e0 : putD A ask n s false = true := by simp_all [putD, pd]
              have e1 : putD A ask n s true = false := by simp_all [putD, pd, pA]
              have ea : putA A ask n s = (A.write true n s) := by simp_all [putA, pA]
              have em : putm m A ask n s = m.mark n true false := by simp [putm, hn, e0, e1]
              exact ⟨ret_int (by simp [putE, hn, e0, e1]), D1, h1.to (by simp [putDa, hn, ea]), by rw [em]; rfl⟩
          · refine op_y (y_loadA rfl ag_32 sz_32 (sees 3 0 rfl) (by rw [bs_length, hs]; decide) (bs_whole0 _ hs)) rfl ?_
            refine ⟨hsub (.cons _ (.cons _ (.cons _ (.cons _ (.refl _))))), ?_⟩
            refine H_one 9 rfl (by kernel_rfl) rfl (op_y (y_load rfl ag_24 (sees 0 0 rfl) rfl) rfl ?_)
            refine ⟨hsub (.cons _ (.cons _ (.cons _ (.cons _ (.refl _))))), ?_⟩
            refine H_one 12 rfl (by kernel_rfl) rfl (op_call rfl rfl (fun a w => Try.call62 a w) rfl ?_)
            refine ((write_d h true n s hs (by have := hQ true; omega)).sub (hsub_pick [1] rfl)).mono ?_
            rintro _ _ ⟨rfl, D2, h2, rfl⟩
            refine ⟨_, rfl, ?_⟩
            refine ⟨hsub (.cons _ (.cons _ (.cons _ (.cons _ (.refl _))))), ?_⟩
            refine H_y 13 rfl (by kernel_rfl) (by kernel_rfl) (by kernel_rfl) (hsub (.cons _ (.cons _ (.cons _ (.cons _ (.refl _)))))) rfl (y_eqi rfl rfl) rfl ?_
            refine H_case 42 rfl (fun hg9_14 => ?_) (fun hg9_14 => ?_)
            · skip
              refine H_y 14 rfl (by kernel_rfl) (by kernel_rfl) (by kernel_rfl) (hsub (.cons _ (.cons _ (.cons _ (.cons _ (.refl _)))))) rfl (y_pick_f rfl rfl) rfl ?_
              refine H_y 15 rfl (by kernel_rfl) (by kernel_rfl) (by kernel_rfl) (hsub (.cons _ (.cons _ (.cons _ (.cons _ (.refl _)))))) rfl (y_indexA rfl rfl Try.underlying62 sz_4 (by omega) (by omega) (show _ = 1 from rfl)) rfl ?_
              refine H_one 16 rfl (by kernel_rfl) rfl (op_store1 2 0 rfl rfl rfl sz_4 rfl (Nat.le_of_ble_eq_true rfl) ?_)
              refine ⟨hsub (.cons _ (.cons _ (.cons _ (.cons _ (.refl _))))), ?_⟩
              refine H_done (by kernel_rfl) ?_
              refine C_region ?_
              refine L_y rfl (y_add rfl rfl (show _ = (2 : Int) from rfl)) rfl ?_
              refine L_y rfl (y_move rfl) rfl ?_
              refine L_nil ?_
              refine In_round ?_
              refine C_seq ?_
              refine C_region ?_
              refine L_y rfl (y_lss rfl rfl) rfl ?_
              refine L_nil ?_
              refine C_seq ?_
              refine C_cond_f rfl ?_
              refine C_exit ?_
              refine C_seq ?_
              refine C_seq ?_
              refine C_region ?_
              refine L_y rfl (y_indexA rfl rfl Try.underlying62 sz_4 (by omega) (by omega) (show _ = 0 from rfl)) rfl ?_
              refine L_y rfl (y_load rfl ag_4 (sees 2 0 rfl) rfl) rfl ?_
              refine L_y rfl (y_not rfl) rfl ?_
              refine L_y rfl (y_move rfl) rfl ?_
              refine L_skip rfl rfl ?_
              refine L_skip rfl rfl ?_
              refine L_skip rfl rfl ?_
              refine L_y rfl (y_pick_f rfl rfl) rfl ?_
              refine L_nil ?_
              refine C_cond_f rfl ?_
              refine C_skip ?_
              refine C_seq ?_
              refine C_seq ?_
              refine C_region ?_
              refine L_y rfl (y_move rfl) rfl ?_
              refine L_nil ?_
              refine C_block ?_
              refine C_loopIn (In_round ?_)
              refine C_seq ?_
              refine C_region ?_
              refine L_y rfl (y_lss rfl rfl) rfl ?_
              refine L_nil ?_
              refine C_seq ?_
              refine C_cond_t rfl ?_
              refine C_skip ?_
              refine C_seq ?_
              refine C_block ?_
              refine C_seq ?_
              refine C_region ?_
              refine L_y rfl (y_move rfl) rfl ?_
              refine L_y rfl (y_assign rfl) rfl ?_
              refine L_nil ?_
              refine C_seq ?_
              refine C_region ?_
              refine L_y rfl (y_move rfl) rfl ?_
              refine L_y rfl (y_indexA rfl rfl Try.underlying62 sz_4 (by omega) (by omega) (show _ = 0 from rfl)) rfl ?_
              refine L_y rfl (y_load rfl ag_4 (sees 2 0 rfl) rfl) rfl ?_
              refine L_nil ?_
              refine C_cond_t rfl ?_
              refine C_region ?_
              refine L_y rfl (y_move rfl) rfl ?_
              refine L_y rfl (y_move rfl) rfl ?_
              refine L_y rfl (y_nilCheck rfl) rfl ?_
              refine L_y rfl (y_fieldAddr rfl fl_110_0) rfl ?_
              refine L_y rfl (y_indexA rfl rfl Try.underlying108 sz_107 (by omega) (by omega) (show _ = 0 from rfl)) rfl ?_
              refine L_y rfl (y_fieldAddr rfl fl_107_1) rfl ?_
              refine L_y rfl (y_load rfl ag_105 (sees 1 0 rfl) rfl) rfl ?_
              refine L_y rfl (y_move rfl) rfl ?_
              refine L_op rfl (op_delete 1 1 rfl rfl rfl Try.underlying105 Try.underlying3 rfl rfl ?_)
              refine L_nil ?_
              refine C_region ?_
              refine L_y rfl (y_add rfl rfl (show _ = (1 : Int) from rfl)) rfl ?_
              refine L_y rfl (y_move rfl) rfl ?_
              refine L_nil ?_
              refine In_round ?_
              refine C_seq ?_
              refine C_region ?_
              refine L_y rfl (y_lss rfl rfl) rfl ?_
              refine L_nil ?_
              refine C_seq ?_
              refine C_cond_t rfl ?_
              refine C_skip ?_
              refine C_seq ?_
              refine C_block ?_
              refine C_seq ?_
              refine C_region ?_
              refine L_y rfl (y_move rfl) rfl ?_
              refine L_y rfl (y_assign rfl) rfl ?_
              refine L_nil ?_
              refine C_seq ?_
              refine C_region ?_
              refine L_y rfl (y_move rfl) rfl ?_
              refine L_y rfl (y_indexA rfl rfl Try.underlying62 sz_4 (by omega) (by omega) (show _ = 1 from rfl)) rfl ?_
              refine L_y rfl (y_load rfl ag_4 (sees 2 0 rfl) rfl) rfl ?_
              refine L_nil ?_
              refine C_cond_t rfl ?_
              refine C_region ?_
              refine L_y rfl (y_move rfl) rfl ?_
              refine L_y rfl (y_move rfl) rfl ?_
              refine L_y rfl (y_nilCheck rfl) rfl ?_
              refine L_y rfl (y_fieldAddr rfl fl_110_0) rfl ?_
              refine L_y rfl (y_indexA rfl rfl Try.underlying108 sz_107 (by omega) (by omega) (show _ = 2 from rfl)) rfl ?_
              refine L_y rfl (y_fieldAddr rfl fl_107_1) rfl ?_
              refine L_y rfl (y_load rfl ag_105 (sees 1 0 rfl) rfl) rfl ?_
              refine L_y rfl (y_move rfl) rfl ?_
              refine L_op rfl (op_delete 1 2 rfl rfl rfl Try.underlying105 Try.underlying3 rfl rfl ?_)
              refine L_nil ?_
              refine C_region ?_
              refine L_y rfl (y_add rfl rfl (show _ = (2 : Int) from rfl)) rfl ?_
              refine L_y rfl (y_move rfl) rfl ?_
              refine L_nil ?_
              refine In_round ?_
              refine C_seq ?_
              refine C_region ?_
              refine L_y rfl (y_lss rfl rfl) rfl ?_
              refine L_nil ?_
              refine C_seq ?_
              refine C_cond_f rfl ?_
              refine C_exit ?_
              refine C_seq ?_
              refine C_region ?_
              refine L_y rfl (y_assign rfl) rfl ?_
              refine L_nil ?_
              refine C_ret ?_
              refine B_ret (rv_tmp rfl rv_nil) ((hsub (.cons_cons _ (.cons_cons _ (.cons _ (.cons _ (.refl _)))))).trans (hsub_pick [1, 0] rfl)) ?_
              have e0 : putD A ask n s false = true := by simp_all [putD, pd]
              have e1 : putD A ask n s true = true := by simp_all [putD, pd, pA]
              have ea : putA A ask n s = (A.write true n s) := by simp_all [putA, pA]
              have em : putm m A ask n s = m.mark n true true := by simp [putm, hn, e0, e1]
              exact ⟨ret_int (by simp [putE, hn, e0, e1]), D2, h2.to (by simp [putDa, hn, ea]), by rw [em]; rfl⟩
            · skip
              refine H_y 14 rfl (by kernel_rfl) (by kernel_rfl) (by kernel_rfl) (hsub (.cons _ (.cons _ (.cons _ (.cons _ (.refl _)))))) rfl (y_pick_f rfl rfl) rfl ?_
              refine H_y 15 rfl (by kernel_rfl) (by kernel_rfl) (by kernel_rfl) (hsub (.cons _ (.cons _ (.cons _ (.cons _ (.refl _)))))) rfl (y_indexA rfl rfl Try.underlying62 sz_4 (by omega) (by omega) (show _ = 1 from rfl)) rfl ?_
              refine H_one 16 rfl (by kernel_rfl) rfl (op_store1 2 0 rfl rfl rfl sz_4 rfl (Nat.le_of_ble_eq_true rfl) ?_)
              refine ⟨hsub (.cons _ (.cons _ (.cons _ (.cons _ (.refl _))))), ?_⟩
              refine H_done (by kernel_rfl) ?_
              refine C_region ?_
              refine L_y rfl (y_add rfl rfl (show _ = (2 : Int) from rfl)) rfl ?_
              refine L_y rfl (y_move rfl) rfl ?_
              refine L_nil ?_
              refine In_round ?_
              refine C_seq ?_
              refine C_region ?_
              refine L_y rfl (y_lss rfl rfl) rfl ?_
              refine L_nil ?_
              refine C_seq ?_
              refine C_cond_f rfl ?_
              refine C_exit ?_
              refine C_seq ?_
              refine C_seq ?_
              refine C_region ?_
              refine L_y rfl (y_indexA rfl rfl Try.underlying62 sz_4 (by omega) (by omega) (show _ = 0 from rfl)) rfl ?_
              refine L_y rfl (y_load rfl ag_4 (sees 2 0 rfl) rfl) rfl ?_
              refine L_y rfl (y_not rfl) rfl ?_
              refine L_y rfl (y_move rfl) rfl ?_
              refine L_skip rfl rfl ?_
              refine L_skip rfl rfl ?_
              refine L_skip rfl rfl ?_
              refine L_y rfl (y_pick_f rfl rfl) rfl ?_
              refine L_nil ?_
              refine C_cond_f rfl ?_
              refine C_skip ?_
              refine C_seq ?_
              refine C_seq ?_
              refine C_region ?_
              refine L_y rfl (y_move rfl) rfl ?_
              refine L_nil ?_
              refine C_block ?_
              refine C_loopIn (In_round ?_)
              refine C_seq ?_
              refine C_region ?_
              refine L_y rfl (y_lss rfl rfl) rfl ?_
              refine L_nil ?_
              refine C_seq ?_
              refine C_cond_t rfl ?_
              refine C_skip ?_
              refine C_seq ?_
              refine C_block ?_
              refine C_seq ?_
              refine C_region ?_
              refine L_y rfl (y_move rfl) rfl ?_
              refine L_y rfl (y_assign rfl) rfl ?_
              refine L_nil ?_
              refine C_seq ?_
              refine C_region ?_
              refine L_y rfl (y_move rfl) rfl ?_
              refine L_y rfl (y_indexA rfl rfl Try.underlying62 sz_4 (by omega) (by omega) (show _ = 0 from rfl)) rfl ?_
              refine L_y rfl (y_load rfl ag_4 (sees 2 0 rfl) rfl) rfl ?_
              refine L_nil ?_
              refine C_cond_t rfl ?_
              refine C_region ?_
              refine L_y rfl (y_move rfl) rfl ?_
              refine L_y rfl (y_move rfl) rfl ?_
              refine L_y rfl (y_nilCheck rfl) rfl ?_
              refine L_y rfl (y_fieldAddr rfl fl_110_0) rfl ?_
              refine L_y rfl (y_indexA rfl rfl Try.underlying108 sz_107 (by omega) (by omega) (show _ = 0 from rfl)) rfl ?_
              refine L_y rfl (y_fieldAddr rfl fl_107_1) rfl ?_
              refine L_y rfl (y_load rfl ag_105 (sees 1 0 rfl) rfl) rfl ?_
              refine L_y rfl (y_move rfl) rfl ?_
              refine L_op rfl (op_delete 1 1 rfl rfl rfl Try.underlying105 Try.underlying3 rfl rfl ?_)
              refine L_nil ?_
              refine C_region ?_
              refine L_y rfl (y_add rfl rfl (show _ = (1 : Int) from rfl)) rfl ?_
              refine L_y rfl (y_move rfl) rfl ?_
              refine L_nil ?_
              refine In_round ?_
              refine C_seq ?_
              refine C_region ?_
              refine L_y rfl (y_lss rfl rfl) rfl ?_
              refine L_nil ?_
              refine C_seq ?_
              refine C_cond_t rfl ?_
              refine C_skip ?_
              refine C_seq ?_
              refine C_block ?_
              refine C_seq ?_
              refine C_region ?_
              refine L_y rfl (y_move rfl) rfl ?_
              refine L_y rfl (y_assign rfl) rfl ?_
              refine L_nil ?_
              refine C_seq ?_
              refine C_region ?_
              refine L_y rfl (y_move rfl) rfl ?_
              refine L_y rfl (y_indexA rfl rfl Try.underlying62 sz_4 (by omega) (by omega) (show _ = 1 from rfl)) rfl ?_
              refine L_y rfl (y_load rfl ag_4 (sees 2 0 rfl) rfl) rfl ?_
              refine L_nil ?_
              refine C_cond_f rfl ?_
              refine C_region ?_
              refine L_y rfl (y_move rfl) rfl ?_
              refine L_y rfl (y_move rfl) rfl ?_
              refine L_y rfl (y_nilCheck rfl) rfl ?_
              refine L_y rfl (y_fieldAddr rfl fl_110_0) rfl ?_
              refine L_y rfl (y_indexA rfl rfl Try.underlying108 sz_107 (by omega) (by omega) (show _ = 2 from rfl)) rfl ?_
              refine L_y rfl (y_fieldAddr rfl fl_107_1) rfl ?_
              refine L_y rfl (y_load rfl ag_105 (sees 1 0 rfl) rfl) rfl ?_
              refine L_y rfl (y_move rfl) rfl ?_
              refine L_op rfl (op_mapUpdate 1 2 rfl rfl rfl Try.underlying105 Try.underlying3 rfl rfl ?_)
              refine L_nil ?_
              refine C_region ?_
              refine L_y rfl (y_add rfl rfl (show _ = (2 : Int) from rfl)) rfl ?_
              refine L_y rfl (y_move rfl) rfl ?_
              refine L_nil ?_
              refine In_round ?_
              refine C_seq ?_
              refine C_region ?_
              refine L_y rfl (y_lss rfl rfl) rfl ?_
              refine L_nil ?_
              refine C_seq ?_
              refine C_cond_f rfl ?_
              refine C_exit ?_
              refine C_seq ?_
              refine C_region ?_
              refine L_y rfl (y_assign rfl) rfl ?_
              refine L_nil ?_
              refine C_ret ?_
              refine B_ret (rv_tmp rfl rv_nil) ((hsub (.cons_cons _ (.cons_cons _ (.cons _ (.cons _ (.refl _)))))).trans (hsub_pick [1, 0] rfl)) ?_
              have e0 : putD A ask n s false = true := by simp_all [putD, pd]
              have e1 : putD A ask n s true = false := by simp_all [putD, pd, pA]
              have ea : putA A ask n s = (A.write true n s) := by simp_all [putA, pA]
              have em : putm m A ask n s = m.mark n true false := by simp [putm, hn, e0, e1]
              exact ⟨ret_int (by simp [putE, hn, e0, e1]), D2, h2.to (by simp [putDa, hn, ea]), by rw [em]; rfl⟩
      · skip
        refine C_skip ?_
        refine C_region ?_
        refine L_y rfl (y_add rfl rfl (show _ = (2 : Int) from rfl)) rfl ?_
        refine L_y rfl (y_move rfl) rfl ?_
        refine L_nil ?_
        refine In_round ?_
        refine C_seq ?_
        refine C_region ?_
        refine L_y rfl (y_lss rfl rfl) rfl ?_
        refine L_nil ?_
        refine C_seq ?_
        refine C_cond_f rfl ?_
        refine C_exit ?_
        refine C_seq ?_
        refine C_seq ?_
        refine C_region ?_
        refine L_y rfl (y_indexA rfl rfl Try.underlying62 sz_4 (by omega) (by omega) (show _ = 0 from rfl)) rfl ?_
        refine L_y rfl (y_load rfl ag_4 (sees 2 0 rfl) rfl) rfl ?_
        refine L_y rfl (y_not rfl) rfl ?_
        refine L_y rfl (y_move rfl) rfl ?_
        refine L_skip rfl rfl ?_
        refine L_skip rfl rfl ?_
        refine L_skip rfl rfl ?_
        refine L_y rfl (y_pick_f rfl rfl) rfl ?_
        refine L_nil ?_
        refine C_cond_f rfl ?_
        refine C_skip ?_
        refine C_seq ?_
        refine C_seq ?_
        refine C_region ?_
        refine L_y rfl (y_move rfl) rfl ?_
        refine L_nil ?_
        refine C_block ?_
        refine C_loopIn (In_round ?_)
        refine C_seq ?_
        refine C_region ?_
        refine L_y rfl (y_lss rfl rfl) rfl ?_
        refine L_nil ?_
        refine C_seq ?_
        refine C_cond_t rfl ?_
        refine C_skip ?_
        refine C_seq ?_
        refine C_block ?_
        refine C_seq ?_
        refine C_region ?_
        refine L_y rfl (y_move rfl) rfl ?_
        refine L_y rfl (y_assign rfl) rfl ?_
        refine L_nil ?_
        refine C_seq ?_
        refine C_region ?_
        refine L_y rfl (y_move rfl) rfl ?_
        refine L_y rfl (y_indexA rfl rfl Try.underlying62 sz_4 (by omega) (by omega) (show _ = 0 from rfl)) rfl ?_
        refine L_y rfl (y_load rfl ag_4 (sees 2 0 rfl) rfl) rfl ?_
        refine L_nil ?_
        refine C_cond_t rfl ?_
        refine C_region ?_
        refine L_y rfl (y_move rfl) rfl ?_
        refine L_y rfl (y_move rfl) rfl ?_
        refine L_y rfl (y_nilCheck rfl) rfl ?_
        refine L_y rfl (y_fieldAddr rfl fl_110_0) rfl ?_
        refine L_y rfl (y_indexA rfl rfl Try.underlying108 sz_107 (by omega) (by omega) (show _ = 0 from rfl)) rfl ?_
        refine L_y rfl (y_fieldAddr rfl fl_107_1) rfl ?_
        refine L_y rfl (y_load rfl ag_105 (sees 1 0 rfl) rfl) rfl ?_
        refine L_y rfl (y_move rfl) rfl ?_
        refine L_op rfl (op_delete 1 1 rfl rfl rfl Try.underlying105 Try.underlying3 rfl rfl ?_)
        refine L_nil ?_
        refine C_region ?_
        refine L_y rfl (y_add rfl rfl (show _ = (1 : Int) from rfl)) rfl ?_
        refine L_y rfl (y_move rfl) rfl ?_
        refine L_nil ?_
        refine In_round ?_
        refine C_seq ?_
        refine C_region ?_
        refine L_y rfl (y_lss rfl rfl) rfl ?_
        refine L_nil ?_
        refine C_seq ?_
        refine C_cond_t rfl ?_
        refine C_skip ?_
        refine C_seq ?_
        refine C_block ?_
        refine C_seq ?_
        refine C_region ?_
        refine L_y rfl (y_move rfl) rfl ?_
        refine L_y rfl (y_assign rfl) rfl ?_
        refine L_nil ?_
        refine C_seq ?_
        refine C_region ?_
        refine L_y rfl (y_move rfl) rfl ?_
        refine L_y rfl (y_indexA rfl rfl Try.underlying62 sz_4 (by omega) (by omega) (show _ = 1 from rfl)) rfl ?_
        refine L_y rfl (y_load rfl ag_4 (sees 2 0 rfl) rfl) rfl ?_
        refine L_nil ?_
        refine C_cond_f rfl ?_
        refine C_region ?_
        refine L_y rfl (y_move rfl) rfl ?_
        refine L_y rfl (y_move rfl) rfl ?_
        refine L_y rfl (y_nilCheck rfl) rfl ?_
        refine L_y rfl (y_fieldAddr rfl fl_110_0) rfl ?_
        refine L_y rfl (y_indexA rfl rfl Try.underlying108 sz_107 (by omega) (by omega) (show _ = 2 from rfl)) rfl ?_
        refine L_y rfl (y_fieldAddr rfl fl_107_1) rfl ?_
        refine L_y rfl (y_load rfl ag_105 (sees 1 0 rfl) rfl) rfl ?_
        refine L_y rfl (y_move rfl) rfl ?_
        refine L_op rfl (op_mapUpdate 1 2 rfl rfl rfl Try.underlying105 Try.underlying3 rfl rfl ?_)
        refine L_nil ?_
        refine C_region ?_
        refine L_y rfl (y_add rfl rfl (show _ = (2 : Int) from rfl)) rfl ?_
        refine L_y rfl (y_move rfl) rfl ?_
        refine L_nil ?_
        refine In_round ?_
        refine C_seq ?_
        refine C_region ?_
        refine L_y rfl (y_lss rfl rfl) rfl ?_
        refine L_nil ?_
        refine C_seq ?_
        refine C_cond_f rfl ?_
        refine C_exit ?_
        refine C_seq ?_
        refine C_region ?_
        refine L_y rfl (y_assign rfl) rfl ?_
        refine L_nil ?_
        refine C_ret ?_
        refine B_ret (rv_tmp rfl rv_nil) ((hsub (.cons_cons _ (.cons_cons _ (.cons _ (.cons _ (.refl _)))))).trans (hsub_pick [1, 0] rfl)) ?_
        have e0 : putD A ask n s false = true := by simp_all [putD, pd]
        have e1 : putD A ask n s true = false := by simp_all [putD, pd, pA]
        have ea : putA A ask n s = A := by simp_all [putA, pA]
        have em : putm m A ask n s = m.mark n true false := by simp [putm, hn, e0, e1]
        exact ⟨ret_int (by simp [putE, hn, e0, e1]), D, h.to (by simp [putDa, hn, ea]), by rw [em]; rfl⟩
    · skip
      refine H_y 6 rfl (by kernel_rfl) (by kernel_rfl) (by kernel_rfl) (hsub (.cons _ (.cons _ (.cons _ (.cons _ (.refl _)))))) rfl (y_move rfl) rfl ?_
      refine H_y 7 rfl (by kernel_rfl) (by kernel_rfl) (by kernel_rfl) (hsub (.cons _ (.cons _ (.cons _ (.cons _ (.refl _)))))) rfl (y_nilCheck rfl) rfl ?_
      refine H_y 8 rfl (by kernel_rfl) (by kernel_rfl) (by kernel_rfl) (hsub (.cons _ (.cons _ (.cons _ (.cons _ (.refl _)))))) rfl (y_fieldAddr rfl fl_107_0) rfl ?_
      refine H_y 10 rfl (by kernel_rfl) (by kernel_rfl) (by kernel_rfl) (hsub (.cons _ (.cons _ (.cons _ (.cons _ (.refl _)))))) rfl (y_move rfl) rfl ?_
      refine H_two 9 11 rfl rfl (by kernel_rfl) rfl rfl ?_ ?_
      · refine op_y (y_load rfl ag_24 (sees 0 0 rfl) rfl) rfl ?_
        refine ⟨hsub (.cons _ (.cons _ (.cons _ (.cons _ (.refl _))))), ?_⟩
        refine H_one 11 rfl (by kernel_rfl) rfl (op_y (y_loadA rfl ag_32 sz_32 (sees 3 0 rfl) (by rw [bs_length, hs]; decide) (bs_whole0 _ hs)) rfl ?_)
        refine ⟨hsub (.cons _ (.cons _ (.cons _ (.cons _ (.refl _))))), ?_⟩
        refine H_one 12 rfl (by kernel_rfl) rfl (op_call rfl rfl (fun a w => Try.call62 a w) rfl ?_)
        refine ((write_d h false n s hs (by have := hQ false; omega)).sub (hsub_pick [1] rfl)).mono ?_
        rintro _ _ ⟨rfl, D3, h3, rfl⟩
        refine ⟨_, rfl, ?_⟩
        refine ⟨hsub (.cons _ (.cons _ (.cons _ (.cons _ (.refl _))))), ?_⟩
        refine H_y 13 rfl (by kernel_rfl) (by kernel_rfl) (by kernel_rfl) (hsub (.cons _ (.cons _ (.cons _ (.cons _ (.refl _)))))) rfl (y_eqi rfl rfl) rfl ?_
        refine H_case 42 rfl (fun hg9_14 => ?_) (fun hg9_14 => ?_)
        · skip
          refine H_y 14 rfl (by kernel_rfl) (by kernel_rfl) (by kernel_rfl) (hsub (.cons _ (.cons _ (.cons _ (.cons _ (.refl _)))))) rfl (y_pick_f rfl rfl) rfl ?_
          refine H_y 15 rfl (by kernel_rfl) (by kernel_rfl) (by kernel_rfl) (hsub (.cons _ (.cons _ (.cons _ (.cons _ (.refl _)))))) rfl (y_indexA rfl rfl Try.underlying62 sz_4 (by omega) (by omega) (show _ = 0 from rfl)) rfl ?_
          refine H_one 16 rfl (by kernel_rfl) rfl (op_store1 2 0 rfl rfl rfl sz_4 rfl (Nat.le_of_ble_eq_true rfl) ?_)
          refine ⟨hsub (.cons _ (.cons _ (.cons _ (.cons _ (.refl _))))), ?_⟩
          refine H_done (by kernel_rfl) ?_
          refine C_region ?_
          refine L_y rfl (y_add rfl rfl (show _ = (1 : Int) from rfl)) rfl ?_
          refine L_y rfl (y_move rfl) rfl ?_
          refine L_nil ?_
          refine In_round ?_
          refine C_seq ?_
          refine C_region ?_
          refine L_y rfl (y_lss rfl rfl) rfl ?_
          refine L_nil ?_
          refine C_seq ?_
          refine C_cond_t rfl ?_
          refine C_skip ?_
          refine C_seq ?_
          refine C_block ?_
          refine C_seq ?_
          refine C_region ?_
          refine L_y rfl (y_move rfl) rfl ?_
          refine L_y rfl (y_assign rfl) rfl ?_
          refine L_nil ?_
          refine C_seq ?_
          refine C_region ?_
          refine L_y rfl (y_move rfl) rfl ?_
          refine L_y rfl (y_move rfl) rfl ?_
          refine L_y rfl (y_nilCheck rfl) rfl ?_
          refine L_y rfl (y_fieldAddr rfl fl_110_0) rfl ?_
          refine L_y rfl (y_indexA rfl rfl Try.underlying108 sz_107 (by omega) (by omega) (show _ = 2 from rfl)) rfl ?_
          refine L_y rfl (y_assign rfl) rfl ?_
          refine L_nil ?_
          refine C_seq ?_
          refine C_region ?_
          refine L_y rfl (y_move rfl) rfl ?_
          refine L_y rfl (y_nilCheck rfl) rfl ?_
          refine L_y rfl (y_loadA rfl ag_107 sz_107 (sees 1 0 rfl) (Nat.le_of_ble_eq_true rfl) rfl) rfl ?_
          refine L_op rfl (op_call rfl rfl (fun a w => Try.call53 a w) rfl ?_)
          refine ((there_d h3 true).sub (hsub_pick [0] rfl)).mono ?_
          rintro _ _ ⟨rfl, rfl⟩
          refine ⟨_, rfl, ?_⟩
          refine L_nil ?_
          refine C_cond rfl (fun hc2 => ?_) (fun hc2 => ?_)
          · skip
            refine C_regionH H (by kernel_rfl) ?_
            refine H_y 0 rfl (by kernel_rfl) (by kernel_rfl) (by kernel_rfl) (hsub (.cons _ (.cons _ (.cons _ (.cons _ (.refl _)))))) rfl (y_move rfl) rfl ?_
            refine H_y 1 rfl (by kernel_rfl) (by kernel_rfl) (by kernel_rfl) (hsub (.cons _ (.cons _ (.cons _ (.cons _ (.refl _)))))) rfl (y_move rfl) rfl ?_
            refine H_y 2 rfl (by kernel_rfl) (by kernel_rfl) (by kernel_rfl) (hsub (.cons _ (.cons _ (.cons _ (.cons _ (.refl _)))))) rfl (y_move rfl) rfl ?_
            refine H_one 3 rfl (by kernel_rfl) rfl (op_call (f := fa) (first := []) (cap := cap) rfl rfl hask.1 rfl ?_)
            refine FnS.mono (FnS.sub (hsub_pick [1, 0] rfl) (hask.2 true _ _ _ h3 (hsub (.cons _ (.cons _ (.refl _)))))) ?_
            rintro _ _ ⟨rfl, rfl⟩
            refine ⟨_, rfl, ?_⟩
            refine ⟨hsub (.cons _ (.cons _ (.cons _ (.cons _ (.refl _))))), ?_⟩
            refine H_y 4 rfl (by kernel_rfl) (by kernel_rfl) (by kernel_rfl) (hsub (.cons _ (.cons _ (.cons _ (.cons _ (.refl _)))))) rfl (y_not rfl) rfl ?_
            refine H_y 5 rfl (by kernel_rfl) (by kernel_rfl) (by kernel_rfl) (hsub (.cons _ (.cons _ (.cons _ (.cons _ (.refl _)))))) rfl (y_move rfl) rfl ?_
            refine H_case 34 rfl (fun hg9_6 => ?_) (fun hg9_6 => ?_)
            · skip
              refine H_skip 6 rfl (by kernel_rfl) (by kernel_rfl) (by kernel_rfl) (hsub (.cons _ (.cons _ (.cons _ (.cons _ (.refl _)))))) rfl rfl ?_
              refine H_skip 7 rfl (by kernel_rfl) (by kernel_rfl) (by kernel_rfl) (hsub (.cons _ (.cons _ (.cons _ (.cons _ (.refl _)))))) rfl rfl ?_
              refine H_skip 8 rfl (by kernel_rfl) (by kernel_rfl) (by kernel_rfl) (hsub (.cons _ (.cons _ (.cons _ (.cons _ (.refl _)))))) rfl rfl ?_
              refine H_skip 9 rfl (by kernel_rfl) (by kernel_rfl) (by kernel_rfl) (hsub (.cons _ (.cons _ (.cons _ (.cons _ (.refl _)))))) rfl rfl ?_
              refine H_skip 10 rfl (by kernel_rfl) (by kernel_rfl) (by kernel_rfl) (hsub (.cons _ (.cons _ (.cons _ (.cons _ (.refl _)))))) rfl rfl ?_
              refine H_skip 11 rfl (by kernel_rfl) (by kernel_rfl) (by kernel_rfl) (hsub (.cons _ (.cons _ (.cons _ (.cons _ (.refl _)))))) rfl rfl ?_
              refine H_skip 12 rfl (by kernel_rfl) (by kernel_rfl) (by kernel_rfl) (hsub (.cons _ (.cons _ (.cons _ (.cons _ (.refl _)))))) rfl rfl ?_
              refine H_skip 13 rfl (by kernel_rfl) (by kernel_rfl) (by kernel_rfl) (hsub (.cons _ (.cons _ (.cons _ (.cons _ (.refl _)))))) rfl rfl ?_
              refine H_y 14 rfl (by kernel_rfl) (by kernel_rfl) (by kernel_rfl) (hsub (.cons _ (.cons _ (.cons _ (.cons _ (.refl _)))))) rfl (y_pick_t rfl rfl) rfl ?_
              refine H_y 15 rfl (by kernel_rfl) (by kernel_rfl) (by kernel_rfl) (hsub (.cons _ (.cons _ (.cons _ (.cons _ (.refl _)))))) rfl (y_indexA rfl rfl Try.underlying62 sz_4 (by omega) (by omega) (show _ = 1 from rfl)) rfl ?_
              refine H_one 16 rfl (by kernel_rfl) rfl (op_store1 2 0 rfl rfl rfl sz_4 rfl (Nat.le_of_ble_eq_true rfl) ?_)
              refine ⟨hsub (.cons _ (.cons _ (.cons _ (.cons _ (.refl _))))), ?_⟩
              refine H_done (by kernel_rfl) ?_
              refine C_region ?_
              refine L_y rfl (y_add rfl rfl (show _ = (2 : Int) from rfl)) rfl ?_
              refine L_y rfl (y_move rfl) rfl ?_
              refine L_nil ?_
              refine In_round ?_
              refine C_seq ?_
              refine C_region ?_
              refine L_y rfl (y_lss rfl rfl) rfl ?_
              refine L_nil ?_
              refine C_seq ?_
              refine C_cond_f rfl ?_
              refine C_exit ?_
              refine C_seq ?_
              refine C_seq ?_
              refine C_region ?_
              refine L_y rfl (y_indexA rfl rfl Try.underlying62 sz_4 (by omega) (by omega) (show _ = 0 from rfl)) rfl ?_
              refine L_y rfl (y_load rfl ag_4 (sees 2 0 rfl) rfl) rfl ?_
              refine L_y rfl (y_not rfl) rfl ?_
              refine L_y rfl (y_move rfl) rfl ?_
              refine L_skip rfl rfl ?_
              refine L_skip rfl rfl ?_
              refine L_skip rfl rfl ?_
              refine L_y rfl (y_pick_f rfl rfl) rfl ?_
              refine L_nil ?_
              refine C_cond_f rfl ?_
              refine C_skip ?_
              refine C_seq ?_
              refine C_seq ?_
              refine C_region ?_
              refine L_y rfl (y_move rfl) rfl ?_
              refine L_nil ?_
              refine C_block ?_
              refine C_loopIn (In_round ?_)
              refine C_seq ?_
              refine C_region ?_
              refine L_y rfl (y_lss rfl rfl) rfl ?_
              refine L_nil ?_
              refine C_seq ?_
              refine C_cond_t rfl ?_
              refine C_skip ?_
              refine C_seq ?_
              refine C_block ?_
              refine C_seq ?_
              refine C_region ?_
              refine L_y rfl (y_move rfl) rfl ?_
              refine L_y rfl (y_assign rfl) rfl ?_
              refine L_nil ?_
              refine C_seq ?_
              refine C_region ?_
              refine L_y rfl (y_move rfl) rfl ?_
              refine L_y rfl (y_indexA rfl rfl Try.underlying62 sz_4 (by omega) (by omega) (show _ = 0 from rfl)) rfl ?_
              refine L_y rfl (y_load rfl ag_4 (sees 2 0 rfl) rfl) rfl ?_
              refine L_nil ?_
              refine C_cond_t rfl ?_
              refine C_region ?_
              refine L_y rfl (y_move rfl) rfl ?_
              refine L_y rfl (y_move rfl) rfl ?_
              refine L_y rfl (y_nilCheck rfl) rfl ?_
              refine L_y rfl (y_fieldAddr rfl fl_110_0) rfl ?_
              refine L_y rfl (y_indexA rfl rfl Try.underlying108 sz_107 (by omega) (by omega) (show _ = 0 from rfl)) rfl ?_
              refine L_y rfl (y_fieldAddr rfl fl_107_1) rfl ?_
              refine L_y rfl (y_load rfl ag_105 (sees 0 0 rfl) rfl) rfl ?_
              refine L_y rfl (y_move rfl) rfl ?_
              refine L_op rfl (op_delete 0 1 rfl rfl rfl Try.underlying105 Try.underlying3 rfl rfl ?_)
              refine L_nil ?_
              refine C_region ?_
              refine L_y rfl (y_add rfl rfl (show _ = (1 : Int) from rfl)) rfl ?_
              refine L_y rfl (y_move rfl) rfl ?_
              refine L_nil ?_
              refine In_round ?_
              refine C_seq ?_
              refine C_region ?_
              refine L_y rfl (y_lss rfl rfl) rfl ?_
              refine L_nil ?_
              refine C_seq ?_
              refine C_cond_t rfl ?_
              refine C_skip ?_
              refine C_seq ?_
              refine C_block ?_
              refine C_seq ?_
              refine C_region ?_
              refine L_y rfl (y_move rfl) rfl ?_
              refine L_y rfl (y_assign rfl) rfl ?_
              refine L_nil ?_
              refine C_seq ?_
              refine C_region ?_
              refine L_y rfl (y_move rfl) rfl ?_
              refine L_y rfl (y_indexA rfl rfl Try.underlying62 sz_4 (by omega) (by omega) (show _ = 1 from rfl)) rfl ?_
              refine L_y rfl (y_load rfl ag_4 (sees 2 0 rfl) rfl) rfl ?_
              refine L_nil ?_
              refine C_cond_t rfl ?_
              refine C_region ?_
              refine L_y rfl (y_move rfl) rfl ?_
              refine L_y rfl (y_move rfl) rfl ?_
              refine L_y rfl (y_nilCheck rfl) rfl ?_
              refine L_y rfl (y_fieldAddr rfl fl_110_0) rfl ?_
              refine L_y rfl (y_indexA rfl rfl Try.underlying108 sz_107 (by omega) (by omega) (show _ = 2 from rfl)) rfl ?_
              refine L_y rfl (y_fieldAddr rfl fl_107_1) rfl ?_
              refine L_y rfl (y_load rfl ag_105 (sees 0 0 rfl) rfl) rfl ?_
              refine L_y rfl (y_move rfl) rfl ?_
              refine L_op rfl (op_delete 0 2 rfl rfl rfl Try.underlying105 Try.underlying3 rfl rfl ?_)
              refine L_nil ?_
              refine C_region ?_
              refine L_y rfl (y_add rfl rfl (show _ = (2 : Int) from rfl)) rfl ?_
              refine L_y rfl (y_move rfl) rfl ?_
              refine L_nil ?_
              refine In_round ?_
              refine C_seq ?_
              refine C_region ?_
              refine L_y rfl (y_lss rfl rfl) rfl ?_
              refine L_nil ?_
              refine C_seq ?_
              refine C_cond_f rfl ?_
              refine C_exit ?_
              refine C_seq ?_
              refine C_region ?_
              refine L_y rfl (y_assign rfl) rfl ?_
              refine L_nil ?_
              refine C_ret ?_
              refine B_ret (rv_tmp rfl rv_nil) ((hsub (.cons_cons _ (.cons_cons _ (.cons _ (.cons _ (.refl _)))))).trans (hsub_pick [0, 0] rfl)) ?_
              have e0 : putD A ask n s false = true := by simp_all [putD, pd]
              have e1 : putD A ask n s true = true := by simp_all [putD, pd, pA]
              have ea : putA A ask n s = (A.write false n s) := by simp_all [putA, pA]
              have em : putm m A ask n s = m.mark n true true := by simp [putm, hn, e0, e1]
              exact ⟨ret_int (by simp [putE, hn, e0, e1]), D3, h3.to (by simp [putDa, hn, ea]), by rw [em]; rfl⟩
            · skip
              refine H_y 6 rfl (by kernel_rfl) (by kernel_rfl) (by kernel_rfl) (hsub (.cons _ (.cons _ (.cons _ (.cons _ (.refl _)))))) rfl (y_move rfl) rfl ?_
              refine H_y 7 rfl (by kernel_rfl) (by kernel_rfl) (by kernel_rfl) (hsub (.cons _ (.cons _ (.cons _ (.cons _ (.refl _)))))) rfl (y_nilCheck rfl) rfl ?_
              refine H_y 8 rfl (by kernel_rfl) (by kernel_rfl) (by kernel_rfl) (hsub (.cons _ (.cons _ (.cons _ (.cons _ (.refl _)))))) rfl (y_fieldAddr rfl fl_107_0) rfl ?_
              refine H_y 10 rfl (by kernel_rfl) (by kernel_rfl) (by kernel_rfl) (hsub (.cons _ (.cons _ (.cons _ (.cons _ (.refl _)))))) rfl (y_move rfl) rfl ?_
              refine H_two 9 11 rfl rfl (by kernel_rfl) rfl rfl ?_ ?_
              · refine op_y (y_load rfl ag_24 (sees 0 0 rfl) rfl) rfl ?_
                refine ⟨hsub (.cons _ (.cons _ (.cons _ (.cons _ (.refl _))))), ?_⟩
                refine H_one 11 rfl (by kernel_rfl) rfl (op_y (y_loadA rfl ag_32 sz_32 (sees 3 0 rfl) (by rw [bs_length, hs]; decide) (bs_whole0 _ hs)) rfl ?_)
                refine ⟨hsub (.cons _ (.cons _ (.cons _ (.cons _ (.refl _))))), ?_⟩
                refine H_one 12 rfl (by kernel_rfl) rfl (op_call rfl rfl (fun a w => Try.call62 a w) rfl ?_)
                refine ((write_d h3 true n s hs (by have := hQ true; have q2 := Da.write_many A false n s true; omega)).sub (hsub_pick [1] rfl)).mono ?_
                rintro _ _ ⟨rfl, D4, h4, rfl⟩
                refine ⟨_, rfl, ?_⟩
                refine ⟨hsub (.cons _ (.cons _ (.cons _ (.cons _ (.refl _))))), ?_⟩
                refine H_y 13 rfl (by kernel_rfl) (by kernel_rfl) (by kernel_rfl) (hsub (.cons _ (.cons _ (.cons _ (.cons _ (.refl _)))))) rfl (y_eqi rfl rfl) rfl ?_
                refine H_case 42 rfl (fun hg9_14 => ?_) (fun hg9_14 => ?_)
                · skip
                  refine H_y 14 rfl (by kernel_rfl) (by kernel_rfl) (by kernel_rfl) (hsub (.cons _ (.cons _ (.cons _ (.cons _ (.refl _)))))) rfl (y_pick_f rfl rfl) rfl ?_
                  refine H_y 15 rfl (by kernel_rfl) (by kernel_rfl) (by kernel_rfl) (hsub (.cons _ (.cons _ (.cons _ (.cons _ (.refl _)))))) rfl (y_indexA rfl rfl Try.underlying62 sz_4 (by omega) (by omega) (show _ = 1 from rfl)) rfl ?_
                  refine H_one 16 rfl (by kernel_rfl) rfl (op_store1 2 0 rfl rfl rfl sz_4 rfl (Nat.le_of_ble_eq_true rfl) ?_)
                  refine ⟨hsub (.cons _ (.cons _ (.cons _ (.cons _ (.refl _))))), ?_⟩
                  refine H_done (by kernel_rfl) ?_
                  refine C_region ?_
                  refine L_y rfl (y_add rfl rfl (show _ = (2 : Int) from rfl)) rfl ?_
                  refine L_y rfl (y_move rfl) rfl ?_
                  refine L_nil ?_
                  refine In_round ?_
                  refine C_seq ?_
                  refine C_region ?_
                  refine L_y rfl (y_lss rfl rfl) rfl ?_
                  refine L_nil ?_
                  refine C_seq ?_
                  refine C_cond_f rfl ?_
                  refine C_exit ?_
                  refine C_seq ?_
                  refine C_seq ?_
                  refine C_region ?_
                  refine L_y rfl (y_indexA rfl rfl Try.underlying62 sz_4 (by omega) (by omega) (show _ = 0 from rfl)) rfl ?_
                  refine L_y rfl (y_load rfl ag_4 (sees 2 0 rfl) rfl) rfl ?_
                  refine L_y rfl (y_not rfl) rfl ?_
                  refine L_y rfl (y_move rfl) rfl ?_
                  refine L_skip rfl rfl ?_
                  refine L_skip rfl rfl ?_
                  refine L_skip rfl rfl ?_
                  refine L_y rfl (y_pick_f rfl rfl) rfl ?_
                  refine L_nil ?_
                  refine C_cond_f rfl ?_
                  refine C_skip ?_
                  refine C_seq ?_
                  refine C_seq ?_
                  refine C_region ?_
                  refine L_y rfl (y_move rfl) rfl ?_
                  refine L_nil ?_
                  refine C_block ?_
                  refine C_loopIn (In_round ?_)
                  refine C_seq ?_
                  refine C_region ?_
                  refine L_y rfl (y_lss rfl rfl) rfl ?_
                  refine L_nil ?_
                  refine C_seq ?_
                  refine C_cond_t rfl ?_
                  refine C_skip ?_
                  refine C_seq ?_
                  refine C_block ?_
                  refine C_seq ?_
                  refine C_region ?_
                  refine L_y rfl (y_move rfl) rfl ?_
                  refine L_y rfl (y_assign rfl) rfl ?_
                  refine L_nil ?_
                  refine C_seq ?_
                  refine C_region ?_
                  refine L_y rfl (y_move rfl) rfl ?_
                  refine L_y rfl (y_indexA rfl rfl Try.underlying62 sz_4 (by omega) (by omega) (show _ = 0 from rfl)) rfl ?_
                  refine L_y rfl (y_load rfl ag_4 (sees 2 0 rfl) rfl) rfl ?_
                  refine L_nil ?_
                  refine C_cond_t rfl ?_
                  refine C_region ?_
                  refine L_y rfl (y_move rfl) rfl ?_
                  refine L_y rfl (y_move rfl) rfl ?_
                  refine L_y rfl (y_nilCheck rfl) rfl ?_
                  refine L_y rfl (y_fieldAddr rfl fl_110_0) rfl ?_
                  refine L_y rfl (y_indexA rfl rfl Try.underlying108 sz_107 (by omega) (by omega) (show _ = 0 from rfl)) rfl ?_
                  refine L_y rfl (y_fieldAddr rfl fl_107_1) rfl ?_
                  refine L_y rfl (y_load rfl ag_105 (sees 1 0 rfl) rfl) rfl ?_
                  refine L_y rfl (y_move rfl) rfl ?_
                  refine L_op rfl (op_delete 1 1 rfl rfl rfl Try.underlying105 Try.underlying3 rfl rfl ?_)
                  refine L_nil ?_
                  refine C_region ?_
                  refine L_y rfl (y_add rfl rfl (show _ = (1 : Int) from rfl)) rfl ?_
                  refine L_y rfl (y_move rfl) rfl ?_
                  refine L_nil ?_
                  refine In_round ?_
                  refine C_seq ?_
                  refine C_region ?_
                  refine L_y rfl (y_lss rfl rfl) rfl ?_
                  refine L_nil ?_
                  refine C_seq ?_
                  refine C_cond_t rfl ?_
                  refine C_skip ?_
                  refine C_seq ?_
                  refine C_block ?_
                  refine C_seq ?_
                  refine C_region ?_
                  refine L_y rfl (y_move rfl) rfl ?_
                  refine L_y rfl (y_assign rfl) rfl ?_
                  refine L_nil ?_
                  refine C_seq ?_
                  refine C_region ?_
                  refine L_y rfl (y_move rfl) rfl ?_
                  refine L_y rfl (y_indexA rfl rfl Try.underlying62 sz_4 (by omega) (by omega) (show _ = 1 from rfl)) rfl ?_
                  refine L_y rfl (y_load rfl ag_4 (sees 2 0 rfl) rfl) rfl ?_
                  refine L_nil ?_
                  refine C_cond_t rfl ?_
                  refine C_region ?_
                  refine L_y rfl (y_move rfl) rfl ?_
                  refine L_y rfl (y_move rfl) rfl ?_
                  refine L_y rfl (y_nilCheck rfl) rfl ?_
                  refine L_y rfl (y_fieldAddr rfl fl_110_0) rfl ?_
                  refine L_y rfl (y_indexA rfl rfl Try.underlying108 sz_107 (by omega) (by omega) (show _ = 2 from rfl)) rfl ?_
                  refine L_y rfl (y_fieldAddr rfl fl_107_1) rfl ?_
                  refine L_y rfl (y_load rfl ag_105 (sees 1 0 rfl) rfl) rfl ?_
                  refine L_y rfl (y_move rfl) rfl ?_
                  refine L_op rfl (op_delete 1 2 rfl rfl rfl Try.underlying105 Try.underlying3 rfl rfl ?_)
                  refine L_nil ?_
                  refine C_region ?_
                  refine L_y rfl (y_add rfl rfl (show _ = (2 : Int) from rfl)) rfl ?_
                  refine L_y rfl (y_move rfl) rfl ?_
                  refine L_nil ?_
                  refine In_round ?_
                  refine C_seq ?_
                  refine C_region ?_
                  refine L_y rfl (y_lss rfl rfl) rfl ?_
                  refine L_nil ?_
                  refine C_seq ?_
                  refine C_cond_f rfl ?_
                  refine C_exit ?_
                  refine C_seq ?_
                  refine C_region ?_
                  refine L_y rfl (y_assign rfl) rfl ?_
                  refine L_nil ?_
                  refine C_ret ?_
                  refine B_ret (rv_tmp rfl rv_nil) ((hsub (.cons_cons _ (.cons_cons _ (.cons _ (.cons _ (.refl _)))))).trans (hsub_pick [1, 0] rfl)) ?_
                  have e0 : putD A ask n s false = true := by simp_all [putD, pd]
                  have e1 : putD A ask n s true = true := by simp_all [putD, pd, pA]
                  have ea : putA A ask n s = ((A.write false n s).write true n s) := by simp_all [putA, pA]
                  have em : putm m A ask n s = m.mark n true true := by simp [putm, hn, e0, e1]
                  exact ⟨ret_int (by simp [putE, hn, e0, e1]), D4, h4.to (by simp [putDa, hn, ea]), by rw [em]; rfl⟩
                · skip
                  refine H_y 14 rfl (by kernel_rfl) (by kernel_rfl) (by kernel_rfl) (hsub (.cons _ (.cons _ (.cons _ (.cons _ (.refl _)))))) rfl (y_pick_f rfl rfl) rfl ?_
                  refine H_y 15 rfl (by kernel_rfl) (by kernel_rfl) (by kernel_rfl) (hsub (.cons _ (.cons _ (.cons _ (.cons _ (.refl _)))))) rfl (y_indexA rfl rfl Try.underlying62 sz_4 (by omega) (by omega) (show _ = 1 from rfl)) rfl ?_
                  refine H_one 16 rfl (by kernel_rfl) rfl (op_store1 2 0 rfl rfl rfl sz_4 rfl (Nat.le_of_ble_eq_true rfl) ?_)
                  refine ⟨hsub (.cons _ (.cons _ (.cons _ (.cons _ (.refl _))))), ?_⟩
                  refine H_done (by kernel_rfl) ?_
                  refine C_region ?_
                  refine L_y rfl (y_add rfl rfl (show _ = (2 : Int) from rfl)) rfl ?_
                  refine L_y rfl (y_move rfl) rfl ?_
                  refine L_nil ?_
                  refine In_round ?_
                  refine C_seq ?_
                  refine C_region ?_
                  refine L_y rfl (y_lss rfl rfl) rfl ?_
                  refine L_nil ?_
                  refine C_seq ?_
                  refine C_cond_f rfl ?_
                  refine C_exit ?_
                  refine C_seq ?_
                  refine C_seq ?_
                  refine C_region ?_
                  refine L_y rfl (y_indexA rfl rfl Try.underlying62 sz_4 (by omega) (by omega) (show _ = 0 from rfl)) rfl ?_
                  refine L_y rfl (y_load rfl ag_4 (sees 2 0 rfl) rfl) rfl ?_
                  refine L_y rfl (y_not rfl) rfl ?_
                  refine L_y rfl (y_move rfl) rfl ?_
                  refine L_skip rfl rfl ?_
                  refine L_skip rfl rfl ?_
                  refine L_skip rfl rfl ?_
                  refine L_y rfl (y_pick_f rfl rfl) rfl ?_
                  refine L_nil ?_
                  refine C_cond_f rfl ?_
                  refine C_skip ?_
                  refine C_seq ?_
                  refine C_seq ?_
                  refine C_region ?_
                  refine L_y rfl (y_move rfl) rfl ?_
                  refine L_nil ?_
                  refine C_block ?_
                  refine C_loopIn (In_round ?_)
                  refine C_seq ?_
                  refine C_region ?_
                  refine L_y rfl (y_lss rfl rfl) rfl ?_
                  refine L_nil ?_
                  refine C_seq ?_
                  refine C_cond_t rfl ?_
                  refine C_skip ?_
                  refine C_seq ?_
                  refine C_block ?_
                  refine C_seq ?_
                  refine C_region ?_
                  refine L_y rfl (y_move rfl) rfl ?_
                  refine L_y rfl (y_assign rfl) rfl ?_
                  refine L_nil ?_
                  refine C_seq ?_
                  refine C_region ?_
                  refine L_y rfl (y_move rfl) rfl ?_
                  refine L_y rfl (y_indexA rfl rfl Try.underlying62 sz_4 (by omega) (by omega) (show _ = 0 from rfl)) rfl ?_
                  refine L_y rfl (y_load rfl ag_4 (sees 2 0 rfl) rfl) rfl ?_
                  refine L_nil ?_
                  refine C_cond_t rfl ?_
                  refine C_region ?_
                  refine L_y rfl (y_move rfl) rfl ?_
                  refine L_y rfl (y_move rfl) rfl ?_
                  refine L_y rfl (y_nilCheck rfl) rfl ?_
                  refine L_y rfl (y_fieldAddr rfl fl_110_0) rfl ?_
                  refine L_y rfl (y_indexA rfl rfl Try.underlying108 sz_107 (by omega) (by omega) (show _ = 0 from rfl)) rfl ?_
                  refine L_y rfl (y_fieldAddr rfl fl_107_1) rfl ?_
                  refine L_y rfl (y_load rfl ag_105 (sees 1 0 rfl) rfl) rfl ?_
                  refine L_y rfl (y_move rfl) rfl ?_
                  refine L_op rfl (op_delete 1 1 rfl rfl rfl Try.underlying105 Try.underlying3 rfl rfl ?_)
                  refine L_nil ?_
                  refine C_region ?_
                  refine L_y rfl (y_add rfl rfl (show _ = (1 : Int) from rfl)) rfl ?_
                  refine L_y rfl (y_move rfl) rfl ?_
                  refine L_nil ?_
                  refine In_round ?_
                  refine C_seq ?_
                  refine C_region ?_
                  refine L_y rfl (y_lss rfl rfl) rfl ?_
                  refine L_nil ?_
                  refine C_seq ?_
                  refine C_cond_t rfl ?_
                  refine C_skip ?_
                  refine C_seq ?_
                  refine C_block ?_
                  refine C_seq ?_
                  refine C_region ?_
                  refine L_y rfl (y_move rfl) rfl ?_
                  refine L_y rfl (y_assign rfl) rfl ?_
                  refine L_nil ?_
                  refine C_seq ?_
                  refine C_region ?_
                  refine L_y rfl (y_move rfl) rfl ?_
                  refine L_y rfl (y_indexA rfl rfl Try.underlying62 sz_4 (by omega) (by omega) (show _ = 1 from rfl)) rfl ?_
                  refine L_y rfl (y_load rfl ag_4 (sees 2 0 rfl) rfl) rfl ?_
                  refine L_nil ?_
                  refine C_cond_f rfl ?_
                  refine C_region ?_
                  refine L_y rfl (y_move rfl) rfl ?_
                  refine L_y rfl (y_move rfl) rfl ?_
                  refine L_y rfl (y_nilCheck rfl) rfl ?_
                  refine L_y rfl (y_fieldAddr rfl fl_110_0) rfl ?_
                  refine L_y rfl (y_indexA rfl rfl Try.underlying108 sz_107 (by omega) (by omega) (show _ = 2 from rfl)) rfl ?_
                  refine L_y rfl (y_fieldAddr rfl fl_107_1) rfl ?_
                  refine L_y rfl (y_load rfl ag_105 (sees 1 0 rfl) rfl) rfl ?_
                  refine L_y rfl (y_move rfl) rfl ?_
                  refine L_op rfl (op_mapUpdate 1 2 rfl rfl rfl Try.underlying105 Try.underlying3 rfl rfl ?_)
                  refine L_nil ?_
                  refine C_region ?_
                  refine L_y rfl (y_add rfl rfl (show _ = (2 : Int) from rfl)) rfl ?_
                  refine L_y rfl (y_move rfl) rfl ?_
                  refine L_nil ?_
                  refine In_round ?_
                  refine C_seq ?_
                  refine C_region ?_
                  refine L_y rfl (y_lss rfl rfl) rfl ?_
                  refine L_nil ?_
                  refine C_seq ?_
                  refine C_cond_f rfl ?_
                  refine C_exit ?_
                  refine C_seq ?_
                  refine C_region ?_
                  refine L_y rfl (y_assign rfl) rfl ?_
                  refine L_nil ?_
                  refine C_ret ?_
                  refine B_ret (rv_tmp rfl rv_nil) ((hsub (.cons_cons _ (.cons_cons _ (.cons _ (.cons _ (.refl _)))))).trans (hsub_pick [1, 0] rfl)) ?_
                  have e0 : putD A ask n s false = true := by simp_all [putD, pd]
                  have e1 : putD A ask n s true = false := by simp_all [putD, pd, pA]
                  have ea : putA A ask n s = ((A.write false n s).write true n s) := by simp_all [putA, pA]
                  have em : putm m A ask n s = m.mark n true false := by simp [putm, hn, e0, e1]
                  exact ⟨ret_int (by simp [putE, hn, e0, e1]), D4, h4.to (by simp [putDa, hn, ea]), by rw [em]; rfl⟩
              · refine op_y (y_loadA rfl ag_32 sz_32 (sees 3 0 rfl) (by rw [bs_length, hs]; decide) (bs_whole0 _ hs)) rfl ?_
                refine ⟨hsub (.cons _ (.cons _ (.cons _ (.cons _ (.refl _))))), ?_⟩
                refine H_one 9 rfl (by kernel_rfl) rfl (op_y (y_load rfl ag_24 (sees 0 0 rfl) rfl) rfl ?_)
                refine ⟨hsub (.cons _ (.cons _ (.cons _ (.cons _ (.refl _))))), ?_⟩
                refine H_one 12 rfl (by kernel_rfl) rfl (op_call rfl rfl (fun a w => Try.call62 a w) rfl ?_)
                refine ((write_d h3 true n s hs (by have := hQ true; have q2 := Da.write_many A false n s true; omega)).sub (hsub_pick [1] rfl)).mono ?_
                rintro _ _ ⟨rfl, D5, h5, rfl⟩
                refine ⟨_, rfl, ?_⟩
                refine ⟨hsub (.cons _ (.cons _ (.cons _ (.cons _ (.refl _))))), ?_⟩
                refine H_y 13 rfl (by kernel_rfl) (by kernel_rfl) (by kernel_rfl) (hsub (.cons _ (.cons _ (.cons _ (.cons _ (.refl _)))))) rfl (y_eqi rfl rfl) rfl ?_
                refine H_case 42 rfl (fun hg9_14 => ?_) (fun hg9_14 => ?_)
                · skip
                  refine H_y 14 rfl (by kernel_rfl) (by kernel_rfl) (by kernel_rfl) (hsub (.cons _ (.cons _ (.cons _ (.cons _ (.refl _)))))) rfl (y_pick_f rfl rfl) rfl ?_
                  refine H_y 15 rfl (by kernel_rfl) (by kernel_rfl) (by kernel_rfl) (hsub (.cons _ (.cons _ (.cons _ (.cons _ (.refl _)))))) rfl (y_indexA rfl rfl Try.underlying62 sz_4 (by omega) (by omega) (show _ = 1 from rfl)) rfl ?_
                  refine H_one 16 rfl (by kernel_rfl) rfl (op_store1 2 0 rfl rfl rfl sz_4 rfl (Nat.le_of_ble_eq_true rfl) ?_)
                  refine ⟨hsub (.cons _ (.cons _ (.cons _ (.cons _ (.refl _))))), ?_⟩
                  refine H_done (by kernel_rfl) ?_
                  refine C_region ?_
                  refine L_y rfl (y_add rfl rfl (show _ = (2 : Int) from rfl)) rfl ?_
                  refine L_y rfl (y_move rfl) rfl ?_
                  refine L_nil ?_
                  refine In_round ?_
                  refine C_seq ?_
                  refine C_region ?_
                  refine L_y rfl (y_lss rfl rfl) rfl ?_
                  refine L_nil ?_
                  refine C_seq ?_
                  refine C_cond_f rfl ?_
                  refine C_exit ?_
                  refine C_seq ?_
                  refine C_seq ?_
                  refine C_region ?_
                  refine L_y rfl (y_indexA rfl rfl Try.underlying62 sz_4 (by omega) (by omega) (show _ = 0 from rfl)) rfl ?_
                  refine L_y rfl (y_load rfl ag_4 (sees 2 0 rfl) rfl) rfl ?_
                  refine L_y rfl (y_not rfl) rfl ?_
                  refine L_y rfl (y_move rfl) rfl ?_
                  refine L_skip rfl rfl ?_
                  refine L_skip rfl rfl ?_
                  refine L_skip rfl rfl ?_
                  refine L_y rfl (y_pick_f rfl rfl) rfl ?_
                  refine L_nil ?_
                  refine C_cond_f rfl ?_
                  refine C_skip ?_
                  refine C_seq ?_
                  refine C_seq ?_
                  refine C_region ?_
                  refine L_y rfl (y_move rfl) rfl ?_
                  refine L_nil ?_
                  refine C_block ?_
                  refine C_loopIn (In_round ?_)
                  refine C_seq ?_
                  refine C_region ?_
                  refine L_y rfl (y_lss rfl rfl) rfl ?_
                  refine L_nil ?_
                  refine C_seq ?_
                  refine C_cond_t rfl ?_
                  refine C_skip ?_
                  refine C_seq ?_
                  refine C_block ?_
                  refine C_seq ?_
                  refine C_region ?_
                  refine L_y rfl (y_move rfl) rfl ?_
                  refine L_y rfl (y_assign rfl) rfl ?_
                  refine L_nil ?_
                  refine C_seq ?_
                  refine C_region ?_
                  refine L_y rfl (y_move rfl) rfl ?_
                  refine L_y rfl (y_indexA rfl rfl Try.underlying62 sz_4 (by omega) (by omega) (show _ = 0 from rfl)) rfl ?_
                  refine L_y rfl (y_load rfl ag_4 (sees 2 0 rfl) rfl) rfl ?_
                  refine L_nil ?_
                  refine C_cond_t rfl ?_
                  refine C_region ?_
                  refine L_y rfl (y_move rfl) rfl ?_
                  refine L_y rfl (y_move rfl) rfl ?_
                  refine L_y rfl (y_nilCheck rfl) rfl ?_
                  refine L_y rfl (y_fieldAddr rfl fl_110_0) rfl ?_
                  refine L_y rfl (y_indexA rfl rfl Try.underlying108 sz_107 (by omega) (by omega) (show _ = 0 from rfl)) rfl ?_
                  refine L_y rfl (y_fieldAddr rfl fl_107_1) rfl ?_
                  refine L_y rfl (y_load rfl ag_105 (sees 1 0 rfl) rfl) rfl ?_
                  refine L_y rfl (y_move rfl) rfl ?_
                  refine L_op rfl (op_delete 1 1 rfl rfl rfl Try.underlying105 Try.underlying3 rfl rfl ?_)
                  refine L_nil ?_
                  refine C_region ?_
                  refine L_y rfl (y_add rfl rfl (show _ = (1 : Int) from rfl)) rfl ?_
                  refine L_y rfl (y_move rfl) rfl ?_
                  refine L_nil ?_
                  refine In_round ?_
                  refine C_seq ?_
                  refine C_region ?_
                  refine L_y rfl (y_lss rfl rfl) rfl ?_
                  refine L_nil ?_
                  refine C_seq ?_
                  refine C_cond_t rfl ?_
                  refine C_skip ?_
                  refine C_seq ?_
                  refine C_block ?_
                  refine C_seq ?_
                  refine C_region ?_
                  refine L_y rfl (y_move rfl) rfl ?_
                  refine L_y rfl (y_assign rfl) rfl ?_
                  refine L_nil ?_
                  refine C_seq ?_
                  refine C_region ?_
                  refine L_y rfl (y_move rfl) rfl ?_
                  refine L_y rfl (y_indexA rfl rfl Try.underlying62 sz_4 (by omega) (by omega) (show _ = 1 from rfl)) rfl ?_
                  refine L_y rfl (y_load rfl ag_4 (sees 2 0 rfl) rfl) rfl ?_
                  refine L_nil ?_
                  refine C_cond_t rfl ?_
                  refine C_region ?_
                  refine L_y rfl (y_move rfl) rfl ?_
                  refine L_y rfl (y_move rfl) rfl ?_
                  refine L_y rfl (y_nilCheck rfl) rfl ?_
                  refine L_y rfl (y_fieldAddr rfl fl_110_0) rfl ?_
                  refine L_y rfl (y_indexA rfl rfl Try.underlying108 sz_107 (by omega) (by omega) (show _ = 2 from rfl)) rfl ?_
                  refine L_y rfl (y_fieldAddr rfl fl_107_1) rfl ?_
                  refine L_y rfl (y_load rfl ag_105 (sees 1 0 rfl) rfl) rfl ?_
                  refine L_y rfl (y_move rfl) rfl ?_
                  refine L_op rfl (op_delete 1 2 rfl rfl rfl Try.underlying105 Try.underlying3 rfl rfl ?_)
                  refine L_nil ?_
                  refine C_region ?_
                  refine L_y rfl (y_add rfl rfl (show _ = (2 : Int) from rfl)) rfl ?_
                  refine L_y rfl (y_move rfl) rfl ?_
                  refine L_nil ?_
                  refine In_round ?_
                  refine C_seq ?_
                  refine C_region ?_
                  refine L_y rfl (y_lss rfl rfl) rfl ?_
                  refine L_nil ?_
                  refine C_seq ?_
                  refine C_cond_f rfl ?_
                  refine C_exit ?_
                  refine C_seq ?_
                  refine C_region ?_
                  refine L_y rfl (y_assign rfl) rfl ?_
                  refine L_nil ?_
                  refine C_ret ?_
                  refine B_ret (rv_tmp rfl rv_nil) ((hsub (.cons_cons _ (.cons_cons _ (.cons _ (.cons _ (.refl _)))))).trans (hsub_pick [1, 0] rfl)) ?_
                  have e0 : putD A ask n s false = true := by simp_all [putD, pd]
                  have e1 : putD A ask n s true = true := by simp_all [putD, pd, pA]
                  have ea : putA A ask n s = ((A.write false n s).write true n s) := by simp_all [putA, pA]
                  have em : putm m A ask n s = m.mark n true true := by simp [putm, hn, e0, e1]
                  exact ⟨ret_int (by simp [putE, hn, e0, e1]), D5, h5.to (by simp [putDa, hn, ea]), by rw [em]; rfl⟩
                · skip
                  refine H_y 14 rfl (by kernel_rfl) (by kernel_rfl) (by kernel_rfl) (hsub (.cons _ (.cons _ (.cons _ (.cons _ (.refl _)))))) rfl (y_pick_f rfl rfl) rfl ?_
                  refine H_y 15 rfl (by kernel_rfl) (by kernel_rfl) (by kernel_rfl) (hsub (.cons _ (.cons _ (.cons _ (.cons _ (.refl _)))))) rfl (y_indexA rfl rfl Try.underlying62 sz_4 (by omega) (by omega) (show _ = 1 from rfl)) rfl ?_
                  refine H_one 16 rfl (by kernel_rfl) rfl (op_store1 2 0 rfl rfl rfl sz_4 rfl (Nat.le_of_ble_eq_true rfl) ?_)
                  refine ⟨hsub (.cons _ (.cons _ (.cons _ (.cons _ (.refl _))))), ?_⟩
                  refine H_done (by kernel_rfl) ?_
                  refine C_region ?_
                  refine L_y rfl (y_add rfl rfl (show _ = (2 : Int) from rfl)) rfl ?_
                  refine L_y rfl (y_move rfl) rfl ?_
                  refine L_nil ?_
                  refine In_round ?_
                  refine C_seq ?_
                  refine C_region ?_
                  refine L_y rfl (y_lss rfl rfl) rfl ?_
                  refine L_nil ?_
                  refine C_seq ?_
                  refine C_cond_f rfl ?_
                  refine C_exit ?_
                  refine C_seq ?_
                  refine C_seq ?_
                  refine C_region ?_
                  refine L_y rfl (y_indexA rfl rfl Try.underlying62 sz_4 (by omega) (by omega) (show _ = 0 from rfl)) rfl ?_
                  refine L_y rfl (y_load rfl ag_4 (sees 2 0 rfl) rfl) rfl ?_
                  refine L_y rfl (y_not rfl) rfl ?_
                  refine L_y rfl (y_move rfl) rfl ?_
                  refine L_skip rfl rfl ?_
                  refine L_skip rfl rfl ?_
                  refine L_skip rfl rfl ?_
                  refine L_y rfl (y_pick_f rfl rfl) rfl ?_
                  refine L_nil ?_
                  refine C_cond_f rfl ?_
                  refine C_skip ?_
                  refine C_seq ?_
                  refine C_seq ?_
                  refine C_region ?_
                  refine L_y rfl (y_move rfl) rfl ?_
                  refine L_nil ?_
                  refine C_block ?_
                  refine C_loopIn (In_round ?_)
                  refine C_seq ?_
                  refine C_region ?_
                  refine L_y rfl (y_lss rfl rfl) rfl ?_
                  refine L_nil ?_
                  refine C_seq ?_
                  refine C_cond_t rfl ?_
                  refine C_skip ?_
                  refine C_seq ?_
                  refine C_block ?_
                  refine C_seq ?_
                  refine C_region ?_
                  refine L_y rfl (y_move rfl) rfl ?_
                  refine L_y rfl (y_assign rfl) rfl ?_
                  refine L_nil ?_
                  refine C_seq ?_
                  refine C_region ?_
                  refine L_y rfl (y_move rfl) rfl ?_
                  refine L_y rfl (y_indexA rfl rfl Try.underlying62 sz_4 (by omega) (by omega) (show _ = 0 from rfl)) rfl ?_
                  refine L_y rfl (y_load rfl ag_4 (sees 2 0 rfl) rfl) rfl ?_
                  refine L_nil ?_
                  refine C_cond_t rfl ?_
                  refine C_region ?_
                  refine L_y rfl (y_move rfl) rfl ?_
                  refine L_y rfl (y_move rfl) rfl ?_
                  refine L_y rfl (y_nilCheck rfl) rfl ?_
                  refine L_y rfl (y_fieldAddr rfl fl_110_0) rfl ?_
                  refine L_y rfl (y_indexA rfl rfl Try.underlying108 sz_107 (by omega) (by omega) (show _ = 0 from rfl)) rfl ?_
                  refine L_y rfl (y_fieldAddr rfl fl_107_1) rfl ?_
                  refine L_y rfl (y_load rfl ag_105 (sees 1 0 rfl) rfl) rfl ?_
                  refine L_y rfl (y_move rfl) rfl ?_
                  refine L_op rfl (op_delete 1 1 rfl rfl rfl Try.underlying105 Try.underlying3 rfl rfl ?_)
                  refine L_nil ?_
                  refine C_region ?_
                  refine L_y rfl (y_add rfl rfl (show _ = (1 : Int) from rfl)) rfl ?_
                  refine L_y rfl (y_move rfl) rfl ?_
                  refine L_nil ?_
                  refine In_round ?_
                  refine C_seq ?_
                  refine C_region ?_
                  refine L_y rfl (y_lss rfl rfl) rfl ?_
                  refine L_nil ?_
                  refine C_seq ?_
                  refine C_cond_t rfl ?_
                  refine C_skip ?_
                  refine C_seq ?_
                  refine C_block ?_
                  refine C_seq ?_
                  refine C_region ?_
                  refine L_y rfl (y_move rfl) rfl ?_
                  refine L_y rfl (y_assign rfl) rfl ?_
                  refine L_nil ?_
                  refine C_seq ?_
                  refine C_region ?_
                  refine L_y rfl (y_move rfl) rfl ?_
                  refine L_y rfl (y_indexA rfl rfl Try.underlying62 sz_4 (by omega) (by omega) (show _ = 1 from rfl)) rfl ?_
                  refine L_y rfl (y_load rfl ag_4 (sees 2 0 rfl) rfl) rfl ?_
                  refine L_nil ?_
                  refine C_cond_f rfl ?_
                  refine C_region ?_
                  refine L_y rfl (y_move rfl) rfl ?_
                  refine L_y rfl (y_move rfl) rfl ?_
                  refine L_y rfl (y_nilCheck rfl) rfl ?_
                  refine L_y rfl (y_fieldAddr rfl fl_110_0) rfl ?_
                  refine L_y rfl (y_indexA rfl rfl Try.underlying108 sz_107 (by omega) (by omega) (show _ = 2 from rfl)) rfl ?_
                  refine L_y rfl (y_fieldAddr rfl fl_107_1) rfl ?_
                  refine L_y rfl (y_load rfl ag_105 (sees 1 0 rfl) rfl) rfl ?_
                  refine L_y rfl (y_move rfl) rfl ?_
                  refine L_op rfl (op_mapUpdate 1 2 rfl rfl rfl Try.underlying105 Try.underlying3 rfl rfl ?_)
                  refine L_nil ?_
                  refine C_region ?_
                  refine L_y rfl (y_add rfl rfl (show _ = (2 : Int) from rfl)) rfl ?_
                  refine L_y rfl (y_move rfl) rfl ?_
                  refine L_nil ?_
                  refine In_round ?_
                  refine C_seq ?_
                  refine C_region ?_
                  refine L_y rfl (y_lss rfl rfl) rfl ?_
                  refine L_nil ?_
                  refine C_seq ?_
                  refine C_cond_f rfl ?_
                  refine C_exit ?_
                  refine C_seq ?_
                  refine C_region ?_
                  refine L_y rfl (y_assign rfl) rfl ?_
                  refine L_nil ?_
                  refine C_ret ?_
                  refine B_ret (rv_tmp rfl rv_nil) ((hsub (.cons_cons _ (.cons_cons _ (.cons _ (.cons _ (.refl _)))))).trans (hsub_pick [1, 0] rfl)) ?_
                  have e0 : putD A ask n s false = true := by simp_all [putD, pd]
                  have e1 : putD A ask n s true = false := by simp_all [putD, pd, pA]
                  have ea : putA A ask n s = ((A.write false n s).write true n s) := by simp_all [putA, pA]
                  have em : putm m A ask n s = m.mark n true false := by simp [putm, hn, e0, e1]
                  exact ⟨ret_int (by simp [putE, hn, e0, e1]), D5, h5.to (by simp [putDa, hn, ea]), by rw [em]; rfl⟩
          · skip
            refine C_skip ?_
            refine C_region ?_
            refine L_y rfl (y_add rfl rfl (show _ = (2 : Int) from rfl)) rfl ?_
            refine L_y rfl (y_move rfl) rfl ?_
            refine L_nil ?_
            refine In_round ?_
            refine C_seq ?_
            refine C_region ?_
            refine L_y rfl (y_lss rfl rfl) rfl ?_
            refine L_nil ?_
            refine C_seq ?_
            refine C_cond_f rfl ?_
            refine C_exit ?_
            refine C_seq ?_
            refine C_seq ?_
            refine C_region ?_
            refine L_y rfl (y_indexA rfl rfl Try.underlying62 sz_4 (by omega) (by omega) (show _ = 0 from rfl)) rfl ?_
            refine L_y rfl (y_load rfl ag_4 (sees 2 0 rfl) rfl) rfl ?_
            refine L_y rfl (y_not rfl) rfl ?_
            refine L_y rfl (y_move rfl) rfl ?_
            refine L_skip rfl rfl ?_
            refine L_skip rfl rfl ?_
            refine L_skip rfl rfl ?_
            refine L_y rfl (y_pick_f rfl rfl) rfl ?_
            refine L_nil ?_
            refine C_cond_f rfl ?_
            refine C_skip ?_
            refine C_seq ?_
            refine C_seq ?_
            refine C_region ?_
            refine L_y rfl (y_move rfl) rfl ?_
            refine L_nil ?_
            refine C_block ?_
            refine C_loopIn (In_round ?_)
            refine C_seq ?_
            refine C_region ?_
            refine L_y rfl (y_lss rfl rfl) rfl ?_
            refine L_nil ?_
            refine C_seq ?_
            refine C_cond_t rfl ?_
            refine C_skip ?_
            refine C_seq ?_
            refine C_block ?_
            refine C_seq ?_
            refine C_region ?_
            refine L_y rfl (y_move rfl) rfl ?_
            refine L_y rfl (y_assign rfl) rfl ?_
            refine L_nil ?_
            refine C_seq ?_
            refine C_region ?_
            refine L_y rfl (y_move rfl) rfl ?_
            refine L_y rfl (y_indexA rfl rfl Try.underlying62 sz_4 (by omega) (by omega) (show _ = 0 from rfl)) rfl ?_
            refine L_y rfl (y_load rfl ag_4 (sees 2 0 rfl) rfl) rfl ?_
            refine L_nil ?_
            refine C_cond_t rfl ?_
            refine C_region ?_
            refine L_y rfl (y_move rfl) rfl ?_
            refine L_y rfl (y_move rfl) rfl ?_
            refine L_y rfl (y_nilCheck rfl) rfl ?_
            refine L_y rfl (y_fieldAddr rfl fl_110_0) rfl ?_
            refine L_y rfl (y_indexA rfl rfl Try.underlying108 sz_107 (by omega) (by omega) (show _ = 0 from rfl)) rfl ?_
            refine L_y rfl (y_fieldAddr rfl fl_107_1) rfl ?_
            refine L_y rfl (y_load rfl ag_105 (sees 1 0 rfl) rfl) rfl ?_
            refine L_y rfl (y_move rfl) rfl ?_
            refine L_op rfl (op_delete 1 1 rfl rfl rfl Try.underlying105 Try.underlying3 rfl rfl ?_)
            refine L_nil ?_
            refine C_region ?_
            refine L_y rfl (y_add rfl rfl (show _ = (1 : Int) from rfl)) rfl ?_
            refine L_y rfl (y_move rfl) rfl ?_
            refine L_nil ?_
            refine In_round ?_
            refine C_seq ?_
            refine C_region ?_
            refine L_y rfl (y_lss rfl rfl) rfl ?_
            refine L_nil ?_
            refine C_seq ?_
            refine C_cond_t rfl ?_
            refine C_skip ?_
            refine C_seq ?_
            refine C_block ?_
            refine C_seq ?_
            refine C_region ?_
            refine L_y rfl (y_move rfl) rfl ?_
            refine L_y rfl (y_assign rfl) rfl ?_
            refine L_nil ?_
            refine C_seq ?_
            refine C_region ?_
            refine L_y rfl (y_move rfl) rfl ?_
            refine L_y rfl (y_indexA rfl rfl Try.underlying62 sz_4 (by omega) (by omega) (show _ = 1 from rfl)) rfl ?_
            refine L_y rfl (y_load rfl ag_4 (sees 2 0 rfl) rfl) rfl ?_
            refine L_nil ?_
            refine C_cond_f rfl ?_
            refine C_region ?_
            refine L_y rfl (y_move rfl) rfl ?_
            refine L_y rfl (y_move rfl) rfl ?_
            refine L_y rfl (y_nilCheck rfl) rfl ?_
            refine L_y rfl (y_fieldAddr rfl fl_110_0) rfl ?_
            refine L_y rfl (y_indexA rfl rfl Try.underlying108 sz_107 (by omega) (by omega) (show _ = 2 from rfl)) rfl ?_
            refine L_y rfl (y_fieldAddr rfl fl_107_1) rfl ?_
            refine L_y rfl (y_load rfl ag_105 (sees 1 0 rfl) rfl) rfl ?_
            refine L_y rfl (y_move rfl) rfl ?_
            refine L_op rfl (op_mapUpdate 1 2 rfl rfl rfl Try.underlying105 Try.underlying3 rfl rfl ?_)
            refine L_nil ?_
            refine C_region ?_
            refine L_y rfl (y_add rfl rfl (show _ = (2 : Int) from rfl)) rfl ?_
            refine L_y rfl (y_move rfl) rfl ?_
            refine L_nil ?_
            refine In_round ?_
            refine C_seq ?_
            refine C_region ?_
            refine L_y rfl (y_lss rfl rfl) rfl ?_
            refine L_nil ?_
            refine C_seq ?_
            refine C_cond_f rfl ?_
            refine C_exit ?_
            refine C_seq ?_
            refine C_region ?_
            refine L_y rfl (y_assign rfl) rfl ?_
            refine L_nil ?_
            refine C_ret ?_
            refine B_ret (rv_tmp rfl rv_nil) ((hsub (.cons_cons _ (.cons_cons _ (.cons _ (.cons _ (.refl _)))))).trans (hsub_pick [1, 0] rfl)) ?_
            have e0 : putD A ask n s false = true := by simp_all [putD, pd]
            have e1 : putD A ask n s true = false := by simp_all [putD, pd, pA]
            have ea : putA A ask n s = (A.write false n s) := by simp_all [putA, pA]
            have em : putm m A ask n s = m.mark n true false := by simp [putm, hn, e0, e1]
            exact ⟨ret_int (by simp [putE, hn, e0, e1]), D3, h3.to (by simp [putDa, hn, ea]), by rw [em]; rfl⟩
        · skip
          refine H_y 14 rfl (by kernel_rfl) (by kernel_rfl) (by kernel_rfl) (hsub (.cons _ (.cons _ (.cons _ (.cons _ (.refl _)))))) rfl (y_pick_f rfl rfl) rfl ?_
          refine H_y 15 rfl (by kernel_rfl) (by kernel_rfl) (by kernel_rfl) (hsub (.cons _ (.cons _ (.cons _ (.cons _ (.refl _)))))) rfl (y_indexA rfl rfl Try.underlying62 sz_4 (by omega) (by omega) (show _ = 0 from rfl)) rfl ?_
          refine H_one 16 rfl (by kernel_rfl) rfl (op_store1 2 0 rfl rfl rfl sz_4 rfl (Nat.le_of_ble_eq_true rfl) ?_)
          refine ⟨hsub (.cons _ (.cons _ (.cons _ (.cons _ (.refl _))))), ?_⟩
          refine H_done (by kernel_rfl) ?_
          refine C_region ?_
          refine L_y rfl (y_add rfl rfl (show _ = (1 : Int) from rfl)) rfl ?_
          refine L_y rfl (y_move rfl) rfl ?_
          refine L_nil ?_
          refine In_round ?_
          refine C_seq ?_
          refine C_region ?_
          refine L_y rfl (y_lss rfl rfl) rfl ?_
          refine L_nil ?_
          refine C_seq ?_
          refine C_cond_t rfl ?_
          refine C_skip ?_
          refine C_seq ?_
          refine C_block ?_
          refine C_seq ?_
          refine C_region ?_
          refine L_y rfl (y_move rfl) rfl ?_
          refine L_y rfl (y_assign rfl) rfl ?_
          refine L_nil ?_
          refine C_seq ?_
          refine C_region ?_
          refine L_y rfl (y_move rfl) rfl ?_
          refine L_y rfl (y_move rfl) rfl ?_
          refine L_y rfl (y_nilCheck rfl) rfl ?_
          refine L_y rfl (y_fieldAddr rfl fl_110_0) rfl ?_
          refine L_y rfl (y_indexA rfl rfl Try.underlying108 sz_107 (by omega) (by omega) (show _ = 2 from rfl)) rfl ?_
          refine L_y rfl (y_assign rfl) rfl ?_
          refine L_nil ?_
          refine C_seq ?_
          refine C_region ?_
          refine L_y rfl (y_move rfl) rfl ?_
          refine L_y rfl (y_nilCheck rfl) rfl ?_
          refine L_y rfl (y_loadA rfl ag_107 sz_107 (sees 1 0 rfl) (Nat.le_of_ble_eq_true rfl) rfl) rfl ?_
          refine L_op rfl (op_call rfl rfl (fun a w => Try.call53 a w) rfl ?_)
          refine ((there_d h3 true).sub (hsub_pick [0] rfl)).mono ?_
          rintro _ _ ⟨rfl, rfl⟩
          refine ⟨_, rfl, ?_⟩
          refine L_nil ?_
          refine C_cond rfl (fun hc2 => ?_) (fun hc2 => ?_)
          · skip
            refine C_regionH H (by kernel_rfl) ?_
            refine H_y 0 rfl (by kernel_rfl) (by kernel_rfl) (by kernel_rfl) (hsub (.cons _ (.cons _ (.cons _ (.cons _ (.refl _)))))) rfl (y_move rfl) rfl ?_
            refine H_y 1 rfl (by kernel_rfl) (by kernel_rfl) (by kernel_rfl) (hsub (.cons _ (.cons _ (.cons _ (.cons _ (.refl _)))))) rfl (y_move rfl) rfl ?_
            refine H_y 2 rfl (by kernel_rfl) (by kernel_rfl) (by kernel_rfl) (hsub (.cons _ (.cons _ (.cons _ (.cons _ (.refl _)))))) rfl (y_move rfl) rfl ?_
            refine H_one 3 rfl (by kernel_rfl) rfl (op_call (f := fa) (first := []) (cap := cap) rfl rfl hask.1 rfl ?_)
            refine FnS.mono (FnS.sub (hsub_pick [1, 0] rfl) (hask.2 true _ _ _ h3 (hsub (.cons _ (.cons _ (.refl _)))))) ?_
            rintro _ _ ⟨rfl, rfl⟩
            refine ⟨_, rfl, ?_⟩
            refine ⟨hsub (.cons _ (.cons _ (.cons _ (.cons _ (.refl _))))), ?_⟩
            refine H_y 4 rfl (by kernel_rfl) (by kernel_rfl) (by kernel_rfl) (hsub (.cons _ (.cons _ (.cons _ (.cons _ (.refl _)))))) rfl (y_not rfl) rfl ?_
            refine H_y 5 rfl (by kernel_rfl) (by kernel_rfl) (by kernel_rfl) (hsub (.cons _ (.cons _ (.cons _ (.cons _ (.refl _)))))) rfl (y_move rfl) rfl ?_
            refine H_case 34 rfl (fun hg9_6 => ?_) (fun hg9_6 => ?_)
            · skip
              refine H_skip 6 rfl (by kernel_rfl) (by kernel_rfl) (by kernel_rfl) (hsub (.cons _ (.cons _ (.cons _ (.cons _ (.refl _)))))) rfl rfl ?_
              refine H_skip 7 rfl (by kernel_rfl) (by kernel_rfl) (by kernel_rfl) (hsub (.cons _ (.cons _ (.cons _ (.cons _ (.refl _)))))) rfl rfl ?_
              refine H_skip 8 rfl (by kernel_rfl) (by kernel_rfl) (by kernel_rfl) (hsub (.cons _ (.cons _ (.cons _ (.cons _ (.refl _)))))) rfl rfl ?_
              refine H_skip 9 rfl (by kernel_rfl) (by kernel_rfl) (by kernel_rfl) (hsub (.cons _ (.cons _ (.cons _ (.cons _ (.refl _)))))) rfl rfl ?_
              refine H_skip 10 rfl (by kernel_rfl) (by kernel_rfl) (by kernel_rfl) (hsub (.cons _ (.cons _ (.cons _ (.cons _ (.refl _)))))) rfl rfl ?_
              refine H_skip 11 rfl (by kernel_rfl) (by kernel_rfl) (by kernel_rfl) (hsub (.cons _ (.cons _ (.cons _ (.cons _ (.refl _)))))) rfl rfl ?_
              refine H_skip 12 rfl (by kernel_rfl) (by kernel_rfl) (by kernel_rfl) (hsub (.cons _ (.cons _ (.cons _ (.cons _ (.refl _)))))) rfl rfl ?_
              refine H_skip 13 rfl (by kernel_rfl) (by kernel_rfl) (by kernel_rfl) (hsub (.cons _ (.cons _ (.cons _ (.cons _ (.refl _)))))) rfl rfl ?_
              refine H_y 14 rfl (by kernel_rfl) (by kernel_rfl) (by kernel_rfl) (hsub (.cons _ (.cons _ (.cons _ (.cons _ (.refl _)))))) rfl (y_pick_t rfl rfl) rfl ?_
              refine H_y 15 rfl (by kernel_rfl) (by kernel_rfl) (by kernel_rfl) (hsub (.cons _ (.cons _ (.cons _ (.cons _ (.refl _)))))) rfl (y_indexA rfl rfl Try.underlying62 sz_4 (by omega) (by omega) (show _ = 1 from rfl)) rfl ?_
              refine H_one 16 rfl (by kernel_rfl) rfl (op_store1 2 0 rfl rfl rfl sz_4 rfl (Nat.le_of_ble_eq_true rfl) ?_)
              refine ⟨hsub (.cons _ (.cons _ (.cons _ (.cons _ (.refl _))))), ?_⟩
              refine H_done (by kernel_rfl) ?_
              refine C_region ?_
              refine L_y rfl (y_add rfl rfl (show _ = (2 : Int) from rfl)) rfl ?_
              refine L_y rfl (y_move rfl) rfl ?_
              refine L_nil ?_
              refine In_round ?_
              refine C_seq ?_
              refine C_region ?_
              refine L_y rfl (y_lss rfl rfl) rfl ?_
              refine L_nil ?_
              refine C_seq ?_
              refine C_cond_f rfl ?_
              refine C_exit ?_
              refine C_seq ?_
              refine C_seq ?_
              refine C_region ?_
              refine L_y rfl (y_indexA rfl rfl Try.underlying62 sz_4 (by omega) (by omega) (show _ = 0 from rfl)) rfl ?_
              refine L_y rfl (y_load rfl ag_4 (sees 2 0 rfl) rfl) rfl ?_
              refine L_y rfl (y_not rfl) rfl ?_
              refine L_y rfl (y_move rfl) rfl ?_
              refine L_y rfl (y_indexA rfl rfl Try.underlying62 sz_4 (by omega) (by omega) (show _ = 1 from rfl)) rfl ?_
              refine L_y rfl (y_load rfl ag_4 (sees 2 0 rfl) rfl) rfl ?_
              refine L_y rfl (y_not rfl) rfl ?_
              refine L_y rfl (y_pick_t rfl rfl) rfl ?_
              refine L_nil ?_
              refine C_cond_f rfl ?_
              refine C_skip ?_
              refine C_seq ?_
              refine C_seq ?_
              refine C_region ?_
              refine L_y rfl (y_move rfl) rfl ?_
              refine L_nil ?_
              refine C_block ?_
              refine C_loopIn (In_round ?_)
              refine C_seq ?_
              refine C_region ?_
              refine L_y rfl (y_lss rfl rfl) rfl ?_
              refine L_nil ?_
              refine C_seq ?_
              refine C_cond_t rfl ?_
              refine C_skip ?_
              refine C_seq ?_
              refine C_block ?_
              refine C_seq ?_
              refine C_region ?_
              refine L_y rfl (y_move rfl) rfl ?_
              refine L_y rfl (y_assign rfl) rfl ?_
              refine L_nil ?_
              refine C_seq ?_
              refine C_region ?_
              refine L_y rfl (y_move rfl) rfl ?_
              refine L_y rfl (y_indexA rfl rfl Try.underlying62 sz_4 (by omega) (by omega) (show _ = 0 from rfl)) rfl ?_
              refine L_y rfl (y_load rfl ag_4 (sees 2 0 rfl) rfl) rfl ?_
              refine L_nil ?_
              refine C_cond_f rfl ?_
              refine C_region ?_
              refine L_y rfl (y_move rfl) rfl ?_
              refine L_y rfl (y_move rfl) rfl ?_
              refine L_y rfl (y_nilCheck rfl) rfl ?_
              refine L_y rfl (y_fieldAddr rfl fl_110_0) rfl ?_
              refine L_y rfl (y_indexA rfl rfl Try.underlying108 sz_107 (by omega) (by omega) (show _ = 0 from rfl)) rfl ?_
              refine L_y rfl (y_fieldAddr rfl fl_107_1) rfl ?_
              refine L_y rfl (y_load rfl ag_105 (sees 0 0 rfl) rfl) rfl ?_
              refine L_y rfl (y_move rfl) rfl ?_
              refine L_op rfl (op_mapUpdate 0 1 rfl rfl rfl Try.underlying105 Try.underlying3 rfl rfl ?_)
              refine L_nil ?_
              refine C_region ?_
              refine L_y rfl (y_add rfl rfl (show _ = (1 : Int) from rfl)) rfl ?_
              refine L_y rfl (y_move rfl) rfl ?_
              refine L_nil ?_
              refine In_round ?_
              refine C_seq ?_
              refine C_region ?_
              refine L_y rfl (y_lss rfl rfl) rfl ?_
              refine L_nil ?_
              refine C_seq ?_
              refine C_cond_t rfl ?_
              refine C_skip ?_
              refine C_seq ?_
              refine C_block ?_
              refine C_seq ?_
              refine C_region ?_
              refine L_y rfl (y_move rfl) rfl ?_
              refine L_y rfl (y_assign rfl) rfl ?_
              refine L_nil ?_
              refine C_seq ?_
              refine C_region ?_
              refine L_y rfl (y_move rfl) rfl ?_
              refine L_y rfl (y_indexA rfl rfl Try.underlying62 sz_4 (by omega) (by omega) (show _ = 1 from rfl)) rfl ?_
              refine L_y rfl (y_load rfl ag_4 (sees 2 0 rfl) rfl) rfl ?_
              refine L_nil ?_
              refine C_cond_t rfl ?_
              refine C_region ?_
              refine L_y rfl (y_move rfl) rfl ?_
              refine L_y rfl (y_move rfl) rfl ?_
              refine L_y rfl (y_nilCheck rfl) rfl ?_
              refine L_y rfl (y_fieldAddr rfl fl_110_0) rfl ?_
              refine L_y rfl (y_indexA rfl rfl Try.underlying108 sz_107 (by omega) (by omega) (show _ = 2 from rfl)) rfl ?_
              refine L_y rfl (y_fieldAddr rfl fl_107_1) rfl ?_
              refine L_y rfl (y_load rfl ag_105 (sees 0 0 rfl) rfl) rfl ?_
              refine L_y rfl (y_move rfl) rfl ?_
              refine L_op rfl (op_delete 0 2 rfl rfl rfl Try.underlying105 Try.underlying3 rfl rfl ?_)
              refine L_nil ?_
              refine C_region ?_
              refine L_y rfl (y_add rfl rfl (show _ = (2 : Int) from rfl)) rfl ?_
              refine L_y rfl (y_move rfl) rfl ?_
              refine L_nil ?_
              refine In_round ?_
              refine C_seq ?_
              refine C_region ?_
              refine L_y rfl (y_lss rfl rfl) rfl ?_
              refine L_nil ?_
              refine C_seq ?_
              refine C_cond_f rfl ?_
              refine C_exit ?_
              refine C_seq ?_
              refine C_region ?_
              refine L_y rfl (y_assign rfl) rfl ?_
              refine L_nil ?_
              refine C_ret ?_
              refine B_ret (rv_tmp rfl rv_nil) ((hsub (.cons_cons _ (.cons_cons _ (.cons _ (.cons _ (.refl _)))))).trans (hsub_pick [0, 0] rfl)) ?_
              have e0 : putD A ask n s false = false := by simp_all [putD, pd]
              have e1 : putD A ask n s true = true := by simp_all [putD, pd, pA]
              have ea : putA A ask n s = (A.write false n s) := by simp_all [putA, pA]
              have em : putm m A ask n s = m.mark n false true := by simp [putm, hn, e0, e1]
              exact ⟨ret_int (by simp [putE, hn, e0, e1]), D3, h3.to (by simp [putDa, hn, ea]), by rw [em]; rfl⟩
            · skip
              refine H_y 6 rfl (by kernel_rfl) (by kernel_rfl) (by kernel_rfl) (hsub (.cons _ (.cons _ (.cons _ (.cons _ (.refl _)))))) rfl (y_move rfl) rfl ?_
              refine H_y 7 rfl (by kernel_rfl) (by kernel_rfl) (by kernel_rfl) (hsub (.cons _ (.cons _ (.cons _ (.cons _ (.refl _)))))) rfl (y_nilCheck rfl) rfl ?_
              refine H_y 8 rfl (by kernel_rfl) (by kernel_rfl) (by kernel_rfl) (hsub (.cons _ (.cons _ (.cons _ (.cons _ (.refl _)))))) rfl (y_fieldAddr rfl fl_107_0) rfl ?_
              refine H_y 10 rfl (by kernel_rfl) (by kernel_rfl) (by kernel_rfl) (hsub (.cons _ (.cons _ (.cons _ (.cons _ (.refl _)))))) rfl (y_move rfl) rfl ?_
              refine H_two 9 11 rfl rfl (by kernel_rfl) rfl rfl ?_ ?_
              · refine op_y (y_load rfl ag_24 (sees 0 0 rfl) rfl) rfl ?_
                refine ⟨hsub (.cons _ (.cons _ (.cons _ (.cons _ (.refl _))))), ?_⟩
                refine H_one 11 rfl (by kernel_rfl) rfl (op_y (y_loadA rfl ag_32 sz_32 (sees 3 0 rfl) (by rw [bs_length, hs]; decide) (bs_whole0 _ hs)) rfl ?_)
                refine ⟨hsub (.cons _ (.cons _ (.cons _ (.cons _ (.refl _))))), ?_⟩
                refine H_one 12 rfl (by kernel_rfl) rfl (op_call rfl rfl (fun a w => Try.call62 a w) rfl ?_)
                refine ((write_d h3 true n s hs (by have := hQ true; have q2 := Da.write_many A false n s true; omega)).sub (hsub_pick [1] rfl)).mono ?_
                rintro _ _ ⟨rfl, D6, h6, rfl⟩
                refine ⟨_, rfl, ?_⟩
                refine ⟨hsub (.cons _ (.cons _ (.cons _ (.cons _ (.refl _))))), ?_⟩
                refine H_y 13 rfl (by kernel_rfl) (by kernel_rfl) (by kernel_rfl) (hsub (.cons _ (.cons _ (.cons _ (.cons _ (.refl _)))))) rfl (y_eqi rfl rfl) rfl ?_
                refine H_case 42 rfl (fun hg9_14 => ?_) (fun hg9_14 => ?_)
                · skip
                  refine H_y 14 rfl (by kernel_rfl) (by kernel_rfl) (by kernel_rfl) (hsub (.cons _ (.cons _ (.cons _ (.cons _ (.refl _)))))) rfl (y_pick_f rfl rfl) rfl ?_
                  refine H_y 15 rfl (by kernel_rfl) (by kernel_rfl) (by kernel_rfl) (hsub (.cons _ (.cons _ (.cons _ (.cons _ (.refl _)))))) rfl (y_indexA rfl rfl Try.underlying62 sz_4 (by omega) (by omega) (show _ = 1 from rfl)) rfl ?_
                  refine H_one 16 rfl (by kernel_rfl) rfl (op_store1 2 0 rfl rfl rfl sz_4 rfl (Nat.le_of_ble_eq_true rfl) ?_)
                  refine ⟨hsub (.cons _ (.cons _ (.cons _ (.cons _ (.refl _))))), ?_⟩
                  refine H_done (by kernel_rfl) ?_
                  refine C_region ?_
                  refine L_y rfl (y_add rfl rfl (show _ = (2 : Int) from rfl)) rfl ?_
                  refine L_y rfl (y_move rfl) rfl ?_
                  refine L_nil ?_
                  refine In_round ?_
                  refine C_seq ?_
                  refine C_region ?_
                  refine L_y rfl (y_lss rfl rfl) rfl ?_
                  refine L_nil ?_
                  refine C_seq ?_
                  refine C_cond_f rfl ?_
                  refine C_exit ?_
                  refine C_seq ?_
                  refine C_seq ?_
                  refine C_region ?_
                  refine L_y rfl (y_indexA rfl rfl Try.underlying62 sz_4 (by omega) (by omega) (show _ = 0 from rfl)) rfl ?_
                  refine L_y rfl (y_load rfl ag_4 (sees 2 0 rfl) rfl) rfl ?_
                  refine L_y rfl (y_not rfl) rfl ?_
                  refine L_y rfl (y_move rfl) rfl ?_
                  refine L_y rfl (y_indexA rfl rfl Try.underlying62 sz_4 (by omega) (by omega) (show _ = 1 from rfl)) rfl ?_
                  refine L_y rfl (y_load rfl ag_4 (sees 2 0 rfl) rfl) rfl ?_
                  refine L_y rfl (y_not rfl) rfl ?_
                  refine L_y rfl (y_pick_t rfl rfl) rfl ?_
                  refine L_nil ?_
                  refine C_cond_f rfl ?_
                  refine C_skip ?_
                  refine C_seq ?_
                  refine C_seq ?_
                  refine C_region ?_
                  refine L_y rfl (y_move rfl) rfl ?_
                  refine L_nil ?_
                  refine C_block ?_
                  refine C_loopIn (In_round ?_)
                  refine C_seq ?_
                  refine C_region ?_
                  refine L_y rfl (y_lss rfl rfl) rfl ?_
                  refine L_nil ?_
                  refine C_seq ?_
                  refine C_cond_t rfl ?_
                  refine C_skip ?_
                  refine C_seq ?_
                  refine C_block ?_
                  refine C_seq ?_
                  refine C_region ?_
                  refine L_y rfl (y_move rfl) rfl ?_
                  refine L_y rfl (y_assign rfl) rfl ?_
                  refine L_nil ?_
                  refine C_seq ?_
                  refine C_region ?_
                  refine L_y rfl (y_move rfl) rfl ?_
                  refine L_y rfl (y_indexA rfl rfl Try.underlying62 sz_4 (by omega) (by omega) (show _ = 0 from rfl)) rfl ?_
                  refine L_y rfl (y_load rfl ag_4 (sees 2 0 rfl) rfl) rfl ?_
                  refine L_nil ?_
                  refine C_cond_f rfl ?_
                  refine C_region ?_
                  refine L_y rfl (y_move rfl) rfl ?_
                  refine L_y rfl (y_move rfl) rfl ?_
                  refine L_y rfl (y_nilCheck rfl) rfl ?_
                  refine L_y rfl (y_fieldAddr rfl fl_110_0) rfl ?_
                  refine L_y rfl (y_indexA rfl rfl Try.underlying108 sz_107 (by omega) (by omega) (show _ = 0 from rfl)) rfl ?_
                  refine L_y rfl (y_fieldAddr rfl fl_107_1) rfl ?_
                  refine L_y rfl (y_load rfl ag_105 (sees 1 0 rfl) rfl) rfl ?_
                  refine L_y rfl (y_move rfl) rfl ?_
                  refine L_op rfl (op_mapUpdate 1 1 rfl rfl rfl Try.underlying105 Try.underlying3 rfl rfl ?_)
                  refine L_nil ?_
                  refine C_region ?_
                  refine L_y rfl (y_add rfl rfl (show _ = (1 : Int) from rfl)) rfl ?_
                  refine L_y rfl (y_move rfl) rfl ?_
                  refine L_nil ?_
                  refine In_round ?_
                  refine C_seq ?_
                  refine C_region ?_
                  refine L_y rfl (y_lss rfl rfl) rfl ?_
                  refine L_nil ?_
                  refine C_seq ?_
                  refine C_cond_t rfl ?_
                  refine C_skip ?_
                  refine C_seq ?_
                  refine C_block ?_
                  refine C_seq ?_
                  refine C_region ?_
                  refine L_y rfl (y_move rfl) rfl ?_
                  refine L_y rfl (y_assign rfl) rfl ?_
                  refine L_nil ?_
                  refine C_seq ?_
                  refine C_region ?_
                  refine L_y rfl (y_move rfl) rfl ?_
                  refine L_y rfl (y_indexA rfl rfl Try.underlying62 sz_4 (by omega) (by omega) (show _ = 1 from rfl)) rfl ?_
                  refine L_y rfl (y_load rfl ag_4 (sees 2 0 rfl) rfl) rfl ?_
                  refine L_nil ?_
                  refine C_cond_t rfl ?_
                  refine C_region ?_
                  refine L_y rfl (y_move rfl) rfl ?_
                  refine L_y rfl (y_move rfl) rfl ?_
                  refine L_y rfl (y_nilCheck rfl) rfl ?_
                  refine L_y rfl (y_fieldAddr rfl fl_110_0) rfl ?_
                  refine L_y rfl (y_indexA rfl rfl Try.underlying108 sz_107 (by omega) (by omega) (show _ = 2 from rfl)) rfl ?_
                  refine L_y rfl (y_fieldAddr rfl fl_107_1) rfl ?_
                  refine L_y rfl (y_load rfl ag_105 (sees 1 0 rfl) rfl) rfl ?_
                  refine L_y rfl (y_move rfl) rfl ?_
                  refine L_op rfl (op_delete 1 2 rfl rfl rfl Try.underlying105 Try.underlying3 rfl rfl ?_)
                  refine L_nil ?_
                  refine C_region ?_
                  refine L_y rfl (y_add rfl rfl (show _ = (2 : Int) from rfl)) rfl ?_
                  refine L_y rfl (y_move rfl) rfl ?_
                  refine L_nil ?_
                  refine In_round ?_
                  refine C_seq ?_
                  refine C_region ?_
                  refine L_y rfl (y_lss rfl rfl) rfl ?_
                  refine L_nil ?_
                  refine C_seq ?_
                  refine C_cond_f rfl ?_
                  refine C_exit ?_
                  refine C_seq ?_
                  refine C_region ?_
                  refine L_y rfl (y_assign rfl) rfl ?_
                  refine L_nil ?_
                  refine C_ret ?_
                  refine B_ret (rv_tmp rfl rv_nil) ((hsub (.cons_cons _ (.cons_cons _ (.cons _ (.cons _ (.refl _)))))).trans (hsub_pick [1, 0] rfl)) ?_
                  have e0 : putD A ask n s false = false := by simp_all [putD, pd]
                  have e1 : putD A ask n s true = true := by simp_all [putD, pd, pA]
                  have ea : putA A ask n s = ((A.write false n s).write true n s) := by simp_all [putA, pA]
                  have em : putm m A ask n s = m.mark n false true := by simp [putm, hn, e0, e1]
                  exact ⟨ret_int (by simp [putE, hn, e0, e1]), D6, h6.to (by simp [putDa, hn, ea]), by rw [em]; rfl⟩
                · skip
                  refine H_y 14 rfl (by kernel_rfl) (by kernel_rfl) (by kernel_rfl) (hsub (.cons _ (.cons _ (.cons _ (.cons _ (.refl _)))))) rfl (y_pick_f rfl rfl) rfl ?_
                  refine H_y 15 rfl (by kernel_rfl) (by kernel_rfl) (by kernel_rfl) (hsub (.cons _ (.cons _ (.cons _ (.cons _ (.refl _)))))) rfl (y_indexA rfl rfl Try.underlying62 sz_4 (by omega) (by omega) (show _ = 1 from rfl)) rfl ?_
                  refine H_one 16 rfl (by kernel_rfl) rfl (op_store1 2 0 rfl rfl rfl sz_4 rfl (Nat.le_of_ble_eq_true rfl) ?_)
                  refine ⟨hsub (.cons _ (.cons _ (.cons _ (.cons _ (.refl _))))), ?_⟩
                  refine H_done (by kernel_rfl) ?_
                  refine C_region ?_
                  refine L_y rfl (y_add rfl rfl (show _ = (2 : Int) from rfl)) rfl ?_
                  refine L_y rfl (y_move rfl) rfl ?_
                  refine L_nil ?_
                  refine In_round ?_
                  refine C_seq ?_
                  refine C_region ?_
                  refine L_y rfl (y_lss rfl rfl) rfl ?_
                  refine L_nil ?_
                  refine C_seq ?_
                  refine C_cond_f rfl ?_
                  refine C_exit ?_
                  refine C_seq ?_
                  refine C_seq ?_
                  refine C_region ?_
                  refine L_y rfl (y_indexA rfl rfl Try.underlying62 sz_4 (by omega) (by omega) (show _ = 0 from rfl)) rfl ?_
                  refine L_y rfl (y_load rfl ag_4 (sees 2 0 rfl) rfl) rfl ?_
                  refine L_y rfl (y_not rfl) rfl ?_
                  refine L_y rfl (y_move rfl) rfl ?_
                  refine L_y rfl (y_indexA rfl rfl Try.underlying62 sz_4 (by omega) (by omega) (show _ = 1 from rfl)) rfl ?_
                  refine L_y rfl (y_load rfl ag_4 (sees 2 0 rfl) rfl) rfl ?_
                  refine L_y rfl (y_not rfl) rfl ?_
                  refine L_y rfl (y_pick_t rfl rfl) rfl ?_
                  refine L_nil ?_
                  refine C_cond_t rfl ?_
                  refine C_seq ?_
                  refine C_region ?_
                  refine L_y rfl (y_assign rfl) rfl ?_
                  refine L_nil ?_
                  refine C_ret ?_
                  refine B_ret (rv_tmp rfl rv_nil) ((hsub (.cons_cons _ (.cons_cons _ (.cons _ (.cons _ (.refl _)))))).trans (hsub_pick [1, 0] rfl)) ?_
                  have e0 : putD A ask n s false = false := by simp_all [putD, pd]
                  have e1 : putD A ask n s true = false := by simp_all [putD, pd, pA]
                  have ea : putA A ask n s = ((A.write false n s).write true n s) := by simp_all [putA, pA]
                  have em : putm m A ask n s = m := by simp [putm, hn, e0, e1]
                  exact ⟨ret_int (by simp [putE, hn, e0, e1]), D6, h6.to (by simp [putDa, hn, ea]), by rw [em]; rfl⟩
              · refine op_y (y_loadA rfl ag_32 sz_32 (sees 3 0 rfl) (by rw [bs_length, hs]; decide) (bs_whole0 _ hs)) rfl ?_
                refine ⟨hsub (.cons _ (.cons _ (.cons _ (.cons _ (.refl _))))), ?_⟩
                refine H_one 9 rfl (by kernel_rfl) rfl (op_y (y_load rfl ag_24 (sees 0 0 rfl) rfl) rfl ?_)
                refine ⟨hsub (.cons _ (.cons _ (.cons _ (.cons _ (.refl _))))), ?_⟩
                refine H_one 12 rfl (by kernel_rfl) rfl (op_call rfl rfl (fun a w => Try.call62 a w) rfl ?_)
                refine ((write_d h3 true n s hs (by have := hQ true; have q2 := Da.write_many A false n s true; omega)).sub (hsub_pick [1] rfl)).mono ?_
                rintro _ _ ⟨rfl, D7, h7, rfl⟩
                refine ⟨_, rfl, ?_⟩
                refine ⟨hsub (.cons _ (.cons _ (.cons _ (.cons _ (.refl _))))), ?_⟩
                refine H_y 13 rfl (by kernel_rfl) (by kernel_rfl) (by kernel_rfl) (hsub (.cons _ (.cons _ (.cons _ (.cons _ (.refl _)))))) rfl (y_eqi rfl rfl) rfl ?_
                refine H_case 42 rfl (fun hg9_14 => ?_) (fun hg9_14 => ?_)
                · skip
                  refine H_y 14 rfl (by kernel_rfl) (by kernel_rfl) (by kernel_rfl) (hsub (.cons _ (.cons _ (.cons _ (.cons _ (.refl _)))))) rfl (y_pick_f rfl rfl) rfl ?_
                  refine H_y 15 rfl (by kernel_rfl) (by kernel_rfl) (by kernel_rfl) (hsub (.cons _ (.cons _ (.cons _ (.cons _ (.refl _)))))) rfl (y_indexA rfl rfl Try.underlying62 sz_4 (by omega) (by omega) (show _ = 1 from rfl)) rfl ?_
                  refine H_one 16 rfl (by kernel_rfl) rfl (op_store1 2 0 rfl rfl rfl sz_4 rfl (Nat.le_of_ble_eq_true rfl) ?_)
                  refine ⟨hsub (.cons _ (.cons _ (.cons _ (.cons _ (.refl _))))), ?_⟩
                  refine H_done (by kernel_rfl) ?_
                  refine C_region ?_
                  refine L_y rfl (y_add rfl rfl (show _ = (2 : Int) from rfl)) rfl ?_
                  refine L_y rfl (y_move rfl) rfl ?_
                  refine L_nil ?_
                  refine In_round ?_
                  refine C_seq ?_
                  refine C_region ?_
                  refine L_y rfl (y_lss rfl rfl) rfl ?_
                  refine L_nil ?_
                  refine C_seq ?_
                  refine C_cond_f rfl ?_
                  refine C_exit ?_
                  refine C_seq ?_
                  refine C_seq ?_
                  refine C_region ?_
                  refine L_y rfl (y_indexA rfl rfl Try.underlying62 sz_4 (by omega) (by omega) (show _ = 0 from rfl)) rfl ?_
                  refine L_y rfl (y_load rfl ag_4 (sees 2 0 rfl) rfl) rfl ?_
                  refine L_y rfl (y_not rfl) rfl ?_
                  refine L_y rfl (y_move rfl) rfl ?_
                  refine L_y rfl (y_indexA rfl rfl Try.underlying62 sz_4 (by omega) (by omega) (show _ = 1 from rfl)) rfl ?_
                  refine L_y rfl (y_load rfl ag_4 (sees 2 0 rfl) rfl) rfl ?_
                  refine L_y rfl (y_not rfl) rfl ?_
                  refine L_y rfl (y_pick_t rfl rfl) rfl ?_
                  refine L_nil ?_
                  refine C_cond_f rfl ?_
                  refine C_skip ?_
                  refine C_seq ?_
                  refine C_seq ?_
                  refine C_region ?_
                  refine L_y rfl (y_move rfl) rfl ?_
                  refine L_nil ?_
                  refine C_block ?_
                  refine C_loopIn (In_round ?_)
                  refine C_seq ?_
                  refine C_region ?_
                  refine L_y rfl (y_lss rfl rfl) rfl ?_
                  refine L_nil ?_
                  refine C_seq ?_
                  refine C_cond_t rfl ?_
                  refine C_skip ?_
                  refine C_seq ?_
                  refine C_block ?_
                  refine C_seq ?_
                  refine C_region ?_
                  refine L_y rfl (y_move rfl) rfl ?_
                  refine L_y rfl (y_assign rfl) rfl ?_
                  refine L_nil ?_
                  refine C_seq ?_
                  refine C_region ?_
                  refine L_y rfl (y_move rfl) rfl ?_
                  refine L_y rfl (y_indexA rfl rfl Try.underlying62 sz_4 (by omega) (by omega) (show _ = 0 from rfl)) rfl ?_
                  refine L_y rfl (y_load rfl ag_4 (sees 2 0 rfl) rfl) rfl ?_
                  refine L_nil ?_
                  refine C_cond_f rfl ?_
                  refine C_region ?_
                  refine L_y rfl (y_move rfl) rfl ?_
                  refine L_y rfl (y_move rfl) rfl ?_
                  refine L_y rfl (y_nilCheck rfl) rfl ?_
                  refine L_y rfl (y_fieldAddr rfl fl_110_0) rfl ?_
                  refine L_y rfl (y_indexA rfl rfl Try.underlying108 sz_107 (by omega) (by omega) (show _ = 0 from rfl)) rfl ?_
                  refine L_y rfl (y_fieldAddr rfl fl_107_1) rfl ?_
                  refine L_y rfl (y_load rfl ag_105 (sees 1 0 rfl) rfl) rfl ?_
                  refine L_y rfl (y_move rfl) rfl ?_
                  refine L_op rfl (op_mapUpdate 1 1 rfl rfl rfl Try.underlying105 Try.underlying3 rfl rfl ?_)
                  refine L_nil ?_
                  refine C_region ?_
                  refine L_y rfl (y_add rfl rfl (show _ = (1 : Int) from rfl)) rfl ?_
                  refine L_y rfl (y_move rfl) rfl ?_
                  refine L_nil ?_
                  refine In_round ?_
                  refine C_seq ?_
                  refine C_region ?_
                  refine L_y rfl (y_lss rfl rfl) rfl ?_
                  refine L_nil ?_
                  refine C_seq ?_
                  refine C_cond_t rfl ?_
                  refine C_skip ?_
                  refine C_seq ?_
                  refine C_block ?_
                  refine C_seq ?_
                  refine C_region ?_
                  refine L_y rfl (y_move rfl) rfl ?_
                  refine L_y rfl (y_assign rfl) rfl ?_
                  refine L_nil ?_
                  refine C_seq ?_
                  refine C_region ?_
                  refine L_y rfl (y_move rfl) rfl ?_
                  refine L_y rfl (y_indexA rfl rfl Try.underlying62 sz_4 (by omega) (by omega) (show _ = 1 from rfl)) rfl ?_
                  refine L_y rfl (y_load rfl ag_4 (sees 2 0 rfl) rfl) rfl ?_
                  refine L_nil ?_
                  refine C_cond_t rfl ?_
                  refine C_region ?_
                  refine L_y rfl (y_move rfl) rfl ?_
                  refine L_y rfl (y_move rfl) rfl ?_
                  refine L_y rfl (y_nilCheck rfl) rfl ?_
                  refine L_y rfl (y_fieldAddr rfl fl_110_0) rfl ?_
                  refine L_y rfl (y_indexA rfl rfl Try.underlying108 sz_107 (by omega) (by omega) (show _ = 2 from rfl)) rfl ?_
                  refine L_y rfl (y_fieldAddr rfl fl_107_1) rfl ?_
                  refine L_y rfl (y_load rfl ag_105 (sees 1 0 rfl) rfl) rfl ?_
                  refine L_y rfl (y_move rfl) rfl ?_
                  refine L_op rfl (op_delete 1 2 rfl rfl rfl Try.underlying105 Try.underlying3 rfl rfl ?_)
                  refine L_nil ?_
                  refine C_region ?_
                  refine L_y rfl (y_add rfl rfl (show _ = (2 : Int) from rfl)) rfl ?_
                  refine L_y rfl (y_move rfl) rfl ?_
                  refine L_nil ?_
                  refine In_round ?_
                  refine C_seq ?_
                  refine C_region ?_
                  refine L_y rfl (y_lss rfl rfl) rfl ?_
                  refine L_nil ?_
                  refine C_seq ?_
                  refine C_cond_f rfl ?_
                  refine C_exit ?_
                  refine C_seq ?_
                  refine C_region ?_
                  refine L_y rfl (y_assign rfl) rfl ?_
                  refine L_nil ?_
                  refine C_ret ?_
                  refine B_ret (rv_tmp rfl rv_nil) ((hsub (.cons_cons _ (.cons_cons _ (.cons _ (.cons _ (.refl _)))))).trans (hsub_pick [1, 0] rfl)) ?_
                  have e0 : putD A ask n s false = false := by simp_all [putD, pd]
                  have e1 : putD A ask n s true = true := by simp_all [putD, pd, pA]
                  have ea : putA A ask n s = ((A.write false n s).write true n s) := by simp_all [putA, pA]
                  have em : putm m A ask n s = m.mark n false true := by simp [putm, hn, e0, e1]
                  exact ⟨ret_int (by simp [putE, hn, e0, e1]), D7, h7.to (by simp [putDa, hn, ea]), by rw [em]; rfl⟩
                · skip
                  refine H_y 14 rfl (by kernel_rfl) (by kernel_rfl) (by kernel_rfl) (hsub (.cons _ (.cons _ (.cons _ (.cons _ (.refl _)))))) rfl (y_pick_f rfl rfl) rfl ?_
                  refine H_y 15 rfl (by kernel_rfl) (by kernel_rfl) (by kernel_rfl) (hsub (.cons _ (.cons _ (.cons _ (.cons _ (.refl _)))))) rfl (y_indexA rfl rfl Try.underlying62 sz_4 (by omega) (by omega) (show _ = 1 from rfl)) rfl ?_
                  refine H_one 16 rfl (by kernel_rfl) rfl (op_store1 2 0 rfl rfl rfl sz_4 rfl (Nat.le_of_ble_eq_true rfl) ?_)
                  refine ⟨hsub (.cons _ (.cons _ (.cons _ (.cons _ (.refl _))))), ?_⟩
                  refine H_done (by kernel_rfl) ?_
                  refine C_region ?_
                  refine L_y rfl (y_add rfl rfl (show _ = (2 : Int) from rfl)) rfl ?_
                  refine L_y rfl (y_move rfl) rfl ?_
                  refine L_nil ?_
                  refine In_round ?_
                  refine C_seq ?_
                  refine C_region ?_
                  refine L_y rfl (y_lss rfl rfl) rfl ?_
                  refine L_nil ?_
                  refine C_seq ?_
                  refine C_cond_f rfl ?_
                  refine C_exit ?_
                  refine C_seq ?_
                  refine C_seq ?_
                  refine C_region ?_
                  refine L_y rfl (y_indexA rfl rfl Try.underlying62 sz_4 (by omega) (by omega) (show _ = 0 from rfl)) rfl ?_
                  refine L_y rfl (y_load rfl ag_4 (sees 2 0 rfl) rfl) rfl ?_
                  refine L_y rfl (y_not rfl) rfl ?_
                  refine L_y rfl (y_move rfl) rfl ?_
                  refine L_y rfl (y_indexA rfl rfl Try.underlying62 sz_4 (by omega) (by omega) (show _ = 1 from rfl)) rfl ?_
                  refine L_y rfl (y_load rfl ag_4 (sees 2 0 rfl) rfl) rfl ?_
                  refine L_y rfl (y_not rfl) rfl ?_
                  refine L_y rfl (y_pick_t rfl rfl) rfl ?_
                  refine L_nil ?_
                  refine C_cond_t rfl ?_
                  refine C_seq ?_
                  refine C_region ?_
                  refine L_y rfl (y_assign rfl) rfl ?_
                  refine L_nil ?_
                  refine C_ret ?_
                  refine B_ret (rv_tmp rfl rv_nil) ((hsub (.cons_cons _ (.cons_cons _ (.cons _ (.cons _ (.refl _)))))).trans (hsub_pick [1, 0] rfl)) ?_
                  have e0 : putD A ask n s false = false := by simp_all [putD, pd]
                  have e1 : putD A ask n s true = false := by simp_all [putD, pd, pA]
                  have ea : putA A ask n s = ((A.write false n s).write true n s) := by simp_all [putA, pA]
                  have em : putm m A ask n s = m := by simp [putm, hn, e0, e1]
                  exact ⟨ret_int (by simp [putE, hn, e0, e1]), D7, h7.to (by simp [putDa, hn, ea]), by rw [em]; rfl⟩
          · skip
            refine C_skip ?_
            refine C_region ?_
            refine L_y rfl (y_add rfl rfl (show _ = (2 : Int) from rfl)) rfl ?_
            refine L_y rfl (y_move rfl) rfl ?_
            refine L_nil ?_
            refine In_round ?_
            refine C_seq ?_
            refine C_region ?_
            refine L_y rfl (y_lss rfl rfl) rfl ?_
            refine L_nil ?_
            refine C_seq ?_
            refine C_cond_f rfl ?_
            refine C_exit ?_
            refine C_seq ?_
            refine C_seq ?_
            refine C_region ?_
            refine L_y rfl (y_indexA rfl rfl Try.underlying62 sz_4 (by omega) (by omega) (show _ = 0 from rfl)) rfl ?_
            refine L_y rfl (y_load rfl ag_4 (sees 2 0 rfl) rfl) rfl ?_
            refine L_y rfl (y_not rfl) rfl ?_
            refine L_y rfl (y_move rfl) rfl ?_
            refine L_y rfl (y_indexA rfl rfl Try.underlying62 sz_4 (by omega) (by omega) (show _ = 1 from rfl)) rfl ?_
            refine L_y rfl (y_load rfl ag_4 (sees 2 0 rfl) rfl) rfl ?_
            refine L_y rfl (y_not rfl) rfl ?_
            refine L_y rfl (y_pick_t rfl rfl) rfl ?_
            refine L_nil ?_
            refine C_cond_t rfl ?_
            refine C_seq ?_
            refine C_region ?_
            refine L_y rfl (y_assign rfl) rfl ?_
            refine L_nil ?_
            refine C_ret ?_
            refine B_ret (rv_tmp rfl rv_nil) ((hsub (.cons_cons _ (.cons_cons _ (.cons _ (.cons _ (.refl _)))))).trans (hsub_pick [1, 0] rfl)) ?_
            have e0 : putD A ask n s false = false := by simp_all [putD, pd]
            have e1 : putD A ask n s true = false := by simp_all [putD, pd, pA]
            have ea : putA A ask n s = (A.write false n s) := by simp_all [putA, pA]
            have em : putm m A ask n s = m := by simp [putm, hn, e0, e1]
            exact ⟨ret_int (by simp [putE, hn, e0, e1]), D3, h3.to (by simp [putDa, hn, ea]), by rw [em]; rfl⟩
      · refine op_y (y_loadA rfl ag_32 sz_32 (sees 3 0 rfl) (by rw [bs_length, hs]; decide) (bs_whole0 _ hs)) rfl ?_
        refine ⟨hsub (.cons _ (.cons _ (.cons _ (.cons _ (.refl _))))), ?_⟩
        refine H_one 9 rfl (by kernel_rfl) rfl (op_y (y_load rfl ag_24 (sees 0 0 rfl) rfl) rfl ?_)
        refine ⟨hsub (.cons _ (.cons _ (.cons _ (.cons _ (.refl _))))), ?_⟩
        refine H_one 12 rfl (by kernel_rfl) rfl (op_call rfl rfl (fun a w => Try.call62 a w) rfl ?_)
        refine ((write_d h false n s hs (by have := hQ false; omega)).sub (hsub_pick [1] rfl)).mono ?_
        rintro _ _ ⟨rfl, D8, h8, rfl⟩
        refine ⟨_, rfl, ?_⟩
        refine ⟨hsub (.cons _ (.cons _ (.cons _ (.cons _ (.refl _))))), ?_⟩
        refine H_y 13 rfl (by kernel_rfl) (by kernel_rfl) (by kernel_rfl) (hsub (.cons _ (.cons _ (.cons _ (.cons _ (.refl _)))))) rfl (y_eqi rfl rfl) rfl ?_
        refine H_case 42 rfl (fun hg9_14 => ?_) (fun hg9_14 => ?_)
        · skip
          refine H_y 14 rfl (by kernel_rfl) (by kernel_rfl) (by kernel_rfl) (hsub (.cons _ (.cons _ (.cons _ (.cons _ (.refl _)))))) rfl (y_pick_f rfl rfl) rfl ?_
          refine H_y 15 rfl (by kernel_rfl) (by kernel_rfl) (by kernel_rfl) (hsub (.cons _ (.cons _ (.cons _ (.cons _ (.refl _)))))) rfl (y_indexA rfl rfl Try.underlying62 sz_4 (by omega) (by omega) (show _ = 0 from rfl)) rfl ?_
          refine H_one 16 rfl (by kernel_rfl) rfl (op_store1 2 0 rfl rfl rfl sz_4 rfl (Nat.le_of_ble_eq_true rfl) ?_)
          refine ⟨hsub (.cons _ (.cons _ (.cons _ (.cons _ (.refl _))))), ?_⟩
          refine H_done (by kernel_rfl) ?_
          refine C_region ?_
          refine L_y rfl (y_add rfl rfl (show _ = (1 : Int) from rfl)) rfl ?_
          refine L_y rfl (y_move rfl) rfl ?_
          refine L_nil ?_
          refine In_round ?_
          refine C_seq ?_
          refine C_region ?_
          refine L_y rfl (y_lss rfl rfl) rfl ?_
          refine L_nil ?_
          refine C_seq ?_
          refine C_cond_t rfl ?_
          refine C_skip ?_
          refine C_seq ?_
          refine C_block ?_
          refine C_seq ?_
          refine C_region ?_
          refine L_y rfl (y_move rfl) rfl ?_
          refine L_y rfl (y_assign rfl) rfl ?_
          refine L_nil ?_
          refine C_seq ?_
          refine C_region ?_
          refine L_y rfl (y_move rfl) rfl ?_
          refine L_y rfl (y_move rfl) rfl ?_
          refine L_y rfl (y_nilCheck rfl) rfl ?_
          refine L_y rfl (y_fieldAddr rfl fl_110_0) rfl ?_
          refine L_y rfl (y_indexA rfl rfl Try.underlying108 sz_107 (by omega) (by omega) (show _ = 2 from rfl)) rfl ?_
          refine L_y rfl (y_assign rfl) rfl ?_
          refine L_nil ?_
          refine C_seq ?_
          refine C_region ?_
          refine L_y rfl (y_move rfl) rfl ?_
          refine L_y rfl (y_nilCheck rfl) rfl ?_
          refine L_y rfl (y_loadA rfl ag_107 sz_107 (sees 1 0 rfl) (Nat.le_of_ble_eq_true rfl) rfl) rfl ?_
          refine L_op rfl (op_call rfl rfl (fun a w => Try.call53 a w) rfl ?_)
          refine ((there_d h8 true).sub (hsub_pick [0] rfl)).mono ?_
          rintro _ _ ⟨rfl, rfl⟩
          refine ⟨_, rfl, ?_⟩
          refine L_nil ?_
          refine C_cond rfl (fun hc2 => ?_) (fun hc2 => ?_)
          · skip
            refine C_regionH H (by kernel_rfl) ?_
            refine H_y 0 rfl (by kernel_rfl) (by kernel_rfl) (by kernel_rfl) (hsub (.cons _ (.cons _ (.cons _ (.cons _ (.refl _)))))) rfl (y_move rfl) rfl ?_
            refine H_y 1 rfl (by kernel_rfl) (by kernel_rfl) (by kernel_rfl) (hsub (.cons _ (.cons _ (.cons _ (.cons _ (.refl _)))))) rfl (y_move rfl) rfl ?_
            refine H_y 2 rfl (by kernel_rfl) (by kernel_rfl) (by kernel_rfl) (hsub (.cons _ (.cons _ (.cons _ (.cons _ (.refl _)))))) rfl (y_move rfl) rfl ?_
            refine H_one 3 rfl (by kernel_rfl) rfl (op_call (f := fa) (first := []) (cap := cap) rfl rfl hask.1 rfl ?_)
            refine FnS.mono (FnS.sub (hsub_pick [1, 0] rfl) (hask.2 true _ _ _ h8 (hsub (.cons _ (.cons _ (.refl _)))))) ?_
            rintro _ _ ⟨rfl, rfl⟩
            refine ⟨_, rfl, ?_⟩
            refine ⟨hsub (.cons _ (.cons _ (.cons _ (.cons _ (.refl _))))), ?_⟩
            refine H_y 4 rfl (by kernel_rfl) (by kernel_rfl) (by kernel_rfl) (hsub (.cons _ (.cons _ (.cons _ (.cons _ (.refl _)))))) rfl (y_not rfl) rfl ?_
            refine H_y 5 rfl (by kernel_rfl) (by kernel_rfl) (by kernel_rfl) (hsub (.cons _ (.cons _ (.cons _ (.cons _ (.refl _)))))) rfl (y_move rfl) rfl ?_
            refine H_case 34 rfl (fun hg9_6 => ?_) (fun hg9_6 => ?_)
            · skip
              refine H_skip 6 rfl (by kernel_rfl) (by kernel_rfl) (by kernel_rfl) (hsub (.cons _ (.cons _ (.cons _ (.cons _ (.refl _)))))) rfl rfl ?_
              refine H_skip 7 rfl (by kernel_rfl) (by kernel_rfl) (by kernel_rfl) (hsub (.cons _ (.cons _ (.cons _ (.cons _ (.refl _)))))) rfl rfl ?_
              refine H_skip 8 rfl (by kernel_rfl) (by kernel_rfl) (by kernel_rfl) (hsub (.cons _ (.cons _ (.cons _ (.cons _ (.refl _)))))) rfl rfl ?_
              refine H_skip 9 rfl (by kernel_rfl) (by kernel_rfl) (by kernel_rfl) (hsub (.cons _ (.cons _ (.cons _ (.cons _ (.refl _)))))) rfl rfl ?_
              refine H_skip 10 rfl (by kernel_rfl) (by kernel_rfl) (by kernel_rfl) (hsub (.cons _ (.cons _ (.cons _ (.cons _ (.refl _)))))) rfl rfl ?_
              refine H_skip 11 rfl (by kernel_rfl) (by kernel_rfl) (by kernel_rfl) (hsub (.cons _ (.cons _ (.cons _ (.cons _ (.refl _)))))) rfl rfl ?_
              refine H_skip 12 rfl (by kernel_rfl) (by kernel_rfl) (by kernel_rfl) (hsub (.cons _ (.cons _ (.cons _ (.cons _ (.refl _)))))) rfl rfl ?_
              refine H_skip 13 rfl (by kernel_rfl) (by kernel_rfl) (by kernel_rfl) (hsub (.cons _ (.cons _ (.cons _ (.cons _ (.refl _)))))) rfl rfl ?_
              refine H_y 14 rfl (by kernel_rfl) (by kernel_rfl) (by kernel_rfl) (hsub (.cons _ (.cons _ (.cons _ (.cons _ (.refl _)))))) rfl (y_pick_t rfl rfl) rfl ?_
              refine H_y 15 rfl (by kernel_rfl) (by kernel_rfl) (by kernel_rfl) (hsub (.cons _ (.cons _ (.cons _ (.cons _ (.refl _)))))) rfl (y_indexA rfl rfl Try.underlying62 sz_4 (by omega) (by omega) (show _ = 1 from rfl)) rfl ?_
              refine H_one 16 rfl (by kernel_rfl) rfl (op_store1 2 0 rfl rfl rfl sz_4 rfl (Nat.le_of_ble_eq_true rfl) ?_)
              refine ⟨hsub (.cons _ (.cons _ (.cons _ (.cons _ (.refl _))))), ?_⟩
              refine H_done (by kernel_rfl) ?_
              refine C_region ?_
              refine L_y rfl (y_add rfl rfl (show _ = (2 : Int) from rfl)) rfl ?_
              refine L_y rfl (y_move rfl) rfl ?_
              refine L_nil ?_
              refine In_round ?_
              refine C_seq ?_
              refine C_region ?_
              refine L_y rfl (y_lss rfl rfl) rfl ?_
              refine L_nil ?_
              refine C_seq ?_
              refine C_cond_f rfl ?_
              refine C_exit ?_
              refine C_seq ?_
              refine C_seq ?_
              refine C_region ?_
              refine L_y rfl (y_indexA rfl rfl Try.underlying62 sz_4 (by omega) (by omega) (show _ = 0 from rfl)) rfl ?_
              refine L_y rfl (y_load rfl ag_4 (sees 2 0 rfl) rfl) rfl ?_
              refine L_y rfl (y_not rfl) rfl ?_
              refine L_y rfl (y_move rfl) rfl ?_
              refine L_skip rfl rfl ?_
              refine L_skip rfl rfl ?_
              refine L_skip rfl rfl ?_
              refine L_y rfl (y_pick_f rfl rfl) rfl ?_
              refine L_nil ?_
              refine C_cond_f rfl ?_
              refine C_skip ?_
              refine C_seq ?_
              refine C_seq ?_
              refine C_region ?_
              refine L_y rfl (y_move rfl) rfl ?_
              refine L_nil ?_
              refine C_block ?_
              refine C_loopIn (In_round ?_)
              refine C_seq ?_
              refine C_region ?_
              refine L_y rfl (y_lss rfl rfl) rfl ?_
              refine L_nil ?_
              refine C_seq ?_
              refine C_cond_t rfl ?_
              refine C_skip ?_
              refine C_seq ?_
              refine C_block ?_
              refine C_seq ?_
              refine C_region ?_
              refine L_y rfl (y_move rfl) rfl ?_
              refine L_y rfl (y_assign rfl) rfl ?_
              refine L_nil ?_
              refine C_seq ?_
              refine C_region ?_
              refine L_y rfl (y_move rfl) rfl ?_
              refine L_y rfl (y_indexA rfl rfl Try.underlying62 sz_4 (by omega) (by omega) (show _ = 0 from rfl)) rfl ?_
              refine L_y rfl (y_load rfl ag_4 (sees 2 0 rfl) rfl) rfl ?_
              refine L_nil ?_
              refine C_cond_t rfl ?_
              refine C_region ?_
              refine L_y rfl (y_move rfl) rfl ?_
              refine L_y rfl (y_move rfl) rfl ?_
              refine L_y rfl (y_nilCheck rfl) rfl ?_
              refine L_y rfl (y_fieldAddr rfl fl_110_0) rfl ?_
              refine L_y rfl (y_indexA rfl rfl Try.underlying108 sz_107 (by omega) (by omega) (show _ = 0 from rfl)) rfl ?_
              refine L_y rfl (y_fieldAddr rfl fl_107_1) rfl ?_
              refine L_y rfl (y_load rfl ag_105 (sees 0 0 rfl) rfl) rfl ?_
              refine L_y rfl (y_move rfl) rfl ?_
              refine L_op rfl (op_delete 0 1 rfl rfl rfl Try.underlying105 Try.underlying3 rfl rfl ?_)
              refine L_nil ?_
              refine C_region ?_
              refine L_y rfl (y_add rfl rfl (show _ = (1 : Int) from rfl)) rfl ?_
              refine L_y rfl (y_move rfl) rfl ?_
              refine L_nil ?_
              refine In_round ?_
              refine C_seq ?_
              refine C_region ?_
              refine L_y rfl (y_lss rfl rfl) rfl ?_
              refine L_nil ?_
              refine C_seq ?_
              refine C_cond_t rfl ?_
              refine C_skip ?_
              refine C_seq ?_
              refine C_block ?_
              refine C_seq ?_
              refine C_region ?_
              refine L_y rfl (y_move rfl) rfl ?_
              refine L_y rfl (y_assign rfl) rfl ?_
              refine L_nil ?_
              refine C_seq ?_
              refine C_region ?_
              refine L_y rfl (y_move rfl) rfl ?_
              refine L_y rfl (y_indexA rfl rfl Try.underlying62 sz_4 (by omega) (by omega) (show _ = 1 from rfl)) rfl ?_
              refine L_y rfl (y_load rfl ag_4 (sees 2 0 rfl) rfl) rfl ?_
              refine L_nil ?_
              refine C_cond_t rfl ?_
              refine C_region ?_
              refine L_y rfl (y_move rfl) rfl ?_
              refine L_y rfl (y_move rfl) rfl ?_
              refine L_y rfl (y_nilCheck rfl) rfl ?_
              refine L_y rfl (y_fieldAddr rfl fl_110_0) rfl ?_
              refine L_y rfl (y_indexA rfl rfl Try.underlying108 sz_107 (by omega) (by omega) (show _ = 2 from rfl)) rfl ?_
              refine L_y rfl (y_fieldAddr rfl fl_107_1) rfl ?_
              refine L_y rfl (y_load rfl ag_105 (sees 0 0 rfl) rfl) rfl ?_
              refine L_y rfl (y_move rfl) rfl ?_
              refine L_op rfl (op_delete 0 2 rfl rfl rfl Try.underlying105 Try.underlying3 rfl rfl ?_)
              refine L_nil ?_
              refine C_region ?_
              refine L_y rfl (y_add rfl rfl (show _ = (2 : Int) from rfl)) rfl ?_
              refine L_y rfl (y_move rfl) rfl ?_
              refine L_nil ?_
              refine In_round ?_
              refine C_seq ?_
              refine C_region ?_
              refine L_y rfl (y_lss rfl rfl) rfl ?_
              refine L_nil ?_
              refine C_seq ?_
              refine C_cond_f rfl ?_
              refine C_exit ?_
              refine C_seq ?_
              refine C_region ?_
              refine L_y rfl (y_assign rfl) rfl ?_
              refine L_nil ?_
              refine C_ret ?_
              refine B_ret (rv_tmp rfl rv_nil) ((hsub (.cons_cons _ (.cons_cons _ (.cons _ (.cons _ (.refl _)))))).trans (hsub_pick [0, 0] rfl)) ?_
              have e0 : putD A ask n s false = true := by simp_all [putD, pd]
              have e1 : putD A ask n s true = true := by simp_all [putD, pd, pA]
              have ea : putA A ask n s = (A.write false n s) := by simp_all [putA, pA]
              have em : putm m A ask n s = m.mark n true true := by simp [putm, hn, e0, e1]
              exact ⟨ret_int (by simp [putE, hn, e0, e1]), D8, h8.to (by simp [putDa, hn, ea]), by rw [em]; rfl⟩
            · skip
              refine H_y 6 rfl (by kernel_rfl) (by kernel_rfl) (by kernel_rfl) (hsub (.cons _ (.cons _ (.cons _ (.cons _ (.refl _)))))) rfl (y_move rfl) rfl ?_
              refine H_y 7 rfl (by kernel_rfl) (by kernel_rfl) (by kernel_rfl) (hsub (.cons _ (.cons _ (.cons _ (.cons _ (.refl _)))))) rfl (y_nilCheck rfl) rfl ?_
              refine H_y 8 rfl (by kernel_rfl) (by kernel_rfl) (by kernel_rfl) (hsub (.cons _ (.cons _ (.cons _ (.cons _ (.refl _)))))) rfl (y_fieldAddr rfl fl_107_0) rfl ?_
              refine H_y 10 rfl (by kernel_rfl) (by kernel_rfl) (by kernel_rfl) (hsub (.cons _ (.cons _ (.cons _ (.cons _ (.refl _)))))) rfl (y_move rfl) rfl ?_
              refine H_two 9 11 rfl rfl (by kernel_rfl) rfl rfl ?_ ?_
              · refine op_y (y_load rfl ag_24 (sees 0 0 rfl) rfl) rfl ?_
                refine ⟨hsub (.cons _ (.cons _ (.cons _ (.cons _ (.refl _))))), ?_⟩
                refine H_one 11 rfl (by kernel_rfl) rfl (op_y (y_loadA rfl ag_32 sz_32 (sees 3 0 rfl) (by rw [bs_length, hs]; decide) (bs_whole0 _ hs)) rfl ?_)
                refine ⟨hsub (.cons _ (.cons _ (.cons _ (.cons _ (.refl _))))), ?_⟩
                refine H_one 12 rfl (by kernel_rfl) rfl (op_call rfl rfl (fun a w => Try.call62 a w) rfl ?_)
                refine ((write_d h8 true n s hs (by have := hQ true; have q2 := Da.write_many A false n s true; omega)).sub (hsub_pick [1] rfl)).mono ?_
                rintro _ _ ⟨rfl, D9, h9, rfl⟩
                refine ⟨_, rfl, ?_⟩
                refine ⟨hsub (.cons _ (.cons _ (.cons _ (.cons _ (.refl _))))), ?_⟩
                refine H_y 13 rfl (by kernel_rfl) (by kernel_rfl) (by kernel_rfl) (hsub (.cons _ (.cons _ (.cons _ (.cons _ (.refl _)))))) rfl (y_eqi rfl rfl) rfl ?_
                refine H_case 42 rfl (fun hg9_14 => ?_) (fun hg9_14 => ?_)
                · skip
                  refine H_y 14 rfl (by kernel_rfl) (by kernel_rfl) (by kernel_rfl) (hsub (.cons _ (.cons _ (.cons _ (.cons _ (.refl _)))))) rfl (y_pick_f rfl rfl) rfl ?_
                  refine H_y 15 rfl (by kernel_rfl) (by kernel_rfl) (by kernel_rfl) (hsub (.cons _ (.cons _ (.cons _ (.cons _ (.refl _)))))) rfl (y_indexA rfl rfl Try.underlying62 sz_4 (by omega) (by omega) (show _ = 1 from rfl)) rfl ?_
                  refine H_one 16 rfl (by kernel_rfl) rfl (op_store1 2 0 rfl rfl rfl sz_4 rfl (Nat.le_of_ble_eq_true rfl) ?_)
                  refine ⟨hsub (.cons _ (.cons _ (.cons _ (.cons _ (.refl _))))), ?_⟩
                  refine H_done (by kernel_rfl) ?_
                  refine C_region ?_
                  refine L_y rfl (y_add rfl rfl (show _ = (2 : Int) from rfl)) rfl ?_
                  refine L_y rfl (y_move rfl) rfl ?_
                  refine L_nil ?_
                  refine In_round ?_
                  refine C_seq ?_
                  refine C_region ?_
                  refine L_y rfl (y_lss rfl rfl) rfl ?_
                  refine L_nil ?_
                  refine C_seq ?_
                  refine C_cond_f rfl ?_
                  refine C_exit ?_
                  refine C_seq ?_
                  refine C_seq ?_
                  refine C_region ?_
                  refine L_y rfl (y_indexA rfl rfl Try.underlying62 sz_4 (by omega) (by omega) (show _ = 0 from rfl)) rfl ?_
                  refine L_y rfl (y_load rfl ag_4 (sees 2 0 rfl) rfl) rfl ?_
                  refine L_y rfl (y_not rfl) rfl ?_
                  refine L_y rfl (y_move rfl) rfl ?_
                  refine L_skip rfl rfl ?_
                  refine L_skip rfl rfl ?_
                  refine L_skip rfl rfl ?_
                  refine L_y rfl (y_pick_f rfl rfl) rfl ?_
                  refine L_nil ?_
                  refine C_cond_f rfl ?_
                  refine C_skip ?_
                  refine C_seq ?_
                  refine C_seq ?_
                  refine C_region ?_
                  refine L_y rfl (y_move rfl) rfl ?_
                  refine L_nil ?_
                  refine C_block ?_
                  refine C_loopIn (In_round ?_)
                  refine C_seq ?_
                  refine C_region ?_
                  refine L_y rfl (y_lss rfl rfl) rfl ?_
                  refine L_nil ?_
                  refine C_seq ?_
                  refine C_cond_t rfl ?_
                  refine C_skip ?_
                  refine C_seq ?_
                  refine C_block ?_
                  refine C_seq ?_
                  refine C_region ?_
                  refine L_y rfl (y_move rfl) rfl ?_
                  refine L_y rfl (y_assign rfl) rfl ?_
                  refine L_nil ?_
                  refine C_seq ?_
                  refine C_region ?_
                  refine L_y rfl (y_move rfl) rfl ?_
                  refine L_y rfl (y_indexA rfl rfl Try.underlying62 sz_4 (by omega) (by omega) (show _ = 0 from rfl)) rfl ?_
                  refine L_y rfl (y_load rfl ag_4 (sees 2 0 rfl) rfl) rfl ?_
                  refine L_nil ?_
                  refine C_cond_t rfl ?_
                  refine C_region ?_
                  refine L_y rfl (y_move rfl) rfl ?_
                  refine L_y rfl (y_move rfl) rfl ?_
                  refine L_y rfl (y_nilCheck rfl) rfl ?_
                  refine L_y rfl (y_fieldAddr rfl fl_110_0) rfl ?_
                  refine L_y rfl (y_indexA rfl rfl Try.underlying108 sz_107 (by omega) (by omega) (show _ = 0 from rfl)) rfl ?_
                  refine L_y rfl (y_fieldAddr rfl fl_107_1) rfl ?_
                  refine L_y rfl (y_load rfl ag_105 (sees 1 0 rfl) rfl) rfl ?_
                  refine L_y rfl (y_move rfl) rfl ?_
                  refine L_op rfl (op_delete 1 1 rfl rfl rfl Try.underlying105 Try.underlying3 rfl rfl ?_)
                  refine L_nil ?_
                  refine C_region ?_
                  refine L_y rfl (y_add rfl rfl (show _ = (1 : Int) from rfl)) rfl ?_
                  refine L_y rfl (y_move rfl) rfl ?_
                  refine L_nil ?_
                  refine In_round ?_
                  refine C_seq ?_
                  refine C_region ?_
                  refine L_y rfl (y_lss rfl rfl) rfl ?_
                  refine L_nil ?_
                  refine C_seq ?_
                  refine C_cond_t rfl ?_
                  refine C_skip ?_
                  refine C_seq ?_
                  refine C_block ?_
                  refine C_seq ?_
                  refine C_region ?_
                  refine L_y rfl (y_move rfl) rfl ?_
                  refine L_y rfl (y_assign rfl) rfl ?_
                  refine L_nil ?_
                  refine C_seq ?_
                  refine C_region ?_
                  refine L_y rfl (y_move rfl) rfl ?_
                  refine L_y rfl (y_indexA rfl rfl Try.underlying62 sz_4 (by omega) (by omega) (show _ = 1 from rfl)) rfl ?_
                  refine L_y rfl (y_load rfl ag_4 (sees 2 0 rfl) rfl) rfl ?_
                  refine L_nil ?_
                  refine C_cond_t rfl ?_
                  refine C_region ?_
                  refine L_y rfl (y_move rfl) rfl ?_
                  refine L_y rfl (y_move rfl) rfl ?_
                  refine L_y rfl (y_nilCheck rfl) rfl ?_
                  refine L_y rfl (y_fieldAddr rfl fl_110_0) rfl ?_
                  refine L_y rfl (y_indexA rfl rfl Try.underlying108 sz_107 (by omega) (by omega) (show _ = 2 from rfl)) rfl ?_
                  refine L_y rfl (y_fieldAddr rfl fl_107_1) rfl ?_
                  refine L_y rfl (y_load rfl ag_105 (sees 1 0 rfl) rfl) rfl ?_
                  refine L_y rfl (y_move rfl) rfl ?_
                  refine L_op rfl (op_delete 1 2 rfl rfl rfl Try.underlying105 Try.underlying3 rfl rfl ?_)
                  refine L_nil ?_
                  refine C_region ?_
                  refine L_y rfl (y_add rfl rfl (show _ = (2 : Int) from rfl)) rfl ?_
                  refine L_y rfl (y_move rfl) rfl ?_
                  refine L_nil ?_
                  refine In_round ?_
                  refine C_seq ?_
                  refine C_region ?_
                  refine L_y rfl (y_lss rfl rfl) rfl ?_
                  refine L_nil ?_
                  refine C_seq ?_
                  refine C_cond_f rfl ?_
                  refine C_exit ?_
                  refine C_seq ?_
                  refine C_region ?_
                  refine L_y rfl (y_assign rfl) rfl ?_
                  refine L_nil ?_
                  refine C_ret ?_
                  refine B_ret (rv_tmp rfl rv_nil) ((hsub (.cons_cons _ (.cons_cons _ (.cons _ (.cons _ (.refl _)))))).trans (hsub_pick [1, 0] rfl)) ?_
                  have e0 : putD A ask n s false = true := by simp_all [putD, pd]
                  have e1 : putD A ask n s true = true := by simp_all [putD, pd, pA]
                  have ea : putA A ask n s = ((A.write false n s).write true n s) := by simp_all [putA, pA]
                  have em : putm m A ask n s = m.mark n true true := by simp [putm, hn, e0, e1]
                  exact ⟨ret_int (by simp [putE, hn, e0, e1]), D9, h9.to (by simp [putDa, hn, ea]), by rw [em]; rfl⟩
                · skip
                  refine H_y 14 rfl (by kernel_rfl) (by kernel_rfl) (by kernel_rfl) (hsub (.cons _ (.cons _ (.cons _ (.cons _ (.refl _)))))) rfl (y_pick_f rfl rfl) rfl ?_
                  refine H_y 15 rfl (by kernel_rfl) (by kernel_rfl) (by kernel_rfl) (hsub (.cons _ (.cons _ (.cons _ (.cons _ (.refl _)))))) rfl (y_indexA rfl rfl Try.underlying62 sz_4 (by omega) (by omega) (show _ = 1 from rfl)) rfl ?_
                  refine H_one 16 rfl (by kernel_rfl) rfl (op_store1 2 0 rfl rfl rfl sz_4 rfl (Nat.le_of_ble_eq_true rfl) ?_)
                  refine ⟨hsub (.cons _ (.cons _ (.cons _ (.cons _ (.refl _))))), ?_⟩
                  refine H_done (by kernel_rfl) ?_
                  refine C_region ?_
                  refine L_y rfl (y_add rfl rfl (show _ = (2 : Int) from rfl)) rfl ?_
                  refine L_y rfl (y_move rfl) rfl ?_
                  refine L_nil ?_
                  refine In_round ?_
                  refine C_seq ?_
                  refine C_region ?_
                  refine L_y rfl (y_lss rfl rfl) rfl ?_
                  refine L_nil ?_
                  refine C_seq ?_
                  refine C_cond_f rfl ?_
                  refine C_exit ?_
                  refine C_seq ?_
                  refine C_seq ?_
                  refine C_region ?_
                  refine L_y rfl (y_indexA rfl rfl Try.underlying62 sz_4 (by omega) (by omega) (show _ = 0 from rfl)) rfl ?_
                  refine L_y rfl (y_load rfl ag_4 (sees 2 0 rfl) rfl) rfl ?_
                  refine L_y rfl (y_not rfl) rfl ?_
                  refine L_y rfl (y_move rfl) rfl ?_
                  refine L_skip rfl rfl ?_
                  refine L_skip rfl rfl ?_
                  refine L_skip rfl rfl ?_
                  refine L_y rfl (y_pick_f rfl rfl) rfl ?_
                  refine L_nil ?_
                  refine C_cond_f rfl ?_
                  refine C_skip ?_
                  refine C_seq ?_
                  refine C_seq ?_
                  refine C_region ?_
                  refine L_y rfl (y_move rfl) rfl ?_
                  refine L_nil ?_
                  refine C_block ?_
                  refine C_loopIn (In_round ?_)
                  refine C_seq ?_
                  refine C_region ?_
                  refine L_y rfl (y_lss rfl rfl) rfl ?_
                  refine L_nil ?_
                  refine C_seq ?_
                  refine C_cond_t rfl ?_
                  refine C_skip ?_
                  refine C_seq ?_
                  refine C_block ?_
                  refine C_seq ?_
                  refine C_region ?_
                  refine L_y rfl (y_move rfl) rfl ?_
                  refine L_y rfl (y_assign rfl) rfl ?_
                  refine L_nil ?_
                  refine C_seq ?_
                  refine C_region ?_
                  refine L_y rfl (y_move rfl) rfl ?_
                  refine L_y rfl (y_indexA rfl rfl Try.underlying62 sz_4 (by omega) (by omega) (show _ = 0 from rfl)) rfl ?_
                  refine L_y rfl (y_load rfl ag_4 (sees 2 0 rfl) rfl) rfl ?_
                  refine L_nil ?_
                  refine C_cond_t rfl ?_
                  refine C_region ?_
                  refine L_y rfl (y_move rfl) rfl ?_
                  refine L_y rfl (y_move rfl) rfl ?_
                  refine L_y rfl (y_nilCheck rfl) rfl ?_
                  refine L_y rfl (y_fieldAddr rfl fl_110_0) rfl ?_
                  refine L_y rfl (y_indexA rfl rfl Try.underlying108 sz_107 (by omega) (by omega) (show _ = 0 from rfl)) rfl ?_
                  refine L_y rfl (y_fieldAddr rfl fl_107_1) rfl ?_
                  refine L_y rfl (y_load rfl ag_105 (sees 1 0 rfl) rfl) rfl ?_
                  refine L_y rfl (y_move rfl) rfl ?_
                  refine L_op rfl (op_delete 1 1 rfl rfl rfl Try.underlying105 Try.underlying3 rfl rfl ?_)
                  refine L_nil ?_
                  refine C_region ?_
                  refine L_y rfl (y_add rfl rfl (show _ = (1 : Int) from rfl)) rfl ?_
                  refine L_y rfl (y_move rfl) rfl ?_
                  refine L_nil ?_
                  refine In_round ?_
                  refine C_seq ?_
                  refine C_region ?_
                  refine L_y rfl (y_lss rfl rfl) rfl ?_
                  refine L_nil ?_
                  refine C_seq ?_
                  refine C_cond_t rfl ?_
                  refine C_skip ?_
                  refine C_seq ?_
                  refine C_block ?_
                  refine C_seq ?_
                  refine C_region ?_
                  refine L_y rfl (y_move rfl) rfl ?_
                  refine L_y rfl (y_assign rfl) rfl ?_
                  refine L_nil ?_
                  refine C_seq ?_
                  refine C_region ?_
                  refine L_y rfl (y_move rfl) rfl ?_
                  refine L_y rfl (y_indexA rfl rfl Try.underlying62 sz_4 (by omega) (by omega) (show _ = 1 from rfl)) rfl ?_
                  refine L_y rfl (y_load rfl ag_4 (sees 2 0 rfl) rfl) rfl ?_
                  refine L_nil ?_
                  refine C_cond_f rfl ?_
                  refine C_region ?_
                  refine L_y rfl (y_move rfl) rfl ?_
                  refine L_y rfl (y_move rfl) rfl ?_
                  refine L_y rfl (y_nilCheck rfl) rfl ?_
                  refine L_y rfl (y_fieldAddr rfl fl_110_0) rfl ?_
                  refine L_y rfl (y_indexA rfl rfl Try.underlying108 sz_107 (by omega) (by omega) (show _ = 2 from rfl)) rfl ?_
                  refine L_y rfl (y_fieldAddr rfl fl_107_1) rfl ?_
                  refine L_y rfl (y_load rfl ag_105 (sees 1 0 rfl) rfl) rfl ?_
                  refine L_y rfl (y_move rfl) rfl ?_
                  refine L_op rfl (op_mapUpdate 1 2 rfl rfl rfl Try.underlying105 Try.underlying3 rfl rfl ?_)
                  refine L_nil ?_
                  refine C_region ?_
                  refine L_y rfl (y_add rfl rfl (show _ = (2 : Int) from rfl)) rfl ?_
                  refine L_y rfl (y_move rfl) rfl ?_
                  refine L_nil ?_
                  refine In_round ?_
                  refine C_seq ?_
                  refine C_region ?_
                  refine L_y rfl (y_lss rfl rfl) rfl ?_
                  refine L_nil ?_
                  refine C_seq ?_
                  refine C_cond_f rfl ?_
                  refine C_exit ?_
                  refine C_seq ?_
                  refine C_region ?_
                  refine L_y rfl (y_assign rfl) rfl ?_
                  refine L_nil ?_
                  refine C_ret ?_
                  refine B_ret (rv_tmp rfl rv_nil) ((hsub (.cons_cons _ (.cons_cons _ (.cons _ (.cons _ (.refl _)))))).trans (hsub_pick [1, 0] rfl)) ?_
                  have e0 : putD A ask n s false = true := by simp_all [putD, pd]
                  have e1 : putD A ask n s true = false := by simp_all [putD, pd, pA]
                  have ea : putA A ask n s = ((A.write false n s).write true n s) := by simp_all [putA, pA]
                  have em : putm m A ask n s = m.mark n true false := by simp [putm, hn, e0, e1]
                  exact ⟨ret_int (by simp [putE, hn, e0, e1]), D9, h9.to (by simp [putDa, hn, ea]), by rw [em]; rfl⟩
              · refine op_y (y_loadA rfl ag_32 sz_32 (sees 3 0 rfl) (by rw [bs_length, hs]; decide) (bs_whole0 _ hs)) rfl ?_
                refine ⟨hsub (.cons _ (.cons _ (.cons _ (.cons _ (.refl _))))), ?_⟩
                refine H_one 9 rfl (by kernel_rfl) rfl (op_y (y_load rfl ag_24 (sees 0 0 rfl) rfl) rfl ?_)
                refine ⟨hsub (.cons _ (.cons _ (.cons _ (.cons _ (.refl _))))), ?_⟩
                refine H_one 12 rfl (by kernel_rfl) rfl (op_call rfl rfl (fun a w => Try.call62 a w) rfl ?_)
                refine ((write_d h8 true n s hs (by have := hQ true; have q2 := Da.write_many A false n s true; omega)).sub (hsub_pick [1] rfl)).mono ?_
                rintro _ _ ⟨rfl, D10, h10, rfl⟩
                refine ⟨_, rfl, ?_⟩
                refine ⟨hsub (.cons _ (.cons _ (.cons _ (.cons _ (.refl _))))), ?_⟩
                refine H_y 13 rfl (by kernel_rfl) (by kernel_rfl) (by kernel_rfl) (hsub (.cons _ (.cons _ (.cons _ (.cons _ (.refl _)))))) rfl (y_eqi rfl rfl) rfl ?_
                refine H_case 42 rfl (fun hg9_14 => ?_) (fun hg9_14 => ?_)
                · skip
                  refine H_y 14 rfl (by kernel_rfl) (by kernel_rfl) (by kernel_rfl) (hsub (.cons _ (.cons _ (.cons _ (.cons _ (.refl _)))))) rfl (y_pick_f rfl rfl) rfl ?_
                  refine H_y 15 rfl (by kernel_rfl) (by kernel_rfl) (by kernel_rfl) (hsub (.cons _ (.cons _ (.cons _ (.cons _ (.refl _)))))) rfl (y_indexA rfl rfl Try.underlying62 sz_4 (by omega) (by omega) (show _ = 1 from rfl)) rfl ?_
                  refine H_one 16 rfl (by kernel_rfl) rfl (op_store1 2 0 rfl rfl rfl sz_4 rfl (Nat.le_of_ble_eq_true rfl) ?_)
                  refine ⟨hsub (.cons _ (.cons _ (.cons _ (.cons _ (.refl _))))), ?_⟩
                  refine H_done (by kernel_rfl) ?_
                  refine C_region ?_
                  refine L_y rfl (y_add rfl rfl (show _ = (2 : Int) from rfl)) rfl ?_
                  refine L_y rfl (y_move rfl) rfl ?_
                  refine L_nil ?_
                  refine In_round ?_
                  refine C_seq ?_
                  refine C_region ?_
                  refine L_y rfl (y_lss rfl rfl) rfl ?_
                  refine L_nil ?_
                  refine C_seq ?_
                  refine C_cond_f rfl ?_
                  refine C_exit ?_
                  refine C_seq ?_
                  refine C_seq ?_
                  refine C_region ?_
                  refine L_y rfl (y_indexA rfl rfl Try.underlying62 sz_4 (by omega) (by omega) (show _ = 0 from rfl)) rfl ?_
                  refine L_y rfl (y_load rfl ag_4 (sees 2 0 rfl) rfl) rfl ?_
                  refine L_y rfl (y_not rfl) rfl ?_
                  refine L_y rfl (y_move rfl) rfl ?_
                  refine L_skip rfl rfl ?_
                  refine L_skip rfl rfl ?_
                  refine L_skip rfl rfl ?_
                  refine L_y rfl (y_pick_f rfl rfl) rfl ?_
                  refine L_nil ?_
                  refine C_cond_f rfl ?_
                  refine C_skip ?_
                  refine C_seq ?_
                  refine C_seq ?_
                  refine C_region ?_
                  refine L_y rfl (y_move rfl) rfl ?_
                  refine L_nil ?_
                  refine C_block ?_
                  refine C_loopIn (In_round ?_)
                  refine C_seq ?_
                  refine C_region ?_
                  refine L_y rfl (y_lss rfl rfl) rfl ?_
                  refine L_nil ?_
                  refine C_seq ?_
                  refine C_cond_t rfl ?_
                  refine C_skip ?_
                  refine C_seq ?_
                  refine C_block ?_
                  refine C_seq ?_
                  refine C_region ?_
                  refine L_y rfl (y_move rfl) rfl ?_
                  refine L_y rfl (y_assign rfl) rfl ?_
                  refine L_nil ?_
                  refine C_seq ?_
                  refine C_region ?_
                  refine L_y rfl (y_move rfl) rfl ?_
                  refine L_y rfl (y_indexA rfl rfl Try.underlying62 sz_4 (by omega) (by omega) (show _ = 0 from rfl)) rfl ?_
                  refine L_y rfl (y_load rfl ag_4 (sees 2 0 rfl) rfl) rfl ?_
                  refine L_nil ?_
                  refine C_cond_t rfl ?_
                  refine C_region ?_
                  refine L_y rfl (y_move rfl) rfl ?_
                  refine L_y rfl (y_move rfl) rfl ?_
                  refine L_y rfl (y_nilCheck rfl) rfl ?_
                  refine L_y rfl (y_fieldAddr rfl fl_110_0) rfl ?_
                  refine L_y rfl (y_indexA rfl rfl Try.underlying108 sz_107 (by omega) (by omega) (show _ = 0 from rfl)) rfl ?_
                  refine L_y rfl (y_fieldAddr rfl fl_107_1) rfl ?_
                  refine L_y rfl (y_load rfl ag_105 (sees 1 0 rfl) rfl) rfl ?_
                  refine L_y rfl (y_move rfl) rfl ?_
                  refine L_op rfl (op_delete 1 1 rfl rfl rfl Try.underlying105 Try.underlying3 rfl rfl ?_)
                  refine L_nil ?_
                  refine C_region ?_
                  refine L_y rfl (y_add rfl rfl (show _ = (1 : Int) from rfl)) rfl ?_
                  refine L_y rfl (y_move rfl) rfl ?_
                  refine L_nil ?_
                  refine In_round ?_
                  refine C_seq ?_
                  refine C_region ?_
                  refine L_y rfl (y_lss rfl rfl) rfl ?_
                  refine L_nil ?_
                  refine C_seq ?_
                  refine C_cond_t rfl ?_
                  refine C_skip ?_
                  refine C_seq ?_
                  refine C_block ?_
                  refine C_seq ?_
                  refine C_region ?_
                  refine L_y rfl (y_move rfl) rfl ?_
                  refine L_y rfl (y_assign rfl) rfl ?_
                  refine L_nil ?_
                  refine C_seq ?_
                  refine C_region ?_
                  refine L_y rfl (y_move rfl) rfl ?_
                  refine L_y rfl (y_indexA rfl rfl Try.underlying62 sz_4 (by omega) (by omega) (show _ = 1 from rfl)) rfl ?_
                  refine L_y rfl (y_load rfl ag_4 (sees 2 0 rfl) rfl) rfl ?_
                  refine L_nil ?_
                  refine C_cond_t rfl ?_
                  refine C_region ?_
                  refine L_y rfl (y_move rfl) rfl ?_
                  refine L_y rfl (y_move rfl) rfl ?_
                  refine L_y rfl (y_nilCheck rfl) rfl ?_
                  refine L_y rfl (y_fieldAddr rfl fl_110_0) rfl ?_
                  refine L_y rfl (y_indexA rfl rfl Try.underlying108 sz_107 (by omega) (by omega) (show _ = 2 from rfl)) rfl ?_
                  refine L_y rfl (y_fieldAddr rfl fl_107_1) rfl ?_
                  refine L_y rfl (y_load rfl ag_105 (sees 1 0 rfl) rfl) rfl ?_
                  refine L_y rfl (y_move rfl) rfl ?_
                  refine L_op rfl (op_delete 1 2 rfl rfl rfl Try.underlying105 Try.underlying3 rfl rfl ?_)
                  refine L_nil ?_
                  refine C_region ?_
                  refine L_y rfl (y_add rfl rfl (show _ = (2 : Int) from rfl)) rfl ?_
                  refine L_y rfl (y_move rfl) rfl ?_
                  refine L_nil ?_
                  refine In_round ?_
                  refine C_seq ?_
                  refine C_region ?_
                  refine L_y rfl (y_lss rfl rfl) rfl ?_
                  refine L_nil ?_
                  refine C_seq ?_
                  refine C_cond_f rfl ?_
                  refine C_exit ?_
                  refine C_seq ?_
                  refine C_region ?_
                  refine L_y rfl (y_assign rfl) rfl ?_
                  refine L_nil ?_
                  refine C_ret ?_
                  refine B_ret (rv_tmp rfl rv_nil) ((hsub (.cons_cons _ (.cons_cons _ (.cons _ (.cons _ (.refl _)))))).trans (hsub_pick [1, 0] rfl)) ?_
                  have e0 : putD A ask n s false = true := by simp_all [putD, pd]
                  have e1 : putD A ask n s true = true := by simp_all [putD, pd, pA]
                  have ea : putA A ask n s = ((A.write false n s).write true n s) := by simp_all [putA, pA]
                  have em : putm m A ask n s = m.mark n true true := by simp [putm, hn, e0, e1]
                  exact ⟨ret_int (by simp [putE, hn, e0, e1]), D10, h10.to (by simp [putDa, hn, ea]), by rw [em]; rfl⟩
                · skip
                  refine H_y 14 rfl (by kernel_rfl) (by kernel_rfl) (by kernel_rfl) (hsub (.cons _ (.cons _ (.cons _ (.cons _ (.refl _)))))) rfl (y_pick_f rfl rfl) rfl ?_
                  refine H_y 15 rfl (by kernel_rfl) (by kernel_rfl) (by kernel_rfl) (hsub (.cons _ (.cons _ (.cons _ (.cons _ (.refl _)))))) rfl (y_indexA rfl rfl Try.underlying62 sz_4 (by omega) (by omega) (show _ = 1 from rfl)) rfl ?_
                  refine H_one 16 rfl (by kernel_rfl) rfl (op_store1 2 0 rfl rfl rfl sz_4 rfl (Nat.le_of_ble_eq_true rfl) ?_)
                  refine ⟨hsub (.cons _ (.cons _ (.cons _ (.cons _ (.refl _))))), ?_⟩
                  refine H_done (by kernel_rfl) ?_
                  refine C_region ?_
                  refine L_y rfl (y_add rfl rfl (show _ = (2 : Int) from rfl)) rfl ?_
                  refine L_y rfl (y_move rfl) rfl ?_
                  refine L_nil ?_
                  refine In_round ?_
                  refine C_seq ?_
                  refine C_region ?_
                  refine L_y rfl (y_lss rfl rfl) rfl ?_
                  refine L_nil ?_
                  refine C_seq ?_
                  refine C_cond_f rfl ?_
                  refine C_exit ?_
                  refine C_seq ?_
                  refine C_seq ?_
                  refine C_region ?_
                  refine L_y rfl (y_indexA rfl rfl Try.underlying62 sz_4 (by omega) (by omega) (show _ = 0 from rfl)) rfl ?_
                  refine L_y rfl (y_load rfl ag_4 (sees 2 0 rfl) rfl) rfl ?_
                  refine L_y rfl (y_not rfl) rfl ?_
                  refine L_y rfl (y_move rfl) rfl ?_
                  refine L_skip rfl rfl ?_
                  refine L_skip rfl rfl ?_
                  refine L_skip rfl rfl ?_
                  refine L_y rfl (y_pick_f rfl rfl) rfl ?_
                  refine L_nil ?_
                  refine C_cond_f rfl ?_
                  refine C_skip ?_
                  refine C_seq ?_
                  refine C_seq ?_
                  refine C_region ?_
                  refine L_y rfl (y_move rfl) rfl ?_
                  refine L_nil ?_
                  refine C_block ?_
                  refine C_loopIn (In_round ?_)
                  refine C_seq ?_
                  refine C_region ?_
                  refine L_y rfl (y_lss rfl rfl) rfl ?_
                  refine L_nil ?_
                  refine C_seq ?_
                  refine C_cond_t rfl ?_
                  refine C_skip ?_
                  refine C_seq ?_
                  refine C_block ?_
                  refine C_seq ?_
                  refine C_region ?_
                  refine L_y rfl (y_move rfl) rfl ?_
                  refine L_y rfl (y_assign rfl) rfl ?_
                  refine L_nil ?_
                  refine C_seq ?_
                  refine C_region ?_
                  refine L_y rfl (y_move rfl) rfl ?_
                  refine L_y rfl (y_indexA rfl rfl Try.underlying62 sz_4 (by omega) (by omega) (show _ = 0 from rfl)) rfl ?_
                  refine L_y rfl (y_load rfl ag_4 (sees 2 0 rfl) rfl) rfl ?_
                  refine L_nil ?_
                  refine C_cond_t rfl ?_
                  refine C_region ?_
                  refine L_y rfl (y_move rfl) rfl ?_
                  refine L_y rfl (y_move rfl) rfl ?_
                  refine L_y rfl (y_nilCheck rfl) rfl ?_
                  refine L_y rfl (y_fieldAddr rfl fl_110_0) rfl ?_
                  refine L_y rfl (y_indexA rfl rfl Try.underlying108 sz_107 (by omega) (by omega) (show _ = 0 from rfl)) rfl ?_
                  refine L_y rfl (y_fieldAddr rfl fl_107_1) rfl ?_
                  refine L_y rfl (y_load rfl ag_105 (sees 1 0 rfl) rfl) rfl ?_
                  refine L_y rfl (y_move rfl) rfl ?_
                  refine L_op rfl (op_delete 1 1 rfl rfl rfl Try.underlying105 Try.underlying3 rfl rfl ?_)
                  refine L_nil ?_
                  refine C_region ?_
                  refine L_y rfl (y_add rfl rfl (show _ = (1 : Int) from rfl)) rfl ?_
                  refine L_y rfl (y_move rfl) rfl ?_
                  refine L_nil ?_
                  refine In_round ?_
                  refine C_seq ?_
                  refine C_region ?_
                  refine L_y rfl (y_lss rfl rfl) rfl ?_
                  refine L_nil ?_
                  refine C_seq ?_
                  refine C_cond_t rfl ?_
                  refine C_skip ?_
                  refine C_seq ?_
                  refine C_block ?_
                  refine C_seq ?_
                  refine C_region ?_
                  refine L_y rfl (y_move rfl) rfl ?_
                  refine L_y rfl (y_assign rfl) rfl ?_
                  refine L_nil ?_
                  refine C_seq ?_
                  refine C_region ?_
                  refine L_y rfl (y_move rfl) rfl ?_
                  refine L_y rfl (y_indexA rfl rfl Try.underlying62 sz_4 (by omega) (by omega) (show _ = 1 from rfl)) rfl ?_
                  refine L_y rfl (y_load rfl ag_4 (sees 2 0 rfl) rfl) rfl ?_
                  refine L_nil ?_
                  refine C_cond_f rfl ?_
                  refine C_region ?_
                  refine L_y rfl (y_move rfl) rfl ?_
                  refine L_y rfl (y_move rfl) rfl ?_
                  refine L_y rfl (y_nilCheck rfl) rfl ?_
                  refine L_y rfl (y_fieldAddr rfl fl_110_0) rfl ?_
                  refine L_y rfl (y_indexA rfl rfl Try.underlying108 sz_107 (by omega) (by omega) (show _ = 2 from rfl)) rfl ?_
                  refine L_y rfl (y_fieldAddr rfl fl_107_1) rfl ?_
                  refine L_y rfl (y_load rfl ag_105 (sees 1 0 rfl) rfl) rfl ?_
                  refine L_y rfl (y_move rfl) rfl ?_
                  refine L_op rfl (op_mapUpdate 1 2 rfl rfl rfl Try.underlying105 Try.underlying3 rfl rfl ?_)
                  refine L_nil ?_
                  refine C_region ?_
                  refine L_y rfl (y_add rfl rfl (show _ = (2 : Int) from rfl)) rfl ?_
                  refine L_y rfl (y_move rfl) rfl ?_
                  refine L_nil ?_
                  refine In_round ?_
                  refine C_seq ?_
                  refine C_region ?_
                  refine L_y rfl (y_lss rfl rfl) rfl ?_
                  refine L_nil ?_
                  refine C_seq ?_
                  refine C_cond_f rfl ?_
                  refine C_exit ?_
                  refine C_seq ?_
                  refine C_region ?_
                  refine L_y rfl (y_assign rfl) rfl ?_
                  refine L_nil ?_
                  refine C_ret ?_
                  refine B_ret (rv_tmp rfl rv_nil) ((hsub (.cons_cons _ (.cons_cons _ (.cons _ (.cons _ (.refl _)))))).trans (hsub_pick [1, 0] rfl)) ?_
                  have e0 : putD A ask n s false = true := by simp_all [putD, pd]
                  have e1 : putD A ask n s true = false := by simp_all [putD, pd, pA]
                  have ea : putA A ask n s = ((A.write false n s).write true n s) := by simp_all [putA, pA]
                  have em : putm m A ask n s = m.mark n true false := by simp [putm, hn, e0, e1]
                  exact ⟨ret_int (by simp [putE, hn, e0, e1]), D10, h10.to (by simp [putDa, hn, ea]), by rw [em]; rfl⟩
          · skip
            refine C_skip ?_
            refine C_region ?_
            refine L_y rfl (y_add rfl rfl (show _ = (2 : Int) from rfl)) rfl ?_
            refine L_y rfl (y_move rfl) rfl ?_
            refine L_nil ?_
            refine In_round ?_
            refine C_seq ?_
            refine C_region ?_
            refine L_y rfl (y_lss rfl rfl) rfl ?_
            refine L_nil ?_
            refine C_seq ?_
            refine C_cond_f rfl ?_
            refine C_exit ?_
            refine C_seq ?_
            refine C_seq ?_
            refine C_region ?_
            refine L_y rfl (y_indexA rfl rfl Try.underlying62 sz_4 (by omega) (by omega) (show _ = 0 from rfl)) rfl ?_
            refine L_y rfl (y_load rfl ag_4 (sees 2 0 rfl) rfl) rfl ?_
            refine L_y rfl (y_not rfl) rfl ?_
            refine L_y rfl (y_move rfl) rfl ?_
            refine L_skip rfl rfl ?_
            refine L_skip rfl rfl ?_
            refine L_skip rfl rfl ?_
            refine L_y rfl (y_pick_f rfl rfl) rfl ?_
            refine L_nil ?_
            refine C_cond_f rfl ?_
            refine C_skip ?_
            refine C_seq ?_
            refine C_seq ?_
            refine C_region ?_
            refine L_y rfl (y_move rfl) rfl ?_
            refine L_nil ?_
            refine C_block ?_
            refine C_loopIn (In_round ?_)
            refine C_seq ?_
            refine C_region ?_
            refine L_y rfl (y_lss rfl rfl) rfl ?_
            refine L_nil ?_
            refine C_seq ?_
            refine C_cond_t rfl ?_
            refine C_skip ?_
            refine C_seq ?_
            refine C_block ?_
            refine C_seq ?_
            refine C_region ?_
            refine L_y rfl (y_move rfl) rfl ?_
            refine L_y rfl (y_assign rfl) rfl ?_
            refine L_nil ?_
            refine C_seq ?_
            refine C_region ?_
            refine L_y rfl (y_move rfl) rfl ?_
            refine L_y rfl (y_indexA rfl rfl Try.underlying62 sz_4 (by omega) (by omega) (show _ = 0 from rfl)) rfl ?_
            refine L_y rfl (y_load rfl ag_4 (sees 2 0 rfl) rfl) rfl ?_
            refine L_nil ?_
            refine C_cond_t rfl ?_
            refine C_region ?_
            refine L_y rfl (y_move rfl) rfl ?_
            refine L_y rfl (y_move rfl) rfl ?_
            refine L_y rfl (y_nilCheck rfl) rfl ?_
            refine L_y rfl (y_fieldAddr rfl fl_110_0) rfl ?_
            refine L_y rfl (y_indexA rfl rfl Try.underlying108 sz_107 (by omega) (by omega) (show _ = 0 from rfl)) rfl ?_
            refine L_y rfl (y_fieldAddr rfl fl_107_1) rfl ?_
            refine L_y rfl (y_load rfl ag_105 (sees 1 0 rfl) rfl) rfl ?_
            refine L_y rfl (y_move rfl) rfl ?_
            refine L_op rfl (op_delete 1 1 rfl rfl rfl Try.underlying105 Try.underlying3 rfl rfl ?_)
            refine L_nil ?_
            refine C_region ?_
            refine L_y rfl (y_add rfl rfl (show _ = (1 : Int) from rfl)) rfl ?_
            refine L_y rfl (y_move rfl) rfl ?_
            refine L_nil ?_
            refine In_round ?_
            refine C_seq ?_
            refine C_region ?_
            refine L_y rfl (y_lss rfl rfl) rfl ?_
            refine L_nil ?_
            refine C_seq ?_
            refine C_cond_t rfl ?_
            refine C_skip ?_
            refine C_seq ?_
            refine C_block ?_
            refine C_seq ?_
            refine C_region ?_
            refine L_y rfl (y_move rfl) rfl ?_
            refine L_y rfl (y_assign rfl) rfl ?_
            refine L_nil ?_
            refine C_seq ?_
            refine C_region ?_
            refine L_y rfl (y_move rfl) rfl ?_
            refine L_y rfl (y_indexA rfl rfl Try.underlying62 sz_4 (by omega) (by omega) (show _ = 1 from rfl)) rfl ?_
            refine L_y rfl (y_load rfl ag_4 (sees 2 0 rfl) rfl) rfl ?_
            refine L_nil ?_
            refine C_cond_f rfl ?_
            refine C_region ?_
            refine L_y rfl (y_move rfl) rfl ?_
            refine L_y rfl (y_move rfl) rfl ?_
            refine L_y rfl (y_nilCheck rfl) rfl ?_
            refine L_y rfl (y_fieldAddr rfl fl_110_0) rfl ?_
            refine L_y rfl (y_indexA rfl rfl Try.underlying108 sz_107 (by omega) (by omega) (show _ = 2 from rfl)) rfl ?_
            refine L_y rfl (y_fieldAddr rfl fl_107_1) rfl ?_
            refine L_y rfl (y_load rfl ag_105 (sees 1 0 rfl) rfl) rfl ?_
            refine L_y rfl (y_move rfl) rfl ?_
            refine L_op rfl (op_mapUpdate 1 2 rfl rfl rfl Try.underlying105 Try.underlying3 rfl rfl ?_)
            refine L_nil ?_
            refine C_region ?_
            refine L_y rfl (y_add rfl rfl (show _ = (2 : Int) from rfl)) rfl ?_
            refine L_y rfl (y_move rfl) rfl ?_
            refine L_nil ?_
            refine In_round ?_
            refine C_seq ?_
            refine C_region ?_
            refine L_y rfl (y_lss rfl rfl) rfl ?_
            refine L_nil ?_
            refine C_seq ?_
            refine C_cond_f rfl ?_
            refine C_exit ?_
            refine C_seq ?_
            refine C_region ?_
            refine L_y rfl (y_assign rfl) rfl ?_
            refine L_nil ?_
            refine C_ret ?_
            refine B_ret (rv_tmp rfl rv_nil) ((hsub (.cons_cons _ (.cons_cons _ (.cons _ (.cons _ (.refl _)))))).trans (hsub_pick [1, 0] rfl)) ?_
            have e0 : putD A ask n s false = true := by simp_all [putD, pd]
            have e1 : putD A ask n s true = false := by simp_all [putD, pd, pA]
            have ea : putA A ask n s = (A.write false n s) := by simp_all [putA, pA]
            have em : putm m A ask n s = m.mark n true false := by simp [putm, hn, e0, e1]
            exact ⟨ret_int (by simp [putE, hn, e0, e1]), D8, h8.to (by simp [putDa, hn, ea]), by rw [em]; rfl⟩
        · skip
          refine H_y 14 rfl (by kernel_rfl) (by kernel_rfl) (by kernel_rfl) (hsub (.cons _ (.cons _ (.cons _ (.cons _ (.refl _)))))) rfl (y_pick_f rfl rfl) rfl ?_
          refine H_y 15 rfl (by kernel_rfl) (by kernel_rfl) (by kernel_rfl) (hsub (.cons _ (.cons _ (.cons _ (.cons _ (.refl _)))))) rfl (y_indexA rfl rfl Try.underlying62 sz_4 (by omega) (by omega) (show _ = 0 from rfl)) rfl ?_
          refine H_one 16 rfl (by kernel_rfl) rfl (op_store1 2 0 rfl rfl rfl sz_4 rfl (Nat.le_of_ble_eq_true rfl) ?_)
          refine ⟨hsub (.cons _ (.cons _ (.cons _ (.cons _ (.refl _))))), ?_⟩
          refine H_done (by kernel_rfl) ?_
          refine C_region ?_
          refine L_y rfl (y_add rfl rfl (show _ = (1 : Int) from rfl)) rfl ?_
          refine L_y rfl (y_move rfl) rfl ?_
          refine L_nil ?_
          refine In_round ?_
          refine C_seq ?_
          refine C_region ?_
          refine L_y rfl (y_lss rfl rfl) rfl ?_
          refine L_nil ?_
          refine C_seq ?_
          refine C_cond_t rfl ?_
          refine C_skip ?_
          refine C_seq ?_
          refine C_block ?_
          refine C_seq ?_
          refine C_region ?_
          refine L_y rfl (y_move rfl) rfl ?_
          refine L_y rfl (y_assign rfl) rfl ?_
          refine L_nil ?_
          refine C_seq ?_
          refine C_region ?_
          refine L_y rfl (y_move rfl) rfl ?_
          refine L_y rfl (y_move rfl) rfl ?_
          refine L_y rfl (y_nilCheck rfl) rfl ?_
          refine L_y rfl (y_fieldAddr rfl fl_110_0) rfl ?_
          refine L_y rfl (y_indexA rfl rfl Try.underlying108 sz_107 (by omega) (by omega) (show _ = 2 from rfl)) rfl ?_
          refine L_y rfl (y_assign rfl) rfl ?_
          refine L_nil ?_
          refine C_seq ?_
          refine C_region ?_
          refine L_y rfl (y_move rfl) rfl ?_
          refine L_y rfl (y_nilCheck rfl) rfl ?_
          refine L_y rfl (y_loadA rfl ag_107 sz_107 (sees 1 0 rfl) (Nat.le_of_ble_eq_true rfl) rfl) rfl ?_
          refine L_op rfl (op_call rfl rfl (fun a w => Try.call53 a w) rfl ?_)
          refine ((there_d h8 true).sub (hsub_pick [0] rfl)).mono ?_
          rintro _ _ ⟨rfl, rfl⟩
          refine ⟨_, rfl, ?_⟩
          refine L_nil ?_
          refine C_cond rfl (fun hc2 => ?_) (fun hc2 => ?_)
          · skip
            refine C_regionH H (by kernel_rfl) ?_
            refine H_y 0 rfl (by kernel_rfl) (by kernel_rfl) (by kernel_rfl) (hsub (.cons _ (.cons _ (.cons _ (.cons _ (.refl _)))))) rfl (y_move rfl) rfl ?_
            refine H_y 1 rfl (by kernel_rfl) (by kernel_rfl) (by kernel_rfl) (hsub (.cons _ (.cons _ (.cons _ (.cons _ (.refl _)))))) rfl (y_move rfl) rfl ?_
            refine H_y 2 rfl (by kernel_rfl) (by kernel_rfl) (by kernel_rfl) (hsub (.cons _ (.cons _ (.cons _ (.cons _ (.refl _)))))) rfl (y_move rfl) rfl ?_
            refine H_one 3 rfl (by kernel_rfl) rfl (op_call (f := fa) (first := []) (cap := cap) rfl rfl hask.1 rfl ?_)
            refine FnS.mono (FnS.sub (hsub_pick [1, 0] rfl) (hask.2 true _ _ _ h8 (hsub (.cons _ (.cons _ (.refl _)))))) ?_
            rintro _ _ ⟨rfl, rfl⟩
            refine ⟨_, rfl, ?_⟩
            refine ⟨hsub (.cons _ (.cons _ (.cons _ (.cons _ (.refl _))))), ?_⟩
            refine H_y 4 rfl (by kernel_rfl) (by kernel_rfl) (by kernel_rfl) (hsub (.cons _ (.cons _ (.cons _ (.cons _ (.refl _)))))) rfl (y_not rfl) rfl ?_
            refine H_y 5 rfl (by kernel_rfl) (by kernel_rfl) (by kernel_rfl) (hsub (.cons _ (.cons _ (.cons _ (.cons _ (.refl _)))))) rfl (y_move rfl) rfl ?_
            refine H_case 34 rfl (fun hg9_6 => ?_) (fun hg9_6 => ?_)
            · skip
              refine H_skip 6 rfl (by kernel_rfl) (by kernel_rfl) (by kernel_rfl) (hsub (.cons _ (.cons _ (.cons _ (.cons _ (.refl _)))))) rfl rfl ?_
              refine H_skip 7 rfl (by kernel_rfl) (by kernel_rfl) (by kernel_rfl) (hsub (.cons _ (.cons _ (.cons _ (.cons _ (.refl _)))))) rfl rfl ?_
              refine H_skip 8 rfl (by kernel_rfl) (by kernel_rfl) (by kernel_rfl) (hsub (.cons _ (.cons _ (.cons _ (.cons _ (.refl _)))))) rfl rfl ?_
              refine H_skip 9 rfl (by kernel_rfl) (by kernel_rfl) (by kernel_rfl) (hsub (.cons _ (.cons _ (.cons _ (.cons _ (.refl _)))))) rfl rfl ?_
              refine H_skip 10 rfl (by kernel_rfl) (by kernel_rfl) (by kernel_rfl) (hsub (.cons _ (.cons _ (.cons _ (.cons _ (.refl _)))))) rfl rfl ?_
              refine H_skip 11 rfl (by kernel_rfl) (by kernel_rfl) (by kernel_rfl) (hsub (.cons _ (.cons _ (.cons _ (.cons _ (.refl _)))))) rfl rfl ?_
              refine H_skip 12 rfl (by kernel_rfl) (by kernel_rfl) (by kernel_rfl) (hsub (.cons _ (.cons _ (.cons _ (.cons _ (.refl _)))))) rfl rfl ?_
              refine H_skip 13 rfl (by kernel_rfl) (by kernel_rfl) (by kernel_rfl) (hsub (.cons _ (.cons _ (.cons _ (.cons _ (.refl _)))))) rfl rfl ?_
              refine H_y 14 rfl (by kernel_rfl) (by kernel_rfl) (by kernel_rfl) (hsub (.cons _ (.cons _ (.cons _ (.cons _ (.refl _)))))) rfl (y_pick_t rfl rfl) rfl ?_
              refine H_y 15 rfl (by kernel_rfl) (by kernel_rfl) (by kernel_rfl) (hsub (.cons _ (.cons _ (.cons _ (.cons _ (.refl _)))))) rfl (y_indexA rfl rfl Try.underlying62 sz_4 (by omega) (by omega) (show _ = 1 from rfl)) rfl ?_
              refine H_one 16 rfl (by kernel_rfl) rfl (op_store1 2 0 rfl rfl rfl sz_4 rfl (Nat.le_of_ble_eq_true rfl) ?_)
              refine ⟨hsub (.cons _ (.cons _ (.cons _ (.cons _ (.refl _))))), ?_⟩
              refine H_done (by kernel_rfl) ?_
              refine C_region ?_
              refine L_y rfl (y_add rfl rfl (show _ = (2 : Int) from rfl)) rfl ?_
              refine L_y rfl (y_move rfl) rfl ?_
              refine L_nil ?_
              refine In_round ?_
              refine C_seq ?_
              refine C_region ?_
              refine L_y rfl (y_lss rfl rfl) rfl ?_
              refine L_nil ?_
              refine C_seq ?_
              refine C_cond_f rfl ?_
              refine C_exit ?_
              refine C_seq ?_
              refine C_seq ?_
              refine C_region ?_
              refine L_y rfl (y_indexA rfl rfl Try.underlying62 sz_4 (by omega) (by omega) (show _ = 0 from rfl)) rfl ?_
              refine L_y rfl (y_load rfl ag_4 (sees 2 0 rfl) rfl) rfl ?_
              refine L_y rfl (y_not rfl) rfl ?_
              refine L_y rfl (y_move rfl) rfl ?_
              refine L_y rfl (y_indexA rfl rfl Try.underlying62 sz_4 (by omega) (by omega) (show _ = 1 from rfl)) rfl ?_
              refine L_y rfl (y_load rfl ag_4 (sees 2 0 rfl) rfl) rfl ?_
              refine L_y rfl (y_not rfl) rfl ?_
              refine L_y rfl (y_pick_t rfl rfl) rfl ?_
              refine L_nil ?_
              refine C_cond_f rfl ?_
              refine C_skip ?_
              refine C_seq ?_
              refine C_seq ?_
              refine C_region ?_
              refine L_y rfl (y_move rfl) rfl ?_
              refine L_nil ?_
              refine C_block ?_
              refine C_loopIn (In_round ?_)
              refine C_seq ?_
              refine C_region ?_
              refine L_y rfl (y_lss rfl rfl) rfl ?_
              refine L_nil ?_
              refine C_seq ?_
              refine C_cond_t rfl ?_
              refine C_skip ?_
              refine C_seq ?_
              refine C_block ?_
              refine C_seq ?_
              refine C_region ?_
              refine L_y rfl (y_move rfl) rfl ?_
              refine L_y rfl (y_assign rfl) rfl ?_
              refine L_nil ?_
              refine C_seq ?_
              refine C_region ?_
              refine L_y rfl (y_move rfl) rfl ?_
              refine L_y rfl (y_indexA rfl rfl Try.underlying62 sz_4 (by omega) (by omega) (show _ = 0 from rfl)) rfl ?_
              refine L_y rfl (y_load rfl ag_4 (sees 2 0 rfl) rfl) rfl ?_
              refine L_nil ?_
              refine C_cond_f rfl ?_
              refine C_region ?_
              refine L_y rfl (y_move rfl) rfl ?_
              refine L_y rfl (y_move rfl) rfl ?_
              refine L_y rfl (y_nilCheck rfl) rfl ?_
              refine L_y rfl (y_fieldAddr rfl fl_110_0) rfl ?_
              refine L_y rfl (y_indexA rfl rfl Try.underlying108 sz_107 (by omega) (by omega) (show _ = 0 from rfl)) rfl ?_
              refine L_y rfl (y_fieldAddr rfl fl_107_1) rfl ?_
              refine L_y rfl (y_load rfl ag_105 (sees 0 0 rfl) rfl) rfl ?_
              refine L_y rfl (y_move rfl) rfl ?_
              refine L_op rfl (op_mapUpdate 0 1 rfl rfl rfl Try.underlying105 Try.underlying3 rfl rfl ?_)
              refine L_nil ?_
              refine C_region ?_
              refine L_y rfl (y_add rfl rfl (show _ = (1 : Int) from rfl)) rfl ?_
              refine L_y rfl (y_move rfl) rfl ?_
              refine L_nil ?_
              refine In_round ?_
              refine C_seq ?_
              refine C_region ?_
              refine L_y rfl (y_lss rfl rfl) rfl ?_
              refine L_nil ?_
              refine C_seq ?_
              refine C_cond_t rfl ?_
              refine C_skip ?_
              refine C_seq ?_
              refine C_block ?_
              refine C_seq ?_
              refine C_region ?_
              refine L_y rfl (y_move rfl) rfl ?_
              refine L_y rfl (y_assign rfl) rfl ?_
              refine L_nil ?_
              refine C_seq ?_
              refine C_region ?_
              refine L_y rfl (y_move rfl) rfl ?_
              refine L_y rfl (y_indexA rfl rfl Try.underlying62 sz_4 (by omega) (by omega) (show _ = 1 from rfl)) rfl ?_
              refine L_y rfl (y_load rfl ag_4 (sees 2 0 rfl) rfl) rfl ?_
              refine L_nil ?_
              refine C_cond_t rfl ?_
              refine C_region ?_
              refine L_y rfl (y_move rfl) rfl ?_
              refine L_y rfl (y_move rfl) rfl ?_
              refine L_y rfl (y_nilCheck rfl) rfl ?_
              refine L_y rfl (y_fieldAddr rfl fl_110_0) rfl ?_
              refine L_y rfl (y_indexA rfl rfl Try.underlying108 sz_107 (by omega) (by omega) (show _ = 2 from rfl)) rfl ?_
              refine L_y rfl (y_fieldAddr rfl fl_107_1) rfl ?_
              refine L_y rfl (y_load rfl ag_105 (sees 0 0 rfl) rfl) rfl ?_
              refine L_y rfl (y_move rfl) rfl ?_
              refine L_op rfl (op_delete 0 2 rfl rfl rfl Try.underlying105 Try.underlying3 rfl rfl ?_)
              refine L_nil ?_
              refine C_region ?_
              refine L_y rfl (y_add rfl rfl (show _ = (2 : Int) from rfl)) rfl ?_
              refine L_y rfl (y_move rfl) rfl ?_
              refine L_nil ?_
              refine In_round ?_
              refine C_seq ?_
              refine C_region ?_
              refine L_y rfl (y_lss rfl rfl) rfl ?_
              refine L_nil ?_
              refine C_seq ?_
              refine C_cond_f rfl ?_
              refine C_exit ?_
              refine C_seq ?_
              refine C_region ?_
              refine L_y rfl (y_assign rfl) rfl ?_
              refine L_nil ?_
              refine C_ret ?_
              refine B_ret (rv_tmp rfl rv_nil) ((hsub (.cons_cons _ (.cons_cons _ (.cons _ (.cons _ (.refl _)))))).trans (hsub_pick [0, 0] rfl)) ?_
              have e0 : putD A ask n s false = false := by simp_all [putD, pd]
              have e1 : putD A ask n s true = true := by simp_all [putD, pd, pA]
              have ea : putA A ask n s = (A.write false n s) := by simp_all [putA, pA]
              have em : putm m A ask n s = m.mark n false true := by simp [putm, hn, e0, e1]
              exact ⟨ret_int (by simp [putE, hn, e0, e1]), D8, h8.to (by simp [putDa, hn, ea]), by rw [em]; rfl⟩
            · skip
              refine H_y 6 rfl (by kernel_rfl) (by kernel_rfl) (by kernel_rfl) (hsub (.cons _ (.cons _ (.cons _ (.cons _ (.refl _)))))) rfl (y_move rfl) rfl ?_
              refine H_y 7 rfl (by kernel_rfl) (by kernel_rfl) (by kernel_rfl) (hsub (.cons _ (.cons _ (.cons _ (.cons _ (.refl _)))))) rfl (y_nilCheck rfl) rfl ?_
              refine H_y 8 rfl (by kernel_rfl) (by kernel_rfl) (by kernel_rfl) (hsub (.cons _ (.cons _ (.cons _ (.cons _ (.refl _)))))) rfl (y_fieldAddr rfl fl_107_0) rfl ?_
              refine H_y 10 rfl (by kernel_rfl) (by kernel_rfl) (by kernel_rfl) (hsub (.cons _ (.cons _ (.cons _ (.cons _ (.refl _)))))) rfl (y_move rfl) rfl ?_
              refine H_two 9 11 rfl rfl (by kernel_rfl) rfl rfl ?_ ?_
              · refine op_y (y_load rfl ag_24 (sees 0 0 rfl) rfl) rfl ?_
                refine ⟨hsub (.cons _ (.cons _ (.cons _ (.cons _ (.refl _))))), ?_⟩
                refine H_one 11 rfl (by kernel_rfl) rfl (op_y (y_loadA rfl ag_32 sz_32 (sees 3 0 rfl) (by rw [bs_length, hs]; decide) (bs_whole0 _ hs)) rfl ?_)
                refine ⟨hsub (.cons _ (.cons _ (.cons _ (.cons _ (.refl _))))), ?_⟩
                refine H_one 12 rfl (by kernel_rfl) rfl (op_call rfl rfl (fun a w => Try.call62 a w) rfl ?_)
                refine ((write_d h8 true n s hs (by have := hQ true; have q2 := Da.write_many A false n s true; omega)).sub (hsub_pick [1] rfl)).mono ?_
                rintro _ _ ⟨rfl, D11, h11, rfl⟩
                refine ⟨_, rfl, ?_⟩
                refine ⟨hsub (.cons _ (.cons _ (.cons _ (.cons _ (.refl _))))), ?_⟩
                refine H_y 13 rfl (by kernel_rfl) (by kernel_rfl) (by kernel_rfl) (hsub (.cons _ (.cons _ (.cons _ (.cons _ (.refl _)))))) rfl (y_eqi rfl rfl) rfl ?_
                refine H_case 42 rfl (fun hg9_14 => ?_) (fun hg9_14 => ?_)
                · skip
                  refine H_y 14 rfl (by kernel_rfl) (by kernel_rfl) (by kernel_rfl) (hsub (.cons _ (.cons _ (.cons _ (.cons _ (.refl _)))))) rfl (y_pick_f rfl rfl) rfl ?_
                  refine H_y 15 rfl (by kernel_rfl) (by kernel_rfl) (by kernel_rfl) (hsub (.cons _ (.cons _ (.cons _ (.cons _ (.refl _)))))) rfl (y_indexA rfl rfl Try.underlying62 sz_4 (by omega) (by omega) (show _ = 1 from rfl)) rfl ?_
                  refine H_one 16 rfl (by kernel_rfl) rfl (op_store1 2 0 rfl rfl rfl sz_4 rfl (Nat.le_of_ble_eq_true rfl) ?_)
                  refine ⟨hsub (.cons _ (.cons _ (.cons _ (.cons _ (.refl _))))), ?_⟩
                  refine H_done (by kernel_rfl) ?_
                  refine C_region ?_
                  refine L_y rfl (y_add rfl rfl (show _ = (2 : Int) from rfl)) rfl ?_
                  refine L_y rfl (y_move rfl) rfl ?_
                  refine L_nil ?_
                  refine In_round ?_
                  refine C_seq ?_
                  refine C_region ?_
                  refine L_y rfl (y_lss rfl rfl) rfl ?_
                  refine L_nil ?_
                  refine C_seq ?_
                  refine C_cond_f rfl ?_
                  refine C_exit ?_
                  refine C_seq ?_
                  refine C_seq ?_
                  refine C_region ?_
                  refine L_y rfl (y_indexA rfl rfl Try.underlying62 sz_4 (by omega) (by omega) (show _ = 0 from rfl)) rfl ?_
                  refine L_y rfl (y_load rfl ag_4 (sees 2 0 rfl) rfl) rfl ?_
                  refine L_y rfl (y_not rfl) rfl ?_
                  refine L_y rfl (y_move rfl) rfl ?_
                  refine L_y rfl (y_indexA rfl rfl Try.underlying62 sz_4 (by omega) (by omega) (show _ = 1 from rfl)) rfl ?_
                  refine L_y rfl (y_load rfl ag_4 (sees 2 0 rfl) rfl) rfl ?_
                  refine L_y rfl (y_not rfl) rfl ?_
                  refine L_y rfl (y_pick_t rfl rfl) rfl ?_
                  refine L_nil ?_
                  refine C_cond_f rfl ?_
                  refine C_skip ?_
                  refine C_seq ?_
                  refine C_seq ?_
                  refine C_region ?_
                  refine L_y rfl (y_move rfl) rfl ?_
                  refine L_nil ?_
                  refine C_block ?_
                  refine C_loopIn (In_round ?_)
                  refine C_seq ?_
                  refine C_region ?_
                  refine L_y rfl (y_lss rfl rfl) rfl ?_
                  refine L_nil ?_
                  refine C_seq ?_
                  refine C_cond_t rfl ?_
                  refine C_skip ?_
                  refine C_seq ?_
                  refine C_block ?_
                  refine C_seq ?_
                  refine C_region ?_
                  refine L_y rfl (y_move rfl) rfl ?_
                  refine L_y rfl (y_assign rfl) rfl ?_
                  refine L_nil ?_
                  refine C_seq ?_
                  refine C_region ?_
                  refine L_y rfl (y_move rfl) rfl ?_
                  refine L_y rfl (y_indexA rfl rfl Try.underlying62 sz_4 (by omega) (by omega) (show _ = 0 from rfl)) rfl ?_
                  refine L_y rfl (y_load rfl ag_4 (sees 2 0 rfl) rfl) rfl ?_
                  refine L_nil ?_
                  refine C_cond_f rfl ?_
                  refine C_region ?_
                  refine L_y rfl (y_move rfl) rfl ?_
                  refine L_y rfl (y_move rfl) rfl ?_
                  refine L_y rfl (y_nilCheck rfl) rfl ?_
                  refine L_y rfl (y_fieldAddr rfl fl_110_0) rfl ?_
                  refine L_y rfl (y_indexA rfl rfl Try.underlying108 sz_107 (by omega) (by omega) (show _ = 0 from rfl)) rfl ?_
                  refine L_y rfl (y_fieldAddr rfl fl_107_1) rfl ?_
                  refine L_y rfl (y_load rfl ag_105 (sees 1 0 rfl) rfl) rfl ?_
                  refine L_y rfl (y_move rfl) rfl ?_
                  refine L_op rfl (op_mapUpdate 1 1 rfl rfl rfl Try.underlying105 Try.underlying3 rfl rfl ?_)
                  refine L_nil ?_
                  refine C_region ?_
                  refine L_y rfl (y_add rfl rfl (show _ = (1 : Int) from rfl)) rfl ?_
                  refine L_y rfl (y_move rfl) rfl ?_
                  refine L_nil ?_
                  refine In_round ?_
                  refine C_seq ?_
                  refine C_region ?_
                  refine L_y rfl (y_lss rfl rfl) rfl ?_
                  refine L_nil ?_
                  refine C_seq ?_
                  refine C_cond_t rfl ?_
                  refine C_skip ?_
                  refine C_seq ?_
                  refine C_block ?_
                  refine C_seq ?_
                  refine C_region ?_
                  refine L_y rfl (y_move rfl) rfl ?_
                  refine L_y rfl (y_assign rfl) rfl ?_
                  refine L_nil ?_
                  refine C_seq ?_
                  refine C_region ?_
                  refine L_y rfl (y_move rfl) rfl ?_
                  refine L_y rfl (y_indexA rfl rfl Try.underlying62 sz_4 (by omega) (by omega) (show _ = 1 from rfl)) rfl ?_
                  refine L_y rfl (y_load rfl ag_4 (sees 2 0 rfl) rfl) rfl ?_
                  refine L_nil ?_
                  refine C_cond_t rfl ?_
                  refine C_region ?_
                  refine L_y rfl (y_move rfl) rfl ?_
                  refine L_y rfl (y_move rfl) rfl ?_
                  refine L_y rfl (y_nilCheck rfl) rfl ?_
                  refine L_y rfl (y_fieldAddr rfl fl_110_0) rfl ?_
                  refine L_y rfl (y_indexA rfl rfl Try.underlying108 sz_107 (by omega) (by omega) (show _ = 2 from rfl)) rfl ?_
                  refine L_y rfl (y_fieldAddr rfl fl_107_1) rfl ?_
                  refine L_y rfl (y_load rfl ag_105 (sees 1 0 rfl) rfl) rfl ?_
                  refine L_y rfl (y_move rfl) rfl ?_
                  refine L_op rfl (op_delete 1 2 rfl rfl rfl Try.underlying105 Try.underlying3 rfl rfl ?_)
                  refine L_nil ?_
                  refine C_region ?_
                  refine L_y rfl (y_add rfl rfl (show _ = (2 : Int) from rfl)) rfl ?_
                  refine L_y rfl (y_move rfl) rfl ?_
                  refine L_nil ?_
                  refine In_round ?_
                  refine C_seq ?_
                  refine C_region ?_
                  refine L_y rfl (y_lss rfl rfl) rfl ?_
                  refine L_nil ?_
                  refine C_seq ?_
                  refine C_cond_f rfl ?_
                  refine C_exit ?_
                  refine C_seq ?_
                  refine C_region ?_
                  refine L_y rfl (y_assign rfl) rfl ?_
                  refine L_nil ?_
                  refine C_ret ?_
                  refine B_ret (rv_tmp rfl rv_nil) ((hsub (.cons_cons _ (.cons_cons _ (.cons _ (.cons _ (.refl _)))))).trans (hsub_pick [1, 0] rfl)) ?_
                  have e0 : putD A ask n s false = false := by simp_all [putD, pd]
                  have e1 : putD A ask n s true = true := by simp_all [putD, pd, pA]
                  have ea : putA A ask n s = ((A.write false n s).write true n s) := by simp_all [putA, pA]
                  have em : putm m A ask n s = m.mark n false true := by simp [putm, hn, e0, e1]
                  exact ⟨ret_int (by simp [putE, hn, e0, e1]), D11, h11.to (by simp [putDa, hn, ea]), by rw [em]; rfl⟩
                · skip
                  refine H_y 14 rfl (by kernel_rfl) (by kernel_rfl) (by kernel_rfl) (hsub (.cons _ (.cons _ (.cons _ (.cons _ (.refl _)))))) rfl (y_pick_f rfl rfl) rfl ?_
                  refine H_y 15 rfl (by kernel_rfl) (by kernel_rfl) (by kernel_rfl) (hsub (.cons _ (.cons _ (.cons _ (.cons _ (.refl _)))))) rfl (y_indexA rfl rfl Try.underlying62 sz_4 (by omega) (by omega) (show _ = 1 from rfl)) rfl ?_
                  refine H_one 16 rfl (by kernel_rfl) rfl (op_store1 2 0 rfl rfl rfl sz_4 rfl (Nat.le_of_ble_eq_true rfl) ?_)
                  refine ⟨hsub (.cons _ (.cons _ (.cons _ (.cons _ (.refl _))))), ?_⟩
                  refine H_done (by kernel_rfl) ?_
                  refine C_region ?_
                  refine L_y rfl (y_add rfl rfl (show _ = (2 : Int) from rfl)) rfl ?_
                  refine L_y rfl (y_move rfl) rfl ?_
                  refine L_nil ?_
                  refine In_round ?_
                  refine C_seq ?_
                  refine C_region ?_
                  refine L_y rfl (y_lss rfl rfl) rfl ?_
                  refine L_nil ?_
                  refine C_seq ?_
                  refine C_cond_f rfl ?_
                  refine C_exit ?_
                  refine C_seq ?_
                  refine C_seq ?_
                  refine C_region ?_
                  refine L_y rfl (y_indexA rfl rfl Try.underlying62 sz_4 (by omega) (by omega) (show _ = 0 from rfl)) rfl ?_
                  refine L_y rfl (y_load rfl ag_4 (sees 2 0 rfl) rfl) rfl ?_
                  refine L_y rfl (y_not rfl) rfl ?_
                  refine L_y rfl (y_move rfl) rfl ?_
                  refine L_y rfl (y_indexA rfl rfl Try.underlying62 sz_4 (by omega) (by omega) (show _ = 1 from rfl)) rfl ?_
                  refine L_y rfl (y_load rfl ag_4 (sees 2 0 rfl) rfl) rfl ?_
                  refine L_y rfl (y_not rfl) rfl ?_
                  refine L_y rfl (y_pick_t rfl rfl) rfl ?_
                  refine L_nil ?_
                  refine C_cond_t rfl ?_
                  refine C_seq ?_
                  refine C_region ?_
                  refine L_y rfl (y_assign rfl) rfl ?_
                  refine L_nil ?_
                  refine C_ret ?_
                  refine B_ret (rv_tmp rfl rv_nil) ((hsub (.cons_cons _ (.cons_cons _ (.cons _ (.cons _ (.refl _)))))).trans (hsub_pick [1, 0] rfl)) ?_
                  have e0 : putD A ask n s false = false := by simp_all [putD, pd]
                  have e1 : putD A ask n s true = false := by simp_all [putD, pd, pA]
                  have ea : putA A ask n s = ((A.write false n s).write true n s) := by simp_all [putA, pA]
                  have em : putm m A ask n s = m := by simp [putm, hn, e0, e1]
                  exact ⟨ret_int (by simp [putE, hn, e0, e1]), D11, h11.to (by simp [putDa, hn, ea]), by rw [em]; rfl⟩
              · refine op_y (y_loadA rfl ag_32 sz_32 (sees 3 0 rfl) (by rw [bs_length, hs]; decide) (bs_whole0 _ hs)) rfl ?_
                refine ⟨hsub (.cons _ (.cons _ (.cons _ (.cons _ (.refl _))))), ?_⟩
                refine H_one 9 rfl (by kernel_rfl) rfl (op_y (y_load rfl ag_24 (sees 0 0 rfl) rfl) rfl ?_)
                refine ⟨hsub (.cons _ (.cons _ (.cons _ (.cons _ (.refl _))))), ?_⟩
                refine H_one 12 rfl (by kernel_rfl) rfl (op_call rfl rfl (fun a w => Try.call62 a w) rfl ?_)
                refine ((write_d h8 true n s hs (by have := hQ true; have q2 := Da.write_many A false n s true; omega)).sub (hsub_pick [1] rfl)).mono ?_
                rintro _ _ ⟨rfl, D12, h12, rfl⟩
                refine ⟨_, rfl, ?_⟩
                refine ⟨hsub (.cons _ (.cons _ (.cons _ (.cons _ (.refl _))))), ?_⟩
                refine H_y 13 rfl (by kernel_rfl) (by kernel_rfl) (by kernel_rfl) (hsub (.cons _ (.cons _ (.cons _ (.cons _ (.refl _)))))) rfl (y_eqi rfl rfl) rfl ?_
                refine H_case 42 rfl (fun hg9_14 => ?_) (fun hg9_14 => ?_)
                · skip
                  refine H_y 14 rfl (by kernel_rfl) (by kernel_rfl) (by kernel_rfl) (hsub (.cons _ (.cons _ (.cons _ (.cons _ (.refl _)))))) rfl (y_pick_f rfl rfl) rfl ?_
                  refine H_y 15 rfl (by kernel_rfl) (by kernel_rfl) (by kernel_rfl) (hsub (.cons _ (.cons _ (.cons _ (.cons _ (.refl _)))))) rfl (y_indexA rfl rfl Try.underlying62 sz_4 (by omega) (by omega) (show _ = 1 from rfl)) rfl ?_
                  refine H_one 16 rfl (by kernel_rfl) rfl (op_store1 2 0 rfl rfl rfl sz_4 rfl (Nat.le_of_ble_eq_true rfl) ?_)
                  refine ⟨hsub (.cons _ (.cons _ (.cons _ (.cons _ (.refl _))))), ?_⟩
                  refine H_done (by kernel_rfl) ?_
                  refine C_region ?_
                  refine L_y rfl (y_add rfl rfl (show _ = (2 : Int) from rfl)) rfl ?_
                  refine L_y rfl (y_move rfl) rfl ?_
                  refine L_nil ?_
                  refine In_round ?_
                  refine C_seq ?_
                  refine C_region ?_
                  refine L_y rfl (y_lss rfl rfl) rfl ?_
                  refine L_nil ?_
                  refine C_seq ?_
                  refine C_cond_f rfl ?_
                  refine C_exit ?_
                  refine C_seq ?_
                  refine C_seq ?_
                  refine C_region ?_
                  refine L_y rfl (y_indexA rfl rfl Try.underlying62 sz_4 (by omega) (by omega) (show _ = 0 from rfl)) rfl ?_
                  refine L_y rfl (y_load rfl ag_4 (sees 2 0 rfl) rfl) rfl ?_
                  refine L_y rfl (y_not rfl) rfl ?_
                  refine L_y rfl (y_move rfl) rfl ?_
                  refine L_y rfl (y_indexA rfl rfl Try.underlying62 sz_4 (by omega) (by omega) (show _ = 1 from rfl)) rfl ?_
                  refine L_y rfl (y_load rfl ag_4 (sees 2 0 rfl) rfl) rfl ?_
                  refine L_y rfl (y_not rfl) rfl ?_
                  refine L_y rfl (y_pick_t rfl rfl) rfl ?_
                  refine L_nil ?_
                  refine C_cond_f rfl ?_
                  refine C_skip ?_
                  refine C_seq ?_
                  refine C_seq ?_
                  refine C_region ?_
                  refine L_y rfl (y_move rfl) rfl ?_
                  refine L_nil ?_
                  refine C_block ?_
                  refine C_loopIn (In_round ?_)
                  refine C_seq ?_
                  refine C_region ?_
                  refine L_y rfl (y_lss rfl rfl) rfl ?_
                  refine L_nil ?_
                  refine C_seq ?_
                  refine C_cond_t rfl ?_
                  refine C_skip ?_
                  refine C_seq ?_
                  refine C_block ?_
                  refine C_seq ?_
                  refine C_region ?_
                  refine L_y rfl (y_move rfl) rfl ?_
                  refine L_y rfl (y_assign rfl) rfl ?_
                  refine L_nil ?_
                  refine C_seq ?_
                  refine C_region ?_
                  refine L_y rfl (y_move rfl) rfl ?_
                  refine L_y rfl (y_indexA rfl rfl Try.underlying62 sz_4 (by omega) (by omega) (show _ = 0 from rfl)) rfl ?_
                  refine L_y rfl (y_load rfl ag_4 (sees 2 0 rfl) rfl) rfl ?_
                  refine L_nil ?_
                  refine C_cond_f rfl ?_
                  refine C_region ?_
                  refine L_y rfl (y_move rfl) rfl ?_
                  refine L_y rfl (y_move rfl) rfl ?_
                  refine L_y rfl (y_nilCheck rfl) rfl ?_
                  refine L_y rfl (y_fieldAddr rfl fl_110_0) rfl ?_
                  refine L_y rfl (y_indexA rfl rfl Try.underlying108 sz_107 (by omega) (by omega) (show _ = 0 from rfl)) rfl ?_
                  refine L_y rfl (y_fieldAddr rfl fl_107_1) rfl ?_
                  refine L_y rfl (y_load rfl ag_105 (sees 1 0 rfl) rfl) rfl ?_
                  refine L_y rfl (y_move rfl) rfl ?_
                  refine L_op rfl (op_mapUpdate 1 1 rfl rfl rfl Try.underlying105 Try.underlying3 rfl rfl ?_)
                  refine L_nil ?_
                  refine C_region ?_
                  refine L_y rfl (y_add rfl rfl (show _ = (1 : Int) from rfl)) rfl ?_
                  refine L_y rfl (y_move rfl) rfl ?_
                  refine L_nil ?_
                  refine In_round ?_
                  refine C_seq ?_
                  refine C_region ?_
                  refine L_y rfl (y_lss rfl rfl) rfl ?_
                  refine L_nil ?_
                  refine C_seq ?_
                  refine C_cond_t rfl ?_
                  refine C_skip ?_
                  refine C_seq ?_
                  refine C_block ?_
                  refine C_seq ?_
                  refine C_region ?_
                  refine L_y rfl (y_move rfl) rfl ?_
                  refine L_y rfl (y_assign rfl) rfl ?_
                  refine L_nil ?_
                  refine C_seq ?_
                  refine C_region ?_
                  refine L_y rfl (y_move rfl) rfl ?_
                  refine L_y rfl (y_indexA rfl rfl Try.underlying62 sz_4 (by omega) (by omega) (show _ = 1 from rfl)) rfl ?_
                  refine L_y rfl (y_load rfl ag_4 (sees 2 0 rfl) rfl) rfl ?_
                  refine L_nil ?_
                  refine C_cond_t rfl ?_
                  refine C_region ?_
                  refine L_y rfl (y_move rfl) rfl ?_
                  refine L_y rfl (y_move rfl) rfl ?_
                  refine L_y rfl (y_nilCheck rfl) rfl ?_
                  refine L_y rfl (y_fieldAddr rfl fl_110_0) rfl ?_
                  refine L_y rfl (y_indexA rfl rfl Try.underlying108 sz_107 (by omega) (by omega) (show _ = 2 from rfl)) rfl ?_
                  refine L_y rfl (y_fieldAddr rfl fl_107_1) rfl ?_
                  refine L_y rfl (y_load rfl ag_105 (sees 1 0 rfl) rfl) rfl ?_
                  refine L_y rfl (y_move rfl) rfl ?_
                  refine L_op rfl (op_delete 1 2 rfl rfl rfl Try.underlying105 Try.underlying3 rfl rfl ?_)
                  refine L_nil ?_
                  refine C_region ?_
                  refine L_y rfl (y_add rfl rfl (show _ = (2 : Int) from rfl)) rfl ?_
                  refine L_y rfl (y_move rfl) rfl ?_
                  refine L_nil ?_
                  refine In_round ?_
                  refine C_seq ?_
                  refine C_region ?_
                  refine L_y rfl (y_lss rfl rfl) rfl ?_
                  refine L_nil ?_
                  refine C_seq ?_
                  refine C_cond_f rfl ?_
                  refine C_exit ?_
                  refine C_seq ?_
                  refine C_region ?_
                  refine L_y rfl (y_assign rfl) rfl ?_
                  refine L_nil ?_
                  refine C_ret ?_
                  refine B_ret (rv_tmp rfl rv_nil) ((hsub (.cons_cons _ (.cons_cons _ (.cons _ (.cons _ (.refl _)))))).trans (hsub_pick [1, 0] rfl)) ?_
                  have e0 : putD A ask n s false = false := by simp_all [putD, pd]
                  have e1 : putD A ask n s true = true := by simp_all [putD, pd, pA]
                  have ea : putA A ask n s = ((A.write false n s).write true n s) := by simp_all [putA, pA]
                  have em : putm m A ask n s = m.mark n false true := by simp [putm, hn, e0, e1]
                  exact ⟨ret_int (by simp [putE, hn, e0, e1]), D12, h12.to (by simp [putDa, hn, ea]), by rw [em]; rfl⟩
                · skip
                  refine H_y 14 rfl (by kernel_rfl) (by kernel_rfl) (by kernel_rfl) (hsub (.cons _ (.cons _ (.cons _ (.cons _ (.refl _)))))) rfl (y_pick_f rfl rfl) rfl ?_
                  refine H_y 15 rfl (by kernel_rfl) (by kernel_rfl) (by kernel_rfl) (hsub (.cons _ (.cons _ (.cons _ (.cons _ (.refl _)))))) rfl (y_indexA rfl rfl Try.underlying62 sz_4 (by omega) (by omega) (show _ = 1 from rfl)) rfl ?_
                  refine H_one 16 rfl (by kernel_rfl) rfl (op_store1 2 0 rfl rfl rfl sz_4 rfl (Nat.le_of_ble_eq_true rfl) ?_)
                  refine ⟨hsub (.cons _ (.cons _ (.cons _ (.cons _ (.refl _))))), ?_⟩
                  refine H_done (by kernel_rfl) ?_
                  refine C_region ?_
                  refine L_y rfl (y_add rfl rfl (show _ = (2 : Int) from rfl)) rfl ?_
                  refine L_y rfl (y_move rfl) rfl ?_
                  refine L_nil ?_
                  refine In_round ?_
                  refine C_seq ?_
                  refine C_region ?_
                  refine L_y rfl (y_lss rfl rfl) rfl ?_
                  refine L_nil ?_
                  refine C_seq ?_
                  refine C_cond_f rfl ?_
                  refine C_exit ?_
                  refine C_seq ?_
                  refine C_seq ?_
                  refine C_region ?_
                  refine L_y rfl (y_indexA rfl rfl Try.underlying62 sz_4 (by omega) (by omega) (show _ = 0 from rfl)) rfl ?_
                  refine L_y rfl (y_load rfl ag_4 (sees 2 0 rfl) rfl) rfl ?_
                  refine L_y rfl (y_not rfl) rfl ?_
                  refine L_y rfl (y_move rfl) rfl ?_
                  refine L_y rfl (y_indexA rfl rfl Try.underlying62 sz_4 (by omega) (by omega) (show _ = 1 from rfl)) rfl ?_
                  refine L_y rfl (y_load rfl ag_4 (sees 2 0 rfl) rfl) rfl ?_
                  refine L_y rfl (y_not rfl) rfl ?_
                  refine L_y rfl (y_pick_t rfl rfl) rfl ?_
                  refine L_nil ?_
                  refine C_cond_t rfl ?_
                  refine C_seq ?_
                  refine C_region ?_
                  refine L_y rfl (y_assign rfl) rfl ?_
                  refine L_nil ?_
                  refine C_ret ?_
                  refine B_ret (rv_tmp rfl rv_nil) ((hsub (.cons_cons _ (.cons_cons _ (.cons _ (.cons _ (.refl _)))))).trans (hsub_pick [1, 0] rfl)) ?_
                  have e0 : putD A ask n s false = false := by simp_all [putD, pd]
                  have e1 : putD A ask n s true = false := by simp_all [putD, pd, pA]
                  have ea : putA A ask n s = ((A.write false n s).write true n s) := by simp_all [putA, pA]
                  have em : putm m A ask n s = m := by simp [putm, hn, e0, e1]
                  exact ⟨ret_int (by simp [putE, hn, e0, e1]), D12, h12.to (by simp [putDa, hn, ea]), by rw [em]; rfl⟩
          · skip
            refine C_skip ?_
            refine C_region ?_
            refine L_y rfl (y_add rfl rfl (show _ = (2 : Int) from rfl)) rfl ?_
            refine L_y rfl (y_move rfl) rfl ?_
            refine L_nil ?_
            refine In_round ?_
            refine C_seq ?_
            refine C_region ?_
            refine L_y rfl (y_lss rfl rfl) rfl ?_
            refine L_nil ?_
            refine C_seq ?_
            refine C_cond_f rfl ?_
            refine C_exit ?_
            refine C_seq ?_
            refine C_seq ?_
            refine C_region ?_
            refine L_y rfl (y_indexA rfl rfl Try.underlying62 sz_4 (by omega) (by omega) (show _ = 0 from rfl)) rfl ?_
            refine L_y rfl (y_load rfl ag_4 (sees 2 0 rfl) rfl) rfl ?_
            refine L_y rfl (y_not rfl) rfl ?_
            refine L_y rfl (y_move rfl) rfl ?_
            refine L_y rfl (y_indexA rfl rfl Try.underlying62 sz_4 (by omega) (by omega) (show _ = 1 from rfl)) rfl ?_
            refine L_y rfl (y_load rfl ag_4 (sees 2 0 rfl) rfl) rfl ?_
            refine L_y rfl (y_not rfl) rfl ?_
            refine L_y rfl (y_pick_t rfl rfl) rfl ?_
            refine L_nil ?_
            refine C_cond_t rfl ?_
            refine C_seq ?_
            refine C_region ?_
            refine L_y rfl (y_assign rfl) rfl ?_
            refine L_nil ?_
            refine C_ret ?_
            refine B_ret (rv_tmp rfl rv_nil) ((hsub (.cons_cons _ (.cons_cons _ (.cons _ (.cons _ (.refl _)))))).trans (hsub_pick [1, 0] rfl)) ?_
            have e0 : putD A ask n s false = false := by simp_all [putD, pd]
            have e1 : putD A ask n s true = false := by simp_all [putD, pd, pA]
            have ea : putA A ask n s = (A.write false n s) := by simp_all [putA, pA]
            have em : putm m A ask n s = m := by simp [putm, hn, e0, e1]
            exact ⟨ret_int (by simp [putE, hn, e0, e1]), D8, h8.to (by simp [putDa, hn, ea]), by rw [em]; rfl⟩
  · skip
    refine C_skip ?_
    refine C_region ?_
    refine L_y rfl (y_add rfl rfl (show _ = (1 : Int) from rfl)) rfl ?_
    refine L_y rfl (y_move rfl) rfl ?_
    refine L_nil ?_
    refine In_round ?_
    refine C_seq ?_
    refine C_region ?_
    refine L_y rfl (y_lss rfl rfl) rfl ?_
    refine L_nil ?_
    refine C_seq ?_
    refine C_cond_t rfl ?_
    refine C_skip ?_
    refine C_seq ?_
    refine C_block ?_
    refine C_seq ?_
    refine C_region ?_
    refine L_y rfl (y_move rfl) rfl ?_
    refine L_y rfl (y_assign rfl) rfl ?_
    refine L_nil ?_
    refine C_seq ?_
    refine C_region ?_
    refine L_y rfl (y_move rfl) rfl ?_
    refine L_y rfl (y_move rfl) rfl ?_
    refine L_y rfl (y_nilCheck rfl) rfl ?_
    refine L_y rfl (y_fieldAddr rfl fl_110_0) rfl ?_
    refine L_y rfl (y_indexA rfl rfl Try.underlying108 sz_107 (by omega) (by omega) (show _ = 2 from rfl)) rfl ?_
    refine L_y rfl (y_assign rfl) rfl ?_
    refine L_nil ?_
    refine C_seq ?_
    refine C_region ?_
    refine L_y rfl (y_move rfl) rfl ?_
    refine L_y rfl (y_nilCheck rfl) rfl ?_
    refine L_y rfl (y_loadA rfl ag_107 sz_107 (sees 3 0 rfl) (Nat.le_of_ble_eq_true rfl) rfl) rfl ?_
    refine L_op rfl (op_call rfl rfl (fun a w => Try.call53 a w) rfl ?_)
    refine ((there_d h true).sub (hsub_pick [0] rfl)).mono ?_
    rintro _ _ ⟨rfl, rfl⟩
    refine ⟨_, rfl, ?_⟩
    refine L_nil ?_
    refine C_cond rfl (fun hc2 => ?_) (fun hc2 => ?_)
    · skip
      refine C_regionH H (by kernel_rfl) ?_
      refine H_y 0 rfl (by kernel_rfl) (by kernel_rfl) (by kernel_rfl) (hsub (.cons _ (.cons _ (.cons _ (.cons _ (.refl _)))))) rfl (y_move rfl) rfl ?_
      refine H_y 1 rfl (by kernel_rfl) (by kernel_rfl) (by kernel_rfl) (hsub (.cons _ (.cons _ (.cons _ (.cons _ (.refl _)))))) rfl (y_move rfl) rfl ?_
      refine H_y 2 rfl (by kernel_rfl) (by kernel_rfl) (by kernel_rfl) (hsub (.cons _ (.cons _ (.cons _ (.cons _ (.refl _)))))) rfl (y_move rfl) rfl ?_
      refine H_one 3 rfl (by kernel_rfl) rfl (op_call (f := fa) (first := []) (cap := cap) rfl rfl hask.1 rfl ?_)
      refine FnS.mono (FnS.sub (hsub_pick [3, 0] rfl) (hask.2 true _ _ _ h (hsub (.cons _ (.cons _ (.refl _)))))) ?_
      rintro _ _ ⟨rfl, rfl⟩
      refine ⟨_, rfl, ?_⟩
      refine ⟨hsub (.cons _ (.cons _ (.cons _ (.cons _ (.refl _))))), ?_⟩
      refine H_y 4 rfl (by kernel_rfl) (by kernel_rfl) (by kernel_rfl) (hsub (.cons _ (.cons _ (.cons _ (.cons _ (.refl _)))))) rfl (y_not rfl) rfl ?_
      refine H_y 5 rfl (by kernel_rfl) (by kernel_rfl) (by kernel_rfl) (hsub (.cons _ (.cons _ (.cons _ (.cons _ (.refl _)))))) rfl (y_move rfl) rfl ?_
      refine H_case 34 rfl (fun hg9_6 => ?_) (fun hg9_6 => ?_)
      · skip
        refine H_skip 6 rfl (by kernel_rfl) (by kernel_rfl) (by kernel_rfl) (hsub (.cons _ (.cons _ (.cons _ (.cons _ (.refl _)))))) rfl rfl ?_
        refine H_skip 7 rfl (by kernel_rfl) (by kernel_rfl) (by kernel_rfl) (hsub (.cons _ (.cons _ (.cons _ (.cons _ (.refl _)))))) rfl rfl ?_
        refine H_skip 8 rfl (by kernel_rfl) (by kernel_rfl) (by kernel_rfl) (hsub (.cons _ (.cons _ (.cons _ (.cons _ (.refl _)))))) rfl rfl ?_
        refine H_skip 9 rfl (by kernel_rfl) (by kernel_rfl) (by kernel_rfl) (hsub (.cons _ (.cons _ (.cons _ (.cons _ (.refl _)))))) rfl rfl ?_
        refine H_skip 10 rfl (by kernel_rfl) (by kernel_rfl) (by kernel_rfl) (hsub (.cons _ (.cons _ (.cons _ (.cons _ (.refl _)))))) rfl rfl ?_
        refine H_skip 11 rfl (by kernel_rfl) (by kernel_rfl) (by kernel_rfl) (hsub (.cons _ (.cons _ (.cons _ (.cons _ (.refl _)))))) rfl rfl ?_
        refine H_skip 12 rfl (by kernel_rfl) (by kernel_rfl) (by kernel_rfl) (hsub (.cons _ (.cons _ (.cons _ (.cons _ (.refl _)))))) rfl rfl ?_
        refine H_skip 13 rfl (by kernel_rfl) (by kernel_rfl) (by kernel_rfl) (hsub (.cons _ (.cons _ (.cons _ (.cons _ (.refl _)))))) rfl rfl ?_
        refine H_y 14 rfl (by kernel_rfl) (by kernel_rfl) (by kernel_rfl) (hsub (.cons _ (.cons _ (.cons _ (.cons _ (.refl _)))))) rfl (y_pick_t rfl rfl) rfl ?_
        refine H_y 15 rfl (by kernel_rfl) (by kernel_rfl) (by kernel_rfl) (hsub (.cons _ (.cons _ (.cons _ (.cons _ (.refl _)))))) rfl (y_indexA rfl rfl Try.underlying62 sz_4 (by omega) (by omega) (show _ = 1 from rfl)) rfl ?_
        refine H_one 16 rfl (by kernel_rfl) rfl (op_store1 2 0 rfl rfl rfl sz_4 rfl (Nat.le_of_ble_eq_true rfl) ?_)
        refine ⟨hsub (.cons _ (.cons _ (.cons _ (.cons _ (.refl _))))), ?_⟩
        refine H_done (by kernel_rfl) ?_
        refine C_region ?_
        refine L_y rfl (y_add rfl rfl (show _ = (2 : Int) from rfl)) rfl ?_
        refine L_y rfl (y_move rfl) rfl ?_
        refine L_nil ?_
        refine In_round ?_
        refine C_seq ?_
        refine C_region ?_
        refine L_y rfl (y_lss rfl rfl) rfl ?_
        refine L_nil ?_
        refine C_seq ?_
        refine C_cond_f rfl ?_
        refine C_exit ?_
        refine C_seq ?_
        refine C_seq ?_
        refine C_region ?_
        refine L_y rfl (y_indexA rfl rfl Try.underlying62 sz_4 (by omega) (by omega) (show _ = 0 from rfl)) rfl ?_
        refine L_y rfl (y_load rfl ag_4 (sees 2 0 rfl) rfl) rfl ?_
        refine L_y rfl (y_not rfl) rfl ?_
        refine L_y rfl (y_move rfl) rfl ?_
        refine L_y rfl (y_indexA rfl rfl Try.underlying62 sz_4 (by omega) (by omega) (show _ = 1 from rfl)) rfl ?_
        refine L_y rfl (y_load rfl ag_4 (sees 2 0 rfl) rfl) rfl ?_
        refine L_y rfl (y_not rfl) rfl ?_
        refine L_y rfl (y_pick_t rfl rfl) rfl ?_
        refine L_nil ?_
        refine C_cond_f rfl ?_
        refine C_skip ?_
        refine C_seq ?_
        refine C_seq ?_
        refine C_region ?_
        refine L_y rfl (y_move rfl) rfl ?_
        refine L_nil ?_
        refine C_block ?_
        refine C_loopIn (In_round ?_)
        refine C_seq ?_
        refine C_region ?_
        refine L_y rfl (y_lss rfl rfl) rfl ?_
        refine L_nil ?_
        refine C_seq ?_
        refine C_cond_t rfl ?_
        refine C_skip ?_
        refine C_seq ?_
        refine C_block ?_
        refine C_seq ?_
        refine C_region ?_
        refine L_y rfl (y_move rfl) rfl ?_
        refine L_y rfl (y_assign rfl) rfl ?_
        refine L_nil ?_
        refine C_seq ?_
        refine C_region ?_
        refine L_y rfl (y_move rfl) rfl ?_
        refine L_y rfl (y_indexA rfl rfl Try.underlying62 sz_4 (by omega) (by omega) (show _ = 0 from rfl)) rfl ?_
        refine L_y rfl (y_load rfl ag_4 (sees 2 0 rfl) rfl) rfl ?_
        refine L_nil ?_
        refine C_cond_f rfl ?_
        refine C_region ?_
        refine L_y rfl (y_move rfl) rfl ?_
        refine L_y rfl (y_move rfl) rfl ?_
        refine L_y rfl (y_nilCheck rfl) rfl ?_
        refine L_y rfl (y_fieldAddr rfl fl_110_0) rfl ?_
        refine L_y rfl (y_indexA rfl rfl Try.underlying108 sz_107 (by omega) (by omega) (show _ = 0 from rfl)) rfl ?_
        refine L_y rfl (y_fieldAddr rfl fl_107_1) rfl ?_
        refine L_y rfl (y_load rfl ag_105 (sees 0 0 rfl) rfl) rfl ?_
        refine L_y rfl (y_move rfl) rfl ?_
        refine L_op rfl (op_mapUpdate 0 1 rfl rfl rfl Try.underlying105 Try.underlying3 rfl rfl ?_)
        refine L_nil ?_
        refine C_region ?_
        refine L_y rfl (y_add rfl rfl (show _ = (1 : Int) from rfl)) rfl ?_
        refine L_y rfl (y_move rfl) rfl ?_
        refine L_nil ?_
        refine In_round ?_
        refine C_seq ?_
        refine C_region ?_
        refine L_y rfl (y_lss rfl rfl) rfl ?_
        refine L_nil ?_
        refine C_seq ?_
        refine C_cond_t rfl ?_
        refine C_skip ?_
        refine C_seq ?_
        refine C_block ?_
        refine C_seq ?_
        refine C_region ?_
        refine L_y rfl (y_move rfl) rfl ?_
        refine L_y rfl (y_assign rfl) rfl ?_
        refine L_nil ?_
        refine C_seq ?_
        refine C_region ?_
        refine L_y rfl (y_move rfl) rfl ?_
        refine L_y rfl (y_indexA rfl rfl Try.underlying62 sz_4 (by omega) (by omega) (show _ = 1 from rfl)) rfl ?_
        refine L_y rfl (y_load rfl ag_4 (sees 2 0 rfl) rfl) rfl ?_
        refine L_nil ?_
        refine C_cond_t rfl ?_
        refine C_region ?_
        refine L_y rfl (y_move rfl) rfl ?_
        refine L_y rfl (y_move rfl) rfl ?_
        refine L_y rfl (y_nilCheck rfl) rfl ?_
        refine L_y rfl (y_fieldAddr rfl fl_110_0) rfl ?_
        refine L_y rfl (y_indexA rfl rfl Try.underlying108 sz_107 (by omega) (by omega) (show _ = 2 from rfl)) rfl ?_
        refine L_y rfl (y_fieldAddr rfl fl_107_1) rfl ?_
        refine L_y rfl (y_load rfl ag_105 (sees 0 0 rfl) rfl) rfl ?_
        refine L_y rfl (y_move rfl) rfl ?_
        refine L_op rfl (op_delete 0 2 rfl rfl rfl Try.underlying105 Try.underlying3 rfl rfl ?_)
        refine L_nil ?_
        refine C_region ?_
        refine L_y rfl (y_add rfl rfl (show _ = (2 : Int) from rfl)) rfl ?_
        refine L_y rfl (y_move rfl) rfl ?_
        refine L_nil ?_
        refine In_round ?_
        refine C_seq ?_
        refine C_region ?_
        refine L_y rfl (y_lss rfl rfl) rfl ?_
        refine L_nil ?_
        refine C_seq ?_
        refine C_cond_f rfl ?_
        refine C_exit ?_
        refine C_seq ?_
        refine C_region ?_
        refine L_y rfl (y_assign rfl) rfl ?_
        refine L_nil ?_
        refine C_ret ?_
        refine B_ret (rv_tmp rfl rv_nil) ((hsub (.cons_cons _ (.cons_cons _ (.cons _ (.cons _ (.refl _)))))).trans (hsub_pick [0, 0] rfl)) ?_
        have e0 : putD A ask n s false = false := by simp_all [putD, pd]
        have e1 : putD A ask n s true = true := by simp_all [putD, pd, pA]
        have ea : putA A ask n s = A := by simp_all [putA, pA]
        have em : putm m A ask n s = m.mark n false true := by simp [putm, hn, e0, e1]
        exact ⟨ret_int (by simp [putE, hn, e0, e1]), D, h.to (by simp [putDa, hn, ea]), by rw [em]; rfl⟩
      · skip
        refine H_y 6 rfl (by kernel_rfl) (by kernel_rfl) (by kernel_rfl) (hsub (.cons _ (.cons _ (.cons _ (.cons _ (.refl _)))))) rfl (y_move rfl) rfl ?_
        refine H_y 7 rfl (by kernel_rfl) (by kernel_rfl) (by kernel_rfl) (hsub (.cons _ (.cons _ (.cons _ (.cons _ (.refl _)))))) rfl (y_nilCheck rfl) rfl ?_
        refine H_y 8 rfl (by kernel_rfl) (by kernel_rfl) (by kernel_rfl) (hsub (.cons _ (.cons _ (.cons _ (.cons _ (.refl _)))))) rfl (y_fieldAddr rfl fl_107_0) rfl ?_
        refine H_y 10 rfl (by kernel_rfl) (by kernel_rfl) (by kernel_rfl) (hsub (.cons _ (.cons _ (.cons _ (.cons _ (.refl _)))))) rfl (y_move rfl) rfl ?_
        refine H_two 9 11 rfl rfl (by kernel_rfl) rfl rfl ?_ ?_
        · refine op_y (y_load rfl ag_24 (sees 0 0 rfl) rfl) rfl ?_
          refine ⟨hsub (.cons _ (.cons _ (.cons _ (.cons _ (.refl _))))), ?_⟩
          refine H_one 11 rfl (by kernel_rfl) rfl (op_y (y_loadA rfl ag_32 sz_32 (sees 3 0 rfl) (by rw [bs_length, hs]; decide) (bs_whole0 _ hs)) rfl ?_)
          refine ⟨hsub (.cons _ (.cons _ (.cons _ (.cons _ (.refl _))))), ?_⟩
          refine H_one 12 rfl (by kernel_rfl) rfl (op_call rfl rfl (fun a w => Try.call62 a w) rfl ?_)
          refine ((write_d h true n s hs (by have := hQ true; omega)).sub (hsub_pick [1] rfl)).mono ?_
          rintro _ _ ⟨rfl, D13, h13, rfl⟩
          refine ⟨_, rfl, ?_⟩
          refine ⟨hsub (.cons _ (.cons _ (.cons _ (.cons _ (.refl _))))), ?_⟩
          refine H_y 13 rfl (by kernel_rfl) (by kernel_rfl) (by kernel_rfl) (hsub (.cons _ (.cons _ (.cons _ (.cons _ (.refl _)))))) rfl (y_eqi rfl rfl) rfl ?_
          refine H_case 42 rfl (fun hg9_14 => ?_) (fun hg9_14 => ?_)
          · skip
            refine H_y 14 rfl (by kernel_rfl) (by kernel_rfl) (by kernel_rfl) (hsub (.cons _ (.cons _ (.cons _ (.cons _ (.refl _)))))) rfl (y_pick_f rfl rfl) rfl ?_
            refine H_y 15 rfl (by kernel_rfl) (by kernel_rfl) (by kernel_rfl) (hsub (.cons _ (.cons _ (.cons _ (.cons _ (.refl _)))))) rfl (y_indexA rfl rfl Try.underlying62 sz_4 (by omega) (by omega) (show _ = 1 from rfl)) rfl ?_
            refine H_one 16 rfl (by kernel_rfl) rfl (op_store1 2 0 rfl rfl rfl sz_4 rfl (Nat.le_of_ble_eq_true rfl) ?_)
            refine ⟨hsub (.cons _ (.cons _ (.cons _ (.cons _ (.refl _))))), ?_⟩
            refine H_done (by kernel_rfl) ?_
            refine C_region ?_
            refine L_y rfl (y_add rfl rfl (show _ = (2 : Int) from rfl)) rfl ?_
            refine L_y rfl (y_move rfl) rfl ?_
            refine L_nil ?_
            refine In_round ?_
            refine C_seq ?_
            refine C_region ?_
            refine L_y rfl (y_lss rfl rfl) rfl ?_
            refine L_nil ?_
            refine C_seq ?_
            refine C_cond_f rfl ?_
            refine C_exit ?_
            refine C_seq ?_
            refine C_seq ?_
            refine C_region ?_
            refine L_y rfl (y_indexA rfl rfl Try.underlying62 sz_4 (by omega) (by omega) (show _ = 0 from rfl)) rfl ?_
            refine L_y rfl (y_load rfl ag_4 (sees 2 0 rfl) rfl) rfl ?_
            refine L_y rfl (y_not rfl) rfl ?_
            refine L_y rfl (y_move rfl) rfl ?_
            refine L_y rfl (y_indexA rfl rfl Try.underlying62 sz_4 (by omega) (by omega) (show _ = 1 from rfl)) rfl ?_
            refine L_y rfl (y_load rfl ag_4 (sees 2 0 rfl) rfl) rfl ?_
            refine L_y rfl (y_not rfl) rfl ?_
            refine L_y rfl (y_pick_t rfl rfl) rfl ?_
            refine L_nil ?_
            refine C_cond_f rfl ?_
            refine C_skip ?_
            refine C_seq ?_
            refine C_seq ?_
            refine C_region ?_
            refine L_y rfl (y_move rfl) rfl ?_
            refine L_nil ?_
            refine C_block ?_
            refine C_loopIn (In_round ?_)
            refine C_seq ?_
            refine C_region ?_
            refine L_y rfl (y_lss rfl rfl) rfl ?_
            refine L_nil ?_
            refine C_seq ?_
            refine C_cond_t rfl ?_
            refine C_skip ?_
            refine C_seq ?_
            refine C_block ?_
            refine C_seq ?_
            refine C_region ?_
            refine L_y rfl (y_move rfl) rfl ?_
            refine L_y rfl (y_assign rfl) rfl ?_
            refine L_nil ?_
            refine C_seq ?_
            refine C_region ?_
            refine L_y rfl (y_move rfl) rfl ?_
            refine L_y rfl (y_indexA rfl rfl Try.underlying62 sz_4 (by omega) (by omega) (show _ = 0 from rfl)) rfl ?_
            refine L_y rfl (y_load rfl ag_4 (sees 2 0 rfl) rfl) rfl ?_
            refine L_nil ?_
            refine C_cond_f rfl ?_
            refine C_region ?_
            refine L_y rfl (y_move rfl) rfl ?_
            refine L_y rfl (y_move rfl) rfl ?_
            refine L_y rfl (y_nilCheck rfl) rfl ?_
            refine L_y rfl (y_fieldAddr rfl fl_110_0) rfl ?_
            refine L_y rfl (y_indexA rfl rfl Try.underlying108 sz_107 (by omega) (by omega) (show _ = 0 from rfl)) rfl ?_
            refine L_y rfl (y_fieldAddr rfl fl_107_1) rfl ?_
            refine L_y rfl (y_load rfl ag_105 (sees 1 0 rfl) rfl) rfl ?_
            refine L_y rfl (y_move rfl) rfl ?_
            refine L_op rfl (op_mapUpdate 1 1 rfl rfl rfl Try.underlying105 Try.underlying3 rfl rfl ?_)
            refine L_nil ?_
            refine C_region ?_
            refine L_y rfl (y_add rfl rfl (show _ = (1 : Int) from rfl)) rfl ?_
            refine L_y rfl (y_move rfl) rfl ?_
            refine L_nil ?_
            refine In_round ?_
            refine C_seq ?_
            refine C_region ?_
            refine L_y rfl (y_lss rfl rfl) rfl ?_
            refine L_nil ?_
            refine C_seq ?_
            refine C_cond_t rfl ?_
            refine C_skip ?_
            refine C_seq ?_
            refine C_block ?_
            refine C_seq ?_
            refine C_region ?_
            refine L_y rfl (y_move rfl) rfl ?_
            refine L_y rfl (y_assign rfl) rfl ?_
            refine L_nil ?_
            refine C_seq ?_
            refine C_region ?_
            refine L_y rfl (y_move rfl) rfl ?_
            refine L_y rfl (y_indexA rfl rfl Try.underlying62 sz_4 (by omega) (by omega) (show _ = 1 from rfl)) rfl ?_
            refine L_y rfl (y_load rfl ag_4 (sees 2 0 rfl) rfl) rfl ?_
            refine L_nil ?_
            refine C_cond_t rfl ?_
            refine C_region ?_
            refine L_y rfl (y_move rfl) rfl ?_
            refine L_y rfl (y_move rfl) rfl ?_
            refine L_y rfl (y_nilCheck rfl) rfl ?_
            refine L_y rfl (y_fieldAddr rfl fl_110_0) rfl ?_
            refine L_y rfl (y_indexA rfl rfl Try.underlying108 sz_107 (by omega) (by omega) (show _ = 2 from rfl)) rfl ?_
            refine L_y rfl (y_fieldAddr rfl fl_107_1) rfl ?_
            refine L_y rfl (y_load rfl ag_105 (sees 1 0 rfl) rfl) rfl ?_
            refine L_y rfl (y_move rfl) rfl ?_
            refine L_op rfl (op_delete 1 2 rfl rfl rfl Try.underlying105 Try.underlying3 rfl rfl ?_)
            refine L_nil ?_
            refine C_region ?_
            refine L_y rfl (y_add rfl rfl (show _ = (2 : Int) from rfl)) rfl ?_
            refine L_y rfl (y_move rfl) rfl ?_
            refine L_nil ?_
            refine In_round ?_
            refine C_seq ?_
            refine C_region ?_
            refine L_y rfl (y_lss rfl rfl) rfl ?_
            refine L_nil ?_
            refine C_seq ?_
            refine C_cond_f rfl ?_
            refine C_exit ?_
            refine C_seq ?_
            refine C_region ?_
            refine L_y rfl (y_assign rfl) rfl ?_
            refine L_nil ?_
            refine C_ret ?_
            refine B_ret (rv_tmp rfl rv_nil) ((hsub (.cons_cons _ (.cons_cons _ (.cons _ (.cons _ (.refl _)))))).trans (hsub_pick [1, 0] rfl)) ?_
            have e0 : putD A ask n s false = false := by simp_all [putD, pd]
            have e1 : putD A ask n s true = true := by simp_all [putD, pd, pA]
            have ea : putA A ask n s = (A.write true n s) := by simp_all [putA, pA]
            have em : putm m A ask n s = m.mark n false true := by simp [putm, hn, e0, e1]
            exact ⟨ret_int (by simp [putE, hn, e0, e1]), D13, h13.to (by simp [putDa, hn, ea]), by rw [em]; rfl⟩
          · skip
            refine H_y 14 rfl (by kernel_rfl) (by kernel_rfl) (by kernel_rfl) (hsub (.cons _ (.cons _ (.cons _ (.cons _ (.refl _)))))) rfl (y_pick_f rfl rfl) rfl ?_
            refine H_y 15 rfl (by kernel_rfl) (by kernel_rfl) (by kernel_rfl) (hsub (.cons _ (.cons _ (.cons _ (.cons _ (.refl _)))))) rfl (y_indexA rfl rfl Try.underlying62 sz_4 (by omega) (by omega) (show _ = 1 from rfl)) rfl ?_
            refine H_one 16 rfl (by kernel_rfl) rfl (op_store1 2 0 rfl rfl rfl sz_4 rfl (Nat.le_of_ble_eq_true rfl) ?_)
            refine ⟨hsub (.cons _ (.cons _ (.cons _ (.cons _ (.refl _))))), ?_⟩
            refine H_done (by kernel_rfl) ?_
            refine C_region ?_
            refine L_y rfl (y_add rfl rfl (show _ = (2 : Int) from rfl)) rfl ?_
            refine L_y rfl (y_move rfl) rfl ?_
            refine L_nil ?_
            refine In_round ?_
            refine C_seq ?_
            refine C_region ?_
            refine L_y rfl (y_lss rfl rfl) rfl ?_
            refine L_nil ?_
            refine C_seq ?_
            refine C_cond_f rfl ?_
            refine C_exit ?_
            refine C_seq ?_
            refine C_seq ?_
            refine C_region ?_
            refine L_y rfl (y_indexA rfl rfl Try.underlying62 sz_4 (by omega) (by omega) (show _ = 0 from rfl)) rfl ?_
            refine L_y rfl (y_load rfl ag_4 (sees 2 0 rfl) rfl) rfl ?_
            refine L_y rfl (y_not rfl) rfl ?_
            refine L_y rfl (y_move rfl) rfl ?_
            refine L_y rfl (y_indexA rfl rfl Try.underlying62 sz_4 (by omega) (by omega) (show _ = 1 from rfl)) rfl ?_
            refine L_y rfl (y_load rfl ag_4 (sees 2 0 rfl) rfl) rfl ?_
            refine L_y rfl (y_not rfl) rfl ?_
            refine L_y rfl (y_pick_t rfl rfl) rfl ?_
            refine L_nil ?_
            refine C_cond_t rfl ?_
            refine C_seq ?_
            refine C_region ?_
            refine L_y rfl (y_assign rfl) rfl ?_
            refine L_nil ?_
            refine C_ret ?_
            refine B_ret (rv_tmp rfl rv_nil) ((hsub (.cons_cons _ (.cons_cons _ (.cons _ (.cons _ (.refl _)))))).trans (hsub_pick [1, 0] rfl)) ?_
            have e0 : putD A ask n s false = false := by simp_all [putD, pd]
            have e1 : putD A ask n s true = false := by simp_all [putD, pd, pA]
            have ea : putA A ask n s = (A.write true n s) := by simp_all [putA, pA]
            have em : putm m A ask n s = m := by simp [putm, hn, e0, e1]
            exact ⟨ret_int (by simp [putE, hn, e0, e1]), D13, h13.to (by simp [putDa, hn, ea]), by rw [em]; rfl⟩
        · refine op_y (y_loadA rfl ag_32 sz_32 (sees 3 0 rfl) (by rw [bs_length, hs]; decide) (bs_whole0 _ hs)) rfl ?_
          refine ⟨hsub (.cons _ (.cons _ (.cons _ (.cons _ (.refl _))))), ?_⟩
          refine H_one 9 rfl (by kernel_rfl) rfl (op_y (y_load rfl ag_24 (sees 0 0 rfl) rfl) rfl ?_)
          refine ⟨hsub (.cons _ (.cons _ (.cons _ (.cons _ (.refl _))))), ?_⟩
          refine H_one 12 rfl (by kernel_rfl) rfl (op_call rfl rfl (fun a w => Try.call62 a w) rfl ?_)
          refine ((write_d h true n s hs (by have := hQ true; omega)).sub (hsub_pick [1] rfl)).mono ?_
          rintro _ _ ⟨rfl, D14, h14, rfl⟩
          refine ⟨_, rfl, ?_⟩
          refine ⟨hsub (.cons _ (.cons _ (.cons _ (.cons _ (.refl _))))), ?_⟩
          refine H_y 13 rfl (by kernel_rfl) (by kernel_rfl) (by kernel_rfl) (hsub (.cons _ (.cons _ (.cons _ (.cons _ (.refl _)))))) rfl (y_eqi rfl rfl) rfl ?_
          refine H_case 42 rfl (fun hg9_14 => ?_) (fun hg9_14 => ?_)
          · skip
            refine H_y 14 rfl (by kernel_rfl) (by kernel_rfl) (by kernel_rfl) (hsub (.cons _ (.cons _ (.cons _ (.cons _ (.refl _)))))) rfl (y_pick_f rfl rfl) rfl ?_
            refine H_y 15 rfl (by kernel_rfl) (by kernel_rfl) (by kernel_rfl) (hsub (.cons _ (.cons _ (.cons _ (.cons _ (.refl _)))))) rfl (y_indexA rfl rfl Try.underlying62 sz_4 (by omega) (by omega) (show _ = 1 from rfl)) rfl ?_
            refine H_one 16 rfl (by kernel_rfl) rfl (op_store1 2 0 rfl rfl rfl sz_4 rfl (Nat.le_of_ble_eq_true rfl) ?_)
            refine ⟨hsub (.cons _ (.cons _ (.cons _ (.cons _ (.refl _))))), ?_⟩
            refine H_done (by kernel_rfl) ?_
            refine C_region ?_
            refine L_y rfl (y_add rfl rfl (show _ = (2 : Int) from rfl)) rfl ?_
            refine L_y rfl (y_move rfl) rfl ?_
            refine L_nil ?_
            refine In_round ?_
            refine C_seq ?_
            refine C_region ?_
            refine L_y rfl (y_lss rfl rfl) rfl ?_
            refine L_nil ?_
            refine C_seq ?_
            refine C_cond_f rfl ?_
            refine C_exit ?_
            refine C_seq ?_
            refine C_seq ?_
            refine C_region ?_
            refine L_y rfl (y_indexA rfl rfl Try.underlying62 sz_4 (by omega) (by omega) (show _ = 0 from rfl)) rfl ?_
            refine L_y rfl (y_load rfl ag_4 (sees 2 0 rfl) rfl) rfl ?_
            refine L_y rfl (y_not rfl) rfl ?_
            refine L_y rfl (y_move rfl) rfl ?_
            refine L_y rfl (y_indexA rfl rfl Try.underlying62 sz_4 (by omega) (by omega) (show _ = 1 from rfl)) rfl ?_
            refine L_y rfl (y_load rfl ag_4 (sees 2 0 rfl) rfl) rfl ?_
            refine L_y rfl (y_not rfl) rfl ?_
            refine L_y rfl (y_pick_t rfl rfl) rfl ?_
            refine L_nil ?_
            refine C_cond_f rfl ?_
            refine C_skip ?_
            refine C_seq ?_
            refine C_seq ?_
            refine C_region ?_
            refine L_y rfl (y_move rfl) rfl ?_
            refine L_nil ?_
            refine C_block ?_
            refine C_loopIn (In_round ?_)
            refine C_seq ?_
            refine C_region ?_
            refine L_y rfl (y_lss rfl rfl) rfl ?_
            refine L_nil ?_
            refine C_seq ?_
            refine C_cond_t rfl ?_
            refine C_skip ?_
            refine C_seq ?_
            refine C_block ?_
            refine C_seq ?_
            refine C_region ?_
            refine L_y rfl (y_move rfl) rfl ?_
            refine L_y rfl (y_assign rfl) rfl ?_
            refine L_nil ?_
            refine C_seq ?_
            refine C_region ?_
            refine L_y rfl (y_move rfl) rfl ?_
            refine L_y rfl (y_indexA rfl rfl Try.underlying62 sz_4 (by omega) (by omega) (show _ = 0 from rfl)) rfl ?_
            refine L_y rfl (y_load rfl ag_4 (sees 2 0 rfl) rfl) rfl ?_
            refine L_nil ?_
            refine C_cond_f rfl ?_
            refine C_region ?_
            refine L_y rfl (y_move rfl) rfl ?_
            refine L_y rfl (y_move rfl) rfl ?_
            refine L_y rfl (y_nilCheck rfl) rfl ?_
            refine L_y rfl (y_fieldAddr rfl fl_110_0) rfl ?_
            refine L_y rfl (y_indexA rfl rfl Try.underlying108 sz_107 (by omega) (by omega) (show _ = 0 from rfl)) rfl ?_
            refine L_y rfl (y_fieldAddr rfl fl_107_1) rfl ?_
            refine L_y rfl (y_load rfl ag_105 (sees 1 0 rfl) rfl) rfl ?_
            refine L_y rfl (y_move rfl) rfl ?_
            refine L_op rfl (op_mapUpdate 1 1 rfl rfl rfl Try.underlying105 Try.underlying3 rfl rfl ?_)
            refine L_nil ?_
            refine C_region ?_
            refine L_y rfl (y_add rfl rfl (show _ = (1 : Int) from rfl)) rfl ?_
            refine L_y rfl (y_move rfl) rfl ?_
            refine L_nil ?_
            refine In_round ?_
            refine C_seq ?_
            refine C_region ?_
            refine L_y rfl (y_lss rfl rfl) rfl ?_
            refine L_nil ?_
            refine C_seq ?_
            refine C_cond_t rfl ?_
            refine C_skip ?_
            refine C_seq ?_
            refine C_block ?_
            refine C_seq ?_
            refine C_region ?_
            refine L_y rfl (y_move rfl) rfl ?_
            refine L_y rfl (y_assign rfl) rfl ?_
            refine L_nil ?_
            refine C_seq ?_
            refine C_region ?_
            refine L_y rfl (y_move rfl) rfl ?_
            refine L_y rfl (y_indexA rfl rfl Try.underlying62 sz_4 (by omega) (by omega) (show _ = 1 from rfl)) rfl ?_
            refine L_y rfl (y_load rfl ag_4 (sees 2 0 rfl) rfl) rfl ?_
            refine L_nil ?_
            refine C_cond_t rfl ?_
            refine C_region ?_
            refine L_y rfl (y_move rfl) rfl ?_
            refine L_y rfl (y_move rfl) rfl ?_
            refine L_y rfl (y_nilCheck rfl) rfl ?_
            refine L_y rfl (y_fieldAddr rfl fl_110_0) rfl ?_
            refine L_y rfl (y_indexA rfl rfl Try.underlying108 sz_107 (by omega) (by omega) (show _ = 2 from rfl)) rfl ?_
            refine L_y rfl (y_fieldAddr rfl fl_107_1) rfl ?_
            refine L_y rfl (y_load rfl ag_105 (sees 1 0 rfl) rfl) rfl ?_
            refine L_y rfl (y_move rfl) rfl ?_
            refine L_op rfl (op_delete 1 2 rfl rfl rfl Try.underlying105 Try.underlying3 rfl rfl ?_)
            refine L_nil ?_
            refine C_region ?_
            refine L_y rfl (y_add rfl rfl (show _ = (2 : Int) from rfl)) rfl ?_
            refine L_y rfl (y_move rfl) rfl ?_
            refine L_nil ?_
            refine In_round ?_
            refine C_seq ?_
            refine C_region ?_
            refine L_y rfl (y_lss rfl rfl) rfl ?_
            refine L_nil ?_
            refine C_seq ?_
            refine C_cond_f rfl ?_
            refine C_exit ?_
            refine C_seq ?_
            refine C_region ?_
            refine L_y rfl (y_assign rfl) rfl ?_
            refine L_nil ?_
            refine C_ret ?_
            refine B_ret (rv_tmp rfl rv_nil) ((hsub (.cons_cons _ (.cons_cons _ (.cons _ (.cons _ (.refl _)))))).trans (hsub_pick [1, 0] rfl)) ?_
            have e0 : putD A ask n s false = false := by simp_all [putD, pd]
            have e1 : putD A ask n s true = true := by simp_all [putD, pd, pA]
            have ea : putA A ask n s = (A.write true n s) := by simp_all [putA, pA]
            have em : putm m A ask n s = m.mark n false true := by simp [putm, hn, e0, e1]
            exact ⟨ret_int (by simp [putE, hn, e0, e1]), D14, h14.to (by simp [putDa, hn, ea]), by rw [em]; rfl⟩
          · skip
            refine H_y 14 rfl (by kernel_rfl) (by kernel_rfl) (by kernel_rfl) (hsub (.cons _ (.cons _ (.cons _ (.cons _ (.refl _)))))) rfl (y_pick_f rfl rfl) rfl ?_
            refine H_y 15 rfl (by kernel_rfl) (by kernel_rfl) (by kernel_rfl) (hsub (.cons _ (.cons _ (.cons _ (.cons _ (.refl _)))))) rfl (y_indexA rfl rfl Try.underlying62 sz_4 (by omega) (by omega) (show _ = 1 from rfl)) rfl ?_
            refine H_one 16 rfl (by kernel_rfl) rfl (op_store1 2 0 rfl rfl rfl sz_4 rfl (Nat.le_of_ble_eq_true rfl) ?_)
            refine ⟨hsub (.cons _ (.cons _ (.cons _ (.cons _ (.refl _))))), ?_⟩
            refine H_done (by kernel_rfl) ?_
            refine C_region ?_
            refine L_y rfl (y_add rfl rfl (show _ = (2 : Int) from rfl)) rfl ?_
            refine L_y rfl (y_move rfl) rfl ?_
            refine L_nil ?_
            refine In_round ?_
            refine C_seq ?_
            refine C_region ?_
            refine L_y rfl (y_lss rfl rfl) rfl ?_
            refine L_nil ?_
            refine C_seq ?_
            refine C_cond_f rfl ?_
            refine C_exit ?_
            refine C_seq ?_
            refine C_seq ?_
            refine C_region ?_
            refine L_y rfl (y_indexA rfl rfl Try.underlying62 sz_4 (by omega) (by omega) (show _ = 0 from rfl)) rfl ?_
            refine L_y rfl (y_load rfl ag_4 (sees 2 0 rfl) rfl) rfl ?_
            refine L_y rfl (y_not rfl) rfl ?_
            refine L_y rfl (y_move rfl) rfl ?_
            refine L_y rfl (y_indexA rfl rfl Try.underlying62 sz_4 (by omega) (by omega) (show _ = 1 from rfl)) rfl ?_
            refine L_y rfl (y_load rfl ag_4 (sees 2 0 rfl) rfl) rfl ?_
            refine L_y rfl (y_not rfl) rfl ?_
            refine L_y rfl (y_pick_t rfl rfl) rfl ?_
            refine L_nil ?_
            refine C_cond_t rfl ?_
            refine C_seq ?_
            refine C_region ?_
            refine L_y rfl (y_assign rfl) rfl ?_
            refine L_nil ?_
            refine C_ret ?_
            refine B_ret (rv_tmp rfl rv_nil) ((hsub (.cons_cons _ (.cons_cons _ (.cons _ (.cons _ (.refl _)))))).trans (hsub_pick [1, 0] rfl)) ?_
            have e0 : putD A ask n s false = false := by simp_all [putD, pd]
            have e1 : putD A ask n s true = false := by simp_all [putD, pd, pA]
            have ea : putA A ask n s = (A.write true n s) := by simp_all [putA, pA]
            have em : putm m A ask n s = m := by simp [putm, hn, e0, e1]
            exact ⟨ret_int (by simp [putE, hn, e0, e1]), D14, h14.to (by simp [putDa, hn, ea]), by rw [em]; rfl⟩
    · skip
      refine C_skip ?_
      refine C_region ?_
      refine L_y rfl (y_add rfl rfl (show _ = (2 : Int) from rfl)) rfl ?_
      refine L_y rfl (y_move rfl) rfl ?_
      refine L_nil ?_
      refine In_round ?_
      refine C_seq ?_
      refine C_region ?_
      refine L_y rfl (y_lss rfl rfl) rfl ?_
      refine L_nil ?_
      refine C_seq ?_
      refine C_cond_f rfl ?_
      refine C_exit ?_
      refine C_seq ?_
      refine C_seq ?_
      refine C_region ?_
      refine L_y rfl (y_indexA rfl rfl Try.underlying62 sz_4 (by omega) (by omega) (show _ = 0 from rfl)) rfl ?_
      refine L_y rfl (y_load rfl ag_4 (sees 1 0 rfl) rfl) rfl ?_
      refine L_y rfl (y_not rfl) rfl ?_
      refine L_y rfl (y_move rfl) rfl ?_
      refine L_y rfl (y_indexA rfl rfl Try.underlying62 sz_4 (by omega) (by omega) (show _ = 1 from rfl)) rfl ?_
      refine L_y rfl (y_load rfl ag_4 (sees 1 0 rfl) rfl) rfl ?_
      refine L_y rfl (y_not rfl) rfl ?_
      refine L_y rfl (y_pick_t rfl rfl) rfl ?_
      refine L_nil ?_
      refine C_cond_t rfl ?_
      refine C_seq ?_
      refine C_region ?_
      refine L_y rfl (y_assign rfl) rfl ?_
      refine L_nil ?_
      refine C_ret ?_
      refine B_ret (rv_tmp rfl rv_nil) ((hsub (.cons_cons _ (.cons_cons _ (.cons _ (.cons _ (.refl _)))))).trans (hsub_pick [3, 0] rfl)) ?_
      have e0 : putD A ask n s false = false := by simp_all [putD, pd]
      have e1 : putD A ask n s true = false := by simp_all [putD, pd, pA]
      have ea : putA A ask n s = A := by simp_all [putA, pA]
      have em : putm m A ask n s = m := by simp [putm, hn, e0, e1]
      exact ⟨ret_int (by simp [putE, hn, e0, e1]), D, h.to (by simp [putDa, hn, ea]), by rw [em]; rfl⟩

theorem put_m {w0 : World} {H : Hp} {D : Duo} {A : Da} {bp : Nat} {m : Mi} (h : Two dt D A m.bx m.bys bp) (n : Int) (s : Sec) (hs : s.length = 128) {fa : Nat} {cap : List Value} {ask : Da → Bool → Bool} (hask : AskAt Try.prog dt 110 w0 H m bp fa cap ask) (hQ : ∀ i, (A.dev i).Q.length < 99990) : FnS Try.prog w0 54 #[ptr m.b, .int .i64 n, .agg (bs s).toArray, .func (.func fa) #[] cap.toArray] (m.seg 110 :: D.seg dt :: H) (fun e H' => e = .returned (.int .i64 (putE m A ask n s)) ∧ ∃ D', Two dt D' (putDa m A ask n s) m.bx m.bys bp ∧ H' = (putm m A ask n s).seg 110 :: D'.seg dt :: H) := by
  cases hn : m.has n
  · exact put_no h n s hs hask hQ hn
  · exact put_yes h n s hs hask hQ hn

end Go.Proofs.Ytjjiclgbdenkkaa

