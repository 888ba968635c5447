/- Scrubbing: what the laws say of it (own work). -/
import Derived.Test.YtoaalclbplgegaaSb
set_option linter.unusedVariables false
set_option linter.unusedSimpArgs false
namespace Go.Sl
section
variable {p : Int → Sec → Bool} {n : Nat} {a b s t : Sec}
theorem hC_two : hC p n a b = (if p n a || p n b then (if p n a && p n b && decide (a = b) then 0 else 1) else 2) := by
  unfold hC
  cases ha : p n a <;> cases hb : p n b <;> simp
theorem hX_good : p n (hX p n a b) = (p n a || p n b) := by
  unfold hX
  cases ha : p n a <;> cases hb : p n b <;> simp [ha, hb]
theorem hY_good : p n (hY p n a b) = (p n a || p n b) := by
  unfold hY
  cases ha : p n a <;> cases hb : p n b <;> simp [ha, hb]
def rdv (p : Int → Sec → Bool) (n : Int) (s t : Sec) : Sec := if p n s then s else if p n t then t else secOf 0
def rde (p : Int → Sec → Bool) (n : Int) (s t : Sec) : Int := if p n s || p n t then 0 else 9
theorem rdv_len {n : Int} (hs : s.length = 128) (ht : t.length = 128) : (rdv p n s t).length = 128 := by
  unfold rdv
  split
  · exact hs
  · split
    · exact ht
    · rfl
theorem rdv_after : rdv p n (hX p n a b) (hY p n a b) = rdv p n a b := by
  unfold rdv
  rw [hX_good (p := p), hY_good (p := p)]
  unfold hX hY
  cases ha : p n a <;> cases hb : p n b <;> simp [ha, hb]
theorem rde_after : rde p n (hX p n a b) (hY p n a b) = rde p n a b := by
  unfold rde
  rw [hX_good (p := p), hY_good (p := p), Bool.or_self]
theorem rde_turn {n : Int} : rde p n a b = rde p n b a := by unfold rde; rw [Bool.or_comm]
theorem rdv_turn {n : Int} : rdv p n a b = rdv p n b a ∨ (p n a = true ∧ p n b = true ∧ a ≠ b) := by
  unfold rdv
  cases ha : p n a <;> cases hb : p n b <;> simp [ha, hb]
  by_cases h : a = b
  · exact .inl h
  · exact .inr h
/-- What both tell. -/
def gl (p : Int → Sec → Bool) (n : Int) (s t : Sec) : List Sec := (if p n s then [s] else []) ++ (if p n t then [t] else [])
theorem gl_none : (decide (((gl p n (hX p n a b) (hY p n a b)).length : Int) = 0)) = decide (hC p n a b = 2) := by
  rw [gl, hX_good (p := p), hY_good (p := p), hC_two]
  cases ha : p n a <;> cases hb : p n b <;> simp
  split <;> simp
end
theorem lost_at {p : Int → Sec → Bool} {X Y : List Sec} {k : Nat} {s t : Sec} (hs : X[k]? = some s) (ht : Y[k]? = some t) :
    (rK p X Y (k + 1)).2.2 = (rK p X Y k).2.2 + (if decide (((gl p k (hX p k (hX p k s t) (hY p k s t)) (hY p k (hX p k s t) (hY p k s t))).length : Int) = 0) = true then 1 else 0) := by
  have e : rK p X Y (k + 1) = cnt (rK p X Y k) (hC p k (gt X k) (gt Y k), 0) := rfl
  have g1 : gt X k = s := by simp [gt, List.getD, hs]
  have g2 : gt Y k = t := by simp [gt, List.getD, ht]
  rw [e, gl_none, hC_again, g1, g2]
  obtain ⟨j, hj, hc⟩ := hC_nat p k s t
  rw [hc]
  match j, hj with
  | 0, _ => simp [cnt]
  | 1, _ => simp [cnt]
  | 2, _ => simp [cnt]
section
variable {t : DT} {gv : Value} {D : Duo} {A : Da} {m : Mi} {K : Nat} {X Y : List Sec} {k0 k1 mb bx bys bp : Nat} {p : Int → Sec → Bool} {n : Nat} {u v : Sec}
theorem Ms.has (h : Ms t gv D A m K X Y k0 k1 mb bx bys bp) (hn : n < K) : m.has (n : Int) = true := by
  have := h.n
  simp [Mi.has]; omega
theorem Ms.rd (h : Ms t gv D A m K X Y k0 k1 mb bx bys bp) (hu : X[n]? = some u) (hv : Y[n]? = some v) : mrS m A p n = rdv p n u v ∧ mrE m A p n = rde p n u v := by
  have hn : n < K := by have := (List.getElem?_eq_some_iff.1 hu).1; have := h.vw.a.wlen; omega
  obtain ⟨r0, e0⟩ := h.vw.reads false (s := u) hu
  obtain ⟨r1, e1⟩ := h.vw.reads true (s := v) hv
  have z0 : kHas m.k0 (n : Int) = false := by rw [h.s0]; rfl
  have z1 : kHas m.k1 (n : Int) = false := by rw [h.s1]; rfl
  have o0 : okAt A false m.k0 p n = p n u := by simp [okAt, e0, z0, r0]
  have o1 : okAt A true m.k1 p n = p n v := by simp [okAt, e1, z1, r1]
  unfold mrS mrE rdv rde
  rw [h.has hn, h.vw.thr false, h.vw.thr true, o0, o1, r0, r1]
  cases p n u <;> cases p n v <;> simp
theorem Ms.both (h : Ms t gv D A m K X Y k0 k1 mb bx bys bp) (hu : X[n]? = some u) (hv : Y[n]? = some v) : bothS m A p n = gl p n u v := by
  have hn : n < K := by have := (List.getElem?_eq_some_iff.1 hu).1; have := h.vw.a.wlen; omega
  obtain ⟨r0, e0⟩ := h.vw.reads false (s := u) hu
  obtain ⟨r1, e1⟩ := h.vw.reads true (s := v) hv
  unfold bothS gl
  rw [h.has hn, h.vw.thr false, h.vw.thr true, e0, e1, r0, r1]
  simp
theorem outs_many (A : Da) (i j : Bool) : ((A.setd i ((A.dev i).outs true)).dev j).Q.length ≤ (A.dev j).Q.length := by
  cases i <;> cases j <;> simp [Da.setd, Da.dev, Ab.outs]
theorem Ms.scrdown (h : Ms t gv D A m K X Y k0 k1 mb bx bys bp) (i : Bool) {k : Nat} (hk : k ≤ K) : Sl.scr m (A.setd i ((A.dev i).outs true)) p k = (A.setd i ((A.dev i).outs true), m, (0, 0, 0)) :=
  scr_down (m := m) (out_thr A i) k (by have := h.n; omega)
/-- With a device out, its fellow is read. -/
theorem Ms.rd1 (h : Ms t gv D A m K X Y k0 k1 mb bx bys bp) (i : Bool) (hu : (pick2 (!i) X Y)[n]? = some u) :
    mrS m (A.setd i ((A.dev i).outs true)) p n = (if p n u then u else secOf 0) ∧ mrE m (A.setd i ((A.dev i).outs true)) p n = (if p n u then 0 else 9) := by
  have hn : n < K := by have := (List.getElem?_eq_some_iff.1 hu).1; have := (h.vw.dev (!i)).wlen; omega
  obtain ⟨r0, e0⟩ := h.vw.reads (!i) hu
  have tt := h.vw.thr (!i)
  have z0 : kHas m.k0 (n : Int) = false := by rw [h.s0]; rfl
  have z1 : kHas m.k1 (n : Int) = false := by rw [h.s1]; rfl
  have ro : ∀ i, (A.setd i ((A.dev i).outs true)).rS (!i) n = A.rS (!i) n := fun i => by cases i <;> rfl
  have eo : ∀ i, (A.setd i ((A.dev i).outs true)).rE (!i) n = A.rE (!i) n := fun i => by cases i <;> rfl
  have tn : ∀ i, thr (A.setd i ((A.dev i).outs true)) (!i) = thr A (!i) := fun i => by cases i <;> rfl
  have to : thr (A.setd i ((A.dev i).outs true)) i = false := by cases i <;> simp [thr, Da.setd, Da.dev, Ab.outs, Ab.down]
  have r := ro i
  have e := eo i
  have q := tn i
  rw [tt] at q
  rw [r0] at r
  rw [e0] at e
  unfold mrS mrE
  rw [h.has hn]
  cases i
  · simp only [Bool.not_false] at r e q
    have o1 : okAt (A.setd false ((A.dev false).outs true)) true m.k1 p n = p n u := by simp [okAt, e, z1, r]
    rw [to, q, o1, r]
    cases p n u <;> simp
  · simp only [Bool.not_true] at r e q
    have o1 : okAt (A.setd true ((A.dev true).outs true)) false m.k0 p n = p n u := by simp [okAt, e, z0, r]
    rw [to, q, o1, r]
    cases p n u <;> simp
theorem rd_out (i : Bool) {a b : Sec} : (if p n (if i then hX p n a b else hY p n a b) then (if i then hX p n a b else hY p n a b) else secOf 0) = rdv p n a b ∧ (if p n (if i then hX p n a b else hY p n a b) then (0 : Int) else 9) = rde p n a b := by
  unfold rdv rde
  cases i
  · simp only [Bool.false_eq_true, if_false, hY_good]
    unfold hY
    cases ha : p n a <;> cases hb : p n b <;> simp [ha, hb]
  · simp only [if_true, hX_good]
    unfold hX
    cases ha : p n a <;> cases hb : p n b <;> simp [ha, hb]
end
end Go.Sl
namespace Go.Sl
/-- What is read, place by place. -/
def rvs (p : Int → Sec → Bool) (X Y : List Sec) (k : Nat) : List Sec := (List.range k).map fun (j : Nat) => rdv p (j : Int) (gt X j) (gt Y j)
def res (p : Int → Sec → Bool) (X Y : List Sec) (k : Nat) : List Int := (List.range k).map fun (j : Nat) => rde p (j : Int) (gt X j) (gt Y j)
section
variable {p : Int → Sec → Bool} {X Y : List Sec} {k n : Nat} {s t : Sec}
theorem gt_is (hs : X[k]? = some s) : gt X k = s := by simp [gt, List.getD, hs]
theorem rvs_succ (hs : X[k]? = some s) (ht : Y[k]? = some t) : (rvs p X Y k).flatten ++ rdv p k s t = (rvs p X Y (k + 1)).flatten := by
  simp [rvs, List.range_succ, gt_is hs, gt_is ht]
theorem res_succ (hs : X[k]? = some s) (ht : Y[k]? = some t) : intl (res p X Y k) ++ [Value.int .i64 (rde p k s t)] = intl (res p X Y (k + 1)) := by
  simp [res, intl, List.range_succ, gt_is hs, gt_is ht]
theorem rvs_len : (rvs p X Y k).length = k := by simp [rvs]
theorem res_len : (intl (res p X Y k)).length = k := by simp [res, intl]
theorem rvs_ok {K : Nat} (hX : ∀ s ∈ X, s.length = 128) (hY : ∀ s ∈ Y, s.length = 128) (lX : X.length = K) (lY : Y.length = K) (hk : k ≤ K) : ∀ s ∈ rvs p X Y k, s.length = 128 := fun s hs => by
  obtain ⟨j, hj, rfl⟩ := List.mem_map.1 hs
  have hj := List.mem_range.1 hj
  exact rdv_len (hX _ (List.mem_of_getElem? (gt_get lX (by omega)))) (hY _ (List.mem_of_getElem? (gt_get lY (by omega))))
theorem rvs_at (hn : n < k) (hs : X[n]? = some s) (ht : Y[n]? = some t) : (rvs p X Y k)[n]? = some (rdv p n s t) := by
  simp [rvs, hn, gt_is hs, gt_is ht]
theorem res_at (hn : n < k) (hs : X[n]? = some s) (ht : Y[n]? = some t) : (intl (res p X Y k))[n]? = some (Value.int .i64 (rde p n s t)) := by
  simp [res, intl, hn, gt_is hs, gt_is ht]
theorem int_at {l sp : List Value} {v : Value} (h : l[n]? = some v) : (l ++ sp)[0 + n * 1]? = some v := by
  rw [Nat.zero_add, Nat.mul_one, List.getElem?_append_left (List.getElem?_eq_some_iff.1 h).1]
  exact h
end
end Go.Sl
