/- Plain laws of two devices of one power (own work). -/
import Derived.Test.YtjiojffakejgjaaDu
set_option linter.unusedVariables false
set_option linter.unusedSimpArgs false
namespace Go.Sl
theorem Two.to {t : DT} {D : Duo} {A B : Da} {bx bys bp : Nat} (h : Two t D A bx bys bp) (e : A = B) : Two t D B bx bys bp := e ▸ h
theorem cutN_length (a : Ab) : ∀ i, (cutN a i).length = a.S.length
  | 0 => rfl
  | i + 1 => by
    unfold cutN
    split
    · exact cutN_length a i
    · unfold cut1
      split
      · simpa using cutN_length a i
      · split
        · simpa using cutN_length a i
        · exact cutN_length a i
theorem flushN_length (a : Ab) : ∀ i, (flushN a i).length = a.S.length
  | 0 => rfl
  | i + 1 => by
    unfold flushN
    split
    · exact flushN_length a i
    · simpa using flushN_length a i
/-- Two devices of three sectors, of one power, that are there and don't lie. -/
structure Mid (A : Da) (k : Nat) (p : Pa) : Prop where
  p : A.p = p
  q : A.q = none
  len : ∀ i, (A.dev i).S.length = 3
  out : ∀ i, (A.dev i).out = false
  lies : ∀ i, (A.dev i).lies = false
  many : ∀ i, (A.dev i).Q.length ≤ k
theorem Mid.pow {A : Da} {k : Nat} {p : Pa} (h : Mid A k p) (i : Bool) : A.pow i = p := by
  obtain ⟨a, b, q, r⟩ := A
  obtain ⟨rfl, rfl, h⟩ := h
  cases i <;> rfl
theorem Mid.new (p : Pa) : Mid ⟨Ab.new 3, Ab.new 3, p, none⟩ 0 p := ⟨rfl, rfl, fun i => by cases i <;> rfl, fun i => by cases i <;> rfl, fun i => by cases i <;> rfl, fun i => by cases i <;> exact Nat.le_refl _⟩
theorem Mid.setp {A : Da} {k : Nat} {p : Pa} (h : Mid A k p) (x : Pa) : Mid { A with p := x } k x := ⟨rfl, h.q, h.len, h.out, h.lies, h.many⟩
theorem Mid.far {A : Da} {k : Nat} {p : Pa} (h : Mid A k p) (hoff : p.off = false) (i : Bool) {m : Int} (hm : ¬ (0 ≤ m ∧ m < 3)) (s : Sec) : A.wE i m = 2 ∧ A.write i m s = A := by
  have hh : (A.dev i).has m = false := by simp only [Ab.has, h.len i]; simp; omega
  have e : Ab.down (A.dev i) p = false := by simp [Ab.down, h.out i, hoff]
  refine ⟨by simp [Da.wE, writeE, h.pow i, e, hh], ?_⟩
  have w : wgo (A.dev i) (A.pow i) m = false := by simp [wgo, hh]
  simp only [Da.write, w, Da.oth_f, writeA, writeP, if_false, Bool.false_eq_true, Da.setd_self, Da.setp_self]
theorem Mid.down {A : Da} {k : Nat} {p : Pa} (h : Mid A k p) (hoff : p.off = true) (i : Bool) (m : Int) (s : Sec) : A.wE i m = 13 ∧ A.write i m s = A ∧ A.fE i = 13 ∧ A.flush i = A ∧ A.rE i m = 13 := by
  have e : Ab.down (A.dev i) p = true := by simp [Ab.down, hoff]
  have e2 : Ab.down (A.dev i) (A.pow i) = true := by rw [h.pow i, e]
  refine ⟨by simp [Da.wE, writeE, e2], ?_, by simp [Da.fE, flushE, e2], ?_, by simp [Da.rE, readE, e2]⟩
  · have w : wgo (A.dev i) (A.pow i) m = false := by simp [wgo, e2]
    simp only [Da.write, w, Da.oth_f, writeA, writeP, if_false, Bool.false_eq_true, Da.setd_self, Da.setp_self]
  · simp only [Da.flush, e2, Bool.not_true, Da.oth_f, flushA, flushP, if_true, Da.setd_self, Da.setp_self]
theorem Mid.write_up {A : Da} {k : Nat} {p : Pa} (h : Mid A k p) (hoff : p.off = false) (hf : p.falls = false) (i : Bool) {m : Int} (hm : 0 ≤ m ∧ m < 3) (s : Sec) : A.wE i m = 0 ∧ Mid (A.write i m s) (k + 1) p.step := by
  have hh : (A.dev i).has m = true := by simp only [Ab.has, h.len i]; simp; omega
  have e : Ab.down (A.dev i) p = false := by simp [Ab.down, h.out i, hoff]
  refine ⟨by simp [Da.wE, writeE, h.pow i, e, hh, hf], ?_⟩
  have w : wgo (A.dev i) p m = true := by simp [wgo, e, hh]
  simp only [Da.write, h.pow i, w, writeA, writeP, if_true, Da.oth, Ab.step, hf, Bool.false_eq_true, if_false, Da.setd_self, ite_self]
  obtain ⟨a, b, q, r⟩ := A
  obtain ⟨rfl, rfl, h1, h2, h3, h4⟩ := h
  simp only [Bool.forall_bool, Da.dev] at h1 h2 h3 h4
  cases i <;> refine ⟨rfl, rfl, ?_, ?_, ?_, ?_⟩ <;> simp [Bool.forall_bool, Da.dev, Da.setd, Da.setp, Ab.push, h1, h2, h3] <;> omega
theorem Mid.flush_up {A : Da} {k : Nat} {p : Pa} (h : Mid A k p) (hoff : p.off = false) (hf : p.falls = false) (i : Bool) : A.fE i = 0 ∧ Mid (A.flush i) k p.step := by
  have e : Ab.down (A.dev i) p = false := by simp [Ab.down, h.out i, hoff]
  refine ⟨by simp [Da.fE, flushE, h.pow i, e, hf], ?_⟩
  simp only [Da.flush, h.pow i, e, flushA, flushP, if_true, Da.oth, Ab.step, hf, Bool.false_eq_true, if_false, Da.setd_self, ite_self, Ab.flush, h.lies i]
  obtain ⟨a, b, q, r⟩ := A
  obtain ⟨rfl, rfl, h1, h2, h3, h4⟩ := h
  simp only [Bool.forall_bool, Da.dev] at h1 h2 h3 h4
  cases i <;> refine ⟨rfl, rfl, ?_, ?_, ?_, ?_⟩ <;> simp [Bool.forall_bool, Da.dev, Da.setd, Da.setp, flushN_length, h1, h2, h3] <;> omega
theorem Mid.flush_fall {A : Da} {k : Nat} {p : Pa} (h : Mid A k p) (hoff : p.off = false) (hf : p.falls = true) (i : Bool) : A.fE i = 13 ∧ Mid (A.flush i) k p.step := by
  have e : Ab.down (A.dev i) p = false := by simp [Ab.down, h.out i, hoff]
  refine ⟨by simp [Da.fE, flushE, h.pow i, e, hf], ?_⟩
  simp only [Da.flush, h.pow i, e, flushA, flushP, if_true, Da.oth, Ab.step, hf, Bool.false_eq_true, if_false, h.q, Option.isNone_none, Bool.not_false, Bool.and_self, Ab.cut, h.out]
  obtain ⟨a, b, q, r⟩ := A
  obtain ⟨rfl, rfl, h1, h2, h3, h4⟩ := h
  simp only [Bool.forall_bool, Da.dev] at h1 h2 h3 h4
  cases i <;> refine ⟨rfl, rfl, ?_, ?_, ?_, ?_⟩ <;> simp [Bool.forall_bool, Da.dev, Da.setd, Da.setp, cutN_length, h1, h2, h3]
theorem Mid.mono {A : Da} {k k' : Nat} {p : Pa} (h : Mid A k p) (hk : k ≤ k') : Mid A k' p := ⟨h.p, h.q, h.len, h.out, h.lies, fun i => Nat.le_trans (h.many i) hk⟩
abbrev qN (n : Nat) : Pa := ⟨false, (n : Int), true⟩
theorem qN_up {n : Nat} (h : 0 < n) : (qN n).falls = false ∧ (qN n).step = qN (n - 1) := by
  have e : ¬ ((n : Int) ≤ 0) := by omega
  refine ⟨by simp [Pa.falls]; omega, ?_⟩
  simp only [Pa.step, if_true, if_neg e]
  rw [show ((n : Int) - 1) = ((n - 1 : Nat) : Int) from by omega]
theorem q0_up {p : Pa} (h : p.fails = false) : p.falls = false ∧ p.step = p := by simp [Pa.falls, Pa.step, h]
/-! ### A device that is out -/
def oS (c : UInt8) : List Sec := (List.replicate 20 (secOf 0)).set 3 (secOf c)
def oF (c : UInt8) : Ab := { Ab.new 20 with S := oS c }
def oO (c : UInt8) : Ab := { oF c with out := true }
theorem oS_ok (c : UInt8) : ∀ s ∈ oS c, s.length = 128 := set_ok (fun s hs => by rw [List.eq_of_mem_replicate hs, secOf_len]) (secOf_len c)
theorem oS_len (c : UInt8) : (oS c).length = 20 := by simp [oS]
end Go.Sl
