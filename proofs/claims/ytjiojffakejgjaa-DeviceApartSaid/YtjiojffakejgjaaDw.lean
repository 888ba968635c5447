/- Plain laws for the statements on devices (own work). -/
import Derived.Test.YtjiojffakejgjaaDv
set_option linter.unusedVariables false
set_option linter.unusedSimpArgs false
namespace Go.Sl
theorem wrap_succ (i : Nat) : IntKind.u8.wrap ((i : Int) + 1) = ((UInt8.ofNat (i + 1)).toNat : Int) := by
  rw [IntKind.wrap_u8]; simp
theorem u8n (n : Nat) (h : n < 256) : ((UInt8.ofNat n).toNat : Int) = n := by simp; omega
/-! ### DeviceTears -/
def tq (m : Nat) : List (Nat × Sec) := (List.range m).map fun j => (j, secOf (UInt8.ofNat (j + 1)))
def tearA (K B m : Nat) : Ab := { (Ab.new 12).tear K B with Q := tq m }
theorem tq_get {m i : Nat} (h : i < m) : (tq m)[i]? = some (i, secOf (UInt8.ofNat (i + 1))) := by simp [tq, h]
theorem tq_len (m : Nat) : (tq m).length = m := by simp [tq]
theorem tearA_ok {K B m : Nat} (h : m ≤ 12) : (tearA K B m).ok := by
  refine ⟨(Ab.new_ok (by decide)).1, (Ab.new_ok (k := 12) (by decide)).2.1, fun x hx => ?_, by simp only [tearA, Ab.tear]; omega⟩
  simp only [tearA, tq, List.mem_map, List.mem_range] at hx
  obtain ⟨j, hj, rfl⟩ := hx
  exact ⟨by simp [tearA, Ab.tear, Ab.new]; omega, secOf_len _⟩
theorem tearA_push (K B m : Nat) : (tearA K B m).push m (secOf (UInt8.ofNat (m + 1))) = tearA K B (m + 1) := by
  simp [tearA, Ab.push, tq, List.range_succ]
theorem tearA_0 (K B : Nat) : (Ab.new 12).tear K B = tearA K B 0 := rfl
theorem tearA_len (K B m : Nat) : (tearA K B m).S.length = 12 := by simp [tearA, Ab.tear, Ab.new]
theorem tearA_has {K B m i : Nat} (h : i < 12) : (tearA K B m).has (i : Int) = true := by
  simp only [Ab.has, tearA_len]; simp; omega
theorem tearA_write {K B m : Nat} (h : m < 12) {q : Pa} (ho : q.off = false) (hf : q.falls = false) : writeE (tearA K B m) q (m : Int) = 0 ∧ writeA (tearA K B m) q (m : Int) (secOf (UInt8.ofNat (m + 1))) = tearA K B (m + 1) ∧ writeP (tearA K B m) q (m : Int) = q.step := by
  have hd : (tearA K B m).down q = false := by simp [Ab.down, ho, tearA, Ab.tear, Ab.new]
  have hh := tearA_has (K := K) (B := B) (m := m) h
  simp only [writeE, writeA, writeP, wgo, hd, hh, hf, Ab.step, Bool.not_false, Bool.true_and, if_true, Bool.false_eq_true, if_false, Int.toNat_natCast, tearA_push, true_and]
theorem tearA_fall {K B m : Nat} (h : m < 12) {q : Pa} (ho : q.off = false) (hf : q.falls = true) : writeE (tearA K B m) q (m : Int) = 13 ∧ writeA (tearA K B m) q (m : Int) (secOf (UInt8.ofNat (m + 1))) = (tearA K B (m + 1)).cut ∧ writeP (tearA K B m) q (m : Int) = q.step := by
  have hd : (tearA K B m).down q = false := by simp [Ab.down, ho, tearA, Ab.tear, Ab.new]
  have hh := tearA_has (K := K) (B := B) (m := m) h
  simp only [writeE, writeA, writeP, wgo, hd, hh, hf, Ab.step, Bool.not_false, Bool.true_and, if_true, Bool.false_eq_true, if_false, Int.toNat_natCast, tearA_push, true_and]
theorem tearA_flush {K B m : Nat} {q : Pa} (ho : q.off = false) (hf : q.falls = true) : flushE (tearA K B m) q = 13 ∧ flushA (tearA K B m) q = (tearA K B m).cut ∧ flushP (tearA K B m) q = q.step := by
  have hd : (tearA K B m).down q = false := by simp [Ab.down, ho, tearA, Ab.tear, Ab.new]
  simp [flushE, flushA, flushP, hd, hf]
def tearS (K B m : Nat) : List Sec := cutN (tearA K B m) m
theorem tearA_cut (K B m : Nat) : (tearA K B m).cut.S = tearS K B m ∧ (tearA K B m).cut.Q = [] := by
  have : (tearA K B m).Q.length = m := tq_len m
  have ho : (tearA K B m).out = false := rfl
  simp [Ab.cut, ho, tearS, this]
theorem tearS_ok {K B m : Nat} (h : m ≤ 12) : (∀ s ∈ tearS K B m, s.length = 128) ∧ (tearS K B m).length = 12 := by
  obtain ⟨h1, h2⟩ := cutN_ok (tearA_ok (K := K) (B := B) h) m
  exact ⟨h1, h2.trans (tearA_len K B m)⟩
def tsec (K B m i : Nat) : Sec := if i < m then (if i < K then secOf (UInt8.ofNat (i + 1)) else if i = K then (secOf (UInt8.ofNat (i + 1))).take (min B 128) ++ (secOf 0).drop (min B 128) else secOf 0) else secOf 0
theorem cutN_tear {K B M : Nat} (hM : M ≤ 12) : ∀ m, m ≤ M → ∀ i, i < 12 → (cutN (tearA K B M) m)[i]? = some (tsec K B m i)
  | 0, _, i, hi => by
    show ((Ab.new 12).tear K B).S[i]? = _
    simp only [Ab.tear, Ab.new, tsec, Nat.not_lt_zero, if_false]
    rw [List.getElem?_replicate, if_pos hi]
  | m + 1, hm, i, hi => by
    have ih := cutN_tear (K := K) (B := B) hM m (by omega)
    have hl : (cutN (tearA K B M) m).length = 12 := (cutN_ok (tearA_ok hM) m).2.trans (tearA_len K B M)
    have hq : (tearA K B M).Q[m]? = some (m, secOf (UInt8.ofNat (m + 1))) := tq_get (by omega)
    have hk : (tearA K B M).kept = K := by simp [tearA, Ab.tear]
    have hbt : (tearA K B M).bytes = min B 128 := by simp [tearA, Ab.tear]; omega
    show (match (tearA K B M).Q[m]? with | none => cutN (tearA K B M) m | some x => cut1 (tearA K B M) m x (cutN (tearA K B M) m))[i]? = _
    rw [hq]
    simp only [cut1, hk, hbt]
    by_cases hmi : m = i
    · subst hmi
      have h0 := ih m hi
      simp only [tsec, Nat.lt_irrefl, if_false, Nat.lt_succ_self, if_true]
      split
      · rw [List.getElem?_set_self (by omega)]
      · split
        · rw [List.getElem?_set_self (by omega), show (cutN (tearA K B M) m).getD m [] = secOf 0 from by simp [List.getD, h0, tsec]]
        · rw [h0]; simp [tsec]
    · have h0 := ih i hi
      have e : tsec K B (m + 1) i = tsec K B m i := by
        unfold tsec
        by_cases h1 : i < m
        · rw [if_pos h1, if_pos (by omega)]
        · rw [if_neg h1, if_neg (by omega)]
      rw [e]
      split
      · rw [List.getElem?_set_ne hmi, h0]
      · split
        · rw [List.getElem?_set_ne hmi, h0]
        · exact h0
def tbyte (K B m i j : Nat) : UInt8 := if i < m ∧ (i < K ∨ i = K ∧ j < B) then UInt8.ofNat (i + 1) else 0
theorem tb_pos {K B m i j : Nat} (h : i < m ∧ (i < K ∨ i = K ∧ j < B)) : tbyte K B m i j = UInt8.ofNat (i + 1) := if_pos h
theorem tb_neg {K B m i j : Nat} (h : ¬ (i < m ∧ (i < K ∨ i = K ∧ j < B))) : tbyte K B m i j = 0 := if_neg h
theorem sec_byte {c : UInt8} {j : Nat} (h : j < 128) : (secOf c)[j]? = some c := by rw [secOf, List.getElem?_replicate, if_pos h]
theorem tear_at {K B m i j : Nat} (hm : m ≤ 12) (hi : i < 12) (hj : j < 128) : (tearS K B m).flatten[i * 128 + j]? = some (tbyte K B m i j) := by
  rw [flat_at (tearS_ok hm).1 (cutN_tear hm m (Nat.le_refl _) i hi) hj]
  unfold tsec
  by_cases h1 : i < m
  · rw [if_pos h1]
    by_cases h2 : i < K
    · rw [if_pos h2, sec_byte hj, tb_pos ⟨h1, .inl h2⟩]
    · rw [if_neg h2]
      by_cases h3 : i = K
      · rw [if_pos h3]
        by_cases h4 : j < B
        · rw [List.getElem?_append_left (by rw [List.length_take, secOf_len]; omega), List.getElem?_take_of_lt (by omega), sec_byte hj, tb_pos ⟨h1, .inr ⟨h3, h4⟩⟩]
        · rw [List.getElem?_append_right (by rw [List.length_take, secOf_len]; omega), List.getElem?_drop, List.length_take, secOf_len, sec_byte (by omega), tb_neg (by omega)]
      · rw [if_neg h3, sec_byte hj, tb_neg (by omega)]
  · rw [if_neg h1, sec_byte hj, tb_neg (by omega)]
/-! ### DeviceRots -/
abbrev q0 : Pa := ⟨false, 0, false⟩
def rq (c : UInt8) (m : Nat) : List (Nat × Sec) := (List.range m).map fun j => (j, secOf c)
def rotA (c : UInt8) (m : Nat) : Ab := { Ab.new 6 with Q := rq c m }
theorem rotA_0 (c : UInt8) : Ab.new 6 = rotA c 0 := rfl
theorem rq_len (c : UInt8) (m : Nat) : (rq c m).length = m := by simp [rq]
theorem rotA_push (c : UInt8) (m : Nat) : (rotA c m).push m (secOf c) = rotA c (m + 1) := by simp [rotA, Ab.push, rq, List.range_succ]
theorem rotA_write {c : UInt8} {m : Nat} (h : m < 6) : writeA (rotA c m) q0 (m : Int) (secOf c) = rotA c (m + 1) ∧ writeP (rotA c m) q0 (m : Int) = q0 := by
  have hd : (rotA c m).down q0 = false := rfl
  have hh : (rotA c m).has (m : Int) = true := by simp [Ab.has, rotA, Ab.new]; omega
  have hf : q0.falls = false := rfl
  simp only [writeA, writeP, wgo, hd, hh, hf, Ab.step, Bool.not_false, Bool.true_and, if_true, Bool.false_eq_true, if_false, Int.toNat_natCast, rotA_push, true_and]
  rfl
def rotS (c : UInt8) : List Sec := List.replicate 6 (secOf c)
theorem rotS_ok (c : UInt8) : ∀ s ∈ rotS c, s.length = 128 := fun s hs => by
  rw [List.eq_of_mem_replicate hs, secOf_len]
theorem rotS_len (c : UInt8) : (rotS c).length = 6 := List.length_replicate
def rotF (c : UInt8) : Ab := { Ab.new 6 with S := rotS c }
theorem rot_flush (c : UInt8) : flushA (rotA c 6) q0 = rotF c ∧ flushP (rotA c 6) q0 = q0 := ⟨rfl, rfl⟩
def rotT (c : UInt8) (n k : Nat) (m : UInt8) : List Sec := (rotS c).set n ((secOf c).set k (c ^^^ m))
def rotG (c : UInt8) (n k : Nat) (m : UInt8) : Ab := { rotF c with S := rotT c n k m }
theorem rotT_ok (c : UInt8) (n k : Nat) (m : UInt8) : ∀ s ∈ rotT c n k m, s.length = 128 := set_ok (rotS_ok c) (by rw [List.length_set, secOf_len])
theorem rotT_len (c : UInt8) (n k : Nat) (m : UInt8) : (rotT c n k m).length = 6 := by rw [rotT, List.length_set, rotS_len]
theorem rotS_get {c : UInt8} {i : Nat} (h : i < 6) : (rotS c)[i]? = some (secOf c) := by rw [rotS, List.getElem?_replicate, if_pos h]
theorem rotE_in {c : UInt8} {n k : Nat} (hn : n < 6) (hk : k < 128) : (rotF c).rotE n k = true := by
  have : (rotF c).S.length = 6 := rotS_len c
  simp [Ab.rotE, Ab.has, this]; omega
theorem rotE_out {c : UInt8} {n k : Int} (h : ¬ (0 ≤ n ∧ n < 6 ∧ 0 ≤ k ∧ k < 128)) : (rotF c).rotE n k = false := by
  have : (rotF c).S.length = 6 := rotS_len c
  simp [Ab.rotE, Ab.has, this]; omega
theorem rots_out {c : UInt8} {n k : Int} {m : UInt8} (h : ¬ (0 ≤ n ∧ n < 6 ∧ 0 ≤ k ∧ k < 128)) : (rotF c).rots n k m = rotF c := by
  simp only [Ab.rots, rotE_out h, Bool.false_eq_true, if_false]
theorem rots_in {c : UInt8} {n k : Nat} {m : UInt8} (hn : n < 6) (hk : k < 128) : (rotF c).rots n k m = rotG c n k m := by
  have e : (rotF c).S.getD n [] = secOf c := by rw [show (rotF c).S = rotS c from rfl, List.getD, rotS_get hn]; rfl
  have e2 : (secOf c).getD k 0 = c := by rw [List.getD, sec_byte hk]; rfl
  simp only [Ab.rots, rotE_in hn hk, if_true, Int.toNat_natCast, Ab.rot, e, e2]
  rfl
theorem rotG_E {c : UInt8} {n k : Nat} {m : UInt8} (hn : n < 6) (hk : k < 128) : (rotG c n k m).rotE n k = true := by
  have : (rotG c n k m).S.length = 6 := rotT_len c n k m
  simp [Ab.rotE, Ab.has, this]; omega
theorem rotG_back {c : UInt8} {n k : Nat} {m : UInt8} (hn : n < 6) (hk : k < 128) : (rotG c n k m).rots n k m = rotF c := by
  have e : (rotG c n k m).S.getD n [] = (secOf c).set k (c ^^^ m) := by
    rw [show (rotG c n k m).S = rotT c n k m from rfl, List.getD, rotT, List.getElem?_set_self (by rw [rotS_len]; exact hn)]; rfl
  have e2 : ((secOf c).set k (c ^^^ m)).getD k 0 = c ^^^ m := by rw [List.getD, List.getElem?_set_self (by rw [secOf_len]; exact hk)]; rfl
  have e3 : c ^^^ m ^^^ m = c := by rw [UInt8.xor_assoc, UInt8.xor_self, UInt8.xor_zero]
  simp only [Ab.rots, rotG_E hn hk, if_true, Int.toNat_natCast, Ab.rot, e, e2, e3]
  have e4 : ((secOf c).set k (c ^^^ m)).set k c = secOf c := by
    rw [List.set_set]
    apply List.ext_getElem?
    intro j
    by_cases hj : k = j
    · subst hj; rw [List.getElem?_set_self (by rw [secOf_len]; exact hk), sec_byte hk]
    · rw [List.getElem?_set_ne hj]
  rw [e4]
  have e5 : (rotT c n k m).set n (secOf c) = rotS c := by
    rw [rotT, List.set_set]
    apply List.ext_getElem?
    intro j
    by_cases hj : n = j
    · subst hj; rw [List.getElem?_set_self (by rw [rotS_len]; exact hn), rotS_get hn]
    · rw [List.getElem?_set_ne hj]
  show ({ rotG c n k m with S := (rotT c n k m).set n (secOf c) } : Ab) = _
  rw [e5]; rfl
theorem rotS_at {c : UInt8} {i j : Nat} (hi : i < 6) (hj : j < 128) : (rotS c).flatten[i * 128 + j]? = some c := by
  rw [flat_at (rotS_ok c) (rotS_get hi) hj, sec_byte hj]
def rbyte (c : UInt8) (n k : Nat) (m : UInt8) (i j : Nat) : UInt8 := if i = n ∧ j = k then c ^^^ m else c
theorem rotT_at {c : UInt8} {n k : Nat} {m : UInt8} {i j : Nat} (hi : i < 6) (hj : j < 128) : (rotT c n k m).flatten[i * 128 + j]? = some (rbyte c n k m i j) := by
  unfold rbyte
  by_cases h1 : i = n
  · subst h1
    rw [flat_at (rotT_ok c i k m) (show (rotT c i k m)[i]? = some ((secOf c).set k (c ^^^ m)) from by rw [rotT, List.getElem?_set_self (by rw [rotS_len]; exact hi)]) hj]
    by_cases h2 : j = k
    · subst h2; rw [List.getElem?_set_self (by rw [secOf_len]; exact hj), if_pos ⟨rfl, rfl⟩]
    · rw [List.getElem?_set_ne (fun e => h2 e.symm), sec_byte hj, if_neg (fun e => h2 e.2)]
  · rw [flat_at (rotT_ok c n k m) (show (rotT c n k m)[i]? = some (secOf c) from by rw [rotT, List.getElem?_set_ne (fun e => h1 e.symm), rotS_get hi]) hj, sec_byte hj, if_neg (fun e => h1 e.1)]
/-! ### DeviceApart -/
theorem y_zsec {P : Program} {n : FN} {E : Env} {W : World → Prop} {t ty e m : Nat} (hu : P.underlying t = some (.array 128 e)) (hz : szT P e = some m) (hzl : zeroL P t = some (List.replicate 128 (Value.int .u8 0))) : YV P n E W (.build t #[]) ty (.agg (bs (secOf 0)).toArray) := by
  rw [← zsec]; exact y_buildA0 hu hz hzl
theorem ap_write {K : Nat} (h : 0 < K) (s : Sec) : writeA (Ab.new K) q0 0 s = (Ab.new K).push 0 s ∧ writeP (Ab.new K) q0 0 = q0 := by
  have hd : (Ab.new K).down q0 = false := rfl
  have hh : (Ab.new K).has 0 = true := by simp [Ab.has, Ab.new]; omega
  have hf : q0.falls = false := rfl
  simp only [writeA, writeP, wgo, hd, hh, hf, Ab.step, Bool.not_false, Bool.true_and, if_true, Bool.false_eq_true, if_false, true_and]
  exact ⟨rfl, rfl⟩
def apS (c : UInt8) (K : Nat) : List Sec := (List.replicate K (secOf 0)).set 0 (secOf c)
def apF (c : UInt8) (K : Nat) : Ab := { Ab.new K with S := apS c K }
theorem ap_flush (c : UInt8) (K : Nat) : flushA ((Ab.new K).push 0 (secOf c)) q0 = apF c K ∧ flushP ((Ab.new K).push 0 (secOf c)) q0 = q0 := ⟨rfl, rfl⟩
theorem apS_ok (c : UInt8) (K : Nat) : ∀ s ∈ apS c K, s.length = 128 := set_ok (fun s hs => by rw [List.eq_of_mem_replicate hs, secOf_len]) (secOf_len c)
theorem apS_len (c : UInt8) (K : Nat) : (apS c K).length = K := by simp [apS]
theorem ap_read {c : UInt8} {K : Nat} (h : 0 < K) : readS (apF c K) q0 0 = secOf c ∧ readE (apF c K) q0 0 = 0 := by
  have hd : (apF c K).down q0 = false := rfl
  have hh : (apF c K).has 0 = true := by simp [Ab.has, apF, apS_len]; omega
  have hr : (apF c K).read 0 = secOf c := by
    simp only [Ab.read, show lastW (apF c K).Q 0 = none from rfl, Option.getD_none]
    rw [show (apF c K).S = apS c K from rfl, apS, List.getD, List.getElem?_set_self (by simp; omega)]; rfl
  simp only [readS, readE, hd, hh, Bool.false_eq_true, if_false, if_true]
  exact ⟨hr, trivial⟩
theorem u8_add1 (c : UInt8) : IntKind.u8.wrap ((c.toNat : Int) + 1) = ((c + 1).toNat : Int) := by
  rw [IntKind.wrap_u8]; simp [UInt8.toNat_add]
end Go.Sl
