/- Plain laws for the statements on devices (own work). -/
import Derived.Test.YtoaalclbplgegaaDv
set_option linter.unusedVariables false
set_option linter.unusedSimpArgs false
namespace Go.Sl
theorem wrap_succ (i : Nat) : IntKind.u8.wrap ((i : Int) + 1) = ((UInt8.ofNat (i + 1)).toNat : Int) := by
  rw [IntKind.wrap_u8]; simp
theorem u8n (n : Nat) (h : n < 256) : ((UInt8.ofNat n).toNat : Int) = n := by simp; omega
/-! ### DeviceTears -/
def tq (m : Nat) : List (Nat × Sec) := (List.range m).map fun j => (j, secOf (UInt8.ofNat (j + 1)))
def tearA (K B m : Nat) : Ab := { (Ab.new 12).tear K B with Q := tq m }
theorem tq_get {m i : Nat} (h : i < m) : (tq m)[i]? = some (i, secOf (UInt8.ofNat (i + 1))) := by simp [tq, h]
theorem tq_len (m : Nat) : (tq m).length = m := by simp [tq]
theorem tearA_ok {K B m : Nat} (h : m ≤ 12) : (tearA K B m).ok := by
  refine ⟨(Ab.new_ok (by decide)).1, (Ab.new_ok (k := 12) (by decide)).2.1, fun x hx => ?_, by simp only [tearA, Ab.tear]; omega⟩
  simp only [tearA, tq, List.mem_map, List.mem_range] at hx
  obtain ⟨j, hj, rfl⟩ := hx
  exact ⟨by simp [tearA, Ab.tear, Ab.new]; omega, secOf_len _⟩
theorem tearA_push (K B m : Nat) : (tearA K B m).push m (secOf (UInt8.ofNat (m + 1))) = tearA K B (m + 1) := by
  simp [tearA, Ab.push, tq, List.range_succ]
theorem tearA_0 (K B : Nat) : (Ab.new 12).tear K B = tearA K B 0 := rfl
theorem tearA_len (K B m : Nat) : (tearA K B m).S.length = 12 := by simp [tearA, Ab.tear, Ab.new]
theorem tearA_has {K B m i : Nat} (h : i < 12) : (tearA K B m).has (i : Int) = true := by
  simp only [Ab.has, tearA_len]; simp; omega
theorem tearA_write {K B m : Nat} (h : m < 12) {q : Pa} (ho : q.off = false) (hf : q.falls = false) : writeE (tearA K B m) q (m : Int) = 0 ∧ writeA (tearA K B m) q (m : Int) (secOf (UInt8.ofNat (m + 1))) = tearA K B (m + 1) ∧ writeP (tearA K B m) q (m : Int) = q.step := by
  have hd : (tearA K B m).down q = false := by simp [Ab.down, ho, tearA, Ab.tear, Ab.new]
  have hh := tearA_has (K := K) (B := B) (m := m) h
  simp only [writeE, writeA, writeP, wgo, hd, hh, hf, Ab.step, Bool.not_false, Bool.true_and, if_true, Bool.false_eq_true, if_false, Int.toNat_natCast, tearA_push, true_and]
theorem tearA_fall {K B m : Nat} (h : m < 12) {q : Pa} (ho : q.off = false) (hf : q.falls = true) : writeE (tearA K B m) q (m : Int) = 13 ∧ writeA (tearA K B m) q (m : Int) (secOf (UInt8.ofNat (m + 1))) = (tearA K B (m + 1)).cut ∧ writeP (tearA K B m) q (m : Int) = q.step := by
  have hd : (tearA K B m).down q = false := by simp [Ab.down, ho, tearA, Ab.tear, Ab.new]
  have hh := tearA_has (K := K) (B := B) (m := m) h
  simp only [writeE, writeA, writeP, wgo, hd, hh, hf, Ab.step, Bool.not_false, Bool.true_and, if_true, Bool.false_eq_true, if_false, Int.toNat_natCast, tearA_push, true_and]
theorem tearA_flush {K B m : Nat} {q : Pa} (ho : q.off = false) (hf : q.falls = true) : flushE (tearA K B m) q = 13 ∧ flushA (tearA K B m) q = (tearA K B m).cut ∧ flushP (tearA K B m) q = q.step := by
  have hd : (tearA K B m).down q = false := by simp [Ab.down, ho, tearA, Ab.tear, Ab.new]
  simp [flushE, flushA, flushP, hd, hf]
def tearS (K B m : Nat) : List Sec := cutN (tearA K B m) m
theorem tearA_cut (K B m : Nat) : (tearA K B m).cut.S = tearS K B m ∧ (tearA K B m).cut.Q = [] := by
  have : (tearA K B m).Q.length = m := tq_len m
  have ho : (tearA K B m).out = false := rfl
  simp [Ab.cut, ho, tearS, this]
theorem tearS_ok {K B m : Nat} (h : m ≤ 12) : (∀ s ∈ tearS K B m, s.length = 128) ∧ (tearS K B m).length = 12 := by
  obtain ⟨h1, h2⟩ := cutN_ok (tearA_ok (K := K) (B := B) h) m
  exact ⟨h1, h2.trans (tearA_len K B m)⟩
def tsec (K B m i : Nat) : Sec := if i < m then (if i < K then secOf (UInt8.ofNat (i + 1)) else if i = K then (secOf (UInt8.ofNat (i + 1))).take (min B 128) ++ (secOf 0).drop (min B 128) else secOf 0) else secOf 0
theorem cutN_tear {K B M : Nat} (hM : M ≤ 12) : ∀ m, m ≤ M → ∀ i, i < 12 → (cutN (tearA K B M) m)[i]? = some (tsec K B m i)
  | 0, _, i, hi => by
    show ((Ab.new 12).tear K B).S[i]? = _
    simp only [Ab.tear, Ab.new, tsec, Nat.not_lt_zero, if_false]
    rw [List.getElem?_replicate, if_pos hi]
  | m + 1, hm, i, hi => by
    have ih := cutN_tear (K := K) (B := B) hM m (by omega)
    have hl : (cutN (tearA K B M) m).length = 12 := (cutN_ok (tearA_ok hM) m).2.trans (tearA_len K B M)
    have hq : (tearA K B M).Q[m]? = some (m, secOf (UInt8.ofNat (m + 1))) := tq_get (by omega)
    have hk : (tearA K B M).kept = K := by simp [tearA, Ab.tear]
    have hbt : (tearA K B M).bytes = min B 128 := by simp [tearA, Ab.tear]; omega
    show (match (tearA K B M).Q[m]? with | none => cutN (tearA K B M) m | some x => cut1 (tearA K B M) m x (cutN (tearA K B M) m))[i]? = _
    rw [hq]
    simp only [cut1, hk, hbt]
    by_cases hmi : m = i
    · subst hmi
      have h0 := ih m hi
      simp only [tsec, Nat.lt_irrefl, if_false, Nat.lt_succ_self, if_true]
      split
      · rw [List.getElem?_set_self (by omega)]
      · split
        · rw [List.getElem?_set_self (by omega), show (cutN (tearA K B M) m).getD m [] = secOf 0 from by simp [List.getD, h0, tsec]]
        · rw [h0]; simp [tsec]
    · have h0 := ih i hi
      have e : tsec K B (m + 1) i = tsec K B m i := by
        unfold tsec
        by_cases h1 : i < m
        · rw [if_pos h1, if_pos (by omega)]
        · rw [if_neg h1, if_neg (by omega)]
      rw [e]
      split
      · rw [List.getElem?_set_ne hmi, h0]
      · split
        · rw [List.getElem?_set_ne hmi, h0]
        · exact h0
def tbyte (K B m i j : Nat) : UInt8 := if i < m ∧ (i < K ∨ i = K ∧ j < B) then UInt8.ofNat (i + 1) else 0
theorem tb_pos {K B m i j : Nat} (h : i < m ∧ (i < K ∨ i = K ∧ j < B)) : tbyte K B m i j = UInt8.ofNat (i + 1) := if_pos h
theorem tb_neg {K B m i j : Nat} (h : ¬ (i < m ∧ (i < K ∨ i = K ∧ j < B))) : tbyte K B m i j = 0 := if_neg h
theorem sec_byte {c : UInt8} {j : Nat} (h : j < 128) : (secOf c)[j]? = some c := by rw [secOf, List.getElem?_replicate, if_pos h]
theorem tear_at {K B m i j : Nat} (hm : m ≤ 12) (hi : i < 12) (hj : j < 128) : (tearS K B m).flatten[i * 128 + j]? = some (tbyte K B m i j) := by
  rw [flat_at (tearS_ok hm).1 (cutN_tear hm m (Nat.le_refl _) i hi) hj]
  unfold tsec
  by_cases h1 : i < m
  · rw [if_pos h1]
    by_cases h2 : i < K
    · rw [if_pos h2, sec_byte hj, tb_pos ⟨h1, .inl h2⟩]
    · rw [if_neg h2]
      by_cases h3 : i = K
      · rw [if_pos h3]
        by_cases h4 : j < B
        · rw [List.getElem?_append_left (by rw [List.length_take, secOf_len]; omega), List.getElem?_take_of_lt (by omega), sec_byte hj, tb_pos ⟨h1, .inr ⟨h3, h4⟩⟩]
        · rw [List.getElem?_append_right (by rw [List.length_take, secOf_len]; omega), List.getElem?_drop, List.length_take, secOf_len, sec_byte (by omega), tb_neg (by omega)]
      · rw [if_neg h3, sec_byte hj, tb_neg (by omega)]
  · rw [if_neg h1, sec_byte hj, tb_neg (by omega)]
/-! ### DeviceRots -/
abbrev q0 : Pa := ⟨false, 0, false⟩
def rq (c : UInt8) (m : Nat) : List (Nat × Sec) := (List.range m).map fun j => (j, secOf c)
def rotA (c : UInt8) (m : Nat) : Ab := { Ab.new 6 with Q := rq c m }
theorem rotA_0 (c : UInt8) : Ab.new 6 = rotA c 0 := rfl
theorem rq_len (c : UInt8) (m : Nat) : (rq c m).length = m := by simp [rq]
theorem rotA_push (c : UInt8) (m : Nat) : (rotA c m).push m (secOf c) = rotA c (m + 1) := by simp [rotA, Ab.push, rq, List.range_succ]
theorem rotA_write {c : UInt8} {m : Nat} (h : m < 6) : writeA (rotA c m) q0 (m : Int) (secOf c) = rotA c (m + 1) ∧ writeP (rotA c m) q0 (m : Int) = q0 := by
  have hd : (rotA c m).down q0 = false := rfl
  have hh : (rotA c m).has (m : Int) = true := by simp [Ab.has, rotA, Ab.new]; omega
  have hf : q0.falls = false := rfl
  simp only [writeA, writeP, wgo, hd, hh, hf, Ab.step, Bool.not_false, Bool.true_and, if_true, Bool.false_eq_true, if_false, Int.toNat_natCast, rotA_push, true_and]
  rfl
def rotS (c : UInt8) : List Sec := List.replicate 6 (secOf c)
theorem rotS_ok (c : UInt8) : ∀ s ∈ rotS c, s.length = 128 := fun s hs => by
  rw [List.eq_of_mem_replicate hs, secOf_len]
theorem rotS_len (c : UInt8) : (rotS c).length = 6 := List.length_replicate
def rotF (c : UInt8) : Ab := { Ab.new 6 with S := rotS c }
theorem rot_flush (c : UInt8) : flushA (rotA c 6) q0 = rotF c ∧ flushP (rotA c 6) q0 = q0 := ⟨rfl, rfl⟩
def rotT (c : UInt8) (n k : Nat) (m : UInt8) : List Sec := (rotS c).set n ((secOf c).set k (c ^^^ m))
def rotG (c : UInt8) (n k : Nat) (m : UInt8) : Ab := { rotF c with S := rotT c n k m }
theorem rotT_ok (c : UInt8) (n k : Nat) (m : UInt8) : ∀ s ∈ rotT c n k m, s.length = 128 := set_ok (rotS_ok c) (by rw [List.length_set, secOf_len])
theorem rotT_len (c : UInt8) (n k : Nat) (m : UInt8) : (rotT c n k m).length = 6 := by rw [rotT, List.length_set, rotS_len]
theorem rotS_get {c : UInt8} {i : Nat} (h : i < 6) : (rotS c)[i]? = some (secOf c) := by rw [rotS, List.getElem?_replicate, if_pos h]
theorem rotE_in {c : UInt8} {n k : Nat} (hn : n < 6) (hk : k < 128) : (rotF c).rotE n k = true := by
  have : (rotF c).S.length = 6 := rotS_len c
  simp [Ab.rotE, Ab.has, this]; omega
theorem rotE_out {c : UInt8} {n k : Int} (h : ¬ (0 ≤ n ∧ n < 6 ∧ 0 ≤ k ∧ k < 128)) : (rotF c).rotE n k = false := by
  have : (rotF c).S.length = 6 := rotS_len c
  simp [Ab.rotE, Ab.has, this]; omega
theorem rots_out {c : UInt8} {n k : Int} {m : UInt8} (h : ¬ (0 ≤ n ∧ n < 6 ∧ 0 ≤ k ∧ k < 128)) : (rotF c).rots n k m = rotF c := by
  simp only [Ab.rots, rotE_out h, Bool.false_eq_true, if_false]
theorem rots_in {c : UInt8} {n k : Nat} {m : UInt8} (hn : n < 6) (hk : k < 128) : (rotF c).rots n k m = rotG c n k m := by
  have e : (rotF c).S.getD n [] = secOf c := by rw [show (rotF c).S = rotS c from rfl, List.getD, rotS_get hn]; rfl
  have e2 : (secOf c).getD k 0 = c := by rw [List.getD, sec_byte hk]; rfl
  simp only [Ab.rots, rotE_in hn hk, if_true, Int.toNat_natCast, Ab.rot, e, e2]
  rfl
theorem rotG_E {c : UInt8} {n k : Nat} {m : UInt8} (hn : n < 6) (hk : k < 128) : (rotG c n k m).rotE n k = true := by
  have : (rotG c n k m).S.length = 6 := rotT_len c n k m
  simp [Ab.rotE, Ab.has, this]; omega
theorem rotG_back {c : UInt8} {n k : Nat} {m : UInt8} (hn : n < 6) (hk : k < 128) : (rotG c n k m).rots n k m = rotF c := by
  have e : (rotG c n k m).S.getD n [] = (secOf c).set k (c ^^^ m) := by
    rw [show (rotG c n k m).S = rotT c n k m from rfl, List.getD, rotT, List.getElem?_set_self (by rw [rotS_len]; exact hn)]; rfl
  have e2 : ((secOf c).set k (c ^^^ m)).getD k 0 = c ^^^ m := by rw [List.getD, List.getElem?_set_self (by rw [secOf_len]; exact hk)]; rfl
  have e3 : c ^^^ m ^^^ m = c := by rw [UInt8.xor_assoc, UInt8.xor_self, UInt8.xor_zero]
  simp only [Ab.rots, rotG_E hn hk, if_true, Int.toNat_natCast, Ab.rot, e, e2, e3]
  have e4 : ((secOf c).set k (c ^^^ m)).set k c = secOf c := by
    rw [List.set_set]
    apply List.ext_getElem?
    intro j
    by_cases hj : k = j
    · subst hj; rw [List.getElem?_set_self (by rw [secOf_len]; exact hk), sec_byte hk]
    · rw [List.getElem?_set_ne hj]
  rw [e4]
  have e5 : (rotT c n k m).set n (secOf c) = rotS c := by
    rw [rotT, List.set_set]
    apply List.ext_getElem?
    intro j
    by_cases hj : n = j
    · subst hj; rw [List.getElem?_set_self (by rw [rotS_len]; exact hn), rotS_get hn]
    · rw [List.getElem?_set_ne hj]
  show ({ rotG c n k m with S := (rotT c n k m).set n (secOf c) } : Ab) = _
  rw [e5]; rfl
theorem rotS_at {c : UInt8} {i j : Nat} (hi : i < 6) (hj : j < 128) : (rotS c).flatten[i * 128 + j]? = some c := by
  rw [flat_at (rotS_ok c) (rotS_get hi) hj, sec_byte hj]
def rbyte (c : UInt8) (n k : Nat) (m : UInt8) (i j : Nat) : UInt8 := if i = n ∧ j = k then c ^^^ m else c
theorem rotT_at {c : UInt8} {n k : Nat} {m : UInt8} {i j : Nat} (hi : i < 6) (hj : j < 128) : (rotT c n k m).flatten[i * 128 + j]? = some (rbyte c n k m i j) := by
  unfold rbyte
  by_cases h1 : i = n
  · subst h1
    rw [flat_at (rotT_ok c i k m) (show (rotT c i k m)[i]? = some ((secOf c).set k (c ^^^ m)) from by rw [rotT, List.getElem?_set_self (by rw [rotS_len]; exact hi)]) hj]
    by_cases h2 : j = k
    · subst h2; rw [List.getElem?_set_self (by rw [secOf_len]; exact hj), if_pos ⟨rfl, rfl⟩]
    · rw [List.getElem?_set_ne (fun e => h2 e.symm), sec_byte hj, if_neg (fun e => h2 e.2)]
  · rw [flat_at (rotT_ok c n k m) (show (rotT c n k m)[i]? = some (secOf c) from by rw [rotT, List.getElem?_set_ne (fun e => h1 e.symm), rotS_get hi]) hj, sec_byte hj, if_neg (fun e => h1 e.1)]
/-! ### DeviceApart -/
theorem y_zsec {P : Program} {n : FN} {E : Env} {W : World → Prop} {t ty e m : Nat} (hu : P.underlying t = some (.array 128 e)) (hz : szT P e = some m) (hzl : zeroL P t = some (List.replicate 128 (Value.int .u8 0))) : YV P n E W (.build t #[]) ty (.agg (bs (secOf 0)).toArray) := by
  rw [← zsec]; exact y_buildA0 hu hz hzl
theorem ap_write {K : Nat} (h : 0 < K) (s : Sec) : writeA (Ab.new K) q0 0 s = (Ab.new K).push 0 s ∧ writeP (Ab.new K) q0 0 = q0 := by
  have hd : (Ab.new K).down q0 = false := rfl
  have hh : (Ab.new K).has 0 = true := by simp [Ab.has, Ab.new]; omega
  have hf : q0.falls = false := rfl
  simp only [writeA, writeP, wgo, hd, hh, hf, Ab.step, Bool.not_false, Bool.true_and, if_true, Bool.false_eq_true, if_false, true_and]
  exact ⟨rfl, rfl⟩
def apS (c : UInt8) (K : Nat) : List Sec := (List.replicate K (secOf 0)).set 0 (secOf c)
def apF (c : UInt8) (K : Nat) : Ab := { Ab.new K with S := apS c K }
theorem ap_flush (c : UInt8) (K : Nat) : flushA ((Ab.new K).push 0 (secOf c)) q0 = apF c K ∧ flushP ((Ab.new K).push 0 (secOf c)) q0 = q0 := ⟨rfl, rfl⟩
theorem apS_ok (c : UInt8) (K : Nat) : ∀ s ∈ apS c K, s.length = 128 := set_ok (fun s hs => by rw [List.eq_of_mem_replicate hs, secOf_len]) (secOf_len c)
theorem apS_len (c : UInt8) (K : Nat) : (apS c K).length = K := by simp [apS]
theorem ap_read {c : UInt8} {K : Nat} (h : 0 < K) : readS (apF c K) q0 0 = secOf c ∧ readE (apF c K) q0 0 = 0 := by
  have hd : (apF c K).down q0 = false := rfl
  have hh : (apF c K).has 0 = true := by simp [Ab.has, apF, apS_len]; omega
  have hr : (apF c K).read 0 = secOf c := by
    simp only [Ab.read, show lastW (apF c K).Q 0 = none from rfl, Option.getD_none]
    rw [show (apF c K).S = apS c K from rfl, apS, List.getD, List.getElem?_set_self (by simp; omega)]; rfl
  simp only [readS, readE, hd, hh, Bool.false_eq_true, if_false, if_true]
  exact ⟨hr, trivial⟩
theorem u8_add1 (c : UInt8) : IntKind.u8.wrap ((c.toNat : Int) + 1) = ((c + 1).toNat : Int) := by
  rw [IntKind.wrap_u8]; simp [UInt8.toNat_add]
/-! ### Deeds -/
structure DeedM where
  on : Int
  kind : Int
  n : Int
  m : Int
  c : UInt8
def dcells (x : DeedM) : List Value := [.int .i64 x.on, .int .i64 x.kind, .int .i64 x.n, .int .i64 x.m, .int .u8 (x.c.toNat : Int)]
def deeds (ds : List DeedM) : List Value := (ds.map dcells).flatten
theorem deeds_len (ds : List DeedM) : (deeds ds).length = ds.length * 5 := by
  induction ds with
  | nil => rfl
  | cons x ds ih => simp only [deeds, List.map_cons, List.flatten_cons, List.length_append, List.length_cons] at ih ⊢; rw [ih]; simp [dcells]; omega
theorem deeds_get : ∀ {ds : List DeedM} {i j : Nat} {x : DeedM}, ds[i]? = some x → j < 5 → (deeds ds)[i * 5 + j]? = (dcells x)[j]?
  | [], i, j, x, h, _ => by simp at h
  | y :: ds, 0, j, x, h, hj => by
    simp at h; subst h
    simp only [deeds, List.map_cons, List.flatten_cons, Nat.zero_mul, Nat.zero_add]
    rw [List.getElem?_append_left (by simp [dcells]; omega)]
  | y :: ds, i + 1, j, x, h, hj => by
    simp only [List.getElem?_cons_succ] at h
    have := deeds_get h hj
    simp only [deeds, List.map_cons, List.flatten_cons] at this ⊢
    rw [List.getElem?_append_right (by simp [dcells]; omega), ← this]
    congr 1
    simp [dcells]; omega
/-- A cell of a deed that came in. -/
theorem deed_at {l : List Value} {off i j : Nat} {ds : List DeedM} {x : DeedM} (hv : (l.drop off).take (deeds ds).length = deeds ds) (hi : ds[i]? = some x) (hj : j < 5) : l[off + i * 5 + j]? = (dcells x)[j]? := by
  have hlt := (List.getElem?_eq_some_iff.1 hi).1
  rw [← deeds_get hi hj, ← hv, List.getElem?_take_of_lt (by rw [deeds_len]; omega), List.getElem?_drop, Nat.add_assoc]
/-! ### What a flush makes stable is what was read -/
theorem lastW_snoc (Q : List (Nat × Sec)) (x : Nat × Sec) (k : Nat) : lastW (Q ++ [x]) k = if x.1 = k then some x.2 else lastW Q k := by
  unfold lastW
  rw [List.reverse_append, List.reverse_singleton, List.singleton_append, List.find?_cons]
  by_cases h : x.1 = k
  · simp [h]
  · have : (x.1 == k) = false := by simpa using h
    simp [h, this]
theorem flushN_get {a : Ab} (h : a.ok) {k : Nat} (hk : k < a.S.length) : ∀ m, m ≤ a.Q.length → (flushN a m)[k]? = some ((lastW (a.Q.take m) k).getD (a.S.getD k []))
  | 0, _ => by
    show a.S[k]? = _
    rw [List.take_zero, show lastW [] k = none from rfl, Option.getD_none]
    simp [List.getD, hk]
  | m + 1, hm => by
    have ih := flushN_get h hk m (by omega)
    obtain ⟨x, hx⟩ : ∃ x, a.Q[m]? = some x := ⟨_, List.getElem?_eq_getElem (by omega)⟩
    rw [flushN_s hx, show a.Q.take (m + 1) = a.Q.take m ++ [x] from by rw [List.take_add_one, hx]; rfl, lastW_snoc]
    by_cases e : x.1 = k
    · subst e
      rw [List.getElem?_set_self (by rw [(flushN_ok h m).2]; exact hk), if_pos rfl]; rfl
    · rw [List.getElem?_set_ne e, if_neg e, ih]
theorem flush_read {a : Ab} (h : a.ok) : flushN a a.Q.length = (List.range a.S.length).map a.read := by
  apply List.ext_getElem?
  intro k
  by_cases hk : k < a.S.length
  · rw [flushN_get h hk _ (Nat.le_refl _), List.take_length]
    simp [hk, Ab.read]
  · rw [List.getElem?_eq_none (by rw [(flushN_ok h _).2]; omega), List.getElem?_eq_none (by simp; omega)]
theorem hsub_nil0 {r : Hp} : HSub ([] :: r) r := hsub_flat rfl
/-! ### DeviceLies -/
def okN (x : DeedM) : Prop := 0 ≤ x.n ∧ x.n < 20
instance (x : DeedM) : Decidable (okN x) := inferInstanceAs (Decidable (0 ≤ x.n ∧ x.n < 20))
def wq1 (x : DeedM) : List (Nat × Sec) := if okN x then [(x.n.toNat, secOf x.c)] else []
def lq (ds : List DeedM) (i : Nat) : List (Nat × Sec) := (ds.take i).flatMap wq1
theorem lq_succ {ds : List DeedM} {i : Nat} {x : DeedM} (hx : ds[i]? = some x) : lq ds (i + 1) = lq ds i ++ wq1 x := by
  simp only [lq, List.take_add_one, hx, Option.toList_some, List.flatMap_append, List.flatMap_cons, List.flatMap_nil, List.append_nil]
theorem lq_t {ds : List DeedM} {i : Nat} {x : DeedM} (hx : ds[i]? = some x) (h : okN x) : lq ds (i + 1) = lq ds i ++ [(x.n.toNat, secOf x.c)] := by rw [lq_succ hx, wq1, if_pos h]
theorem lq_f {ds : List DeedM} {i : Nat} {x : DeedM} (hx : ds[i]? = some x) (h : ¬ okN x) : lq ds (i + 1) = lq ds i := by rw [lq_succ hx, wq1, if_neg h, List.append_nil]
theorem lq_len (ds : List DeedM) : ∀ i, (lq ds i).length ≤ i
  | 0 => by simp [lq]
  | i + 1 => by
    have ih := lq_len ds i
    cases hx : ds[i]? with
    | none =>
      have : lq ds (i + 1) = lq ds i := by simp [lq, List.take_add_one, hx]
      rw [this]; omega
    | some x =>
      rw [lq_succ hx, List.length_append]
      have : (wq1 x).length ≤ 1 := by unfold wq1; split <;> simp
      omega
def S20 : List Sec := List.replicate 20 (secOf 0)
theorem S20_ok : ∀ s ∈ S20, s.length = 128 := fun s hs => by rw [List.eq_of_mem_replicate hs, secOf_len]
theorem S20_len : S20.length = 20 := List.length_replicate
def lA (ds : List DeedM) (i : Nat) : Ab := ⟨S20, lq ds i, 0, 0, true, false⟩
theorem lA_0 (ds : List DeedM) : { Ab.new 20 with lies := true } = lA ds 0 := rfl
theorem lA_ok (ds : List DeedM) (i : Nat) : (lA ds i).ok := by
  refine ⟨S20_ok, by rw [show (lA ds i).S = S20 from rfl, S20_len]; decide, fun x hx => ?_, Nat.zero_le _⟩
  simp only [lA, lq, List.mem_flatMap] at hx
  obtain ⟨y, _, hy⟩ := hx
  unfold wq1 at hy
  split at hy
  · rename_i h
    simp at hy; subst hy
    exact ⟨by rw [show (lA ds i).S = S20 from rfl, S20_len]; have := h.1; have := h.2; simp only; omega, secOf_len _⟩
  · simp at hy
theorem lA_write {ds : List DeedM} {i : Nat} {x : DeedM} (hx : ds[i]? = some x) : writeE (lA ds i) q0 x.n = (if okN x then 0 else 2) ∧ writeA (lA ds i) q0 x.n (secOf x.c) = lA ds (i + 1) ∧ writeP (lA ds i) q0 x.n = q0 := by
  have hd : (lA ds i).down q0 = false := rfl
  have hf : q0.falls = false := rfl
  have hl : (lA ds i).S.length = 20 := S20_len
  by_cases h : okN x
  · have hh : (lA ds i).has x.n = true := by simp only [Ab.has, hl]; simp; exact h
    simp only [writeE, writeA, writeP, wgo, hd, hh, hf, Ab.step, Bool.not_false, Bool.true_and, if_true, Bool.false_eq_true, if_false, if_pos h, true_and]
    refine ⟨?_, rfl⟩
    simp only [Ab.push, lA, lq_t hx h]
  · have hh : (lA ds i).has x.n = false := by
      simp only [Ab.has, hl]; simp; intro h0; have : ¬ (0 ≤ x.n ∧ x.n < 20) := h; omega
    simp only [writeE, writeA, writeP, wgo, hd, hh, hf, Bool.and_false, Bool.false_eq_true, if_false, if_neg h, true_and]
    simp only [lA, lq_f hx h, and_self]
theorem lA_flush (ds : List DeedM) (i : Nat) : flushE (lA ds i) q0 = 0 ∧ flushA (lA ds i) q0 = lA ds i ∧ flushP (lA ds i) q0 = q0 := ⟨rfl, rfl, rfl⟩
def nowS (ds : List DeedM) (k : Nat) : List Sec := (List.range k).map (lA ds ds.length).read
theorem nowS_succ (ds : List DeedM) (k : Nat) : nowS ds (k + 1) = nowS ds k ++ [(lA ds ds.length).read k] := by simp [nowS, List.range_succ]
theorem nowS_len (ds : List DeedM) (k : Nat) : (nowS ds k).length = k := by simp [nowS]
theorem nowS_ok (ds : List DeedM) {k : Nat} (h : k ≤ 20) : ∀ s ∈ nowS ds k, s.length = 128 := fun s hs => by
  simp only [nowS, List.mem_map, List.mem_range] at hs
  obtain ⟨j, hj, rfl⟩ := hs
  exact Ab.read_len (lA_ok _ _) (by rw [show (lA ds ds.length).S = S20 from rfl, S20_len]; omega)
theorem lA_read (ds : List DeedM) {k : Nat} (h : k < 20) : readS (lA ds ds.length) q0 (k : Int) = (lA ds ds.length).read k ∧ readE (lA ds ds.length) q0 (k : Int) = 0 := by
  have hd : (lA ds ds.length).down q0 = false := rfl
  have hh : (lA ds ds.length).has (k : Int) = true := by
    simp only [Ab.has, show (lA ds ds.length).S = S20 from rfl, S20_len]; simp; omega
  simp only [readS, readE, hd, hh, Bool.false_eq_true, if_false, if_true, Int.toNat_natCast, and_self]
def lC (ds : List DeedM) : Ab := ⟨nowS ds 20, [], 0, 0, false, false⟩
theorem lB_flush (ds : List DeedM) : flushE { lA ds ds.length with lies := false } q0 = 0 ∧ flushA { lA ds ds.length with lies := false } q0 = lC ds ∧ flushP { lA ds ds.length with lies := false } q0 = q0 := by
  have e := flush_read (lA_ok ds ds.length)
  refine ⟨rfl, ?_, rfl⟩
  have e2 : flushA { lA ds ds.length with lies := false } q0 = ⟨flushN { lA ds ds.length with lies := false } (lq ds ds.length).length, [], 0, 0, false, false⟩ := rfl
  rw [e2, lC]
  have e3 : ∀ m, flushN { lA ds ds.length with lies := false } m = flushN (lA ds ds.length) m := fun m => by
    induction m with
    | zero => rfl
    | succ m ih => simp only [flushN, ih]
  rw [e3, show (lq ds ds.length).length = (lA ds ds.length).Q.length from rfl, e]
  rfl
/-! ### DeviceReads, DeviceFlushes: what is read behind a write, behind a flush -/
theorem read_push (a : Ab) (n : Nat) (s : Sec) (k : Nat) : (a.push n s).read k = if n = k then s else a.read k := by
  simp only [Ab.read, Ab.push, lastW_snoc]
  by_cases h : n = k
  · simp [h]
  · simp [h]
theorem read_flush {a : Ab} (h : a.ok) (hl : a.lies = false) {k : Nat} (hk : k < a.S.length) : a.flush.read k = a.read k := by
  have e := flushN_get h hk a.Q.length (Nat.le_refl _)
  rw [List.take_length] at e
  simp only [Ab.flush, hl, Bool.false_eq_true, if_false, Ab.read, show lastW [] k = none from rfl, Option.getD_none, List.getD, e, Option.getD_some]
theorem has_push (a : Ab) (n : Nat) (s : Sec) (m : Int) : (a.push n s).has m = a.has m := rfl
theorem has_flush {a : Ab} (h : a.ok) (hl : a.lies = false) : a.flush.S.length = a.S.length := by
  simp only [Ab.flush, hl, Bool.false_eq_true, if_false, (flushN_ok h _).2]
/-- A device that is whole and is read as W. -/
structure RdW (K : Nat) (W : List Sec) (a : Ab) (m : Nat) : Prop where
  ok : a.ok
  len : a.S.length = K
  out : a.out = false
  lies : a.lies = false
  many : a.Q.length ≤ m
  wlen : W.length = K
  read : ∀ k s, W[k]? = some s → a.read k = s
theorem RdW.new {K : Nat} (h : K ≤ 4096) : RdW K (List.replicate K (secOf 0)) (Ab.new K) 0 := ⟨Ab.new_ok h, by simp [Ab.new], rfl, rfl, Nat.le_refl _, by simp, fun k s hs => by
  have : k < K := by have := (List.getElem?_eq_some_iff.1 hs).1; simpa using this
  rw [List.getElem?_replicate, if_pos this] at hs; cases hs
  simp [Ab.read, Ab.new, lastW, List.getD, this]⟩
theorem RdW.write {K n m : Nat} {W : List Sec} {a : Ab} {s : Sec} (h : RdW K W a m) (hn : n < K) (hs : s.length = 128) : RdW K (W.set n s) (a.push n s) (m + 1) := by
  obtain ⟨h1, h2, h3, h4, h5, h6, h7⟩ := h
  refine ⟨⟨h1.1, h1.2.1, fun x hx => ?_, h1.2.2.2⟩, h2, h3, h4, by simp [Ab.push]; omega, by simpa using h6, fun k t ht => ?_⟩
  · rcases List.mem_append.1 hx with hx | hx
    · exact h1.2.2.1 x hx
    · simp at hx; subst hx; exact ⟨by simp only [Ab.push]; omega, hs⟩
  · rw [read_push]
    by_cases e : n = k
    · subst e
      rw [List.getElem?_set_self (by omega)] at ht; cases ht; simp
    · rw [List.getElem?_set_ne e] at ht
      rw [if_neg e]; exact h7 k t ht
theorem RdW.flush {K m : Nat} {W : List Sec} {a : Ab} (h : RdW K W a m) : RdW K W a.flush 0 := by
  obtain ⟨h1, h2, h3, h4, h5, h6, h7⟩ := h
  refine ⟨Ab.flush_ok h1, by rw [has_flush h1 h4, h2], by simp [Ab.flush, h4, h3], by simp [Ab.flush, h4], by simp [Ab.flush, h4], h6, fun k t ht => ?_⟩
  rw [read_flush h1 h4 (by have := (List.getElem?_eq_some_iff.1 ht).1; omega)]
  exact h7 k t ht
theorem RdW.has {K m : Nat} {W : List Sec} {a : Ab} (h : RdW K W a m) (n : Int) : a.has n = (decide (0 ≤ n) && decide (n < K)) := by simp only [Ab.has, h.len]
theorem RdW.writes {K m : Nat} {W : List Sec} {a : Ab} (h : RdW K W a m) (n : Int) (s : Sec) : writeE a q0 n = (if 0 ≤ n ∧ n < K then 0 else 2) ∧ writeA a q0 n s = (if 0 ≤ n ∧ n < K then a.push n.toNat s else a) ∧ writeP a q0 n = q0 := by
  have hd : a.down q0 = false := by simp [Ab.down, h.out]
  have hf : q0.falls = false := rfl
  simp only [writeE, writeA, writeP, wgo, hd, h.has, hf, Ab.step, Bool.not_false, Bool.true_and, Bool.false_eq_true, if_false]
  by_cases hn : 0 ≤ n ∧ n < K
  · simp [hn]; rfl
  · have : (decide (0 ≤ n) && decide (n < (K : Int))) = false := by simp; omega
    simp [this, hn]
theorem RdW.flushes {K m : Nat} {W : List Sec} {a : Ab} (h : RdW K W a m) : flushE a q0 = 0 ∧ flushA a q0 = a.flush ∧ flushP a q0 = q0 := by
  have hd : a.down q0 = false := by simp [Ab.down, h.out]
  have hf : q0.falls = false := rfl
  simp only [flushE, flushA, flushP, hd, hf, Bool.false_eq_true, if_false, true_and]
  rfl
theorem RdW.reads {K m k : Nat} {W : List Sec} {a : Ab} {s : Sec} (h : RdW K W a m) (hk : W[k]? = some s) : readS a q0 (k : Int) = s ∧ readE a q0 (k : Int) = 0 := by
  have hd : a.down q0 = false := by simp [Ab.down, h.out]
  have hlt : k < K := by have := (List.getElem?_eq_some_iff.1 hk).1; have := h.wlen; omega
  have hh : a.has (k : Int) = true := by rw [h.has]; simp; omega
  simp only [readS, readE, hd, hh, Bool.false_eq_true, if_false, if_true, Int.toNat_natCast, and_true]
  exact h.read k s hk
theorem RdW.mono {K m m' : Nat} {W : List Sec} {a : Ab} (h : RdW K W a m) (hm : m ≤ m') : RdW K W a m' := ⟨h.ok, h.len, h.out, h.lies, Nat.le_trans h.many hm, h.wlen, h.read⟩
theorem szOf_max {n : Int} (h : n ≤ 20) : (max n 0).toNat = szOf n := by unfold szOf; omega
theorem szOf_le {n : Int} (h : n ≤ 20) : szOf n ≤ 20 := by unfold szOf; omega
/-! ### DeviceFlushes -/
theorem RdW.stable {K : Nat} {W : List Sec} {a : Ab} (h : RdW K W a 0) : a.Q = [] ∧ a.S = W := by
  have hq : a.Q = [] := List.eq_nil_of_length_eq_zero (Nat.le_zero.1 h.many)
  refine ⟨hq, ?_⟩
  apply List.ext_getElem?
  intro k
  by_cases hk : k < K
  · have h1 : a.read k = W[k]'(by rw [h.wlen]; exact hk) := h.read k _ (List.getElem?_eq_getElem _)
    rw [List.getElem?_eq_getElem (show k < W.length from by rw [h.wlen]; exact hk), ← h1]
    simp only [Ab.read, hq, show lastW [] k = none from rfl, Option.getD_none, List.getD]
    rw [List.getElem?_eq_getElem (by rw [h.len]; exact hk)]; rfl
  · rw [List.getElem?_eq_none (by rw [h.len]; omega), List.getElem?_eq_none (by rw [h.wlen]; omega)]
abbrev qF : Pa := ⟨false, 0, true⟩
abbrev qX : Pa := ⟨true, 0, false⟩
/-- Power fails at a flush of what is flushed: nothing changes. -/
theorem RdW.fails {K : Nat} {W : List Sec} {a : Ab} (h : RdW K W a 0) (k m : Int) : flushE (a.tear k m) qF = 13 ∧ flushA (a.tear k m) qF = a.tear k m ∧ flushP (a.tear k m) qF = qX := by
  obtain ⟨hq, hs⟩ := h.stable
  have hd : (a.tear k m).down qF = false := by simp [Ab.down, Ab.tear, h.out]
  have hf : qF.falls = true := rfl
  have hc : (a.tear k m).cut = a.tear k m := by
    have ho : (a.tear k m).out = false := h.out
    have hq2 : (a.tear k m).Q = [] := hq
    generalize a.tear k m = y at ho hq2
    cases y
    simp only at ho hq2
    subst ho; subst hq2
    rfl
  simp only [flushE, flushA, flushP, hd, hf, hc, Bool.false_eq_true, if_false, if_true, true_and]
  rfl
theorem RdW.tear {K m : Nat} {W : List Sec} {a : Ab} (h : RdW K W a m) (k b : Int) : RdW K W (a.tear k b) m := ⟨Ab.tear_ok h.ok, h.len, h.out, h.lies, h.many, h.wlen, h.read⟩
end Go.Sl
