/- Sealed sectors (own work): the little sum, the packed sector, what it is sealed of; plain laws. -/
import Derived.Test.YtoaalclbplgegaaSlI
import Derived.Test.YtoaalclbplgegaaWi
import Derived.Test.YtoaalclbplgegaaDw
set_option linter.unusedVariables false
set_option linter.unusedSimpArgs false
namespace Go.Sl
abbrev M64 : Nat := 18446744073709551616
theorem wu64_mod (n : Nat) : IntKind.u64.wrap (n : Int) = ((n % M64 : Nat) : Int) := by
  simp only [IntKind.wrap, IntKind.bits, IntKind.signed]; simp
theorem wu64_add (a b : Nat) : IntKind.u64.wrap ((a : Int) + (b : Int)) = (((a + b) % M64 : Nat) : Int) := by rw [← Int.natCast_add, wu64_mod]
theorem wu64_mul (a b : Nat) : IntKind.u64.wrap ((a : Int) * (b : Int)) = (((a * b) % M64 : Nat) : Int) := by rw [← Int.natCast_mul, wu64_mod]
def l1s (x : Nat) (b : UInt8) : Nat := ((x + b.toNat) % M64) * 1099511628211 % M64
def l2s (x : Nat) (b : UInt8) : Nat := (((x + b.toNat) % M64 + 1) % M64) * 1099511628211 % M64
def lsX (x : Nat) : Nat → Nat
  | 0 => x
  | i + 1 => (lsX x i * 6364136223846793005 % M64 + 1442695040888963407) % M64
def litO (x : Nat) : List UInt8 := (List.range 16).map fun i => UInt8.ofNat (lsX x (i + 1) / 72057594037927936)
def ls1 (x : Nat) (k : List UInt8) : Nat := k.foldl l1s x
def ls2 (x : Nat) (u : List UInt8) : Nat := u.foldl l2s x
/-- The little cipher's sum. -/
def litSum (k u : List UInt8) : List UInt8 := litO (ls2 (ls1 (u.length % M64) k) u)
theorem litO_len (x : Nat) : (litO x).length = 16 := by simp [litO]
theorem litSum_len (k u : List UInt8) : (litSum k u).length = 16 := litO_len _
theorem foldl_take {α : Type} (f : α → UInt8 → α) (x : α) {k : List UInt8} {i : Nat} (h : i < k.length) : (k.take (i + 1)).foldl f x = f ((k.take i).foldl f x) (k.getD i 0) := by
  rw [List.take_succ_eq_append_getElem h, List.foldl_append]
  simp [List.getD, h]
theorem ls1_step {x : Nat} {k : List UInt8} {i : Nat} (h : i < k.length) : IntKind.u64.wrap (IntKind.u64.wrap (((ls1 x (k.take i) : Nat) : Int) + ((k.getD i 0).toNat : Int)) * 1099511628211) = ((ls1 x (k.take (i + 1)) : Nat) : Int) := by
  rw [wu64_add, show (1099511628211 : Int) = ((1099511628211 : Nat) : Int) from rfl, wu64_mul, ls1, ls1, foldl_take _ _ h]; rfl
theorem ls2_step {x : Nat} {k : List UInt8} {i : Nat} (h : i < k.length) : IntKind.u64.wrap (IntKind.u64.wrap (IntKind.u64.wrap (((ls2 x (k.take i) : Nat) : Int) + ((k.getD i 0).toNat : Int)) + 1) * 1099511628211) = ((ls2 x (k.take (i + 1)) : Nat) : Int) := by
  rw [wu64_add, show (1 : Int) = ((1 : Nat) : Int) from rfl, wu64_add, show (1099511628211 : Int) = ((1099511628211 : Nat) : Int) from rfl, wu64_mul, ls2, ls2, foldl_take _ _ h]; rfl
theorem lsX_step (x i : Nat) : IntKind.u64.wrap (IntKind.u64.wrap (((lsX x i : Nat) : Int) * 6364136223846793005) + 1442695040888963407) = ((lsX x (i + 1) : Nat) : Int) := by
  rw [show (6364136223846793005 : Int) = ((6364136223846793005 : Nat) : Int) from rfl, wu64_mul, show (1442695040888963407 : Int) = ((1442695040888963407 : Nat) : Int) from rfl, wu64_add]; rfl
theorem lsX_lt (x i : Nat) : lsX x (i + 1) < M64 := Nat.mod_lt _ (by decide)
theorem ls1_len {x : Nat} {k : List UInt8} (h : x < M64) : ls1 x k < M64 := by
  unfold ls1
  induction k generalizing x with
  | nil => exact h
  | cons b k ih => exact ih (Nat.mod_lt _ (by decide))
theorem lit_byte (x i : Nat) : IntKind.u8.wrap (((lsX x (i + 1) : Nat) : Int).fdiv (2 ^ (min (56 : Int).toNat IntKind.u64.bits))) = ((UInt8.ofNat (lsX x (i + 1) / 72057594037927936)).toNat : Int) := by
  have h : lsX x (i + 1) < 18446744073709551616 := lsX_lt x i
  have e1 : (min (56 : Int).toNat IntKind.u64.bits) = 56 := by decide
  rw [e1, Int.fdiv_eq_ediv_of_nonneg _ (by decide), show ((2 : Int) ^ 56) = ((72057594037927936 : Nat) : Int) from by decide, ← Int.natCast_ediv]
  have h2 : lsX x (i + 1) / 72057594037927936 < 256 := by omega
  rw [wu8 (by omega) (by omega)]
  simp
  omega
theorem litO_get {x i : Nat} (h : i < 16) : (litO x)[i]? = some (UInt8.ofNat (lsX x (i + 1) / 72057594037927936)) := by simp [litO, h]
/-! ### The sealed sector -/
def K0 : List UInt8 := List.replicate 32 0
theorem K0_len : K0.length = 32 := rfl
/-- What stands behind the sum. -/
def restS (gen : Nat) (body : List UInt8) : List UInt8 := be gen 8 ++ (UInt8.ofNat body.length :: (body ++ List.replicate (103 - body.length) 0))
def sumS (a : Nat) (s : List UInt8) : List UInt8 := litSum K0 (be a 4 ++ s.drop 16)
def packS (a gen : Nat) (body : List UInt8) : Sec := sumS a (List.replicate 16 0 ++ restS gen body) ++ restS gen body
abbrev packOk (a : Int) (body : List UInt8) : Prop := 0 ≤ a ∧ a < 4096 ∧ body.length ≤ 103
def genS (s : Sec) : Nat := val ((s.drop 16).take 8)
def lenS (s : Sec) : Nat := (s.getD 24 0).toNat
def bodyS (s : Sec) : List UInt8 := (s.drop 25).take (lenS s)
/-- Is it sealed at the place? -/
abbrev isS (a : Int) (s : Sec) : Prop := lenS s ≤ 103 ∧ 0 ≤ a ∧ a < 4096 ∧ packS a.toNat (genS s) (bodyS s) = s
theorem sumS_len (a : Nat) (s : List UInt8) : (sumS a s).length = 16 := litSum_len _ _
theorem restS_len {gen : Nat} {body : List UInt8} (h : body.length ≤ 103) : (restS gen body).length = 112 := by simp [restS, be_length]; omega
theorem packS_len {a gen : Nat} {body : List UInt8} (h : body.length ≤ 103) : (packS a gen body).length = 128 := by rw [packS, List.length_append, sumS_len, restS_len h]
theorem packS_drop (a gen : Nat) (body : List UInt8) : (packS a gen body).drop 16 = restS gen body := by rw [packS, List.drop_left' (sumS_len _ _)]
theorem packS_gen {a gen : Nat} {body : List UInt8} (h : gen < M64) : genS (packS a gen body) = gen := by
  rw [genS, packS_drop, restS, List.take_left' (be_length _ _), val_be]
  exact Nat.mod_eq_of_lt h
theorem rest_getD {gen : Nat} {body : List UInt8} (s : List UInt8) (hs : s.length = 16) : (s ++ restS gen body).getD 24 0 = UInt8.ofNat body.length := by
  have : (s ++ restS gen body)[24]? = some (UInt8.ofNat body.length) := by
    rw [List.getElem?_append_right (by omega), restS, List.getElem?_append_right (by rw [be_length]; omega), be_length, hs]
    rfl
  simp [List.getD, this]
theorem packS_lenS {a gen : Nat} {body : List UInt8} (h : body.length ≤ 103) : lenS (packS a gen body) = body.length := by
  rw [lenS, packS, rest_getD _ (sumS_len _ _)]
  simp; omega
theorem packS_body {a gen : Nat} {body : List UInt8} (h : body.length ≤ 103) : bodyS (packS a gen body) = body := by
  rw [bodyS, packS_lenS h, show 25 = 16 + 9 by omega, ← List.drop_drop, packS_drop, restS]
  rw [show be gen 8 ++ (UInt8.ofNat body.length :: (body ++ List.replicate (103 - body.length) 0)) = (be gen 8 ++ [UInt8.ofNat body.length]) ++ (body ++ List.replicate (103 - body.length) 0) by simp]
  rw [List.drop_left' (by simp [be_length]), List.take_left' rfl]
theorem packS_isS {a : Int} {gen : Nat} {body : List UInt8} (h : packOk a body) (hg : gen < M64) : isS a (packS a.toNat gen body) := by
  obtain ⟨h1, h2, h3⟩ := h
  refine ⟨by rw [packS_lenS h3]; exact h3, h1, h2, ?_⟩
  rw [packS_gen hg, packS_body h3]
theorem packS_inj {a b g1 g2 : Nat} {x y : List UInt8} (hx : x.length ≤ 103) (hy : y.length ≤ 103) (h1 : g1 < M64) (h2 : g2 < M64) (h : packS a g1 x = packS b g2 y) : g1 = g2 ∧ x = y := by
  have e1 := packS_gen (a := a) (body := x) h1
  have e2 := packS_body (a := a) (gen := g1) hx
  rw [h, packS_gen h2] at e1
  rw [h, packS_body hy] at e2
  exact ⟨e1.symm, e2.symm⟩
theorem genS_lt {s : Sec} : genS s < M64 := by
  have h1 := val_lt ((s.drop 16).take 8)
  have h2 : (256 : Nat) ^ ((s.drop 16).take 8).length ≤ 256 ^ 8 := Nat.pow_le_pow_right (by decide) (by simp; omega)
  exact Nat.lt_of_lt_of_le h1 h2
theorem bodyS_len {s : Sec} (hs : s.length = 128) (h : lenS s ≤ 103) : (bodyS s).length = lenS s := by simp [bodyS]; omega
theorem w8n {n : Nat} (h : n < 256) : IntKind.u8.wrap (n : Int) = ((UInt8.ofNat n).toNat : Int) := by rw [wu8 (by omega) (by omega)]; simp; omega
/-! ### A sector while it is packed -/
def pS1 (gen : Nat) : List UInt8 := List.replicate 16 0 ++ (be gen 8 ++ List.replicate 104 0)
def pS2 (gen n : Nat) : List UInt8 := List.replicate 16 0 ++ (be gen 8 ++ (UInt8.ofNat n :: List.replicate 103 0))
def pS3 (gen : Nat) (body : List UInt8) : List UInt8 := List.replicate 16 0 ++ restS gen body
theorem pS1_len (gen : Nat) : (pS1 gen).length = 128 := by simp [pS1, be_length]
theorem pS2_len (gen n : Nat) : (pS2 gen n).length = 128 := by simp [pS2, be_length]
theorem pS3_len {gen : Nat} {body : List UInt8} (h : body.length ≤ 103) : (pS3 gen body).length = 128 := by rw [pS3, List.length_append, restS_len h]; rfl
theorem pk1 (gen : Nat) : spl (bs (secOf 0)) 16 (bs (be gen 8)) = bs (pS1 gen) := by
  rw [spl_bs (by simp [be_length, secOf]), be_length]
  simp [secOf, pS1]
theorem pk2 {gen n : Nat} : (bs (pS1 gen)).set 24 (.int .u8 ((UInt8.ofNat n).toNat : Int)) = bs (pS2 gen n) := by
  rw [show (Value.int .u8 ((UInt8.ofNat n).toNat : Int)) = u8 (UInt8.ofNat n) from rfl, bs_set, pS1, pS2, List.set_append_right _ _ (by simp), List.set_append_right _ _ (by simp [be_length])]
  simp [be_length, List.replicate_succ]
theorem pk3 {gen : Nat} {body : List UInt8} (h : body.length ≤ 103) : spl (bs (pS2 gen body.length)) 25 (bs body) = bs (pS3 gen body) := by
  have e : pS2 gen body.length = (List.replicate 16 0 ++ (be gen 8 ++ [UInt8.ofNat body.length])) ++ List.replicate 103 0 := by simp [pS2]
  have hl : (List.replicate 16 (0 : UInt8) ++ (be gen 8 ++ [UInt8.ofNat body.length])).length = 25 := by simp [be_length]
  rw [spl_bs (by rw [pS2_len]; omega)]
  congr 1
  rw [e, List.take_left' hl, ← List.drop_drop, List.drop_left' hl, List.drop_replicate]
  simp [pS3, restS]
theorem pk4 {gen : Nat} {body x : List UInt8} (hx : x.length = 16) : spl (bs (pS3 gen body)) 0 (bs x) = bs (x ++ restS gen body) := by
  rw [spl_bs (by simp [pS3, hx])]
  congr 1
  rw [pS3, hx, Nat.zero_add, List.drop_left' (by simp)]
  simp
theorem pS3_sum {a gen : Nat} {body : List UInt8} : sumS a (pS3 gen body) ++ restS gen body = packS a gen body := rfl
/-! ### What both tell -/
def packR (a : Int) (gen : Nat) (body : List UInt8) : Sec := if packOk a body then packS a.toNat gen body else secOf 0
def unpG (a : Int) (s : Sec) : Nat := if isS a s then genS s else 0
def unpB (a : Int) (s : Sec) : List UInt8 := if isS a s then bodyS s else []
theorem packR_len (a : Int) (gen : Nat) (body : List UInt8) : (packR a gen body).length = 128 := by
  unfold packR; split
  · rename_i h; exact packS_len h.2.2
  · exact secOf_len 0
theorem unpG_lt (a : Int) (s : Sec) : unpG a s < M64 := by
  unfold unpG; split
  · exact genS_lt
  · decide
theorem unpB_len {a : Int} {s : Sec} (hs : s.length = 128) : (unpB a s).length ≤ 103 := by
  unfold unpB; split
  · rename_i h; rw [bodyS_len hs h.1]; exact h.1
  · simp
theorem unp_back {a : Int} {s : Sec} (h : isS a s) : packR a (unpG a s) (unpB a s) = s := by
  rw [unpG, unpB, if_pos h, if_pos h, packR]
  split
  · exact h.2.2.2
  · rename_i hn
    exact absurd ⟨h.2.1, h.2.2.1, by have := h.1; simp [bodyS]; omega⟩ hn
theorem unp_packR {a : Int} {gen : Nat} {body : List UInt8} (h : packOk a body) (hg : gen < M64) : isS a (packR a gen body) ∧ unpG a (packR a gen body) = gen ∧ unpB a (packR a gen body) = body := by
  have e : packR a gen body = packS a.toNat gen body := if_pos h
  have h1 := packS_isS h hg
  rw [e]
  exact ⟨h1, by rw [unpG, if_pos h1, packS_gen hg], by rw [unpB, if_pos h1, packS_body h.2.2]⟩
/-! ### The document's packing -/
theorem map_set {α : Type} (f f' : Nat → α) (n i : Nat) (h : ∀ j, j ≠ i → f j = f' j) : ((List.range n).map f).set i (f' i) = (List.range n).map f' := by
  apply List.ext_getElem?
  intro j
  rw [List.getElem?_set]
  by_cases hj : i = j
  · subst hj
    by_cases hi : i < n <;> simp [hi]
  · simp only [hj, if_false, List.getElem?_map]
    by_cases hi : j < n
    · simp [hi, h j (Ne.symm hj)]
    · simp [List.getElem?_eq_none (show (List.range n).length ≤ j by simp; omega)]
theorem set_mid {A X B : List UInt8} {r j : Nat} {v : UInt8} (hr : A.length + j = r) (hj : j < X.length) : (bs (A ++ (X ++ B))).set r (.int .u8 (v.toNat : Int)) = bs (A ++ (X.set j v ++ B)) := by
  rw [show (Value.int .u8 (v.toNat : Int)) = u8 v from rfl, bs_set, ← hr, List.set_append_right _ _ (by omega), Nat.add_sub_cancel_left, List.set_append_left _ _ hj]
def rB (gen k : Nat) : List UInt8 := (List.range 8).map fun j => if 8 ≤ j + k then UInt8.ofNat (gen / 256 ^ (7 - j) % 256) else 0
def rP0 (gen k : Nat) : List UInt8 := List.replicate 16 0 ++ (rB gen k ++ List.replicate 104 0)
theorem rP0_0 (gen : Nat) : rP0 gen 0 = secOf 0 := by
  have : rB gen 0 = List.replicate 8 0 := by
    rw [show List.replicate 8 (0 : UInt8) = (List.range 8).map fun _ => 0 from rfl, rB]
    apply List.map_congr_left
    intro j hj
    rw [if_neg (by have := List.mem_range.1 hj; omega)]
  rw [rP0, this, secOf]
  rfl
theorem rP0_8 (gen : Nat) : rP0 gen 8 = pS1 gen := by
  have : rB gen 8 = be gen 8 := by
    rw [rB, be]
    apply List.map_congr_left
    intro j hj
    rw [if_pos (by omega)]
  rw [rP0, this, pS1]
theorem rP0_len (gen k : Nat) : (rP0 gen k).length = 128 := by simp [rP0, rB]
theorem rP0_step {gen k : Nat} (h : k < 8) : (bs (rP0 gen k)).set (16 + (7 - k)) (.int .u8 ((UInt8.ofNat (gen / 256 ^ k % 256)).toNat : Int)) = bs (rP0 gen (k + 1)) := by
  rw [rP0, set_mid (j := 7 - k) (by simp) (by simp [rB]; omega), rP0]
  congr 3
  rw [rB, rB]
  have := map_set (fun j => if 8 ≤ j + k then UInt8.ofNat (gen / 256 ^ (7 - j) % 256) else 0) (fun j => if 8 ≤ j + (k + 1) then UInt8.ofNat (gen / 256 ^ (7 - j) % 256) else 0) 8 (7 - k) (fun j hj => by
    by_cases h1 : 8 ≤ j + k
    · simp [h1, show 8 ≤ j + (k + 1) by omega]
    · simp [h1, show ¬ 8 ≤ j + (k + 1) by omega])
  simp only [show 8 ≤ 7 - k + (k + 1) by omega, if_true, show 7 - (7 - k) = k by omega] at this
  exact this
def rP2 (gen : Nat) (body : List UInt8) (i : Nat) : List UInt8 := (List.replicate 16 0 ++ (be gen 8 ++ [UInt8.ofNat body.length])) ++ ((body.take i ++ List.replicate (103 - i) 0) ++ [])
theorem rP2_0 (gen : Nat) (body : List UInt8) : rP2 gen body 0 = pS2 gen body.length := by simp [rP2, pS2]
theorem rP2_len {gen : Nat} {body : List UInt8} {i : Nat} (h : body.length ≤ 103) (hi : i ≤ body.length) : (rP2 gen body i).length = 128 := by simp [rP2, be_length]; omega
theorem rP2_step {gen : Nat} {body : List UInt8} {i : Nat} (h : body.length ≤ 103) (hi : i < body.length) : (bs (rP2 gen body i)).set (25 + i) (.int .u8 ((body.getD i 0).toNat : Int)) = bs (rP2 gen body (i + 1)) := by
  have h0 : i - (body.take i).length = 0 := by simp; omega
  have e : body.getD i 0 = body[i] := by simp [List.getD, hi]
  rw [rP2, set_mid (j := i) (by simp [be_length]) (by simp; omega), rP2]
  congr 3
  rw [List.take_succ_eq_append_getElem hi, List.set_append_right _ _ (by simp; omega), h0, show 103 - i = (103 - (i + 1)) + 1 by omega, List.replicate_succ, List.set_cons_zero, e, List.append_assoc]
  rfl
theorem rP2_all {gen : Nat} {body : List UInt8} : rP2 gen body body.length = pS3 gen body := by simp [rP2, pS3, restS]
def rP4 (gen : Nat) (body x : List UInt8) (i : Nat) : List UInt8 := [] ++ ((x.take i ++ List.replicate (16 - i) 0) ++ restS gen body)
theorem rP4_0 (gen : Nat) (body x : List UInt8) : rP4 gen body x 0 = pS3 gen body := by simp [rP4, pS3]
theorem rP4_len {gen : Nat} {body x : List UInt8} {i : Nat} (h : body.length ≤ 103) (hx : x.length = 16) (hi : i ≤ 16) : (rP4 gen body x i).length = 128 := by simp [rP4, restS_len h]; omega
theorem rP4_step {gen : Nat} {body x : List UInt8} {i : Nat} (hx : x.length = 16) (hi : i < 16) : (bs (rP4 gen body x i)).set i (.int .u8 ((x.getD i 0).toNat : Int)) = bs (rP4 gen body x (i + 1)) := by
  have hl : i < x.length := by omega
  have h0 : i - (x.take i).length = 0 := by simp; omega
  have e : x.getD i 0 = x[i] := by simp [List.getD, hl]
  rw [rP4, set_mid (j := i) (by simp) (by simp; omega), rP4]
  congr 3
  rw [List.take_succ_eq_append_getElem hl, List.set_append_right _ _ (by simp; omega), h0, show 16 - i = (16 - (i + 1)) + 1 by omega, List.replicate_succ, List.set_cons_zero, e, List.append_assoc]
  rfl
theorem rP4_all {gen : Nat} {body x : List UInt8} (hx : x.length = 16) : rP4 gen body x 16 = x ++ restS gen body := by simp [rP4, List.take_of_length_le (show x.length ≤ 16 by omega)]
theorem be4 {a : Nat} (h : a < 4096) : be a 4 = [0, 0, UInt8.ofNat (a / 256), UInt8.ofNat (a % 256)] := by
  have h1 : a / 16777216 = 0 := by omega
  have h2 : a / 65536 = 0 := by omega
  have h3 : a / 256 % 256 = a / 256 := by omega
  simp [be, List.range_succ, h1, h2, h3]
theorem su_get {s : Sec} {i : Nat} (hs : s.length = 128) (hi : i < 8) : (bs s)[16 + i]? = some (u8 (((s.drop 16).take 8).getD i 0)) := by
  rw [bs_get]
  simp [List.getD, List.getElem?_take_of_lt hi, show 16 + i < s.length by omega]
/-! ### Laws -/
theorem getD_set_self {s : Sec} {i : Nat} {v : UInt8} (hi : i < s.length) (h : v = 0) : s.set i (s.getD i 0 ^^^ v) = s := by
  subst h
  apply List.ext_getElem?
  intro j
  rw [List.getElem?_set]
  by_cases e : i = j
  · subst e
    simp [hi, List.getD]
  · simp [e]
theorem bs_getD {s : List UInt8} {i : Nat} (h : i < s.length) : (bs s)[i]? = some (u8 (s.getD i 0)) := by
  rw [bs_get, List.getElem?_eq_getElem h]
  simp [List.getD, h]
theorem mod4096 (m : Nat) : (0 : Int) ≤ ((m % 4096 : Nat) : Int) ∧ ((m % 4096 : Nat) : Int) < 4096 := by omega
theorem packOk_mod (m : Nat) {body : List UInt8} (h : body.length ≤ 103) : packOk ((m % 4096 : Nat) : Int) body := ⟨(mod4096 m).1, (mod4096 m).2, h⟩
theorem unpB_no {a : Int} {s : Sec} (h : ¬ isS a s) : unpB a s = [] := if_neg h
theorem unp_ok {a : Int} {s : Sec} (hs : s.length = 128) (h : isS a s) : packOk a (unpB a s) := ⟨h.2.1, h.2.2.1, unpB_len hs⟩
theorem packR_apart {m k g1 g2 : Nat} {x y : List UInt8} (hx : x.length ≤ 103) (hy : y.length ≤ 103) (h1 : g1 < M64) (h2 : g2 < M64) (h : packR ((m % 4096 : Nat) : Int) g1 x = packR ((k % 4096 : Nat) : Int) g2 y) : g1 = g2 ∧ x = y := by
  rw [packR, if_pos (packOk_mod m hx), packR, if_pos (packOk_mod k hy)] at h
  exact packS_inj hx hy h1 h2 h
theorem packR_eq {m k g1 g2 : Nat} {x y : List UInt8} (hm : ((m % 4096 : Nat) : Int) = ((k % 4096 : Nat) : Int)) (h1 : g1 = g2) (h2 : x = y) : packR ((m % 4096 : Nat) : Int) g1 x = packR ((k % 4096 : Nat) : Int) g2 y := by rw [hm, h1, h2]
theorem ap_t {m k g1 g2 : Nat} {x y : List UInt8} (hx : x.length ≤ 103) (hy : y.length ≤ 103) (h1 : g1 < M64) (h2 : g2 < M64) (hm : ((m % 4096 : Nat) : Int) = ((k % 4096 : Nat) : Int)) (hg : g1 = g2) : (decide (packR ((m % 4096 : Nat) : Int) g1 x = packR ((k % 4096 : Nat) : Int) g2 y) == decide (x = y)) = true := by
  by_cases h : x = y
  · rw [decide_eq_true (packR_eq hm hg h), decide_eq_true h]; rfl
  · rw [decide_eq_false (fun e => h (packR_apart hx hy h1 h2 e).2), decide_eq_false h]; rfl
theorem ap_f {m k g1 g2 : Nat} {x y : List UInt8} (hx : x.length ≤ 103) (hy : y.length ≤ 103) (h1 : g1 < M64) (h2 : g2 < M64) (hg : ¬ g1 = g2) : (decide (packR ((m % 4096 : Nat) : Int) g1 x = packR ((k % 4096 : Nat) : Int) g2 y) == false) = true := by
  rw [decide_eq_false (fun e => hg (packR_apart hx hy h1 h2 e).1)]; rfl
theorem ap_n {m k g1 g2 : Nat} {x y : List UInt8} (hx : x.length ≤ 103) (hy : y.length ≤ 103) (h1 : g1 < M64) (h2 : g2 < M64) (h : ¬ (g1 = g2 ∧ x = y)) : (!decide (packR ((m % 4096 : Nat) : Int) g1 x = packR ((k % 4096 : Nat) : Int) g2 y)) = true := by
  rw [decide_eq_false (fun e => h (packR_apart hx hy h1 h2 e))]; rfl
theorem good_ok {a : Int} {gen : Nat} {x : List UInt8} (hg : gen < M64) (hx : x.length ≤ 103) : decide (isS a (packR a gen x)) = decide (packOk a x) := by
  by_cases h : packOk a x
  · rw [decide_eq_true h, decide_eq_true (unp_packR h hg).1]
  · rw [decide_eq_false h, decide_eq_false (fun hi => h ⟨hi.2.1, hi.2.2.1, hx⟩)]
/-- The document's example. -/
abbrev abc : List UInt8 := [97, 98, 99]
def abcS : Sec := packS 5 7 abc
theorem abc_other : ¬ isS 6 abcS := fun h => by
  have h1 : packS 6 7 abc = packS 5 7 abc := by
    have := h.2.2.2
    rwa [abcS, packS_gen (by decide), packS_body (by decide)] at this
  revert h1
  decide +kernel
theorem abc_R : packR 5 7 abc = abcS := if_pos ⟨by decide, by decide, by decide⟩
theorem abc_len : abcS.length = 128 := packS_len (by decide)
theorem abc_unp : unpG 5 abcS = 7 ∧ unpB 5 abcS = abc ∧ isS 5 abcS := by
  have h := unp_packR (a := 5) (gen := 7) (body := abc) ⟨by decide, by decide, by decide⟩ (by decide)
  rw [abc_R] at h
  exact ⟨h.2.1, h.2.2, h.1⟩
theorem abc_3 : (bs abcS)[24]? = some (.int .u8 3) := by
  rw [bs_get, abcS, packS, List.getElem?_append_right (by rw [sumS_len]; decide), sumS_len]
  rfl
theorem abc_is : isS 5 abcS := packS_isS (a := 5) ⟨by decide, by decide, by decide⟩ (by decide)
end Go.Sl
