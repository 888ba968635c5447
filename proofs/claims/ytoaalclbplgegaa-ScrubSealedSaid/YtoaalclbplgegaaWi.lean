/- Numbers as bytes, the highest first (own work): plain facts. -/
import Derived.Test.YtoaalclbplgegaaSlF
set_option linter.unusedVariables false
namespace Go.Sl
/-- The bytes of a number, so many. -/
def be (n k : Nat) : List UInt8 := (List.range k).map fun i => UInt8.ofNat (n / 256 ^ (k - 1 - i) % 256)
def val (l : List UInt8) : Nat := l.foldl (fun a b => a * 256 + b.toNat) 0
theorem be_length (n k : Nat) : (be n k).length = k := by simp [be]
theorem val_snoc (l : List UInt8) (b : UInt8) : val (l ++ [b]) = val l * 256 + b.toNat := by simp [val]
theorem val_lt (l : List UInt8) : val l < 256 ^ l.length := by
  suffices h : ∀ (l : List UInt8) (a : Nat), l.foldl (fun a b => a * 256 + b.toNat) a < (a + 1) * 256 ^ l.length by simpa [val] using h l 0
  intro l
  induction l with
  | nil => intro a; simp
  | cons b l ih =>
    intro a
    simp only [List.foldl_cons, List.length_cons]
    have h1 := ih (a * 256 + b.toNat)
    have hb := b.toNat_lt
    have h2 : (a * 256 + b.toNat + 1) * 256 ^ l.length ≤ ((a + 1) * 256) * 256 ^ l.length := Nat.mul_le_mul_right _ (by omega)
    calc _ < _ := h1
      _ ≤ _ := h2
      _ = (a + 1) * 256 ^ (l.length + 1) := by rw [Nat.pow_succ, Nat.mul_assoc, Nat.mul_comm 256]
theorem be_get {n k i : Nat} (h : i < k) : (be n k)[i]? = some (UInt8.ofNat (n / 256 ^ (k - 1 - i) % 256)) := by simp [be, h]
theorem be_zero (n : Nat) : be n 0 = [] := rfl
theorem be_succ (n k : Nat) : be n (k + 1) = be (n / 256) k ++ [UInt8.ofNat (n % 256)] := by
  apply List.ext_getElem?
  intro i
  by_cases h : i < k
  · rw [be_get (by omega), List.getElem?_append_left (by simp [be_length, h]), be_get h]
    congr 3
    rw [Nat.div_div_eq_div_mul]
    congr 1
    rw [show k + 1 - 1 - i = (k - 1 - i) + 1 by omega, Nat.pow_succ, Nat.mul_comm]
  · by_cases h2 : i = k
    · subst h2
      rw [be_get (by omega), List.getElem?_append_right (by simp [be_length])]
      simp [be_length]
    · rw [List.getElem?_eq_none (by simp [be_length]; omega), List.getElem?_eq_none (by simp [be_length]; omega)]
theorem val_be (k : Nat) : ∀ n, val (be n k) = n % 256 ^ k := by
  induction k with
  | zero => intro n; simp [be_zero, val, Nat.mod_one]
  | succ k ih =>
    intro n
    rw [be_succ, val_snoc, ih]
    have h1 : (UInt8.ofNat (n % 256)).toNat = n % 256 := by simp
    rw [h1, Nat.pow_succ, Nat.mul_comm (256 ^ k) 256, Nat.mod_mul]
    omega
theorem be_val (l : List UInt8) : be (val l) l.length = l := by
  suffices h : ∀ (m : Nat) (l : List UInt8), l.length = m → be (val l) m = l from h _ l rfl
  intro m
  induction m with
  | zero => intro l h; have := List.eq_nil_of_length_eq_zero h; subst this; rfl
  | succ m ih =>
    intro l h
    have hne : l ≠ [] := by intro e; subst e; simp at h
    have e := List.dropLast_concat_getLast hne
    have hl : l.dropLast.length = m := by simp [h]
    rw [← e, be_succ, val_snoc]
    have hb := (l.getLast hne).toNat_lt
    rw [show (val l.dropLast * 256 + (l.getLast hne).toNat) / 256 = val l.dropLast by omega, ih _ hl]
    rw [show (val l.dropLast * 256 + (l.getLast hne).toNat) % 256 = (l.getLast hne).toNat by omega]
    simp
theorem put_byte {n k i : Nat} (h : i < k) (hk : k ≤ 8) :
    IntKind.u8.wrap (((n : Nat) : Int).fdiv (2 ^ (min ((8 * ((k : Int) - 1 - i)).toNat) IntKind.u64.bits))) = ((UInt8.ofNat (n / 256 ^ (k - 1 - i) % 256)).toNat : Int) := by
  have e1 : (8 * ((k : Int) - 1 - i)).toNat = 8 * (k - 1 - i) := by omega
  have e2 : min (8 * (k - 1 - i)) IntKind.u64.bits = 8 * (k - 1 - i) := by simp [IntKind.bits]; omega
  rw [e1, e2, IntKind.wrap_u8]
  have e3 : ((n : Nat) : Int).fdiv (2 ^ (8 * (k - 1 - i))) = ((n / 256 ^ (k - 1 - i) : Nat) : Int) := by
    rw [Int.fdiv_eq_ediv_of_nonneg _ (Int.pow_nonneg (by decide))]
    rw [show (256 : Nat) ^ (k - 1 - i) = 2 ^ (8 * (k - 1 - i)) by rw [Nat.pow_mul]]
    norm_cast
  rw [e3]
  simp
theorem put_step {l : List UInt8} {k i : Nat} {b : UInt8} (hl : l.length = k) (hi : i < k) (hb : l[i]? = some b) :
    (bs (l.take i ++ List.replicate (k - i) 0)).set i (u8 b) = bs (l.take (i + 1) ++ List.replicate (k - (i + 1)) 0) := by
  rw [bs_set]
  congr 1
  apply List.ext_getElem?
  intro j
  rw [List.getElem?_set]
  by_cases h1 : i = j
  · subst h1
    rw [if_pos rfl, if_pos (by simp; omega), List.getElem?_append_left (by simp; omega), List.getElem?_take_of_lt (by omega), hb]
  · rw [if_neg h1]
    by_cases h2 : j < i
    · rw [List.getElem?_append_left (by simp; omega), List.getElem?_append_left (by simp; omega), List.getElem?_take_of_lt h2, List.getElem?_take_of_lt (by omega)]
    · rw [List.getElem?_append_right (by simp; omega), List.getElem?_append_right (by simp; omega)]
      simp only [List.getElem?_replicate, List.length_take]
      congr 1
      simp
      omega
theorem zc8 (k : Nat) : zcells [.int .u8 0] k = bs (List.replicate k 0) := by
  unfold zcells
  induction k with
  | zero => rfl
  | succ k ih => rw [List.replicate_succ, List.flatten_cons, ih, List.replicate_succ]; rfl
theorem get_step {a : Nat} {b : UInt8} (h : a < 256 ^ 7) : bits .or .u64 (IntKind.u64.wrap ((a : Int) * 2 ^ (min (8 : Int).toNat IntKind.u64.bits))) (b.toNat : Int) = ((a * 256 + b.toNat : Nat) : Int) := by
  have hb := b.toNat_lt
  have e1 : (min (8 : Int).toNat IntKind.u64.bits) = 8 := by decide
  rw [e1]
  have e2 : IntKind.u64.wrap ((a : Int) * 2 ^ 8) = ((a * 256 : Nat) : Int) := by
    rw [wu64 (by omega) (by omega)]
    omega
  rw [e2]
  have e3 : (BitVec.ofInt 64 ((a * 256 : Nat) : Int) ||| BitVec.ofInt 64 ((b.toNat : Nat) : Int)).toNat = a * 256 + b.toNat := by
    simp only [BitVec.ofInt_natCast, BitVec.toNat_or, BitVec.toNat_ofNat]
    rw [Nat.mod_eq_of_lt (by omega), Nat.mod_eq_of_lt (by omega)]
    rw [show a * 256 = a <<< 8 by simp [Nat.shiftLeft_eq], Nat.shiftLeft_add_eq_or_of_lt (by omega)]
  show IntKind.u64.wrap ((BitVec.ofInt 64 ((a * 256 : Nat) : Int) ||| BitVec.ofInt 64 ((b.toNat : Nat) : Int)).toNat : Int) = _
  rw [e3]
  exact wu64 (by omega) (by omega)
theorem be_cons (n k : Nat) : be n (k + 1) = UInt8.ofNat (n / 256 ^ k % 256) :: be n k := by
  apply List.ext_getElem?
  intro i
  cases i with
  | zero => rw [be_get (by omega)]; simp
  | succ i =>
    simp only [List.getElem?_cons_succ]
    by_cases h : i < k
    · rw [be_get (by omega), be_get h, show k + 1 - 1 - (i + 1) = k - 1 - i by omega]
    · rw [List.getElem?_eq_none (by simp [be_length]; omega), List.getElem?_eq_none (by simp [be_length]; omega)]
theorem rem_byte (n : Nat) : IntKind.u8.wrap (((n : Nat) : Int).tmod 256) = ((UInt8.ofNat (n % 256)).toNat : Int) := by
  rw [IntKind.wrap_u8, Int.tmod_eq_emod_of_nonneg (by omega)]
  simp
theorem quo_256 {n : Nat} (h : n < 18446744073709551616) : IntKind.u64.wrap (((n : Nat) : Int).tdiv 256) = ((n / 256 : Nat) : Int) := by
  rw [Int.tdiv_eq_ediv_of_nonneg (by omega)]
  rw [wu64 (by omega) (by omega)]
  omega
theorem mul_add_256 {a : Nat} {b : UInt8} (h : a < 256 ^ 7) : IntKind.u64.wrap (IntKind.u64.wrap ((a : Int) * 256) + (b.toNat : Int)) = ((a * 256 + b.toNat : Nat) : Int) := by
  have hb := b.toNat_lt
  rw [wu64 (m := (a : Int) * 256) (by omega) (by omega), wu64 (by omega) (by omega)]
  omega
theorem getb {l : List Value} {off m i : Nat} {u : List UInt8} (h : (l.drop off).take m = bs u) (hi : i < m) (hu : u.length = m) : l[off + ((i : Nat) : Int).toNat * 1]? = some (u8 (u.getD i 0)) := by
  have h1 : ((l.drop off).take m)[i]? = some (u8 (u.getD i 0)) := by
    rw [h, bs_get]
    simp [List.getD, List.getElem?_eq_getElem (show i < u.length by omega)]
  rw [List.getElem?_take_of_lt hi, List.getElem?_drop] at h1
  simpa using h1
theorem val_take {u : List UInt8} {i : Nat} (h : i < u.length) : val (u.take (i + 1)) = val (u.take i) * 256 + (u.getD i 0).toNat := by
  rw [List.take_succ_eq_append_getElem h, val_snoc]
  simp [List.getD, List.getElem?_eq_getElem h]
theorem val_take_lt {u : List UInt8} {i : Nat} (h : i ≤ 7) : val (u.take i) < 256 ^ 7 := by
  have h1 := val_lt (u.take i)
  have h2 : (256 : Nat) ^ (u.take i).length ≤ 256 ^ 7 := Nat.pow_le_pow_right (by decide) (by simp; omega)
  omega
theorem src_sl {P : Program} {w0 : World} {H : Hp} {e sz len s : Nat} {gs : Option SlG} {xs : List Value} (hs : H[s]? = some (slSeg e gs xs)) (hok : slOk sz gs len xs) : Src P w0 H sz (slV gs len) len xs := by
  cases gs with
  | none =>
    obtain ⟨h1, rfl⟩ := hok
    have : xs = [] := List.eq_nil_of_length_eq_zero (by simpa using h1)
    subst this
    exact src_nil
  | some g =>
    obtain ⟨h1, h2, h3⟩ := hok
    refine src_slice (sees_mem (List.mem_flatten.2 ⟨_, List.mem_of_getElem? hs, List.mem_singleton.2 rfl⟩)) ?_ ?_
    · simp; omega
    · rw [List.drop_zero, ← h1, List.take_left' rfl]
theorem HSub.of_eq {H H' : Hp} (h : H' = H) : HSub H' H := by rw [h]; exact HSub.refl _
end Go.Sl
