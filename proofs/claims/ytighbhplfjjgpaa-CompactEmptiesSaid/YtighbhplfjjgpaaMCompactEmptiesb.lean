/- Own work: texts So, G2W, G3W, put together. -/
import Derived.Laws.Bits64
import Derived.Laws.Bits64b
import Derived.Test.YtighbhplfjjgpaaMCompactEmptiesa
/- The rest of slices.Sort, as the code has it: each round of each loop (own work). -/
set_option linter.unusedVariables false
set_option linter.unusedSimpArgs false
namespace Go.Sl
open Go.Sort (swp)
theorem ix0 (x : Nat) : 0 + ((x : Nat) : Int).toNat * 1 = x := by simp
section
variable {hi first root : Nat} {d : Array Nat}
theorem sd_stop (h : hi ≤ 2 * root + 1) : Go.Sort.siftDown ltN hi first root d = d := by rw [Go.Sort.siftDown, dif_pos h]
theorem sd_2 (h : 2 * root + 2 < hi) (hl : ltN d[first + (2 * root + 1)]! d[first + (2 * root + 2)]! = true) (hg : ltN d[first + root]! d[first + (2 * root + 2)]! = true) :
    Go.Sort.siftDown ltN hi first root d = Go.Sort.siftDown ltN hi first (2 * root + 2) (swp d (first + root) (first + (2 * root + 2))) := by
  have hl' : ltN d[first + (2 * root + 1)]! d[first + (2 * root + 1) + 1]! = true := hl
  rw [Go.Sort.siftDown, dif_neg (by omega), if_pos (by rw [hl', decide_eq_true (by omega : 2 * root + 1 + 1 < hi)]; rfl), if_neg (by rw [hg]; decide), dif_pos h]
theorem sd_2s (h : 2 * root + 2 < hi) (hl : ltN d[first + (2 * root + 1)]! d[first + (2 * root + 2)]! = true) (hg : ltN d[first + root]! d[first + (2 * root + 2)]! = false) :
    Go.Sort.siftDown ltN hi first root d = d := by
  have hl' : ltN d[first + (2 * root + 1)]! d[first + (2 * root + 1) + 1]! = true := hl
  rw [Go.Sort.siftDown, dif_neg (by omega), if_pos (by rw [hl', decide_eq_true (by omega : 2 * root + 1 + 1 < hi)]; rfl), if_pos (by rw [hg]; rfl)]
theorem sd_1 (h : 2 * root + 1 < hi) (hn : ¬ 2 * root + 2 < hi ∨ ltN d[first + (2 * root + 1)]! d[first + (2 * root + 2)]! = false) (hg : ltN d[first + root]! d[first + (2 * root + 1)]! = true) :
    Go.Sort.siftDown ltN hi first root d = Go.Sort.siftDown ltN hi first (2 * root + 1) (swp d (first + root) (first + (2 * root + 1))) := by
  have hc : ¬ ((decide (2 * root + 1 + 1 < hi) && ltN d[first + (2 * root + 1)]! d[first + (2 * root + 1) + 1]!) = true) := by
    rcases hn with hn | hn
    · rw [decide_eq_false (by omega : ¬ 2 * root + 1 + 1 < hi)]; simp
    · have hn' : ltN d[first + (2 * root + 1)]! d[first + (2 * root + 1) + 1]! = false := hn
      rw [hn']; simp
  rw [Go.Sort.siftDown, dif_neg (by omega), if_neg hc, if_neg (by rw [hg]; decide)]
theorem sd_1s (h : 2 * root + 1 < hi) (hn : ¬ 2 * root + 2 < hi ∨ ltN d[first + (2 * root + 1)]! d[first + (2 * root + 2)]! = false) (hg : ltN d[first + root]! d[first + (2 * root + 1)]! = false) :
    Go.Sort.siftDown ltN hi first root d = d := by
  have hc : ¬ ((decide (2 * root + 1 + 1 < hi) && ltN d[first + (2 * root + 1)]! d[first + (2 * root + 1) + 1]!) = true) := by
    rcases hn with hn | hn
    · rw [decide_eq_false (by omega : ¬ 2 * root + 1 + 1 < hi)]; simp
    · have hn' : ltN d[first + (2 * root + 1)]! d[first + (2 * root + 1) + 1]! = false := hn
      rw [hn']; simp
  rw [Go.Sort.siftDown, dif_neg (by omega), if_neg hc, if_pos (by rw [hg]; rfl)]
end
theorem sd_size (hi first : Nat) : ∀ (m root : Nat) (d : Array Nat), hi - root ≤ m → (Go.Sort.siftDown ltN hi first root d).size = d.size := by
  intro m
  induction m with
  | zero => intro root d h; rw [sd_stop (by omega)]
  | succ m ih =>
    intro root d h
    rw [Go.Sort.siftDown]
    split
    · rfl
    · split
      · split
        · rfl
        · split
          · rw [ih _ _ (by omega), swp_size]
          · rfl
      · split
        · rfl
        · rw [ih _ _ (by omega), swp_size]
section
variable {a b i j i2 j2 n : Nat} {d d2 : Array Nat} {p : Nat → Bool}
theorem su_go (h : i ≤ j) (hp : p d[i]! = true) : Go.Sort.scanUp p d j i = Go.Sort.scanUp p d j (i + 1) := by rw [Go.Sort.scanUp, if_pos (by rw [hp, decide_eq_true h]; rfl)]
theorem su_stop (h : ¬ i ≤ j ∨ p d[i]! = false) : Go.Sort.scanUp p d j i = i := by
  rw [Go.Sort.scanUp, if_neg]
  rcases h with h | h
  · rw [decide_eq_false h]; simp
  · rw [h]; simp
theorem sn_go (h : i ≤ j) (hi : 1 ≤ i) (hp : p d[j]! = true) : Go.Sort.scanDown p d i j = Go.Sort.scanDown p d i (j - 1) := by
  cases j with
  | zero => omega
  | succ j => rw [Go.Sort.scanDown, if_pos (by rw [hp, decide_eq_true h]; rfl)]; rfl
theorem sn_stop (h : ¬ i ≤ j ∨ p d[j]! = false) : Go.Sort.scanDown p d i j = j := by
  cases j with
  | zero => rfl
  | succ j =>
    rw [Go.Sort.scanDown, if_neg]
    rcases h with h | h
    · rw [decide_eq_false h]; simp
    · rw [h]; simp
abbrev upP (a : Nat) (d : Array Nat) : Nat → Bool := fun x => ltN x d[a]!
abbrev dnP (a : Nat) (d : Array Nat) : Nat → Bool := fun x => !ltN x d[a]!
abbrev upE (a : Nat) (d : Array Nat) : Nat → Bool := fun x => !ltN d[a]! x
abbrev dnE (a : Nat) (d : Array Nat) : Nat → Bool := fun x => ltN d[a]! x
theorem pl_stop (h1 : Go.Sort.scanUp (upP a d) d j i = i2) (h2 : Go.Sort.scanDown (dnP a d) d i2 j = j2) (h : j2 < i2) : Go.Sort.partLoop ltN a i j d = (j2, d) := by
  rw [Go.Sort.partLoop_eq, h1, h2, if_pos h]
theorem pl_go (h1 : Go.Sort.scanUp (upP a d) d j i = i2) (h2 : Go.Sort.scanDown (dnP a d) d i2 j = j2) (h : ¬ j2 < i2) : Go.Sort.partLoop ltN a i j d = Go.Sort.partLoop ltN a (i2 + 1) (j2 - 1) (swp d i2 j2) := by
  rw [Go.Sort.partLoop_eq, h1, h2, if_neg h]
theorem pe_stop (h1 : Go.Sort.scanUp (upE a d) d j i = i2) (h2 : Go.Sort.scanDown (dnE a d) d i2 j = j2) (h : j2 < i2) : Go.Sort.partEqLoop ltN a i j d = (i2, d) := by
  rw [Go.Sort.partEqLoop_eq, h1, h2, if_pos h]
theorem pe_go (h1 : Go.Sort.scanUp (upE a d) d j i = i2) (h2 : Go.Sort.scanDown (dnE a d) d i2 j = j2) (h : ¬ j2 < i2) : Go.Sort.partEqLoop ltN a i j d = Go.Sort.partEqLoop ltN a (i2 + 1) (j2 - 1) (swp d i2 j2) := by
  rw [Go.Sort.partEqLoop_eq, h1, h2, if_neg h]
variable {d1 : Array Nat} {pivot : Nat}
theorem pt_t (hd1 : d1 = swp d a pivot) (h1 : Go.Sort.scanUp (upP a d1) d1 (b - 1) (a + 1) = i) (h2 : Go.Sort.scanDown (dnP a d1) d1 i (b - 1) = j) (h : j < i) : Go.Sort.partition ltN d a b pivot = (j, true, swp d1 j a) := by
  subst hd1
  unfold Go.Sort.partition
  simp only
  rw [h1, h2, if_pos h]
theorem pt_f (hd1 : d1 = swp d a pivot) (h1 : Go.Sort.scanUp (upP a d1) d1 (b - 1) (a + 1) = i) (h2 : Go.Sort.scanDown (dnP a d1) d1 i (b - 1) = j) (h : ¬ j < i) (hl : Go.Sort.partLoop ltN a (i + 1) (j - 1) (swp d1 i j) = (j2, d2)) : Go.Sort.partition ltN d a b pivot = (j2, false, swp d2 j2 a) := by
  subst hd1
  unfold Go.Sort.partition
  simp only
  rw [h1, h2, if_neg h, hl]
theorem pq_eq (hd1 : d1 = swp d a pivot) : Go.Sort.partitionEqual ltN d a b pivot = Go.Sort.partEqLoop ltN a (a + 1) (b - 1) d1 := by
  subst hd1
  rfl
/-! ### partialInsertionSort -/
theorem ss_go (h : i < b) (hp : ltN d[i]! d[i - 1]! = false) : Go.Sort.scanSorted ltN d b i = Go.Sort.scanSorted ltN d b (i + 1) := by rw [Go.Sort.scanSorted, if_pos (by rw [hp, decide_eq_true h]; rfl)]
theorem ss_stop (h : ¬ i < b ∨ ltN d[i]! d[i - 1]! = true) : Go.Sort.scanSorted ltN d b i = i := by
  rw [Go.Sort.scanSorted, if_neg]
  rcases h with h | h
  · rw [decide_eq_false h]; simp
  · rw [h]; simp
theorem sw_stop (h : j = 0 ∨ ltN d[j]! d[j - 1]! = false) : Go.Sort.shiftDown ltN j d = d := by
  cases j with
  | zero => rfl
  | succ j =>
    rcases h with h | h
    · omega
    · simp only [Nat.add_sub_cancel] at h
      rw [Go.Sort.shiftDown, if_pos (by rw [h]; rfl)]
theorem sw_go (h0 : 1 ≤ j) (h : ltN d[j]! d[j - 1]! = true) : Go.Sort.shiftDown ltN j d = Go.Sort.shiftDown ltN (j - 1) (swp d j (j - 1)) := by
  cases j with
  | zero => omega
  | succ j =>
    simp only [Nat.add_sub_cancel] at h
    rw [Go.Sort.shiftDown, if_neg (by rw [h]; decide)]
    rfl
theorem sp_stop (h : ¬ j < b ∨ ltN d[j]! d[j - 1]! = false) : Go.Sort.shiftUp ltN b j d = d := by
  rw [Go.Sort.shiftUp]
  split
  · rename_i hb
    rcases h with h | h
    · exact absurd hb h
    · rw [if_pos (by rw [h]; rfl)]
  · rfl
theorem sp_go (h0 : j < b) (h : ltN d[j]! d[j - 1]! = true) : Go.Sort.shiftUp ltN b j d = Go.Sort.shiftUp ltN b (j + 1) (swp d j (j - 1)) := by
  rw [Go.Sort.shiftUp, if_pos h0, if_neg (by rw [h]; decide)]
theorem pi_true {s : Nat} (h1 : Go.Sort.scanSorted ltN d b i = i2) (h : i2 = b) : Go.Sort.partialIns ltN a b (s + 1) i d = (d, true) := by
  rw [Go.Sort.partialIns]
  simp only
  rw [h1, if_pos h]
theorem pi_short {s : Nat} (h1 : Go.Sort.scanSorted ltN d b i = i2) (h : ¬ i2 = b) (h5 : b - a < 50) : Go.Sort.partialIns ltN a b (s + 1) i d = (d, false) := by
  rw [Go.Sort.partialIns]
  simp only
  rw [h1, if_neg h, if_pos h5]
theorem pi_go {s : Nat} {da db dc : Array Nat} (h1 : Go.Sort.scanSorted ltN d b i = i2) (h : ¬ i2 = b) (h5 : ¬ b - a < 50) (ha : da = swp d i2 (i2 - 1)) (hb : db = if 2 ≤ i2 - a then Go.Sort.shiftDown ltN (i2 - 1) da else da) (hc : dc = if 2 ≤ b - i2 then Go.Sort.shiftUp ltN b (i2 + 1) db else db) :
    Go.Sort.partialIns ltN a b (s + 1) i d = Go.Sort.partialIns ltN a b s i2 dc := by
  subst ha; subst hb; subst hc
  rw [Go.Sort.partialIns]
  simp only
  rw [h1, if_neg h, if_neg h5]
end
/-! ### bits, patterns -/
theorem rev_go {i j : Nat} {d : Array Nat} (h : i < j) : Go.Sort.reverseLoop i j d = Go.Sort.reverseLoop (i + 1) (j - 1) (swp d i j) := by rw [Go.Sort.reverseLoop, if_pos h]
theorem rev_stop {i j : Nat} {d : Array Nat} (h : ¬ i < j) : Go.Sort.reverseLoop i j d = d := by rw [Go.Sort.reverseLoop, if_neg h]
theorem xor_u64 {x y : Nat} (hx : x < 18446744073709551616) (hy : y < 18446744073709551616) : (x ^^^ y) < 18446744073709551616 := by
  have p : (18446744073709551616 : Nat) = 2 ^ 64 := by decide
  rw [p] at hx hy ⊢
  exact Nat.xor_lt_two_pow hx hy
theorem shl_u64 {x k : Nat} : IntKind.u64.wrap ((x : Int) * 2 ^ k) = ((x * 2 ^ k % 18446744073709551616 : Nat) : Int) := by
  simp only [IntKind.wrap, IntKind.bits, IntKind.signed]
  simp
theorem pow_bits {x : Nat} (h0 : 0 < x) (h : x < 65536) : 1 ≤ 2 ^ Go.Sort.bitsLen x ∧ 2 ^ Go.Sort.bitsLen x ≤ 2 * x ∧ Go.Sort.bitsLen x ≤ 17 := by
  refine ⟨Nat.one_le_two_pow, Go.Sort.two_pow_bitsLen_le h0, ?_⟩
  exact (Go.Sort.bitsLen_le_iff x 17).2 (by omega)
theorem bits_le {x : Nat} (h : x < 65536) : Go.Sort.bitsLen x ≤ 16 := (Go.Sort.bitsLen_le_iff x 16).2 (by omega)
/-- What is asked of what comes back: the part sorted, all else as it was. -/
abbrev Srt (a b : Nat) (d d' : Array Nat) : Prop := Go.Sort.PermIn a b d d' ∧ Go.Sort.SortedIn ltN a b d'
end Go.Sl

/- walks (own work; the walks' lines by a program of this repo). -/
set_option linter.unusedVariables false
set_option linter.unusedSimpArgs false
set_option maxRecDepth 20000
namespace Go.Proofs.Ytighbhplfjjgpaa
open Go.Sl
attribute [local irreducible] BodyQ WpC WpL WpS WpH OpW FnS



set_option maxHeartbeats 1000000 in

theorem sift_u {w0 : World} {H : Hp} {sb n cap : Nat} {sp : List Value} (d : Array Nat) (hd : d.size = n) (hn : n < 4611686018427387904) (root hi first : Nat) (hr : root ≤ n) (hf : first + hi ≤ n) : FnS Try.prog w0 96 #[(.slice (some ⟨sb, 0, none⟩) n cap), .int .i64 ((root : Nat) : Int), .int .i64 ((hi : Nat) : Int), .int .i64 ((first : Nat) : Int)] (useg 48 sb d sp :: H) (fun e H' => e = .returned (.tuple #[]) ∧ H' = useg 48 sb (Go.Sort.siftDown ltN hi first root d) sp :: H) := by
  refine FnS_intro (n := 76) (rs := []) (vs := [(.slice (some ⟨sb, 0, none⟩) n cap), .int .i64 ((root : Nat) : Int), .int .i64 ((hi : Nat) : Int), .int .i64 ((first : Nat) : Int)]) Try.func96 rfl Try.ntmps96 rfl rfl ?_
  refine C_seq ?_
  refine C_region ?_
  refine L_y rfl (y_move rfl) rfl ?_
  refine L_y rfl (y_assign rfl) rfl ?_
  refine L_nil ?_
  refine C_block ?_
  refine C_loop (ι := Array Nat × Nat) (fun i => [(0, (.slice (some ⟨sb, 0, none⟩) n cap)), (2, .int .i64 ((hi : Nat) : Int)), (3, .int .i64 ((first : Nat) : Int)), (8, .int .i64 ((i.2 : Nat) : Int))]) (fun i => useg 48 sb i.1 sp :: H) (fun i => i.1.size = n ∧ i.2 ≤ n ∧ Go.Sort.siftDown ltN hi first i.2 i.1 = Go.Sort.siftDown ltN hi first root d) (fun i => hi - i.2) (d, root) ⟨hd, hr, rfl⟩ ⟨rfl, rfl, rfl, rfl, trivial⟩ ((hsub (.cons_cons _ (.refl _))).trans (hsub_pick [0] rfl)) (fun q hq => ?_)
  obtain ⟨d1, r⟩ := q
  obtain ⟨hs1, hrn, hr1⟩ := hq
  try simp only at hs1 hrn hr1
  try dsimp only
  refine C_block ?_
  refine C_seq ?_
  refine C_region ?_
  refine L_y rfl (y_move rfl) rfl ?_
  refine L_y rfl (y_mul rfl rfl (show _ = ((2 * r : Nat) : Int) from by rw [wi64 (by omega) (by omega)]; omega)) rfl ?_
  refine L_y rfl (y_add rfl rfl (show _ = ((2 * r + 1 : Nat) : Int) from by rw [wi64 (by omega) (by omega)]; omega)) rfl ?_
  refine L_y rfl (y_assign rfl) rfl ?_
  refine L_nil ?_
  refine C_seq ?_
  refine C_seq ?_
  refine C_region ?_
  refine L_y rfl (y_move rfl) rfl ?_
  refine L_y rfl (y_move rfl) rfl ?_
  refine L_y rfl (y_geq rfl rfl) rfl ?_
  refine L_nil ?_
  refine C_cond rfl (fun hc0 => ?_) (fun hc0 => ?_)
  · replace hc0 : hi ≤ 2 * r + 1 := by have := of_decide_eq_true hc0; omega
    have hfin : Go.Sort.siftDown ltN hi first r d1 = d1 := sd_stop hc0
    refine C_exit ?_
    refine B_end rv_nil ((hsub (.cons_cons _ (.refl _))).trans (hsub_pick [0] rfl)) ?_
    refine ⟨rfl, ?_⟩
    first
    | (rw [← hr1, hfin]; done)
    | (rw [← hr1, hfin]; rfl)
    | (rw [← hr1, sd_2s h2 hl (by simpa using hc2)]; rfl)
    | (rw [← hr1, sd_1s hc0 hnn (by simpa using hc2)]; rfl)
  · replace hc0 : 2 * r + 1 < hi := by have := of_decide_eq_false hc0; omega
    refine C_skip ?_
    refine C_seq ?_
    refine C_seq ?_
    refine C_regionH0 (by kernel_rfl) ?_
    refine H_y 0 rfl (by kernel_rfl) (by kernel_rfl) (by kernel_rfl) (HSub.refl _) rfl (y_move rfl) rfl ?_
    refine H_y 1 rfl (by kernel_rfl) (by kernel_rfl) (by kernel_rfl) (HSub.refl _) rfl (y_add rfl rfl (show _ = ((2 * r + 2 : Nat) : Int) from by rw [wi64 (by omega) (by omega)]; omega)) rfl ?_
    refine H_y 2 rfl (by kernel_rfl) (by kernel_rfl) (by kernel_rfl) (HSub.refl _) rfl (y_move rfl) rfl ?_
    refine H_y 3 rfl (by kernel_rfl) (by kernel_rfl) (by kernel_rfl) (HSub.refl _) rfl (y_lss rfl rfl) rfl ?_
    refine H_y 4 rfl (by kernel_rfl) (by kernel_rfl) (by kernel_rfl) (HSub.refl _) rfl (y_move rfl) rfl ?_
    refine H_case 21 rfl (fun hg3_5 => ?_) (fun hg3_5 => ?_)
    · have h2 : 2 * r + 2 < hi := by have := of_decide_eq_true hg3_5; omega
      refine H_y 5 rfl (by kernel_rfl) (by kernel_rfl) (by kernel_rfl) (HSub.refl _) rfl (y_move rfl) rfl ?_
      refine H_y 6 rfl (by kernel_rfl) (by kernel_rfl) (by kernel_rfl) (HSub.refl _) rfl (y_move rfl) rfl ?_
      refine H_y 7 rfl (by kernel_rfl) (by kernel_rfl) (by kernel_rfl) (HSub.refl _) rfl (y_move rfl) rfl ?_
      refine H_y 8 rfl (by kernel_rfl) (by kernel_rfl) (by kernel_rfl) (HSub.refl _) rfl (y_add rfl rfl (show _ = ((first + (2 * r + 1) : Nat) : Int) from by rw [wi64 (by omega) (by omega)]; omega)) rfl ?_
      refine H_y 9 rfl (by kernel_rfl) (by kernel_rfl) (by kernel_rfl) (HSub.refl _) rfl (y_indexS rfl rfl Try.underlying33 sz_48 (by omega) (by omega) (ix0 (first + (2 * r + 1)))) rfl ?_
      refine H_y 10 rfl (by kernel_rfl) (by kernel_rfl) (by kernel_rfl) (HSub.refl _) rfl (y_load rfl ag_48 (sees 0 0 rfl) (us_at (by omega))) rfl ?_
      refine H_y 11 rfl (by kernel_rfl) (by kernel_rfl) (by kernel_rfl) (HSub.refl _) rfl (y_move rfl) rfl ?_
      refine H_y 12 rfl (by kernel_rfl) (by kernel_rfl) (by kernel_rfl) (HSub.refl _) rfl (y_move rfl) rfl ?_
      refine H_y 13 rfl (by kernel_rfl) (by kernel_rfl) (by kernel_rfl) (HSub.refl _) rfl (y_move rfl) rfl ?_
      refine H_y 14 rfl (by kernel_rfl) (by kernel_rfl) (by kernel_rfl) (HSub.refl _) rfl (y_add rfl rfl (show _ = ((first + (2 * r + 1) : Nat) : Int) from by rw [wi64 (by omega) (by omega)]; omega)) rfl ?_
      refine H_y 15 rfl (by kernel_rfl) (by kernel_rfl) (by kernel_rfl) (HSub.refl _) rfl (y_add rfl rfl (show _ = ((first + (2 * r + 2) : Nat) : Int) from by rw [wi64 (by omega) (by omega)]; omega)) rfl ?_
      refine H_y 16 rfl (by kernel_rfl) (by kernel_rfl) (by kernel_rfl) (HSub.refl _) rfl (y_indexS rfl rfl Try.underlying33 sz_48 (by omega) (by omega) (ix0 (first + (2 * r + 2)))) rfl ?_
      refine H_y 17 rfl (by kernel_rfl) (by kernel_rfl) (by kernel_rfl) (HSub.refl _) rfl (y_load rfl ag_48 (sees 0 0 rfl) (us_at (by omega))) rfl ?_
      refine H_one 18 rfl (by kernel_rfl) rfl (op_call rfl rfl (fun a w => Try.call89 a w) rfl ?_)
      refine (less_u (d1[first + (2 * r + 1)]!) (d1[first + (2 * r + 2)]!)).mono ?_
      rintro _ _ ⟨rfl, e⟩
      obtain rfl := e.symm
      clear e
      refine ⟨_, rfl, ?_⟩
      refine ⟨HSub.refl _, ?_⟩
      refine H_y 19 rfl (by kernel_rfl) (by kernel_rfl) (by kernel_rfl) (HSub.refl _) rfl (y_pick_t rfl rfl) rfl ?_
      refine H_done (by kernel_rfl) ?_
      refine C_cond rfl (fun hc1 => ?_) (fun hc1 => ?_)
      · have hl : ltN d1[first + (2 * r + 1)]! d1[first + (2 * r + 2)]! = true := hc1
        refine C_region ?_
        refine L_y rfl (y_move rfl) rfl ?_
        refine L_y rfl (y_add rfl rfl (show _ = ((2 * r + 2 : Nat) : Int) from by rw [wi64 (by omega) (by omega)]; omega)) rfl ?_
        refine L_y rfl (y_assign rfl) rfl ?_
        refine L_nil ?_
        refine C_seq ?_
        refine C_seq ?_
        refine C_regionH0 (by kernel_rfl) ?_
        refine H_y 0 rfl (by kernel_rfl) (by kernel_rfl) (by kernel_rfl) (HSub.refl _) rfl (y_move rfl) rfl ?_
        refine H_y 1 rfl (by kernel_rfl) (by kernel_rfl) (by kernel_rfl) (HSub.refl _) rfl (y_move rfl) rfl ?_
        refine H_y 2 rfl (by kernel_rfl) (by kernel_rfl) (by kernel_rfl) (HSub.refl _) rfl (y_move rfl) rfl ?_
        refine H_y 3 rfl (by kernel_rfl) (by kernel_rfl) (by kernel_rfl) (HSub.refl _) rfl (y_add rfl rfl (show _ = ((first + r : Nat) : Int) from by rw [wi64 (by omega) (by omega)]; omega)) rfl ?_
        refine H_y 4 rfl (by kernel_rfl) (by kernel_rfl) (by kernel_rfl) (HSub.refl _) rfl (y_indexS rfl rfl Try.underlying33 sz_48 (by omega) (by omega) (ix0 (first + r))) rfl ?_
        refine H_y 5 rfl (by kernel_rfl) (by kernel_rfl) (by kernel_rfl) (HSub.refl _) rfl (y_load rfl ag_48 (sees 0 0 rfl) (us_at (by omega))) rfl ?_
        refine H_y 6 rfl (by kernel_rfl) (by kernel_rfl) (by kernel_rfl) (HSub.refl _) rfl (y_move rfl) rfl ?_
        refine H_y 7 rfl (by kernel_rfl) (by kernel_rfl) (by kernel_rfl) (HSub.refl _) rfl (y_move rfl) rfl ?_
        refine H_y 8 rfl (by kernel_rfl) (by kernel_rfl) (by kernel_rfl) (HSub.refl _) rfl (y_move rfl) rfl ?_
        refine H_y 9 rfl (by kernel_rfl) (by kernel_rfl) (by kernel_rfl) (HSub.refl _) rfl (y_add rfl rfl (show _ = ((first + (2 * r + 2) : Nat) : Int) from by rw [wi64 (by omega) (by omega)]; omega)) rfl ?_
        refine H_y 10 rfl (by kernel_rfl) (by kernel_rfl) (by kernel_rfl) (HSub.refl _) rfl (y_indexS rfl rfl Try.underlying33 sz_48 (by omega) (by omega) (ix0 (first + (2 * r + 2)))) rfl ?_
        refine H_y 11 rfl (by kernel_rfl) (by kernel_rfl) (by kernel_rfl) (HSub.refl _) rfl (y_load rfl ag_48 (sees 0 0 rfl) (us_at (by omega))) rfl ?_
        refine H_one 12 rfl (by kernel_rfl) rfl (op_call rfl rfl (fun a w => Try.call89 a w) rfl ?_)
        refine (less_u (d1[first + r]!) (d1[first + (2 * r + 2)]!)).mono ?_
        rintro _ _ ⟨rfl, e⟩
        obtain rfl := e.symm
        clear e
        refine ⟨_, rfl, ?_⟩
        refine ⟨HSub.refl _, ?_⟩
        refine H_y 13 rfl (by kernel_rfl) (by kernel_rfl) (by kernel_rfl) (HSub.refl _) rfl (y_not rfl) rfl ?_
        refine H_done (by kernel_rfl) ?_
        refine C_cond rfl (fun hc2 => ?_) (fun hc2 => ?_)
        · skip
          refine C_ret ?_
          refine B_ret rv_nil ((hsub (.cons_cons _ (.refl _))).trans (hsub_pick [0] rfl)) ?_
          refine ⟨rfl, ?_⟩
          first
          | (rw [← hr1, hfin]; done)
          | (rw [← hr1, hfin]; rfl)
          | (rw [← hr1, sd_2s h2 hl (by simpa using hc2)]; rfl)
          | (rw [← hr1, sd_1s hc0 hnn (by simpa using hc2)]; rfl)
        · skip
          refine C_skip ?_
          refine C_seq ?_
          have hg : ltN d1[first + r]! d1[first + (2 * r + 2)]! = true := by simpa using hc2
          refine C_regionH H (by kernel_rfl) ?_
          refine H_y 0 rfl (by kernel_rfl) (by kernel_rfl) (by kernel_rfl) ((hsub (.cons _ (.refl _)))) rfl (y_move rfl) rfl ?_
          refine H_y 1 rfl (by kernel_rfl) (by kernel_rfl) (by kernel_rfl) ((hsub (.cons _ (.refl _)))) rfl (y_move rfl) rfl ?_
          refine H_y 2 rfl (by kernel_rfl) (by kernel_rfl) (by kernel_rfl) ((hsub (.cons _ (.refl _)))) rfl (y_move rfl) rfl ?_
          refine H_y 3 rfl (by kernel_rfl) (by kernel_rfl) (by kernel_rfl) ((hsub (.cons _ (.refl _)))) rfl (y_add rfl rfl (show _ = ((first + r : Nat) : Int) from by rw [wi64 (by omega) (by omega)]; omega)) rfl ?_
          refine H_y 4 rfl (by kernel_rfl) (by kernel_rfl) (by kernel_rfl) ((hsub (.cons _ (.refl _)))) rfl (y_move rfl) rfl ?_
          refine H_y 5 rfl (by kernel_rfl) (by kernel_rfl) (by kernel_rfl) ((hsub (.cons _ (.refl _)))) rfl (y_move rfl) rfl ?_
          refine H_y 6 rfl (by kernel_rfl) (by kernel_rfl) (by kernel_rfl) ((hsub (.cons _ (.refl _)))) rfl (y_move rfl) rfl ?_
          refine H_y 7 rfl (by kernel_rfl) (by kernel_rfl) (by kernel_rfl) ((hsub (.cons _ (.refl _)))) rfl (y_add rfl rfl (show _ = ((first + (2 * r + 2) : Nat) : Int) from by rw [wi64 (by omega) (by omega)]; omega)) rfl ?_
          refine H_y 8 rfl (by kernel_rfl) (by kernel_rfl) (by kernel_rfl) ((hsub (.cons _ (.refl _)))) rfl (y_move rfl) rfl ?_
          refine H_y 9 rfl (by kernel_rfl) (by kernel_rfl) (by kernel_rfl) ((hsub (.cons _ (.refl _)))) rfl (y_move rfl) rfl ?_
          refine H_y 10 rfl (by kernel_rfl) (by kernel_rfl) (by kernel_rfl) ((hsub (.cons _ (.refl _)))) rfl (y_move rfl) rfl ?_
          refine H_y 11 rfl (by kernel_rfl) (by kernel_rfl) (by kernel_rfl) ((hsub (.cons _ (.refl _)))) rfl (y_add rfl rfl (show _ = ((first + (2 * r + 2) : Nat) : Int) from by rw [wi64 (by omega) (by omega)]; omega)) rfl ?_
          refine H_y 12 rfl (by kernel_rfl) (by kernel_rfl) (by kernel_rfl) ((hsub (.cons _ (.refl _)))) rfl (y_indexS rfl rfl Try.underlying33 sz_48 (by omega) (by omega) (ix0 (first + (2 * r + 2)))) rfl ?_
          refine H_y 14 rfl (by kernel_rfl) (by kernel_rfl) (by kernel_rfl) ((hsub (.cons _ (.refl _)))) rfl (y_move rfl) rfl ?_
          refine H_y 15 rfl (by kernel_rfl) (by kernel_rfl) (by kernel_rfl) ((hsub (.cons _ (.refl _)))) rfl (y_move rfl) rfl ?_
          refine H_y 16 rfl (by kernel_rfl) (by kernel_rfl) (by kernel_rfl) ((hsub (.cons _ (.refl _)))) rfl (y_move rfl) rfl ?_
          refine H_y 17 rfl (by kernel_rfl) (by kernel_rfl) (by kernel_rfl) ((hsub (.cons _ (.refl _)))) rfl (y_add rfl rfl (show _ = ((first + r : Nat) : Int) from by rw [wi64 (by omega) (by omega)]; omega)) rfl ?_
          refine H_y 18 rfl (by kernel_rfl) (by kernel_rfl) (by kernel_rfl) ((hsub (.cons _ (.refl _)))) rfl (y_indexS rfl rfl Try.underlying33 sz_48 (by omega) (by omega) (ix0 (first + r))) rfl ?_
          refine H_two 13 19 rfl rfl (by kernel_rfl) rfl rfl ?_ ?_
          · refine op_y (y_load rfl ag_48 (sees 0 0 rfl) (us_at (by omega))) rfl ?_
            refine ⟨(hsub (.cons _ (.refl _))), ?_⟩
            refine H_one 19 rfl (by kernel_rfl) rfl (op_y (y_load rfl ag_48 (sees 0 0 rfl) (us_at (by omega))) rfl ?_)
            refine ⟨(hsub (.cons _ (.refl _))), ?_⟩
            refine H_y 20 rfl (by kernel_rfl) (by kernel_rfl) (by kernel_rfl) ((hsub (.cons _ (.refl _)))) rfl (y_indexS rfl rfl Try.underlying33 sz_48 (by omega) (by omega) (ix0 (first + r))) rfl ?_
            refine H_one 21 rfl (by kernel_rfl) rfl (op_store1 0 0 rfl rfl rfl sz_48 rfl (us_lt (by omega)) ?_)
            refine ⟨(hsub (.cons _ (.refl _))), ?_⟩
            refine H_y 22 rfl (by kernel_rfl) (by kernel_rfl) (by kernel_rfl) ((hsub (.cons _ (.refl _)))) rfl (y_indexS rfl rfl Try.underlying33 sz_48 (by omega) (by omega) (ix0 (first + (2 * r + 2)))) rfl ?_
            refine H_one 23 rfl (by kernel_rfl) rfl (op_store1 0 0 rfl rfl rfl sz_48 rfl (by rw [List.length_set]; exact us_lt (by omega)) ?_)
            refine ⟨(hsub (.cons _ (.refl _))), ?_⟩
            refine H_done (by kernel_rfl) ?_
            rw [us_swp (by omega) (by omega)]
            refine C_region ?_
            refine L_y rfl (y_move rfl) rfl ?_
            refine L_y rfl (y_assign rfl) rfl ?_
            refine L_nil ?_
            exact ⟨(Go.Sort.swp d1 (first + r) (first + (2 * r + 2)), (2 * r + 2)), ⟨by simp only; rw [swp_size]; exact hs1, by simp only; omega, by simp only; rw [← hr1, sd_2 h2 hl hg]⟩, by simp only; omega, ⟨rfl, rfl, rfl, rfl, trivial⟩, ((hsub (.cons_cons _ (.refl _))).trans (hsub_pick [0] rfl))⟩
          · refine op_y (y_load rfl ag_48 (sees 0 0 rfl) (us_at (by omega))) rfl ?_
            refine ⟨(hsub (.cons _ (.refl _))), ?_⟩
            refine H_one 13 rfl (by kernel_rfl) rfl (op_y (y_load rfl ag_48 (sees 0 0 rfl) (us_at (by omega))) rfl ?_)
            refine ⟨(hsub (.cons _ (.refl _))), ?_⟩
            refine H_y 20 rfl (by kernel_rfl) (by kernel_rfl) (by kernel_rfl) ((hsub (.cons _ (.refl _)))) rfl (y_indexS rfl rfl Try.underlying33 sz_48 (by omega) (by omega) (ix0 (first + r))) rfl ?_
            refine H_one 21 rfl (by kernel_rfl) rfl (op_store1 0 0 rfl rfl rfl sz_48 rfl (us_lt (by omega)) ?_)
            refine ⟨(hsub (.cons _ (.refl _))), ?_⟩
            refine H_y 22 rfl (by kernel_rfl) (by kernel_rfl) (by kernel_rfl) ((hsub (.cons _ (.refl _)))) rfl (y_indexS rfl rfl Try.underlying33 sz_48 (by omega) (by omega) (ix0 (first + (2 * r + 2)))) rfl ?_
            refine H_one 23 rfl (by kernel_rfl) rfl (op_store1 0 0 rfl rfl rfl sz_48 rfl (by rw [List.length_set]; exact us_lt (by omega)) ?_)
            refine ⟨(hsub (.cons _ (.refl _))), ?_⟩
            refine H_done (by kernel_rfl) ?_
            rw [us_swp (by omega) (by omega)]
            refine C_region ?_
            refine L_y rfl (y_move rfl) rfl ?_
            refine L_y rfl (y_assign rfl) rfl ?_
            refine L_nil ?_
            exact ⟨(Go.Sort.swp d1 (first + r) (first + (2 * r + 2)), (2 * r + 2)), ⟨by simp only; rw [swp_size]; exact hs1, by simp only; omega, by simp only; rw [← hr1, sd_2 h2 hl hg]⟩, by simp only; omega, ⟨rfl, rfl, rfl, rfl, trivial⟩, ((hsub (.cons_cons _ (.refl _))).trans (hsub_pick [0] rfl))⟩
      · have hl : ltN d1[first + (2 * r + 1)]! d1[first + (2 * r + 2)]! = false := hc1
        have hnn : ¬ 2 * r + 2 < hi ∨ ltN d1[first + (2 * r + 1)]! d1[first + (2 * r + 2)]! = false := .inr hl
        refine C_skip ?_
        refine C_seq ?_
        refine C_seq ?_
        refine C_regionH0 (by kernel_rfl) ?_
        refine H_y 0 rfl (by kernel_rfl) (by kernel_rfl) (by kernel_rfl) (HSub.refl _) rfl (y_move rfl) rfl ?_
        refine H_y 1 rfl (by kernel_rfl) (by kernel_rfl) (by kernel_rfl) (HSub.refl _) rfl (y_move rfl) rfl ?_
        refine H_y 2 rfl (by kernel_rfl) (by kernel_rfl) (by kernel_rfl) (HSub.refl _) rfl (y_move rfl) rfl ?_
        refine H_y 3 rfl (by kernel_rfl) (by kernel_rfl) (by kernel_rfl) (HSub.refl _) rfl (y_add rfl rfl (show _ = ((first + r : Nat) : Int) from by rw [wi64 (by omega) (by omega)]; omega)) rfl ?_
        refine H_y 4 rfl (by kernel_rfl) (by kernel_rfl) (by kernel_rfl) (HSub.refl _) rfl (y_indexS rfl rfl Try.underlying33 sz_48 (by omega) (by omega) (ix0 (first + r))) rfl ?_
        refine H_y 5 rfl (by kernel_rfl) (by kernel_rfl) (by kernel_rfl) (HSub.refl _) rfl (y_load rfl ag_48 (sees 0 0 rfl) (us_at (by omega))) rfl ?_
        refine H_y 6 rfl (by kernel_rfl) (by kernel_rfl) (by kernel_rfl) (HSub.refl _) rfl (y_move rfl) rfl ?_
        refine H_y 7 rfl (by kernel_rfl) (by kernel_rfl) (by kernel_rfl) (HSub.refl _) rfl (y_move rfl) rfl ?_
        refine H_y 8 rfl (by kernel_rfl) (by kernel_rfl) (by kernel_rfl) (HSub.refl _) rfl (y_move rfl) rfl ?_
        refine H_y 9 rfl (by kernel_rfl) (by kernel_rfl) (by kernel_rfl) (HSub.refl _) rfl (y_add rfl rfl (show _ = ((first + (2 * r + 1) : Nat) : Int) from by rw [wi64 (by omega) (by omega)]; omega)) rfl ?_
        refine H_y 10 rfl (by kernel_rfl) (by kernel_rfl) (by kernel_rfl) (HSub.refl _) rfl (y_indexS rfl rfl Try.underlying33 sz_48 (by omega) (by omega) (ix0 (first + (2 * r + 1)))) rfl ?_
        refine H_y 11 rfl (by kernel_rfl) (by kernel_rfl) (by kernel_rfl) (HSub.refl _) rfl (y_load rfl ag_48 (sees 0 0 rfl) (us_at (by omega))) rfl ?_
        refine H_one 12 rfl (by kernel_rfl) rfl (op_call rfl rfl (fun a w => Try.call89 a w) rfl ?_)
        refine (less_u (d1[first + r]!) (d1[first + (2 * r + 1)]!)).mono ?_
        rintro _ _ ⟨rfl, e⟩
        obtain rfl := e.symm
        clear e
        refine ⟨_, rfl, ?_⟩
        refine ⟨HSub.refl _, ?_⟩
        refine H_y 13 rfl (by kernel_rfl) (by kernel_rfl) (by kernel_rfl) (HSub.refl _) rfl (y_not rfl) rfl ?_
        refine H_done (by kernel_rfl) ?_
        refine C_cond rfl (fun hc2 => ?_) (fun hc2 => ?_)
        · skip
          refine C_ret ?_
          refine B_ret rv_nil ((hsub (.cons_cons _ (.refl _))).trans (hsub_pick [0] rfl)) ?_
          refine ⟨rfl, ?_⟩
          first
          | (rw [← hr1, hfin]; done)
          | (rw [← hr1, hfin]; rfl)
          | (rw [← hr1, sd_2s h2 hl (by simpa using hc2)]; rfl)
          | (rw [← hr1, sd_1s hc0 hnn (by simpa using hc2)]; rfl)
        · skip
          refine C_skip ?_
          refine C_seq ?_
          have hg : ltN d1[first + r]! d1[first + (2 * r + 1)]! = true := by simpa using hc2
          refine C_regionH H (by kernel_rfl) ?_
          refine H_y 0 rfl (by kernel_rfl) (by kernel_rfl) (by kernel_rfl) ((hsub (.cons _ (.refl _)))) rfl (y_move rfl) rfl ?_
          refine H_y 1 rfl (by kernel_rfl) (by kernel_rfl) (by kernel_rfl) ((hsub (.cons _ (.refl _)))) rfl (y_move rfl) rfl ?_
          refine H_y 2 rfl (by kernel_rfl) (by kernel_rfl) (by kernel_rfl) ((hsub (.cons _ (.refl _)))) rfl (y_move rfl) rfl ?_
          refine H_y 3 rfl (by kernel_rfl) (by kernel_rfl) (by kernel_rfl) ((hsub (.cons _ (.refl _)))) rfl (y_add rfl rfl (show _ = ((first + r : Nat) : Int) from by rw [wi64 (by omega) (by omega)]; omega)) rfl ?_
          refine H_y 4 rfl (by kernel_rfl) (by kernel_rfl) (by kernel_rfl) ((hsub (.cons _ (.refl _)))) rfl (y_move rfl) rfl ?_
          refine H_y 5 rfl (by kernel_rfl) (by kernel_rfl) (by kernel_rfl) ((hsub (.cons _ (.refl _)))) rfl (y_move rfl) rfl ?_
          refine H_y 6 rfl (by kernel_rfl) (by kernel_rfl) (by kernel_rfl) ((hsub (.cons _ (.refl _)))) rfl (y_move rfl) rfl ?_
          refine H_y 7 rfl (by kernel_rfl) (by kernel_rfl) (by kernel_rfl) ((hsub (.cons _ (.refl _)))) rfl (y_add rfl rfl (show _ = ((first + (2 * r + 1) : Nat) : Int) from by rw [wi64 (by omega) (by omega)]; omega)) rfl ?_
          refine H_y 8 rfl (by kernel_rfl) (by kernel_rfl) (by kernel_rfl) ((hsub (.cons _ (.refl _)))) rfl (y_move rfl) rfl ?_
          refine H_y 9 rfl (by kernel_rfl) (by kernel_rfl) (by kernel_rfl) ((hsub (.cons _ (.refl _)))) rfl (y_move rfl) rfl ?_
          refine H_y 10 rfl (by kernel_rfl) (by kernel_rfl) (by kernel_rfl) ((hsub (.cons _ (.refl _)))) rfl (y_move rfl) rfl ?_
          refine H_y 11 rfl (by kernel_rfl) (by kernel_rfl) (by kernel_rfl) ((hsub (.cons _ (.refl _)))) rfl (y_add rfl rfl (show _ = ((first + (2 * r + 1) : Nat) : Int) from by rw [wi64 (by omega) (by omega)]; omega)) rfl ?_
          refine H_y 12 rfl (by kernel_rfl) (by kernel_rfl) (by kernel_rfl) ((hsub (.cons _ (.refl _)))) rfl (y_indexS rfl rfl Try.underlying33 sz_48 (by omega) (by omega) (ix0 (first + (2 * r + 1)))) rfl ?_
          refine H_y 14 rfl (by kernel_rfl) (by kernel_rfl) (by kernel_rfl) ((hsub (.cons _ (.refl _)))) rfl (y_move rfl) rfl ?_
          refine H_y 15 rfl (by kernel_rfl) (by kernel_rfl) (by kernel_rfl) ((hsub (.cons _ (.refl _)))) rfl (y_move rfl) rfl ?_
          refine H_y 16 rfl (by kernel_rfl) (by kernel_rfl) (by kernel_rfl) ((hsub (.cons _ (.refl _)))) rfl (y_move rfl) rfl ?_
          refine H_y 17 rfl (by kernel_rfl) (by kernel_rfl) (by kernel_rfl) ((hsub (.cons _ (.refl _)))) rfl (y_add rfl rfl (show _ = ((first + r : Nat) : Int) from by rw [wi64 (by omega) (by omega)]; omega)) rfl ?_
          refine H_y 18 rfl (by kernel_rfl) (by kernel_rfl) (by kernel_rfl) ((hsub (.cons _ (.refl _)))) rfl (y_indexS rfl rfl Try.underlying33 sz_48 (by omega) (by omega) (ix0 (first + r))) rfl ?_
          refine H_two 13 19 rfl rfl (by kernel_rfl) rfl rfl ?_ ?_
          · refine op_y (y_load rfl ag_48 (sees 0 0 rfl) (us_at (by omega))) rfl ?_
            refine ⟨(hsub (.cons _ (.refl _))), ?_⟩
            refine H_one 19 rfl (by kernel_rfl) rfl (op_y (y_load rfl ag_48 (sees 0 0 rfl) (us_at (by omega))) rfl ?_)
            refine ⟨(hsub (.cons _ (.refl _))), ?_⟩
            refine H_y 20 rfl (by kernel_rfl) (by kernel_rfl) (by kernel_rfl) ((hsub (.cons _ (.refl _)))) rfl (y_indexS rfl rfl Try.underlying33 sz_48 (by omega) (by omega) (ix0 (first + r))) rfl ?_
            refine H_one 21 rfl (by kernel_rfl) rfl (op_store1 0 0 rfl rfl rfl sz_48 rfl (us_lt (by omega)) ?_)
            refine ⟨(hsub (.cons _ (.refl _))), ?_⟩
            refine H_y 22 rfl (by kernel_rfl) (by kernel_rfl) (by kernel_rfl) ((hsub (.cons _ (.refl _)))) rfl (y_indexS rfl rfl Try.underlying33 sz_48 (by omega) (by omega) (ix0 (first + (2 * r + 1)))) rfl ?_
            refine H_one 23 rfl (by kernel_rfl) rfl (op_store1 0 0 rfl rfl rfl sz_48 rfl (by rw [List.length_set]; exact us_lt (by omega)) ?_)
            refine ⟨(hsub (.cons _ (.refl _))), ?_⟩
            refine H_done (by kernel_rfl) ?_
            rw [us_swp (by omega) (by omega)]
            refine C_region ?_
            refine L_y rfl (y_move rfl) rfl ?_
            refine L_y rfl (y_assign rfl) rfl ?_
            refine L_nil ?_
            exact ⟨(Go.Sort.swp d1 (first + r) (first + (2 * r + 1)), (2 * r + 1)), ⟨by simp only; rw [swp_size]; exact hs1, by simp only; omega, by simp only; rw [← hr1, sd_1 hc0 hnn hg]⟩, by simp only; omega, ⟨rfl, rfl, rfl, rfl, trivial⟩, ((hsub (.cons_cons _ (.refl _))).trans (hsub_pick [0] rfl))⟩
          · refine op_y (y_load rfl ag_48 (sees 0 0 rfl) (us_at (by omega))) rfl ?_
            refine ⟨(hsub (.cons _ (.refl _))), ?_⟩
            refine H_one 13 rfl (by kernel_rfl) rfl (op_y (y_load rfl ag_48 (sees 0 0 rfl) (us_at (by omega))) rfl ?_)
            refine ⟨(hsub (.cons _ (.refl _))), ?_⟩
            refine H_y 20 rfl (by kernel_rfl) (by kernel_rfl) (by kernel_rfl) ((hsub (.cons _ (.refl _)))) rfl (y_indexS rfl rfl Try.underlying33 sz_48 (by omega) (by omega) (ix0 (first + r))) rfl ?_
            refine H_one 21 rfl (by kernel_rfl) rfl (op_store1 0 0 rfl rfl rfl sz_48 rfl (us_lt (by omega)) ?_)
            refine ⟨(hsub (.cons _ (.refl _))), ?_⟩
            refine H_y 22 rfl (by kernel_rfl) (by kernel_rfl) (by kernel_rfl) ((hsub (.cons _ (.refl _)))) rfl (y_indexS rfl rfl Try.underlying33 sz_48 (by omega) (by omega) (ix0 (first + (2 * r + 1)))) rfl ?_
            refine H_one 23 rfl (by kernel_rfl) rfl (op_store1 0 0 rfl rfl rfl sz_48 rfl (by rw [List.length_set]; exact us_lt (by omega)) ?_)
            refine ⟨(hsub (.cons _ (.refl _))), ?_⟩
            refine H_done (by kernel_rfl) ?_
            rw [us_swp (by omega) (by omega)]
            refine C_region ?_
            refine L_y rfl (y_move rfl) rfl ?_
            refine L_y rfl (y_assign rfl) rfl ?_
            refine L_nil ?_
            exact ⟨(Go.Sort.swp d1 (first + r) (first + (2 * r + 1)), (2 * r + 1)), ⟨by simp only; rw [swp_size]; exact hs1, by simp only; omega, by simp only; rw [← hr1, sd_1 hc0 hnn hg]⟩, by simp only; omega, ⟨rfl, rfl, rfl, rfl, trivial⟩, ((hsub (.cons_cons _ (.refl _))).trans (hsub_pick [0] rfl))⟩
    · have h2 : ¬ 2 * r + 2 < hi := by have := of_decide_eq_false hg3_5; omega
      have hnn : ¬ 2 * r + 2 < hi ∨ ltN d1[first + (2 * r + 1)]! d1[first + (2 * r + 2)]! = false := .inl h2
      refine H_skip 5 rfl (by kernel_rfl) (by kernel_rfl) (by kernel_rfl) (HSub.refl _) rfl rfl ?_
      refine H_skip 6 rfl (by kernel_rfl) (by kernel_rfl) (by kernel_rfl) (HSub.refl _) rfl rfl ?_
      refine H_skip 7 rfl (by kernel_rfl) (by kernel_rfl) (by kernel_rfl) (HSub.refl _) rfl rfl ?_
      refine H_skip 8 rfl (by kernel_rfl) (by kernel_rfl) (by kernel_rfl) (HSub.refl _) rfl rfl ?_
      refine H_skip 9 rfl (by kernel_rfl) (by kernel_rfl) (by kernel_rfl) (HSub.refl _) rfl rfl ?_
      refine H_skip 10 rfl (by kernel_rfl) (by kernel_rfl) (by kernel_rfl) (HSub.refl _) rfl rfl ?_
      refine H_skip 11 rfl (by kernel_rfl) (by kernel_rfl) (by kernel_rfl) (HSub.refl _) rfl rfl ?_
      refine H_skip 12 rfl (by kernel_rfl) (by kernel_rfl) (by kernel_rfl) (HSub.refl _) rfl rfl ?_
      refine H_skip 13 rfl (by kernel_rfl) (by kernel_rfl) (by kernel_rfl) (HSub.refl _) rfl rfl ?_
      refine H_skip 14 rfl (by kernel_rfl) (by kernel_rfl) (by kernel_rfl) (HSub.refl _) rfl rfl ?_
      refine H_skip 15 rfl (by kernel_rfl) (by kernel_rfl) (by kernel_rfl) (HSub.refl _) rfl rfl ?_
      refine H_skip 16 rfl (by kernel_rfl) (by kernel_rfl) (by kernel_rfl) (HSub.refl _) rfl rfl ?_
      refine H_skip 17 rfl (by kernel_rfl) (by kernel_rfl) (by kernel_rfl) (HSub.refl _) rfl rfl ?_
      refine H_skip 18 rfl (by kernel_rfl) (by kernel_rfl) (by kernel_rfl) (HSub.refl _) rfl rfl ?_
      refine H_y 19 rfl (by kernel_rfl) (by kernel_rfl) (by kernel_rfl) (HSub.refl _) rfl (y_pick_f rfl rfl) rfl ?_
      refine H_done (by kernel_rfl) ?_
      refine C_cond_f rfl ?_
      refine C_skip ?_
      refine C_seq ?_
      refine C_seq ?_
      refine C_regionH0 (by kernel_rfl) ?_
      refine H_y 0 rfl (by kernel_rfl) (by kernel_rfl) (by kernel_rfl) (HSub.refl _) rfl (y_move rfl) rfl ?_
      refine H_y 1 rfl (by kernel_rfl) (by kernel_rfl) (by kernel_rfl) (HSub.refl _) rfl (y_move rfl) rfl ?_
      refine H_y 2 rfl (by kernel_rfl) (by kernel_rfl) (by kernel_rfl) (HSub.refl _) rfl (y_move rfl) rfl ?_
      refine H_y 3 rfl (by kernel_rfl) (by kernel_rfl) (by kernel_rfl) (HSub.refl _) rfl (y_add rfl rfl (show _ = ((first + r : Nat) : Int) from by rw [wi64 (by omega) (by omega)]; omega)) rfl ?_
      refine H_y 4 rfl (by kernel_rfl) (by kernel_rfl) (by kernel_rfl) (HSub.refl _) rfl (y_indexS rfl rfl Try.underlying33 sz_48 (by omega) (by omega) (ix0 (first + r))) rfl ?_
      refine H_y 5 rfl (by kernel_rfl) (by kernel_rfl) (by kernel_rfl) (HSub.refl _) rfl (y_load rfl ag_48 (sees 0 0 rfl) (us_at (by omega))) rfl ?_
      refine H_y 6 rfl (by kernel_rfl) (by kernel_rfl) (by kernel_rfl) (HSub.refl _) rfl (y_move rfl) rfl ?_
      refine H_y 7 rfl (by kernel_rfl) (by kernel_rfl) (by kernel_rfl) (HSub.refl _) rfl (y_move rfl) rfl ?_
      refine H_y 8 rfl (by kernel_rfl) (by kernel_rfl) (by kernel_rfl) (HSub.refl _) rfl (y_move rfl) rfl ?_
      refine H_y 9 rfl (by kernel_rfl) (by kernel_rfl) (by kernel_rfl) (HSub.refl _) rfl (y_add rfl rfl (show _ = ((first + (2 * r + 1) : Nat) : Int) from by rw [wi64 (by omega) (by omega)]; omega)) rfl ?_
      refine H_y 10 rfl (by kernel_rfl) (by kernel_rfl) (by kernel_rfl) (HSub.refl _) rfl (y_indexS rfl rfl Try.underlying33 sz_48 (by omega) (by omega) (ix0 (first + (2 * r + 1)))) rfl ?_
      refine H_y 11 rfl (by kernel_rfl) (by kernel_rfl) (by kernel_rfl) (HSub.refl _) rfl (y_load rfl ag_48 (sees 0 0 rfl) (us_at (by omega))) rfl ?_
      refine H_one 12 rfl (by kernel_rfl) rfl (op_call rfl rfl (fun a w => Try.call89 a w) rfl ?_)
      refine (less_u (d1[first + r]!) (d1[first + (2 * r + 1)]!)).mono ?_
      rintro _ _ ⟨rfl, e⟩
      obtain rfl := e.symm
      clear e
      refine ⟨_, rfl, ?_⟩
      refine ⟨HSub.refl _, ?_⟩
      refine H_y 13 rfl (by kernel_rfl) (by kernel_rfl) (by kernel_rfl) (HSub.refl _) rfl (y_not rfl) rfl ?_
      refine H_done (by kernel_rfl) ?_
      refine C_cond rfl (fun hc2 => ?_) (fun hc2 => ?_)
      · skip
        refine C_ret ?_
        refine B_ret rv_nil ((hsub (.cons_cons _ (.refl _))).trans (hsub_pick [0] rfl)) ?_
        refine ⟨rfl, ?_⟩
        first
        | (rw [← hr1, hfin]; done)
        | (rw [← hr1, hfin]; rfl)
        | (rw [← hr1, sd_2s h2 hl (by simpa using hc2)]; rfl)
        | (rw [← hr1, sd_1s hc0 hnn (by simpa using hc2)]; rfl)
      · skip
        refine C_skip ?_
        refine C_seq ?_
        have hg : ltN d1[first + r]! d1[first + (2 * r + 1)]! = true := by simpa using hc2
        refine C_regionH H (by kernel_rfl) ?_
        refine H_y 0 rfl (by kernel_rfl) (by kernel_rfl) (by kernel_rfl) ((hsub (.cons _ (.refl _)))) rfl (y_move rfl) rfl ?_
        refine H_y 1 rfl (by kernel_rfl) (by kernel_rfl) (by kernel_rfl) ((hsub (.cons _ (.refl _)))) rfl (y_move rfl) rfl ?_
        refine H_y 2 rfl (by kernel_rfl) (by kernel_rfl) (by kernel_rfl) ((hsub (.cons _ (.refl _)))) rfl (y_move rfl) rfl ?_
        refine H_y 3 rfl (by kernel_rfl) (by kernel_rfl) (by kernel_rfl) ((hsub (.cons _ (.refl _)))) rfl (y_add rfl rfl (show _ = ((first + r : Nat) : Int) from by rw [wi64 (by omega) (by omega)]; omega)) rfl ?_
        refine H_y 4 rfl (by kernel_rfl) (by kernel_rfl) (by kernel_rfl) ((hsub (.cons _ (.refl _)))) rfl (y_move rfl) rfl ?_
        refine H_y 5 rfl (by kernel_rfl) (by kernel_rfl) (by kernel_rfl) ((hsub (.cons _ (.refl _)))) rfl (y_move rfl) rfl ?_
        refine H_y 6 rfl (by kernel_rfl) (by kernel_rfl) (by kernel_rfl) ((hsub (.cons _ (.refl _)))) rfl (y_move rfl) rfl ?_
        refine H_y 7 rfl (by kernel_rfl) (by kernel_rfl) (by kernel_rfl) ((hsub (.cons _ (.refl _)))) rfl (y_add rfl rfl (show _ = ((first + (2 * r + 1) : Nat) : Int) from by rw [wi64 (by omega) (by omega)]; omega)) rfl ?_
        refine H_y 8 rfl (by kernel_rfl) (by kernel_rfl) (by kernel_rfl) ((hsub (.cons _ (.refl _)))) rfl (y_move rfl) rfl ?_
        refine H_y 9 rfl (by kernel_rfl) (by kernel_rfl) (by kernel_rfl) ((hsub (.cons _ (.refl _)))) rfl (y_move rfl) rfl ?_
        refine H_y 10 rfl (by kernel_rfl) (by kernel_rfl) (by kernel_rfl) ((hsub (.cons _ (.refl _)))) rfl (y_move rfl) rfl ?_
        refine H_y 11 rfl (by kernel_rfl) (by kernel_rfl) (by kernel_rfl) ((hsub (.cons _ (.refl _)))) rfl (y_add rfl rfl (show _ = ((first + (2 * r + 1) : Nat) : Int) from by rw [wi64 (by omega) (by omega)]; omega)) rfl ?_
        refine H_y 12 rfl (by kernel_rfl) (by kernel_rfl) (by kernel_rfl) ((hsub (.cons _ (.refl _)))) rfl (y_indexS rfl rfl Try.underlying33 sz_48 (by omega) (by omega) (ix0 (first + (2 * r + 1)))) rfl ?_
        refine H_y 14 rfl (by kernel_rfl) (by kernel_rfl) (by kernel_rfl) ((hsub (.cons _ (.refl _)))) rfl (y_move rfl) rfl ?_
        refine H_y 15 rfl (by kernel_rfl) (by kernel_rfl) (by kernel_rfl) ((hsub (.cons _ (.refl _)))) rfl (y_move rfl) rfl ?_
        refine H_y 16 rfl (by kernel_rfl) (by kernel_rfl) (by kernel_rfl) ((hsub (.cons _ (.refl _)))) rfl (y_move rfl) rfl ?_
        refine H_y 17 rfl (by kernel_rfl) (by kernel_rfl) (by kernel_rfl) ((hsub (.cons _ (.refl _)))) rfl (y_add rfl rfl (show _ = ((first + r : Nat) : Int) from by rw [wi64 (by omega) (by omega)]; omega)) rfl ?_
        refine H_y 18 rfl (by kernel_rfl) (by kernel_rfl) (by kernel_rfl) ((hsub (.cons _ (.refl _)))) rfl (y_indexS rfl rfl Try.underlying33 sz_48 (by omega) (by omega) (ix0 (first + r))) rfl ?_
        refine H_two 13 19 rfl rfl (by kernel_rfl) rfl rfl ?_ ?_
        · refine op_y (y_load rfl ag_48 (sees 0 0 rfl) (us_at (by omega))) rfl ?_
          refine ⟨(hsub (.cons _ (.refl _))), ?_⟩
          refine H_one 19 rfl (by kernel_rfl) rfl (op_y (y_load rfl ag_48 (sees 0 0 rfl) (us_at (by omega))) rfl ?_)
          refine ⟨(hsub (.cons _ (.refl _))), ?_⟩
          refine H_y 20 rfl (by kernel_rfl) (by kernel_rfl) (by kernel_rfl) ((hsub (.cons _ (.refl _)))) rfl (y_indexS rfl rfl Try.underlying33 sz_48 (by omega) (by omega) (ix0 (first + r))) rfl ?_
          refine H_one 21 rfl (by kernel_rfl) rfl (op_store1 0 0 rfl rfl rfl sz_48 rfl (us_lt (by omega)) ?_)
          refine ⟨(hsub (.cons _ (.refl _))), ?_⟩
          refine H_y 22 rfl (by kernel_rfl) (by kernel_rfl) (by kernel_rfl) ((hsub (.cons _ (.refl _)))) rfl (y_indexS rfl rfl Try.underlying33 sz_48 (by omega) (by omega) (ix0 (first + (2 * r + 1)))) rfl ?_
          refine H_one 23 rfl (by kernel_rfl) rfl (op_store1 0 0 rfl rfl rfl sz_48 rfl (by rw [List.length_set]; exact us_lt (by omega)) ?_)
          refine ⟨(hsub (.cons _ (.refl _))), ?_⟩
          refine H_done (by kernel_rfl) ?_
          rw [us_swp (by omega) (by omega)]
          refine C_region ?_
          refine L_y rfl (y_move rfl) rfl ?_
          refine L_y rfl (y_assign rfl) rfl ?_
          refine L_nil ?_
          exact ⟨(Go.Sort.swp d1 (first + r) (first + (2 * r + 1)), (2 * r + 1)), ⟨by simp only; rw [swp_size]; exact hs1, by simp only; omega, by simp only; rw [← hr1, sd_1 hc0 hnn hg]⟩, by simp only; omega, ⟨rfl, rfl, rfl, rfl, trivial⟩, ((hsub (.cons_cons _ (.refl _))).trans (hsub_pick [0] rfl))⟩
        · refine op_y (y_load rfl ag_48 (sees 0 0 rfl) (us_at (by omega))) rfl ?_
          refine ⟨(hsub (.cons _ (.refl _))), ?_⟩
          refine H_one 13 rfl (by kernel_rfl) rfl (op_y (y_load rfl ag_48 (sees 0 0 rfl) (us_at (by omega))) rfl ?_)
          refine ⟨(hsub (.cons _ (.refl _))), ?_⟩
          refine H_y 20 rfl (by kernel_rfl) (by kernel_rfl) (by kernel_rfl) ((hsub (.cons _ (.refl _)))) rfl (y_indexS rfl rfl Try.underlying33 sz_48 (by omega) (by omega) (ix0 (first + r))) rfl ?_
          refine H_one 21 rfl (by kernel_rfl) rfl (op_store1 0 0 rfl rfl rfl sz_48 rfl (us_lt (by omega)) ?_)
          refine ⟨(hsub (.cons _ (.refl _))), ?_⟩
          refine H_y 22 rfl (by kernel_rfl) (by kernel_rfl) (by kernel_rfl) ((hsub (.cons _ (.refl _)))) rfl (y_indexS rfl rfl Try.underlying33 sz_48 (by omega) (by omega) (ix0 (first + (2 * r + 1)))) rfl ?_
          refine H_one 23 rfl (by kernel_rfl) rfl (op_store1 0 0 rfl rfl rfl sz_48 rfl (by rw [List.length_set]; exact us_lt (by omega)) ?_)
          refine ⟨(hsub (.cons _ (.refl _))), ?_⟩
          refine H_done (by kernel_rfl) ?_
          rw [us_swp (by omega) (by omega)]
          refine C_region ?_
          refine L_y rfl (y_move rfl) rfl ?_
          refine L_y rfl (y_assign rfl) rfl ?_
          refine L_nil ?_
          exact ⟨(Go.Sort.swp d1 (first + r) (first + (2 * r + 1)), (2 * r + 1)), ⟨by simp only; rw [swp_size]; exact hs1, by simp only; omega, by simp only; rw [← hr1, sd_1 hc0 hnn hg]⟩, by simp only; omega, ⟨rfl, rfl, rfl, rfl, trivial⟩, ((hsub (.cons_cons _ (.refl _))).trans (hsub_pick [0] rfl))⟩

set_option maxHeartbeats 1000000 in

theorem heap_u {w0 : World} {H : Hp} {sb n cap : Nat} {sp : List Value} (d : Array Nat) (hd : d.size = n) (hn : n < 4611686018427387904) (a b : Nat) (hab : a < b) (hb : b ≤ n) : FnS Try.prog w0 84 #[(.slice (some ⟨sb, 0, none⟩) n cap), .int .i64 ((a : Nat) : Int), .int .i64 ((b : Nat) : Int)] (useg 48 sb d sp :: H) (fun e H' => e = .returned (.tuple #[]) ∧ H' = useg 48 sb (Go.Sort.heapSort ltN d a b) sp :: H) := by
  refine FnS_intro (n := 56) (rs := []) (vs := [(.slice (some ⟨sb, 0, none⟩) n cap), .int .i64 ((a : Nat) : Int), .int .i64 ((b : Nat) : Int)]) Try.func84 rfl Try.ntmps84 rfl rfl ?_
  refine C_seq ?_
  refine C_region ?_
  refine L_y rfl (y_move rfl) rfl ?_
  refine L_y rfl (y_assign rfl) rfl ?_
  refine L_nil ?_
  refine C_seq ?_
  refine C_region ?_
  refine L_y rfl (y_assign rfl) rfl ?_
  refine L_nil ?_
  refine C_seq ?_
  refine C_region ?_
  refine L_y rfl (y_move rfl) rfl ?_
  refine L_y rfl (y_move rfl) rfl ?_
  refine L_y rfl (y_sub rfl rfl (show _ = ((b - a : Nat) : Int) from by rw [wi64 (by omega) (by omega)]; omega)) rfl ?_
  refine L_y rfl (y_assign rfl) rfl ?_
  refine L_nil ?_
  refine C_seq ?_
  refine C_seq ?_
  refine C_region ?_
  refine L_y rfl (y_move rfl) rfl ?_
  refine L_y rfl (y_sub rfl rfl (show _ = ((b - a - 1 : Nat) : Int) from by rw [wi64 (by omega) (by omega)]; omega)) rfl ?_
  refine L_y rfl (y_quo rfl rfl (by omega) (show _ = ((((b - a - 1) / 2 + 1) : Nat) : Int) - 1 from by rw [Int.tdiv_eq_ediv_of_nonneg (by omega), wi64 (by omega) (by omega)]; omega)) rfl ?_
  refine L_y rfl (y_assign rfl) rfl ?_
  refine L_nil ?_
  refine C_block ?_
  refine C_loop (ι := Array Nat × Nat) (fun i => [(0, (.slice (some ⟨sb, 0, none⟩) n cap)), (6, .int .i64 ((a : Nat) : Int)), (7, .int .i64 0), (8, .int .i64 ((b - a : Nat) : Int)), (9, .int .i64 ((i.2 : Int) - 1))]) (fun i => useg 48 sb i.1 sp :: H) (fun i => i.1.size = n ∧ i.2 ≤ n ∧ Go.Sort.heapBuild ltN (b - a) a i.2 i.1 = Go.Sort.heapBuild ltN (b - a) a ((b - a - 1) / 2 + 1) d) (fun i => i.2) (d, ((b - a - 1) / 2 + 1)) ⟨hd, by simp only; omega, rfl⟩ ⟨rfl, rfl, rfl, rfl, rfl, trivial⟩ ((hsub (.cons_cons _ (.refl _))).trans (hsub_pick [0] rfl)) (fun i hi => ?_)
  obtain ⟨d1, k⟩ := i
  obtain ⟨hs1, hk, hr1⟩ := hi
  try simp only at hs1 hk hr1
  try dsimp only
  refine C_seq ?_
  refine C_seq ?_
  refine C_region ?_
  refine L_y rfl (y_move rfl) rfl ?_
  refine L_y rfl (y_geq rfl rfl) rfl ?_
  refine L_nil ?_
  refine C_cond rfl (fun hc0 => ?_) (fun hc0 => ?_)
  · obtain ⟨k, rfl⟩ : ∃ m, k = m + 1 := ⟨k - 1, by have := of_decide_eq_true hc0; omega⟩
    rw [show (((k + 1 : Nat) : Int) - 1) = ((k : Nat) : Int) from by omega]
    refine C_skip ?_
    refine C_seq ?_
    refine C_block ?_
    refine C_region ?_
    refine L_y rfl (y_move rfl) rfl ?_
    refine L_y rfl (y_move rfl) rfl ?_
    refine L_y rfl (y_move rfl) rfl ?_
    refine L_y rfl (y_move rfl) rfl ?_
    refine L_op rfl (op_call rfl rfl (fun a w => Try.call96 a w) rfl ?_)
    refine (sift_u d1 (by first | exact hs1 | (rw [swp_size]; exact hs2)) hn k (b - a) a (by omega) (by omega)).mono ?_
    rintro _ _ ⟨rfl, rfl⟩
    refine ⟨_, rfl, ?_⟩
    refine L_nil ?_
    refine C_region ?_
    refine L_y rfl (y_move rfl) rfl ?_
    refine L_y rfl (y_sub rfl rfl (show _ = ((k : Nat) : Int) - 1 from by rw [wi64 (by omega) (by omega)])) rfl ?_
    refine L_y rfl (y_assign rfl) rfl ?_
    refine L_nil ?_
    exact ⟨(Go.Sort.siftDown ltN (b - a) a k d1, k), ⟨by simp only; rw [sd_size _ _ _ _ _ (Nat.le_refl _)]; exact hs1, by simp only; omega, by simp only; rw [← hr1]; rfl⟩, by simp only; omega, ⟨rfl, rfl, rfl, rfl, rfl, trivial⟩, ((hsub (.cons_cons _ (.refl _))).trans (hsub_pick [0] rfl))⟩
  · obtain rfl : k = 0 := by have := of_decide_eq_false hc0; omega
    refine C_exit ?_
    refine C_seq ?_
    refine C_region ?_
    refine L_y rfl (y_move rfl) rfl ?_
    refine L_y rfl (y_sub rfl rfl (show _ = (((b - a : Nat) : Int) - 1) from by rw [wi64 (by omega) (by omega)])) rfl ?_
    refine L_y rfl (y_assign rfl) rfl ?_
    refine L_nil ?_
    refine C_block ?_
    refine C_loop (ι := Array Nat × Nat) (fun i => [(0, (.slice (some ⟨sb, 0, none⟩) n cap)), (6, .int .i64 ((a : Nat) : Int)), (7, .int .i64 0), (8, .int .i64 ((b - a : Nat) : Int)), (10, .int .i64 ((i.2 : Int) - 1))]) (fun i => useg 48 sb i.1 sp :: H) (fun i => i.1.size = n ∧ i.2 ≤ b - a ∧ Go.Sort.heapPop ltN a i.2 i.1 = Go.Sort.heapSort ltN d a b) (fun i => i.2) (d1, b - a) ⟨hs1, Nat.le_refl _, by simp only; unfold Go.Sort.heapSort; rw [← hr1]; rfl⟩ ⟨rfl, rfl, rfl, rfl, rfl, trivial⟩ ((hsub (.cons_cons _ (.refl _))).trans (hsub_pick [0] rfl)) (fun i hi => ?_)
    obtain ⟨d2, k⟩ := i
    obtain ⟨hs2, hk, hr2⟩ := hi
    try simp only at hs2 hk hr2
    try dsimp only
    refine C_seq ?_
    refine C_seq ?_
    refine C_region ?_
    refine L_y rfl (y_move rfl) rfl ?_
    refine L_y rfl (y_geq rfl rfl) rfl ?_
    refine L_nil ?_
    refine C_cond rfl (fun hc1 => ?_) (fun hc1 => ?_)
    · obtain ⟨k, rfl⟩ : ∃ m, k = m + 1 := ⟨k - 1, by have := of_decide_eq_true hc1; omega⟩
      rw [show (((k + 1 : Nat) : Int) - 1) = ((k : Nat) : Int) from by omega]
      refine C_skip ?_
      refine C_seq ?_
      refine C_block ?_
      refine C_seq ?_
      refine C_regionH H (by kernel_rfl) ?_
      refine H_y 0 rfl (by kernel_rfl) (by kernel_rfl) (by kernel_rfl) ((hsub (.cons _ (.refl _)))) rfl (y_move rfl) rfl ?_
      refine H_y 1 rfl (by kernel_rfl) (by kernel_rfl) (by kernel_rfl) ((hsub (.cons _ (.refl _)))) rfl (y_move rfl) rfl ?_
      refine H_y 2 rfl (by kernel_rfl) (by kernel_rfl) (by kernel_rfl) ((hsub (.cons _ (.refl _)))) rfl (y_move rfl) rfl ?_
      refine H_y 3 rfl (by kernel_rfl) (by kernel_rfl) (by kernel_rfl) ((hsub (.cons _ (.refl _)))) rfl (y_move rfl) rfl ?_
      refine H_y 4 rfl (by kernel_rfl) (by kernel_rfl) (by kernel_rfl) ((hsub (.cons _ (.refl _)))) rfl (y_move rfl) rfl ?_
      refine H_y 5 rfl (by kernel_rfl) (by kernel_rfl) (by kernel_rfl) ((hsub (.cons _ (.refl _)))) rfl (y_add rfl rfl (show _ = ((a + k : Nat) : Int) from by rw [wi64 (by omega) (by omega)]; omega)) rfl ?_
      refine H_y 6 rfl (by kernel_rfl) (by kernel_rfl) (by kernel_rfl) ((hsub (.cons _ (.refl _)))) rfl (y_move rfl) rfl ?_
      refine H_y 7 rfl (by kernel_rfl) (by kernel_rfl) (by kernel_rfl) ((hsub (.cons _ (.refl _)))) rfl (y_move rfl) rfl ?_
      refine H_y 8 rfl (by kernel_rfl) (by kernel_rfl) (by kernel_rfl) ((hsub (.cons _ (.refl _)))) rfl (y_move rfl) rfl ?_
      refine H_y 9 rfl (by kernel_rfl) (by kernel_rfl) (by kernel_rfl) ((hsub (.cons _ (.refl _)))) rfl (y_add rfl rfl (show _ = ((a + k : Nat) : Int) from by rw [wi64 (by omega) (by omega)]; omega)) rfl ?_
      refine H_y 10 rfl (by kernel_rfl) (by kernel_rfl) (by kernel_rfl) ((hsub (.cons _ (.refl _)))) rfl (y_indexS rfl rfl Try.underlying33 sz_48 (by omega) (by omega) (ix0 ((a + k)))) rfl ?_
      refine H_y 12 rfl (by kernel_rfl) (by kernel_rfl) (by kernel_rfl) ((hsub (.cons _ (.refl _)))) rfl (y_move rfl) rfl ?_
      refine H_y 13 rfl (by kernel_rfl) (by kernel_rfl) (by kernel_rfl) ((hsub (.cons _ (.refl _)))) rfl (y_move rfl) rfl ?_
      refine H_y 14 rfl (by kernel_rfl) (by kernel_rfl) (by kernel_rfl) ((hsub (.cons _ (.refl _)))) rfl (y_indexS rfl rfl Try.underlying33 sz_48 (by omega) (by omega) (ix0 (a))) rfl ?_
      refine H_two 11 15 rfl rfl (by kernel_rfl) rfl rfl ?_ ?_
      · refine op_y (y_load rfl ag_48 (sees 0 0 rfl) (us_at (by omega))) rfl ?_
        refine ⟨(hsub (.cons _ (.refl _))), ?_⟩
        refine H_one 15 rfl (by kernel_rfl) rfl (op_y (y_load rfl ag_48 (sees 0 0 rfl) (us_at (by omega))) rfl ?_)
        refine ⟨(hsub (.cons _ (.refl _))), ?_⟩
        refine H_y 16 rfl (by kernel_rfl) (by kernel_rfl) (by kernel_rfl) ((hsub (.cons _ (.refl _)))) rfl (y_indexS rfl rfl Try.underlying33 sz_48 (by omega) (by omega) (ix0 (a))) rfl ?_
        refine H_one 17 rfl (by kernel_rfl) rfl (op_store1 0 0 rfl rfl rfl sz_48 rfl (us_lt (by omega)) ?_)
        refine ⟨(hsub (.cons _ (.refl _))), ?_⟩
        refine H_y 18 rfl (by kernel_rfl) (by kernel_rfl) (by kernel_rfl) ((hsub (.cons _ (.refl _)))) rfl (y_indexS rfl rfl Try.underlying33 sz_48 (by omega) (by omega) (ix0 ((a + k)))) rfl ?_
        refine H_one 19 rfl (by kernel_rfl) rfl (op_store1 0 0 rfl rfl rfl sz_48 rfl (by rw [List.length_set]; exact us_lt (by omega)) ?_)
        refine ⟨(hsub (.cons _ (.refl _))), ?_⟩
        refine H_done (by kernel_rfl) ?_
        rw [us_swp (by omega) (by omega)]
        refine C_region ?_
        refine L_y rfl (y_move rfl) rfl ?_
        refine L_y rfl (y_move rfl) rfl ?_
        refine L_y rfl (y_move rfl) rfl ?_
        refine L_y rfl (y_move rfl) rfl ?_
        refine L_op rfl (op_call rfl rfl (fun a w => Try.call96 a w) rfl ?_)
        refine (sift_u (Go.Sort.swp d2 a (a + k)) (by first | exact hs1 | (rw [swp_size]; exact hs2)) hn 0 k a (by omega) (by omega)).mono ?_
        rintro _ _ ⟨rfl, rfl⟩
        refine ⟨_, rfl, ?_⟩
        refine L_nil ?_
        refine C_region ?_
        refine L_y rfl (y_move rfl) rfl ?_
        refine L_y rfl (y_sub rfl rfl (show _ = ((k : Nat) : Int) - 1 from by rw [wi64 (by omega) (by omega)])) rfl ?_
        refine L_y rfl (y_assign rfl) rfl ?_
        refine L_nil ?_
        exact ⟨(Go.Sort.siftDown ltN k a 0 (Go.Sort.swp d2 a (a + k)), k), ⟨by simp only; rw [sd_size _ _ _ _ _ (Nat.le_refl _), swp_size]; exact hs2, by simp only; omega, by simp only; rw [← hr2]; rfl⟩, by simp only; omega, ⟨rfl, rfl, rfl, rfl, rfl, trivial⟩, ((hsub (.cons_cons _ (.refl _))).trans (hsub_pick [0] rfl))⟩
      · refine op_y (y_load rfl ag_48 (sees 0 0 rfl) (us_at (by omega))) rfl ?_
        refine ⟨(hsub (.cons _ (.refl _))), ?_⟩
        refine H_one 11 rfl (by kernel_rfl) rfl (op_y (y_load rfl ag_48 (sees 0 0 rfl) (us_at (by omega))) rfl ?_)
        refine ⟨(hsub (.cons _ (.refl _))), ?_⟩
        refine H_y 16 rfl (by kernel_rfl) (by kernel_rfl) (by kernel_rfl) ((hsub (.cons _ (.refl _)))) rfl (y_indexS rfl rfl Try.underlying33 sz_48 (by omega) (by omega) (ix0 (a))) rfl ?_
        refine H_one 17 rfl (by kernel_rfl) rfl (op_store1 0 0 rfl rfl rfl sz_48 rfl (us_lt (by omega)) ?_)
        refine ⟨(hsub (.cons _ (.refl _))), ?_⟩
        refine H_y 18 rfl (by kernel_rfl) (by kernel_rfl) (by kernel_rfl) ((hsub (.cons _ (.refl _)))) rfl (y_indexS rfl rfl Try.underlying33 sz_48 (by omega) (by omega) (ix0 ((a + k)))) rfl ?_
        refine H_one 19 rfl (by kernel_rfl) rfl (op_store1 0 0 rfl rfl rfl sz_48 rfl (by rw [List.length_set]; exact us_lt (by omega)) ?_)
        refine ⟨(hsub (.cons _ (.refl _))), ?_⟩
        refine H_done (by kernel_rfl) ?_
        rw [us_swp (by omega) (by omega)]
        refine C_region ?_
        refine L_y rfl (y_move rfl) rfl ?_
        refine L_y rfl (y_move rfl) rfl ?_
        refine L_y rfl (y_move rfl) rfl ?_
        refine L_y rfl (y_move rfl) rfl ?_
        refine L_op rfl (op_call rfl rfl (fun a w => Try.call96 a w) rfl ?_)
        refine (sift_u (Go.Sort.swp d2 a (a + k)) (by first | exact hs1 | (rw [swp_size]; exact hs2)) hn 0 k a (by omega) (by omega)).mono ?_
        rintro _ _ ⟨rfl, rfl⟩
        refine ⟨_, rfl, ?_⟩
        refine L_nil ?_
        refine C_region ?_
        refine L_y rfl (y_move rfl) rfl ?_
        refine L_y rfl (y_sub rfl rfl (show _ = ((k : Nat) : Int) - 1 from by rw [wi64 (by omega) (by omega)])) rfl ?_
        refine L_y rfl (y_assign rfl) rfl ?_
        refine L_nil ?_
        exact ⟨(Go.Sort.siftDown ltN k a 0 (Go.Sort.swp d2 a (a + k)), k), ⟨by simp only; rw [sd_size _ _ _ _ _ (Nat.le_refl _), swp_size]; exact hs2, by simp only; omega, by simp only; rw [← hr2]; rfl⟩, by simp only; omega, ⟨rfl, rfl, rfl, rfl, rfl, trivial⟩, ((hsub (.cons_cons _ (.refl _))).trans (hsub_pick [0] rfl))⟩
    · obtain rfl : k = 0 := by have := of_decide_eq_false hc1; omega
      refine C_exit ?_
      refine B_end rv_nil ((hsub (.cons_cons _ (.refl _))).trans (hsub_pick [0] rfl)) ?_
      refine ⟨rfl, ?_⟩
      rw [← hr2]
      rfl

end Go.Proofs.Ytighbhplfjjgpaa

/- walks (own work; the walks' lines by a program of this repo). -/
set_option linter.unusedVariables false
set_option linter.unusedSimpArgs false
set_option maxRecDepth 20000
namespace Go.Proofs.Ytighbhplfjjgpaa
open Go.Sl
attribute [local irreducible] BodyQ WpC WpL WpS WpH OpW FnS



set_option maxHeartbeats 2000000 in

theorem part_u {w0 : World} {H : Hp} {sb n cap : Nat} {sp : List Value} (d : Array Nat) (hd : d.size = n) (hn : n < 4611686018427387904) (a b pivot : Nat) (hap : a ≤ pivot) (hpb : pivot < b) (hb : b ≤ n) : FnS Try.prog w0 91 #[(.slice (some ⟨sb, 0, none⟩) n cap), .int .i64 ((a : Nat) : Int), .int .i64 ((b : Nat) : Int), .int .i64 ((pivot : Nat) : Int)] (useg 48 sb d sp :: H) (fun e H' => e = .returned (.tuple #[.int .i64 ((Go.Sort.partition ltN d a b pivot).1 : Int), .bool (Go.Sort.partition ltN d a b pivot).2.1]) ∧ H' = useg 48 sb (Go.Sort.partition ltN d a b pivot).2.2 sp :: H) := by
  refine FnS_intro (n := 168) (rs := [.tmp 8, .tmp 9]) (vs := [(.slice (some ⟨sb, 0, none⟩) n cap), .int .i64 ((a : Nat) : Int), .int .i64 ((b : Nat) : Int), .int .i64 ((pivot : Nat) : Int)]) Try.func91 rfl Try.ntmps91 rfl rfl ?_
  refine C_seq ?_
  refine C_region ?_
  refine L_y rfl (y_assign rfl) rfl ?_
  refine L_y rfl (y_assign rfl) rfl ?_
  refine L_nil ?_
  refine C_seq ?_
  refine C_regionH H (by kernel_rfl) ?_
  refine H_y 0 rfl (by kernel_rfl) (by kernel_rfl) (by kernel_rfl) ((hsub (.cons _ (.refl _)))) rfl (y_move rfl) rfl ?_
  refine H_y 1 rfl (by kernel_rfl) (by kernel_rfl) (by kernel_rfl) ((hsub (.cons _ (.refl _)))) rfl (y_move rfl) rfl ?_
  refine H_y 2 rfl (by kernel_rfl) (by kernel_rfl) (by kernel_rfl) ((hsub (.cons _ (.refl _)))) rfl (y_move rfl) rfl ?_
  refine H_y 3 rfl (by kernel_rfl) (by kernel_rfl) (by kernel_rfl) ((hsub (.cons _ (.refl _)))) rfl (y_move rfl) rfl ?_
  refine H_y 4 rfl (by kernel_rfl) (by kernel_rfl) (by kernel_rfl) ((hsub (.cons _ (.refl _)))) rfl (y_move rfl) rfl ?_
  refine H_y 5 rfl (by kernel_rfl) (by kernel_rfl) (by kernel_rfl) ((hsub (.cons _ (.refl _)))) rfl (y_move rfl) rfl ?_
  refine H_y 6 rfl (by kernel_rfl) (by kernel_rfl) (by kernel_rfl) ((hsub (.cons _ (.refl _)))) rfl (y_indexS rfl rfl Try.underlying33 sz_48 (by omega) (by omega) (ix0 (pivot))) rfl ?_
  refine H_y 8 rfl (by kernel_rfl) (by kernel_rfl) (by kernel_rfl) ((hsub (.cons _ (.refl _)))) rfl (y_move rfl) rfl ?_
  refine H_y 9 rfl (by kernel_rfl) (by kernel_rfl) (by kernel_rfl) ((hsub (.cons _ (.refl _)))) rfl (y_move rfl) rfl ?_
  refine H_y 10 rfl (by kernel_rfl) (by kernel_rfl) (by kernel_rfl) ((hsub (.cons _ (.refl _)))) rfl (y_indexS rfl rfl Try.underlying33 sz_48 (by omega) (by omega) (ix0 (a))) rfl ?_
  refine H_two 7 11 rfl rfl (by kernel_rfl) rfl rfl ?_ ?_
  · refine op_y (y_load rfl ag_48 (sees 0 0 rfl) (us_at (by omega))) rfl ?_
    refine ⟨(hsub (.cons _ (.refl _))), ?_⟩
    refine H_one 11 rfl (by kernel_rfl) rfl (op_y (y_load rfl ag_48 (sees 0 0 rfl) (us_at (by omega))) rfl ?_)
    refine ⟨(hsub (.cons _ (.refl _))), ?_⟩
    refine H_y 12 rfl (by kernel_rfl) (by kernel_rfl) (by kernel_rfl) ((hsub (.cons _ (.refl _)))) rfl (y_indexS rfl rfl Try.underlying33 sz_48 (by omega) (by omega) (ix0 (a))) rfl ?_
    refine H_one 13 rfl (by kernel_rfl) rfl (op_store1 0 0 rfl rfl rfl sz_48 rfl (us_lt (by omega)) ?_)
    refine ⟨(hsub (.cons _ (.refl _))), ?_⟩
    refine H_y 14 rfl (by kernel_rfl) (by kernel_rfl) (by kernel_rfl) ((hsub (.cons _ (.refl _)))) rfl (y_indexS rfl rfl Try.underlying33 sz_48 (by omega) (by omega) (ix0 (pivot))) rfl ?_
    refine H_one 15 rfl (by kernel_rfl) rfl (op_store1 0 0 rfl rfl rfl sz_48 rfl (by rw [List.length_set]; exact us_lt (by omega)) ?_)
    refine ⟨(hsub (.cons _ (.refl _))), ?_⟩
    refine H_done (by kernel_rfl) ?_
    rw [us_swp (by omega) (by omega)]
    obtain ⟨d1, hd1⟩ : ∃ y, y = Go.Sort.swp d a pivot := ⟨_, rfl⟩
    rw [← hd1]
    have hsd1 : d1.size = n := by rw [hd1, swp_size]; omega
    refine C_seq ?_
    refine C_region ?_
    refine L_y rfl (y_move rfl) rfl ?_
    refine L_y rfl (y_add rfl rfl (show _ = ((a + 1 : Nat) : Int) from by rw [wi64 (by omega) (by omega)]; omega)) rfl ?_
    refine L_y rfl (y_move rfl) rfl ?_
    refine L_y rfl (y_sub rfl rfl (show _ = ((b - 1 : Nat) : Int) from by rw [wi64 (by omega) (by omega)]; omega)) rfl ?_
    refine L_y rfl (y_assign rfl) rfl ?_
    refine L_y rfl (y_assign rfl) rfl ?_
    refine L_nil ?_
    refine C_cutG (ι := Nat) (fun t => a < t ∧ t ≤ b ∧ (a + 1) ≤ t ∧ Go.Sort.scanUp (upP a d1) d1 (b - 1) (a + 1) = t) (fun t => [(0, (.slice (some ⟨sb, 0, none⟩) n cap)), (1, .int .i64 ((a : Nat) : Int)), (2, .int .i64 ((b : Nat) : Int)), (10, .int .i64 ((t : Nat) : Int)), (11, .int .i64 (((b - 1) : Nat) : Int))]) (fun t => useg 48 sb d1 sp :: H) ?_ (fun t ht => ?_)
    · refine C_block ?_
      refine C_loop (ι := Nat) (fun t => [(0, (.slice (some ⟨sb, 0, none⟩) n cap)), (1, .int .i64 ((a : Nat) : Int)), (2, .int .i64 ((b : Nat) : Int)), (10, .int .i64 ((t : Nat) : Int)), (11, .int .i64 (((b - 1) : Nat) : Int))]) (fun t => useg 48 sb d1 sp :: H) (fun t => a < t ∧ t ≤ b ∧ (a + 1) ≤ t ∧ Go.Sort.scanUp (upP a d1) d1 (b - 1) t = Go.Sort.scanUp (upP a d1) d1 (b - 1) (a + 1)) (fun t => (b - 1) + 1 - t) (a + 1) (by refine ⟨by omega, by omega, by omega, rfl⟩ <;> omega) ⟨rfl, rfl, rfl, rfl, rfl, trivial⟩ ((hsub (.cons_cons _ (.refl _))).trans (hsub_pick [0] rfl)) (fun t ht => ?_)
      obtain ⟨ht1, ht2, ht3, hts⟩ := ht
      refine C_seq ?_
      refine C_seq ?_
      refine C_regionH0 (by kernel_rfl) ?_
      refine H_y 0 rfl (by kernel_rfl) (by kernel_rfl) (by kernel_rfl) (HSub.refl _) rfl (y_move rfl) rfl ?_
      refine H_y 1 rfl (by kernel_rfl) (by kernel_rfl) (by kernel_rfl) (HSub.refl _) rfl (y_move rfl) rfl ?_
      refine H_y 2 rfl (by kernel_rfl) (by kernel_rfl) (by kernel_rfl) (HSub.refl _) rfl (y_leq rfl rfl) rfl ?_
      refine H_y 3 rfl (by kernel_rfl) (by kernel_rfl) (by kernel_rfl) (HSub.refl _) rfl (y_move rfl) rfl ?_
      refine H_case 33 rfl (fun hg3_4 => ?_) (fun hg3_4 => ?_)
      · have hle : t ≤ (b - 1) := by have := of_decide_eq_true hg3_4; omega
        refine H_y 4 rfl (by kernel_rfl) (by kernel_rfl) (by kernel_rfl) (HSub.refl _) rfl (y_move rfl) rfl ?_
        refine H_y 5 rfl (by kernel_rfl) (by kernel_rfl) (by kernel_rfl) (HSub.refl _) rfl (y_move rfl) rfl ?_
        refine H_y 6 rfl (by kernel_rfl) (by kernel_rfl) (by kernel_rfl) (HSub.refl _) rfl (y_indexS rfl rfl Try.underlying33 sz_48 (by omega) (by omega) (ix0 (t))) rfl ?_
        refine H_y 7 rfl (by kernel_rfl) (by kernel_rfl) (by kernel_rfl) (HSub.refl _) rfl (y_load rfl ag_48 (sees 0 0 rfl) (us_at (by omega))) rfl ?_
        refine H_y 8 rfl (by kernel_rfl) (by kernel_rfl) (by kernel_rfl) (HSub.refl _) rfl (y_move rfl) rfl ?_
        refine H_y 9 rfl (by kernel_rfl) (by kernel_rfl) (by kernel_rfl) (HSub.refl _) rfl (y_move rfl) rfl ?_
        refine H_y 10 rfl (by kernel_rfl) (by kernel_rfl) (by kernel_rfl) (HSub.refl _) rfl (y_indexS rfl rfl Try.underlying33 sz_48 (by omega) (by omega) (ix0 (a))) rfl ?_
        refine H_y 11 rfl (by kernel_rfl) (by kernel_rfl) (by kernel_rfl) (HSub.refl _) rfl (y_load rfl ag_48 (sees 0 0 rfl) (us_at (by omega))) rfl ?_
        refine H_one 12 rfl (by kernel_rfl) rfl (op_call rfl rfl (fun a w => Try.call89 a w) rfl ?_)
        refine (less_u (d1[t]!) (d1[a]!)).mono ?_
        rintro _ _ ⟨rfl, e⟩
        obtain rfl := e.symm
        clear e
        refine ⟨_, rfl, ?_⟩
        refine ⟨HSub.refl _, ?_⟩
        refine H_y 13 rfl (by kernel_rfl) (by kernel_rfl) (by kernel_rfl) (HSub.refl _) rfl (y_pick_t rfl rfl) rfl ?_
        refine H_done (by kernel_rfl) ?_
        refine C_cond rfl (fun hc0 => ?_) (fun hc0 => ?_)
        · have hpt : (upP a d1) d1[t]! = true := hc0
          refine C_skip ?_
          refine C_block ?_
          refine C_region ?_
          refine L_y rfl (y_move rfl) rfl ?_
          refine L_y rfl (y_add rfl rfl (show _ = ((t + 1 : Nat) : Int) from by rw [wi64 (by omega) (by omega)]; omega)) rfl ?_
          refine L_y rfl (y_assign rfl) rfl ?_
          refine L_nil ?_
          exact ⟨t + 1, ⟨by omega, by omega, by omega, by rw [← hts, su_go hle hpt]⟩, by omega, ⟨rfl, rfl, rfl, rfl, rfl, trivial⟩, ((hsub (.cons_cons _ (.refl _))).trans (hsub_pick [0] rfl))⟩
        · have hfin := hts.symm.trans (su_stop (p := (upP a d1)) (d := d1) (.inr hc0))
          refine C_exit ?_
          exact ⟨t, ⟨ht1, ht2, ht3, hfin⟩, ⟨rfl, rfl, rfl, rfl, rfl, trivial⟩, ((hsub (.cons_cons _ (.refl _))).trans (hsub_pick [0] rfl))⟩
      · have hle : ¬ t ≤ (b - 1) := by have := of_decide_eq_false hg3_4; omega
        have hfin := hts.symm.trans (su_stop (p := (upP a d1)) (d := d1) (.inl hle))
        refine H_skip 4 rfl (by kernel_rfl) (by kernel_rfl) (by kernel_rfl) (HSub.refl _) rfl rfl ?_
        refine H_skip 5 rfl (by kernel_rfl) (by kernel_rfl) (by kernel_rfl) (HSub.refl _) rfl rfl ?_
        refine H_skip 6 rfl (by kernel_rfl) (by kernel_rfl) (by kernel_rfl) (HSub.refl _) rfl rfl ?_
        refine H_skip 7 rfl (by kernel_rfl) (by kernel_rfl) (by kernel_rfl) (HSub.refl _) rfl rfl ?_
        refine H_skip 8 rfl (by kernel_rfl) (by kernel_rfl) (by kernel_rfl) (HSub.refl _) rfl rfl ?_
        refine H_skip 9 rfl (by kernel_rfl) (by kernel_rfl) (by kernel_rfl) (HSub.refl _) rfl rfl ?_
        refine H_skip 10 rfl (by kernel_rfl) (by kernel_rfl) (by kernel_rfl) (HSub.refl _) rfl rfl ?_
        refine H_skip 11 rfl (by kernel_rfl) (by kernel_rfl) (by kernel_rfl) (HSub.refl _) rfl rfl ?_
        refine H_skip 12 rfl (by kernel_rfl) (by kernel_rfl) (by kernel_rfl) (HSub.refl _) rfl rfl ?_
        refine H_y 13 rfl (by kernel_rfl) (by kernel_rfl) (by kernel_rfl) (HSub.refl _) rfl (y_pick_f rfl rfl) rfl ?_
        refine H_done (by kernel_rfl) ?_
        refine C_cond_f rfl ?_
        refine C_exit ?_
        exact ⟨t, ⟨ht1, ht2, ht3, hfin⟩, ⟨rfl, rfl, rfl, rfl, rfl, trivial⟩, ((hsub (.cons_cons _ (.refl _))).trans (hsub_pick [0] rfl))⟩
    · rename Nat => i
      obtain ⟨qi0, qi1, qi2, hi⟩ := ht
      refine C_cutG (ι := Nat) (fun t => t < b ∧ t ≤ (b - 1) ∧ Go.Sort.scanDown (dnP a d1) d1 i (b - 1) = t) (fun t => [(0, (.slice (some ⟨sb, 0, none⟩) n cap)), (1, .int .i64 ((a : Nat) : Int)), (2, .int .i64 ((b : Nat) : Int)), (10, .int .i64 ((i : Nat) : Int)), (11, .int .i64 ((t : Nat) : Int))]) (fun t => useg 48 sb d1 sp :: H) ?_ (fun t ht => ?_)
      · refine C_block ?_
        refine C_loop (ι := Nat) (fun t => [(0, (.slice (some ⟨sb, 0, none⟩) n cap)), (1, .int .i64 ((a : Nat) : Int)), (2, .int .i64 ((b : Nat) : Int)), (10, .int .i64 ((i : Nat) : Int)), (11, .int .i64 ((t : Nat) : Int))]) (fun t => useg 48 sb d1 sp :: H) (fun t => t < b ∧ t ≤ (b - 1) ∧ Go.Sort.scanDown (dnP a d1) d1 i t = Go.Sort.scanDown (dnP a d1) d1 i (b - 1)) (fun t => t) (b - 1) (by refine ⟨by omega, by omega, rfl⟩ <;> omega) ⟨rfl, rfl, rfl, rfl, rfl, trivial⟩ ((hsub (.cons_cons _ (.refl _))).trans (hsub_pick [0] rfl)) (fun t ht => ?_)
        obtain ⟨ht1, ht2, hts⟩ := ht
        refine C_seq ?_
        refine C_seq ?_
        refine C_regionH0 (by kernel_rfl) ?_
        refine H_y 0 rfl (by kernel_rfl) (by kernel_rfl) (by kernel_rfl) (HSub.refl _) rfl (y_move rfl) rfl ?_
        refine H_y 1 rfl (by kernel_rfl) (by kernel_rfl) (by kernel_rfl) (HSub.refl _) rfl (y_move rfl) rfl ?_
        refine H_y 2 rfl (by kernel_rfl) (by kernel_rfl) (by kernel_rfl) (HSub.refl _) rfl (y_leq rfl rfl) rfl ?_
        refine H_y 3 rfl (by kernel_rfl) (by kernel_rfl) (by kernel_rfl) (HSub.refl _) rfl (y_move rfl) rfl ?_
        refine H_case 49 rfl (fun hg5_4 => ?_) (fun hg5_4 => ?_)
        · have hle : i ≤ t := by have := of_decide_eq_true hg5_4; omega
          refine H_y 4 rfl (by kernel_rfl) (by kernel_rfl) (by kernel_rfl) (HSub.refl _) rfl (y_move rfl) rfl ?_
          refine H_y 5 rfl (by kernel_rfl) (by kernel_rfl) (by kernel_rfl) (HSub.refl _) rfl (y_move rfl) rfl ?_
          refine H_y 6 rfl (by kernel_rfl) (by kernel_rfl) (by kernel_rfl) (HSub.refl _) rfl (y_indexS rfl rfl Try.underlying33 sz_48 (by omega) (by omega) (ix0 (t))) rfl ?_
          refine H_y 7 rfl (by kernel_rfl) (by kernel_rfl) (by kernel_rfl) (HSub.refl _) rfl (y_load rfl ag_48 (sees 0 0 rfl) (us_at (by omega))) rfl ?_
          refine H_y 8 rfl (by kernel_rfl) (by kernel_rfl) (by kernel_rfl) (HSub.refl _) rfl (y_move rfl) rfl ?_
          refine H_y 9 rfl (by kernel_rfl) (by kernel_rfl) (by kernel_rfl) (HSub.refl _) rfl (y_move rfl) rfl ?_
          refine H_y 10 rfl (by kernel_rfl) (by kernel_rfl) (by kernel_rfl) (HSub.refl _) rfl (y_indexS rfl rfl Try.underlying33 sz_48 (by omega) (by omega) (ix0 (a))) rfl ?_
          refine H_y 11 rfl (by kernel_rfl) (by kernel_rfl) (by kernel_rfl) (HSub.refl _) rfl (y_load rfl ag_48 (sees 0 0 rfl) (us_at (by omega))) rfl ?_
          refine H_one 12 rfl (by kernel_rfl) rfl (op_call rfl rfl (fun a w => Try.call89 a w) rfl ?_)
          refine (less_u (d1[t]!) (d1[a]!)).mono ?_
          rintro _ _ ⟨rfl, e⟩
          obtain rfl := e.symm
          clear e
          refine ⟨_, rfl, ?_⟩
          refine ⟨HSub.refl _, ?_⟩
          refine H_y 13 rfl (by kernel_rfl) (by kernel_rfl) (by kernel_rfl) (HSub.refl _) rfl (y_not rfl) rfl ?_
          refine H_y 14 rfl (by kernel_rfl) (by kernel_rfl) (by kernel_rfl) (HSub.refl _) rfl (y_pick_t rfl rfl) rfl ?_
          refine H_done (by kernel_rfl) ?_
          refine C_cond rfl (fun hc1 => ?_) (fun hc1 => ?_)
          · have hpt : (dnP a d1) d1[t]! = true := hc1
            refine C_skip ?_
            refine C_block ?_
            refine C_region ?_
            refine L_y rfl (y_move rfl) rfl ?_
            refine L_y rfl (y_sub rfl rfl (show _ = ((t - 1 : Nat) : Int) from by rw [wi64 (by omega) (by omega)]; omega)) rfl ?_
            refine L_y rfl (y_assign rfl) rfl ?_
            refine L_nil ?_
            exact ⟨t - 1, ⟨by omega, by omega, by rw [← hts, sn_go hle (by omega) hpt]⟩, by omega, ⟨rfl, rfl, rfl, rfl, rfl, trivial⟩, ((hsub (.cons_cons _ (.refl _))).trans (hsub_pick [0] rfl))⟩
          · have hfin := hts.symm.trans (sn_stop (p := (dnP a d1)) (d := d1) (.inr hc1))
            refine C_exit ?_
            exact ⟨t, ⟨ht1, ht2, hfin⟩, ⟨rfl, rfl, rfl, rfl, rfl, trivial⟩, ((hsub (.cons_cons _ (.refl _))).trans (hsub_pick [0] rfl))⟩
        · have hle : ¬ i ≤ t := by have := of_decide_eq_false hg5_4; omega
          have hfin := hts.symm.trans (sn_stop (p := (dnP a d1)) (d := d1) (.inl hle))
          refine H_skip 4 rfl (by kernel_rfl) (by kernel_rfl) (by kernel_rfl) (HSub.refl _) rfl rfl ?_
          refine H_skip 5 rfl (by kernel_rfl) (by kernel_rfl) (by kernel_rfl) (HSub.refl _) rfl rfl ?_
          refine H_skip 6 rfl (by kernel_rfl) (by kernel_rfl) (by kernel_rfl) (HSub.refl _) rfl rfl ?_
          refine H_skip 7 rfl (by kernel_rfl) (by kernel_rfl) (by kernel_rfl) (HSub.refl _) rfl rfl ?_
          refine H_skip 8 rfl (by kernel_rfl) (by kernel_rfl) (by kernel_rfl) (HSub.refl _) rfl rfl ?_
          refine H_skip 9 rfl (by kernel_rfl) (by kernel_rfl) (by kernel_rfl) (HSub.refl _) rfl rfl ?_
          refine H_skip 10 rfl (by kernel_rfl) (by kernel_rfl) (by kernel_rfl) (HSub.refl _) rfl rfl ?_
          refine H_skip 11 rfl (by kernel_rfl) (by kernel_rfl) (by kernel_rfl) (HSub.refl _) rfl rfl ?_
          refine H_skip 12 rfl (by kernel_rfl) (by kernel_rfl) (by kernel_rfl) (HSub.refl _) rfl rfl ?_
          refine H_skip 13 rfl (by kernel_rfl) (by kernel_rfl) (by kernel_rfl) (HSub.refl _) rfl rfl ?_
          refine H_y 14 rfl (by kernel_rfl) (by kernel_rfl) (by kernel_rfl) (HSub.refl _) rfl (y_pick_f rfl rfl) rfl ?_
          refine H_done (by kernel_rfl) ?_
          refine C_cond_f rfl ?_
          refine C_exit ?_
          exact ⟨t, ⟨ht1, ht2, hfin⟩, ⟨rfl, rfl, rfl, rfl, rfl, trivial⟩, ((hsub (.cons_cons _ (.refl _))).trans (hsub_pick [0] rfl))⟩
      · rename Nat => j
        obtain ⟨qj0, qj1, hj⟩ := ht
        refine C_seq ?_
        refine C_seq ?_
        refine C_region ?_
        refine L_y rfl (y_move rfl) rfl ?_
        refine L_y rfl (y_move rfl) rfl ?_
        refine L_y rfl (y_gtr rfl rfl) rfl ?_
        refine L_nil ?_
        refine C_cond rfl (fun hc2 => ?_) (fun hc2 => ?_)
        · replace hc2 : j < i := by have := of_decide_eq_true hc2; omega
          refine C_seq ?_
          refine C_regionH H (by kernel_rfl) ?_
          refine H_y 0 rfl (by kernel_rfl) (by kernel_rfl) (by kernel_rfl) ((hsub (.cons _ (.refl _)))) rfl (y_move rfl) rfl ?_
          refine H_y 1 rfl (by kernel_rfl) (by kernel_rfl) (by kernel_rfl) ((hsub (.cons _ (.refl _)))) rfl (y_move rfl) rfl ?_
          refine H_y 2 rfl (by kernel_rfl) (by kernel_rfl) (by kernel_rfl) ((hsub (.cons _ (.refl _)))) rfl (y_move rfl) rfl ?_
          refine H_y 3 rfl (by kernel_rfl) (by kernel_rfl) (by kernel_rfl) ((hsub (.cons _ (.refl _)))) rfl (y_move rfl) rfl ?_
          refine H_y 4 rfl (by kernel_rfl) (by kernel_rfl) (by kernel_rfl) ((hsub (.cons _ (.refl _)))) rfl (y_move rfl) rfl ?_
          refine H_y 5 rfl (by kernel_rfl) (by kernel_rfl) (by kernel_rfl) ((hsub (.cons _ (.refl _)))) rfl (y_move rfl) rfl ?_
          refine H_y 6 rfl (by kernel_rfl) (by kernel_rfl) (by kernel_rfl) ((hsub (.cons _ (.refl _)))) rfl (y_indexS rfl rfl Try.underlying33 sz_48 (by omega) (by omega) (ix0 (a))) rfl ?_
          refine H_y 8 rfl (by kernel_rfl) (by kernel_rfl) (by kernel_rfl) ((hsub (.cons _ (.refl _)))) rfl (y_move rfl) rfl ?_
          refine H_y 9 rfl (by kernel_rfl) (by kernel_rfl) (by kernel_rfl) ((hsub (.cons _ (.refl _)))) rfl (y_move rfl) rfl ?_
          refine H_y 10 rfl (by kernel_rfl) (by kernel_rfl) (by kernel_rfl) ((hsub (.cons _ (.refl _)))) rfl (y_indexS rfl rfl Try.underlying33 sz_48 (by omega) (by omega) (ix0 (j))) rfl ?_
          refine H_two 7 11 rfl rfl (by kernel_rfl) rfl rfl ?_ ?_
          · refine op_y (y_load rfl ag_48 (sees 0 0 rfl) (us_at (by omega))) rfl ?_
            refine ⟨(hsub (.cons _ (.refl _))), ?_⟩
            refine H_one 11 rfl (by kernel_rfl) rfl (op_y (y_load rfl ag_48 (sees 0 0 rfl) (us_at (by omega))) rfl ?_)
            refine ⟨(hsub (.cons _ (.refl _))), ?_⟩
            refine H_y 12 rfl (by kernel_rfl) (by kernel_rfl) (by kernel_rfl) ((hsub (.cons _ (.refl _)))) rfl (y_indexS rfl rfl Try.underlying33 sz_48 (by omega) (by omega) (ix0 (j))) rfl ?_
            refine H_one 13 rfl (by kernel_rfl) rfl (op_store1 0 0 rfl rfl rfl sz_48 rfl (us_lt (by omega)) ?_)
            refine ⟨(hsub (.cons _ (.refl _))), ?_⟩
            refine H_y 14 rfl (by kernel_rfl) (by kernel_rfl) (by kernel_rfl) ((hsub (.cons _ (.refl _)))) rfl (y_indexS rfl rfl Try.underlying33 sz_48 (by omega) (by omega) (ix0 (a))) rfl ?_
            refine H_one 15 rfl (by kernel_rfl) rfl (op_store1 0 0 rfl rfl rfl sz_48 rfl (by rw [List.length_set]; exact us_lt (by omega)) ?_)
            refine ⟨(hsub (.cons _ (.refl _))), ?_⟩
            refine H_done (by kernel_rfl) ?_
            rw [us_swp (by omega) (by omega)]
            refine C_seq ?_
            refine C_region ?_
            refine L_y rfl (y_move rfl) rfl ?_
            refine L_y rfl (y_assign rfl) rfl ?_
            refine L_y rfl (y_assign rfl) rfl ?_
            refine L_nil ?_
            refine C_ret ?_
            refine B_ret (rv_tmp rfl (rv_tmp rfl rv_nil)) ((hsub (.cons_cons _ (.refl _))).trans (hsub_pick [0] rfl)) ?_
            first
            | (rw [pt_t hd1 hi hj hc2]; exact ⟨rfl, rfl⟩)
            | (rw [pt_f (j2 := v2) (d2 := d3) hd1 hi hj hc2 (by rw [← hd2, ← hr3]; exact pl_stop hu2 hv2 hc5)]; exact ⟨rfl, rfl⟩)
          · refine op_y (y_load rfl ag_48 (sees 0 0 rfl) (us_at (by omega))) rfl ?_
            refine ⟨(hsub (.cons _ (.refl _))), ?_⟩
            refine H_one 7 rfl (by kernel_rfl) rfl (op_y (y_load rfl ag_48 (sees 0 0 rfl) (us_at (by omega))) rfl ?_)
            refine ⟨(hsub (.cons _ (.refl _))), ?_⟩
            refine H_y 12 rfl (by kernel_rfl) (by kernel_rfl) (by kernel_rfl) ((hsub (.cons _ (.refl _)))) rfl (y_indexS rfl rfl Try.underlying33 sz_48 (by omega) (by omega) (ix0 (j))) rfl ?_
            refine H_one 13 rfl (by kernel_rfl) rfl (op_store1 0 0 rfl rfl rfl sz_48 rfl (us_lt (by omega)) ?_)
            refine ⟨(hsub (.cons _ (.refl _))), ?_⟩
            refine H_y 14 rfl (by kernel_rfl) (by kernel_rfl) (by kernel_rfl) ((hsub (.cons _ (.refl _)))) rfl (y_indexS rfl rfl Try.underlying33 sz_48 (by omega) (by omega) (ix0 (a))) rfl ?_
            refine H_one 15 rfl (by kernel_rfl) rfl (op_store1 0 0 rfl rfl rfl sz_48 rfl (by rw [List.length_set]; exact us_lt (by omega)) ?_)
            refine ⟨(hsub (.cons _ (.refl _))), ?_⟩
            refine H_done (by kernel_rfl) ?_
            rw [us_swp (by omega) (by omega)]
            refine C_seq ?_
            refine C_region ?_
            refine L_y rfl (y_move rfl) rfl ?_
            refine L_y rfl (y_assign rfl) rfl ?_
            refine L_y rfl (y_assign rfl) rfl ?_
            refine L_nil ?_
            refine C_ret ?_
            refine B_ret (rv_tmp rfl (rv_tmp rfl rv_nil)) ((hsub (.cons_cons _ (.refl _))).trans (hsub_pick [0] rfl)) ?_
            first
            | (rw [pt_t hd1 hi hj hc2]; exact ⟨rfl, rfl⟩)
            | (rw [pt_f (j2 := v2) (d2 := d3) hd1 hi hj hc2 (by rw [← hd2, ← hr3]; exact pl_stop hu2 hv2 hc5)]; exact ⟨rfl, rfl⟩)
        · replace hc2 : ¬ j < i := by have := of_decide_eq_false hc2; omega
          refine C_skip ?_
          refine C_seq ?_
          refine C_regionH H (by kernel_rfl) ?_
          refine H_y 0 rfl (by kernel_rfl) (by kernel_rfl) (by kernel_rfl) ((hsub (.cons _ (.refl _)))) rfl (y_move rfl) rfl ?_
          refine H_y 1 rfl (by kernel_rfl) (by kernel_rfl) (by kernel_rfl) ((hsub (.cons _ (.refl _)))) rfl (y_move rfl) rfl ?_
          refine H_y 2 rfl (by kernel_rfl) (by kernel_rfl) (by kernel_rfl) ((hsub (.cons _ (.refl _)))) rfl (y_move rfl) rfl ?_
          refine H_y 3 rfl (by kernel_rfl) (by kernel_rfl) (by kernel_rfl) ((hsub (.cons _ (.refl _)))) rfl (y_move rfl) rfl ?_
          refine H_y 4 rfl (by kernel_rfl) (by kernel_rfl) (by kernel_rfl) ((hsub (.cons _ (.refl _)))) rfl (y_move rfl) rfl ?_
          refine H_y 5 rfl (by kernel_rfl) (by kernel_rfl) (by kernel_rfl) ((hsub (.cons _ (.refl _)))) rfl (y_move rfl) rfl ?_
          refine H_y 6 rfl (by kernel_rfl) (by kernel_rfl) (by kernel_rfl) ((hsub (.cons _ (.refl _)))) rfl (y_indexS rfl rfl Try.underlying33 sz_48 (by omega) (by omega) (ix0 (j))) rfl ?_
          refine H_y 8 rfl (by kernel_rfl) (by kernel_rfl) (by kernel_rfl) ((hsub (.cons _ (.refl _)))) rfl (y_move rfl) rfl ?_
          refine H_y 9 rfl (by kernel_rfl) (by kernel_rfl) (by kernel_rfl) ((hsub (.cons _ (.refl _)))) rfl (y_move rfl) rfl ?_
          refine H_y 10 rfl (by kernel_rfl) (by kernel_rfl) (by kernel_rfl) ((hsub (.cons _ (.refl _)))) rfl (y_indexS rfl rfl Try.underlying33 sz_48 (by omega) (by omega) (ix0 (i))) rfl ?_
          refine H_two 7 11 rfl rfl (by kernel_rfl) rfl rfl ?_ ?_
          · refine op_y (y_load rfl ag_48 (sees 0 0 rfl) (us_at (by omega))) rfl ?_
            refine ⟨(hsub (.cons _ (.refl _))), ?_⟩
            refine H_one 11 rfl (by kernel_rfl) rfl (op_y (y_load rfl ag_48 (sees 0 0 rfl) (us_at (by omega))) rfl ?_)
            refine ⟨(hsub (.cons _ (.refl _))), ?_⟩
            refine H_y 12 rfl (by kernel_rfl) (by kernel_rfl) (by kernel_rfl) ((hsub (.cons _ (.refl _)))) rfl (y_indexS rfl rfl Try.underlying33 sz_48 (by omega) (by omega) (ix0 (i))) rfl ?_
            refine H_one 13 rfl (by kernel_rfl) rfl (op_store1 0 0 rfl rfl rfl sz_48 rfl (us_lt (by omega)) ?_)
            refine ⟨(hsub (.cons _ (.refl _))), ?_⟩
            refine H_y 14 rfl (by kernel_rfl) (by kernel_rfl) (by kernel_rfl) ((hsub (.cons _ (.refl _)))) rfl (y_indexS rfl rfl Try.underlying33 sz_48 (by omega) (by omega) (ix0 (j))) rfl ?_
            refine H_one 15 rfl (by kernel_rfl) rfl (op_store1 0 0 rfl rfl rfl sz_48 rfl (by rw [List.length_set]; exact us_lt (by omega)) ?_)
            refine ⟨(hsub (.cons _ (.refl _))), ?_⟩
            refine H_done (by kernel_rfl) ?_
            rw [us_swp (by omega) (by omega)]
            obtain ⟨d2, hd2⟩ : ∃ y, y = Go.Sort.swp d1 i j := ⟨_, rfl⟩
            rw [← hd2]
            have hsd2 : d2.size = n := by rw [hd2, swp_size]; omega
            refine C_seq ?_
            refine C_region ?_
            refine L_y rfl (y_move rfl) rfl ?_
            refine L_y rfl (y_add rfl rfl (show _ = ((i + 1 : Nat) : Int) from by rw [wi64 (by omega) (by omega)]; omega)) rfl ?_
            refine L_y rfl (y_assign rfl) rfl ?_
            refine L_nil ?_
            refine C_seq ?_
            refine C_region ?_
            refine L_y rfl (y_move rfl) rfl ?_
            refine L_y rfl (y_sub rfl rfl (show _ = ((j - 1 : Nat) : Int) from by rw [wi64 (by omega) (by omega)]; omega)) rfl ?_
            refine L_y rfl (y_assign rfl) rfl ?_
            refine L_nil ?_
            refine C_seq ?_
            refine C_block ?_
            refine C_loop (ι := Array Nat × Nat × Nat) (fun x => [(0, (.slice (some ⟨sb, 0, none⟩) n cap)), (1, .int .i64 ((a : Nat) : Int)), (2, .int .i64 ((b : Nat) : Int)), (10, .int .i64 ((x.2.1 : Nat) : Int)), (11, .int .i64 ((x.2.2 : Nat) : Int))]) (fun x => useg 48 sb x.1 sp :: H) (fun x => x.1.size = n ∧ a < x.2.1 ∧ x.2.1 ≤ b ∧ x.2.2 < b ∧ Go.Sort.partLoop ltN a x.2.1 x.2.2 x.1 = Go.Sort.partLoop ltN a (i + 1) (j - 1) d2) (fun x => x.2.2 + 1 - x.2.1) (d2, i + 1, j - 1) ⟨hsd2, by simp only; omega, by simp only; omega, by simp only; omega, rfl⟩ ⟨rfl, rfl, rfl, rfl, rfl, trivial⟩ ((hsub (.cons_cons _ (.refl _))).trans (hsub_pick [0] rfl)) (fun x hx => ?_)
            obtain ⟨d3, u, v⟩ := x
            obtain ⟨hs3, hu1, hu2, hv1, hr3⟩ := hx
            try simp only at hs3 hu1 hu2 hv1 hr3
            try dsimp only
            refine C_block ?_
            refine C_cutG (ι := Nat) (fun t => a < t ∧ t ≤ b ∧ u ≤ t ∧ Go.Sort.scanUp (upP a d3) d3 v u = t) (fun t => [(0, (.slice (some ⟨sb, 0, none⟩) n cap)), (1, .int .i64 ((a : Nat) : Int)), (2, .int .i64 ((b : Nat) : Int)), (10, .int .i64 ((t : Nat) : Int)), (11, .int .i64 ((v : Nat) : Int))]) (fun t => useg 48 sb d3 sp :: H) ?_ (fun t ht => ?_)
            · refine C_block ?_
              refine C_loop (ι := Nat) (fun t => [(0, (.slice (some ⟨sb, 0, none⟩) n cap)), (1, .int .i64 ((a : Nat) : Int)), (2, .int .i64 ((b : Nat) : Int)), (10, .int .i64 ((t : Nat) : Int)), (11, .int .i64 ((v : Nat) : Int))]) (fun t => useg 48 sb d3 sp :: H) (fun t => a < t ∧ t ≤ b ∧ u ≤ t ∧ Go.Sort.scanUp (upP a d3) d3 v t = Go.Sort.scanUp (upP a d3) d3 v u) (fun t => v + 1 - t) u (by refine ⟨by omega, by omega, by omega, rfl⟩ <;> omega) ⟨rfl, rfl, rfl, rfl, rfl, trivial⟩ ((hsub (.cons_cons _ (.refl _))).trans (hsub_pick [0] rfl)) (fun t ht => ?_)
              obtain ⟨ht1, ht2, ht3, hts⟩ := ht
              refine C_seq ?_
              refine C_seq ?_
              refine C_regionH0 (by kernel_rfl) ?_
              refine H_y 0 rfl (by kernel_rfl) (by kernel_rfl) (by kernel_rfl) (HSub.refl _) rfl (y_move rfl) rfl ?_
              refine H_y 1 rfl (by kernel_rfl) (by kernel_rfl) (by kernel_rfl) (HSub.refl _) rfl (y_move rfl) rfl ?_
              refine H_y 2 rfl (by kernel_rfl) (by kernel_rfl) (by kernel_rfl) (HSub.refl _) rfl (y_leq rfl rfl) rfl ?_
              refine H_y 3 rfl (by kernel_rfl) (by kernel_rfl) (by kernel_rfl) (HSub.refl _) rfl (y_move rfl) rfl ?_
              refine H_case 102 rfl (fun hg13_4 => ?_) (fun hg13_4 => ?_)
              · have hle : t ≤ v := by have := of_decide_eq_true hg13_4; omega
                refine H_y 4 rfl (by kernel_rfl) (by kernel_rfl) (by kernel_rfl) (HSub.refl _) rfl (y_move rfl) rfl ?_
                refine H_y 5 rfl (by kernel_rfl) (by kernel_rfl) (by kernel_rfl) (HSub.refl _) rfl (y_move rfl) rfl ?_
                refine H_y 6 rfl (by kernel_rfl) (by kernel_rfl) (by kernel_rfl) (HSub.refl _) rfl (y_indexS rfl rfl Try.underlying33 sz_48 (by omega) (by omega) (ix0 (t))) rfl ?_
                refine H_y 7 rfl (by kernel_rfl) (by kernel_rfl) (by kernel_rfl) (HSub.refl _) rfl (y_load rfl ag_48 (sees 0 0 rfl) (us_at (by omega))) rfl ?_
                refine H_y 8 rfl (by kernel_rfl) (by kernel_rfl) (by kernel_rfl) (HSub.refl _) rfl (y_move rfl) rfl ?_
                refine H_y 9 rfl (by kernel_rfl) (by kernel_rfl) (by kernel_rfl) (HSub.refl _) rfl (y_move rfl) rfl ?_
                refine H_y 10 rfl (by kernel_rfl) (by kernel_rfl) (by kernel_rfl) (HSub.refl _) rfl (y_indexS rfl rfl Try.underlying33 sz_48 (by omega) (by omega) (ix0 (a))) rfl ?_
                refine H_y 11 rfl (by kernel_rfl) (by kernel_rfl) (by kernel_rfl) (HSub.refl _) rfl (y_load rfl ag_48 (sees 0 0 rfl) (us_at (by omega))) rfl ?_
                refine H_one 12 rfl (by kernel_rfl) rfl (op_call rfl rfl (fun a w => Try.call89 a w) rfl ?_)
                refine (less_u (d3[t]!) (d3[a]!)).mono ?_
                rintro _ _ ⟨rfl, e⟩
                obtain rfl := e.symm
                clear e
                refine ⟨_, rfl, ?_⟩
                refine ⟨HSub.refl _, ?_⟩
                refine H_y 13 rfl (by kernel_rfl) (by kernel_rfl) (by kernel_rfl) (HSub.refl _) rfl (y_pick_t rfl rfl) rfl ?_
                refine H_done (by kernel_rfl) ?_
                refine C_cond rfl (fun hc3 => ?_) (fun hc3 => ?_)
                · have hpt : (upP a d3) d3[t]! = true := hc3
                  refine C_skip ?_
                  refine C_block ?_
                  refine C_region ?_
                  refine L_y rfl (y_move rfl) rfl ?_
                  refine L_y rfl (y_add rfl rfl (show _ = ((t + 1 : Nat) : Int) from by rw [wi64 (by omega) (by omega)]; omega)) rfl ?_
                  refine L_y rfl (y_assign rfl) rfl ?_
                  refine L_nil ?_
                  exact ⟨t + 1, ⟨by omega, by omega, by omega, by rw [← hts, su_go hle hpt]⟩, by omega, ⟨rfl, rfl, rfl, rfl, rfl, trivial⟩, ((hsub (.cons_cons _ (.refl _))).trans (hsub_pick [0] rfl))⟩
                · have hfin := hts.symm.trans (su_stop (p := (upP a d3)) (d := d3) (.inr hc3))
                  refine C_exit ?_
                  exact ⟨t, ⟨ht1, ht2, ht3, hfin⟩, ⟨rfl, rfl, rfl, rfl, rfl, trivial⟩, ((hsub (.cons_cons _ (.refl _))).trans (hsub_pick [0] rfl))⟩
              · have hle : ¬ t ≤ v := by have := of_decide_eq_false hg13_4; omega
                have hfin := hts.symm.trans (su_stop (p := (upP a d3)) (d := d3) (.inl hle))
                refine H_skip 4 rfl (by kernel_rfl) (by kernel_rfl) (by kernel_rfl) (HSub.refl _) rfl rfl ?_
                refine H_skip 5 rfl (by kernel_rfl) (by kernel_rfl) (by kernel_rfl) (HSub.refl _) rfl rfl ?_
                refine H_skip 6 rfl (by kernel_rfl) (by kernel_rfl) (by kernel_rfl) (HSub.refl _) rfl rfl ?_
                refine H_skip 7 rfl (by kernel_rfl) (by kernel_rfl) (by kernel_rfl) (HSub.refl _) rfl rfl ?_
                refine H_skip 8 rfl (by kernel_rfl) (by kernel_rfl) (by kernel_rfl) (HSub.refl _) rfl rfl ?_
                refine H_skip 9 rfl (by kernel_rfl) (by kernel_rfl) (by kernel_rfl) (HSub.refl _) rfl rfl ?_
                refine H_skip 10 rfl (by kernel_rfl) (by kernel_rfl) (by kernel_rfl) (HSub.refl _) rfl rfl ?_
                refine H_skip 11 rfl (by kernel_rfl) (by kernel_rfl) (by kernel_rfl) (HSub.refl _) rfl rfl ?_
                refine H_skip 12 rfl (by kernel_rfl) (by kernel_rfl) (by kernel_rfl) (HSub.refl _) rfl rfl ?_
                refine H_y 13 rfl (by kernel_rfl) (by kernel_rfl) (by kernel_rfl) (HSub.refl _) rfl (y_pick_f rfl rfl) rfl ?_
                refine H_done (by kernel_rfl) ?_
                refine C_cond_f rfl ?_
                refine C_exit ?_
                exact ⟨t, ⟨ht1, ht2, ht3, hfin⟩, ⟨rfl, rfl, rfl, rfl, rfl, trivial⟩, ((hsub (.cons_cons _ (.refl _))).trans (hsub_pick [0] rfl))⟩
            · rename Nat => u2
              obtain ⟨qu20, qu21, qu22, hu2⟩ := ht
              refine C_cutG (ι := Nat) (fun t => t < b ∧ t ≤ v ∧ Go.Sort.scanDown (dnP a d3) d3 u2 v = t) (fun t => [(0, (.slice (some ⟨sb, 0, none⟩) n cap)), (1, .int .i64 ((a : Nat) : Int)), (2, .int .i64 ((b : Nat) : Int)), (10, .int .i64 ((u2 : Nat) : Int)), (11, .int .i64 ((t : Nat) : Int))]) (fun t => useg 48 sb d3 sp :: H) ?_ (fun t ht => ?_)
              · refine C_block ?_
                refine C_loop (ι := Nat) (fun t => [(0, (.slice (some ⟨sb, 0, none⟩) n cap)), (1, .int .i64 ((a : Nat) : Int)), (2, .int .i64 ((b : Nat) : Int)), (10, .int .i64 ((u2 : Nat) : Int)), (11, .int .i64 ((t : Nat) : Int))]) (fun t => useg 48 sb d3 sp :: H) (fun t => t < b ∧ t ≤ v ∧ Go.Sort.scanDown (dnP a d3) d3 u2 t = Go.Sort.scanDown (dnP a d3) d3 u2 v) (fun t => t) v (by refine ⟨by omega, by omega, rfl⟩ <;> omega) ⟨rfl, rfl, rfl, rfl, rfl, trivial⟩ ((hsub (.cons_cons _ (.refl _))).trans (hsub_pick [0] rfl)) (fun t ht => ?_)
                obtain ⟨ht1, ht2, hts⟩ := ht
                refine C_seq ?_
                refine C_seq ?_
                refine C_regionH0 (by kernel_rfl) ?_
                refine H_y 0 rfl (by kernel_rfl) (by kernel_rfl) (by kernel_rfl) (HSub.refl _) rfl (y_move rfl) rfl ?_
                refine H_y 1 rfl (by kernel_rfl) (by kernel_rfl) (by kernel_rfl) (HSub.refl _) rfl (y_move rfl) rfl ?_
                refine H_y 2 rfl (by kernel_rfl) (by kernel_rfl) (by kernel_rfl) (HSub.refl _) rfl (y_leq rfl rfl) rfl ?_
                refine H_y 3 rfl (by kernel_rfl) (by kernel_rfl) (by kernel_rfl) (HSub.refl _) rfl (y_move rfl) rfl ?_
                refine H_case 118 rfl (fun hg15_4 => ?_) (fun hg15_4 => ?_)
                · have hle : u2 ≤ t := by have := of_decide_eq_true hg15_4; omega
                  refine H_y 4 rfl (by kernel_rfl) (by kernel_rfl) (by kernel_rfl) (HSub.refl _) rfl (y_move rfl) rfl ?_
                  refine H_y 5 rfl (by kernel_rfl) (by kernel_rfl) (by kernel_rfl) (HSub.refl _) rfl (y_move rfl) rfl ?_
                  refine H_y 6 rfl (by kernel_rfl) (by kernel_rfl) (by kernel_rfl) (HSub.refl _) rfl (y_indexS rfl rfl Try.underlying33 sz_48 (by omega) (by omega) (ix0 (t))) rfl ?_
                  refine H_y 7 rfl (by kernel_rfl) (by kernel_rfl) (by kernel_rfl) (HSub.refl _) rfl (y_load rfl ag_48 (sees 0 0 rfl) (us_at (by omega))) rfl ?_
                  refine H_y 8 rfl (by kernel_rfl) (by kernel_rfl) (by kernel_rfl) (HSub.refl _) rfl (y_move rfl) rfl ?_
                  refine H_y 9 rfl (by kernel_rfl) (by kernel_rfl) (by kernel_rfl) (HSub.refl _) rfl (y_move rfl) rfl ?_
                  refine H_y 10 rfl (by kernel_rfl) (by kernel_rfl) (by kernel_rfl) (HSub.refl _) rfl (y_indexS rfl rfl Try.underlying33 sz_48 (by omega) (by omega) (ix0 (a))) rfl ?_
                  refine H_y 11 rfl (by kernel_rfl) (by kernel_rfl) (by kernel_rfl) (HSub.refl _) rfl (y_load rfl ag_48 (sees 0 0 rfl) (us_at (by omega))) rfl ?_
                  refine H_one 12 rfl (by kernel_rfl) rfl (op_call rfl rfl (fun a w => Try.call89 a w) rfl ?_)
                  refine (less_u (d3[t]!) (d3[a]!)).mono ?_
                  rintro _ _ ⟨rfl, e⟩
                  obtain rfl := e.symm
                  clear e
                  refine ⟨_, rfl, ?_⟩
                  refine ⟨HSub.refl _, ?_⟩
                  refine H_y 13 rfl (by kernel_rfl) (by kernel_rfl) (by kernel_rfl) (HSub.refl _) rfl (y_not rfl) rfl ?_
                  refine H_y 14 rfl (by kernel_rfl) (by kernel_rfl) (by kernel_rfl) (HSub.refl _) rfl (y_pick_t rfl rfl) rfl ?_
                  refine H_done (by kernel_rfl) ?_
                  refine C_cond rfl (fun hc4 => ?_) (fun hc4 => ?_)
                  · have hpt : (dnP a d3) d3[t]! = true := hc4
                    refine C_skip ?_
                    refine C_block ?_
                    refine C_region ?_
                    refine L_y rfl (y_move rfl) rfl ?_
                    refine L_y rfl (y_sub rfl rfl (show _ = ((t - 1 : Nat) : Int) from by rw [wi64 (by omega) (by omega)]; omega)) rfl ?_
                    refine L_y rfl (y_assign rfl) rfl ?_
                    refine L_nil ?_
                    exact ⟨t - 1, ⟨by omega, by omega, by rw [← hts, sn_go hle (by omega) hpt]⟩, by omega, ⟨rfl, rfl, rfl, rfl, rfl, trivial⟩, ((hsub (.cons_cons _ (.refl _))).trans (hsub_pick [0] rfl))⟩
                  · have hfin := hts.symm.trans (sn_stop (p := (dnP a d3)) (d := d3) (.inr hc4))
                    refine C_exit ?_
                    exact ⟨t, ⟨ht1, ht2, hfin⟩, ⟨rfl, rfl, rfl, rfl, rfl, trivial⟩, ((hsub (.cons_cons _ (.refl _))).trans (hsub_pick [0] rfl))⟩
                · have hle : ¬ u2 ≤ t := by have := of_decide_eq_false hg15_4; omega
                  have hfin := hts.symm.trans (sn_stop (p := (dnP a d3)) (d := d3) (.inl hle))
                  refine H_skip 4 rfl (by kernel_rfl) (by kernel_rfl) (by kernel_rfl) (HSub.refl _) rfl rfl ?_
                  refine H_skip 5 rfl (by kernel_rfl) (by kernel_rfl) (by kernel_rfl) (HSub.refl _) rfl rfl ?_
                  refine H_skip 6 rfl (by kernel_rfl) (by kernel_rfl) (by kernel_rfl) (HSub.refl _) rfl rfl ?_
                  refine H_skip 7 rfl (by kernel_rfl) (by kernel_rfl) (by kernel_rfl) (HSub.refl _) rfl rfl ?_
                  refine H_skip 8 rfl (by kernel_rfl) (by kernel_rfl) (by kernel_rfl) (HSub.refl _) rfl rfl ?_
                  refine H_skip 9 rfl (by kernel_rfl) (by kernel_rfl) (by kernel_rfl) (HSub.refl _) rfl rfl ?_
                  refine H_skip 10 rfl (by kernel_rfl) (by kernel_rfl) (by kernel_rfl) (HSub.refl _) rfl rfl ?_
                  refine H_skip 11 rfl (by kernel_rfl) (by kernel_rfl) (by kernel_rfl) (HSub.refl _) rfl rfl ?_
                  refine H_skip 12 rfl (by kernel_rfl) (by kernel_rfl) (by kernel_rfl) (HSub.refl _) rfl rfl ?_
                  refine H_skip 13 rfl (by kernel_rfl) (by kernel_rfl) (by kernel_rfl) (HSub.refl _) rfl rfl ?_
                  refine H_y 14 rfl (by kernel_rfl) (by kernel_rfl) (by kernel_rfl) (HSub.refl _) rfl (y_pick_f rfl rfl) rfl ?_
                  refine H_done (by kernel_rfl) ?_
                  refine C_cond_f rfl ?_
                  refine C_exit ?_
                  exact ⟨t, ⟨ht1, ht2, hfin⟩, ⟨rfl, rfl, rfl, rfl, rfl, trivial⟩, ((hsub (.cons_cons _ (.refl _))).trans (hsub_pick [0] rfl))⟩
              · rename Nat => v2
                obtain ⟨qv20, qv21, hv2⟩ := ht
                refine C_seq ?_
                refine C_seq ?_
                refine C_region ?_
                refine L_y rfl (y_move rfl) rfl ?_
                refine L_y rfl (y_move rfl) rfl ?_
                refine L_y rfl (y_gtr rfl rfl) rfl ?_
                refine L_nil ?_
                refine C_cond rfl (fun hc5 => ?_) (fun hc5 => ?_)
                · replace hc5 : v2 < u2 := by have := of_decide_eq_true hc5; omega
                  refine C_exit ?_
                  refine C_seq ?_
                  refine C_regionH H (by kernel_rfl) ?_
                  refine H_y 0 rfl (by kernel_rfl) (by kernel_rfl) (by kernel_rfl) ((hsub (.cons _ (.refl _)))) rfl (y_move rfl) rfl ?_
                  refine H_y 1 rfl (by kernel_rfl) (by kernel_rfl) (by kernel_rfl) ((hsub (.cons _ (.refl _)))) rfl (y_move rfl) rfl ?_
                  refine H_y 2 rfl (by kernel_rfl) (by kernel_rfl) (by kernel_rfl) ((hsub (.cons _ (.refl _)))) rfl (y_move rfl) rfl ?_
                  refine H_y 3 rfl (by kernel_rfl) (by kernel_rfl) (by kernel_rfl) ((hsub (.cons _ (.refl _)))) rfl (y_move rfl) rfl ?_
                  refine H_y 4 rfl (by kernel_rfl) (by kernel_rfl) (by kernel_rfl) ((hsub (.cons _ (.refl _)))) rfl (y_move rfl) rfl ?_
                  refine H_y 5 rfl (by kernel_rfl) (by kernel_rfl) (by kernel_rfl) ((hsub (.cons _ (.refl _)))) rfl (y_move rfl) rfl ?_
                  refine H_y 6 rfl (by kernel_rfl) (by kernel_rfl) (by kernel_rfl) ((hsub (.cons _ (.refl _)))) rfl (y_indexS rfl rfl Try.underlying33 sz_48 (by omega) (by omega) (ix0 (a))) rfl ?_
                  refine H_y 8 rfl (by kernel_rfl) (by kernel_rfl) (by kernel_rfl) ((hsub (.cons _ (.refl _)))) rfl (y_move rfl) rfl ?_
                  refine H_y 9 rfl (by kernel_rfl) (by kernel_rfl) (by kernel_rfl) ((hsub (.cons _ (.refl _)))) rfl (y_move rfl) rfl ?_
                  refine H_y 10 rfl (by kernel_rfl) (by kernel_rfl) (by kernel_rfl) ((hsub (.cons _ (.refl _)))) rfl (y_indexS rfl rfl Try.underlying33 sz_48 (by omega) (by omega) (ix0 (v2))) rfl ?_
                  refine H_two 7 11 rfl rfl (by kernel_rfl) rfl rfl ?_ ?_
                  · refine op_y (y_load rfl ag_48 (sees 0 0 rfl) (us_at (by omega))) rfl ?_
                    refine ⟨(hsub (.cons _ (.refl _))), ?_⟩
                    refine H_one 11 rfl (by kernel_rfl) rfl (op_y (y_load rfl ag_48 (sees 0 0 rfl) (us_at (by omega))) rfl ?_)
                    refine ⟨(hsub (.cons _ (.refl _))), ?_⟩
                    refine H_y 12 rfl (by kernel_rfl) (by kernel_rfl) (by kernel_rfl) ((hsub (.cons _ (.refl _)))) rfl (y_indexS rfl rfl Try.underlying33 sz_48 (by omega) (by omega) (ix0 (v2))) rfl ?_
                    refine H_one 13 rfl (by kernel_rfl) rfl (op_store1 0 0 rfl rfl rfl sz_48 rfl (us_lt (by omega)) ?_)
                    refine ⟨(hsub (.cons _ (.refl _))), ?_⟩
                    refine H_y 14 rfl (by kernel_rfl) (by kernel_rfl) (by kernel_rfl) ((hsub (.cons _ (.refl _)))) rfl (y_indexS rfl rfl Try.underlying33 sz_48 (by omega) (by omega) (ix0 (a))) rfl ?_
                    refine H_one 15 rfl (by kernel_rfl) rfl (op_store1 0 0 rfl rfl rfl sz_48 rfl (by rw [List.length_set]; exact us_lt (by omega)) ?_)
                    refine ⟨(hsub (.cons _ (.refl _))), ?_⟩
                    refine H_done (by kernel_rfl) ?_
                    rw [us_swp (by omega) (by omega)]
                    refine C_seq ?_
                    refine C_region ?_
                    refine L_y rfl (y_move rfl) rfl ?_
                    refine L_y rfl (y_assign rfl) rfl ?_
                    refine L_y rfl (y_assign rfl) rfl ?_
                    refine L_nil ?_
                    refine C_ret ?_
                    refine B_ret (rv_tmp rfl (rv_tmp rfl rv_nil)) ((hsub (.cons_cons _ (.refl _))).trans (hsub_pick [0] rfl)) ?_
                    first
                    | (rw [pt_t hd1 hi hj hc2]; exact ⟨rfl, rfl⟩)
                    | (rw [pt_f (j2 := v2) (d2 := d3) hd1 hi hj hc2 (by rw [← hd2, ← hr3]; exact pl_stop hu2 hv2 hc5)]; exact ⟨rfl, rfl⟩)
                  · refine op_y (y_load rfl ag_48 (sees 0 0 rfl) (us_at (by omega))) rfl ?_
                    refine ⟨(hsub (.cons _ (.refl _))), ?_⟩
                    refine H_one 7 rfl (by kernel_rfl) rfl (op_y (y_load rfl ag_48 (sees 0 0 rfl) (us_at (by omega))) rfl ?_)
                    refine ⟨(hsub (.cons _ (.refl _))), ?_⟩
                    refine H_y 12 rfl (by kernel_rfl) (by kernel_rfl) (by kernel_rfl) ((hsub (.cons _ (.refl _)))) rfl (y_indexS rfl rfl Try.underlying33 sz_48 (by omega) (by omega) (ix0 (v2))) rfl ?_
                    refine H_one 13 rfl (by kernel_rfl) rfl (op_store1 0 0 rfl rfl rfl sz_48 rfl (us_lt (by omega)) ?_)
                    refine ⟨(hsub (.cons _ (.refl _))), ?_⟩
                    refine H_y 14 rfl (by kernel_rfl) (by kernel_rfl) (by kernel_rfl) ((hsub (.cons _ (.refl _)))) rfl (y_indexS rfl rfl Try.underlying33 sz_48 (by omega) (by omega) (ix0 (a))) rfl ?_
                    refine H_one 15 rfl (by kernel_rfl) rfl (op_store1 0 0 rfl rfl rfl sz_48 rfl (by rw [List.length_set]; exact us_lt (by omega)) ?_)
                    refine ⟨(hsub (.cons _ (.refl _))), ?_⟩
                    refine H_done (by kernel_rfl) ?_
                    rw [us_swp (by omega) (by omega)]
                    refine C_seq ?_
                    refine C_region ?_
                    refine L_y rfl (y_move rfl) rfl ?_
                    refine L_y rfl (y_assign rfl) rfl ?_
                    refine L_y rfl (y_assign rfl) rfl ?_
                    refine L_nil ?_
                    refine C_ret ?_
                    refine B_ret (rv_tmp rfl (rv_tmp rfl rv_nil)) ((hsub (.cons_cons _ (.refl _))).trans (hsub_pick [0] rfl)) ?_
                    first
                    | (rw [pt_t hd1 hi hj hc2]; exact ⟨rfl, rfl⟩)
                    | (rw [pt_f (j2 := v2) (d2 := d3) hd1 hi hj hc2 (by rw [← hd2, ← hr3]; exact pl_stop hu2 hv2 hc5)]; exact ⟨rfl, rfl⟩)
                · replace hc5 : ¬ v2 < u2 := by have := of_decide_eq_false hc5; omega
                  refine C_skip ?_
                  refine C_seq ?_
                  refine C_regionH H (by kernel_rfl) ?_
                  refine H_y 0 rfl (by kernel_rfl) (by kernel_rfl) (by kernel_rfl) ((hsub (.cons _ (.refl _)))) rfl (y_move rfl) rfl ?_
                  refine H_y 1 rfl (by kernel_rfl) (by kernel_rfl) (by kernel_rfl) ((hsub (.cons _ (.refl _)))) rfl (y_move rfl) rfl ?_
                  refine H_y 2 rfl (by kernel_rfl) (by kernel_rfl) (by kernel_rfl) ((hsub (.cons _ (.refl _)))) rfl (y_move rfl) rfl ?_
                  refine H_y 3 rfl (by kernel_rfl) (by kernel_rfl) (by kernel_rfl) ((hsub (.cons _ (.refl _)))) rfl (y_move rfl) rfl ?_
                  refine H_y 4 rfl (by kernel_rfl) (by kernel_rfl) (by kernel_rfl) ((hsub (.cons _ (.refl _)))) rfl (y_move rfl) rfl ?_
                  refine H_y 5 rfl (by kernel_rfl) (by kernel_rfl) (by kernel_rfl) ((hsub (.cons _ (.refl _)))) rfl (y_move rfl) rfl ?_
                  refine H_y 6 rfl (by kernel_rfl) (by kernel_rfl) (by kernel_rfl) ((hsub (.cons _ (.refl _)))) rfl (y_indexS rfl rfl Try.underlying33 sz_48 (by omega) (by omega) (ix0 (v2))) rfl ?_
                  refine H_y 8 rfl (by kernel_rfl) (by kernel_rfl) (by kernel_rfl) ((hsub (.cons _ (.refl _)))) rfl (y_move rfl) rfl ?_
                  refine H_y 9 rfl (by kernel_rfl) (by kernel_rfl) (by kernel_rfl) ((hsub (.cons _ (.refl _)))) rfl (y_move rfl) rfl ?_
                  refine H_y 10 rfl (by kernel_rfl) (by kernel_rfl) (by kernel_rfl) ((hsub (.cons _ (.refl _)))) rfl (y_indexS rfl rfl Try.underlying33 sz_48 (by omega) (by omega) (ix0 (u2))) rfl ?_
                  refine H_two 7 11 rfl rfl (by kernel_rfl) rfl rfl ?_ ?_
                  · refine op_y (y_load rfl ag_48 (sees 0 0 rfl) (us_at (by omega))) rfl ?_
                    refine ⟨(hsub (.cons _ (.refl _))), ?_⟩
                    refine H_one 11 rfl (by kernel_rfl) rfl (op_y (y_load rfl ag_48 (sees 0 0 rfl) (us_at (by omega))) rfl ?_)
                    refine ⟨(hsub (.cons _ (.refl _))), ?_⟩
                    refine H_y 12 rfl (by kernel_rfl) (by kernel_rfl) (by kernel_rfl) ((hsub (.cons _ (.refl _)))) rfl (y_indexS rfl rfl Try.underlying33 sz_48 (by omega) (by omega) (ix0 (u2))) rfl ?_
                    refine H_one 13 rfl (by kernel_rfl) rfl (op_store1 0 0 rfl rfl rfl sz_48 rfl (us_lt (by omega)) ?_)
                    refine ⟨(hsub (.cons _ (.refl _))), ?_⟩
                    refine H_y 14 rfl (by kernel_rfl) (by kernel_rfl) (by kernel_rfl) ((hsub (.cons _ (.refl _)))) rfl (y_indexS rfl rfl Try.underlying33 sz_48 (by omega) (by omega) (ix0 (v2))) rfl ?_
                    refine H_one 15 rfl (by kernel_rfl) rfl (op_store1 0 0 rfl rfl rfl sz_48 rfl (by rw [List.length_set]; exact us_lt (by omega)) ?_)
                    refine ⟨(hsub (.cons _ (.refl _))), ?_⟩
                    refine H_done (by kernel_rfl) ?_
                    rw [us_swp (by omega) (by omega)]
                    refine C_seq ?_
                    refine C_region ?_
                    refine L_y rfl (y_move rfl) rfl ?_
                    refine L_y rfl (y_add rfl rfl (show _ = ((u2 + 1 : Nat) : Int) from by rw [wi64 (by omega) (by omega)]; omega)) rfl ?_
                    refine L_y rfl (y_assign rfl) rfl ?_
                    refine L_nil ?_
                    refine C_region ?_
                    refine L_y rfl (y_move rfl) rfl ?_
                    refine L_y rfl (y_sub rfl rfl (show _ = ((v2 - 1 : Nat) : Int) from by rw [wi64 (by omega) (by omega)]; omega)) rfl ?_
                    refine L_y rfl (y_assign rfl) rfl ?_
                    refine L_nil ?_
                    exact ⟨(Go.Sort.swp d3 u2 v2, u2 + 1, v2 - 1), ⟨by simp only; rw [swp_size]; exact hs3, by simp only; omega, by simp only; omega, by simp only; omega, by simp only; rw [← hr3, pl_go hu2 hv2 hc5]⟩, by simp only; omega, ⟨rfl, rfl, rfl, rfl, rfl, trivial⟩, ((hsub (.cons_cons _ (.refl _))).trans (hsub_pick [0] rfl))⟩
                  · refine op_y (y_load rfl ag_48 (sees 0 0 rfl) (us_at (by omega))) rfl ?_
                    refine ⟨(hsub (.cons _ (.refl _))), ?_⟩
                    refine H_one 7 rfl (by kernel_rfl) rfl (op_y (y_load rfl ag_48 (sees 0 0 rfl) (us_at (by omega))) rfl ?_)
                    refine ⟨(hsub (.cons _ (.refl _))), ?_⟩
                    refine H_y 12 rfl (by kernel_rfl) (by kernel_rfl) (by kernel_rfl) ((hsub (.cons _ (.refl _)))) rfl (y_indexS rfl rfl Try.underlying33 sz_48 (by omega) (by omega) (ix0 (u2))) rfl ?_
                    refine H_one 13 rfl (by kernel_rfl) rfl (op_store1 0 0 rfl rfl rfl sz_48 rfl (us_lt (by omega)) ?_)
                    refine ⟨(hsub (.cons _ (.refl _))), ?_⟩
                    refine H_y 14 rfl (by kernel_rfl) (by kernel_rfl) (by kernel_rfl) ((hsub (.cons _ (.refl _)))) rfl (y_indexS rfl rfl Try.underlying33 sz_48 (by omega) (by omega) (ix0 (v2))) rfl ?_
                    refine H_one 15 rfl (by kernel_rfl) rfl (op_store1 0 0 rfl rfl rfl sz_48 rfl (by rw [List.length_set]; exact us_lt (by omega)) ?_)
                    refine ⟨(hsub (.cons _ (.refl _))), ?_⟩
                    refine H_done (by kernel_rfl) ?_
                    rw [us_swp (by omega) (by omega)]
                    refine C_seq ?_
                    refine C_region ?_
                    refine L_y rfl (y_move rfl) rfl ?_
                    refine L_y rfl (y_add rfl rfl (show _ = ((u2 + 1 : Nat) : Int) from by rw [wi64 (by omega) (by omega)]; omega)) rfl ?_
                    refine L_y rfl (y_assign rfl) rfl ?_
                    refine L_nil ?_
                    refine C_region ?_
                    refine L_y rfl (y_move rfl) rfl ?_
                    refine L_y rfl (y_sub rfl rfl (show _ = ((v2 - 1 : Nat) : Int) from by rw [wi64 (by omega) (by omega)]; omega)) rfl ?_
                    refine L_y rfl (y_assign rfl) rfl ?_
                    refine L_nil ?_
                    exact ⟨(Go.Sort.swp d3 u2 v2, u2 + 1, v2 - 1), ⟨by simp only; rw [swp_size]; exact hs3, by simp only; omega, by simp only; omega, by simp only; omega, by simp only; rw [← hr3, pl_go hu2 hv2 hc5]⟩, by simp only; omega, ⟨rfl, rfl, rfl, rfl, rfl, trivial⟩, ((hsub (.cons_cons _ (.refl _))).trans (hsub_pick [0] rfl))⟩
          · refine op_y (y_load rfl ag_48 (sees 0 0 rfl) (us_at (by omega))) rfl ?_
            refine ⟨(hsub (.cons _ (.refl _))), ?_⟩
            refine H_one 7 rfl (by kernel_rfl) rfl (op_y (y_load rfl ag_48 (sees 0 0 rfl) (us_at (by omega))) rfl ?_)
            refine ⟨(hsub (.cons _ (.refl _))), ?_⟩
            refine H_y 12 rfl (by kernel_rfl) (by kernel_rfl) (by kernel_rfl) ((hsub (.cons _ (.refl _)))) rfl (y_indexS rfl rfl Try.underlying33 sz_48 (by omega) (by omega) (ix0 (i))) rfl ?_
            refine H_one 13 rfl (by kernel_rfl) rfl (op_store1 0 0 rfl rfl rfl sz_48 rfl (us_lt (by omega)) ?_)
            refine ⟨(hsub (.cons _ (.refl _))), ?_⟩
            refine H_y 14 rfl (by kernel_rfl) (by kernel_rfl) (by kernel_rfl) ((hsub (.cons _ (.refl _)))) rfl (y_indexS rfl rfl Try.underlying33 sz_48 (by omega) (by omega) (ix0 (j))) rfl ?_
            refine H_one 15 rfl (by kernel_rfl) rfl (op_store1 0 0 rfl rfl rfl sz_48 rfl (by rw [List.length_set]; exact us_lt (by omega)) ?_)
            refine ⟨(hsub (.cons _ (.refl _))), ?_⟩
            refine H_done (by kernel_rfl) ?_
            rw [us_swp (by omega) (by omega)]
            obtain ⟨d2, hd2⟩ : ∃ y, y = Go.Sort.swp d1 i j := ⟨_, rfl⟩
            rw [← hd2]
            have hsd2 : d2.size = n := by rw [hd2, swp_size]; omega
            refine C_seq ?_
            refine C_region ?_
            refine L_y rfl (y_move rfl) rfl ?_
            refine L_y rfl (y_add rfl rfl (show _ = ((i + 1 : Nat) : Int) from by rw [wi64 (by omega) (by omega)]; omega)) rfl ?_
            refine L_y rfl (y_assign rfl) rfl ?_
            refine L_nil ?_
            refine C_seq ?_
            refine C_region ?_
            refine L_y rfl (y_move rfl) rfl ?_
            refine L_y rfl (y_sub rfl rfl (show _ = ((j - 1 : Nat) : Int) from by rw [wi64 (by omega) (by omega)]; omega)) rfl ?_
            refine L_y rfl (y_assign rfl) rfl ?_
            refine L_nil ?_
            refine C_seq ?_
            refine C_block ?_
            refine C_loop (ι := Array Nat × Nat × Nat) (fun x => [(0, (.slice (some ⟨sb, 0, none⟩) n cap)), (1, .int .i64 ((a : Nat) : Int)), (2, .int .i64 ((b : Nat) : Int)), (10, .int .i64 ((x.2.1 : Nat) : Int)), (11, .int .i64 ((x.2.2 : Nat) : Int))]) (fun x => useg 48 sb x.1 sp :: H) (fun x => x.1.size = n ∧ a < x.2.1 ∧ x.2.1 ≤ b ∧ x.2.2 < b ∧ Go.Sort.partLoop ltN a x.2.1 x.2.2 x.1 = Go.Sort.partLoop ltN a (i + 1) (j - 1) d2) (fun x => x.2.2 + 1 - x.2.1) (d2, i + 1, j - 1) ⟨hsd2, by simp only; omega, by simp only; omega, by simp only; omega, rfl⟩ ⟨rfl, rfl, rfl, rfl, rfl, trivial⟩ ((hsub (.cons_cons _ (.refl _))).trans (hsub_pick [0] rfl)) (fun x hx => ?_)
            obtain ⟨d3, u, v⟩ := x
            obtain ⟨hs3, hu1, hu2, hv1, hr3⟩ := hx
            try simp only at hs3 hu1 hu2 hv1 hr3
            try dsimp only
            refine C_block ?_
            refine C_cutG (ι := Nat) (fun t => a < t ∧ t ≤ b ∧ u ≤ t ∧ Go.Sort.scanUp (upP a d3) d3 v u = t) (fun t => [(0, (.slice (some ⟨sb, 0, none⟩) n cap)), (1, .int .i64 ((a : Nat) : Int)), (2, .int .i64 ((b : Nat) : Int)), (10, .int .i64 ((t : Nat) : Int)), (11, .int .i64 ((v : Nat) : Int))]) (fun t => useg 48 sb d3 sp :: H) ?_ (fun t ht => ?_)
            · refine C_block ?_
              refine C_loop (ι := Nat) (fun t => [(0, (.slice (some ⟨sb, 0, none⟩) n cap)), (1, .int .i64 ((a : Nat) : Int)), (2, .int .i64 ((b : Nat) : Int)), (10, .int .i64 ((t : Nat) : Int)), (11, .int .i64 ((v : Nat) : Int))]) (fun t => useg 48 sb d3 sp :: H) (fun t => a < t ∧ t ≤ b ∧ u ≤ t ∧ Go.Sort.scanUp (upP a d3) d3 v t = Go.Sort.scanUp (upP a d3) d3 v u) (fun t => v + 1 - t) u (by refine ⟨by omega, by omega, by omega, rfl⟩ <;> omega) ⟨rfl, rfl, rfl, rfl, rfl, trivial⟩ ((hsub (.cons_cons _ (.refl _))).trans (hsub_pick [0] rfl)) (fun t ht => ?_)
              obtain ⟨ht1, ht2, ht3, hts⟩ := ht
              refine C_seq ?_
              refine C_seq ?_
              refine C_regionH0 (by kernel_rfl) ?_
              refine H_y 0 rfl (by kernel_rfl) (by kernel_rfl) (by kernel_rfl) (HSub.refl _) rfl (y_move rfl) rfl ?_
              refine H_y 1 rfl (by kernel_rfl) (by kernel_rfl) (by kernel_rfl) (HSub.refl _) rfl (y_move rfl) rfl ?_
              refine H_y 2 rfl (by kernel_rfl) (by kernel_rfl) (by kernel_rfl) (HSub.refl _) rfl (y_leq rfl rfl) rfl ?_
              refine H_y 3 rfl (by kernel_rfl) (by kernel_rfl) (by kernel_rfl) (HSub.refl _) rfl (y_move rfl) rfl ?_
              refine H_case 102 rfl (fun hg13_4 => ?_) (fun hg13_4 => ?_)
              · have hle : t ≤ v := by have := of_decide_eq_true hg13_4; omega
                refine H_y 4 rfl (by kernel_rfl) (by kernel_rfl) (by kernel_rfl) (HSub.refl _) rfl (y_move rfl) rfl ?_
                refine H_y 5 rfl (by kernel_rfl) (by kernel_rfl) (by kernel_rfl) (HSub.refl _) rfl (y_move rfl) rfl ?_
                refine H_y 6 rfl (by kernel_rfl) (by kernel_rfl) (by kernel_rfl) (HSub.refl _) rfl (y_indexS rfl rfl Try.underlying33 sz_48 (by omega) (by omega) (ix0 (t))) rfl ?_
                refine H_y 7 rfl (by kernel_rfl) (by kernel_rfl) (by kernel_rfl) (HSub.refl _) rfl (y_load rfl ag_48 (sees 0 0 rfl) (us_at (by omega))) rfl ?_
                refine H_y 8 rfl (by kernel_rfl) (by kernel_rfl) (by kernel_rfl) (HSub.refl _) rfl (y_move rfl) rfl ?_
                refine H_y 9 rfl (by kernel_rfl) (by kernel_rfl) (by kernel_rfl) (HSub.refl _) rfl (y_move rfl) rfl ?_
                refine H_y 10 rfl (by kernel_rfl) (by kernel_rfl) (by kernel_rfl) (HSub.refl _) rfl (y_indexS rfl rfl Try.underlying33 sz_48 (by omega) (by omega) (ix0 (a))) rfl ?_
                refine H_y 11 rfl (by kernel_rfl) (by kernel_rfl) (by kernel_rfl) (HSub.refl _) rfl (y_load rfl ag_48 (sees 0 0 rfl) (us_at (by omega))) rfl ?_
                refine H_one 12 rfl (by kernel_rfl) rfl (op_call rfl rfl (fun a w => Try.call89 a w) rfl ?_)
                refine (less_u (d3[t]!) (d3[a]!)).mono ?_
                rintro _ _ ⟨rfl, e⟩
                obtain rfl := e.symm
                clear e
                refine ⟨_, rfl, ?_⟩
                refine ⟨HSub.refl _, ?_⟩
                refine H_y 13 rfl (by kernel_rfl) (by kernel_rfl) (by kernel_rfl) (HSub.refl _) rfl (y_pick_t rfl rfl) rfl ?_
                refine H_done (by kernel_rfl) ?_
                refine C_cond rfl (fun hc3 => ?_) (fun hc3 => ?_)
                · have hpt : (upP a d3) d3[t]! = true := hc3
                  refine C_skip ?_
                  refine C_block ?_
                  refine C_region ?_
                  refine L_y rfl (y_move rfl) rfl ?_
                  refine L_y rfl (y_add rfl rfl (show _ = ((t + 1 : Nat) : Int) from by rw [wi64 (by omega) (by omega)]; omega)) rfl ?_
                  refine L_y rfl (y_assign rfl) rfl ?_
                  refine L_nil ?_
                  exact ⟨t + 1, ⟨by omega, by omega, by omega, by rw [← hts, su_go hle hpt]⟩, by omega, ⟨rfl, rfl, rfl, rfl, rfl, trivial⟩, ((hsub (.cons_cons _ (.refl _))).trans (hsub_pick [0] rfl))⟩
                · have hfin := hts.symm.trans (su_stop (p := (upP a d3)) (d := d3) (.inr hc3))
                  refine C_exit ?_
                  exact ⟨t, ⟨ht1, ht2, ht3, hfin⟩, ⟨rfl, rfl, rfl, rfl, rfl, trivial⟩, ((hsub (.cons_cons _ (.refl _))).trans (hsub_pick [0] rfl))⟩
              · have hle : ¬ t ≤ v := by have := of_decide_eq_false hg13_4; omega
                have hfin := hts.symm.trans (su_stop (p := (upP a d3)) (d := d3) (.inl hle))
                refine H_skip 4 rfl (by kernel_rfl) (by kernel_rfl) (by kernel_rfl) (HSub.refl _) rfl rfl ?_
                refine H_skip 5 rfl (by kernel_rfl) (by kernel_rfl) (by kernel_rfl) (HSub.refl _) rfl rfl ?_
                refine H_skip 6 rfl (by kernel_rfl) (by kernel_rfl) (by kernel_rfl) (HSub.refl _) rfl rfl ?_
                refine H_skip 7 rfl (by kernel_rfl) (by kernel_rfl) (by kernel_rfl) (HSub.refl _) rfl rfl ?_
                refine H_skip 8 rfl (by kernel_rfl) (by kernel_rfl) (by kernel_rfl) (HSub.refl _) rfl rfl ?_
                refine H_skip 9 rfl (by kernel_rfl) (by kernel_rfl) (by kernel_rfl) (HSub.refl _) rfl rfl ?_
                refine H_skip 10 rfl (by kernel_rfl) (by kernel_rfl) (by kernel_rfl) (HSub.refl _) rfl rfl ?_
                refine H_skip 11 rfl (by kernel_rfl) (by kernel_rfl) (by kernel_rfl) (HSub.refl _) rfl rfl ?_
                refine H_skip 12 rfl (by kernel_rfl) (by kernel_rfl) (by kernel_rfl) (HSub.refl _) rfl rfl ?_
                refine H_y 13 rfl (by kernel_rfl) (by kernel_rfl) (by kernel_rfl) (HSub.refl _) rfl (y_pick_f rfl rfl) rfl ?_
                refine H_done (by kernel_rfl) ?_
                refine C_cond_f rfl ?_
                refine C_exit ?_
                exact ⟨t, ⟨ht1, ht2, ht3, hfin⟩, ⟨rfl, rfl, rfl, rfl, rfl, trivial⟩, ((hsub (.cons_cons _ (.refl _))).trans (hsub_pick [0] rfl))⟩
            · rename Nat => u2
              obtain ⟨qu20, qu21, qu22, hu2⟩ := ht
              refine C_cutG (ι := Nat) (fun t => t < b ∧ t ≤ v ∧ Go.Sort.scanDown (dnP a d3) d3 u2 v = t) (fun t => [(0, (.slice (some ⟨sb, 0, none⟩) n cap)), (1, .int .i64 ((a : Nat) : Int)), (2, .int .i64 ((b : Nat) : Int)), (10, .int .i64 ((u2 : Nat) : Int)), (11, .int .i64 ((t : Nat) : Int))]) (fun t => useg 48 sb d3 sp :: H) ?_ (fun t ht => ?_)
              · refine C_block ?_
                refine C_loop (ι := Nat) (fun t => [(0, (.slice (some ⟨sb, 0, none⟩) n cap)), (1, .int .i64 ((a : Nat) : Int)), (2, .int .i64 ((b : Nat) : Int)), (10, .int .i64 ((u2 : Nat) : Int)), (11, .int .i64 ((t : Nat) : Int))]) (fun t => useg 48 sb d3 sp :: H) (fun t => t < b ∧ t ≤ v ∧ Go.Sort.scanDown (dnP a d3) d3 u2 t = Go.Sort.scanDown (dnP a d3) d3 u2 v) (fun t => t) v (by refine ⟨by omega, by omega, rfl⟩ <;> omega) ⟨rfl, rfl, rfl, rfl, rfl, trivial⟩ ((hsub (.cons_cons _ (.refl _))).trans (hsub_pick [0] rfl)) (fun t ht => ?_)
                obtain ⟨ht1, ht2, hts⟩ := ht
                refine C_seq ?_
                refine C_seq ?_
                refine C_regionH0 (by kernel_rfl) ?_
                refine H_y 0 rfl (by kernel_rfl) (by kernel_rfl) (by kernel_rfl) (HSub.refl _) rfl (y_move rfl) rfl ?_
                refine H_y 1 rfl (by kernel_rfl) (by kernel_rfl) (by kernel_rfl) (HSub.refl _) rfl (y_move rfl) rfl ?_
                refine H_y 2 rfl (by kernel_rfl) (by kernel_rfl) (by kernel_rfl) (HSub.refl _) rfl (y_leq rfl rfl) rfl ?_
                refine H_y 3 rfl (by kernel_rfl) (by kernel_rfl) (by kernel_rfl) (HSub.refl _) rfl (y_move rfl) rfl ?_
                refine H_case 118 rfl (fun hg15_4 => ?_) (fun hg15_4 => ?_)
                · have hle : u2 ≤ t := by have := of_decide_eq_true hg15_4; omega
                  refine H_y 4 rfl (by kernel_rfl) (by kernel_rfl) (by kernel_rfl) (HSub.refl _) rfl (y_move rfl) rfl ?_
                  refine H_y 5 rfl (by kernel_rfl) (by kernel_rfl) (by kernel_rfl) (HSub.refl _) rfl (y_move rfl) rfl ?_
                  refine H_y 6 rfl (by kernel_rfl) (by kernel_rfl) (by kernel_rfl) (HSub.refl _) rfl (y_indexS rfl rfl Try.underlying33 sz_48 (by omega) (by omega) (ix0 (t))) rfl ?_
                  refine H_y 7 rfl (by kernel_rfl) (by kernel_rfl) (by kernel_rfl) (HSub.refl _) rfl (y_load rfl ag_48 (sees 0 0 rfl) (us_at (by omega))) rfl ?_
                  refine H_y 8 rfl (by kernel_rfl) (by kernel_rfl) (by kernel_rfl) (HSub.refl _) rfl (y_move rfl) rfl ?_
                  refine H_y 9 rfl (by kernel_rfl) (by kernel_rfl) (by kernel_rfl) (HSub.refl _) rfl (y_move rfl) rfl ?_
                  refine H_y 10 rfl (by kernel_rfl) (by kernel_rfl) (by kernel_rfl) (HSub.refl _) rfl (y_indexS rfl rfl Try.underlying33 sz_48 (by omega) (by omega) (ix0 (a))) rfl ?_
                  refine H_y 11 rfl (by kernel_rfl) (by kernel_rfl) (by kernel_rfl) (HSub.refl _) rfl (y_load rfl ag_48 (sees 0 0 rfl) (us_at (by omega))) rfl ?_
                  refine H_one 12 rfl (by kernel_rfl) rfl (op_call rfl rfl (fun a w => Try.call89 a w) rfl ?_)
                  refine (less_u (d3[t]!) (d3[a]!)).mono ?_
                  rintro _ _ ⟨rfl, e⟩
                  obtain rfl := e.symm
                  clear e
                  refine ⟨_, rfl, ?_⟩
                  refine ⟨HSub.refl _, ?_⟩
                  refine H_y 13 rfl (by kernel_rfl) (by kernel_rfl) (by kernel_rfl) (HSub.refl _) rfl (y_not rfl) rfl ?_
                  refine H_y 14 rfl (by kernel_rfl) (by kernel_rfl) (by kernel_rfl) (HSub.refl _) rfl (y_pick_t rfl rfl) rfl ?_
                  refine H_done (by kernel_rfl) ?_
                  refine C_cond rfl (fun hc4 => ?_) (fun hc4 => ?_)
                  · have hpt : (dnP a d3) d3[t]! = true := hc4
                    refine C_skip ?_
                    refine C_block ?_
                    refine C_region ?_
                    refine L_y rfl (y_move rfl) rfl ?_
                    refine L_y rfl (y_sub rfl rfl (show _ = ((t - 1 : Nat) : Int) from by rw [wi64 (by omega) (by omega)]; omega)) rfl ?_
                    refine L_y rfl (y_assign rfl) rfl ?_
                    refine L_nil ?_
                    exact ⟨t - 1, ⟨by omega, by omega, by rw [← hts, sn_go hle (by omega) hpt]⟩, by omega, ⟨rfl, rfl, rfl, rfl, rfl, trivial⟩, ((hsub (.cons_cons _ (.refl _))).trans (hsub_pick [0] rfl))⟩
                  · have hfin := hts.symm.trans (sn_stop (p := (dnP a d3)) (d := d3) (.inr hc4))
                    refine C_exit ?_
                    exact ⟨t, ⟨ht1, ht2, hfin⟩, ⟨rfl, rfl, rfl, rfl, rfl, trivial⟩, ((hsub (.cons_cons _ (.refl _))).trans (hsub_pick [0] rfl))⟩
                · have hle : ¬ u2 ≤ t := by have := of_decide_eq_false hg15_4; omega
                  have hfin := hts.symm.trans (sn_stop (p := (dnP a d3)) (d := d3) (.inl hle))
                  refine H_skip 4 rfl (by kernel_rfl) (by kernel_rfl) (by kernel_rfl) (HSub.refl _) rfl rfl ?_
                  refine H_skip 5 rfl (by kernel_rfl) (by kernel_rfl) (by kernel_rfl) (HSub.refl _) rfl rfl ?_
                  refine H_skip 6 rfl (by kernel_rfl) (by kernel_rfl) (by kernel_rfl) (HSub.refl _) rfl rfl ?_
                  refine H_skip 7 rfl (by kernel_rfl) (by kernel_rfl) (by kernel_rfl) (HSub.refl _) rfl rfl ?_
                  refine H_skip 8 rfl (by kernel_rfl) (by kernel_rfl) (by kernel_rfl) (HSub.refl _) rfl rfl ?_
                  refine H_skip 9 rfl (by kernel_rfl) (by kernel_rfl) (by kernel_rfl) (HSub.refl _) rfl rfl ?_
                  refine H_skip 10 rfl (by kernel_rfl) (by kernel_rfl) (by kernel_rfl) (HSub.refl _) rfl rfl ?_
                  refine H_skip 11 rfl (by kernel_rfl) (by kernel_rfl) (by kernel_rfl) (HSub.refl _) rfl rfl ?_
                  refine H_skip 12 rfl (by kernel_rfl) (by kernel_rfl) (by kernel_rfl) (HSub.refl _) rfl rfl ?_
                  refine H_skip 13 rfl (by kernel_rfl) (by kernel_rfl) (by kernel_rfl) (HSub.refl _) rfl rfl ?_
                  refine H_y 14 rfl (by kernel_rfl) (by kernel_rfl) (by kernel_rfl) (HSub.refl _) rfl (y_pick_f rfl rfl) rfl ?_
                  refine H_done (by kernel_rfl) ?_
                  refine C_cond_f rfl ?_
                  refine C_exit ?_
                  exact ⟨t, ⟨ht1, ht2, hfin⟩, ⟨rfl, rfl, rfl, rfl, rfl, trivial⟩, ((hsub (.cons_cons _ (.refl _))).trans (hsub_pick [0] rfl))⟩
              · rename Nat => v2
                obtain ⟨qv20, qv21, hv2⟩ := ht
                refine C_seq ?_
                refine C_seq ?_
                refine C_region ?_
                refine L_y rfl (y_move rfl) rfl ?_
                refine L_y rfl (y_move rfl) rfl ?_
                refine L_y rfl (y_gtr rfl rfl) rfl ?_
                refine L_nil ?_
                refine C_cond rfl (fun hc5 => ?_) (fun hc5 => ?_)
                · replace hc5 : v2 < u2 := by have := of_decide_eq_true hc5; omega
                  refine C_exit ?_
                  refine C_seq ?_
                  refine C_regionH H (by kernel_rfl) ?_
                  refine H_y 0 rfl (by kernel_rfl) (by kernel_rfl) (by kernel_rfl) ((hsub (.cons _ (.refl _)))) rfl (y_move rfl) rfl ?_
                  refine H_y 1 rfl (by kernel_rfl) (by kernel_rfl) (by kernel_rfl) ((hsub (.cons _ (.refl _)))) rfl (y_move rfl) rfl ?_
                  refine H_y 2 rfl (by kernel_rfl) (by kernel_rfl) (by kernel_rfl) ((hsub (.cons _ (.refl _)))) rfl (y_move rfl) rfl ?_
                  refine H_y 3 rfl (by kernel_rfl) (by kernel_rfl) (by kernel_rfl) ((hsub (.cons _ (.refl _)))) rfl (y_move rfl) rfl ?_
                  refine H_y 4 rfl (by kernel_rfl) (by kernel_rfl) (by kernel_rfl) ((hsub (.cons _ (.refl _)))) rfl (y_move rfl) rfl ?_
                  refine H_y 5 rfl (by kernel_rfl) (by kernel_rfl) (by kernel_rfl) ((hsub (.cons _ (.refl _)))) rfl (y_move rfl) rfl ?_
                  refine H_y 6 rfl (by kernel_rfl) (by kernel_rfl) (by kernel_rfl) ((hsub (.cons _ (.refl _)))) rfl (y_indexS rfl rfl Try.underlying33 sz_48 (by omega) (by omega) (ix0 (a))) rfl ?_
                  refine H_y 8 rfl (by kernel_rfl) (by kernel_rfl) (by kernel_rfl) ((hsub (.cons _ (.refl _)))) rfl (y_move rfl) rfl ?_
                  refine H_y 9 rfl (by kernel_rfl) (by kernel_rfl) (by kernel_rfl) ((hsub (.cons _ (.refl _)))) rfl (y_move rfl) rfl ?_
                  refine H_y 10 rfl (by kernel_rfl) (by kernel_rfl) (by kernel_rfl) ((hsub (.cons _ (.refl _)))) rfl (y_indexS rfl rfl Try.underlying33 sz_48 (by omega) (by omega) (ix0 (v2))) rfl ?_
                  refine H_two 7 11 rfl rfl (by kernel_rfl) rfl rfl ?_ ?_
                  · refine op_y (y_load rfl ag_48 (sees 0 0 rfl) (us_at (by omega))) rfl ?_
                    refine ⟨(hsub (.cons _ (.refl _))), ?_⟩
                    refine H_one 11 rfl (by kernel_rfl) rfl (op_y (y_load rfl ag_48 (sees 0 0 rfl) (us_at (by omega))) rfl ?_)
                    refine ⟨(hsub (.cons _ (.refl _))), ?_⟩
                    refine H_y 12 rfl (by kernel_rfl) (by kernel_rfl) (by kernel_rfl) ((hsub (.cons _ (.refl _)))) rfl (y_indexS rfl rfl Try.underlying33 sz_48 (by omega) (by omega) (ix0 (v2))) rfl ?_
                    refine H_one 13 rfl (by kernel_rfl) rfl (op_store1 0 0 rfl rfl rfl sz_48 rfl (us_lt (by omega)) ?_)
                    refine ⟨(hsub (.cons _ (.refl _))), ?_⟩
                    refine H_y 14 rfl (by kernel_rfl) (by kernel_rfl) (by kernel_rfl) ((hsub (.cons _ (.refl _)))) rfl (y_indexS rfl rfl Try.underlying33 sz_48 (by omega) (by omega) (ix0 (a))) rfl ?_
                    refine H_one 15 rfl (by kernel_rfl) rfl (op_store1 0 0 rfl rfl rfl sz_48 rfl (by rw [List.length_set]; exact us_lt (by omega)) ?_)
                    refine ⟨(hsub (.cons _ (.refl _))), ?_⟩
                    refine H_done (by kernel_rfl) ?_
                    rw [us_swp (by omega) (by omega)]
                    refine C_seq ?_
                    refine C_region ?_
                    refine L_y rfl (y_move rfl) rfl ?_
                    refine L_y rfl (y_assign rfl) rfl ?_
                    refine L_y rfl (y_assign rfl) rfl ?_
                    refine L_nil ?_
                    refine C_ret ?_
                    refine B_ret (rv_tmp rfl (rv_tmp rfl rv_nil)) ((hsub (.cons_cons _ (.refl _))).trans (hsub_pick [0] rfl)) ?_
                    first
                    | (rw [pt_t hd1 hi hj hc2]; exact ⟨rfl, rfl⟩)
                    | (rw [pt_f (j2 := v2) (d2 := d3) hd1 hi hj hc2 (by rw [← hd2, ← hr3]; exact pl_stop hu2 hv2 hc5)]; exact ⟨rfl, rfl⟩)
                  · refine op_y (y_load rfl ag_48 (sees 0 0 rfl) (us_at (by omega))) rfl ?_
                    refine ⟨(hsub (.cons _ (.refl _))), ?_⟩
                    refine H_one 7 rfl (by kernel_rfl) rfl (op_y (y_load rfl ag_48 (sees 0 0 rfl) (us_at (by omega))) rfl ?_)
                    refine ⟨(hsub (.cons _ (.refl _))), ?_⟩
                    refine H_y 12 rfl (by kernel_rfl) (by kernel_rfl) (by kernel_rfl) ((hsub (.cons _ (.refl _)))) rfl (y_indexS rfl rfl Try.underlying33 sz_48 (by omega) (by omega) (ix0 (v2))) rfl ?_
                    refine H_one 13 rfl (by kernel_rfl) rfl (op_store1 0 0 rfl rfl rfl sz_48 rfl (us_lt (by omega)) ?_)
                    refine ⟨(hsub (.cons _ (.refl _))), ?_⟩
                    refine H_y 14 rfl (by kernel_rfl) (by kernel_rfl) (by kernel_rfl) ((hsub (.cons _ (.refl _)))) rfl (y_indexS rfl rfl Try.underlying33 sz_48 (by omega) (by omega) (ix0 (a))) rfl ?_
                    refine H_one 15 rfl (by kernel_rfl) rfl (op_store1 0 0 rfl rfl rfl sz_48 rfl (by rw [List.length_set]; exact us_lt (by omega)) ?_)
                    refine ⟨(hsub (.cons _ (.refl _))), ?_⟩
                    refine H_done (by kernel_rfl) ?_
                    rw [us_swp (by omega) (by omega)]
                    refine C_seq ?_
                    refine C_region ?_
                    refine L_y rfl (y_move rfl) rfl ?_
                    refine L_y rfl (y_assign rfl) rfl ?_
                    refine L_y rfl (y_assign rfl) rfl ?_
                    refine L_nil ?_
                    refine C_ret ?_
                    refine B_ret (rv_tmp rfl (rv_tmp rfl rv_nil)) ((hsub (.cons_cons _ (.refl _))).trans (hsub_pick [0] rfl)) ?_
                    first
                    | (rw [pt_t hd1 hi hj hc2]; exact ⟨rfl, rfl⟩)
                    | (rw [pt_f (j2 := v2) (d2 := d3) hd1 hi hj hc2 (by rw [← hd2, ← hr3]; exact pl_stop hu2 hv2 hc5)]; exact ⟨rfl, rfl⟩)
                · replace hc5 : ¬ v2 < u2 := by have := of_decide_eq_false hc5; omega
                  refine C_skip ?_
                  refine C_seq ?_
                  refine C_regionH H (by kernel_rfl) ?_
                  refine H_y 0 rfl (by kernel_rfl) (by kernel_rfl) (by kernel_rfl) ((hsub (.cons _ (.refl _)))) rfl (y_move rfl) rfl ?_
                  refine H_y 1 rfl (by kernel_rfl) (by kernel_rfl) (by kernel_rfl) ((hsub (.cons _ (.refl _)))) rfl (y_move rfl) rfl ?_
                  refine H_y 2 rfl (by kernel_rfl) (by kernel_rfl) (by kernel_rfl) ((hsub (.cons _ (.refl _)))) rfl (y_move rfl) rfl ?_
                  refine H_y 3 rfl (by kernel_rfl) (by kernel_rfl) (by kernel_rfl) ((hsub (.cons _ (.refl _)))) rfl (y_move rfl) rfl ?_
                  refine H_y 4 rfl (by kernel_rfl) (by kernel_rfl) (by kernel_rfl) ((hsub (.cons _ (.refl _)))) rfl (y_move rfl) rfl ?_
                  refine H_y 5 rfl (by kernel_rfl) (by kernel_rfl) (by kernel_rfl) ((hsub (.cons _ (.refl _)))) rfl (y_move rfl) rfl ?_
                  refine H_y 6 rfl (by kernel_rfl) (by kernel_rfl) (by kernel_rfl) ((hsub (.cons _ (.refl _)))) rfl (y_indexS rfl rfl Try.underlying33 sz_48 (by omega) (by omega) (ix0 (v2))) rfl ?_
                  refine H_y 8 rfl (by kernel_rfl) (by kernel_rfl) (by kernel_rfl) ((hsub (.cons _ (.refl _)))) rfl (y_move rfl) rfl ?_
                  refine H_y 9 rfl (by kernel_rfl) (by kernel_rfl) (by kernel_rfl) ((hsub (.cons _ (.refl _)))) rfl (y_move rfl) rfl ?_
                  refine H_y 10 rfl (by kernel_rfl) (by kernel_rfl) (by kernel_rfl) ((hsub (.cons _ (.refl _)))) rfl (y_indexS rfl rfl Try.underlying33 sz_48 (by omega) (by omega) (ix0 (u2))) rfl ?_
                  refine H_two 7 11 rfl rfl (by kernel_rfl) rfl rfl ?_ ?_
                  · refine op_y (y_load rfl ag_48 (sees 0 0 rfl) (us_at (by omega))) rfl ?_
                    refine ⟨(hsub (.cons _ (.refl _))), ?_⟩
                    refine H_one 11 rfl (by kernel_rfl) rfl (op_y (y_load rfl ag_48 (sees 0 0 rfl) (us_at (by omega))) rfl ?_)
                    refine ⟨(hsub (.cons _ (.refl _))), ?_⟩
                    refine H_y 12 rfl (by kernel_rfl) (by kernel_rfl) (by kernel_rfl) ((hsub (.cons _ (.refl _)))) rfl (y_indexS rfl rfl Try.underlying33 sz_48 (by omega) (by omega) (ix0 (u2))) rfl ?_
                    refine H_one 13 rfl (by kernel_rfl) rfl (op_store1 0 0 rfl rfl rfl sz_48 rfl (us_lt (by omega)) ?_)
                    refine ⟨(hsub (.cons _ (.refl _))), ?_⟩
                    refine H_y 14 rfl (by kernel_rfl) (by kernel_rfl) (by kernel_rfl) ((hsub (.cons _ (.refl _)))) rfl (y_indexS rfl rfl Try.underlying33 sz_48 (by omega) (by omega) (ix0 (v2))) rfl ?_
                    refine H_one 15 rfl (by kernel_rfl) rfl (op_store1 0 0 rfl rfl rfl sz_48 rfl (by rw [List.length_set]; exact us_lt (by omega)) ?_)
                    refine ⟨(hsub (.cons _ (.refl _))), ?_⟩
                    refine H_done (by kernel_rfl) ?_
                    rw [us_swp (by omega) (by omega)]
                    refine C_seq ?_
                    refine C_region ?_
                    refine L_y rfl (y_move rfl) rfl ?_
                    refine L_y rfl (y_add rfl rfl (show _ = ((u2 + 1 : Nat) : Int) from by rw [wi64 (by omega) (by omega)]; omega)) rfl ?_
                    refine L_y rfl (y_assign rfl) rfl ?_
                    refine L_nil ?_
                    refine C_region ?_
                    refine L_y rfl (y_move rfl) rfl ?_
                    refine L_y rfl (y_sub rfl rfl (show _ = ((v2 - 1 : Nat) : Int) from by rw [wi64 (by omega) (by omega)]; omega)) rfl ?_
                    refine L_y rfl (y_assign rfl) rfl ?_
                    refine L_nil ?_
                    exact ⟨(Go.Sort.swp d3 u2 v2, u2 + 1, v2 - 1), ⟨by simp only; rw [swp_size]; exact hs3, by simp only; omega, by simp only; omega, by simp only; omega, by simp only; rw [← hr3, pl_go hu2 hv2 hc5]⟩, by simp only; omega, ⟨rfl, rfl, rfl, rfl, rfl, trivial⟩, ((hsub (.cons_cons _ (.refl _))).trans (hsub_pick [0] rfl))⟩
                  · refine op_y (y_load rfl ag_48 (sees 0 0 rfl) (us_at (by omega))) rfl ?_
                    refine ⟨(hsub (.cons _ (.refl _))), ?_⟩
                    refine H_one 7 rfl (by kernel_rfl) rfl (op_y (y_load rfl ag_48 (sees 0 0 rfl) (us_at (by omega))) rfl ?_)
                    refine ⟨(hsub (.cons _ (.refl _))), ?_⟩
                    refine H_y 12 rfl (by kernel_rfl) (by kernel_rfl) (by kernel_rfl) ((hsub (.cons _ (.refl _)))) rfl (y_indexS rfl rfl Try.underlying33 sz_48 (by omega) (by omega) (ix0 (u2))) rfl ?_
                    refine H_one 13 rfl (by kernel_rfl) rfl (op_store1 0 0 rfl rfl rfl sz_48 rfl (us_lt (by omega)) ?_)
                    refine ⟨(hsub (.cons _ (.refl _))), ?_⟩
                    refine H_y 14 rfl (by kernel_rfl) (by kernel_rfl) (by kernel_rfl) ((hsub (.cons _ (.refl _)))) rfl (y_indexS rfl rfl Try.underlying33 sz_48 (by omega) (by omega) (ix0 (v2))) rfl ?_
                    refine H_one 15 rfl (by kernel_rfl) rfl (op_store1 0 0 rfl rfl rfl sz_48 rfl (by rw [List.length_set]; exact us_lt (by omega)) ?_)
                    refine ⟨(hsub (.cons _ (.refl _))), ?_⟩
                    refine H_done (by kernel_rfl) ?_
                    rw [us_swp (by omega) (by omega)]
                    refine C_seq ?_
                    refine C_region ?_
                    refine L_y rfl (y_move rfl) rfl ?_
                    refine L_y rfl (y_add rfl rfl (show _ = ((u2 + 1 : Nat) : Int) from by rw [wi64 (by omega) (by omega)]; omega)) rfl ?_
                    refine L_y rfl (y_assign rfl) rfl ?_
                    refine L_nil ?_
                    refine C_region ?_
                    refine L_y rfl (y_move rfl) rfl ?_
                    refine L_y rfl (y_sub rfl rfl (show _ = ((v2 - 1 : Nat) : Int) from by rw [wi64 (by omega) (by omega)]; omega)) rfl ?_
                    refine L_y rfl (y_assign rfl) rfl ?_
                    refine L_nil ?_
                    exact ⟨(Go.Sort.swp d3 u2 v2, u2 + 1, v2 - 1), ⟨by simp only; rw [swp_size]; exact hs3, by simp only; omega, by simp only; omega, by simp only; omega, by simp only; rw [← hr3, pl_go hu2 hv2 hc5]⟩, by simp only; omega, ⟨rfl, rfl, rfl, rfl, rfl, trivial⟩, ((hsub (.cons_cons _ (.refl _))).trans (hsub_pick [0] rfl))⟩
  · refine op_y (y_load rfl ag_48 (sees 0 0 rfl) (us_at (by omega))) rfl ?_
    refine ⟨(hsub (.cons _ (.refl _))), ?_⟩
    refine H_one 7 rfl (by kernel_rfl) rfl (op_y (y_load rfl ag_48 (sees 0 0 rfl) (us_at (by omega))) rfl ?_)
    refine ⟨(hsub (.cons _ (.refl _))), ?_⟩
    refine H_y 12 rfl (by kernel_rfl) (by kernel_rfl) (by kernel_rfl) ((hsub (.cons _ (.refl _)))) rfl (y_indexS rfl rfl Try.underlying33 sz_48 (by omega) (by omega) (ix0 (a))) rfl ?_
    refine H_one 13 rfl (by kernel_rfl) rfl (op_store1 0 0 rfl rfl rfl sz_48 rfl (us_lt (by omega)) ?_)
    refine ⟨(hsub (.cons _ (.refl _))), ?_⟩
    refine H_y 14 rfl (by kernel_rfl) (by kernel_rfl) (by kernel_rfl) ((hsub (.cons _ (.refl _)))) rfl (y_indexS rfl rfl Try.underlying33 sz_48 (by omega) (by omega) (ix0 (pivot))) rfl ?_
    refine H_one 15 rfl (by kernel_rfl) rfl (op_store1 0 0 rfl rfl rfl sz_48 rfl (by rw [List.length_set]; exact us_lt (by omega)) ?_)
    refine ⟨(hsub (.cons _ (.refl _))), ?_⟩
    refine H_done (by kernel_rfl) ?_
    rw [us_swp (by omega) (by omega)]
    obtain ⟨d1, hd1⟩ : ∃ y, y = Go.Sort.swp d a pivot := ⟨_, rfl⟩
    rw [← hd1]
    have hsd1 : d1.size = n := by rw [hd1, swp_size]; omega
    refine C_seq ?_
    refine C_region ?_
    refine L_y rfl (y_move rfl) rfl ?_
    refine L_y rfl (y_add rfl rfl (show _ = ((a + 1 : Nat) : Int) from by rw [wi64 (by omega) (by omega)]; omega)) rfl ?_
    refine L_y rfl (y_move rfl) rfl ?_
    refine L_y rfl (y_sub rfl rfl (show _ = ((b - 1 : Nat) : Int) from by rw [wi64 (by omega) (by omega)]; omega)) rfl ?_
    refine L_y rfl (y_assign rfl) rfl ?_
    refine L_y rfl (y_assign rfl) rfl ?_
    refine L_nil ?_
    refine C_cutG (ι := Nat) (fun t => a < t ∧ t ≤ b ∧ (a + 1) ≤ t ∧ Go.Sort.scanUp (upP a d1) d1 (b - 1) (a + 1) = t) (fun t => [(0, (.slice (some ⟨sb, 0, none⟩) n cap)), (1, .int .i64 ((a : Nat) : Int)), (2, .int .i64 ((b : Nat) : Int)), (10, .int .i64 ((t : Nat) : Int)), (11, .int .i64 (((b - 1) : Nat) : Int))]) (fun t => useg 48 sb d1 sp :: H) ?_ (fun t ht => ?_)
    · refine C_block ?_
      refine C_loop (ι := Nat) (fun t => [(0, (.slice (some ⟨sb, 0, none⟩) n cap)), (1, .int .i64 ((a : Nat) : Int)), (2, .int .i64 ((b : Nat) : Int)), (10, .int .i64 ((t : Nat) : Int)), (11, .int .i64 (((b - 1) : Nat) : Int))]) (fun t => useg 48 sb d1 sp :: H) (fun t => a < t ∧ t ≤ b ∧ (a + 1) ≤ t ∧ Go.Sort.scanUp (upP a d1) d1 (b - 1) t = Go.Sort.scanUp (upP a d1) d1 (b - 1) (a + 1)) (fun t => (b - 1) + 1 - t) (a + 1) (by refine ⟨by omega, by omega, by omega, rfl⟩ <;> omega) ⟨rfl, rfl, rfl, rfl, rfl, trivial⟩ ((hsub (.cons_cons _ (.refl _))).trans (hsub_pick [0] rfl)) (fun t ht => ?_)
      obtain ⟨ht1, ht2, ht3, hts⟩ := ht
      refine C_seq ?_
      refine C_seq ?_
      refine C_regionH0 (by kernel_rfl) ?_
      refine H_y 0 rfl (by kernel_rfl) (by kernel_rfl) (by kernel_rfl) (HSub.refl _) rfl (y_move rfl) rfl ?_
      refine H_y 1 rfl (by kernel_rfl) (by kernel_rfl) (by kernel_rfl) (HSub.refl _) rfl (y_move rfl) rfl ?_
      refine H_y 2 rfl (by kernel_rfl) (by kernel_rfl) (by kernel_rfl) (HSub.refl _) rfl (y_leq rfl rfl) rfl ?_
      refine H_y 3 rfl (by kernel_rfl) (by kernel_rfl) (by kernel_rfl) (HSub.refl _) rfl (y_move rfl) rfl ?_
      refine H_case 33 rfl (fun hg3_4 => ?_) (fun hg3_4 => ?_)
      · have hle : t ≤ (b - 1) := by have := of_decide_eq_true hg3_4; omega
        refine H_y 4 rfl (by kernel_rfl) (by kernel_rfl) (by kernel_rfl) (HSub.refl _) rfl (y_move rfl) rfl ?_
        refine H_y 5 rfl (by kernel_rfl) (by kernel_rfl) (by kernel_rfl) (HSub.refl _) rfl (y_move rfl) rfl ?_
        refine H_y 6 rfl (by kernel_rfl) (by kernel_rfl) (by kernel_rfl) (HSub.refl _) rfl (y_indexS rfl rfl Try.underlying33 sz_48 (by omega) (by omega) (ix0 (t))) rfl ?_
        refine H_y 7 rfl (by kernel_rfl) (by kernel_rfl) (by kernel_rfl) (HSub.refl _) rfl (y_load rfl ag_48 (sees 0 0 rfl) (us_at (by omega))) rfl ?_
        refine H_y 8 rfl (by kernel_rfl) (by kernel_rfl) (by kernel_rfl) (HSub.refl _) rfl (y_move rfl) rfl ?_
        refine H_y 9 rfl (by kernel_rfl) (by kernel_rfl) (by kernel_rfl) (HSub.refl _) rfl (y_move rfl) rfl ?_
        refine H_y 10 rfl (by kernel_rfl) (by kernel_rfl) (by kernel_rfl) (HSub.refl _) rfl (y_indexS rfl rfl Try.underlying33 sz_48 (by omega) (by omega) (ix0 (a))) rfl ?_
        refine H_y 11 rfl (by kernel_rfl) (by kernel_rfl) (by kernel_rfl) (HSub.refl _) rfl (y_load rfl ag_48 (sees 0 0 rfl) (us_at (by omega))) rfl ?_
        refine H_one 12 rfl (by kernel_rfl) rfl (op_call rfl rfl (fun a w => Try.call89 a w) rfl ?_)
        refine (less_u (d1[t]!) (d1[a]!)).mono ?_
        rintro _ _ ⟨rfl, e⟩
        obtain rfl := e.symm
        clear e
        refine ⟨_, rfl, ?_⟩
        refine ⟨HSub.refl _, ?_⟩
        refine H_y 13 rfl (by kernel_rfl) (by kernel_rfl) (by kernel_rfl) (HSub.refl _) rfl (y_pick_t rfl rfl) rfl ?_
        refine H_done (by kernel_rfl) ?_
        refine C_cond rfl (fun hc0 => ?_) (fun hc0 => ?_)
        · have hpt : (upP a d1) d1[t]! = true := hc0
          refine C_skip ?_
          refine C_block ?_
          refine C_region ?_
          refine L_y rfl (y_move rfl) rfl ?_
          refine L_y rfl (y_add rfl rfl (show _ = ((t + 1 : Nat) : Int) from by rw [wi64 (by omega) (by omega)]; omega)) rfl ?_
          refine L_y rfl (y_assign rfl) rfl ?_
          refine L_nil ?_
          exact ⟨t + 1, ⟨by omega, by omega, by omega, by rw [← hts, su_go hle hpt]⟩, by omega, ⟨rfl, rfl, rfl, rfl, rfl, trivial⟩, ((hsub (.cons_cons _ (.refl _))).trans (hsub_pick [0] rfl))⟩
        · have hfin := hts.symm.trans (su_stop (p := (upP a d1)) (d := d1) (.inr hc0))
          refine C_exit ?_
          exact ⟨t, ⟨ht1, ht2, ht3, hfin⟩, ⟨rfl, rfl, rfl, rfl, rfl, trivial⟩, ((hsub (.cons_cons _ (.refl _))).trans (hsub_pick [0] rfl))⟩
      · have hle : ¬ t ≤ (b - 1) := by have := of_decide_eq_false hg3_4; omega
        have hfin := hts.symm.trans (su_stop (p := (upP a d1)) (d := d1) (.inl hle))
        refine H_skip 4 rfl (by kernel_rfl) (by kernel_rfl) (by kernel_rfl) (HSub.refl _) rfl rfl ?_
        refine H_skip 5 rfl (by kernel_rfl) (by kernel_rfl) (by kernel_rfl) (HSub.refl _) rfl rfl ?_
        refine H_skip 6 rfl (by kernel_rfl) (by kernel_rfl) (by kernel_rfl) (HSub.refl _) rfl rfl ?_
        refine H_skip 7 rfl (by kernel_rfl) (by kernel_rfl) (by kernel_rfl) (HSub.refl _) rfl rfl ?_
        refine H_skip 8 rfl (by kernel_rfl) (by kernel_rfl) (by kernel_rfl) (HSub.refl _) rfl rfl ?_
        refine H_skip 9 rfl (by kernel_rfl) (by kernel_rfl) (by kernel_rfl) (HSub.refl _) rfl rfl ?_
        refine H_skip 10 rfl (by kernel_rfl) (by kernel_rfl) (by kernel_rfl) (HSub.refl _) rfl rfl ?_
        refine H_skip 11 rfl (by kernel_rfl) (by kernel_rfl) (by kernel_rfl) (HSub.refl _) rfl rfl ?_
        refine H_skip 12 rfl (by kernel_rfl) (by kernel_rfl) (by kernel_rfl) (HSub.refl _) rfl rfl ?_
        refine H_y 13 rfl (by kernel_rfl) (by kernel_rfl) (by kernel_rfl) (HSub.refl _) rfl (y_pick_f rfl rfl) rfl ?_
        refine H_done (by kernel_rfl) ?_
        refine C_cond_f rfl ?_
        refine C_exit ?_
        exact ⟨t, ⟨ht1, ht2, ht3, hfin⟩, ⟨rfl, rfl, rfl, rfl, rfl, trivial⟩, ((hsub (.cons_cons _ (.refl _))).trans (hsub_pick [0] rfl))⟩
    · rename Nat => i
      obtain ⟨qi0, qi1, qi2, hi⟩ := ht
      refine C_cutG (ι := Nat) (fun t => t < b ∧ t ≤ (b - 1) ∧ Go.Sort.scanDown (dnP a d1) d1 i (b - 1) = t) (fun t => [(0, (.slice (some ⟨sb, 0, none⟩) n cap)), (1, .int .i64 ((a : Nat) : Int)), (2, .int .i64 ((b : Nat) : Int)), (10, .int .i64 ((i : Nat) : Int)), (11, .int .i64 ((t : Nat) : Int))]) (fun t => useg 48 sb d1 sp :: H) ?_ (fun t ht => ?_)
      · refine C_block ?_
        refine C_loop (ι := Nat) (fun t => [(0, (.slice (some ⟨sb, 0, none⟩) n cap)), (1, .int .i64 ((a : Nat) : Int)), (2, .int .i64 ((b : Nat) : Int)), (10, .int .i64 ((i : Nat) : Int)), (11, .int .i64 ((t : Nat) : Int))]) (fun t => useg 48 sb d1 sp :: H) (fun t => t < b ∧ t ≤ (b - 1) ∧ Go.Sort.scanDown (dnP a d1) d1 i t = Go.Sort.scanDown (dnP a d1) d1 i (b - 1)) (fun t => t) (b - 1) (by refine ⟨by omega, by omega, rfl⟩ <;> omega) ⟨rfl, rfl, rfl, rfl, rfl, trivial⟩ ((hsub (.cons_cons _ (.refl _))).trans (hsub_pick [0] rfl)) (fun t ht => ?_)
        obtain ⟨ht1, ht2, hts⟩ := ht
        refine C_seq ?_
        refine C_seq ?_
        refine C_regionH0 (by kernel_rfl) ?_
        refine H_y 0 rfl (by kernel_rfl) (by kernel_rfl) (by kernel_rfl) (HSub.refl _) rfl (y_move rfl) rfl ?_
        refine H_y 1 rfl (by kernel_rfl) (by kernel_rfl) (by kernel_rfl) (HSub.refl _) rfl (y_move rfl) rfl ?_
        refine H_y 2 rfl (by kernel_rfl) (by kernel_rfl) (by kernel_rfl) (HSub.refl _) rfl (y_leq rfl rfl) rfl ?_
        refine H_y 3 rfl (by kernel_rfl) (by kernel_rfl) (by kernel_rfl) (HSub.refl _) rfl (y_move rfl) rfl ?_
        refine H_case 49 rfl (fun hg5_4 => ?_) (fun hg5_4 => ?_)
        · have hle : i ≤ t := by have := of_decide_eq_true hg5_4; omega
          refine H_y 4 rfl (by kernel_rfl) (by kernel_rfl) (by kernel_rfl) (HSub.refl _) rfl (y_move rfl) rfl ?_
          refine H_y 5 rfl (by kernel_rfl) (by kernel_rfl) (by kernel_rfl) (HSub.refl _) rfl (y_move rfl) rfl ?_
          refine H_y 6 rfl (by kernel_rfl) (by kernel_rfl) (by kernel_rfl) (HSub.refl _) rfl (y_indexS rfl rfl Try.underlying33 sz_48 (by omega) (by omega) (ix0 (t))) rfl ?_
          refine H_y 7 rfl (by kernel_rfl) (by kernel_rfl) (by kernel_rfl) (HSub.refl _) rfl (y_load rfl ag_48 (sees 0 0 rfl) (us_at (by omega))) rfl ?_
          refine H_y 8 rfl (by kernel_rfl) (by kernel_rfl) (by kernel_rfl) (HSub.refl _) rfl (y_move rfl) rfl ?_
          refine H_y 9 rfl (by kernel_rfl) (by kernel_rfl) (by kernel_rfl) (HSub.refl _) rfl (y_move rfl) rfl ?_
          refine H_y 10 rfl (by kernel_rfl) (by kernel_rfl) (by kernel_rfl) (HSub.refl _) rfl (y_indexS rfl rfl Try.underlying33 sz_48 (by omega) (by omega) (ix0 (a))) rfl ?_
          refine H_y 11 rfl (by kernel_rfl) (by kernel_rfl) (by kernel_rfl) (HSub.refl _) rfl (y_load rfl ag_48 (sees 0 0 rfl) (us_at (by omega))) rfl ?_
          refine H_one 12 rfl (by kernel_rfl) rfl (op_call rfl rfl (fun a w => Try.call89 a w) rfl ?_)
          refine (less_u (d1[t]!) (d1[a]!)).mono ?_
          rintro _ _ ⟨rfl, e⟩
          obtain rfl := e.symm
          clear e
          refine ⟨_, rfl, ?_⟩
          refine ⟨HSub.refl _, ?_⟩
          refine H_y 13 rfl (by kernel_rfl) (by kernel_rfl) (by kernel_rfl) (HSub.refl _) rfl (y_not rfl) rfl ?_
          refine H_y 14 rfl (by kernel_rfl) (by kernel_rfl) (by kernel_rfl) (HSub.refl _) rfl (y_pick_t rfl rfl) rfl ?_
          refine H_done (by kernel_rfl) ?_
          refine C_cond rfl (fun hc1 => ?_) (fun hc1 => ?_)
          · have hpt : (dnP a d1) d1[t]! = true := hc1
            refine C_skip ?_
            refine C_block ?_
            refine C_region ?_
            refine L_y rfl (y_move rfl) rfl ?_
            refine L_y rfl (y_sub rfl rfl (show _ = ((t - 1 : Nat) : Int) from by rw [wi64 (by omega) (by omega)]; omega)) rfl ?_
            refine L_y rfl (y_assign rfl) rfl ?_
            refine L_nil ?_
            exact ⟨t - 1, ⟨by omega, by omega, by rw [← hts, sn_go hle (by omega) hpt]⟩, by omega, ⟨rfl, rfl, rfl, rfl, rfl, trivial⟩, ((hsub (.cons_cons _ (.refl _))).trans (hsub_pick [0] rfl))⟩
          · have hfin := hts.symm.trans (sn_stop (p := (dnP a d1)) (d := d1) (.inr hc1))
            refine C_exit ?_
            exact ⟨t, ⟨ht1, ht2, hfin⟩, ⟨rfl, rfl, rfl, rfl, rfl, trivial⟩, ((hsub (.cons_cons _ (.refl _))).trans (hsub_pick [0] rfl))⟩
        · have hle : ¬ i ≤ t := by have := of_decide_eq_false hg5_4; omega
          have hfin := hts.symm.trans (sn_stop (p := (dnP a d1)) (d := d1) (.inl hle))
          refine H_skip 4 rfl (by kernel_rfl) (by kernel_rfl) (by kernel_rfl) (HSub.refl _) rfl rfl ?_
          refine H_skip 5 rfl (by kernel_rfl) (by kernel_rfl) (by kernel_rfl) (HSub.refl _) rfl rfl ?_
          refine H_skip 6 rfl (by kernel_rfl) (by kernel_rfl) (by kernel_rfl) (HSub.refl _) rfl rfl ?_
          refine H_skip 7 rfl (by kernel_rfl) (by kernel_rfl) (by kernel_rfl) (HSub.refl _) rfl rfl ?_
          refine H_skip 8 rfl (by kernel_rfl) (by kernel_rfl) (by kernel_rfl) (HSub.refl _) rfl rfl ?_
          refine H_skip 9 rfl (by kernel_rfl) (by kernel_rfl) (by kernel_rfl) (HSub.refl _) rfl rfl ?_
          refine H_skip 10 rfl (by kernel_rfl) (by kernel_rfl) (by kernel_rfl) (HSub.refl _) rfl rfl ?_
          refine H_skip 11 rfl (by kernel_rfl) (by kernel_rfl) (by kernel_rfl) (HSub.refl _) rfl rfl ?_
          refine H_skip 12 rfl (by kernel_rfl) (by kernel_rfl) (by kernel_rfl) (HSub.refl _) rfl rfl ?_
          refine H_skip 13 rfl (by kernel_rfl) (by kernel_rfl) (by kernel_rfl) (HSub.refl _) rfl rfl ?_
          refine H_y 14 rfl (by kernel_rfl) (by kernel_rfl) (by kernel_rfl) (HSub.refl _) rfl (y_pick_f rfl rfl) rfl ?_
          refine H_done (by kernel_rfl) ?_
          refine C_cond_f rfl ?_
          refine C_exit ?_
          exact ⟨t, ⟨ht1, ht2, hfin⟩, ⟨rfl, rfl, rfl, rfl, rfl, trivial⟩, ((hsub (.cons_cons _ (.refl _))).trans (hsub_pick [0] rfl))⟩
      · rename Nat => j
        obtain ⟨qj0, qj1, hj⟩ := ht
        refine C_seq ?_
        refine C_seq ?_
        refine C_region ?_
        refine L_y rfl (y_move rfl) rfl ?_
        refine L_y rfl (y_move rfl) rfl ?_
        refine L_y rfl (y_gtr rfl rfl) rfl ?_
        refine L_nil ?_
        refine C_cond rfl (fun hc2 => ?_) (fun hc2 => ?_)
        · replace hc2 : j < i := by have := of_decide_eq_true hc2; omega
          refine C_seq ?_
          refine C_regionH H (by kernel_rfl) ?_
          refine H_y 0 rfl (by kernel_rfl) (by kernel_rfl) (by kernel_rfl) ((hsub (.cons _ (.refl _)))) rfl (y_move rfl) rfl ?_
          refine H_y 1 rfl (by kernel_rfl) (by kernel_rfl) (by kernel_rfl) ((hsub (.cons _ (.refl _)))) rfl (y_move rfl) rfl ?_
          refine H_y 2 rfl (by kernel_rfl) (by kernel_rfl) (by kernel_rfl) ((hsub (.cons _ (.refl _)))) rfl (y_move rfl) rfl ?_
          refine H_y 3 rfl (by kernel_rfl) (by kernel_rfl) (by kernel_rfl) ((hsub (.cons _ (.refl _)))) rfl (y_move rfl) rfl ?_
          refine H_y 4 rfl (by kernel_rfl) (by kernel_rfl) (by kernel_rfl) ((hsub (.cons _ (.refl _)))) rfl (y_move rfl) rfl ?_
          refine H_y 5 rfl (by kernel_rfl) (by kernel_rfl) (by kernel_rfl) ((hsub (.cons _ (.refl _)))) rfl (y_move rfl) rfl ?_
          refine H_y 6 rfl (by kernel_rfl) (by kernel_rfl) (by kernel_rfl) ((hsub (.cons _ (.refl _)))) rfl (y_indexS rfl rfl Try.underlying33 sz_48 (by omega) (by omega) (ix0 (a))) rfl ?_
          refine H_y 8 rfl (by kernel_rfl) (by kernel_rfl) (by kernel_rfl) ((hsub (.cons _ (.refl _)))) rfl (y_move rfl) rfl ?_
          refine H_y 9 rfl (by kernel_rfl) (by kernel_rfl) (by kernel_rfl) ((hsub (.cons _ (.refl _)))) rfl (y_move rfl) rfl ?_
          refine H_y 10 rfl (by kernel_rfl) (by kernel_rfl) (by kernel_rfl) ((hsub (.cons _ (.refl _)))) rfl (y_indexS rfl rfl Try.underlying33 sz_48 (by omega) (by omega) (ix0 (j))) rfl ?_
          refine H_two 7 11 rfl rfl (by kernel_rfl) rfl rfl ?_ ?_
          · refine op_y (y_load rfl ag_48 (sees 0 0 rfl) (us_at (by omega))) rfl ?_
            refine ⟨(hsub (.cons _ (.refl _))), ?_⟩
            refine H_one 11 rfl (by kernel_rfl) rfl (op_y (y_load rfl ag_48 (sees 0 0 rfl) (us_at (by omega))) rfl ?_)
            refine ⟨(hsub (.cons _ (.refl _))), ?_⟩
            refine H_y 12 rfl (by kernel_rfl) (by kernel_rfl) (by kernel_rfl) ((hsub (.cons _ (.refl _)))) rfl (y_indexS rfl rfl Try.underlying33 sz_48 (by omega) (by omega) (ix0 (j))) rfl ?_
            refine H_one 13 rfl (by kernel_rfl) rfl (op_store1 0 0 rfl rfl rfl sz_48 rfl (us_lt (by omega)) ?_)
            refine ⟨(hsub (.cons _ (.refl _))), ?_⟩
            refine H_y 14 rfl (by kernel_rfl) (by kernel_rfl) (by kernel_rfl) ((hsub (.cons _ (.refl _)))) rfl (y_indexS rfl rfl Try.underlying33 sz_48 (by omega) (by omega) (ix0 (a))) rfl ?_
            refine H_one 15 rfl (by kernel_rfl) rfl (op_store1 0 0 rfl rfl rfl sz_48 rfl (by rw [List.length_set]; exact us_lt (by omega)) ?_)
            refine ⟨(hsub (.cons _ (.refl _))), ?_⟩
            refine H_done (by kernel_rfl) ?_
            rw [us_swp (by omega) (by omega)]
            refine C_seq ?_
            refine C_region ?_
            refine L_y rfl (y_move rfl) rfl ?_
            refine L_y rfl (y_assign rfl) rfl ?_
            refine L_y rfl (y_assign rfl) rfl ?_
            refine L_nil ?_
            refine C_ret ?_
            refine B_ret (rv_tmp rfl (rv_tmp rfl rv_nil)) ((hsub (.cons_cons _ (.refl _))).trans (hsub_pick [0] rfl)) ?_
            first
            | (rw [pt_t hd1 hi hj hc2]; exact ⟨rfl, rfl⟩)
            | (rw [pt_f (j2 := v2) (d2 := d3) hd1 hi hj hc2 (by rw [← hd2, ← hr3]; exact pl_stop hu2 hv2 hc5)]; exact ⟨rfl, rfl⟩)
          · refine op_y (y_load rfl ag_48 (sees 0 0 rfl) (us_at (by omega))) rfl ?_
            refine ⟨(hsub (.cons _ (.refl _))), ?_⟩
            refine H_one 7 rfl (by kernel_rfl) rfl (op_y (y_load rfl ag_48 (sees 0 0 rfl) (us_at (by omega))) rfl ?_)
            refine ⟨(hsub (.cons _ (.refl _))), ?_⟩
            refine H_y 12 rfl (by kernel_rfl) (by kernel_rfl) (by kernel_rfl) ((hsub (.cons _ (.refl _)))) rfl (y_indexS rfl rfl Try.underlying33 sz_48 (by omega) (by omega) (ix0 (j))) rfl ?_
            refine H_one 13 rfl (by kernel_rfl) rfl (op_store1 0 0 rfl rfl rfl sz_48 rfl (us_lt (by omega)) ?_)
            refine ⟨(hsub (.cons _ (.refl _))), ?_⟩
            refine H_y 14 rfl (by kernel_rfl) (by kernel_rfl) (by kernel_rfl) ((hsub (.cons _ (.refl _)))) rfl (y_indexS rfl rfl Try.underlying33 sz_48 (by omega) (by omega) (ix0 (a))) rfl ?_
            refine H_one 15 rfl (by kernel_rfl) rfl (op_store1 0 0 rfl rfl rfl sz_48 rfl (by rw [List.length_set]; exact us_lt (by omega)) ?_)
            refine ⟨(hsub (.cons _ (.refl _))), ?_⟩
            refine H_done (by kernel_rfl) ?_
            rw [us_swp (by omega) (by omega)]
            refine C_seq ?_
            refine C_region ?_
            refine L_y rfl (y_move rfl) rfl ?_
            refine L_y rfl (y_assign rfl) rfl ?_
            refine L_y rfl (y_assign rfl) rfl ?_
            refine L_nil ?_
            refine C_ret ?_
            refine B_ret (rv_tmp rfl (rv_tmp rfl rv_nil)) ((hsub (.cons_cons _ (.refl _))).trans (hsub_pick [0] rfl)) ?_
            first
            | (rw [pt_t hd1 hi hj hc2]; exact ⟨rfl, rfl⟩)
            | (rw [pt_f (j2 := v2) (d2 := d3) hd1 hi hj hc2 (by rw [← hd2, ← hr3]; exact pl_stop hu2 hv2 hc5)]; exact ⟨rfl, rfl⟩)
        · replace hc2 : ¬ j < i := by have := of_decide_eq_false hc2; omega
          refine C_skip ?_
          refine C_seq ?_
          refine C_regionH H (by kernel_rfl) ?_
          refine H_y 0 rfl (by kernel_rfl) (by kernel_rfl) (by kernel_rfl) ((hsub (.cons _ (.refl _)))) rfl (y_move rfl) rfl ?_
          refine H_y 1 rfl (by kernel_rfl) (by kernel_rfl) (by kernel_rfl) ((hsub (.cons _ (.refl _)))) rfl (y_move rfl) rfl ?_
          refine H_y 2 rfl (by kernel_rfl) (by kernel_rfl) (by kernel_rfl) ((hsub (.cons _ (.refl _)))) rfl (y_move rfl) rfl ?_
          refine H_y 3 rfl (by kernel_rfl) (by kernel_rfl) (by kernel_rfl) ((hsub (.cons _ (.refl _)))) rfl (y_move rfl) rfl ?_
          refine H_y 4 rfl (by kernel_rfl) (by kernel_rfl) (by kernel_rfl) ((hsub (.cons _ (.refl _)))) rfl (y_move rfl) rfl ?_
          refine H_y 5 rfl (by kernel_rfl) (by kernel_rfl) (by kernel_rfl) ((hsub (.cons _ (.refl _)))) rfl (y_move rfl) rfl ?_
          refine H_y 6 rfl (by kernel_rfl) (by kernel_rfl) (by kernel_rfl) ((hsub (.cons _ (.refl _)))) rfl (y_indexS rfl rfl Try.underlying33 sz_48 (by omega) (by omega) (ix0 (j))) rfl ?_
          refine H_y 8 rfl (by kernel_rfl) (by kernel_rfl) (by kernel_rfl) ((hsub (.cons _ (.refl _)))) rfl (y_move rfl) rfl ?_
          refine H_y 9 rfl (by kernel_rfl) (by kernel_rfl) (by kernel_rfl) ((hsub (.cons _ (.refl _)))) rfl (y_move rfl) rfl ?_
          refine H_y 10 rfl (by kernel_rfl) (by kernel_rfl) (by kernel_rfl) ((hsub (.cons _ (.refl _)))) rfl (y_indexS rfl rfl Try.underlying33 sz_48 (by omega) (by omega) (ix0 (i))) rfl ?_
          refine H_two 7 11 rfl rfl (by kernel_rfl) rfl rfl ?_ ?_
          · refine op_y (y_load rfl ag_48 (sees 0 0 rfl) (us_at (by omega))) rfl ?_
            refine ⟨(hsub (.cons _ (.refl _))), ?_⟩
            refine H_one 11 rfl (by kernel_rfl) rfl (op_y (y_load rfl ag_48 (sees 0 0 rfl) (us_at (by omega))) rfl ?_)
            refine ⟨(hsub (.cons _ (.refl _))), ?_⟩
            refine H_y 12 rfl (by kernel_rfl) (by kernel_rfl) (by kernel_rfl) ((hsub (.cons _ (.refl _)))) rfl (y_indexS rfl rfl Try.underlying33 sz_48 (by omega) (by omega) (ix0 (i))) rfl ?_
            refine H_one 13 rfl (by kernel_rfl) rfl (op_store1 0 0 rfl rfl rfl sz_48 rfl (us_lt (by omega)) ?_)
            refine ⟨(hsub (.cons _ (.refl _))), ?_⟩
            refine H_y 14 rfl (by kernel_rfl) (by kernel_rfl) (by kernel_rfl) ((hsub (.cons _ (.refl _)))) rfl (y_indexS rfl rfl Try.underlying33 sz_48 (by omega) (by omega) (ix0 (j))) rfl ?_
            refine H_one 15 rfl (by kernel_rfl) rfl (op_store1 0 0 rfl rfl rfl sz_48 rfl (by rw [List.length_set]; exact us_lt (by omega)) ?_)
            refine ⟨(hsub (.cons _ (.refl _))), ?_⟩
            refine H_done (by kernel_rfl) ?_
            rw [us_swp (by omega) (by omega)]
            obtain ⟨d2, hd2⟩ : ∃ y, y = Go.Sort.swp d1 i j := ⟨_, rfl⟩
            rw [← hd2]
            have hsd2 : d2.size = n := by rw [hd2, swp_size]; omega
            refine C_seq ?_
            refine C_region ?_
            refine L_y rfl (y_move rfl) rfl ?_
            refine L_y rfl (y_add rfl rfl (show _ = ((i + 1 : Nat) : Int) from by rw [wi64 (by omega) (by omega)]; omega)) rfl ?_
            refine L_y rfl (y_assign rfl) rfl ?_
            refine L_nil ?_
            refine C_seq ?_
            refine C_region ?_
            refine L_y rfl (y_move rfl) rfl ?_
            refine L_y rfl (y_sub rfl rfl (show _ = ((j - 1 : Nat) : Int) from by rw [wi64 (by omega) (by omega)]; omega)) rfl ?_
            refine L_y rfl (y_assign rfl) rfl ?_
            refine L_nil ?_
            refine C_seq ?_
            refine C_block ?_
            refine C_loop (ι := Array Nat × Nat × Nat) (fun x => [(0, (.slice (some ⟨sb, 0, none⟩) n cap)), (1, .int .i64 ((a : Nat) : Int)), (2, .int .i64 ((b : Nat) : Int)), (10, .int .i64 ((x.2.1 : Nat) : Int)), (11, .int .i64 ((x.2.2 : Nat) : Int))]) (fun x => useg 48 sb x.1 sp :: H) (fun x => x.1.size = n ∧ a < x.2.1 ∧ x.2.1 ≤ b ∧ x.2.2 < b ∧ Go.Sort.partLoop ltN a x.2.1 x.2.2 x.1 = Go.Sort.partLoop ltN a (i + 1) (j - 1) d2) (fun x => x.2.2 + 1 - x.2.1) (d2, i + 1, j - 1) ⟨hsd2, by simp only; omega, by simp only; omega, by simp only; omega, rfl⟩ ⟨rfl, rfl, rfl, rfl, rfl, trivial⟩ ((hsub (.cons_cons _ (.refl _))).trans (hsub_pick [0] rfl)) (fun x hx => ?_)
            obtain ⟨d3, u, v⟩ := x
            obtain ⟨hs3, hu1, hu2, hv1, hr3⟩ := hx
            try simp only at hs3 hu1 hu2 hv1 hr3
            try dsimp only
            refine C_block ?_
            refine C_cutG (ι := Nat) (fun t => a < t ∧ t ≤ b ∧ u ≤ t ∧ Go.Sort.scanUp (upP a d3) d3 v u = t) (fun t => [(0, (.slice (some ⟨sb, 0, none⟩) n cap)), (1, .int .i64 ((a : Nat) : Int)), (2, .int .i64 ((b : Nat) : Int)), (10, .int .i64 ((t : Nat) : Int)), (11, .int .i64 ((v : Nat) : Int))]) (fun t => useg 48 sb d3 sp :: H) ?_ (fun t ht => ?_)
            · refine C_block ?_
              refine C_loop (ι := Nat) (fun t => [(0, (.slice (some ⟨sb, 0, none⟩) n cap)), (1, .int .i64 ((a : Nat) : Int)), (2, .int .i64 ((b : Nat) : Int)), (10, .int .i64 ((t : Nat) : Int)), (11, .int .i64 ((v : Nat) : Int))]) (fun t => useg 48 sb d3 sp :: H) (fun t => a < t ∧ t ≤ b ∧ u ≤ t ∧ Go.Sort.scanUp (upP a d3) d3 v t = Go.Sort.scanUp (upP a d3) d3 v u) (fun t => v + 1 - t) u (by refine ⟨by omega, by omega, by omega, rfl⟩ <;> omega) ⟨rfl, rfl, rfl, rfl, rfl, trivial⟩ ((hsub (.cons_cons _ (.refl _))).trans (hsub_pick [0] rfl)) (fun t ht => ?_)
              obtain ⟨ht1, ht2, ht3, hts⟩ := ht
              refine C_seq ?_
              refine C_seq ?_
              refine C_regionH0 (by kernel_rfl) ?_
              refine H_y 0 rfl (by kernel_rfl) (by kernel_rfl) (by kernel_rfl) (HSub.refl _) rfl (y_move rfl) rfl ?_
              refine H_y 1 rfl (by kernel_rfl) (by kernel_rfl) (by kernel_rfl) (HSub.refl _) rfl (y_move rfl) rfl ?_
              refine H_y 2 rfl (by kernel_rfl) (by kernel_rfl) (by kernel_rfl) (HSub.refl _) rfl (y_leq rfl rfl) rfl ?_
              refine H_y 3 rfl (by kernel_rfl) (by kernel_rfl) (by kernel_rfl) (HSub.refl _) rfl (y_move rfl) rfl ?_
              refine H_case 102 rfl (fun hg13_4 => ?_) (fun hg13_4 => ?_)
              · have hle : t ≤ v := by have := of_decide_eq_true hg13_4; omega
                refine H_y 4 rfl (by kernel_rfl) (by kernel_rfl) (by kernel_rfl) (HSub.refl _) rfl (y_move rfl) rfl ?_
                refine H_y 5 rfl (by kernel_rfl) (by kernel_rfl) (by kernel_rfl) (HSub.refl _) rfl (y_move rfl) rfl ?_
                refine H_y 6 rfl (by kernel_rfl) (by kernel_rfl) (by kernel_rfl) (HSub.refl _) rfl (y_indexS rfl rfl Try.underlying33 sz_48 (by omega) (by omega) (ix0 (t))) rfl ?_
                refine H_y 7 rfl (by kernel_rfl) (by kernel_rfl) (by kernel_rfl) (HSub.refl _) rfl (y_load rfl ag_48 (sees 0 0 rfl) (us_at (by omega))) rfl ?_
                refine H_y 8 rfl (by kernel_rfl) (by kernel_rfl) (by kernel_rfl) (HSub.refl _) rfl (y_move rfl) rfl ?_
                refine H_y 9 rfl (by kernel_rfl) (by kernel_rfl) (by kernel_rfl) (HSub.refl _) rfl (y_move rfl) rfl ?_
                refine H_y 10 rfl (by kernel_rfl) (by kernel_rfl) (by kernel_rfl) (HSub.refl _) rfl (y_indexS rfl rfl Try.underlying33 sz_48 (by omega) (by omega) (ix0 (a))) rfl ?_
                refine H_y 11 rfl (by kernel_rfl) (by kernel_rfl) (by kernel_rfl) (HSub.refl _) rfl (y_load rfl ag_48 (sees 0 0 rfl) (us_at (by omega))) rfl ?_
                refine H_one 12 rfl (by kernel_rfl) rfl (op_call rfl rfl (fun a w => Try.call89 a w) rfl ?_)
                refine (less_u (d3[t]!) (d3[a]!)).mono ?_
                rintro _ _ ⟨rfl, e⟩
                obtain rfl := e.symm
                clear e
                refine ⟨_, rfl, ?_⟩
                refine ⟨HSub.refl _, ?_⟩
                refine H_y 13 rfl (by kernel_rfl) (by kernel_rfl) (by kernel_rfl) (HSub.refl _) rfl (y_pick_t rfl rfl) rfl ?_
                refine H_done (by kernel_rfl) ?_
                refine C_cond rfl (fun hc3 => ?_) (fun hc3 => ?_)
                · have hpt : (upP a d3) d3[t]! = true := hc3
                  refine C_skip ?_
                  refine C_block ?_
                  refine C_region ?_
                  refine L_y rfl (y_move rfl) rfl ?_
                  refine L_y rfl (y_add rfl rfl (show _ = ((t + 1 : Nat) : Int) from by rw [wi64 (by omega) (by omega)]; omega)) rfl ?_
                  refine L_y rfl (y_assign rfl) rfl ?_
                  refine L_nil ?_
                  exact ⟨t + 1, ⟨by omega, by omega, by omega, by rw [← hts, su_go hle hpt]⟩, by omega, ⟨rfl, rfl, rfl, rfl, rfl, trivial⟩, ((hsub (.cons_cons _ (.refl _))).trans (hsub_pick [0] rfl))⟩
                · have hfin := hts.symm.trans (su_stop (p := (upP a d3)) (d := d3) (.inr hc3))
                  refine C_exit ?_
                  exact ⟨t, ⟨ht1, ht2, ht3, hfin⟩, ⟨rfl, rfl, rfl, rfl, rfl, trivial⟩, ((hsub (.cons_cons _ (.refl _))).trans (hsub_pick [0] rfl))⟩
              · have hle : ¬ t ≤ v := by have := of_decide_eq_false hg13_4; omega
                have hfin := hts.symm.trans (su_stop (p := (upP a d3)) (d := d3) (.inl hle))
                refine H_skip 4 rfl (by kernel_rfl) (by kernel_rfl) (by kernel_rfl) (HSub.refl _) rfl rfl ?_
                refine H_skip 5 rfl (by kernel_rfl) (by kernel_rfl) (by kernel_rfl) (HSub.refl _) rfl rfl ?_
                refine H_skip 6 rfl (by kernel_rfl) (by kernel_rfl) (by kernel_rfl) (HSub.refl _) rfl rfl ?_
                refine H_skip 7 rfl (by kernel_rfl) (by kernel_rfl) (by kernel_rfl) (HSub.refl _) rfl rfl ?_
                refine H_skip 8 rfl (by kernel_rfl) (by kernel_rfl) (by kernel_rfl) (HSub.refl _) rfl rfl ?_
                refine H_skip 9 rfl (by kernel_rfl) (by kernel_rfl) (by kernel_rfl) (HSub.refl _) rfl rfl ?_
                refine H_skip 10 rfl (by kernel_rfl) (by kernel_rfl) (by kernel_rfl) (HSub.refl _) rfl rfl ?_
                refine H_skip 11 rfl (by kernel_rfl) (by kernel_rfl) (by kernel_rfl) (HSub.refl _) rfl rfl ?_
                refine H_skip 12 rfl (by kernel_rfl) (by kernel_rfl) (by kernel_rfl) (HSub.refl _) rfl rfl ?_
                refine H_y 13 rfl (by kernel_rfl) (by kernel_rfl) (by kernel_rfl) (HSub.refl _) rfl (y_pick_f rfl rfl) rfl ?_
                refine H_done (by kernel_rfl) ?_
                refine C_cond_f rfl ?_
                refine C_exit ?_
                exact ⟨t, ⟨ht1, ht2, ht3, hfin⟩, ⟨rfl, rfl, rfl, rfl, rfl, trivial⟩, ((hsub (.cons_cons _ (.refl _))).trans (hsub_pick [0] rfl))⟩
            · rename Nat => u2
              obtain ⟨qu20, qu21, qu22, hu2⟩ := ht
              refine C_cutG (ι := Nat) (fun t => t < b ∧ t ≤ v ∧ Go.Sort.scanDown (dnP a d3) d3 u2 v = t) (fun t => [(0, (.slice (some ⟨sb, 0, none⟩) n cap)), (1, .int .i64 ((a : Nat) : Int)), (2, .int .i64 ((b : Nat) : Int)), (10, .int .i64 ((u2 : Nat) : Int)), (11, .int .i64 ((t : Nat) : Int))]) (fun t => useg 48 sb d3 sp :: H) ?_ (fun t ht => ?_)
              · refine C_block ?_
                refine C_loop (ι := Nat) (fun t => [(0, (.slice (some ⟨sb, 0, none⟩) n cap)), (1, .int .i64 ((a : Nat) : Int)), (2, .int .i64 ((b : Nat) : Int)), (10, .int .i64 ((u2 : Nat) : Int)), (11, .int .i64 ((t : Nat) : Int))]) (fun t => useg 48 sb d3 sp :: H) (fun t => t < b ∧ t ≤ v ∧ Go.Sort.scanDown (dnP a d3) d3 u2 t = Go.Sort.scanDown (dnP a d3) d3 u2 v) (fun t => t) v (by refine ⟨by omega, by omega, rfl⟩ <;> omega) ⟨rfl, rfl, rfl, rfl, rfl, trivial⟩ ((hsub (.cons_cons _ (.refl _))).trans (hsub_pick [0] rfl)) (fun t ht => ?_)
                obtain ⟨ht1, ht2, hts⟩ := ht
                refine C_seq ?_
                refine C_seq ?_
                refine C_regionH0 (by kernel_rfl) ?_
                refine H_y 0 rfl (by kernel_rfl) (by kernel_rfl) (by kernel_rfl) (HSub.refl _) rfl (y_move rfl) rfl ?_
                refine H_y 1 rfl (by kernel_rfl) (by kernel_rfl) (by kernel_rfl) (HSub.refl _) rfl (y_move rfl) rfl ?_
                refine H_y 2 rfl (by kernel_rfl) (by kernel_rfl) (by kernel_rfl) (HSub.refl _) rfl (y_leq rfl rfl) rfl ?_
                refine H_y 3 rfl (by kernel_rfl) (by kernel_rfl) (by kernel_rfl) (HSub.refl _) rfl (y_move rfl) rfl ?_
                refine H_case 118 rfl (fun hg15_4 => ?_) (fun hg15_4 => ?_)
                · have hle : u2 ≤ t := by have := of_decide_eq_true hg15_4; omega
                  refine H_y 4 rfl (by kernel_rfl) (by kernel_rfl) (by kernel_rfl) (HSub.refl _) rfl (y_move rfl) rfl ?_
                  refine H_y 5 rfl (by kernel_rfl) (by kernel_rfl) (by kernel_rfl) (HSub.refl _) rfl (y_move rfl) rfl ?_
                  refine H_y 6 rfl (by kernel_rfl) (by kernel_rfl) (by kernel_rfl) (HSub.refl _) rfl (y_indexS rfl rfl Try.underlying33 sz_48 (by omega) (by omega) (ix0 (t))) rfl ?_
                  refine H_y 7 rfl (by kernel_rfl) (by kernel_rfl) (by kernel_rfl) (HSub.refl _) rfl (y_load rfl ag_48 (sees 0 0 rfl) (us_at (by omega))) rfl ?_
                  refine H_y 8 rfl (by kernel_rfl) (by kernel_rfl) (by kernel_rfl) (HSub.refl _) rfl (y_move rfl) rfl ?_
                  refine H_y 9 rfl (by kernel_rfl) (by kernel_rfl) (by kernel_rfl) (HSub.refl _) rfl (y_move rfl) rfl ?_
                  refine H_y 10 rfl (by kernel_rfl) (by kernel_rfl) (by kernel_rfl) (HSub.refl _) rfl (y_indexS rfl rfl Try.underlying33 sz_48 (by omega) (by omega) (ix0 (a))) rfl ?_
                  refine H_y 11 rfl (by kernel_rfl) (by kernel_rfl) (by kernel_rfl) (HSub.refl _) rfl (y_load rfl ag_48 (sees 0 0 rfl) (us_at (by omega))) rfl ?_
                  refine H_one 12 rfl (by kernel_rfl) rfl (op_call rfl rfl (fun a w => Try.call89 a w) rfl ?_)
                  refine (less_u (d3[t]!) (d3[a]!)).mono ?_
                  rintro _ _ ⟨rfl, e⟩
                  obtain rfl := e.symm
                  clear e
                  refine ⟨_, rfl, ?_⟩
                  refine ⟨HSub.refl _, ?_⟩
                  refine H_y 13 rfl (by kernel_rfl) (by kernel_rfl) (by kernel_rfl) (HSub.refl _) rfl (y_not rfl) rfl ?_
                  refine H_y 14 rfl (by kernel_rfl) (by kernel_rfl) (by kernel_rfl) (HSub.refl _) rfl (y_pick_t rfl rfl) rfl ?_
                  refine H_done (by kernel_rfl) ?_
                  refine C_cond rfl (fun hc4 => ?_) (fun hc4 => ?_)
                  · have hpt : (dnP a d3) d3[t]! = true := hc4
                    refine C_skip ?_
                    refine C_block ?_
                    refine C_region ?_
                    refine L_y rfl (y_move rfl) rfl ?_
                    refine L_y rfl (y_sub rfl rfl (show _ = ((t - 1 : Nat) : Int) from by rw [wi64 (by omega) (by omega)]; omega)) rfl ?_
                    refine L_y rfl (y_assign rfl) rfl ?_
                    refine L_nil ?_
                    exact ⟨t - 1, ⟨by omega, by omega, by rw [← hts, sn_go hle (by omega) hpt]⟩, by omega, ⟨rfl, rfl, rfl, rfl, rfl, trivial⟩, ((hsub (.cons_cons _ (.refl _))).trans (hsub_pick [0] rfl))⟩
                  · have hfin := hts.symm.trans (sn_stop (p := (dnP a d3)) (d := d3) (.inr hc4))
                    refine C_exit ?_
                    exact ⟨t, ⟨ht1, ht2, hfin⟩, ⟨rfl, rfl, rfl, rfl, rfl, trivial⟩, ((hsub (.cons_cons _ (.refl _))).trans (hsub_pick [0] rfl))⟩
                · have hle : ¬ u2 ≤ t := by have := of_decide_eq_false hg15_4; omega
                  have hfin := hts.symm.trans (sn_stop (p := (dnP a d3)) (d := d3) (.inl hle))
                  refine H_skip 4 rfl (by kernel_rfl) (by kernel_rfl) (by kernel_rfl) (HSub.refl _) rfl rfl ?_
                  refine H_skip 5 rfl (by kernel_rfl) (by kernel_rfl) (by kernel_rfl) (HSub.refl _) rfl rfl ?_
                  refine H_skip 6 rfl (by kernel_rfl) (by kernel_rfl) (by kernel_rfl) (HSub.refl _) rfl rfl ?_
                  refine H_skip 7 rfl (by kernel_rfl) (by kernel_rfl) (by kernel_rfl) (HSub.refl _) rfl rfl ?_
                  refine H_skip 8 rfl (by kernel_rfl) (by kernel_rfl) (by kernel_rfl) (HSub.refl _) rfl rfl ?_
                  refine H_skip 9 rfl (by kernel_rfl) (by kernel_rfl) (by kernel_rfl) (HSub.refl _) rfl rfl ?_
                  refine H_skip 10 rfl (by kernel_rfl) (by kernel_rfl) (by kernel_rfl) (HSub.refl _) rfl rfl ?_
                  refine H_skip 11 rfl (by kernel_rfl) (by kernel_rfl) (by kernel_rfl) (HSub.refl _) rfl rfl ?_
                  refine H_skip 12 rfl (by kernel_rfl) (by kernel_rfl) (by kernel_rfl) (HSub.refl _) rfl rfl ?_
                  refine H_skip 13 rfl (by kernel_rfl) (by kernel_rfl) (by kernel_rfl) (HSub.refl _) rfl rfl ?_
                  refine H_y 14 rfl (by kernel_rfl) (by kernel_rfl) (by kernel_rfl) (HSub.refl _) rfl (y_pick_f rfl rfl) rfl ?_
                  refine H_done (by kernel_rfl) ?_
                  refine C_cond_f rfl ?_
                  refine C_exit ?_
                  exact ⟨t, ⟨ht1, ht2, hfin⟩, ⟨rfl, rfl, rfl, rfl, rfl, trivial⟩, ((hsub (.cons_cons _ (.refl _))).trans (hsub_pick [0] rfl))⟩
              · rename Nat => v2
                obtain ⟨qv20, qv21, hv2⟩ := ht
                refine C_seq ?_
                refine C_seq ?_
                refine C_region ?_
                refine L_y rfl (y_move rfl) rfl ?_
                refine L_y rfl (y_move rfl) rfl ?_
                refine L_y rfl (y_gtr rfl rfl) rfl ?_
                refine L_nil ?_
                refine C_cond rfl (fun hc5 => ?_) (fun hc5 => ?_)
                · replace hc5 : v2 < u2 := by have := of_decide_eq_true hc5; omega
                  refine C_exit ?_
                  refine C_seq ?_
                  refine C_regionH H (by kernel_rfl) ?_
                  refine H_y 0 rfl (by kernel_rfl) (by kernel_rfl) (by kernel_rfl) ((hsub (.cons _ (.refl _)))) rfl (y_move rfl) rfl ?_
                  refine H_y 1 rfl (by kernel_rfl) (by kernel_rfl) (by kernel_rfl) ((hsub (.cons _ (.refl _)))) rfl (y_move rfl) rfl ?_
                  refine H_y 2 rfl (by kernel_rfl) (by kernel_rfl) (by kernel_rfl) ((hsub (.cons _ (.refl _)))) rfl (y_move rfl) rfl ?_
                  refine H_y 3 rfl (by kernel_rfl) (by kernel_rfl) (by kernel_rfl) ((hsub (.cons _ (.refl _)))) rfl (y_move rfl) rfl ?_
                  refine H_y 4 rfl (by kernel_rfl) (by kernel_rfl) (by kernel_rfl) ((hsub (.cons _ (.refl _)))) rfl (y_move rfl) rfl ?_
                  refine H_y 5 rfl (by kernel_rfl) (by kernel_rfl) (by kernel_rfl) ((hsub (.cons _ (.refl _)))) rfl (y_move rfl) rfl ?_
                  refine H_y 6 rfl (by kernel_rfl) (by kernel_rfl) (by kernel_rfl) ((hsub (.cons _ (.refl _)))) rfl (y_indexS rfl rfl Try.underlying33 sz_48 (by omega) (by omega) (ix0 (a))) rfl ?_
                  refine H_y 8 rfl (by kernel_rfl) (by kernel_rfl) (by kernel_rfl) ((hsub (.cons _ (.refl _)))) rfl (y_move rfl) rfl ?_
                  refine H_y 9 rfl (by kernel_rfl) (by kernel_rfl) (by kernel_rfl) ((hsub (.cons _ (.refl _)))) rfl (y_move rfl) rfl ?_
                  refine H_y 10 rfl (by kernel_rfl) (by kernel_rfl) (by kernel_rfl) ((hsub (.cons _ (.refl _)))) rfl (y_indexS rfl rfl Try.underlying33 sz_48 (by omega) (by omega) (ix0 (v2))) rfl ?_
                  refine H_two 7 11 rfl rfl (by kernel_rfl) rfl rfl ?_ ?_
                  · refine op_y (y_load rfl ag_48 (sees 0 0 rfl) (us_at (by omega))) rfl ?_
                    refine ⟨(hsub (.cons _ (.refl _))), ?_⟩
                    refine H_one 11 rfl (by kernel_rfl) rfl (op_y (y_load rfl ag_48 (sees 0 0 rfl) (us_at (by omega))) rfl ?_)
                    refine ⟨(hsub (.cons _ (.refl _))), ?_⟩
                    refine H_y 12 rfl (by kernel_rfl) (by kernel_rfl) (by kernel_rfl) ((hsub (.cons _ (.refl _)))) rfl (y_indexS rfl rfl Try.underlying33 sz_48 (by omega) (by omega) (ix0 (v2))) rfl ?_
                    refine H_one 13 rfl (by kernel_rfl) rfl (op_store1 0 0 rfl rfl rfl sz_48 rfl (us_lt (by omega)) ?_)
                    refine ⟨(hsub (.cons _ (.refl _))), ?_⟩
                    refine H_y 14 rfl (by kernel_rfl) (by kernel_rfl) (by kernel_rfl) ((hsub (.cons _ (.refl _)))) rfl (y_indexS rfl rfl Try.underlying33 sz_48 (by omega) (by omega) (ix0 (a))) rfl ?_
                    refine H_one 15 rfl (by kernel_rfl) rfl (op_store1 0 0 rfl rfl rfl sz_48 rfl (by rw [List.length_set]; exact us_lt (by omega)) ?_)
                    refine ⟨(hsub (.cons _ (.refl _))), ?_⟩
                    refine H_done (by kernel_rfl) ?_
                    rw [us_swp (by omega) (by omega)]
                    refine C_seq ?_
                    refine C_region ?_
                    refine L_y rfl (y_move rfl) rfl ?_
                    refine L_y rfl (y_assign rfl) rfl ?_
                    refine L_y rfl (y_assign rfl) rfl ?_
                    refine L_nil ?_
                    refine C_ret ?_
                    refine B_ret (rv_tmp rfl (rv_tmp rfl rv_nil)) ((hsub (.cons_cons _ (.refl _))).trans (hsub_pick [0] rfl)) ?_
                    first
                    | (rw [pt_t hd1 hi hj hc2]; exact ⟨rfl, rfl⟩)
                    | (rw [pt_f (j2 := v2) (d2 := d3) hd1 hi hj hc2 (by rw [← hd2, ← hr3]; exact pl_stop hu2 hv2 hc5)]; exact ⟨rfl, rfl⟩)
                  · refine op_y (y_load rfl ag_48 (sees 0 0 rfl) (us_at (by omega))) rfl ?_
                    refine ⟨(hsub (.cons _ (.refl _))), ?_⟩
                    refine H_one 7 rfl (by kernel_rfl) rfl (op_y (y_load rfl ag_48 (sees 0 0 rfl) (us_at (by omega))) rfl ?_)
                    refine ⟨(hsub (.cons _ (.refl _))), ?_⟩
                    refine H_y 12 rfl (by kernel_rfl) (by kernel_rfl) (by kernel_rfl) ((hsub (.cons _ (.refl _)))) rfl (y_indexS rfl rfl Try.underlying33 sz_48 (by omega) (by omega) (ix0 (v2))) rfl ?_
                    refine H_one 13 rfl (by kernel_rfl) rfl (op_store1 0 0 rfl rfl rfl sz_48 rfl (us_lt (by omega)) ?_)
                    refine ⟨(hsub (.cons _ (.refl _))), ?_⟩
                    refine H_y 14 rfl (by kernel_rfl) (by kernel_rfl) (by kernel_rfl) ((hsub (.cons _ (.refl _)))) rfl (y_indexS rfl rfl Try.underlying33 sz_48 (by omega) (by omega) (ix0 (a))) rfl ?_
                    refine H_one 15 rfl (by kernel_rfl) rfl (op_store1 0 0 rfl rfl rfl sz_48 rfl (by rw [List.length_set]; exact us_lt (by omega)) ?_)
                    refine ⟨(hsub (.cons _ (.refl _))), ?_⟩
                    refine H_done (by kernel_rfl) ?_
                    rw [us_swp (by omega) (by omega)]
                    refine C_seq ?_
                    refine C_region ?_
                    refine L_y rfl (y_move rfl) rfl ?_
                    refine L_y rfl (y_assign rfl) rfl ?_
                    refine L_y rfl (y_assign rfl) rfl ?_
                    refine L_nil ?_
                    refine C_ret ?_
                    refine B_ret (rv_tmp rfl (rv_tmp rfl rv_nil)) ((hsub (.cons_cons _ (.refl _))).trans (hsub_pick [0] rfl)) ?_
                    first
                    | (rw [pt_t hd1 hi hj hc2]; exact ⟨rfl, rfl⟩)
                    | (rw [pt_f (j2 := v2) (d2 := d3) hd1 hi hj hc2 (by rw [← hd2, ← hr3]; exact pl_stop hu2 hv2 hc5)]; exact ⟨rfl, rfl⟩)
                · replace hc5 : ¬ v2 < u2 := by have := of_decide_eq_false hc5; omega
                  refine C_skip ?_
                  refine C_seq ?_
                  refine C_regionH H (by kernel_rfl) ?_
                  refine H_y 0 rfl (by kernel_rfl) (by kernel_rfl) (by kernel_rfl) ((hsub (.cons _ (.refl _)))) rfl (y_move rfl) rfl ?_
                  refine H_y 1 rfl (by kernel_rfl) (by kernel_rfl) (by kernel_rfl) ((hsub (.cons _ (.refl _)))) rfl (y_move rfl) rfl ?_
                  refine H_y 2 rfl (by kernel_rfl) (by kernel_rfl) (by kernel_rfl) ((hsub (.cons _ (.refl _)))) rfl (y_move rfl) rfl ?_
                  refine H_y 3 rfl (by kernel_rfl) (by kernel_rfl) (by kernel_rfl) ((hsub (.cons _ (.refl _)))) rfl (y_move rfl) rfl ?_
                  refine H_y 4 rfl (by kernel_rfl) (by kernel_rfl) (by kernel_rfl) ((hsub (.cons _ (.refl _)))) rfl (y_move rfl) rfl ?_
                  refine H_y 5 rfl (by kernel_rfl) (by kernel_rfl) (by kernel_rfl) ((hsub (.cons _ (.refl _)))) rfl (y_move rfl) rfl ?_
                  refine H_y 6 rfl (by kernel_rfl) (by kernel_rfl) (by kernel_rfl) ((hsub (.cons _ (.refl _)))) rfl (y_indexS rfl rfl Try.underlying33 sz_48 (by omega) (by omega) (ix0 (v2))) rfl ?_
                  refine H_y 8 rfl (by kernel_rfl) (by kernel_rfl) (by kernel_rfl) ((hsub (.cons _ (.refl _)))) rfl (y_move rfl) rfl ?_
                  refine H_y 9 rfl (by kernel_rfl) (by kernel_rfl) (by kernel_rfl) ((hsub (.cons _ (.refl _)))) rfl (y_move rfl) rfl ?_
                  refine H_y 10 rfl (by kernel_rfl) (by kernel_rfl) (by kernel_rfl) ((hsub (.cons _ (.refl _)))) rfl (y_indexS rfl rfl Try.underlying33 sz_48 (by omega) (by omega) (ix0 (u2))) rfl ?_
                  refine H_two 7 11 rfl rfl (by kernel_rfl) rfl rfl ?_ ?_
                  · refine op_y (y_load rfl ag_48 (sees 0 0 rfl) (us_at (by omega))) rfl ?_
                    refine ⟨(hsub (.cons _ (.refl _))), ?_⟩
                    refine H_one 11 rfl (by kernel_rfl) rfl (op_y (y_load rfl ag_48 (sees 0 0 rfl) (us_at (by omega))) rfl ?_)
                    refine ⟨(hsub (.cons _ (.refl _))), ?_⟩
                    refine H_y 12 rfl (by kernel_rfl) (by kernel_rfl) (by kernel_rfl) ((hsub (.cons _ (.refl _)))) rfl (y_indexS rfl rfl Try.underlying33 sz_48 (by omega) (by omega) (ix0 (u2))) rfl ?_
                    refine H_one 13 rfl (by kernel_rfl) rfl (op_store1 0 0 rfl rfl rfl sz_48 rfl (us_lt (by omega)) ?_)
                    refine ⟨(hsub (.cons _ (.refl _))), ?_⟩
                    refine H_y 14 rfl (by kernel_rfl) (by kernel_rfl) (by kernel_rfl) ((hsub (.cons _ (.refl _)))) rfl (y_indexS rfl rfl Try.underlying33 sz_48 (by omega) (by omega) (ix0 (v2))) rfl ?_
                    refine H_one 15 rfl (by kernel_rfl) rfl (op_store1 0 0 rfl rfl rfl sz_48 rfl (by rw [List.length_set]; exact us_lt (by omega)) ?_)
                    refine ⟨(hsub (.cons _ (.refl _))), ?_⟩
                    refine H_done (by kernel_rfl) ?_
                    rw [us_swp (by omega) (by omega)]
                    refine C_seq ?_
                    refine C_region ?_
                    refine L_y rfl (y_move rfl) rfl ?_
                    refine L_y rfl (y_add rfl rfl (show _ = ((u2 + 1 : Nat) : Int) from by rw [wi64 (by omega) (by omega)]; omega)) rfl ?_
                    refine L_y rfl (y_assign rfl) rfl ?_
                    refine L_nil ?_
                    refine C_region ?_
                    refine L_y rfl (y_move rfl) rfl ?_
                    refine L_y rfl (y_sub rfl rfl (show _ = ((v2 - 1 : Nat) : Int) from by rw [wi64 (by omega) (by omega)]; omega)) rfl ?_
                    refine L_y rfl (y_assign rfl) rfl ?_
                    refine L_nil ?_
                    exact ⟨(Go.Sort.swp d3 u2 v2, u2 + 1, v2 - 1), ⟨by simp only; rw [swp_size]; exact hs3, by simp only; omega, by simp only; omega, by simp only; omega, by simp only; rw [← hr3, pl_go hu2 hv2 hc5]⟩, by simp only; omega, ⟨rfl, rfl, rfl, rfl, rfl, trivial⟩, ((hsub (.cons_cons _ (.refl _))).trans (hsub_pick [0] rfl))⟩
                  · refine op_y (y_load rfl ag_48 (sees 0 0 rfl) (us_at (by omega))) rfl ?_
                    refine ⟨(hsub (.cons _ (.refl _))), ?_⟩
                    refine H_one 7 rfl (by kernel_rfl) rfl (op_y (y_load rfl ag_48 (sees 0 0 rfl) (us_at (by omega))) rfl ?_)
                    refine ⟨(hsub (.cons _ (.refl _))), ?_⟩
                    refine H_y 12 rfl (by kernel_rfl) (by kernel_rfl) (by kernel_rfl) ((hsub (.cons _ (.refl _)))) rfl (y_indexS rfl rfl Try.underlying33 sz_48 (by omega) (by omega) (ix0 (u2))) rfl ?_
                    refine H_one 13 rfl (by kernel_rfl) rfl (op_store1 0 0 rfl rfl rfl sz_48 rfl (us_lt (by omega)) ?_)
                    refine ⟨(hsub (.cons _ (.refl _))), ?_⟩
                    refine H_y 14 rfl (by kernel_rfl) (by kernel_rfl) (by kernel_rfl) ((hsub (.cons _ (.refl _)))) rfl (y_indexS rfl rfl Try.underlying33 sz_48 (by omega) (by omega) (ix0 (v2))) rfl ?_
                    refine H_one 15 rfl (by kernel_rfl) rfl (op_store1 0 0 rfl rfl rfl sz_48 rfl (by rw [List.length_set]; exact us_lt (by omega)) ?_)
                    refine ⟨(hsub (.cons _ (.refl _))), ?_⟩
                    refine H_done (by kernel_rfl) ?_
                    rw [us_swp (by omega) (by omega)]
                    refine C_seq ?_
                    refine C_region ?_
                    refine L_y rfl (y_move rfl) rfl ?_
                    refine L_y rfl (y_add rfl rfl (show _ = ((u2 + 1 : Nat) : Int) from by rw [wi64 (by omega) (by omega)]; omega)) rfl ?_
                    refine L_y rfl (y_assign rfl) rfl ?_
                    refine L_nil ?_
                    refine C_region ?_
                    refine L_y rfl (y_move rfl) rfl ?_
                    refine L_y rfl (y_sub rfl rfl (show _ = ((v2 - 1 : Nat) : Int) from by rw [wi64 (by omega) (by omega)]; omega)) rfl ?_
                    refine L_y rfl (y_assign rfl) rfl ?_
                    refine L_nil ?_
                    exact ⟨(Go.Sort.swp d3 u2 v2, u2 + 1, v2 - 1), ⟨by simp only; rw [swp_size]; exact hs3, by simp only; omega, by simp only; omega, by simp only; omega, by simp only; rw [← hr3, pl_go hu2 hv2 hc5]⟩, by simp only; omega, ⟨rfl, rfl, rfl, rfl, rfl, trivial⟩, ((hsub (.cons_cons _ (.refl _))).trans (hsub_pick [0] rfl))⟩
          · refine op_y (y_load rfl ag_48 (sees 0 0 rfl) (us_at (by omega))) rfl ?_
            refine ⟨(hsub (.cons _ (.refl _))), ?_⟩
            refine H_one 7 rfl (by kernel_rfl) rfl (op_y (y_load rfl ag_48 (sees 0 0 rfl) (us_at (by omega))) rfl ?_)
            refine ⟨(hsub (.cons _ (.refl _))), ?_⟩
            refine H_y 12 rfl (by kernel_rfl) (by kernel_rfl) (by kernel_rfl) ((hsub (.cons _ (.refl _)))) rfl (y_indexS rfl rfl Try.underlying33 sz_48 (by omega) (by omega) (ix0 (i))) rfl ?_
            refine H_one 13 rfl (by kernel_rfl) rfl (op_store1 0 0 rfl rfl rfl sz_48 rfl (us_lt (by omega)) ?_)
            refine ⟨(hsub (.cons _ (.refl _))), ?_⟩
            refine H_y 14 rfl (by kernel_rfl) (by kernel_rfl) (by kernel_rfl) ((hsub (.cons _ (.refl _)))) rfl (y_indexS rfl rfl Try.underlying33 sz_48 (by omega) (by omega) (ix0 (j))) rfl ?_
            refine H_one 15 rfl (by kernel_rfl) rfl (op_store1 0 0 rfl rfl rfl sz_48 rfl (by rw [List.length_set]; exact us_lt (by omega)) ?_)
            refine ⟨(hsub (.cons _ (.refl _))), ?_⟩
            refine H_done (by kernel_rfl) ?_
            rw [us_swp (by omega) (by omega)]
            obtain ⟨d2, hd2⟩ : ∃ y, y = Go.Sort.swp d1 i j := ⟨_, rfl⟩
            rw [← hd2]
            have hsd2 : d2.size = n := by rw [hd2, swp_size]; omega
            refine C_seq ?_
            refine C_region ?_
            refine L_y rfl (y_move rfl) rfl ?_
            refine L_y rfl (y_add rfl rfl (show _ = ((i + 1 : Nat) : Int) from by rw [wi64 (by omega) (by omega)]; omega)) rfl ?_
            refine L_y rfl (y_assign rfl) rfl ?_
            refine L_nil ?_
            refine C_seq ?_
            refine C_region ?_
            refine L_y rfl (y_move rfl) rfl ?_
            refine L_y rfl (y_sub rfl rfl (show _ = ((j - 1 : Nat) : Int) from by rw [wi64 (by omega) (by omega)]; omega)) rfl ?_
            refine L_y rfl (y_assign rfl) rfl ?_
            refine L_nil ?_
            refine C_seq ?_
            refine C_block ?_
            refine C_loop (ι := Array Nat × Nat × Nat) (fun x => [(0, (.slice (some ⟨sb, 0, none⟩) n cap)), (1, .int .i64 ((a : Nat) : Int)), (2, .int .i64 ((b : Nat) : Int)), (10, .int .i64 ((x.2.1 : Nat) : Int)), (11, .int .i64 ((x.2.2 : Nat) : Int))]) (fun x => useg 48 sb x.1 sp :: H) (fun x => x.1.size = n ∧ a < x.2.1 ∧ x.2.1 ≤ b ∧ x.2.2 < b ∧ Go.Sort.partLoop ltN a x.2.1 x.2.2 x.1 = Go.Sort.partLoop ltN a (i + 1) (j - 1) d2) (fun x => x.2.2 + 1 - x.2.1) (d2, i + 1, j - 1) ⟨hsd2, by simp only; omega, by simp only; omega, by simp only; omega, rfl⟩ ⟨rfl, rfl, rfl, rfl, rfl, trivial⟩ ((hsub (.cons_cons _ (.refl _))).trans (hsub_pick [0] rfl)) (fun x hx => ?_)
            obtain ⟨d3, u, v⟩ := x
            obtain ⟨hs3, hu1, hu2, hv1, hr3⟩ := hx
            try simp only at hs3 hu1 hu2 hv1 hr3
            try dsimp only
            refine C_block ?_
            refine C_cutG (ι := Nat) (fun t => a < t ∧ t ≤ b ∧ u ≤ t ∧ Go.Sort.scanUp (upP a d3) d3 v u = t) (fun t => [(0, (.slice (some ⟨sb, 0, none⟩) n cap)), (1, .int .i64 ((a : Nat) : Int)), (2, .int .i64 ((b : Nat) : Int)), (10, .int .i64 ((t : Nat) : Int)), (11, .int .i64 ((v : Nat) : Int))]) (fun t => useg 48 sb d3 sp :: H) ?_ (fun t ht => ?_)
            · refine C_block ?_
              refine C_loop (ι := Nat) (fun t => [(0, (.slice (some ⟨sb, 0, none⟩) n cap)), (1, .int .i64 ((a : Nat) : Int)), (2, .int .i64 ((b : Nat) : Int)), (10, .int .i64 ((t : Nat) : Int)), (11, .int .i64 ((v : Nat) : Int))]) (fun t => useg 48 sb d3 sp :: H) (fun t => a < t ∧ t ≤ b ∧ u ≤ t ∧ Go.Sort.scanUp (upP a d3) d3 v t = Go.Sort.scanUp (upP a d3) d3 v u) (fun t => v + 1 - t) u (by refine ⟨by omega, by omega, by omega, rfl⟩ <;> omega) ⟨rfl, rfl, rfl, rfl, rfl, trivial⟩ ((hsub (.cons_cons _ (.refl _))).trans (hsub_pick [0] rfl)) (fun t ht => ?_)
              obtain ⟨ht1, ht2, ht3, hts⟩ := ht
              refine C_seq ?_
              refine C_seq ?_
              refine C_regionH0 (by kernel_rfl) ?_
              refine H_y 0 rfl (by kernel_rfl) (by kernel_rfl) (by kernel_rfl) (HSub.refl _) rfl (y_move rfl) rfl ?_
              refine H_y 1 rfl (by kernel_rfl) (by kernel_rfl) (by kernel_rfl) (HSub.refl _) rfl (y_move rfl) rfl ?_
              refine H_y 2 rfl (by kernel_rfl) (by kernel_rfl) (by kernel_rfl) (HSub.refl _) rfl (y_leq rfl rfl) rfl ?_
              refine H_y 3 rfl (by kernel_rfl) (by kernel_rfl) (by kernel_rfl) (HSub.refl _) rfl (y_move rfl) rfl ?_
              refine H_case 102 rfl (fun hg13_4 => ?_) (fun hg13_4 => ?_)
              · have hle : t ≤ v := by have := of_decide_eq_true hg13_4; omega
                refine H_y 4 rfl (by kernel_rfl) (by kernel_rfl) (by kernel_rfl) (HSub.refl _) rfl (y_move rfl) rfl ?_
                refine H_y 5 rfl (by kernel_rfl) (by kernel_rfl) (by kernel_rfl) (HSub.refl _) rfl (y_move rfl) rfl ?_
                refine H_y 6 rfl (by kernel_rfl) (by kernel_rfl) (by kernel_rfl) (HSub.refl _) rfl (y_indexS rfl rfl Try.underlying33 sz_48 (by omega) (by omega) (ix0 (t))) rfl ?_
                refine H_y 7 rfl (by kernel_rfl) (by kernel_rfl) (by kernel_rfl) (HSub.refl _) rfl (y_load rfl ag_48 (sees 0 0 rfl) (us_at (by omega))) rfl ?_
                refine H_y 8 rfl (by kernel_rfl) (by kernel_rfl) (by kernel_rfl) (HSub.refl _) rfl (y_move rfl) rfl ?_
                refine H_y 9 rfl (by kernel_rfl) (by kernel_rfl) (by kernel_rfl) (HSub.refl _) rfl (y_move rfl) rfl ?_
                refine H_y 10 rfl (by kernel_rfl) (by kernel_rfl) (by kernel_rfl) (HSub.refl _) rfl (y_indexS rfl rfl Try.underlying33 sz_48 (by omega) (by omega) (ix0 (a))) rfl ?_
                refine H_y 11 rfl (by kernel_rfl) (by kernel_rfl) (by kernel_rfl) (HSub.refl _) rfl (y_load rfl ag_48 (sees 0 0 rfl) (us_at (by omega))) rfl ?_
                refine H_one 12 rfl (by kernel_rfl) rfl (op_call rfl rfl (fun a w => Try.call89 a w) rfl ?_)
                refine (less_u (d3[t]!) (d3[a]!)).mono ?_
                rintro _ _ ⟨rfl, e⟩
                obtain rfl := e.symm
                clear e
                refine ⟨_, rfl, ?_⟩
                refine ⟨HSub.refl _, ?_⟩
                refine H_y 13 rfl (by kernel_rfl) (by kernel_rfl) (by kernel_rfl) (HSub.refl _) rfl (y_pick_t rfl rfl) rfl ?_
                refine H_done (by kernel_rfl) ?_
                refine C_cond rfl (fun hc3 => ?_) (fun hc3 => ?_)
                · have hpt : (upP a d3) d3[t]! = true := hc3
                  refine C_skip ?_
                  refine C_block ?_
                  refine C_region ?_
                  refine L_y rfl (y_move rfl) rfl ?_
                  refine L_y rfl (y_add rfl rfl (show _ = ((t + 1 : Nat) : Int) from by rw [wi64 (by omega) (by omega)]; omega)) rfl ?_
                  refine L_y rfl (y_assign rfl) rfl ?_
                  refine L_nil ?_
                  exact ⟨t + 1, ⟨by omega, by omega, by omega, by rw [← hts, su_go hle hpt]⟩, by omega, ⟨rfl, rfl, rfl, rfl, rfl, trivial⟩, ((hsub (.cons_cons _ (.refl _))).trans (hsub_pick [0] rfl))⟩
                · have hfin := hts.symm.trans (su_stop (p := (upP a d3)) (d := d3) (.inr hc3))
                  refine C_exit ?_
                  exact ⟨t, ⟨ht1, ht2, ht3, hfin⟩, ⟨rfl, rfl, rfl, rfl, rfl, trivial⟩, ((hsub (.cons_cons _ (.refl _))).trans (hsub_pick [0] rfl))⟩
              · have hle : ¬ t ≤ v := by have := of_decide_eq_false hg13_4; omega
                have hfin := hts.symm.trans (su_stop (p := (upP a d3)) (d := d3) (.inl hle))
                refine H_skip 4 rfl (by kernel_rfl) (by kernel_rfl) (by kernel_rfl) (HSub.refl _) rfl rfl ?_
                refine H_skip 5 rfl (by kernel_rfl) (by kernel_rfl) (by kernel_rfl) (HSub.refl _) rfl rfl ?_
                refine H_skip 6 rfl (by kernel_rfl) (by kernel_rfl) (by kernel_rfl) (HSub.refl _) rfl rfl ?_
                refine H_skip 7 rfl (by kernel_rfl) (by kernel_rfl) (by kernel_rfl) (HSub.refl _) rfl rfl ?_
                refine H_skip 8 rfl (by kernel_rfl) (by kernel_rfl) (by kernel_rfl) (HSub.refl _) rfl rfl ?_
                refine H_skip 9 rfl (by kernel_rfl) (by kernel_rfl) (by kernel_rfl) (HSub.refl _) rfl rfl ?_
                refine H_skip 10 rfl (by kernel_rfl) (by kernel_rfl) (by kernel_rfl) (HSub.refl _) rfl rfl ?_
                refine H_skip 11 rfl (by kernel_rfl) (by kernel_rfl) (by kernel_rfl) (HSub.refl _) rfl rfl ?_
                refine H_skip 12 rfl (by kernel_rfl) (by kernel_rfl) (by kernel_rfl) (HSub.refl _) rfl rfl ?_
                refine H_y 13 rfl (by kernel_rfl) (by kernel_rfl) (by kernel_rfl) (HSub.refl _) rfl (y_pick_f rfl rfl) rfl ?_
                refine H_done (by kernel_rfl) ?_
                refine C_cond_f rfl ?_
                refine C_exit ?_
                exact ⟨t, ⟨ht1, ht2, ht3, hfin⟩, ⟨rfl, rfl, rfl, rfl, rfl, trivial⟩, ((hsub (.cons_cons _ (.refl _))).trans (hsub_pick [0] rfl))⟩
            · rename Nat => u2
              obtain ⟨qu20, qu21, qu22, hu2⟩ := ht
              refine C_cutG (ι := Nat) (fun t => t < b ∧ t ≤ v ∧ Go.Sort.scanDown (dnP a d3) d3 u2 v = t) (fun t => [(0, (.slice (some ⟨sb, 0, none⟩) n cap)), (1, .int .i64 ((a : Nat) : Int)), (2, .int .i64 ((b : Nat) : Int)), (10, .int .i64 ((u2 : Nat) : Int)), (11, .int .i64 ((t : Nat) : Int))]) (fun t => useg 48 sb d3 sp :: H) ?_ (fun t ht => ?_)
              · refine C_block ?_
                refine C_loop (ι := Nat) (fun t => [(0, (.slice (some ⟨sb, 0, none⟩) n cap)), (1, .int .i64 ((a : Nat) : Int)), (2, .int .i64 ((b : Nat) : Int)), (10, .int .i64 ((u2 : Nat) : Int)), (11, .int .i64 ((t : Nat) : Int))]) (fun t => useg 48 sb d3 sp :: H) (fun t => t < b ∧ t ≤ v ∧ Go.Sort.scanDown (dnP a d3) d3 u2 t = Go.Sort.scanDown (dnP a d3) d3 u2 v) (fun t => t) v (by refine ⟨by omega, by omega, rfl⟩ <;> omega) ⟨rfl, rfl, rfl, rfl, rfl, trivial⟩ ((hsub (.cons_cons _ (.refl _))).trans (hsub_pick [0] rfl)) (fun t ht => ?_)
                obtain ⟨ht1, ht2, hts⟩ := ht
                refine C_seq ?_
                refine C_seq ?_
                refine C_regionH0 (by kernel_rfl) ?_
                refine H_y 0 rfl (by kernel_rfl) (by kernel_rfl) (by kernel_rfl) (HSub.refl _) rfl (y_move rfl) rfl ?_
                refine H_y 1 rfl (by kernel_rfl) (by kernel_rfl) (by kernel_rfl) (HSub.refl _) rfl (y_move rfl) rfl ?_
                refine H_y 2 rfl (by kernel_rfl) (by kernel_rfl) (by kernel_rfl) (HSub.refl _) rfl (y_leq rfl rfl) rfl ?_
                refine H_y 3 rfl (by kernel_rfl) (by kernel_rfl) (by kernel_rfl) (HSub.refl _) rfl (y_move rfl) rfl ?_
                refine H_case 118 rfl (fun hg15_4 => ?_) (fun hg15_4 => ?_)
                · have hle : u2 ≤ t := by have := of_decide_eq_true hg15_4; omega
                  refine H_y 4 rfl (by kernel_rfl) (by kernel_rfl) (by kernel_rfl) (HSub.refl _) rfl (y_move rfl) rfl ?_
                  refine H_y 5 rfl (by kernel_rfl) (by kernel_rfl) (by kernel_rfl) (HSub.refl _) rfl (y_move rfl) rfl ?_
                  refine H_y 6 rfl (by kernel_rfl) (by kernel_rfl) (by kernel_rfl) (HSub.refl _) rfl (y_indexS rfl rfl Try.underlying33 sz_48 (by omega) (by omega) (ix0 (t))) rfl ?_
                  refine H_y 7 rfl (by kernel_rfl) (by kernel_rfl) (by kernel_rfl) (HSub.refl _) rfl (y_load rfl ag_48 (sees 0 0 rfl) (us_at (by omega))) rfl ?_
                  refine H_y 8 rfl (by kernel_rfl) (by kernel_rfl) (by kernel_rfl) (HSub.refl _) rfl (y_move rfl) rfl ?_
                  refine H_y 9 rfl (by kernel_rfl) (by kernel_rfl) (by kernel_rfl) (HSub.refl _) rfl (y_move rfl) rfl ?_
                  refine H_y 10 rfl (by kernel_rfl) (by kernel_rfl) (by kernel_rfl) (HSub.refl _) rfl (y_indexS rfl rfl Try.underlying33 sz_48 (by omega) (by omega) (ix0 (a))) rfl ?_
                  refine H_y 11 rfl (by kernel_rfl) (by kernel_rfl) (by kernel_rfl) (HSub.refl _) rfl (y_load rfl ag_48 (sees 0 0 rfl) (us_at (by omega))) rfl ?_
                  refine H_one 12 rfl (by kernel_rfl) rfl (op_call rfl rfl (fun a w => Try.call89 a w) rfl ?_)
                  refine (less_u (d3[t]!) (d3[a]!)).mono ?_
                  rintro _ _ ⟨rfl, e⟩
                  obtain rfl := e.symm
                  clear e
                  refine ⟨_, rfl, ?_⟩
                  refine ⟨HSub.refl _, ?_⟩
                  refine H_y 13 rfl (by kernel_rfl) (by kernel_rfl) (by kernel_rfl) (HSub.refl _) rfl (y_not rfl) rfl ?_
                  refine H_y 14 rfl (by kernel_rfl) (by kernel_rfl) (by kernel_rfl) (HSub.refl _) rfl (y_pick_t rfl rfl) rfl ?_
                  refine H_done (by kernel_rfl) ?_
                  refine C_cond rfl (fun hc4 => ?_) (fun hc4 => ?_)
                  · have hpt : (dnP a d3) d3[t]! = true := hc4
                    refine C_skip ?_
                    refine C_block ?_
                    refine C_region ?_
                    refine L_y rfl (y_move rfl) rfl ?_
                    refine L_y rfl (y_sub rfl rfl (show _ = ((t - 1 : Nat) : Int) from by rw [wi64 (by omega) (by omega)]; omega)) rfl ?_
                    refine L_y rfl (y_assign rfl) rfl ?_
                    refine L_nil ?_
                    exact ⟨t - 1, ⟨by omega, by omega, by rw [← hts, sn_go hle (by omega) hpt]⟩, by omega, ⟨rfl, rfl, rfl, rfl, rfl, trivial⟩, ((hsub (.cons_cons _ (.refl _))).trans (hsub_pick [0] rfl))⟩
                  · have hfin := hts.symm.trans (sn_stop (p := (dnP a d3)) (d := d3) (.inr hc4))
                    refine C_exit ?_
                    exact ⟨t, ⟨ht1, ht2, hfin⟩, ⟨rfl, rfl, rfl, rfl, rfl, trivial⟩, ((hsub (.cons_cons _ (.refl _))).trans (hsub_pick [0] rfl))⟩
                · have hle : ¬ u2 ≤ t := by have := of_decide_eq_false hg15_4; omega
                  have hfin := hts.symm.trans (sn_stop (p := (dnP a d3)) (d := d3) (.inl hle))
                  refine H_skip 4 rfl (by kernel_rfl) (by kernel_rfl) (by kernel_rfl) (HSub.refl _) rfl rfl ?_
                  refine H_skip 5 rfl (by kernel_rfl) (by kernel_rfl) (by kernel_rfl) (HSub.refl _) rfl rfl ?_
                  refine H_skip 6 rfl (by kernel_rfl) (by kernel_rfl) (by kernel_rfl) (HSub.refl _) rfl rfl ?_
                  refine H_skip 7 rfl (by kernel_rfl) (by kernel_rfl) (by kernel_rfl) (HSub.refl _) rfl rfl ?_
                  refine H_skip 8 rfl (by kernel_rfl) (by kernel_rfl) (by kernel_rfl) (HSub.refl _) rfl rfl ?_
                  refine H_skip 9 rfl (by kernel_rfl) (by kernel_rfl) (by kernel_rfl) (HSub.refl _) rfl rfl ?_
                  refine H_skip 10 rfl (by kernel_rfl) (by kernel_rfl) (by kernel_rfl) (HSub.refl _) rfl rfl ?_
                  refine H_skip 11 rfl (by kernel_rfl) (by kernel_rfl) (by kernel_rfl) (HSub.refl _) rfl rfl ?_
                  refine H_skip 12 rfl (by kernel_rfl) (by kernel_rfl) (by kernel_rfl) (HSub.refl _) rfl rfl ?_
                  refine H_skip 13 rfl (by kernel_rfl) (by kernel_rfl) (by kernel_rfl) (HSub.refl _) rfl rfl ?_
                  refine H_y 14 rfl (by kernel_rfl) (by kernel_rfl) (by kernel_rfl) (HSub.refl _) rfl (y_pick_f rfl rfl) rfl ?_
                  refine H_done (by kernel_rfl) ?_
                  refine C_cond_f rfl ?_
                  refine C_exit ?_
                  exact ⟨t, ⟨ht1, ht2, hfin⟩, ⟨rfl, rfl, rfl, rfl, rfl, trivial⟩, ((hsub (.cons_cons _ (.refl _))).trans (hsub_pick [0] rfl))⟩
              · rename Nat => v2
                obtain ⟨qv20, qv21, hv2⟩ := ht
                refine C_seq ?_
                refine C_seq ?_
                refine C_region ?_
                refine L_y rfl (y_move rfl) rfl ?_
                refine L_y rfl (y_move rfl) rfl ?_
                refine L_y rfl (y_gtr rfl rfl) rfl ?_
                refine L_nil ?_
                refine C_cond rfl (fun hc5 => ?_) (fun hc5 => ?_)
                · replace hc5 : v2 < u2 := by have := of_decide_eq_true hc5; omega
                  refine C_exit ?_
                  refine C_seq ?_
                  refine C_regionH H (by kernel_rfl) ?_
                  refine H_y 0 rfl (by kernel_rfl) (by kernel_rfl) (by kernel_rfl) ((hsub (.cons _ (.refl _)))) rfl (y_move rfl) rfl ?_
                  refine H_y 1 rfl (by kernel_rfl) (by kernel_rfl) (by kernel_rfl) ((hsub (.cons _ (.refl _)))) rfl (y_move rfl) rfl ?_
                  refine H_y 2 rfl (by kernel_rfl) (by kernel_rfl) (by kernel_rfl) ((hsub (.cons _ (.refl _)))) rfl (y_move rfl) rfl ?_
                  refine H_y 3 rfl (by kernel_rfl) (by kernel_rfl) (by kernel_rfl) ((hsub (.cons _ (.refl _)))) rfl (y_move rfl) rfl ?_
                  refine H_y 4 rfl (by kernel_rfl) (by kernel_rfl) (by kernel_rfl) ((hsub (.cons _ (.refl _)))) rfl (y_move rfl) rfl ?_
                  refine H_y 5 rfl (by kernel_rfl) (by kernel_rfl) (by kernel_rfl) ((hsub (.cons _ (.refl _)))) rfl (y_move rfl) rfl ?_
                  refine H_y 6 rfl (by kernel_rfl) (by kernel_rfl) (by kernel_rfl) ((hsub (.cons _ (.refl _)))) rfl (y_indexS rfl rfl Try.underlying33 sz_48 (by omega) (by omega) (ix0 (a))) rfl ?_
                  refine H_y 8 rfl (by kernel_rfl) (by kernel_rfl) (by kernel_rfl) ((hsub (.cons _ (.refl _)))) rfl (y_move rfl) rfl ?_
                  refine H_y 9 rfl (by kernel_rfl) (by kernel_rfl) (by kernel_rfl) ((hsub (.cons _ (.refl _)))) rfl (y_move rfl) rfl ?_
                  refine H_y 10 rfl (by kernel_rfl) (by kernel_rfl) (by kernel_rfl) ((hsub (.cons _ (.refl _)))) rfl (y_indexS rfl rfl Try.underlying33 sz_48 (by omega) (by omega) (ix0 (v2))) rfl ?_
                  refine H_two 7 11 rfl rfl (by kernel_rfl) rfl rfl ?_ ?_
                  · refine op_y (y_load rfl ag_48 (sees 0 0 rfl) (us_at (by omega))) rfl ?_
                    refine ⟨(hsub (.cons _ (.refl _))), ?_⟩
                    refine H_one 11 rfl (by kernel_rfl) rfl (op_y (y_load rfl ag_48 (sees 0 0 rfl) (us_at (by omega))) rfl ?_)
                    refine ⟨(hsub (.cons _ (.refl _))), ?_⟩
                    refine H_y 12 rfl (by kernel_rfl) (by kernel_rfl) (by kernel_rfl) ((hsub (.cons _ (.refl _)))) rfl (y_indexS rfl rfl Try.underlying33 sz_48 (by omega) (by omega) (ix0 (v2))) rfl ?_
                    refine H_one 13 rfl (by kernel_rfl) rfl (op_store1 0 0 rfl rfl rfl sz_48 rfl (us_lt (by omega)) ?_)
                    refine ⟨(hsub (.cons _ (.refl _))), ?_⟩
                    refine H_y 14 rfl (by kernel_rfl) (by kernel_rfl) (by kernel_rfl) ((hsub (.cons _ (.refl _)))) rfl (y_indexS rfl rfl Try.underlying33 sz_48 (by omega) (by omega) (ix0 (a))) rfl ?_
                    refine H_one 15 rfl (by kernel_rfl) rfl (op_store1 0 0 rfl rfl rfl sz_48 rfl (by rw [List.length_set]; exact us_lt (by omega)) ?_)
                    refine ⟨(hsub (.cons _ (.refl _))), ?_⟩
                    refine H_done (by kernel_rfl) ?_
                    rw [us_swp (by omega) (by omega)]
                    refine C_seq ?_
                    refine C_region ?_
                    refine L_y rfl (y_move rfl) rfl ?_
                    refine L_y rfl (y_assign rfl) rfl ?_
                    refine L_y rfl (y_assign rfl) rfl ?_
                    refine L_nil ?_
                    refine C_ret ?_
                    refine B_ret (rv_tmp rfl (rv_tmp rfl rv_nil)) ((hsub (.cons_cons _ (.refl _))).trans (hsub_pick [0] rfl)) ?_
                    first
                    | (rw [pt_t hd1 hi hj hc2]; exact ⟨rfl, rfl⟩)
                    | (rw [pt_f (j2 := v2) (d2 := d3) hd1 hi hj hc2 (by rw [← hd2, ← hr3]; exact pl_stop hu2 hv2 hc5)]; exact ⟨rfl, rfl⟩)
                  · refine op_y (y_load rfl ag_48 (sees 0 0 rfl) (us_at (by omega))) rfl ?_
                    refine ⟨(hsub (.cons _ (.refl _))), ?_⟩
                    refine H_one 7 rfl (by kernel_rfl) rfl (op_y (y_load rfl ag_48 (sees 0 0 rfl) (us_at (by omega))) rfl ?_)
                    refine ⟨(hsub (.cons _ (.refl _))), ?_⟩
                    refine H_y 12 rfl (by kernel_rfl) (by kernel_rfl) (by kernel_rfl) ((hsub (.cons _ (.refl _)))) rfl (y_indexS rfl rfl Try.underlying33 sz_48 (by omega) (by omega) (ix0 (v2))) rfl ?_
                    refine H_one 13 rfl (by kernel_rfl) rfl (op_store1 0 0 rfl rfl rfl sz_48 rfl (us_lt (by omega)) ?_)
                    refine ⟨(hsub (.cons _ (.refl _))), ?_⟩
                    refine H_y 14 rfl (by kernel_rfl) (by kernel_rfl) (by kernel_rfl) ((hsub (.cons _ (.refl _)))) rfl (y_indexS rfl rfl Try.underlying33 sz_48 (by omega) (by omega) (ix0 (a))) rfl ?_
                    refine H_one 15 rfl (by kernel_rfl) rfl (op_store1 0 0 rfl rfl rfl sz_48 rfl (by rw [List.length_set]; exact us_lt (by omega)) ?_)
                    refine ⟨(hsub (.cons _ (.refl _))), ?_⟩
                    refine H_done (by kernel_rfl) ?_
                    rw [us_swp (by omega) (by omega)]
                    refine C_seq ?_
                    refine C_region ?_
                    refine L_y rfl (y_move rfl) rfl ?_
                    refine L_y rfl (y_assign rfl) rfl ?_
                    refine L_y rfl (y_assign rfl) rfl ?_
                    refine L_nil ?_
                    refine C_ret ?_
                    refine B_ret (rv_tmp rfl (rv_tmp rfl rv_nil)) ((hsub (.cons_cons _ (.refl _))).trans (hsub_pick [0] rfl)) ?_
                    first
                    | (rw [pt_t hd1 hi hj hc2]; exact ⟨rfl, rfl⟩)
                    | (rw [pt_f (j2 := v2) (d2 := d3) hd1 hi hj hc2 (by rw [← hd2, ← hr3]; exact pl_stop hu2 hv2 hc5)]; exact ⟨rfl, rfl⟩)
                · replace hc5 : ¬ v2 < u2 := by have := of_decide_eq_false hc5; omega
                  refine C_skip ?_
                  refine C_seq ?_
                  refine C_regionH H (by kernel_rfl) ?_
                  refine H_y 0 rfl (by kernel_rfl) (by kernel_rfl) (by kernel_rfl) ((hsub (.cons _ (.refl _)))) rfl (y_move rfl) rfl ?_
                  refine H_y 1 rfl (by kernel_rfl) (by kernel_rfl) (by kernel_rfl) ((hsub (.cons _ (.refl _)))) rfl (y_move rfl) rfl ?_
                  refine H_y 2 rfl (by kernel_rfl) (by kernel_rfl) (by kernel_rfl) ((hsub (.cons _ (.refl _)))) rfl (y_move rfl) rfl ?_
                  refine H_y 3 rfl (by kernel_rfl) (by kernel_rfl) (by kernel_rfl) ((hsub (.cons _ (.refl _)))) rfl (y_move rfl) rfl ?_
                  refine H_y 4 rfl (by kernel_rfl) (by kernel_rfl) (by kernel_rfl) ((hsub (.cons _ (.refl _)))) rfl (y_move rfl) rfl ?_
                  refine H_y 5 rfl (by kernel_rfl) (by kernel_rfl) (by kernel_rfl) ((hsub (.cons _ (.refl _)))) rfl (y_move rfl) rfl ?_
                  refine H_y 6 rfl (by kernel_rfl) (by kernel_rfl) (by kernel_rfl) ((hsub (.cons _ (.refl _)))) rfl (y_indexS rfl rfl Try.underlying33 sz_48 (by omega) (by omega) (ix0 (v2))) rfl ?_
                  refine H_y 8 rfl (by kernel_rfl) (by kernel_rfl) (by kernel_rfl) ((hsub (.cons _ (.refl _)))) rfl (y_move rfl) rfl ?_
                  refine H_y 9 rfl (by kernel_rfl) (by kernel_rfl) (by kernel_rfl) ((hsub (.cons _ (.refl _)))) rfl (y_move rfl) rfl ?_
                  refine H_y 10 rfl (by kernel_rfl) (by kernel_rfl) (by kernel_rfl) ((hsub (.cons _ (.refl _)))) rfl (y_indexS rfl rfl Try.underlying33 sz_48 (by omega) (by omega) (ix0 (u2))) rfl ?_
                  refine H_two 7 11 rfl rfl (by kernel_rfl) rfl rfl ?_ ?_
                  · refine op_y (y_load rfl ag_48 (sees 0 0 rfl) (us_at (by omega))) rfl ?_
                    refine ⟨(hsub (.cons _ (.refl _))), ?_⟩
                    refine H_one 11 rfl (by kernel_rfl) rfl (op_y (y_load rfl ag_48 (sees 0 0 rfl) (us_at (by omega))) rfl ?_)
                    refine ⟨(hsub (.cons _ (.refl _))), ?_⟩
                    refine H_y 12 rfl (by kernel_rfl) (by kernel_rfl) (by kernel_rfl) ((hsub (.cons _ (.refl _)))) rfl (y_indexS rfl rfl Try.underlying33 sz_48 (by omega) (by omega) (ix0 (u2))) rfl ?_
                    refine H_one 13 rfl (by kernel_rfl) rfl (op_store1 0 0 rfl rfl rfl sz_48 rfl (us_lt (by omega)) ?_)
                    refine ⟨(hsub (.cons _ (.refl _))), ?_⟩
                    refine H_y 14 rfl (by kernel_rfl) (by kernel_rfl) (by kernel_rfl) ((hsub (.cons _ (.refl _)))) rfl (y_indexS rfl rfl Try.underlying33 sz_48 (by omega) (by omega) (ix0 (v2))) rfl ?_
                    refine H_one 15 rfl (by kernel_rfl) rfl (op_store1 0 0 rfl rfl rfl sz_48 rfl (by rw [List.length_set]; exact us_lt (by omega)) ?_)
                    refine ⟨(hsub (.cons _ (.refl _))), ?_⟩
                    refine H_done (by kernel_rfl) ?_
                    rw [us_swp (by omega) (by omega)]
                    refine C_seq ?_
                    refine C_region ?_
                    refine L_y rfl (y_move rfl) rfl ?_
                    refine L_y rfl (y_add rfl rfl (show _ = ((u2 + 1 : Nat) : Int) from by rw [wi64 (by omega) (by omega)]; omega)) rfl ?_
                    refine L_y rfl (y_assign rfl) rfl ?_
                    refine L_nil ?_
                    refine C_region ?_
                    refine L_y rfl (y_move rfl) rfl ?_
                    refine L_y rfl (y_sub rfl rfl (show _ = ((v2 - 1 : Nat) : Int) from by rw [wi64 (by omega) (by omega)]; omega)) rfl ?_
                    refine L_y rfl (y_assign rfl) rfl ?_
                    refine L_nil ?_
                    exact ⟨(Go.Sort.swp d3 u2 v2, u2 + 1, v2 - 1), ⟨by simp only; rw [swp_size]; exact hs3, by simp only; omega, by simp only; omega, by simp only; omega, by simp only; rw [← hr3, pl_go hu2 hv2 hc5]⟩, by simp only; omega, ⟨rfl, rfl, rfl, rfl, rfl, trivial⟩, ((hsub (.cons_cons _ (.refl _))).trans (hsub_pick [0] rfl))⟩
                  · refine op_y (y_load rfl ag_48 (sees 0 0 rfl) (us_at (by omega))) rfl ?_
                    refine ⟨(hsub (.cons _ (.refl _))), ?_⟩
                    refine H_one 7 rfl (by kernel_rfl) rfl (op_y (y_load rfl ag_48 (sees 0 0 rfl) (us_at (by omega))) rfl ?_)
                    refine ⟨(hsub (.cons _ (.refl _))), ?_⟩
                    refine H_y 12 rfl (by kernel_rfl) (by kernel_rfl) (by kernel_rfl) ((hsub (.cons _ (.refl _)))) rfl (y_indexS rfl rfl Try.underlying33 sz_48 (by omega) (by omega) (ix0 (u2))) rfl ?_
                    refine H_one 13 rfl (by kernel_rfl) rfl (op_store1 0 0 rfl rfl rfl sz_48 rfl (us_lt (by omega)) ?_)
                    refine ⟨(hsub (.cons _ (.refl _))), ?_⟩
                    refine H_y 14 rfl (by kernel_rfl) (by kernel_rfl) (by kernel_rfl) ((hsub (.cons _ (.refl _)))) rfl (y_indexS rfl rfl Try.underlying33 sz_48 (by omega) (by omega) (ix0 (v2))) rfl ?_
                    refine H_one 15 rfl (by kernel_rfl) rfl (op_store1 0 0 rfl rfl rfl sz_48 rfl (by rw [List.length_set]; exact us_lt (by omega)) ?_)
                    refine ⟨(hsub (.cons _ (.refl _))), ?_⟩
                    refine H_done (by kernel_rfl) ?_
                    rw [us_swp (by omega) (by omega)]
                    refine C_seq ?_
                    refine C_region ?_
                    refine L_y rfl (y_move rfl) rfl ?_
                    refine L_y rfl (y_add rfl rfl (show _ = ((u2 + 1 : Nat) : Int) from by rw [wi64 (by omega) (by omega)]; omega)) rfl ?_
                    refine L_y rfl (y_assign rfl) rfl ?_
                    refine L_nil ?_
                    refine C_region ?_
                    refine L_y rfl (y_move rfl) rfl ?_
                    refine L_y rfl (y_sub rfl rfl (show _ = ((v2 - 1 : Nat) : Int) from by rw [wi64 (by omega) (by omega)]; omega)) rfl ?_
                    refine L_y rfl (y_assign rfl) rfl ?_
                    refine L_nil ?_
                    exact ⟨(Go.Sort.swp d3 u2 v2, u2 + 1, v2 - 1), ⟨by simp only; rw [swp_size]; exact hs3, by simp only; omega, by simp only; omega, by simp only; omega, by simp only; rw [← hr3, pl_go hu2 hv2 hc5]⟩, by simp only; omega, ⟨rfl, rfl, rfl, rfl, rfl, trivial⟩, ((hsub (.cons_cons _ (.refl _))).trans (hsub_pick [0] rfl))⟩

set_option maxHeartbeats 2000000 in

theorem parteq_u {w0 : World} {H : Hp} {sb n cap : Nat} {sp : List Value} (d : Array Nat) (hd : d.size = n) (hn : n < 4611686018427387904) (a b pivot : Nat) (hap : a ≤ pivot) (hpb : pivot < b) (hb : b ≤ n) : FnS Try.prog w0 90 #[(.slice (some ⟨sb, 0, none⟩) n cap), .int .i64 ((a : Nat) : Int), .int .i64 ((b : Nat) : Int), .int .i64 ((pivot : Nat) : Int)] (useg 48 sb d sp :: H) (fun e H' => e = .returned (.int .i64 ((Go.Sort.partitionEqual ltN d a b pivot).1 : Int)) ∧ H' = useg 48 sb (Go.Sort.partitionEqual ltN d a b pivot).2 sp :: H) := by
  refine FnS_intro (n := 84) (rs := [.tmp 8]) (vs := [(.slice (some ⟨sb, 0, none⟩) n cap), .int .i64 ((a : Nat) : Int), .int .i64 ((b : Nat) : Int), .int .i64 ((pivot : Nat) : Int)]) Try.func90 rfl Try.ntmps90 rfl rfl ?_
  refine C_seq ?_
  refine C_region ?_
  refine L_y rfl (y_assign rfl) rfl ?_
  refine L_nil ?_
  refine C_seq ?_
  refine C_regionH H (by kernel_rfl) ?_
  refine H_y 0 rfl (by kernel_rfl) (by kernel_rfl) (by kernel_rfl) ((hsub (.cons _ (.refl _)))) rfl (y_move rfl) rfl ?_
  refine H_y 1 rfl (by kernel_rfl) (by kernel_rfl) (by kernel_rfl) ((hsub (.cons _ (.refl _)))) rfl (y_move rfl) rfl ?_
  refine H_y 2 rfl (by kernel_rfl) (by kernel_rfl) (by kernel_rfl) ((hsub (.cons _ (.refl _)))) rfl (y_move rfl) rfl ?_
  refine H_y 3 rfl (by kernel_rfl) (by kernel_rfl) (by kernel_rfl) ((hsub (.cons _ (.refl _)))) rfl (y_move rfl) rfl ?_
  refine H_y 4 rfl (by kernel_rfl) (by kernel_rfl) (by kernel_rfl) ((hsub (.cons _ (.refl _)))) rfl (y_move rfl) rfl ?_
  refine H_y 5 rfl (by kernel_rfl) (by kernel_rfl) (by kernel_rfl) ((hsub (.cons _ (.refl _)))) rfl (y_move rfl) rfl ?_
  refine H_y 6 rfl (by kernel_rfl) (by kernel_rfl) (by kernel_rfl) ((hsub (.cons _ (.refl _)))) rfl (y_indexS rfl rfl Try.underlying33 sz_48 (by omega) (by omega) (ix0 (pivot))) rfl ?_
  refine H_y 8 rfl (by kernel_rfl) (by kernel_rfl) (by kernel_rfl) ((hsub (.cons _ (.refl _)))) rfl (y_move rfl) rfl ?_
  refine H_y 9 rfl (by kernel_rfl) (by kernel_rfl) (by kernel_rfl) ((hsub (.cons _ (.refl _)))) rfl (y_move rfl) rfl ?_
  refine H_y 10 rfl (by kernel_rfl) (by kernel_rfl) (by kernel_rfl) ((hsub (.cons _ (.refl _)))) rfl (y_indexS rfl rfl Try.underlying33 sz_48 (by omega) (by omega) (ix0 (a))) rfl ?_
  refine H_two 7 11 rfl rfl (by kernel_rfl) rfl rfl ?_ ?_
  · refine op_y (y_load rfl ag_48 (sees 0 0 rfl) (us_at (by omega))) rfl ?_
    refine ⟨(hsub (.cons _ (.refl _))), ?_⟩
    refine H_one 11 rfl (by kernel_rfl) rfl (op_y (y_load rfl ag_48 (sees 0 0 rfl) (us_at (by omega))) rfl ?_)
    refine ⟨(hsub (.cons _ (.refl _))), ?_⟩
    refine H_y 12 rfl (by kernel_rfl) (by kernel_rfl) (by kernel_rfl) ((hsub (.cons _ (.refl _)))) rfl (y_indexS rfl rfl Try.underlying33 sz_48 (by omega) (by omega) (ix0 (a))) rfl ?_
    refine H_one 13 rfl (by kernel_rfl) rfl (op_store1 0 0 rfl rfl rfl sz_48 rfl (us_lt (by omega)) ?_)
    refine ⟨(hsub (.cons _ (.refl _))), ?_⟩
    refine H_y 14 rfl (by kernel_rfl) (by kernel_rfl) (by kernel_rfl) ((hsub (.cons _ (.refl _)))) rfl (y_indexS rfl rfl Try.underlying33 sz_48 (by omega) (by omega) (ix0 (pivot))) rfl ?_
    refine H_one 15 rfl (by kernel_rfl) rfl (op_store1 0 0 rfl rfl rfl sz_48 rfl (by rw [List.length_set]; exact us_lt (by omega)) ?_)
    refine ⟨(hsub (.cons _ (.refl _))), ?_⟩
    refine H_done (by kernel_rfl) ?_
    rw [us_swp (by omega) (by omega)]
    obtain ⟨d1, hd1⟩ : ∃ y, y = Go.Sort.swp d a pivot := ⟨_, rfl⟩
    rw [← hd1]
    have hsd1 : d1.size = n := by rw [hd1, swp_size]; omega
    refine C_seq ?_
    refine C_region ?_
    refine L_y rfl (y_move rfl) rfl ?_
    refine L_y rfl (y_add rfl rfl (show _ = ((a + 1 : Nat) : Int) from by rw [wi64 (by omega) (by omega)]; omega)) rfl ?_
    refine L_y rfl (y_move rfl) rfl ?_
    refine L_y rfl (y_sub rfl rfl (show _ = ((b - 1 : Nat) : Int) from by rw [wi64 (by omega) (by omega)]; omega)) rfl ?_
    refine L_y rfl (y_assign rfl) rfl ?_
    refine L_y rfl (y_assign rfl) rfl ?_
    refine L_nil ?_
    refine C_seq ?_
    refine C_block ?_
    refine C_loop (ι := Array Nat × Nat × Nat) (fun x => [(0, (.slice (some ⟨sb, 0, none⟩) n cap)), (1, .int .i64 ((a : Nat) : Int)), (2, .int .i64 ((b : Nat) : Int)), (9, .int .i64 ((x.2.1 : Nat) : Int)), (10, .int .i64 ((x.2.2 : Nat) : Int))]) (fun x => useg 48 sb x.1 sp :: H) (fun x => x.1.size = n ∧ a < x.2.1 ∧ x.2.1 ≤ b ∧ x.2.2 < b ∧ Go.Sort.partEqLoop ltN a x.2.1 x.2.2 x.1 = Go.Sort.partitionEqual ltN d a b pivot) (fun x => x.2.2 + 1 - x.2.1) (d1, a + 1, b - 1) ⟨hsd1, by simp only; omega, by simp only; omega, by simp only; omega, (pq_eq hd1).symm⟩ ⟨rfl, rfl, rfl, rfl, rfl, trivial⟩ ((hsub (.cons_cons _ (.refl _))).trans (hsub_pick [0] rfl)) (fun x hx => ?_)
    obtain ⟨d3, u, v⟩ := x
    obtain ⟨hs3, hu1, hu2, hv1, hr3⟩ := hx
    try simp only at hs3 hu1 hu2 hv1 hr3
    try dsimp only
    refine C_block ?_
    refine C_cutG (ι := Nat) (fun t => a < t ∧ t ≤ b ∧ u ≤ t ∧ Go.Sort.scanUp (upE a d3) d3 v u = t) (fun t => [(0, (.slice (some ⟨sb, 0, none⟩) n cap)), (1, .int .i64 ((a : Nat) : Int)), (2, .int .i64 ((b : Nat) : Int)), (9, .int .i64 ((t : Nat) : Int)), (10, .int .i64 ((v : Nat) : Int))]) (fun t => useg 48 sb d3 sp :: H) ?_ (fun t ht => ?_)
    · refine C_block ?_
      refine C_loop (ι := Nat) (fun t => [(0, (.slice (some ⟨sb, 0, none⟩) n cap)), (1, .int .i64 ((a : Nat) : Int)), (2, .int .i64 ((b : Nat) : Int)), (9, .int .i64 ((t : Nat) : Int)), (10, .int .i64 ((v : Nat) : Int))]) (fun t => useg 48 sb d3 sp :: H) (fun t => a < t ∧ t ≤ b ∧ u ≤ t ∧ Go.Sort.scanUp (upE a d3) d3 v t = Go.Sort.scanUp (upE a d3) d3 v u) (fun t => v + 1 - t) u (by refine ⟨by omega, by omega, by omega, rfl⟩ <;> omega) ⟨rfl, rfl, rfl, rfl, rfl, trivial⟩ ((hsub (.cons_cons _ (.refl _))).trans (hsub_pick [0] rfl)) (fun t ht => ?_)
      obtain ⟨ht1, ht2, ht3, hts⟩ := ht
      refine C_seq ?_
      refine C_seq ?_
      refine C_regionH0 (by kernel_rfl) ?_
      refine H_y 0 rfl (by kernel_rfl) (by kernel_rfl) (by kernel_rfl) (HSub.refl _) rfl (y_move rfl) rfl ?_
      refine H_y 1 rfl (by kernel_rfl) (by kernel_rfl) (by kernel_rfl) (HSub.refl _) rfl (y_move rfl) rfl ?_
      refine H_y 2 rfl (by kernel_rfl) (by kernel_rfl) (by kernel_rfl) (HSub.refl _) rfl (y_leq rfl rfl) rfl ?_
      refine H_y 3 rfl (by kernel_rfl) (by kernel_rfl) (by kernel_rfl) (HSub.refl _) rfl (y_move rfl) rfl ?_
      refine H_case 32 rfl (fun hg3_4 => ?_) (fun hg3_4 => ?_)
      · have hle : t ≤ v := by have := of_decide_eq_true hg3_4; omega
        refine H_y 4 rfl (by kernel_rfl) (by kernel_rfl) (by kernel_rfl) (HSub.refl _) rfl (y_move rfl) rfl ?_
        refine H_y 5 rfl (by kernel_rfl) (by kernel_rfl) (by kernel_rfl) (HSub.refl _) rfl (y_move rfl) rfl ?_
        refine H_y 6 rfl (by kernel_rfl) (by kernel_rfl) (by kernel_rfl) (HSub.refl _) rfl (y_indexS rfl rfl Try.underlying33 sz_48 (by omega) (by omega) (ix0 (a))) rfl ?_
        refine H_y 7 rfl (by kernel_rfl) (by kernel_rfl) (by kernel_rfl) (HSub.refl _) rfl (y_load rfl ag_48 (sees 0 0 rfl) (us_at (by omega))) rfl ?_
        refine H_y 8 rfl (by kernel_rfl) (by kernel_rfl) (by kernel_rfl) (HSub.refl _) rfl (y_move rfl) rfl ?_
        refine H_y 9 rfl (by kernel_rfl) (by kernel_rfl) (by kernel_rfl) (HSub.refl _) rfl (y_move rfl) rfl ?_
        refine H_y 10 rfl (by kernel_rfl) (by kernel_rfl) (by kernel_rfl) (HSub.refl _) rfl (y_indexS rfl rfl Try.underlying33 sz_48 (by omega) (by omega) (ix0 (t))) rfl ?_
        refine H_y 11 rfl (by kernel_rfl) (by kernel_rfl) (by kernel_rfl) (HSub.refl _) rfl (y_load rfl ag_48 (sees 0 0 rfl) (us_at (by omega))) rfl ?_
        refine H_one 12 rfl (by kernel_rfl) rfl (op_call rfl rfl (fun a w => Try.call89 a w) rfl ?_)
        refine (less_u (d3[a]!) (d3[t]!)).mono ?_
        rintro _ _ ⟨rfl, e⟩
        obtain rfl := e.symm
        clear e
        refine ⟨_, rfl, ?_⟩
        refine ⟨HSub.refl _, ?_⟩
        refine H_y 13 rfl (by kernel_rfl) (by kernel_rfl) (by kernel_rfl) (HSub.refl _) rfl (y_not rfl) rfl ?_
        refine H_y 14 rfl (by kernel_rfl) (by kernel_rfl) (by kernel_rfl) (HSub.refl _) rfl (y_pick_t rfl rfl) rfl ?_
        refine H_done (by kernel_rfl) ?_
        refine C_cond rfl (fun hc0 => ?_) (fun hc0 => ?_)
        · have hpt : (upE a d3) d3[t]! = true := hc0
          refine C_skip ?_
          refine C_block ?_
          refine C_region ?_
          refine L_y rfl (y_move rfl) rfl ?_
          refine L_y rfl (y_add rfl rfl (show _ = ((t + 1 : Nat) : Int) from by rw [wi64 (by omega) (by omega)]; omega)) rfl ?_
          refine L_y rfl (y_assign rfl) rfl ?_
          refine L_nil ?_
          exact ⟨t + 1, ⟨by omega, by omega, by omega, by rw [← hts, su_go hle hpt]⟩, by omega, ⟨rfl, rfl, rfl, rfl, rfl, trivial⟩, ((hsub (.cons_cons _ (.refl _))).trans (hsub_pick [0] rfl))⟩
        · have hfin := hts.symm.trans (su_stop (p := (upE a d3)) (d := d3) (.inr hc0))
          refine C_exit ?_
          exact ⟨t, ⟨ht1, ht2, ht3, hfin⟩, ⟨rfl, rfl, rfl, rfl, rfl, trivial⟩, ((hsub (.cons_cons _ (.refl _))).trans (hsub_pick [0] rfl))⟩
      · have hle : ¬ t ≤ v := by have := of_decide_eq_false hg3_4; omega
        have hfin := hts.symm.trans (su_stop (p := (upE a d3)) (d := d3) (.inl hle))
        refine H_skip 4 rfl (by kernel_rfl) (by kernel_rfl) (by kernel_rfl) (HSub.refl _) rfl rfl ?_
        refine H_skip 5 rfl (by kernel_rfl) (by kernel_rfl) (by kernel_rfl) (HSub.refl _) rfl rfl ?_
        refine H_skip 6 rfl (by kernel_rfl) (by kernel_rfl) (by kernel_rfl) (HSub.refl _) rfl rfl ?_
        refine H_skip 7 rfl (by kernel_rfl) (by kernel_rfl) (by kernel_rfl) (HSub.refl _) rfl rfl ?_
        refine H_skip 8 rfl (by kernel_rfl) (by kernel_rfl) (by kernel_rfl) (HSub.refl _) rfl rfl ?_
        refine H_skip 9 rfl (by kernel_rfl) (by kernel_rfl) (by kernel_rfl) (HSub.refl _) rfl rfl ?_
        refine H_skip 10 rfl (by kernel_rfl) (by kernel_rfl) (by kernel_rfl) (HSub.refl _) rfl rfl ?_
        refine H_skip 11 rfl (by kernel_rfl) (by kernel_rfl) (by kernel_rfl) (HSub.refl _) rfl rfl ?_
        refine H_skip 12 rfl (by kernel_rfl) (by kernel_rfl) (by kernel_rfl) (HSub.refl _) rfl rfl ?_
        refine H_skip 13 rfl (by kernel_rfl) (by kernel_rfl) (by kernel_rfl) (HSub.refl _) rfl rfl ?_
        refine H_y 14 rfl (by kernel_rfl) (by kernel_rfl) (by kernel_rfl) (HSub.refl _) rfl (y_pick_f rfl rfl) rfl ?_
        refine H_done (by kernel_rfl) ?_
        refine C_cond_f rfl ?_
        refine C_exit ?_
        exact ⟨t, ⟨ht1, ht2, ht3, hfin⟩, ⟨rfl, rfl, rfl, rfl, rfl, trivial⟩, ((hsub (.cons_cons _ (.refl _))).trans (hsub_pick [0] rfl))⟩
    · rename Nat => u2
      obtain ⟨qu20, qu21, qu22, hu2⟩ := ht
      refine C_cutG (ι := Nat) (fun t => t < b ∧ t ≤ v ∧ Go.Sort.scanDown (dnE a d3) d3 u2 v = t) (fun t => [(0, (.slice (some ⟨sb, 0, none⟩) n cap)), (1, .int .i64 ((a : Nat) : Int)), (2, .int .i64 ((b : Nat) : Int)), (9, .int .i64 ((u2 : Nat) : Int)), (10, .int .i64 ((t : Nat) : Int))]) (fun t => useg 48 sb d3 sp :: H) ?_ (fun t ht => ?_)
      · refine C_block ?_
        refine C_loop (ι := Nat) (fun t => [(0, (.slice (some ⟨sb, 0, none⟩) n cap)), (1, .int .i64 ((a : Nat) : Int)), (2, .int .i64 ((b : Nat) : Int)), (9, .int .i64 ((u2 : Nat) : Int)), (10, .int .i64 ((t : Nat) : Int))]) (fun t => useg 48 sb d3 sp :: H) (fun t => t < b ∧ t ≤ v ∧ Go.Sort.scanDown (dnE a d3) d3 u2 t = Go.Sort.scanDown (dnE a d3) d3 u2 v) (fun t => t) v (by refine ⟨by omega, by omega, rfl⟩ <;> omega) ⟨rfl, rfl, rfl, rfl, rfl, trivial⟩ ((hsub (.cons_cons _ (.refl _))).trans (hsub_pick [0] rfl)) (fun t ht => ?_)
        obtain ⟨ht1, ht2, hts⟩ := ht
        refine C_seq ?_
        refine C_seq ?_
        refine C_regionH0 (by kernel_rfl) ?_
        refine H_y 0 rfl (by kernel_rfl) (by kernel_rfl) (by kernel_rfl) (HSub.refl _) rfl (y_move rfl) rfl ?_
        refine H_y 1 rfl (by kernel_rfl) (by kernel_rfl) (by kernel_rfl) (HSub.refl _) rfl (y_move rfl) rfl ?_
        refine H_y 2 rfl (by kernel_rfl) (by kernel_rfl) (by kernel_rfl) (HSub.refl _) rfl (y_leq rfl rfl) rfl ?_
        refine H_y 3 rfl (by kernel_rfl) (by kernel_rfl) (by kernel_rfl) (HSub.refl _) rfl (y_move rfl) rfl ?_
        refine H_case 49 rfl (fun hg5_4 => ?_) (fun hg5_4 => ?_)
        · have hle : u2 ≤ t := by have := of_decide_eq_true hg5_4; omega
          refine H_y 4 rfl (by kernel_rfl) (by kernel_rfl) (by kernel_rfl) (HSub.refl _) rfl (y_move rfl) rfl ?_
          refine H_y 5 rfl (by kernel_rfl) (by kernel_rfl) (by kernel_rfl) (HSub.refl _) rfl (y_move rfl) rfl ?_
          refine H_y 6 rfl (by kernel_rfl) (by kernel_rfl) (by kernel_rfl) (HSub.refl _) rfl (y_indexS rfl rfl Try.underlying33 sz_48 (by omega) (by omega) (ix0 (a))) rfl ?_
          refine H_y 7 rfl (by kernel_rfl) (by kernel_rfl) (by kernel_rfl) (HSub.refl _) rfl (y_load rfl ag_48 (sees 0 0 rfl) (us_at (by omega))) rfl ?_
          refine H_y 8 rfl (by kernel_rfl) (by kernel_rfl) (by kernel_rfl) (HSub.refl _) rfl (y_move rfl) rfl ?_
          refine H_y 9 rfl (by kernel_rfl) (by kernel_rfl) (by kernel_rfl) (HSub.refl _) rfl (y_move rfl) rfl ?_
          refine H_y 10 rfl (by kernel_rfl) (by kernel_rfl) (by kernel_rfl) (HSub.refl _) rfl (y_indexS rfl rfl Try.underlying33 sz_48 (by omega) (by omega) (ix0 (t))) rfl ?_
          refine H_y 11 rfl (by kernel_rfl) (by kernel_rfl) (by kernel_rfl) (HSub.refl _) rfl (y_load rfl ag_48 (sees 0 0 rfl) (us_at (by omega))) rfl ?_
          refine H_one 12 rfl (by kernel_rfl) rfl (op_call rfl rfl (fun a w => Try.call89 a w) rfl ?_)
          refine (less_u (d3[a]!) (d3[t]!)).mono ?_
          rintro _ _ ⟨rfl, e⟩
          obtain rfl := e.symm
          clear e
          refine ⟨_, rfl, ?_⟩
          refine ⟨HSub.refl _, ?_⟩
          refine H_y 13 rfl (by kernel_rfl) (by kernel_rfl) (by kernel_rfl) (HSub.refl _) rfl (y_pick_t rfl rfl) rfl ?_
          refine H_done (by kernel_rfl) ?_
          refine C_cond rfl (fun hc1 => ?_) (fun hc1 => ?_)
          · have hpt : (dnE a d3) d3[t]! = true := hc1
            refine C_skip ?_
            refine C_block ?_
            refine C_region ?_
            refine L_y rfl (y_move rfl) rfl ?_
            refine L_y rfl (y_sub rfl rfl (show _ = ((t - 1 : Nat) : Int) from by rw [wi64 (by omega) (by omega)]; omega)) rfl ?_
            refine L_y rfl (y_assign rfl) rfl ?_
            refine L_nil ?_
            exact ⟨t - 1, ⟨by omega, by omega, by rw [← hts, sn_go hle (by omega) hpt]⟩, by omega, ⟨rfl, rfl, rfl, rfl, rfl, trivial⟩, ((hsub (.cons_cons _ (.refl _))).trans (hsub_pick [0] rfl))⟩
          · have hfin := hts.symm.trans (sn_stop (p := (dnE a d3)) (d := d3) (.inr hc1))
            refine C_exit ?_
            exact ⟨t, ⟨ht1, ht2, hfin⟩, ⟨rfl, rfl, rfl, rfl, rfl, trivial⟩, ((hsub (.cons_cons _ (.refl _))).trans (hsub_pick [0] rfl))⟩
        · have hle : ¬ u2 ≤ t := by have := of_decide_eq_false hg5_4; omega
          have hfin := hts.symm.trans (sn_stop (p := (dnE a d3)) (d := d3) (.inl hle))
          refine H_skip 4 rfl (by kernel_rfl) (by kernel_rfl) (by kernel_rfl) (HSub.refl _) rfl rfl ?_
          refine H_skip 5 rfl (by kernel_rfl) (by kernel_rfl) (by kernel_rfl) (HSub.refl _) rfl rfl ?_
          refine H_skip 6 rfl (by kernel_rfl) (by kernel_rfl) (by kernel_rfl) (HSub.refl _) rfl rfl ?_
          refine H_skip 7 rfl (by kernel_rfl) (by kernel_rfl) (by kernel_rfl) (HSub.refl _) rfl rfl ?_
          refine H_skip 8 rfl (by kernel_rfl) (by kernel_rfl) (by kernel_rfl) (HSub.refl _) rfl rfl ?_
          refine H_skip 9 rfl (by kernel_rfl) (by kernel_rfl) (by kernel_rfl) (HSub.refl _) rfl rfl ?_
          refine H_skip 10 rfl (by kernel_rfl) (by kernel_rfl) (by kernel_rfl) (HSub.refl _) rfl rfl ?_
          refine H_skip 11 rfl (by kernel_rfl) (by kernel_rfl) (by kernel_rfl) (HSub.refl _) rfl rfl ?_
          refine H_skip 12 rfl (by kernel_rfl) (by kernel_rfl) (by kernel_rfl) (HSub.refl _) rfl rfl ?_
          refine H_y 13 rfl (by kernel_rfl) (by kernel_rfl) (by kernel_rfl) (HSub.refl _) rfl (y_pick_f rfl rfl) rfl ?_
          refine H_done (by kernel_rfl) ?_
          refine C_cond_f rfl ?_
          refine C_exit ?_
          exact ⟨t, ⟨ht1, ht2, hfin⟩, ⟨rfl, rfl, rfl, rfl, rfl, trivial⟩, ((hsub (.cons_cons _ (.refl _))).trans (hsub_pick [0] rfl))⟩
      · rename Nat => v2
        obtain ⟨qv20, qv21, hv2⟩ := ht
        refine C_seq ?_
        refine C_seq ?_
        refine C_region ?_
        refine L_y rfl (y_move rfl) rfl ?_
        refine L_y rfl (y_move rfl) rfl ?_
        refine L_y rfl (y_gtr rfl rfl) rfl ?_
        refine L_nil ?_
        refine C_cond rfl (fun hc2 => ?_) (fun hc2 => ?_)
        · replace hc2 : v2 < u2 := by have := of_decide_eq_true hc2; omega
          refine C_exit ?_
          refine C_seq ?_
          refine C_region ?_
          refine L_y rfl (y_move rfl) rfl ?_
          refine L_y rfl (y_assign rfl) rfl ?_
          refine L_nil ?_
          refine C_ret ?_
          refine B_ret (rv_tmp rfl rv_nil) ((hsub (.cons_cons _ (.refl _))).trans (hsub_pick [0] rfl)) ?_
          rw [← hr3, pe_stop hu2 hv2 hc2]
          exact ⟨rfl, rfl⟩
        · replace hc2 : ¬ v2 < u2 := by have := of_decide_eq_false hc2; omega
          refine C_skip ?_
          refine C_seq ?_
          refine C_regionH H (by kernel_rfl) ?_
          refine H_y 0 rfl (by kernel_rfl) (by kernel_rfl) (by kernel_rfl) ((hsub (.cons _ (.refl _)))) rfl (y_move rfl) rfl ?_
          refine H_y 1 rfl (by kernel_rfl) (by kernel_rfl) (by kernel_rfl) ((hsub (.cons _ (.refl _)))) rfl (y_move rfl) rfl ?_
          refine H_y 2 rfl (by kernel_rfl) (by kernel_rfl) (by kernel_rfl) ((hsub (.cons _ (.refl _)))) rfl (y_move rfl) rfl ?_
          refine H_y 3 rfl (by kernel_rfl) (by kernel_rfl) (by kernel_rfl) ((hsub (.cons _ (.refl _)))) rfl (y_move rfl) rfl ?_
          refine H_y 4 rfl (by kernel_rfl) (by kernel_rfl) (by kernel_rfl) ((hsub (.cons _ (.refl _)))) rfl (y_move rfl) rfl ?_
          refine H_y 5 rfl (by kernel_rfl) (by kernel_rfl) (by kernel_rfl) ((hsub (.cons _ (.refl _)))) rfl (y_move rfl) rfl ?_
          refine H_y 6 rfl (by kernel_rfl) (by kernel_rfl) (by kernel_rfl) ((hsub (.cons _ (.refl _)))) rfl (y_indexS rfl rfl Try.underlying33 sz_48 (by omega) (by omega) (ix0 (v2))) rfl ?_
          refine H_y 8 rfl (by kernel_rfl) (by kernel_rfl) (by kernel_rfl) ((hsub (.cons _ (.refl _)))) rfl (y_move rfl) rfl ?_
          refine H_y 9 rfl (by kernel_rfl) (by kernel_rfl) (by kernel_rfl) ((hsub (.cons _ (.refl _)))) rfl (y_move rfl) rfl ?_
          refine H_y 10 rfl (by kernel_rfl) (by kernel_rfl) (by kernel_rfl) ((hsub (.cons _ (.refl _)))) rfl (y_indexS rfl rfl Try.underlying33 sz_48 (by omega) (by omega) (ix0 (u2))) rfl ?_
          refine H_two 7 11 rfl rfl (by kernel_rfl) rfl rfl ?_ ?_
          · refine op_y (y_load rfl ag_48 (sees 0 0 rfl) (us_at (by omega))) rfl ?_
            refine ⟨(hsub (.cons _ (.refl _))), ?_⟩
            refine H_one 11 rfl (by kernel_rfl) rfl (op_y (y_load rfl ag_48 (sees 0 0 rfl) (us_at (by omega))) rfl ?_)
            refine ⟨(hsub (.cons _ (.refl _))), ?_⟩
            refine H_y 12 rfl (by kernel_rfl) (by kernel_rfl) (by kernel_rfl) ((hsub (.cons _ (.refl _)))) rfl (y_indexS rfl rfl Try.underlying33 sz_48 (by omega) (by omega) (ix0 (u2))) rfl ?_
            refine H_one 13 rfl (by kernel_rfl) rfl (op_store1 0 0 rfl rfl rfl sz_48 rfl (us_lt (by omega)) ?_)
            refine ⟨(hsub (.cons _ (.refl _))), ?_⟩
            refine H_y 14 rfl (by kernel_rfl) (by kernel_rfl) (by kernel_rfl) ((hsub (.cons _ (.refl _)))) rfl (y_indexS rfl rfl Try.underlying33 sz_48 (by omega) (by omega) (ix0 (v2))) rfl ?_
            refine H_one 15 rfl (by kernel_rfl) rfl (op_store1 0 0 rfl rfl rfl sz_48 rfl (by rw [List.length_set]; exact us_lt (by omega)) ?_)
            refine ⟨(hsub (.cons _ (.refl _))), ?_⟩
            refine H_done (by kernel_rfl) ?_
            rw [us_swp (by omega) (by omega)]
            refine C_seq ?_
            refine C_region ?_
            refine L_y rfl (y_move rfl) rfl ?_
            refine L_y rfl (y_add rfl rfl (show _ = ((u2 + 1 : Nat) : Int) from by rw [wi64 (by omega) (by omega)]; omega)) rfl ?_
            refine L_y rfl (y_assign rfl) rfl ?_
            refine L_nil ?_
            refine C_region ?_
            refine L_y rfl (y_move rfl) rfl ?_
            refine L_y rfl (y_sub rfl rfl (show _ = ((v2 - 1 : Nat) : Int) from by rw [wi64 (by omega) (by omega)]; omega)) rfl ?_
            refine L_y rfl (y_assign rfl) rfl ?_
            refine L_nil ?_
            exact ⟨(Go.Sort.swp d3 u2 v2, u2 + 1, v2 - 1), ⟨by simp only; rw [swp_size]; exact hs3, by simp only; omega, by simp only; omega, by simp only; omega, by simp only; rw [← hr3, pe_go hu2 hv2 hc2]⟩, by simp only; omega, ⟨rfl, rfl, rfl, rfl, rfl, trivial⟩, ((hsub (.cons_cons _ (.refl _))).trans (hsub_pick [0] rfl))⟩
          · refine op_y (y_load rfl ag_48 (sees 0 0 rfl) (us_at (by omega))) rfl ?_
            refine ⟨(hsub (.cons _ (.refl _))), ?_⟩
            refine H_one 7 rfl (by kernel_rfl) rfl (op_y (y_load rfl ag_48 (sees 0 0 rfl) (us_at (by omega))) rfl ?_)
            refine ⟨(hsub (.cons _ (.refl _))), ?_⟩
            refine H_y 12 rfl (by kernel_rfl) (by kernel_rfl) (by kernel_rfl) ((hsub (.cons _ (.refl _)))) rfl (y_indexS rfl rfl Try.underlying33 sz_48 (by omega) (by omega) (ix0 (u2))) rfl ?_
            refine H_one 13 rfl (by kernel_rfl) rfl (op_store1 0 0 rfl rfl rfl sz_48 rfl (us_lt (by omega)) ?_)
            refine ⟨(hsub (.cons _ (.refl _))), ?_⟩
            refine H_y 14 rfl (by kernel_rfl) (by kernel_rfl) (by kernel_rfl) ((hsub (.cons _ (.refl _)))) rfl (y_indexS rfl rfl Try.underlying33 sz_48 (by omega) (by omega) (ix0 (v2))) rfl ?_
            refine H_one 15 rfl (by kernel_rfl) rfl (op_store1 0 0 rfl rfl rfl sz_48 rfl (by rw [List.length_set]; exact us_lt (by omega)) ?_)
            refine ⟨(hsub (.cons _ (.refl _))), ?_⟩
            refine H_done (by kernel_rfl) ?_
            rw [us_swp (by omega) (by omega)]
            refine C_seq ?_
            refine C_region ?_
            refine L_y rfl (y_move rfl) rfl ?_
            refine L_y rfl (y_add rfl rfl (show _ = ((u2 + 1 : Nat) : Int) from by rw [wi64 (by omega) (by omega)]; omega)) rfl ?_
            refine L_y rfl (y_assign rfl) rfl ?_
            refine L_nil ?_
            refine C_region ?_
            refine L_y rfl (y_move rfl) rfl ?_
            refine L_y rfl (y_sub rfl rfl (show _ = ((v2 - 1 : Nat) : Int) from by rw [wi64 (by omega) (by omega)]; omega)) rfl ?_
            refine L_y rfl (y_assign rfl) rfl ?_
            refine L_nil ?_
            exact ⟨(Go.Sort.swp d3 u2 v2, u2 + 1, v2 - 1), ⟨by simp only; rw [swp_size]; exact hs3, by simp only; omega, by simp only; omega, by simp only; omega, by simp only; rw [← hr3, pe_go hu2 hv2 hc2]⟩, by simp only; omega, ⟨rfl, rfl, rfl, rfl, rfl, trivial⟩, ((hsub (.cons_cons _ (.refl _))).trans (hsub_pick [0] rfl))⟩
  · refine op_y (y_load rfl ag_48 (sees 0 0 rfl) (us_at (by omega))) rfl ?_
    refine ⟨(hsub (.cons _ (.refl _))), ?_⟩
    refine H_one 7 rfl (by kernel_rfl) rfl (op_y (y_load rfl ag_48 (sees 0 0 rfl) (us_at (by omega))) rfl ?_)
    refine ⟨(hsub (.cons _ (.refl _))), ?_⟩
    refine H_y 12 rfl (by kernel_rfl) (by kernel_rfl) (by kernel_rfl) ((hsub (.cons _ (.refl _)))) rfl (y_indexS rfl rfl Try.underlying33 sz_48 (by omega) (by omega) (ix0 (a))) rfl ?_
    refine H_one 13 rfl (by kernel_rfl) rfl (op_store1 0 0 rfl rfl rfl sz_48 rfl (us_lt (by omega)) ?_)
    refine ⟨(hsub (.cons _ (.refl _))), ?_⟩
    refine H_y 14 rfl (by kernel_rfl) (by kernel_rfl) (by kernel_rfl) ((hsub (.cons _ (.refl _)))) rfl (y_indexS rfl rfl Try.underlying33 sz_48 (by omega) (by omega) (ix0 (pivot))) rfl ?_
    refine H_one 15 rfl (by kernel_rfl) rfl (op_store1 0 0 rfl rfl rfl sz_48 rfl (by rw [List.length_set]; exact us_lt (by omega)) ?_)
    refine ⟨(hsub (.cons _ (.refl _))), ?_⟩
    refine H_done (by kernel_rfl) ?_
    rw [us_swp (by omega) (by omega)]
    obtain ⟨d1, hd1⟩ : ∃ y, y = Go.Sort.swp d a pivot := ⟨_, rfl⟩
    rw [← hd1]
    have hsd1 : d1.size = n := by rw [hd1, swp_size]; omega
    refine C_seq ?_
    refine C_region ?_
    refine L_y rfl (y_move rfl) rfl ?_
    refine L_y rfl (y_add rfl rfl (show _ = ((a + 1 : Nat) : Int) from by rw [wi64 (by omega) (by omega)]; omega)) rfl ?_
    refine L_y rfl (y_move rfl) rfl ?_
    refine L_y rfl (y_sub rfl rfl (show _ = ((b - 1 : Nat) : Int) from by rw [wi64 (by omega) (by omega)]; omega)) rfl ?_
    refine L_y rfl (y_assign rfl) rfl ?_
    refine L_y rfl (y_assign rfl) rfl ?_
    refine L_nil ?_
    refine C_seq ?_
    refine C_block ?_
    refine C_loop (ι := Array Nat × Nat × Nat) (fun x => [(0, (.slice (some ⟨sb, 0, none⟩) n cap)), (1, .int .i64 ((a : Nat) : Int)), (2, .int .i64 ((b : Nat) : Int)), (9, .int .i64 ((x.2.1 : Nat) : Int)), (10, .int .i64 ((x.2.2 : Nat) : Int))]) (fun x => useg 48 sb x.1 sp :: H) (fun x => x.1.size = n ∧ a < x.2.1 ∧ x.2.1 ≤ b ∧ x.2.2 < b ∧ Go.Sort.partEqLoop ltN a x.2.1 x.2.2 x.1 = Go.Sort.partitionEqual ltN d a b pivot) (fun x => x.2.2 + 1 - x.2.1) (d1, a + 1, b - 1) ⟨hsd1, by simp only; omega, by simp only; omega, by simp only; omega, (pq_eq hd1).symm⟩ ⟨rfl, rfl, rfl, rfl, rfl, trivial⟩ ((hsub (.cons_cons _ (.refl _))).trans (hsub_pick [0] rfl)) (fun x hx => ?_)
    obtain ⟨d3, u, v⟩ := x
    obtain ⟨hs3, hu1, hu2, hv1, hr3⟩ := hx
    try simp only at hs3 hu1 hu2 hv1 hr3
    try dsimp only
    refine C_block ?_
    refine C_cutG (ι := Nat) (fun t => a < t ∧ t ≤ b ∧ u ≤ t ∧ Go.Sort.scanUp (upE a d3) d3 v u = t) (fun t => [(0, (.slice (some ⟨sb, 0, none⟩) n cap)), (1, .int .i64 ((a : Nat) : Int)), (2, .int .i64 ((b : Nat) : Int)), (9, .int .i64 ((t : Nat) : Int)), (10, .int .i64 ((v : Nat) : Int))]) (fun t => useg 48 sb d3 sp :: H) ?_ (fun t ht => ?_)
    · refine C_block ?_
      refine C_loop (ι := Nat) (fun t => [(0, (.slice (some ⟨sb, 0, none⟩) n cap)), (1, .int .i64 ((a : Nat) : Int)), (2, .int .i64 ((b : Nat) : Int)), (9, .int .i64 ((t : Nat) : Int)), (10, .int .i64 ((v : Nat) : Int))]) (fun t => useg 48 sb d3 sp :: H) (fun t => a < t ∧ t ≤ b ∧ u ≤ t ∧ Go.Sort.scanUp (upE a d3) d3 v t = Go.Sort.scanUp (upE a d3) d3 v u) (fun t => v + 1 - t) u (by refine ⟨by omega, by omega, by omega, rfl⟩ <;> omega) ⟨rfl, rfl, rfl, rfl, rfl, trivial⟩ ((hsub (.cons_cons _ (.refl _))).trans (hsub_pick [0] rfl)) (fun t ht => ?_)
      obtain ⟨ht1, ht2, ht3, hts⟩ := ht
      refine C_seq ?_
      refine C_seq ?_
      refine C_regionH0 (by kernel_rfl) ?_
      refine H_y 0 rfl (by kernel_rfl) (by kernel_rfl) (by kernel_rfl) (HSub.refl _) rfl (y_move rfl) rfl ?_
      refine H_y 1 rfl (by kernel_rfl) (by kernel_rfl) (by kernel_rfl) (HSub.refl _) rfl (y_move rfl) rfl ?_
      refine H_y 2 rfl (by kernel_rfl) (by kernel_rfl) (by kernel_rfl) (HSub.refl _) rfl (y_leq rfl rfl) rfl ?_
      refine H_y 3 rfl (by kernel_rfl) (by kernel_rfl) (by kernel_rfl) (HSub.refl _) rfl (y_move rfl) rfl ?_
      refine H_case 32 rfl (fun hg3_4 => ?_) (fun hg3_4 => ?_)
      · have hle : t ≤ v := by have := of_decide_eq_true hg3_4; omega
        refine H_y 4 rfl (by kernel_rfl) (by kernel_rfl) (by kernel_rfl) (HSub.refl _) rfl (y_move rfl) rfl ?_
        refine H_y 5 rfl (by kernel_rfl) (by kernel_rfl) (by kernel_rfl) (HSub.refl _) rfl (y_move rfl) rfl ?_
        refine H_y 6 rfl (by kernel_rfl) (by kernel_rfl) (by kernel_rfl) (HSub.refl _) rfl (y_indexS rfl rfl Try.underlying33 sz_48 (by omega) (by omega) (ix0 (a))) rfl ?_
        refine H_y 7 rfl (by kernel_rfl) (by kernel_rfl) (by kernel_rfl) (HSub.refl _) rfl (y_load rfl ag_48 (sees 0 0 rfl) (us_at (by omega))) rfl ?_
        refine H_y 8 rfl (by kernel_rfl) (by kernel_rfl) (by kernel_rfl) (HSub.refl _) rfl (y_move rfl) rfl ?_
        refine H_y 9 rfl (by kernel_rfl) (by kernel_rfl) (by kernel_rfl) (HSub.refl _) rfl (y_move rfl) rfl ?_
        refine H_y 10 rfl (by kernel_rfl) (by kernel_rfl) (by kernel_rfl) (HSub.refl _) rfl (y_indexS rfl rfl Try.underlying33 sz_48 (by omega) (by omega) (ix0 (t))) rfl ?_
        refine H_y 11 rfl (by kernel_rfl) (by kernel_rfl) (by kernel_rfl) (HSub.refl _) rfl (y_load rfl ag_48 (sees 0 0 rfl) (us_at (by omega))) rfl ?_
        refine H_one 12 rfl (by kernel_rfl) rfl (op_call rfl rfl (fun a w => Try.call89 a w) rfl ?_)
        refine (less_u (d3[a]!) (d3[t]!)).mono ?_
        rintro _ _ ⟨rfl, e⟩
        obtain rfl := e.symm
        clear e
        refine ⟨_, rfl, ?_⟩
        refine ⟨HSub.refl _, ?_⟩
        refine H_y 13 rfl (by kernel_rfl) (by kernel_rfl) (by kernel_rfl) (HSub.refl _) rfl (y_not rfl) rfl ?_
        refine H_y 14 rfl (by kernel_rfl) (by kernel_rfl) (by kernel_rfl) (HSub.refl _) rfl (y_pick_t rfl rfl) rfl ?_
        refine H_done (by kernel_rfl) ?_
        refine C_cond rfl (fun hc0 => ?_) (fun hc0 => ?_)
        · have hpt : (upE a d3) d3[t]! = true := hc0
          refine C_skip ?_
          refine C_block ?_
          refine C_region ?_
          refine L_y rfl (y_move rfl) rfl ?_
          refine L_y rfl (y_add rfl rfl (show _ = ((t + 1 : Nat) : Int) from by rw [wi64 (by omega) (by omega)]; omega)) rfl ?_
          refine L_y rfl (y_assign rfl) rfl ?_
          refine L_nil ?_
          exact ⟨t + 1, ⟨by omega, by omega, by omega, by rw [← hts, su_go hle hpt]⟩, by omega, ⟨rfl, rfl, rfl, rfl, rfl, trivial⟩, ((hsub (.cons_cons _ (.refl _))).trans (hsub_pick [0] rfl))⟩
        · have hfin := hts.symm.trans (su_stop (p := (upE a d3)) (d := d3) (.inr hc0))
          refine C_exit ?_
          exact ⟨t, ⟨ht1, ht2, ht3, hfin⟩, ⟨rfl, rfl, rfl, rfl, rfl, trivial⟩, ((hsub (.cons_cons _ (.refl _))).trans (hsub_pick [0] rfl))⟩
      · have hle : ¬ t ≤ v := by have := of_decide_eq_false hg3_4; omega
        have hfin := hts.symm.trans (su_stop (p := (upE a d3)) (d := d3) (.inl hle))
        refine H_skip 4 rfl (by kernel_rfl) (by kernel_rfl) (by kernel_rfl) (HSub.refl _) rfl rfl ?_
        refine H_skip 5 rfl (by kernel_rfl) (by kernel_rfl) (by kernel_rfl) (HSub.refl _) rfl rfl ?_
        refine H_skip 6 rfl (by kernel_rfl) (by kernel_rfl) (by kernel_rfl) (HSub.refl _) rfl rfl ?_
        refine H_skip 7 rfl (by kernel_rfl) (by kernel_rfl) (by kernel_rfl) (HSub.refl _) rfl rfl ?_
        refine H_skip 8 rfl (by kernel_rfl) (by kernel_rfl) (by kernel_rfl) (HSub.refl _) rfl rfl ?_
        refine H_skip 9 rfl (by kernel_rfl) (by kernel_rfl) (by kernel_rfl) (HSub.refl _) rfl rfl ?_
        refine H_skip 10 rfl (by kernel_rfl) (by kernel_rfl) (by kernel_rfl) (HSub.refl _) rfl rfl ?_
        refine H_skip 11 rfl (by kernel_rfl) (by kernel_rfl) (by kernel_rfl) (HSub.refl _) rfl rfl ?_
        refine H_skip 12 rfl (by kernel_rfl) (by kernel_rfl) (by kernel_rfl) (HSub.refl _) rfl rfl ?_
        refine H_skip 13 rfl (by kernel_rfl) (by kernel_rfl) (by kernel_rfl) (HSub.refl _) rfl rfl ?_
        refine H_y 14 rfl (by kernel_rfl) (by kernel_rfl) (by kernel_rfl) (HSub.refl _) rfl (y_pick_f rfl rfl) rfl ?_
        refine H_done (by kernel_rfl) ?_
        refine C_cond_f rfl ?_
        refine C_exit ?_
        exact ⟨t, ⟨ht1, ht2, ht3, hfin⟩, ⟨rfl, rfl, rfl, rfl, rfl, trivial⟩, ((hsub (.cons_cons _ (.refl _))).trans (hsub_pick [0] rfl))⟩
    · rename Nat => u2
      obtain ⟨qu20, qu21, qu22, hu2⟩ := ht
      refine C_cutG (ι := Nat) (fun t => t < b ∧ t ≤ v ∧ Go.Sort.scanDown (dnE a d3) d3 u2 v = t) (fun t => [(0, (.slice (some ⟨sb, 0, none⟩) n cap)), (1, .int .i64 ((a : Nat) : Int)), (2, .int .i64 ((b : Nat) : Int)), (9, .int .i64 ((u2 : Nat) : Int)), (10, .int .i64 ((t : Nat) : Int))]) (fun t => useg 48 sb d3 sp :: H) ?_ (fun t ht => ?_)
      · refine C_block ?_
        refine C_loop (ι := Nat) (fun t => [(0, (.slice (some ⟨sb, 0, none⟩) n cap)), (1, .int .i64 ((a : Nat) : Int)), (2, .int .i64 ((b : Nat) : Int)), (9, .int .i64 ((u2 : Nat) : Int)), (10, .int .i64 ((t : Nat) : Int))]) (fun t => useg 48 sb d3 sp :: H) (fun t => t < b ∧ t ≤ v ∧ Go.Sort.scanDown (dnE a d3) d3 u2 t = Go.Sort.scanDown (dnE a d3) d3 u2 v) (fun t => t) v (by refine ⟨by omega, by omega, rfl⟩ <;> omega) ⟨rfl, rfl, rfl, rfl, rfl, trivial⟩ ((hsub (.cons_cons _ (.refl _))).trans (hsub_pick [0] rfl)) (fun t ht => ?_)
        obtain ⟨ht1, ht2, hts⟩ := ht
        refine C_seq ?_
        refine C_seq ?_
        refine C_regionH0 (by kernel_rfl) ?_
        refine H_y 0 rfl (by kernel_rfl) (by kernel_rfl) (by kernel_rfl) (HSub.refl _) rfl (y_move rfl) rfl ?_
        refine H_y 1 rfl (by kernel_rfl) (by kernel_rfl) (by kernel_rfl) (HSub.refl _) rfl (y_move rfl) rfl ?_
        refine H_y 2 rfl (by kernel_rfl) (by kernel_rfl) (by kernel_rfl) (HSub.refl _) rfl (y_leq rfl rfl) rfl ?_
        refine H_y 3 rfl (by kernel_rfl) (by kernel_rfl) (by kernel_rfl) (HSub.refl _) rfl (y_move rfl) rfl ?_
        refine H_case 49 rfl (fun hg5_4 => ?_) (fun hg5_4 => ?_)
        · have hle : u2 ≤ t := by have := of_decide_eq_true hg5_4; omega
          refine H_y 4 rfl (by kernel_rfl) (by kernel_rfl) (by kernel_rfl) (HSub.refl _) rfl (y_move rfl) rfl ?_
          refine H_y 5 rfl (by kernel_rfl) (by kernel_rfl) (by kernel_rfl) (HSub.refl _) rfl (y_move rfl) rfl ?_
          refine H_y 6 rfl (by kernel_rfl) (by kernel_rfl) (by kernel_rfl) (HSub.refl _) rfl (y_indexS rfl rfl Try.underlying33 sz_48 (by omega) (by omega) (ix0 (a))) rfl ?_
          refine H_y 7 rfl (by kernel_rfl) (by kernel_rfl) (by kernel_rfl) (HSub.refl _) rfl (y_load rfl ag_48 (sees 0 0 rfl) (us_at (by omega))) rfl ?_
          refine H_y 8 rfl (by kernel_rfl) (by kernel_rfl) (by kernel_rfl) (HSub.refl _) rfl (y_move rfl) rfl ?_
          refine H_y 9 rfl (by kernel_rfl) (by kernel_rfl) (by kernel_rfl) (HSub.refl _) rfl (y_move rfl) rfl ?_
          refine H_y 10 rfl (by kernel_rfl) (by kernel_rfl) (by kernel_rfl) (HSub.refl _) rfl (y_indexS rfl rfl Try.underlying33 sz_48 (by omega) (by omega) (ix0 (t))) rfl ?_
          refine H_y 11 rfl (by kernel_rfl) (by kernel_rfl) (by kernel_rfl) (HSub.refl _) rfl (y_load rfl ag_48 (sees 0 0 rfl) (us_at (by omega))) rfl ?_
          refine H_one 12 rfl (by kernel_rfl) rfl (op_call rfl rfl (fun a w => Try.call89 a w) rfl ?_)
          refine (less_u (d3[a]!) (d3[t]!)).mono ?_
          rintro _ _ ⟨rfl, e⟩
          obtain rfl := e.symm
          clear e
          refine ⟨_, rfl, ?_⟩
          refine ⟨HSub.refl _, ?_⟩
          refine H_y 13 rfl (by kernel_rfl) (by kernel_rfl) (by kernel_rfl) (HSub.refl _) rfl (y_pick_t rfl rfl) rfl ?_
          refine H_done (by kernel_rfl) ?_
          refine C_cond rfl (fun hc1 => ?_) (fun hc1 => ?_)
          · have hpt : (dnE a d3) d3[t]! = true := hc1
            refine C_skip ?_
            refine C_block ?_
            refine C_region ?_
            refine L_y rfl (y_move rfl) rfl ?_
            refine L_y rfl (y_sub rfl rfl (show _ = ((t - 1 : Nat) : Int) from by rw [wi64 (by omega) (by omega)]; omega)) rfl ?_
            refine L_y rfl (y_assign rfl) rfl ?_
            refine L_nil ?_
            exact ⟨t - 1, ⟨by omega, by omega, by rw [← hts, sn_go hle (by omega) hpt]⟩, by omega, ⟨rfl, rfl, rfl, rfl, rfl, trivial⟩, ((hsub (.cons_cons _ (.refl _))).trans (hsub_pick [0] rfl))⟩
          · have hfin := hts.symm.trans (sn_stop (p := (dnE a d3)) (d := d3) (.inr hc1))
            refine C_exit ?_
            exact ⟨t, ⟨ht1, ht2, hfin⟩, ⟨rfl, rfl, rfl, rfl, rfl, trivial⟩, ((hsub (.cons_cons _ (.refl _))).trans (hsub_pick [0] rfl))⟩
        · have hle : ¬ u2 ≤ t := by have := of_decide_eq_false hg5_4; omega
          have hfin := hts.symm.trans (sn_stop (p := (dnE a d3)) (d := d3) (.inl hle))
          refine H_skip 4 rfl (by kernel_rfl) (by kernel_rfl) (by kernel_rfl) (HSub.refl _) rfl rfl ?_
          refine H_skip 5 rfl (by kernel_rfl) (by kernel_rfl) (by kernel_rfl) (HSub.refl _) rfl rfl ?_
          refine H_skip 6 rfl (by kernel_rfl) (by kernel_rfl) (by kernel_rfl) (HSub.refl _) rfl rfl ?_
          refine H_skip 7 rfl (by kernel_rfl) (by kernel_rfl) (by kernel_rfl) (HSub.refl _) rfl rfl ?_
          refine H_skip 8 rfl (by kernel_rfl) (by kernel_rfl) (by kernel_rfl) (HSub.refl _) rfl rfl ?_
          refine H_skip 9 rfl (by kernel_rfl) (by kernel_rfl) (by kernel_rfl) (HSub.refl _) rfl rfl ?_
          refine H_skip 10 rfl (by kernel_rfl) (by kernel_rfl) (by kernel_rfl) (HSub.refl _) rfl rfl ?_
          refine H_skip 11 rfl (by kernel_rfl) (by kernel_rfl) (by kernel_rfl) (HSub.refl _) rfl rfl ?_
          refine H_skip 12 rfl (by kernel_rfl) (by kernel_rfl) (by kernel_rfl) (HSub.refl _) rfl rfl ?_
          refine H_y 13 rfl (by kernel_rfl) (by kernel_rfl) (by kernel_rfl) (HSub.refl _) rfl (y_pick_f rfl rfl) rfl ?_
          refine H_done (by kernel_rfl) ?_
          refine C_cond_f rfl ?_
          refine C_exit ?_
          exact ⟨t, ⟨ht1, ht2, hfin⟩, ⟨rfl, rfl, rfl, rfl, rfl, trivial⟩, ((hsub (.cons_cons _ (.refl _))).trans (hsub_pick [0] rfl))⟩
      · rename Nat => v2
        obtain ⟨qv20, qv21, hv2⟩ := ht
        refine C_seq ?_
        refine C_seq ?_
        refine C_region ?_
        refine L_y rfl (y_move rfl) rfl ?_
        refine L_y rfl (y_move rfl) rfl ?_
        refine L_y rfl (y_gtr rfl rfl) rfl ?_
        refine L_nil ?_
        refine C_cond rfl (fun hc2 => ?_) (fun hc2 => ?_)
        · replace hc2 : v2 < u2 := by have := of_decide_eq_true hc2; omega
          refine C_exit ?_
          refine C_seq ?_
          refine C_region ?_
          refine L_y rfl (y_move rfl) rfl ?_
          refine L_y rfl (y_assign rfl) rfl ?_
          refine L_nil ?_
          refine C_ret ?_
          refine B_ret (rv_tmp rfl rv_nil) ((hsub (.cons_cons _ (.refl _))).trans (hsub_pick [0] rfl)) ?_
          rw [← hr3, pe_stop hu2 hv2 hc2]
          exact ⟨rfl, rfl⟩
        · replace hc2 : ¬ v2 < u2 := by have := of_decide_eq_false hc2; omega
          refine C_skip ?_
          refine C_seq ?_
          refine C_regionH H (by kernel_rfl) ?_
          refine H_y 0 rfl (by kernel_rfl) (by kernel_rfl) (by kernel_rfl) ((hsub (.cons _ (.refl _)))) rfl (y_move rfl) rfl ?_
          refine H_y 1 rfl (by kernel_rfl) (by kernel_rfl) (by kernel_rfl) ((hsub (.cons _ (.refl _)))) rfl (y_move rfl) rfl ?_
          refine H_y 2 rfl (by kernel_rfl) (by kernel_rfl) (by kernel_rfl) ((hsub (.cons _ (.refl _)))) rfl (y_move rfl) rfl ?_
          refine H_y 3 rfl (by kernel_rfl) (by kernel_rfl) (by kernel_rfl) ((hsub (.cons _ (.refl _)))) rfl (y_move rfl) rfl ?_
          refine H_y 4 rfl (by kernel_rfl) (by kernel_rfl) (by kernel_rfl) ((hsub (.cons _ (.refl _)))) rfl (y_move rfl) rfl ?_
          refine H_y 5 rfl (by kernel_rfl) (by kernel_rfl) (by kernel_rfl) ((hsub (.cons _ (.refl _)))) rfl (y_move rfl) rfl ?_
          refine H_y 6 rfl (by kernel_rfl) (by kernel_rfl) (by kernel_rfl) ((hsub (.cons _ (.refl _)))) rfl (y_indexS rfl rfl Try.underlying33 sz_48 (by omega) (by omega) (ix0 (v2))) rfl ?_
          refine H_y 8 rfl (by kernel_rfl) (by kernel_rfl) (by kernel_rfl) ((hsub (.cons _ (.refl _)))) rfl (y_move rfl) rfl ?_
          refine H_y 9 rfl (by kernel_rfl) (by kernel_rfl) (by kernel_rfl) ((hsub (.cons _ (.refl _)))) rfl (y_move rfl) rfl ?_
          refine H_y 10 rfl (by kernel_rfl) (by kernel_rfl) (by kernel_rfl) ((hsub (.cons _ (.refl _)))) rfl (y_indexS rfl rfl Try.underlying33 sz_48 (by omega) (by omega) (ix0 (u2))) rfl ?_
          refine H_two 7 11 rfl rfl (by kernel_rfl) rfl rfl ?_ ?_
          · refine op_y (y_load rfl ag_48 (sees 0 0 rfl) (us_at (by omega))) rfl ?_
            refine ⟨(hsub (.cons _ (.refl _))), ?_⟩
            refine H_one 11 rfl (by kernel_rfl) rfl (op_y (y_load rfl ag_48 (sees 0 0 rfl) (us_at (by omega))) rfl ?_)
            refine ⟨(hsub (.cons _ (.refl _))), ?_⟩
            refine H_y 12 rfl (by kernel_rfl) (by kernel_rfl) (by kernel_rfl) ((hsub (.cons _ (.refl _)))) rfl (y_indexS rfl rfl Try.underlying33 sz_48 (by omega) (by omega) (ix0 (u2))) rfl ?_
            refine H_one 13 rfl (by kernel_rfl) rfl (op_store1 0 0 rfl rfl rfl sz_48 rfl (us_lt (by omega)) ?_)
            refine ⟨(hsub (.cons _ (.refl _))), ?_⟩
            refine H_y 14 rfl (by kernel_rfl) (by kernel_rfl) (by kernel_rfl) ((hsub (.cons _ (.refl _)))) rfl (y_indexS rfl rfl Try.underlying33 sz_48 (by omega) (by omega) (ix0 (v2))) rfl ?_
            refine H_one 15 rfl (by kernel_rfl) rfl (op_store1 0 0 rfl rfl rfl sz_48 rfl (by rw [List.length_set]; exact us_lt (by omega)) ?_)
            refine ⟨(hsub (.cons _ (.refl _))), ?_⟩
            refine H_done (by kernel_rfl) ?_
            rw [us_swp (by omega) (by omega)]
            refine C_seq ?_
            refine C_region ?_
            refine L_y rfl (y_move rfl) rfl ?_
            refine L_y rfl (y_add rfl rfl (show _ = ((u2 + 1 : Nat) : Int) from by rw [wi64 (by omega) (by omega)]; omega)) rfl ?_
            refine L_y rfl (y_assign rfl) rfl ?_
            refine L_nil ?_
            refine C_region ?_
            refine L_y rfl (y_move rfl) rfl ?_
            refine L_y rfl (y_sub rfl rfl (show _ = ((v2 - 1 : Nat) : Int) from by rw [wi64 (by omega) (by omega)]; omega)) rfl ?_
            refine L_y rfl (y_assign rfl) rfl ?_
            refine L_nil ?_
            exact ⟨(Go.Sort.swp d3 u2 v2, u2 + 1, v2 - 1), ⟨by simp only; rw [swp_size]; exact hs3, by simp only; omega, by simp only; omega, by simp only; omega, by simp only; rw [← hr3, pe_go hu2 hv2 hc2]⟩, by simp only; omega, ⟨rfl, rfl, rfl, rfl, rfl, trivial⟩, ((hsub (.cons_cons _ (.refl _))).trans (hsub_pick [0] rfl))⟩
          · refine op_y (y_load rfl ag_48 (sees 0 0 rfl) (us_at (by omega))) rfl ?_
            refine ⟨(hsub (.cons _ (.refl _))), ?_⟩
            refine H_one 7 rfl (by kernel_rfl) rfl (op_y (y_load rfl ag_48 (sees 0 0 rfl) (us_at (by omega))) rfl ?_)
            refine ⟨(hsub (.cons _ (.refl _))), ?_⟩
            refine H_y 12 rfl (by kernel_rfl) (by kernel_rfl) (by kernel_rfl) ((hsub (.cons _ (.refl _)))) rfl (y_indexS rfl rfl Try.underlying33 sz_48 (by omega) (by omega) (ix0 (u2))) rfl ?_
            refine H_one 13 rfl (by kernel_rfl) rfl (op_store1 0 0 rfl rfl rfl sz_48 rfl (us_lt (by omega)) ?_)
            refine ⟨(hsub (.cons _ (.refl _))), ?_⟩
            refine H_y 14 rfl (by kernel_rfl) (by kernel_rfl) (by kernel_rfl) ((hsub (.cons _ (.refl _)))) rfl (y_indexS rfl rfl Try.underlying33 sz_48 (by omega) (by omega) (ix0 (v2))) rfl ?_
            refine H_one 15 rfl (by kernel_rfl) rfl (op_store1 0 0 rfl rfl rfl sz_48 rfl (by rw [List.length_set]; exact us_lt (by omega)) ?_)
            refine ⟨(hsub (.cons _ (.refl _))), ?_⟩
            refine H_done (by kernel_rfl) ?_
            rw [us_swp (by omega) (by omega)]
            refine C_seq ?_
            refine C_region ?_
            refine L_y rfl (y_move rfl) rfl ?_
            refine L_y rfl (y_add rfl rfl (show _ = ((u2 + 1 : Nat) : Int) from by rw [wi64 (by omega) (by omega)]; omega)) rfl ?_
            refine L_y rfl (y_assign rfl) rfl ?_
            refine L_nil ?_
            refine C_region ?_
            refine L_y rfl (y_move rfl) rfl ?_
            refine L_y rfl (y_sub rfl rfl (show _ = ((v2 - 1 : Nat) : Int) from by rw [wi64 (by omega) (by omega)]; omega)) rfl ?_
            refine L_y rfl (y_assign rfl) rfl ?_
            refine L_nil ?_
            exact ⟨(Go.Sort.swp d3 u2 v2, u2 + 1, v2 - 1), ⟨by simp only; rw [swp_size]; exact hs3, by simp only; omega, by simp only; omega, by simp only; omega, by simp only; rw [← hr3, pe_go hu2 hv2 hc2]⟩, by simp only; omega, ⟨rfl, rfl, rfl, rfl, rfl, trivial⟩, ((hsub (.cons_cons _ (.refl _))).trans (hsub_pick [0] rfl))⟩

end Go.Proofs.Ytighbhplfjjgpaa

