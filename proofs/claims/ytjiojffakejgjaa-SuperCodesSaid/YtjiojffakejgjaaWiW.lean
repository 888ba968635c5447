/- walks (own work; the walks' lines by a program of this repo). -/
import Derived.Test.YtjiojffakejgjaaFa
import Derived.Test.YtjiojffakejgjaaWi
set_option linter.unusedVariables false
set_option linter.unusedSimpArgs false
set_option maxRecDepth 20000
namespace Go.Proofs.Ytjiojffakejgjaa
open Go.Sl
attribute [local irreducible] BodyQ WpC WpL WpS WpH OpW FnS


theorem put_s {w0 : World} {H : Hp} (m k : Nat) (hm : m < 18446744073709551616) (hk1 : 1 ≤ k) (hk : k ≤ 8) : FnS Try.prog w0 43 #[.int .u64 (m : Int), .int .i64 (k : Int)] H (fun e H' => ∃ b, e = .returned (.slice (some ⟨b, 0, none⟩) k k) ∧ H' = [(b, .cells (bs (be m k)).toArray 5)] :: H) := by
  refine FnS_intro (n := 34) (rs := [.tmp 4]) (vs := [.int .u64 (m : Int), .int .i64 (k : Int)]) Try.func43 rfl Try.ntmps43 rfl rfl ?_
  refine C_seq ?_
  refine C_region ?_
  refine L_y rfl (y_assign rfl) rfl ?_
  refine L_nil ?_
  refine C_seq ?_
  refine C_seq ?_
  refine C_region ?_
  refine L_y rfl (y_move rfl) rfl ?_
  refine L_y rfl (y_lss rfl rfl) rfl ?_
  refine L_y rfl (y_move rfl) rfl ?_
  refine L_case 9 rfl (fun hg1_3 => ?_) (fun hg1_3 => ?_)
  · exact absurd (of_decide_eq_true hg1_3) (by omega)
  · skip
    refine L_y rfl (y_move rfl) rfl ?_
    refine L_y rfl (y_gtr rfl rfl) rfl ?_
    refine L_y rfl (y_pick_f rfl rfl) rfl ?_
    refine L_nil ?_
    refine C_cond rfl (fun hc0 => absurd hc0 (by simp <;> omega)) (fun hc0 => ?_)
    refine C_skip ?_
    refine C_seq ?_
    refine C_region ?_
    refine L_y rfl (y_move rfl) rfl ?_
    refine L_op rfl (op_makeSlice rfl Try.underlying25 by_5 sz_5 zl_5 rfl (by omega) (by omega) (by omega) rfl (fun B1 => ?_))
    refine L_y rfl (y_assign rfl) rfl ?_
    refine L_nil ?_
    refine C_seq ?_
    refine C_seq ?_
    refine C_region ?_
    refine L_y rfl (y_move rfl) rfl ?_
    refine L_y rfl (y_lenS rfl rfl Try.underlying25) rfl ?_
    refine L_y rfl (y_move rfl) rfl ?_
    refine L_nil ?_
    refine C_block ?_
    refine C_loop (ι := Nat) (fun i => [(0, .int .u64 (m : Int)), (1, .int .i64 (k : Int)), (5, .slice (some ⟨B1, 0, none⟩) k k), (16, .int .i64 (k : Int)), (17, .int .i64 (i : Int))]) (fun i => [(B1, .cells (bs ((be m k).take i ++ List.replicate (k - i) 0)).toArray 5)] :: H) (fun i => i ≤ k) (fun i => k - i) 0 (Nat.zero_le _) ⟨rfl, rfl, rfl, rfl, rfl, trivial⟩ (HSub.of_eq (by simp [zc8])) (fun i hi => ?_)
    skip
    refine C_seq ?_
    refine C_region ?_
    refine L_y rfl (y_lss rfl rfl) rfl ?_
    refine L_nil ?_
    refine C_seq ?_
    refine C_cond rfl (fun hc1 => ?_) (fun hc1 => ?_)
    · replace hc1 := of_decide_eq_true hc1
      refine C_skip ?_
      refine C_seq ?_
      refine C_block ?_
      refine C_seq ?_
      refine C_region ?_
      refine L_y rfl (y_move rfl) rfl ?_
      refine L_y rfl (y_assign rfl) rfl ?_
      refine L_nil ?_
      refine C_region ?_
      refine L_y rfl (y_move rfl) rfl ?_
      refine L_y rfl (y_move rfl) rfl ?_
      refine L_y rfl (y_move rfl) rfl ?_
      refine L_y rfl (y_move rfl) rfl ?_
      refine L_y rfl (y_sub rfl rfl (wi64 (by omega) (by omega))) rfl ?_
      refine L_y rfl (y_move rfl) rfl ?_
      refine L_y rfl (y_sub rfl rfl (wi64 (by omega) (by omega))) rfl ?_
      refine L_y rfl (y_conv rfl us_3 Try.underlying105 (wu64 (by omega) (by omega))) rfl ?_
      refine L_y rfl (y_mul rfl rfl (wu64 (by omega) (by omega))) rfl ?_
      refine L_y rfl (y_shr rfl rfl (by omega) rfl) rfl ?_
      refine L_y rfl (y_conv rfl us_22 Try.underlying5 (put_byte (by omega) hk)) rfl ?_
      refine L_y rfl (y_indexS rfl rfl Try.underlying25 sz_5 (by omega) (by omega) (show _ = i from by simp)) rfl ?_
      refine L_op rfl (op_store1 0 0 rfl rfl rfl sz_5 rfl (by simp [bs_length, be_length]; omega) ?_)
      refine L_nil ?_
      refine C_region ?_
      refine L_y rfl (y_add rfl rfl (wi64 (by omega) (by omega))) rfl ?_
      refine L_y rfl (y_move rfl) rfl ?_
      refine L_nil ?_
      exact ⟨i + 1, by omega, by omega, ⟨rfl, rfl, rfl, rfl, rfl, trivial⟩, HSub.of_eq (by rw [← put_step (be_length m k) (by omega) (be_get (by omega))]; rfl)⟩
    · replace hc1 := of_decide_eq_false hc1
      refine C_exit ?_
      refine C_seq ?_
      refine C_region ?_
      refine L_y rfl (y_move rfl) rfl ?_
      refine L_y rfl (y_assign rfl) rfl ?_
      refine L_nil ?_
      refine C_ret ?_
      refine B_ret (rv_tmp rfl rv_nil) (HSub.refl _) ?_
      obtain rfl : i = k := by omega
      exact ⟨B1, rfl, by simp [List.take_of_length_le, be_length]⟩

theorem get_s0 {w0 : World} {H : Hp} {b off cap T : Nat} {fr : Nat × Nat} {l : List Value} (u : List UInt8) (hs : Sees (fun w => St w0 w H) b (.cells l.toArray T fr)) (hv : (l.drop off).take u.length = bs u) (h1 : 1 ≤ u.length) (h8 : u.length ≤ 8) : FnS Try.prog w0 45 #[.slice (some ⟨b, off, none⟩) u.length cap] H (fun e H' => e = .returned (.tuple #[.int .u64 (val u : Int), .bool true]) ∧ H' = H) := by
  refine FnS_intro (n := 28) (rs := [.tmp 2, .tmp 3]) (vs := [.slice (some ⟨b, off, none⟩) u.length cap]) Try.func45 rfl Try.ntmps45 rfl rfl ?_
  refine C_seq ?_
  refine C_region ?_
  refine L_y rfl (y_assign rfl) rfl ?_
  refine L_y rfl (y_assign rfl) rfl ?_
  refine L_nil ?_
  refine C_seq ?_
  refine C_seq ?_
  refine C_region ?_
  refine L_y rfl (y_move rfl) rfl ?_
  refine L_y rfl (y_lenS rfl rfl Try.underlying25) rfl ?_
  refine L_y rfl (y_lss rfl rfl) rfl ?_
  refine L_y rfl (y_move rfl) rfl ?_
  refine L_case 10 rfl (fun hg1_4 => ?_) (fun hg1_4 => ?_)
  · exact absurd (of_decide_eq_true hg1_4) (by omega)
  · skip
    refine L_y rfl (y_move rfl) rfl ?_
    refine L_y rfl (y_lenS rfl rfl Try.underlying25) rfl ?_
    refine L_y rfl (y_gtr rfl rfl) rfl ?_
    refine L_y rfl (y_pick_f rfl rfl) rfl ?_
    refine L_nil ?_
    refine C_cond rfl (fun hc0 => absurd hc0 (by simp <;> omega)) (fun hc0 => ?_)
    refine C_skip ?_
    refine C_seq ?_
    refine C_region ?_
    refine L_y rfl (y_assign rfl) rfl ?_
    refine L_nil ?_
    refine C_seq ?_
    refine C_seq ?_
    refine C_region ?_
    refine L_y rfl (y_move rfl) rfl ?_
    refine L_y rfl (y_lenS rfl rfl Try.underlying25) rfl ?_
    refine L_y rfl (y_move rfl) rfl ?_
    refine L_nil ?_
    refine C_block ?_
    refine C_loop (ι := Nat) (fun i => [(4, .int .u64 ((val (u.take i) : Nat) : Int)), (15, .slice (some ⟨b, off, none⟩) u.length cap), (16, .int .i64 (u.length : Int)), (17, .int .i64 (i : Int))]) (fun i => H) (fun i => i ≤ u.length) (fun i => u.length - i) 0 (Nat.zero_le _) ⟨rfl, rfl, rfl, rfl, trivial⟩ (HSub.refl _) (fun i hi => ?_)
    skip
    refine C_seq ?_
    refine C_region ?_
    refine L_y rfl (y_lss rfl rfl) rfl ?_
    refine L_nil ?_
    refine C_seq ?_
    refine C_cond rfl (fun hc1 => ?_) (fun hc1 => ?_)
    · replace hc1 := of_decide_eq_true hc1
      refine C_skip ?_
      refine C_seq ?_
      refine C_block ?_
      refine C_seq ?_
      refine C_region ?_
      refine L_y rfl (y_indexS rfl rfl Try.underlying25 sz_5 (by omega) (by omega) rfl) rfl ?_
      refine L_y rfl (y_load rfl ag_5 (hs) (getb hv (by omega) rfl)) rfl ?_
      refine L_y rfl (y_assign rfl) rfl ?_
      refine L_nil ?_
      refine C_region ?_
      refine L_y rfl (y_move rfl) rfl ?_
      have hb := (u.getD i 0).toNat_lt
      refine L_y rfl (y_shl rfl rfl (by decide) rfl) rfl ?_
      refine L_y rfl (y_move rfl) rfl ?_
      refine L_y rfl (y_conv rfl us_5 Try.underlying22 (wu64 (by omega) (by omega))) rfl ?_
      refine L_y rfl (y_or rfl rfl (get_step (val_take_lt (by omega)))) rfl ?_
      refine L_y rfl (y_assign rfl) rfl ?_
      refine L_nil ?_
      refine C_region ?_
      refine L_y rfl (y_add rfl rfl (wi64 (by omega) (by omega))) rfl ?_
      refine L_y rfl (y_move rfl) rfl ?_
      refine L_nil ?_
      refine ⟨i + 1, by omega, by omega, ⟨?_, rfl, rfl, rfl, trivial⟩, HSub.refl _⟩
      rw [val_take (by omega)]
      rfl
    · replace hc1 := of_decide_eq_false hc1
      refine C_exit ?_
      refine C_seq ?_
      refine C_region ?_
      refine L_y rfl (y_move rfl) rfl ?_
      refine L_y rfl (y_assign rfl) rfl ?_
      refine L_y rfl (y_assign rfl) rfl ?_
      refine L_nil ?_
      refine C_ret ?_
      refine B_ret (rv_tmp rfl (rv_tmp rfl rv_nil)) (HSub.refl _) ?_
      obtain rfl : i = u.length := by omega
      exact ⟨by rw [List.take_length]; rfl, rfl⟩

theorem get_s {w0 : World} {H : Hp} {b off cap T len : Nat} {fr : Nat × Nat} {l : List Value} (u : List UInt8) (hs : Sees (fun w => St w0 w H) b (.cells l.toArray T fr)) (hv : (l.drop off).take len = bs u) (hu : u.length = len) (h1 : 1 ≤ len) (h8 : len ≤ 8) : FnS Try.prog w0 45 #[.slice (some ⟨b, off, none⟩) len cap] H (fun e H' => e = .returned (.tuple #[.int .u64 (val u : Int), .bool true]) ∧ H' = H) := by
  subst hu
  exact get_s0 u hs hv h1 h8

theorem rget_s0 {w0 : World} {H : Hp} {b off cap T : Nat} {fr : Nat × Nat} {l : List Value} (u : List UInt8) (hs : Sees (fun w => St w0 w H) b (.cells l.toArray T fr)) (hv : (l.drop off).take u.length = bs u) (h1 : 1 ≤ u.length) (h8 : u.length ≤ 8) : FnS Try.prog w0 46 #[.slice (some ⟨b, off, none⟩) u.length cap] H (fun e H' => e = .returned (.tuple #[.int .u64 (val u : Int), .bool true]) ∧ H' = H) := by
  refine FnS_intro (n := 29) (rs := [.tmp 2, .tmp 3]) (vs := [.slice (some ⟨b, off, none⟩) u.length cap]) Try.func46 rfl Try.ntmps46 rfl rfl ?_
  refine C_seq ?_
  refine C_region ?_
  refine L_y rfl (y_assign rfl) rfl ?_
  refine L_y rfl (y_assign rfl) rfl ?_
  refine L_nil ?_
  refine C_seq ?_
  refine C_seq ?_
  refine C_region ?_
  refine L_y rfl (y_move rfl) rfl ?_
  refine L_y rfl (y_lenS rfl rfl Try.underlying25) rfl ?_
  refine L_y rfl (y_lss rfl rfl) rfl ?_
  refine L_y rfl (y_move rfl) rfl ?_
  refine L_case 9 rfl (fun hg1_4 => ?_) (fun hg1_4 => ?_)
  · exact absurd (of_decide_eq_true hg1_4) (by omega)
  · skip
    refine L_y rfl (y_move rfl) rfl ?_
    refine L_y rfl (y_lenS rfl rfl Try.underlying25) rfl ?_
    refine L_y rfl (y_gtr rfl rfl) rfl ?_
    refine L_y rfl (y_pick_f rfl rfl) rfl ?_
    refine L_nil ?_
    refine C_cond rfl (fun hc0 => absurd hc0 (by simp <;> omega)) (fun hc0 => ?_)
    refine C_skip ?_
    refine C_seq ?_
    refine C_region ?_
    refine L_y rfl (y_assign rfl) rfl ?_
    refine L_nil ?_
    refine C_seq ?_
    refine C_seq ?_
    refine C_region ?_
    refine L_y rfl (y_assign rfl) rfl ?_
    refine L_nil ?_
    refine C_block ?_
    refine C_loop (ι := Nat) (fun i => [(4, .int .u64 ((val (u.take i) : Nat) : Int)), (0, .slice (some ⟨b, off, none⟩) u.length cap), (5, .int .i64 (i : Int))]) (fun i => H) (fun i => i ≤ u.length) (fun i => u.length - i) 0 (Nat.zero_le _) ⟨rfl, rfl, rfl, trivial⟩ (HSub.refl _) (fun i hi => ?_)
    skip
    refine C_seq ?_
    refine C_seq ?_
    refine C_region ?_
    refine L_y rfl (y_move rfl) rfl ?_
    refine L_y rfl (y_move rfl) rfl ?_
    refine L_y rfl (y_lenS rfl rfl Try.underlying25) rfl ?_
    refine L_y rfl (y_lss rfl rfl) rfl ?_
    refine L_nil ?_
    refine C_cond rfl (fun hc1 => ?_) (fun hc1 => ?_)
    · replace hc1 := of_decide_eq_true hc1
      refine C_skip ?_
      refine C_seq ?_
      refine C_block ?_
      refine C_region ?_
      refine L_y rfl (y_move rfl) rfl ?_
      refine L_y rfl (y_mul rfl rfl rfl) rfl ?_
      refine L_y rfl (y_move rfl) rfl ?_
      refine L_y rfl (y_move rfl) rfl ?_
      refine L_y rfl (y_indexS rfl rfl Try.underlying25 sz_5 (by omega) (by omega) rfl) rfl ?_
      refine L_y rfl (y_load rfl ag_5 (hs) (getb hv (by omega) rfl)) rfl ?_
      have hb := (u.getD i 0).toNat_lt
      refine L_y rfl (y_conv rfl us_5 Try.underlying22 (wu64 (by omega) (by omega))) rfl ?_
      refine L_y rfl (y_add rfl rfl (mul_add_256 (val_take_lt (by omega)))) rfl ?_
      refine L_y rfl (y_assign rfl) rfl ?_
      refine L_nil ?_
      refine C_region ?_
      refine L_y rfl (y_move rfl) rfl ?_
      refine L_y rfl (y_add rfl rfl (wi64 (by omega) (by omega))) rfl ?_
      refine L_y rfl (y_assign rfl) rfl ?_
      refine L_nil ?_
      refine ⟨i + 1, by omega, by omega, ⟨?_, rfl, rfl, trivial⟩, HSub.refl _⟩
      rw [val_take (by omega)]
      rfl
    · replace hc1 := of_decide_eq_false hc1
      refine C_exit ?_
      refine C_seq ?_
      refine C_region ?_
      refine L_y rfl (y_move rfl) rfl ?_
      refine L_y rfl (y_assign rfl) rfl ?_
      refine L_y rfl (y_assign rfl) rfl ?_
      refine L_nil ?_
      refine C_ret ?_
      refine B_ret (rv_tmp rfl (rv_tmp rfl rv_nil)) (HSub.refl _) ?_
      obtain rfl : i = u.length := by omega
      exact ⟨by rw [List.take_length]; rfl, rfl⟩

theorem rget_s {w0 : World} {H : Hp} {b off cap T len : Nat} {fr : Nat × Nat} {l : List Value} (u : List UInt8) (hs : Sees (fun w => St w0 w H) b (.cells l.toArray T fr)) (hv : (l.drop off).take len = bs u) (hu : u.length = len) (h1 : 1 ≤ len) (h8 : len ≤ 8) : FnS Try.prog w0 46 #[.slice (some ⟨b, off, none⟩) len cap] H (fun e H' => e = .returned (.tuple #[.int .u64 (val u : Int), .bool true]) ∧ H' = H) := by
  subst hu
  exact rget_s0 u hs hv h1 h8

theorem rput_s {w0 : World} {H : Hp} (m k : Nat) (hm : m < 18446744073709551616) (hk1 : 1 ≤ k) (hk : k ≤ 8) : FnS Try.prog w0 44 #[.int .u64 (m : Int), .int .i64 (k : Int)] H (fun e H' => ∃ g, slOk 1 g k (bs (be m k)) ∧ e = .returned (slV g k) ∧ H' = slSeg 5 g (bs (be m k)) :: H) := by
  refine FnS_intro (n := 27) (rs := [.tmp 4]) (vs := [.int .u64 (m : Int), .int .i64 (k : Int)]) Try.func44 rfl Try.ntmps44 rfl rfl ?_
  refine C_seq ?_
  refine C_region ?_
  refine L_y rfl (y_assign rfl) rfl ?_
  refine L_nil ?_
  refine C_seq ?_
  refine C_seq ?_
  refine C_region ?_
  refine L_y rfl (y_move rfl) rfl ?_
  refine L_y rfl (y_lss rfl rfl) rfl ?_
  refine L_y rfl (y_move rfl) rfl ?_
  refine L_case 9 rfl (fun hg1_3 => ?_) (fun hg1_3 => ?_)
  · exact absurd (of_decide_eq_true hg1_3) (by omega)
  · skip
    refine L_y rfl (y_move rfl) rfl ?_
    refine L_y rfl (y_gtr rfl rfl) rfl ?_
    refine L_y rfl (y_pick_f rfl rfl) rfl ?_
    refine L_nil ?_
    refine C_cond rfl (fun hc0 => absurd hc0 (by simp <;> omega)) (fun hc0 => ?_)
    refine C_skip ?_
    refine C_seq ?_
    refine C_region ?_
    refine L_y rfl (y_assign rfl) rfl ?_
    refine L_nil ?_
    refine C_seq ?_
    refine C_seq ?_
    refine C_region ?_
    refine L_y rfl (y_assign rfl) rfl ?_
    refine L_nil ?_
    refine C_block ?_
    refine C_loop (ι := Nat × Option SlG) (fun i => [(0, .int .u64 ((m / 256 ^ i.1 : Nat) : Int)), (1, .int .i64 (k : Int)), (5, slV i.2 i.1), (6, .int .i64 (i.1 : Int))]) (fun i => slSeg 5 i.2 (bs (be m i.1)) :: H) (fun i => i.1 ≤ k ∧ slOk 1 i.2 i.1 (bs (be m i.1))) (fun i => k - i.1) (0, none) ⟨Nat.zero_le _, rfl, rfl⟩ ⟨by simp; rfl, rfl, rfl, rfl, trivial⟩ (hsub_flat rfl) (fun i hi => ?_)
    obtain ⟨i, gs⟩ := i
    obtain ⟨hi, hok⟩ := hi
    have hlt : m / 256 ^ i < 18446744073709551616 := Nat.lt_of_le_of_lt (Nat.div_le_self _ _) hm
    refine C_seq ?_
    refine C_seq ?_
    refine C_region ?_
    refine L_y rfl (y_move rfl) rfl ?_
    refine L_y rfl (y_move rfl) rfl ?_
    refine L_y rfl (y_lss rfl rfl) rfl ?_
    refine L_nil ?_
    refine C_cond rfl (fun hc1 => ?_) (fun hc1 => ?_)
    · replace hc1 := of_decide_eq_true hc1
      refine C_skip ?_
      refine C_seq ?_
      refine C_block ?_
      refine C_seq ?_
      refine C_region ?_
      refine L_y rfl (y_move rfl) rfl ?_
      refine L_y rfl (y_rem rfl rfl (by decide) rfl) rfl ?_
      refine L_y rfl (y_conv rfl us_22 Try.underlying5 (rem_byte _)) rfl ?_
      refine L_op rfl (op_buildSlice (vs := [(0, _)]) rfl Try.underlying25 sz_5 zl_5 rfl (by decide) (fill_one rfl rfl rfl) rfl (fun B1 => ?_))
      refine L_y rfl (y_move rfl) rfl ?_
      refine L_op rfl (op_append (gs := some ⟨B1, 1, []⟩) (len := 1) (m := i) (xs := [u8 (UInt8.ofNat (m / 256 ^ i % 256))]) (vs := bs (be m i)) 0 rfl rfl rfl ⟨rfl, rfl, Nat.le_refl _⟩ (src_sl (s := 1) rfl hok) (by simp [bs_length, be_length]) (bs_one _) Try.underlying25 ni_25 sz_5 by_5 (by decide) zl_5 rfl (by omega) rfl (fun g' hg' => ?_))
      have ex : [u8 (UInt8.ofNat (m / 256 ^ i % 256))] ++ bs (be m i) = bs (be m (i + 1)) := by rw [be_cons]; rfl
      rw [Nat.add_comm 1 i, ex] at hg' ⊢
      refine L_y rfl (y_assign rfl) rfl ?_
      refine L_nil ?_
      refine C_region ?_
      refine L_y rfl (y_move rfl) rfl ?_
      refine L_y rfl (y_quo rfl rfl (by decide) (quo_256 hlt)) rfl ?_
      refine L_y rfl (y_assign rfl) rfl ?_
      refine L_nil ?_
      refine C_region ?_
      refine L_y rfl (y_move rfl) rfl ?_
      refine L_y rfl (y_add rfl rfl (wi64 (by omega) (by omega))) rfl ?_
      refine L_y rfl (y_assign rfl) rfl ?_
      refine L_nil ?_
      refine ⟨(i + 1, g'), ⟨by omega, hg'⟩, by simp only; omega, ⟨?_, rfl, rfl, rfl, trivial⟩, ?_⟩
      · rw [Nat.pow_succ, ← Nat.div_div_eq_div_mul]; rfl
      · exact hsub (.cons_cons _ (.cons _ (.refl _)))
    · replace hc1 := of_decide_eq_false hc1
      refine C_exit ?_
      refine C_seq ?_
      refine C_region ?_
      refine L_y rfl (y_move rfl) rfl ?_
      refine L_y rfl (y_assign rfl) rfl ?_
      refine L_nil ?_
      refine C_ret ?_
      refine B_ret (rv_tmp rfl rv_nil) (HSub.refl _) ?_
      obtain rfl : i = k := by simp only at hc1; omega
      exact ⟨gs, hok, rfl, rfl⟩

end Go.Proofs.Ytjiojffakejgjaa
