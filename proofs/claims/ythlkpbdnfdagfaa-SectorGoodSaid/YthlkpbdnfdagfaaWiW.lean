/- walks (own work; the walks' lines by a program of this repo). -/
import Derived.Test.YthlkpbdnfdagfaaFa
import Derived.Test.YthlkpbdnfdagfaaWi
set_option linter.unusedVariables false
set_option linter.unusedSimpArgs false
set_option maxRecDepth 20000
namespace Go.Proofs.Ythlkpbdnfdagfaa
open Go.Sl
attribute [local irreducible] BodyQ WpC WpL WpS WpH OpW FnS


theorem put_s {w0 : World} {H : Hp} (m k : Nat) (hm : m < 18446744073709551616) (hk1 : 1 ≤ k) (hk : k ≤ 8) : FnS Try.prog w0 26 #[.int .u64 (m : Int), .int .i64 (k : Int)] H (fun e H' => ∃ b, e = .returned (.slice (some ⟨b, 0, none⟩) k k) ∧ H' = [(b, .cells (bs (be m k)).toArray 5)] :: H) := by
  refine FnS_intro (n := 34) (rs := [.tmp 4]) (vs := [.int .u64 (m : Int), .int .i64 (k : Int)]) Try.func26 rfl Try.ntmps26 rfl rfl ?_
  refine C_seq ?_
  refine C_region ?_
  refine L_y rfl (y_assign rfl) rfl ?_
  refine L_nil ?_
  refine C_seq ?_
  refine C_seq ?_
  refine C_region ?_
  refine L_y rfl (y_move rfl) rfl ?_
  refine L_y rfl (y_lss rfl rfl) rfl ?_
  refine L_y rfl (y_move rfl) rfl ?_
  refine L_case 9 rfl (fun hg1_3 => ?_) (fun hg1_3 => ?_)
  · exact absurd (of_decide_eq_true hg1_3) (by omega)
  · skip
    refine L_y rfl (y_move rfl) rfl ?_
    refine L_y rfl (y_gtr rfl rfl) rfl ?_
    refine L_y rfl (y_pick_f rfl rfl) rfl ?_
    refine L_nil ?_
    refine C_cond rfl (fun hc0 => absurd hc0 (by simp <;> omega)) (fun hc0 => ?_)
    refine C_skip ?_
    refine C_seq ?_
    refine C_region ?_
    refine L_y rfl (y_move rfl) rfl ?_
    refine L_op rfl (op_makeSlice rfl Try.underlying23 by_5 sz_5 zl_5 rfl (by omega) (by omega) (by omega) rfl (fun B1 => ?_))
    refine L_y rfl (y_assign rfl) rfl ?_
    refine L_nil ?_
    refine C_seq ?_
    refine C_seq ?_
    refine C_region ?_
    refine L_y rfl (y_move rfl) rfl ?_
    refine L_y rfl (y_lenS rfl rfl Try.underlying23) rfl ?_
    refine L_y rfl (y_move rfl) rfl ?_
    refine L_nil ?_
    refine C_block ?_
    refine C_loop (ι := Nat) (fun i => [(0, .int .u64 (m : Int)), (1, .int .i64 (k : Int)), (5, .slice (some ⟨B1, 0, none⟩) k k), (16, .int .i64 (k : Int)), (17, .int .i64 (i : Int))]) (fun i => [(B1, .cells (bs ((be m k).take i ++ List.replicate (k - i) 0)).toArray 5)] :: H) (fun i => i ≤ k) (fun i => k - i) 0 (Nat.zero_le _) ⟨rfl, rfl, rfl, rfl, rfl, trivial⟩ (HSub.of_eq (by simp [zc8])) (fun i hi => ?_)
    skip
    refine C_seq ?_
    refine C_region ?_
    refine L_y rfl (y_lss rfl rfl) rfl ?_
    refine L_nil ?_
    refine C_seq ?_
    refine C_cond rfl (fun hc1 => ?_) (fun hc1 => ?_)
    · replace hc1 := of_decide_eq_true hc1
      refine C_skip ?_
      refine C_seq ?_
      refine C_block ?_
      refine C_seq ?_
      refine C_region ?_
      refine L_y rfl (y_move rfl) rfl ?_
      refine L_y rfl (y_assign rfl) rfl ?_
      refine L_nil ?_
      refine C_region ?_
      refine L_y rfl (y_move rfl) rfl ?_
      refine L_y rfl (y_move rfl) rfl ?_
      refine L_y rfl (y_move rfl) rfl ?_
      refine L_y rfl (y_move rfl) rfl ?_
      refine L_y rfl (y_sub rfl rfl (wi64 (by omega) (by omega))) rfl ?_
      refine L_y rfl (y_move rfl) rfl ?_
      refine L_y rfl (y_sub rfl rfl (wi64 (by omega) (by omega))) rfl ?_
      refine L_y rfl (y_conv rfl us_3 Try.underlying105 (wu64 (by omega) (by omega))) rfl ?_
      refine L_y rfl (y_mul rfl rfl (wu64 (by omega) (by omega))) rfl ?_
      refine L_y rfl (y_shr rfl rfl (by omega) rfl) rfl ?_
      refine L_y rfl (y_conv rfl us_22 Try.underlying5 (put_byte (by omega) hk)) rfl ?_
      refine L_y rfl (y_indexS rfl rfl Try.underlying23 sz_5 (by omega) (by omega) (show _ = i from by simp)) rfl ?_
      refine L_op rfl (op_store1 0 0 rfl rfl rfl sz_5 rfl (by simp [bs_length, be_length]; omega) ?_)
      refine L_nil ?_
      refine C_region ?_
      refine L_y rfl (y_add rfl rfl (wi64 (by omega) (by omega))) rfl ?_
      refine L_y rfl (y_move rfl) rfl ?_
      refine L_nil ?_
      exact ⟨i + 1, by omega, by omega, ⟨rfl, rfl, rfl, rfl, rfl, trivial⟩, HSub.of_eq (by rw [← put_step (be_length m k) (by omega) (be_get (by omega))]; rfl)⟩
    · replace hc1 := of_decide_eq_false hc1
      refine C_exit ?_
      refine C_seq ?_
      refine C_region ?_
      refine L_y rfl (y_move rfl) rfl ?_
      refine L_y rfl (y_assign rfl) rfl ?_
      refine L_nil ?_
      refine C_ret ?_
      refine B_ret (rv_tmp rfl rv_nil) (HSub.refl _) ?_
      obtain rfl : i = k := by omega
      exact ⟨B1, rfl, by simp [List.take_of_length_le, be_length]⟩

theorem get_s0 {w0 : World} {H : Hp} {b off cap T : Nat} {fr : Nat × Nat} {l : List Value} (u : List UInt8) (hs : Sees (fun w => St w0 w H) b (.cells l.toArray T fr)) (hv : (l.drop off).take u.length = bs u) (h1 : 1 ≤ u.length) (h8 : u.length ≤ 8) : FnS Try.prog w0 29 #[.slice (some ⟨b, off, none⟩) u.length cap] H (fun e H' => e = .returned (.tuple #[.int .u64 (val u : Int), .bool true]) ∧ H' = H) := by
  refine FnS_intro (n := 28) (rs := [.tmp 2, .tmp 3]) (vs := [.slice (some ⟨b, off, none⟩) u.length cap]) Try.func29 rfl Try.ntmps29 rfl rfl ?_
  refine C_seq ?_
  refine C_region ?_
  refine L_y rfl (y_assign rfl) rfl ?_
  refine L_y rfl (y_assign rfl) rfl ?_
  refine L_nil ?_
  refine C_seq ?_
  refine C_seq ?_
  refine C_region ?_
  refine L_y rfl (y_move rfl) rfl ?_
  refine L_y rfl (y_lenS rfl rfl Try.underlying23) rfl ?_
  refine L_y rfl (y_lss rfl rfl) rfl ?_
  refine L_y rfl (y_move rfl) rfl ?_
  refine L_case 10 rfl (fun hg1_4 => ?_) (fun hg1_4 => ?_)
  · exact absurd (of_decide_eq_true hg1_4) (by omega)
  · skip
    refine L_y rfl (y_move rfl) rfl ?_
    refine L_y rfl (y_lenS rfl rfl Try.underlying23) rfl ?_
    refine L_y rfl (y_gtr rfl rfl) rfl ?_
    refine L_y rfl (y_pick_f rfl rfl) rfl ?_
    refine L_nil ?_
    refine C_cond rfl (fun hc0 => absurd hc0 (by simp <;> omega)) (fun hc0 => ?_)
    refine C_skip ?_
    refine C_seq ?_
    refine C_region ?_
    refine L_y rfl (y_assign rfl) rfl ?_
    refine L_nil ?_
    refine C_seq ?_
    refine C_seq ?_
    refine C_region ?_
    refine L_y rfl (y_move rfl) rfl ?_
    refine L_y rfl (y_lenS rfl rfl Try.underlying23) rfl ?_
    refine L_y rfl (y_move rfl) rfl ?_
    refine L_nil ?_
    refine C_block ?_
    refine C_loop (ι := Nat) (fun i => [(4, .int .u64 ((val (u.take i) : Nat) : Int)), (15, .slice (some ⟨b, off, none⟩) u.length cap), (16, .int .i64 (u.length : Int)), (17, .int .i64 (i : Int))]) (fun i => H) (fun i => i ≤ u.length) (fun i => u.length - i) 0 (Nat.zero_le _) ⟨rfl, rfl, rfl, rfl, trivial⟩ (HSub.refl _) (fun i hi => ?_)
    skip
    refine C_seq ?_
    refine C_region ?_
    refine L_y rfl (y_lss rfl rfl) rfl ?_
    refine L_nil ?_
    refine C_seq ?_
    refine C_cond rfl (fun hc1 => ?_) (fun hc1 => ?_)
    · replace hc1 := of_decide_eq_true hc1
      refine C_skip ?_
      refine C_seq ?_
      refine C_block ?_
      refine C_seq ?_
      refine C_region ?_
      refine L_y rfl (y_indexS rfl rfl Try.underlying23 sz_5 (by omega) (by omega) rfl) rfl ?_
      refine L_y rfl (y_load rfl ag_5 (hs) (getb hv (by omega) rfl)) rfl ?_
      refine L_y rfl (y_assign rfl) rfl ?_
      refine L_nil ?_
      refine C_region ?_
      refine L_y rfl (y_move rfl) rfl ?_
      have hb := (u.getD i 0).toNat_lt
      refine L_y rfl (y_shl rfl rfl (by decide) rfl) rfl ?_
      refine L_y rfl (y_move rfl) rfl ?_
      refine L_y rfl (y_conv rfl us_5 Try.underlying22 (wu64 (by omega) (by omega))) rfl ?_
      refine L_y rfl (y_or rfl rfl (get_step (val_take_lt (by omega)))) rfl ?_
      refine L_y rfl (y_assign rfl) rfl ?_
      refine L_nil ?_
      refine C_region ?_
      refine L_y rfl (y_add rfl rfl (wi64 (by omega) (by omega))) rfl ?_
      refine L_y rfl (y_move rfl) rfl ?_
      refine L_nil ?_
      refine ⟨i + 1, by omega, by omega, ⟨?_, rfl, rfl, rfl, trivial⟩, HSub.refl _⟩
      rw [val_take (by omega)]
      rfl
    · replace hc1 := of_decide_eq_false hc1
      refine C_exit ?_
      refine C_seq ?_
      refine C_region ?_
      refine L_y rfl (y_move rfl) rfl ?_
      refine L_y rfl (y_assign rfl) rfl ?_
      refine L_y rfl (y_assign rfl) rfl ?_
      refine L_nil ?_
      refine C_ret ?_
      refine B_ret (rv_tmp rfl (rv_tmp rfl rv_nil)) (HSub.refl _) ?_
      obtain rfl : i = u.length := by omega
      exact ⟨by rw [List.take_length]; rfl, rfl⟩

theorem get_s {w0 : World} {H : Hp} {b off cap T len : Nat} {fr : Nat × Nat} {l : List Value} (u : List UInt8) (hs : Sees (fun w => St w0 w H) b (.cells l.toArray T fr)) (hv : (l.drop off).take len = bs u) (hu : u.length = len) (h1 : 1 ≤ len) (h8 : len ≤ 8) : FnS Try.prog w0 29 #[.slice (some ⟨b, off, none⟩) len cap] H (fun e H' => e = .returned (.tuple #[.int .u64 (val u : Int), .bool true]) ∧ H' = H) := by
  subst hu
  exact get_s0 u hs hv h1 h8

end Go.Proofs.Ythlkpbdnfdagfaa
