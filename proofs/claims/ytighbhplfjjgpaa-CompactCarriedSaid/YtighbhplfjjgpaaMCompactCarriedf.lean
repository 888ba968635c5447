/- Own work: texts G6W, G7W, E2W, E3W, E9W, Le, O5W, Hd, Lc, O6W, Fl, Fk, K0W, K1W, K2W, Fr, E4W, E5W, E6W, K3W, K4W, L2W, L5W, O7W, Rw, put together. -/
import Derived.Test.YtighbhplfjjgpaaProg
import Derived.ShutString
import Derived.OpenShut
import Derived.Test.YtighbhplfjjgpaaMCompactCarriede
/- walks (own work; the walks' lines by a program of this repo). -/
set_option linter.unusedVariables false
set_option linter.unusedSimpArgs false
set_option maxRecDepth 20000
namespace Go.Proofs.Ytighbhplfjjgpaa
open Go.Sl
attribute [local irreducible] BodyQ WpC WpL WpS WpH OpW FnS


theorem npow_u {w0 : World} {H : Hp} (x : Nat) (hx : x < 65536) : FnS Try.prog w0 97 #[.int .i64 ((x : Nat) : Int)] H (fun e H' => e = .returned (.int .u64 ((2 ^ Go.Sort.bitsLen x : Nat) : Int)) ∧ H' = H) := by
  have hbl := bits_le hx
  refine FnS_intro (n := 7) (rs := [.tmp 2]) (vs := [.int .i64 ((x : Nat) : Int)]) Try.func97 rfl Try.ntmps97 rfl rfl ?_
  refine C_seq (C_region (LY rfl (y_assign rfl) (L_nil (C_seq (C_region (LY rfl (y_move rfl) ?_))))))
  refine LY rfl (y_conv rfl us_3 Try.underlying144 (show _ = ((x : Nat) : Int) from wu64 (by omega) (by omega))) ?_
  refine L_op rfl (op_call rfl rfl (fun a w => Try.call73 a w) rfl ?_)
  refine (len_u x hx).mono ?_
  rintro _ _ ⟨rfl, e⟩
  obtain rfl := e.symm
  clear e
  refine ⟨_, rfl, ?_⟩
  refine LY rfl (y_shl rfl rfl (by omega) (show _ = ((2 ^ Go.Sort.bitsLen x : Nat) : Int) from by rw [Int.toNat_natCast, show min (Go.Sort.bitsLen x) (IntKind.bits .u64) = Go.Sort.bitsLen x from Nat.min_eq_left (Nat.le_trans hbl (by decide))]; have := (shl_u64 (x := 1) (k := Go.Sort.bitsLen x)); rw [Nat.one_mul, Nat.mod_eq_of_lt (Nat.lt_of_le_of_lt (Nat.pow_le_pow_right (by decide) hbl) (by decide))] at this; exact this)) ?_
  refine LY rfl (y_assign rfl) (L_nil (C_ret ?_))
  refine B_ret (rv_tmp rfl rv_nil) (HSub.refl _) ?_
  exact ⟨rfl, rfl⟩

set_option maxHeartbeats 1000000 in

theorem xnext_u {w0 : World} {H : Hp} {rb : Nat} (v : Nat) (hlv : v < 18446744073709551616) : FnS Try.prog w0 98 #[ptr rb] ([(rb, .cells [Value.int .u64 ((v : Nat) : Int)].toArray 168)] :: H) (fun e H' => ∃ v', v' < 18446744073709551616 ∧ e = .returned (.int .u64 ((v' : Nat) : Int)) ∧ H' = [(rb, .cells [Value.int .u64 ((v' : Nat) : Int)].toArray 168)] :: H) := by
  refine FnS_intro (n := 33) (rs := [.tmp 2]) (vs := [ptr rb]) Try.func98 rfl Try.ntmps98 rfl rfl ?_
  refine C_seq (C_region (LY rfl (y_assign rfl) (L_nil (C_seq ?_))))
  refine C_regionH H (by kernel_rfl) ?_
  refine HY 0 rfl ((hsub (.cons _ (.refl _)))) rfl (y_move rfl) ?_
  refine HY 1 rfl ((hsub (.cons _ (.refl _)))) rfl (y_nilCheck rfl) ?_
  refine HY 3 rfl ((hsub (.cons _ (.refl _)))) rfl (y_move rfl) ?_
  refine HY 4 rfl ((hsub (.cons _ (.refl _)))) rfl (y_nilCheck rfl) ?_
  refine H_two 2 5 rfl rfl (by kernel_rfl) rfl rfl ?_ ?_
  · refine op_y (y_load rfl ag_168 (sees 0 0 rfl) rfl) rfl ?_
    refine ⟨(hsub (.cons _ (.refl _))), ?_⟩
    refine H_one 5 rfl (by kernel_rfl) rfl (op_y (y_load rfl ag_168 (sees 0 0 rfl) rfl) rfl ?_)
    refine ⟨(hsub (.cons _ (.refl _))), ?_⟩
    refine HY 6 rfl ((hsub (.cons _ (.refl _)))) rfl (y_shl rfl rfl (by omega) (show _ = ((v * 2 ^ 13 % 18446744073709551616 : Nat) : Int) from shl_u64)) ?_
    refine HY 7 rfl ((hsub (.cons _ (.refl _)))) rfl (y_xor rfl rfl (show _ = ((v ^^^ (v * 2 ^ 13 % 18446744073709551616) : Nat) : Int) from bits_xor_u64_nat _ _ (by omega) (by omega))) ?_
    refine HY 8 rfl ((hsub (.cons _ (.refl _)))) rfl (y_nilCheck rfl) ?_
    refine H_one 9 rfl (by kernel_rfl) rfl (op_store1 0 0 rfl rfl rfl sz_168 rfl (Nat.le_of_ble_eq_true rfl) ?_)
    refine ⟨(hsub (.cons _ (.refl _))), ?_⟩
    refine H_done (by kernel_rfl) ?_
    obtain ⟨v1, hv1⟩ : ∃ z, z = v ^^^ (v * 2 ^ 13 % 18446744073709551616) := ⟨_, rfl⟩
    have hlv1 : v1 < 18446744073709551616 := by rw [hv1]; exact xor_u64 (by omega) (by omega)
    rw [← hv1]
    refine C_seq ?_
    refine C_regionH H (by kernel_rfl) ?_
    refine HY 0 rfl ((hsub (.cons _ (.refl _)))) rfl (y_move rfl) ?_
    refine HY 1 rfl ((hsub (.cons _ (.refl _)))) rfl (y_nilCheck rfl) ?_
    refine HY 3 rfl ((hsub (.cons _ (.refl _)))) rfl (y_move rfl) ?_
    refine HY 4 rfl ((hsub (.cons _ (.refl _)))) rfl (y_nilCheck rfl) ?_
    refine H_two 2 5 rfl rfl (by kernel_rfl) rfl rfl ?_ ?_
    · refine op_y (y_load rfl ag_168 (sees 0 0 rfl) rfl) rfl ?_
      refine ⟨(hsub (.cons _ (.refl _))), ?_⟩
      refine H_one 5 rfl (by kernel_rfl) rfl (op_y (y_load rfl ag_168 (sees 0 0 rfl) rfl) rfl ?_)
      refine ⟨(hsub (.cons _ (.refl _))), ?_⟩
      refine HY 6 rfl ((hsub (.cons _ (.refl _)))) rfl (y_shr rfl rfl (by omega) (show _ = ((v1 / 2 ^ 7 : Nat) : Int) from by show Int.fdiv (v1 : Int) (2 ^ 7) = _; rw [Int.fdiv_eq_ediv_of_nonneg _ (by decide)]; omega)) ?_
      refine HY 7 rfl ((hsub (.cons _ (.refl _)))) rfl (y_xor rfl rfl (show _ = ((v1 ^^^ (v1 / 2 ^ 7) : Nat) : Int) from bits_xor_u64_nat _ _ (by omega) (by omega))) ?_
      refine HY 8 rfl ((hsub (.cons _ (.refl _)))) rfl (y_nilCheck rfl) ?_
      refine H_one 9 rfl (by kernel_rfl) rfl (op_store1 0 0 rfl rfl rfl sz_168 rfl (Nat.le_of_ble_eq_true rfl) ?_)
      refine ⟨(hsub (.cons _ (.refl _))), ?_⟩
      refine H_done (by kernel_rfl) ?_
      obtain ⟨v2, hv2⟩ : ∃ z, z = v1 ^^^ (v1 / 2 ^ 7) := ⟨_, rfl⟩
      have hlv2 : v2 < 18446744073709551616 := by rw [hv2]; exact xor_u64 (by omega) (by omega)
      rw [← hv2]
      refine C_seq ?_
      refine C_regionH H (by kernel_rfl) ?_
      refine HY 0 rfl ((hsub (.cons _ (.refl _)))) rfl (y_move rfl) ?_
      refine HY 1 rfl ((hsub (.cons _ (.refl _)))) rfl (y_nilCheck rfl) ?_
      refine HY 3 rfl ((hsub (.cons _ (.refl _)))) rfl (y_move rfl) ?_
      refine HY 4 rfl ((hsub (.cons _ (.refl _)))) rfl (y_nilCheck rfl) ?_
      refine H_two 2 5 rfl rfl (by kernel_rfl) rfl rfl ?_ ?_
      · refine op_y (y_load rfl ag_168 (sees 0 0 rfl) rfl) rfl ?_
        refine ⟨(hsub (.cons _ (.refl _))), ?_⟩
        refine H_one 5 rfl (by kernel_rfl) rfl (op_y (y_load rfl ag_168 (sees 0 0 rfl) rfl) rfl ?_)
        refine ⟨(hsub (.cons _ (.refl _))), ?_⟩
        refine HY 6 rfl ((hsub (.cons _ (.refl _)))) rfl (y_shl rfl rfl (by omega) (show _ = ((v2 * 2 ^ 17 % 18446744073709551616 : Nat) : Int) from shl_u64)) ?_
        refine HY 7 rfl ((hsub (.cons _ (.refl _)))) rfl (y_xor rfl rfl (show _ = ((v2 ^^^ (v2 * 2 ^ 17 % 18446744073709551616) : Nat) : Int) from bits_xor_u64_nat _ _ (by omega) (by omega))) ?_
        refine HY 8 rfl ((hsub (.cons _ (.refl _)))) rfl (y_nilCheck rfl) ?_
        refine H_one 9 rfl (by kernel_rfl) rfl (op_store1 0 0 rfl rfl rfl sz_168 rfl (Nat.le_of_ble_eq_true rfl) ?_)
        refine ⟨(hsub (.cons _ (.refl _))), ?_⟩
        refine H_done (by kernel_rfl) ?_
        obtain ⟨v3, hv3⟩ : ∃ z, z = v2 ^^^ (v2 * 2 ^ 17 % 18446744073709551616) := ⟨_, rfl⟩
        have hlv3 : v3 < 18446744073709551616 := by rw [hv3]; exact xor_u64 (by omega) (by omega)
        rw [← hv3]
        refine C_seq (C_region (LY rfl (y_move rfl) (LY rfl (y_nilCheck rfl) (LY rfl (y_load rfl ag_168 (sees 0 0 rfl) rfl) (LY rfl (y_assign rfl) (L_nil (C_ret ?_)))))))
        refine B_ret (rv_tmp rfl rv_nil) ((hsub (.cons_cons _ (.refl _))).trans (hsub_pick [0] rfl)) ?_
        exact ⟨v3, hlv3, rfl, rfl⟩
      · refine op_y (y_load rfl ag_168 (sees 0 0 rfl) rfl) rfl ?_
        refine ⟨(hsub (.cons _ (.refl _))), ?_⟩
        refine HY 6 rfl ((hsub (.cons _ (.refl _)))) rfl (y_shl rfl rfl (by omega) (show _ = ((v2 * 2 ^ 17 % 18446744073709551616 : Nat) : Int) from shl_u64)) ?_
        refine H_one 2 rfl (by kernel_rfl) rfl (op_y (y_load rfl ag_168 (sees 0 0 rfl) rfl) rfl ?_)
        refine ⟨(hsub (.cons _ (.refl _))), ?_⟩
        refine HY 7 rfl ((hsub (.cons _ (.refl _)))) rfl (y_xor rfl rfl (show _ = ((v2 ^^^ (v2 * 2 ^ 17 % 18446744073709551616) : Nat) : Int) from bits_xor_u64_nat _ _ (by omega) (by omega))) ?_
        refine HY 8 rfl ((hsub (.cons _ (.refl _)))) rfl (y_nilCheck rfl) ?_
        refine H_one 9 rfl (by kernel_rfl) rfl (op_store1 0 0 rfl rfl rfl sz_168 rfl (Nat.le_of_ble_eq_true rfl) ?_)
        refine ⟨(hsub (.cons _ (.refl _))), ?_⟩
        refine H_done (by kernel_rfl) ?_
        obtain ⟨v3, hv3⟩ : ∃ z, z = v2 ^^^ (v2 * 2 ^ 17 % 18446744073709551616) := ⟨_, rfl⟩
        have hlv3 : v3 < 18446744073709551616 := by rw [hv3]; exact xor_u64 (by omega) (by omega)
        rw [← hv3]
        refine C_seq (C_region (LY rfl (y_move rfl) (LY rfl (y_nilCheck rfl) (LY rfl (y_load rfl ag_168 (sees 0 0 rfl) rfl) (LY rfl (y_assign rfl) (L_nil (C_ret ?_)))))))
        refine B_ret (rv_tmp rfl rv_nil) ((hsub (.cons_cons _ (.refl _))).trans (hsub_pick [0] rfl)) ?_
        exact ⟨v3, hlv3, rfl, rfl⟩
    · refine op_y (y_load rfl ag_168 (sees 0 0 rfl) rfl) rfl ?_
      refine ⟨(hsub (.cons _ (.refl _))), ?_⟩
      refine HY 6 rfl ((hsub (.cons _ (.refl _)))) rfl (y_shr rfl rfl (by omega) (show _ = ((v1 / 2 ^ 7 : Nat) : Int) from by show Int.fdiv (v1 : Int) (2 ^ 7) = _; rw [Int.fdiv_eq_ediv_of_nonneg _ (by decide)]; omega)) ?_
      refine H_one 2 rfl (by kernel_rfl) rfl (op_y (y_load rfl ag_168 (sees 0 0 rfl) rfl) rfl ?_)
      refine ⟨(hsub (.cons _ (.refl _))), ?_⟩
      refine HY 7 rfl ((hsub (.cons _ (.refl _)))) rfl (y_xor rfl rfl (show _ = ((v1 ^^^ (v1 / 2 ^ 7) : Nat) : Int) from bits_xor_u64_nat _ _ (by omega) (by omega))) ?_
      refine HY 8 rfl ((hsub (.cons _ (.refl _)))) rfl (y_nilCheck rfl) ?_
      refine H_one 9 rfl (by kernel_rfl) rfl (op_store1 0 0 rfl rfl rfl sz_168 rfl (Nat.le_of_ble_eq_true rfl) ?_)
      refine ⟨(hsub (.cons _ (.refl _))), ?_⟩
      refine H_done (by kernel_rfl) ?_
      obtain ⟨v2, hv2⟩ : ∃ z, z = v1 ^^^ (v1 / 2 ^ 7) := ⟨_, rfl⟩
      have hlv2 : v2 < 18446744073709551616 := by rw [hv2]; exact xor_u64 (by omega) (by omega)
      rw [← hv2]
      refine C_seq ?_
      refine C_regionH H (by kernel_rfl) ?_
      refine HY 0 rfl ((hsub (.cons _ (.refl _)))) rfl (y_move rfl) ?_
      refine HY 1 rfl ((hsub (.cons _ (.refl _)))) rfl (y_nilCheck rfl) ?_
      refine HY 3 rfl ((hsub (.cons _ (.refl _)))) rfl (y_move rfl) ?_
      refine HY 4 rfl ((hsub (.cons _ (.refl _)))) rfl (y_nilCheck rfl) ?_
      refine H_two 2 5 rfl rfl (by kernel_rfl) rfl rfl ?_ ?_
      · refine op_y (y_load rfl ag_168 (sees 0 0 rfl) rfl) rfl ?_
        refine ⟨(hsub (.cons _ (.refl _))), ?_⟩
        refine H_one 5 rfl (by kernel_rfl) rfl (op_y (y_load rfl ag_168 (sees 0 0 rfl) rfl) rfl ?_)
        refine ⟨(hsub (.cons _ (.refl _))), ?_⟩
        refine HY 6 rfl ((hsub (.cons _ (.refl _)))) rfl (y_shl rfl rfl (by omega) (show _ = ((v2 * 2 ^ 17 % 18446744073709551616 : Nat) : Int) from shl_u64)) ?_
        refine HY 7 rfl ((hsub (.cons _ (.refl _)))) rfl (y_xor rfl rfl (show _ = ((v2 ^^^ (v2 * 2 ^ 17 % 18446744073709551616) : Nat) : Int) from bits_xor_u64_nat _ _ (by omega) (by omega))) ?_
        refine HY 8 rfl ((hsub (.cons _ (.refl _)))) rfl (y_nilCheck rfl) ?_
        refine H_one 9 rfl (by kernel_rfl) rfl (op_store1 0 0 rfl rfl rfl sz_168 rfl (Nat.le_of_ble_eq_true rfl) ?_)
        refine ⟨(hsub (.cons _ (.refl _))), ?_⟩
        refine H_done (by kernel_rfl) ?_
        obtain ⟨v3, hv3⟩ : ∃ z, z = v2 ^^^ (v2 * 2 ^ 17 % 18446744073709551616) := ⟨_, rfl⟩
        have hlv3 : v3 < 18446744073709551616 := by rw [hv3]; exact xor_u64 (by omega) (by omega)
        rw [← hv3]
        refine C_seq (C_region (LY rfl (y_move rfl) (LY rfl (y_nilCheck rfl) (LY rfl (y_load rfl ag_168 (sees 0 0 rfl) rfl) (LY rfl (y_assign rfl) (L_nil (C_ret ?_)))))))
        refine B_ret (rv_tmp rfl rv_nil) ((hsub (.cons_cons _ (.refl _))).trans (hsub_pick [0] rfl)) ?_
        exact ⟨v3, hlv3, rfl, rfl⟩
      · refine op_y (y_load rfl ag_168 (sees 0 0 rfl) rfl) rfl ?_
        refine ⟨(hsub (.cons _ (.refl _))), ?_⟩
        refine HY 6 rfl ((hsub (.cons _ (.refl _)))) rfl (y_shl rfl rfl (by omega) (show _ = ((v2 * 2 ^ 17 % 18446744073709551616 : Nat) : Int) from shl_u64)) ?_
        refine H_one 2 rfl (by kernel_rfl) rfl (op_y (y_load rfl ag_168 (sees 0 0 rfl) rfl) rfl ?_)
        refine ⟨(hsub (.cons _ (.refl _))), ?_⟩
        refine HY 7 rfl ((hsub (.cons _ (.refl _)))) rfl (y_xor rfl rfl (show _ = ((v2 ^^^ (v2 * 2 ^ 17 % 18446744073709551616) : Nat) : Int) from bits_xor_u64_nat _ _ (by omega) (by omega))) ?_
        refine HY 8 rfl ((hsub (.cons _ (.refl _)))) rfl (y_nilCheck rfl) ?_
        refine H_one 9 rfl (by kernel_rfl) rfl (op_store1 0 0 rfl rfl rfl sz_168 rfl (Nat.le_of_ble_eq_true rfl) ?_)
        refine ⟨(hsub (.cons _ (.refl _))), ?_⟩
        refine H_done (by kernel_rfl) ?_
        obtain ⟨v3, hv3⟩ : ∃ z, z = v2 ^^^ (v2 * 2 ^ 17 % 18446744073709551616) := ⟨_, rfl⟩
        have hlv3 : v3 < 18446744073709551616 := by rw [hv3]; exact xor_u64 (by omega) (by omega)
        rw [← hv3]
        refine C_seq (C_region (LY rfl (y_move rfl) (LY rfl (y_nilCheck rfl) (LY rfl (y_load rfl ag_168 (sees 0 0 rfl) rfl) (LY rfl (y_assign rfl) (L_nil (C_ret ?_)))))))
        refine B_ret (rv_tmp rfl rv_nil) ((hsub (.cons_cons _ (.refl _))).trans (hsub_pick [0] rfl)) ?_
        exact ⟨v3, hlv3, rfl, rfl⟩
  · refine op_y (y_load rfl ag_168 (sees 0 0 rfl) rfl) rfl ?_
    refine ⟨(hsub (.cons _ (.refl _))), ?_⟩
    refine HY 6 rfl ((hsub (.cons _ (.refl _)))) rfl (y_shl rfl rfl (by omega) (show _ = ((v * 2 ^ 13 % 18446744073709551616 : Nat) : Int) from shl_u64)) ?_
    refine H_one 2 rfl (by kernel_rfl) rfl (op_y (y_load rfl ag_168 (sees 0 0 rfl) rfl) rfl ?_)
    refine ⟨(hsub (.cons _ (.refl _))), ?_⟩
    refine HY 7 rfl ((hsub (.cons _ (.refl _)))) rfl (y_xor rfl rfl (show _ = ((v ^^^ (v * 2 ^ 13 % 18446744073709551616) : Nat) : Int) from bits_xor_u64_nat _ _ (by omega) (by omega))) ?_
    refine HY 8 rfl ((hsub (.cons _ (.refl _)))) rfl (y_nilCheck rfl) ?_
    refine H_one 9 rfl (by kernel_rfl) rfl (op_store1 0 0 rfl rfl rfl sz_168 rfl (Nat.le_of_ble_eq_true rfl) ?_)
    refine ⟨(hsub (.cons _ (.refl _))), ?_⟩
    refine H_done (by kernel_rfl) ?_
    obtain ⟨v1, hv1⟩ : ∃ z, z = v ^^^ (v * 2 ^ 13 % 18446744073709551616) := ⟨_, rfl⟩
    have hlv1 : v1 < 18446744073709551616 := by rw [hv1]; exact xor_u64 (by omega) (by omega)
    rw [← hv1]
    refine C_seq ?_
    refine C_regionH H (by kernel_rfl) ?_
    refine HY 0 rfl ((hsub (.cons _ (.refl _)))) rfl (y_move rfl) ?_
    refine HY 1 rfl ((hsub (.cons _ (.refl _)))) rfl (y_nilCheck rfl) ?_
    refine HY 3 rfl ((hsub (.cons _ (.refl _)))) rfl (y_move rfl) ?_
    refine HY 4 rfl ((hsub (.cons _ (.refl _)))) rfl (y_nilCheck rfl) ?_
    refine H_two 2 5 rfl rfl (by kernel_rfl) rfl rfl ?_ ?_
    · refine op_y (y_load rfl ag_168 (sees 0 0 rfl) rfl) rfl ?_
      refine ⟨(hsub (.cons _ (.refl _))), ?_⟩
      refine H_one 5 rfl (by kernel_rfl) rfl (op_y (y_load rfl ag_168 (sees 0 0 rfl) rfl) rfl ?_)
      refine ⟨(hsub (.cons _ (.refl _))), ?_⟩
      refine HY 6 rfl ((hsub (.cons _ (.refl _)))) rfl (y_shr rfl rfl (by omega) (show _ = ((v1 / 2 ^ 7 : Nat) : Int) from by show Int.fdiv (v1 : Int) (2 ^ 7) = _; rw [Int.fdiv_eq_ediv_of_nonneg _ (by decide)]; omega)) ?_
      refine HY 7 rfl ((hsub (.cons _ (.refl _)))) rfl (y_xor rfl rfl (show _ = ((v1 ^^^ (v1 / 2 ^ 7) : Nat) : Int) from bits_xor_u64_nat _ _ (by omega) (by omega))) ?_
      refine HY 8 rfl ((hsub (.cons _ (.refl _)))) rfl (y_nilCheck rfl) ?_
      refine H_one 9 rfl (by kernel_rfl) rfl (op_store1 0 0 rfl rfl rfl sz_168 rfl (Nat.le_of_ble_eq_true rfl) ?_)
      refine ⟨(hsub (.cons _ (.refl _))), ?_⟩
      refine H_done (by kernel_rfl) ?_
      obtain ⟨v2, hv2⟩ : ∃ z, z = v1 ^^^ (v1 / 2 ^ 7) := ⟨_, rfl⟩
      have hlv2 : v2 < 18446744073709551616 := by rw [hv2]; exact xor_u64 (by omega) (by omega)
      rw [← hv2]
      refine C_seq ?_
      refine C_regionH H (by kernel_rfl) ?_
      refine HY 0 rfl ((hsub (.cons _ (.refl _)))) rfl (y_move rfl) ?_
      refine HY 1 rfl ((hsub (.cons _ (.refl _)))) rfl (y_nilCheck rfl) ?_
      refine HY 3 rfl ((hsub (.cons _ (.refl _)))) rfl (y_move rfl) ?_
      refine HY 4 rfl ((hsub (.cons _ (.refl _)))) rfl (y_nilCheck rfl) ?_
      refine H_two 2 5 rfl rfl (by kernel_rfl) rfl rfl ?_ ?_
      · refine op_y (y_load rfl ag_168 (sees 0 0 rfl) rfl) rfl ?_
        refine ⟨(hsub (.cons _ (.refl _))), ?_⟩
        refine H_one 5 rfl (by kernel_rfl) rfl (op_y (y_load rfl ag_168 (sees 0 0 rfl) rfl) rfl ?_)
        refine ⟨(hsub (.cons _ (.refl _))), ?_⟩
        refine HY 6 rfl ((hsub (.cons _ (.refl _)))) rfl (y_shl rfl rfl (by omega) (show _ = ((v2 * 2 ^ 17 % 18446744073709551616 : Nat) : Int) from shl_u64)) ?_
        refine HY 7 rfl ((hsub (.cons _ (.refl _)))) rfl (y_xor rfl rfl (show _ = ((v2 ^^^ (v2 * 2 ^ 17 % 18446744073709551616) : Nat) : Int) from bits_xor_u64_nat _ _ (by omega) (by omega))) ?_
        refine HY 8 rfl ((hsub (.cons _ (.refl _)))) rfl (y_nilCheck rfl) ?_
        refine H_one 9 rfl (by kernel_rfl) rfl (op_store1 0 0 rfl rfl rfl sz_168 rfl (Nat.le_of_ble_eq_true rfl) ?_)
        refine ⟨(hsub (.cons _ (.refl _))), ?_⟩
        refine H_done (by kernel_rfl) ?_
        obtain ⟨v3, hv3⟩ : ∃ z, z = v2 ^^^ (v2 * 2 ^ 17 % 18446744073709551616) := ⟨_, rfl⟩
        have hlv3 : v3 < 18446744073709551616 := by rw [hv3]; exact xor_u64 (by omega) (by omega)
        rw [← hv3]
        refine C_seq (C_region (LY rfl (y_move rfl) (LY rfl (y_nilCheck rfl) (LY rfl (y_load rfl ag_168 (sees 0 0 rfl) rfl) (LY rfl (y_assign rfl) (L_nil (C_ret ?_)))))))
        refine B_ret (rv_tmp rfl rv_nil) ((hsub (.cons_cons _ (.refl _))).trans (hsub_pick [0] rfl)) ?_
        exact ⟨v3, hlv3, rfl, rfl⟩
      · refine op_y (y_load rfl ag_168 (sees 0 0 rfl) rfl) rfl ?_
        refine ⟨(hsub (.cons _ (.refl _))), ?_⟩
        refine HY 6 rfl ((hsub (.cons _ (.refl _)))) rfl (y_shl rfl rfl (by omega) (show _ = ((v2 * 2 ^ 17 % 18446744073709551616 : Nat) : Int) from shl_u64)) ?_
        refine H_one 2 rfl (by kernel_rfl) rfl (op_y (y_load rfl ag_168 (sees 0 0 rfl) rfl) rfl ?_)
        refine ⟨(hsub (.cons _ (.refl _))), ?_⟩
        refine HY 7 rfl ((hsub (.cons _ (.refl _)))) rfl (y_xor rfl rfl (show _ = ((v2 ^^^ (v2 * 2 ^ 17 % 18446744073709551616) : Nat) : Int) from bits_xor_u64_nat _ _ (by omega) (by omega))) ?_
        refine HY 8 rfl ((hsub (.cons _ (.refl _)))) rfl (y_nilCheck rfl) ?_
        refine H_one 9 rfl (by kernel_rfl) rfl (op_store1 0 0 rfl rfl rfl sz_168 rfl (Nat.le_of_ble_eq_true rfl) ?_)
        refine ⟨(hsub (.cons _ (.refl _))), ?_⟩
        refine H_done (by kernel_rfl) ?_
        obtain ⟨v3, hv3⟩ : ∃ z, z = v2 ^^^ (v2 * 2 ^ 17 % 18446744073709551616) := ⟨_, rfl⟩
        have hlv3 : v3 < 18446744073709551616 := by rw [hv3]; exact xor_u64 (by omega) (by omega)
        rw [← hv3]
        refine C_seq (C_region (LY rfl (y_move rfl) (LY rfl (y_nilCheck rfl) (LY rfl (y_load rfl ag_168 (sees 0 0 rfl) rfl) (LY rfl (y_assign rfl) (L_nil (C_ret ?_)))))))
        refine B_ret (rv_tmp rfl rv_nil) ((hsub (.cons_cons _ (.refl _))).trans (hsub_pick [0] rfl)) ?_
        exact ⟨v3, hlv3, rfl, rfl⟩
    · refine op_y (y_load rfl ag_168 (sees 0 0 rfl) rfl) rfl ?_
      refine ⟨(hsub (.cons _ (.refl _))), ?_⟩
      refine HY 6 rfl ((hsub (.cons _ (.refl _)))) rfl (y_shr rfl rfl (by omega) (show _ = ((v1 / 2 ^ 7 : Nat) : Int) from by show Int.fdiv (v1 : Int) (2 ^ 7) = _; rw [Int.fdiv_eq_ediv_of_nonneg _ (by decide)]; omega)) ?_
      refine H_one 2 rfl (by kernel_rfl) rfl (op_y (y_load rfl ag_168 (sees 0 0 rfl) rfl) rfl ?_)
      refine ⟨(hsub (.cons _ (.refl _))), ?_⟩
      refine HY 7 rfl ((hsub (.cons _ (.refl _)))) rfl (y_xor rfl rfl (show _ = ((v1 ^^^ (v1 / 2 ^ 7) : Nat) : Int) from bits_xor_u64_nat _ _ (by omega) (by omega))) ?_
      refine HY 8 rfl ((hsub (.cons _ (.refl _)))) rfl (y_nilCheck rfl) ?_
      refine H_one 9 rfl (by kernel_rfl) rfl (op_store1 0 0 rfl rfl rfl sz_168 rfl (Nat.le_of_ble_eq_true rfl) ?_)
      refine ⟨(hsub (.cons _ (.refl _))), ?_⟩
      refine H_done (by kernel_rfl) ?_
      obtain ⟨v2, hv2⟩ : ∃ z, z = v1 ^^^ (v1 / 2 ^ 7) := ⟨_, rfl⟩
      have hlv2 : v2 < 18446744073709551616 := by rw [hv2]; exact xor_u64 (by omega) (by omega)
      rw [← hv2]
      refine C_seq ?_
      refine C_regionH H (by kernel_rfl) ?_
      refine HY 0 rfl ((hsub (.cons _ (.refl _)))) rfl (y_move rfl) ?_
      refine HY 1 rfl ((hsub (.cons _ (.refl _)))) rfl (y_nilCheck rfl) ?_
      refine HY 3 rfl ((hsub (.cons _ (.refl _)))) rfl (y_move rfl) ?_
      refine HY 4 rfl ((hsub (.cons _ (.refl _)))) rfl (y_nilCheck rfl) ?_
      refine H_two 2 5 rfl rfl (by kernel_rfl) rfl rfl ?_ ?_
      · refine op_y (y_load rfl ag_168 (sees 0 0 rfl) rfl) rfl ?_
        refine ⟨(hsub (.cons _ (.refl _))), ?_⟩
        refine H_one 5 rfl (by kernel_rfl) rfl (op_y (y_load rfl ag_168 (sees 0 0 rfl) rfl) rfl ?_)
        refine ⟨(hsub (.cons _ (.refl _))), ?_⟩
        refine HY 6 rfl ((hsub (.cons _ (.refl _)))) rfl (y_shl rfl rfl (by omega) (show _ = ((v2 * 2 ^ 17 % 18446744073709551616 : Nat) : Int) from shl_u64)) ?_
        refine HY 7 rfl ((hsub (.cons _ (.refl _)))) rfl (y_xor rfl rfl (show _ = ((v2 ^^^ (v2 * 2 ^ 17 % 18446744073709551616) : Nat) : Int) from bits_xor_u64_nat _ _ (by omega) (by omega))) ?_
        refine HY 8 rfl ((hsub (.cons _ (.refl _)))) rfl (y_nilCheck rfl) ?_
        refine H_one 9 rfl (by kernel_rfl) rfl (op_store1 0 0 rfl rfl rfl sz_168 rfl (Nat.le_of_ble_eq_true rfl) ?_)
        refine ⟨(hsub (.cons _ (.refl _))), ?_⟩
        refine H_done (by kernel_rfl) ?_
        obtain ⟨v3, hv3⟩ : ∃ z, z = v2 ^^^ (v2 * 2 ^ 17 % 18446744073709551616) := ⟨_, rfl⟩
        have hlv3 : v3 < 18446744073709551616 := by rw [hv3]; exact xor_u64 (by omega) (by omega)
        rw [← hv3]
        refine C_seq (C_region (LY rfl (y_move rfl) (LY rfl (y_nilCheck rfl) (LY rfl (y_load rfl ag_168 (sees 0 0 rfl) rfl) (LY rfl (y_assign rfl) (L_nil (C_ret ?_)))))))
        refine B_ret (rv_tmp rfl rv_nil) ((hsub (.cons_cons _ (.refl _))).trans (hsub_pick [0] rfl)) ?_
        exact ⟨v3, hlv3, rfl, rfl⟩
      · refine op_y (y_load rfl ag_168 (sees 0 0 rfl) rfl) rfl ?_
        refine ⟨(hsub (.cons _ (.refl _))), ?_⟩
        refine HY 6 rfl ((hsub (.cons _ (.refl _)))) rfl (y_shl rfl rfl (by omega) (show _ = ((v2 * 2 ^ 17 % 18446744073709551616 : Nat) : Int) from shl_u64)) ?_
        refine H_one 2 rfl (by kernel_rfl) rfl (op_y (y_load rfl ag_168 (sees 0 0 rfl) rfl) rfl ?_)
        refine ⟨(hsub (.cons _ (.refl _))), ?_⟩
        refine HY 7 rfl ((hsub (.cons _ (.refl _)))) rfl (y_xor rfl rfl (show _ = ((v2 ^^^ (v2 * 2 ^ 17 % 18446744073709551616) : Nat) : Int) from bits_xor_u64_nat _ _ (by omega) (by omega))) ?_
        refine HY 8 rfl ((hsub (.cons _ (.refl _)))) rfl (y_nilCheck rfl) ?_
        refine H_one 9 rfl (by kernel_rfl) rfl (op_store1 0 0 rfl rfl rfl sz_168 rfl (Nat.le_of_ble_eq_true rfl) ?_)
        refine ⟨(hsub (.cons _ (.refl _))), ?_⟩
        refine H_done (by kernel_rfl) ?_
        obtain ⟨v3, hv3⟩ : ∃ z, z = v2 ^^^ (v2 * 2 ^ 17 % 18446744073709551616) := ⟨_, rfl⟩
        have hlv3 : v3 < 18446744073709551616 := by rw [hv3]; exact xor_u64 (by omega) (by omega)
        rw [← hv3]
        refine C_seq (C_region (LY rfl (y_move rfl) (LY rfl (y_nilCheck rfl) (LY rfl (y_load rfl ag_168 (sees 0 0 rfl) rfl) (LY rfl (y_assign rfl) (L_nil (C_ret ?_)))))))
        refine B_ret (rv_tmp rfl rv_nil) ((hsub (.cons_cons _ (.refl _))).trans (hsub_pick [0] rfl)) ?_
        exact ⟨v3, hlv3, rfl, rfl⟩

set_option maxHeartbeats 2000000 in

theorem break_u {w0 : World} {H : Hp} {sb n cap : Nat} {sp : List Value} (d : Array Nat) (hd : d.size = n) (hn : n < 65536) (a b : Nat) (hab : 12 < b - a) (hb : b ≤ n) : FnS Try.prog w0 85 #[(.slice (some ⟨sb, 0, none⟩) n cap), .int .i64 ((a : Nat) : Int), .int .i64 ((b : Nat) : Int)] (useg 48 sb d sp :: H) (fun e H' => ∃ d', Go.Sort.PermIn a b d d' ∧ e = .returned (.tuple #[]) ∧ H' = useg 48 sb d' sp :: H) := by
  obtain ⟨hp1, hp2, hp3⟩ := pow_bits (x := b - a) (by omega) (by omega)
  have hbl := bits_le (show b - a < 65536 by omega)
  refine FnS_intro (n := 65) (rs := []) (vs := [(.slice (some ⟨sb, 0, none⟩) n cap), .int .i64 ((a : Nat) : Int), .int .i64 ((b : Nat) : Int)]) Try.func85 rfl Try.ntmps85 rfl rfl ?_
  refine C_seq (C_region (LY rfl (y_move rfl) (LY rfl (y_move rfl) ?_)))
  refine LY rfl (y_sub rfl rfl (show _ = ((b - a : Nat) : Int) from by rw [wi64 (by omega) (by omega)]; omega)) ?_
  refine LY rfl (y_assign rfl) (L_nil (C_seq (C_region (LY rfl (y_move rfl) ?_))))
  refine LY rfl (y_geq rfl rfl) ?_
  refine L_nil ?_
  refine C_cond rfl (fun hc0 => ?_) (fun hc0 => absurd hc0 (by simp <;> omega))
  refine C_seq (C_region (LY rfl (y_move rfl) ?_))
  refine LY rfl (y_conv rfl us_3 Try.underlying168 (show _ = ((b - a : Nat) : Int) from wu64 (by omega) (by omega))) ?_
  refine L_op rfl (op_alloc zl_168 rfl (fun B1 => ?_))
  refine L_op rfl (op_store1 0 0 rfl rfl rfl sz_168 rfl (Nat.le_of_ble_eq_true rfl) ?_)
  refine L_nil (C_seq (C_region (LY rfl (y_move rfl) ?_)))
  refine L_op rfl (op_call rfl rfl (fun a w => Try.call97 a w) rfl ?_)
  refine (npow_u (b - a) (by omega)).mono ?_
  rintro _ _ ⟨rfl, e⟩
  obtain rfl := e.symm
  clear e
  refine ⟨_, rfl, ?_⟩
  refine LY rfl (y_assign rfl) (L_nil (C_seq (C_region (LY rfl (y_move rfl) (LY rfl (y_move rfl) ?_)))))
  refine LY rfl (y_quo rfl rfl (by omega) (show _ = (((b - a) / 4 : Nat) : Int) from by rw [Int.tdiv_eq_ediv_of_nonneg (by omega), wi64 (by omega) (by omega)]; omega)) ?_
  refine LY rfl (y_mul rfl rfl (show _ = (((b - a) / 4 * 2 : Nat) : Int) from by rw [wi64 (by omega) (by omega)]; omega)) ?_
  refine LY rfl (y_add rfl rfl (show _ = ((a + (b - a) / 4 * 2 : Nat) : Int) from by rw [wi64 (by omega) (by omega)]; omega)) ?_
  refine LY rfl (y_sub rfl rfl (show _ = ((a + (b - a) / 4 * 2 - 1 : Nat) : Int) from by rw [wi64 (by omega) (by omega)]; omega)) ?_
  refine LY rfl (y_assign rfl) (L_nil (C_block ?_))
  refine C_loop (ι := Array Nat × Nat × Nat) (fun y => [(0, (.slice (some ⟨sb, 0, none⟩) n cap)), (1, .int .i64 ((a : Nat) : Int)), (2, .int .i64 ((b : Nat) : Int)), (6, .int .i64 ((b - a : Nat) : Int)), (7, ptr B1), (8, .int .u64 ((2 ^ Go.Sort.bitsLen (b - a) : Nat) : Int)), (9, .int .i64 ((y.2.2 : Nat) : Int))]) (fun y => useg 48 sb y.1 sp :: [(B1, .cells [Value.int .u64 ((y.2.1 : Nat) : Int)].toArray 168)] :: H) (fun y => Go.Sort.PermIn a b d y.1 ∧ y.2.1 < 18446744073709551616 ∧ a ≤ y.2.2 ∧ y.2.2 ≤ a + (b - a) / 4 * 2 + 2) (fun y => a + (b - a) / 4 * 2 + 2 - y.2.2) (d, b - a, a + (b - a) / 4 * 2 - 1) ⟨Go.Sort.permIn_refl _ _ _, by simp only; omega, by simp only; omega, by simp only; omega⟩ ⟨rfl, rfl, rfl, rfl, rfl, rfl, rfl, trivial⟩ ((hsub (.cons_cons _ (.cons_cons _ (.refl _)))).trans (hsub_pick [1, 0] rfl)) (fun y hy => ?_)
  obtain ⟨e1, v, q⟩ := y
  obtain ⟨hpe, hv, hq1, hq2⟩ := hy
  try simp only at hpe hv hq1 hq2
  try dsimp only
  have hse : e1.size = n := by rw [hpe.1]; exact hd
  refine C_seq (C_seq (C_region (LY rfl (y_move rfl) (LY rfl (y_move rfl) (LY rfl (y_move rfl) ?_)))))
  refine LY rfl (y_quo rfl rfl (by omega) (show _ = (((b - a) / 4 : Nat) : Int) from by rw [Int.tdiv_eq_ediv_of_nonneg (by omega), wi64 (by omega) (by omega)]; omega)) ?_
  refine LY rfl (y_mul rfl rfl (show _ = (((b - a) / 4 * 2 : Nat) : Int) from by rw [wi64 (by omega) (by omega)]; omega)) ?_
  refine LY rfl (y_add rfl rfl (show _ = ((a + (b - a) / 4 * 2 : Nat) : Int) from by rw [wi64 (by omega) (by omega)]; omega)) ?_
  refine LY rfl (y_add rfl rfl (show _ = ((a + (b - a) / 4 * 2 + 1 : Nat) : Int) from by rw [wi64 (by omega) (by omega)]; omega)) ?_
  refine LY rfl (y_leq rfl rfl) ?_
  refine L_nil ?_
  refine C_cond rfl (fun hc1 => ?_) (fun hc1 => ?_)
  · replace hc1 : q ≤ a + (b - a) / 4 * 2 + 1 := by have := of_decide_eq_true hc1; omega
    refine C_skip (C_seq (C_block (C_seq (C_region ?_))))
    refine L_op rfl (op_call rfl rfl (fun a w => Try.call98 a w) rfl ?_)
    refine (FnS.sub (hsub_pick [1] rfl) (xnext_u v hv)).mono ?_
    rintro _ _ ⟨v', hv', rfl, rfl⟩
    refine ⟨_, rfl, ?_⟩
    refine LY rfl (y_move rfl) ?_
    refine LY rfl (y_sub rfl rfl (show _ = ((2 ^ Go.Sort.bitsLen (b - a) - 1 : Nat) : Int) from by rw [wu64 (by omega) (by omega)]; omega)) ?_
    refine LY rfl (y_and rfl rfl (show _ = ((v' &&& (2 ^ Go.Sort.bitsLen (b - a) - 1) : Nat) : Int) from bits_and_u64_nat _ _ (by omega) (by omega))) ?_
    have hand : v' &&& (2 ^ Go.Sort.bitsLen (b - a) - 1) ≤ 2 ^ Go.Sort.bitsLen (b - a) - 1 := Nat.and_le_right
    obtain ⟨o0, ho0⟩ : ∃ z, z = v' &&& (2 ^ Go.Sort.bitsLen (b - a) - 1) := ⟨_, rfl⟩
    rw [← ho0] at hand ⊢
    refine LY rfl (y_conv rfl us_144 Try.underlying3 (show _ = ((o0 : Nat) : Int) from by rw [wi64 (by omega) (by omega)])) ?_
    refine LY rfl (y_assign rfl) (L_nil ?_)
    refine C_cutG (ι := Nat) (fun w => w < b - a) (fun w => [(0, (.slice (some ⟨sb, 0, none⟩) n cap)), (1, .int .i64 ((a : Nat) : Int)), (2, .int .i64 ((b : Nat) : Int)), (6, .int .i64 ((b - a : Nat) : Int)), (7, ptr B1), (8, .int .u64 ((2 ^ Go.Sort.bitsLen (b - a) : Nat) : Int)), (9, .int .i64 ((q : Nat) : Int)), (10, .int .i64 ((w : Nat) : Int))]) (fun w => useg 48 sb e1 sp :: [(B1, .cells [Value.int .u64 ((v' : Nat) : Int)].toArray 168)] :: H) ?_ (fun w hw => ?_)
    · refine C_seq (C_region (LY rfl (y_move rfl) (LY rfl (y_move rfl) ?_)))
      refine LY rfl (y_geq rfl rfl) ?_
      refine L_nil ?_
      refine C_cond rfl (fun hc2 => ?_) (fun hc2 => ?_)
      · replace hc2 : b - a ≤ o0 := by have := of_decide_eq_true hc2; omega
        refine C_region (LY rfl (y_move rfl) (LY rfl (y_move rfl) ?_))
        refine LY rfl (y_sub rfl rfl (show _ = ((o0 - (b - a) : Nat) : Int) from by rw [wi64 (by omega) (by omega)]; omega)) ?_
        refine LY rfl (y_assign rfl) (L_nil ?_)
        exact ⟨_, (by omega), ⟨rfl, rfl, rfl, rfl, rfl, rfl, rfl, rfl, trivial⟩, ((hsub (.cons_cons _ (.cons_cons _ (.refl _)))).trans (hsub_pick [1, 0] rfl))⟩
      · replace hc2 : ¬ b - a ≤ o0 := by have := of_decide_eq_false hc2; omega
        refine C_skip ?_
        exact ⟨_, (by omega), ⟨rfl, rfl, rfl, rfl, rfl, rfl, rfl, rfl, trivial⟩, ((hsub (.cons_cons _ (.cons_cons _ (.refl _)))).trans (hsub_pick [1, 0] rfl))⟩
    · try dsimp only at hw ⊢
      refine C_regionH ([(B1, .cells [Value.int .u64 ((v' : Nat) : Int)].toArray 168)] :: H) (by kernel_rfl) ?_
      refine HY 0 rfl ((hsub (.cons _ (.refl _)))) rfl (y_move rfl) ?_
      refine HY 1 rfl ((hsub (.cons _ (.refl _)))) rfl (y_move rfl) ?_
      refine HY 2 rfl ((hsub (.cons _ (.refl _)))) rfl (y_move rfl) ?_
      refine HY 3 rfl ((hsub (.cons _ (.refl _)))) rfl (y_move rfl) ?_
      refine HY 4 rfl ((hsub (.cons _ (.refl _)))) rfl (y_move rfl) ?_
      refine HY 5 rfl ((hsub (.cons _ (.refl _)))) rfl (y_add rfl rfl (show _ = ((a + w : Nat) : Int) from by rw [wi64 (by omega) (by omega)]; omega)) ?_
      refine HY 6 rfl ((hsub (.cons _ (.refl _)))) rfl (y_move rfl) ?_
      refine HY 7 rfl ((hsub (.cons _ (.refl _)))) rfl (y_move rfl) ?_
      refine HY 8 rfl ((hsub (.cons _ (.refl _)))) rfl (y_move rfl) ?_
      refine HY 9 rfl ((hsub (.cons _ (.refl _)))) rfl (y_add rfl rfl (show _ = ((a + w : Nat) : Int) from by rw [wi64 (by omega) (by omega)]; omega)) ?_
      refine HY 10 rfl ((hsub (.cons _ (.refl _)))) rfl (y_indexS rfl rfl Try.underlying33 sz_48 (by omega) (by omega) (ix0 ((a + w)))) ?_
      refine HY 12 rfl ((hsub (.cons _ (.refl _)))) rfl (y_move rfl) ?_
      refine HY 13 rfl ((hsub (.cons _ (.refl _)))) rfl (y_move rfl) ?_
      refine HY 14 rfl ((hsub (.cons _ (.refl _)))) rfl (y_indexS rfl rfl Try.underlying33 sz_48 (by omega) (by omega) (ix0 (q))) ?_
      refine H_two 11 15 rfl rfl (by kernel_rfl) rfl rfl ?_ ?_
      · refine op_y (y_load rfl ag_48 (sees 0 0 rfl) (us_at (by omega))) rfl ?_
        refine ⟨(hsub (.cons _ (.refl _))), ?_⟩
        refine H_one 15 rfl (by kernel_rfl) rfl (op_y (y_load rfl ag_48 (sees 0 0 rfl) (us_at (by omega))) rfl ?_)
        refine ⟨(hsub (.cons _ (.refl _))), ?_⟩
        refine HY 16 rfl ((hsub (.cons _ (.refl _)))) rfl (y_indexS rfl rfl Try.underlying33 sz_48 (by omega) (by omega) (ix0 (q))) ?_
        refine H_one 17 rfl (by kernel_rfl) rfl (op_store1 0 0 rfl rfl rfl sz_48 rfl (us_lt (by omega)) ?_)
        refine ⟨(hsub (.cons _ (.refl _))), ?_⟩
        refine HY 18 rfl ((hsub (.cons _ (.refl _)))) rfl (y_indexS rfl rfl Try.underlying33 sz_48 (by omega) (by omega) (ix0 ((a + w)))) ?_
        refine H_one 19 rfl (by kernel_rfl) rfl (op_store1 0 0 rfl rfl rfl sz_48 rfl (by rw [List.length_set]; exact us_lt (by omega)) ?_)
        refine ⟨(hsub (.cons _ (.refl _))), ?_⟩
        refine H_done (by kernel_rfl) ?_
        rw [us_swp (by omega) (by omega)]
        refine C_region (LY rfl (y_move rfl) ?_)
        refine LY rfl (y_add rfl rfl (show _ = ((q + 1 : Nat) : Int) from by rw [wi64 (by omega) (by omega)]; omega)) ?_
        refine LY rfl (y_assign rfl) (L_nil ?_)
        exact ⟨(Go.Sort.swp e1 q (a + w), v', q + 1), ⟨Go.Sort.permIn_trans _ _ _ _ _ hpe (Go.Sort.swp_permIn _ _ _ _ _ (by omega) (by omega) (by omega) (by omega) (by omega)), hv', by simp only; omega, by simp only; omega⟩, by simp only; omega, ⟨rfl, rfl, rfl, rfl, rfl, rfl, rfl, trivial⟩, ((hsub (.cons_cons _ (.cons_cons _ (.refl _)))).trans (hsub_pick [0, 0] rfl))⟩
      · refine op_y (y_load rfl ag_48 (sees 0 0 rfl) (us_at (by omega))) rfl ?_
        refine ⟨(hsub (.cons _ (.refl _))), ?_⟩
        refine H_one 11 rfl (by kernel_rfl) rfl (op_y (y_load rfl ag_48 (sees 0 0 rfl) (us_at (by omega))) rfl ?_)
        refine ⟨(hsub (.cons _ (.refl _))), ?_⟩
        refine HY 16 rfl ((hsub (.cons _ (.refl _)))) rfl (y_indexS rfl rfl Try.underlying33 sz_48 (by omega) (by omega) (ix0 (q))) ?_
        refine H_one 17 rfl (by kernel_rfl) rfl (op_store1 0 0 rfl rfl rfl sz_48 rfl (us_lt (by omega)) ?_)
        refine ⟨(hsub (.cons _ (.refl _))), ?_⟩
        refine HY 18 rfl ((hsub (.cons _ (.refl _)))) rfl (y_indexS rfl rfl Try.underlying33 sz_48 (by omega) (by omega) (ix0 ((a + w)))) ?_
        refine H_one 19 rfl (by kernel_rfl) rfl (op_store1 0 0 rfl rfl rfl sz_48 rfl (by rw [List.length_set]; exact us_lt (by omega)) ?_)
        refine ⟨(hsub (.cons _ (.refl _))), ?_⟩
        refine H_done (by kernel_rfl) ?_
        rw [us_swp (by omega) (by omega)]
        refine C_region (LY rfl (y_move rfl) ?_)
        refine LY rfl (y_add rfl rfl (show _ = ((q + 1 : Nat) : Int) from by rw [wi64 (by omega) (by omega)]; omega)) ?_
        refine LY rfl (y_assign rfl) (L_nil ?_)
        exact ⟨(Go.Sort.swp e1 q (a + w), v', q + 1), ⟨Go.Sort.permIn_trans _ _ _ _ _ hpe (Go.Sort.swp_permIn _ _ _ _ _ (by omega) (by omega) (by omega) (by omega) (by omega)), hv', by simp only; omega, by simp only; omega⟩, by simp only; omega, ⟨rfl, rfl, rfl, rfl, rfl, rfl, rfl, trivial⟩, ((hsub (.cons_cons _ (.cons_cons _ (.refl _)))).trans (hsub_pick [0, 0] rfl))⟩
  · skip
    refine C_exit ?_
    refine B_end rv_nil ((hsub (.cons_cons _ (.cons _ (.refl _)))).trans (hsub_pick [0] rfl)) ?_
    exact ⟨e1, hpe, rfl, rfl⟩

end Go.Proofs.Ytighbhplfjjgpaa

/- walks (own work; the walks' lines by a program of this repo). -/
set_option linter.unusedVariables false
set_option linter.unusedSimpArgs false
set_option maxRecDepth 20000
namespace Go.Proofs.Ytighbhplfjjgpaa
open Go.Sl
attribute [local irreducible] BodyQ WpC WpL WpS WpH OpW FnS



set_option maxHeartbeats 4000000 in

theorem pdq_step {w0 : World} {H : Hp} {sb n cap : Nat} {sp : List Value} (hn : n < 65536) (m : Nat) (ih : ∀ (a b limit : Nat) (d : Array Nat), b - a < m → d.size = n → limit ≤ 64 → a ≤ b → b ≤ n → Go.Sort.Below ltN a b d → FnS Try.prog w0 72 #[(.slice (some ⟨sb, 0, none⟩) n cap), .int .i64 ((a : Nat) : Int), .int .i64 ((b : Nat) : Int), .int .i64 ((limit : Nat) : Int)] (useg 48 sb d sp :: H) (fun e H' => ∃ d', Srt a b d d' ∧ e = .returned (.tuple #[]) ∧ H' = useg 48 sb d' sp :: H)) (a b limit : Nat) (d : Array Nat) (hm : b - a ≤ m) (hd : d.size = n) (hlim : limit ≤ 64) (hab : a ≤ b) (hb : b ≤ n) (hB : Go.Sort.Below ltN a b d) : FnS Try.prog w0 72 #[(.slice (some ⟨sb, 0, none⟩) n cap), .int .i64 ((a : Nat) : Int), .int .i64 ((b : Nat) : Int), .int .i64 ((limit : Nat) : Int)] (useg 48 sb d sp :: H) (fun e H' => ∃ d', Srt a b d d' ∧ e = .returned (.tuple #[]) ∧ H' = useg 48 sb d' sp :: H) := by
  refine FnS_intro (n := 134) (rs := []) (vs := [(.slice (some ⟨sb, 0, none⟩) n cap), .int .i64 ((a : Nat) : Int), .int .i64 ((b : Nat) : Int), .int .i64 ((limit : Nat) : Int)]) Try.func72 rfl Try.ntmps72 rfl rfl ?_
  refine C_seq (C_region (LY rfl (y_assign rfl) (L_nil (C_seq (C_region (LY rfl (y_assign rfl) (L_nil (C_block ?_))))))))
  refine C_loop (ι := Array Nat × Nat × Nat × Nat × Bool × Bool) (fun x => [(0, (.slice (some ⟨sb, 0, none⟩) n cap)), (1, .int .i64 ((x.2.1 : Nat) : Int)), (2, .int .i64 ((x.2.2.1 : Nat) : Int)), (3, .int .i64 ((x.2.2.2.1 : Nat) : Int)), (8, .bool x.2.2.2.2.1), (9, .bool x.2.2.2.2.2)]) (fun x => useg 48 sb x.1 sp :: H) (fun x => x.1.size = n ∧ x.2.1 ≤ x.2.2.1 ∧ x.2.2.1 ≤ n ∧ x.2.2.2.1 ≤ 64 ∧ Go.Sort.Below ltN x.2.1 x.2.2.1 x.1 ∧ x.2.2.1 - x.2.1 ≤ m ∧ ∀ R, Go.Sort.PermIn x.2.1 x.2.2.1 x.1 R → Go.Sort.SortedIn ltN x.2.1 x.2.2.1 R → Srt a b d R) (fun x => x.2.2.1 - x.2.1) (d, a, b, limit, true, true) ⟨hd, hab, hb, hlim, hB, hm, fun R hR hs => ⟨hR, hs⟩⟩ ⟨rfl, rfl, rfl, rfl, rfl, rfl, trivial⟩ ((hsub (.cons_cons _ (.refl _))).trans (hsub_pick [0] rfl)) (fun x hx => ?_)
  obtain ⟨d1, a1, b1, l1, wb, wp⟩ := x
  obtain ⟨hs1, hab1, hb1, hl1, hB1, hm1, hk⟩ := hx
  try simp only at hs1 hab1 hb1 hl1 hB1 hm1 hk
  try dsimp only
  refine C_block (C_seq (C_region (LY rfl (y_move rfl) (LY rfl (y_move rfl) ?_))))
  refine LY rfl (y_sub rfl rfl (show _ = ((b1 - a1 : Nat) : Int) from by rw [wi64 (by omega) (by omega)]; omega)) ?_
  refine LY rfl (y_assign rfl) (L_nil (C_seq (C_seq (C_region (LY rfl (y_move rfl) ?_)))))
  refine LY rfl (y_leq rfl rfl) ?_
  refine L_nil ?_
  refine C_cond rfl (fun hc0 => ?_) (fun hc0 => ?_)
  · replace hc0 : b1 - a1 ≤ 12 := by have := of_decide_eq_true hc0; omega
    have hfin := Go.Sort.insertionSort_holds swo_N d1 a1 b1 hab1 (by omega)
    refine C_seq (C_region (LY rfl (y_move rfl) (LY rfl (y_move rfl) (LY rfl (y_move rfl) ?_))))
    refine L_op rfl (op_call rfl rfl (fun a w => Try.call83 a w) rfl ?_)
    refine (insert_u d1 hs1 (by omega) a1 b1 hab1 hb1).mono ?_
    rintro _ _ ⟨rfl, rfl⟩
    refine ⟨_, rfl, ?_⟩
    refine L_nil (C_ret ?_)
    refine B_ret rv_nil ((hsub (.cons_cons _ (.refl _))).trans (hsub_pick [0] rfl)) ?_
    exact ⟨_, hk _ hfin.1 hfin.2, rfl, rfl⟩
  · replace hc0 : 12 < b1 - a1 := by have := of_decide_eq_false hc0; omega
    refine C_skip (C_seq (C_seq (C_region (LY rfl (y_move rfl) (LY rfl (y_eqi rfl rfl) (L_nil ?_))))))
    refine C_cond rfl (fun hc1 => ?_) (fun hc1 => ?_)
    · have hfin := Go.Sort.heapSort_holds swo_N d1 a1 b1 hab1 (by omega)
      refine C_seq (C_region (LY rfl (y_move rfl) (LY rfl (y_move rfl) (LY rfl (y_move rfl) ?_))))
      refine L_op rfl (op_call rfl rfl (fun a w => Try.call84 a w) rfl ?_)
      refine (heap_u d1 hs1 (by omega) a1 b1 (by omega) hb1).mono ?_
      rintro _ _ ⟨rfl, rfl⟩
      refine ⟨_, rfl, ?_⟩
      refine L_nil (C_ret ?_)
      refine B_ret rv_nil ((hsub (.cons_cons _ (.refl _))).trans (hsub_pick [0] rfl)) ?_
      exact ⟨_, hk _ hfin.1 hfin.2, rfl, rfl⟩
    · replace hc1 : ¬ l1 = 0 := by have := of_decide_eq_false hc1; omega
      refine C_skip ?_
      refine C_cutG (ι := Array Nat × Nat) (fun y => Go.Sort.PermIn a1 b1 d1 y.1 ∧ y.2 ≤ 64) (fun y => [(0, (.slice (some ⟨sb, 0, none⟩) n cap)), (1, .int .i64 ((a1 : Nat) : Int)), (2, .int .i64 ((b1 : Nat) : Int)), (3, .int .i64 ((y.2 : Nat) : Int)), (8, .bool wb), (9, .bool wp), (10, .int .i64 ((b1 - a1 : Nat) : Int))]) (fun y => useg 48 sb y.1 sp :: H) ?_ (fun y hy => ?_)
      · refine C_seq (C_region (LY rfl (y_move rfl) (LY rfl (y_not rfl) (L_nil ?_))))
        refine C_cond rfl (fun hc2 => ?_) (fun hc2 => ?_)
        · skip
          refine C_seq (C_region (LY rfl (y_move rfl) (LY rfl (y_move rfl) (LY rfl (y_move rfl) ?_))))
          refine L_op rfl (op_call rfl rfl (fun a w => Try.call85 a w) rfl ?_)
          refine (break_u d1 hs1 hn a1 b1 hc0 hb1).mono ?_
          rintro _ _ ⟨e1, hpe, rfl, rfl⟩
          refine ⟨_, rfl, ?_⟩
          refine L_nil (C_region (LY rfl (y_move rfl) ?_))
          refine LY rfl (y_sub rfl rfl (show _ = ((l1 - 1 : Nat) : Int) from by rw [wi64 (by omega) (by omega)]; omega)) ?_
          refine LY rfl (y_assign rfl) (L_nil ?_)
          exact ⟨(e1, l1 - 1), ⟨hpe, by simp only; omega⟩, ⟨rfl, rfl, rfl, rfl, rfl, rfl, rfl, trivial⟩, ((hsub (.cons_cons _ (.refl _))).trans (hsub_pick [0] rfl))⟩
        · skip
          refine C_skip ?_
          exact ⟨(d1, l1), ⟨Go.Sort.permIn_refl _ _ _, hl1⟩, ⟨rfl, rfl, rfl, rfl, rfl, rfl, rfl, trivial⟩, ((hsub (.cons_cons _ (.refl _))).trans (hsub_pick [0] rfl))⟩
      · obtain ⟨d2, l2⟩ := y
        obtain ⟨hp2, hl2⟩ := hy
        try simp only at hp2 hl2
        try dsimp only
        have hs2 : d2.size = n := by rw [hp2.1]; exact hs1
        refine C_seq (C_region (LY rfl (y_move rfl) (LY rfl (y_move rfl) (LY rfl (y_move rfl) ?_))))
        refine L_op rfl (op_call rfl rfl (fun a w => Try.call86 a w) rfl ?_)
        refine (choose_u d2 hs2 (by omega) a1 b1 hc0 hb1).mono ?_
        rintro _ _ ⟨p, h, hpa, hpb, rfl, rfl⟩
        refine ⟨_, rfl, ?_⟩
        refine LY rfl (y_move rfl) (LY rfl (y_extract rfl rfl) (LY rfl (y_extract rfl rfl) (LY rfl (y_assign rfl) (LY rfl (y_assign rfl) (L_nil ?_)))))
        refine C_cutG (ι := Array Nat × Nat × Int) (fun y => Go.Sort.PermIn a1 b1 d1 y.1 ∧ a1 ≤ y.2.1 ∧ y.2.1 < b1) (fun y => [(0, (.slice (some ⟨sb, 0, none⟩) n cap)), (1, .int .i64 ((a1 : Nat) : Int)), (2, .int .i64 ((b1 : Nat) : Int)), (3, .int .i64 ((l2 : Nat) : Int)), (8, .bool wb), (9, .bool wp), (10, .int .i64 ((b1 - a1 : Nat) : Int)), (11, .int .i64 ((y.2.1 : Nat) : Int)), (12, .int .i64 y.2.2)]) (fun y => useg 48 sb y.1 sp :: H) ?_ (fun y hy => ?_)
        · refine C_seq (C_region (LY rfl (y_move rfl) (LY rfl (y_eqi rfl rfl) (L_nil ?_))))
          refine C_cond rfl (fun hc3 => ?_) (fun hc3 => ?_)
          · skip
            refine C_seq (C_region (LY rfl (y_move rfl) (LY rfl (y_move rfl) (LY rfl (y_move rfl) ?_))))
            refine L_op rfl (op_call rfl rfl (fun a w => Try.call87 a w) rfl ?_)
            refine (reverse_u d2 hs2 (by omega) a1 b1 (by omega) hb1).mono ?_
            rintro _ _ ⟨rfl, rfl⟩
            refine ⟨_, rfl, ?_⟩
            refine L_nil (C_seq (C_region (LY rfl (y_move rfl) ?_)))
            refine LY rfl (y_sub rfl rfl (show _ = ((b1 - 1 : Nat) : Int) from by rw [wi64 (by omega) (by omega)]; omega)) ?_
            refine LY rfl (y_move rfl) (LY rfl (y_move rfl) ?_)
            refine LY rfl (y_sub rfl rfl (show _ = ((p - a1 : Nat) : Int) from by rw [wi64 (by omega) (by omega)]; omega)) ?_
            refine LY rfl (y_sub rfl rfl (show _ = (((b1 - 1) - (p - a1) : Nat) : Int) from by rw [wi64 (by omega) (by omega)]; omega)) ?_
            refine LY rfl (y_assign rfl) (L_nil (C_region (LY rfl (y_assign rfl) (L_nil ?_))))
            exact ⟨(Go.Sort.reverseRange d2 a1 b1, (b1 - 1) - (p - a1), 1), ⟨Go.Sort.permIn_trans _ _ _ _ _ hp2 (Go.Sort.reverseRange_holds d2 a1 b1 hab1 (by omega)), by simp only; omega, by simp only; omega⟩, ⟨rfl, rfl, rfl, rfl, rfl, rfl, rfl, rfl, rfl, trivial⟩, ((hsub (.cons_cons _ (.refl _))).trans (hsub_pick [0] rfl))⟩
          · skip
            refine C_skip ?_
            exact ⟨(d2, p, h), ⟨hp2, hpa, hpb⟩, ⟨rfl, rfl, rfl, rfl, rfl, rfl, rfl, rfl, rfl, trivial⟩, ((hsub (.cons_cons _ (.refl _))).trans (hsub_pick [0] rfl))⟩
        · clear hpa hpb p h
          obtain ⟨d3, p, h⟩ := y
          obtain ⟨hp3, hpa, hpb⟩ := hy
          try simp only at hp3 hpa hpb
          try dsimp only
          have hs3 : d3.size = n := by rw [hp3.1]; exact hs1
          have hB3 : Go.Sort.Below ltN a1 b1 d3 := hB1.perm (by omega) hp3
          refine C_cutG (ι := Array Nat) (fun y => Go.Sort.PermIn a1 b1 d1 y) (fun y => [(0, (.slice (some ⟨sb, 0, none⟩) n cap)), (1, .int .i64 ((a1 : Nat) : Int)), (2, .int .i64 ((b1 : Nat) : Int)), (3, .int .i64 ((l2 : Nat) : Int)), (8, .bool wb), (9, .bool wp), (10, .int .i64 ((b1 - a1 : Nat) : Int)), (11, .int .i64 ((p : Nat) : Int)), (12, .int .i64 h)]) (fun y => useg 48 sb y sp :: H) ?_ (fun d4 hd4 => ?_)
          · refine C_seq (C_region (LY rfl (y_move rfl) (LY rfl (y_move rfl) ?_)))
            refine L_case 62 rfl (fun hg15_2 => ?_) (fun hg15_2 => ?_)
            · skip
              refine LY rfl (y_move rfl) (LY rfl (y_pick_t rfl rfl) (LY rfl (y_move rfl) ?_))
              refine L_case 65 rfl (fun hg15_5 => ?_) (fun hg15_5 => ?_)
              · skip
                refine LY rfl (y_move rfl) (LY rfl (y_eqi rfl rfl) (LY rfl (y_pick_t rfl rfl) (L_nil ?_)))
                refine C_cond rfl (fun hc4 => ?_) (fun hc4 => ?_)
                · skip
                  refine C_seq (C_region (LY rfl (y_move rfl) (LY rfl (y_move rfl) (LY rfl (y_move rfl) ?_))))
                  refine L_op rfl (op_call rfl rfl (fun a w => Try.call88 a w) rfl ?_)
                  refine (partial_u d3 hs3 (by omega) a1 b1 (by omega) hb1).mono ?_
                  rintro _ _ ⟨rfl, rfl⟩
                  refine ⟨_, rfl, ?_⟩
                  refine L_nil ?_
                  refine C_cond rfl (fun hc5 => ?_) (fun hc5 => ?_)
                  · have hpi := Go.Sort.partialInsertionSort_holds swo_N d3 a1 b1 (by omega) (by omega) hB3
                    have hfin : Go.Sort.PermIn a1 b1 d1 (Go.Sort.partialInsertionSort ltN d3 a1 b1).1 ∧ Go.Sort.SortedIn ltN a1 b1 (Go.Sort.partialInsertionSort ltN d3 a1 b1).1 := ⟨Go.Sort.permIn_trans _ _ _ _ _ hp3 hpi.1, hpi.2 hc5⟩
                    refine C_ret ?_
                    refine B_ret rv_nil ((hsub (.cons_cons _ (.refl _))).trans (hsub_pick [0] rfl)) ?_
                    exact ⟨_, hk _ hfin.1 hfin.2, rfl, rfl⟩
                  · skip
                    refine C_skip ?_
                    exact ⟨(Go.Sort.partialInsertionSort ltN d3 a1 b1).1, (Go.Sort.permIn_trans _ _ _ _ _ hp3 (Go.Sort.partialInsertionSort_holds swo_N d3 a1 b1 (by omega) (by omega) hB3).1), ⟨rfl, rfl, rfl, rfl, rfl, rfl, rfl, rfl, rfl, trivial⟩, ((hsub (.cons_cons _ (.refl _))).trans (hsub_pick [0] rfl))⟩
                · skip
                  refine C_skip ?_
                  exact ⟨d3, hp3, ⟨rfl, rfl, rfl, rfl, rfl, rfl, rfl, rfl, rfl, trivial⟩, ((hsub (.cons_cons _ (.refl _))).trans (hsub_pick [0] rfl))⟩
              · skip
                refine L_skip rfl rfl (L_skip rfl rfl (LY rfl (y_pick_f rfl rfl) (L_nil (C_cond_f rfl (C_skip ?_)))))
                exact ⟨d3, hp3, ⟨rfl, rfl, rfl, rfl, rfl, rfl, rfl, rfl, rfl, trivial⟩, ((hsub (.cons_cons _ (.refl _))).trans (hsub_pick [0] rfl))⟩
            · skip
              refine L_skip rfl rfl (LY rfl (y_pick_f rfl rfl) (LY rfl (y_move rfl) (L_skip rfl rfl (L_skip rfl rfl (LY rfl (y_pick_f rfl rfl) (L_nil (C_cond_f rfl (C_skip ?_))))))))
              exact ⟨d3, hp3, ⟨rfl, rfl, rfl, rfl, rfl, rfl, rfl, rfl, rfl, trivial⟩, ((hsub (.cons_cons _ (.refl _))).trans (hsub_pick [0] rfl))⟩
          · have hp4 : Go.Sort.PermIn a1 b1 d1 d4 := hd4
            have hs4 : d4.size = n := by rw [hp4.1]; exact hs1
            have hB4 : Go.Sort.Below ltN a1 b1 d4 := hB1.perm (by omega) hp4
            refine C_seq (C_seq ?_)
            refine C_regionH0 (by kernel_rfl) ?_
            refine HY 0 rfl (HSub.refl _) rfl (y_move rfl) ?_
            refine HY 1 rfl (HSub.refl _) rfl (y_gtr rfl rfl) ?_
            refine HY 2 rfl (HSub.refl _) rfl (y_move rfl) ?_
            refine H_case 75 rfl (fun hg17_3 => ?_) (fun hg17_3 => ?_)
            · have h0 : 0 < a1 := by have := of_decide_eq_true hg17_3; omega
              refine HY 3 rfl (HSub.refl _) rfl (y_move rfl) ?_
              refine HY 4 rfl (HSub.refl _) rfl (y_move rfl) ?_
              refine HY 5 rfl (HSub.refl _) rfl (y_sub rfl rfl (show _ = ((a1 - 1 : Nat) : Int) from by rw [wi64 (by omega) (by omega)]; omega)) ?_
              refine HY 6 rfl (HSub.refl _) rfl (y_indexS rfl rfl Try.underlying33 sz_48 (by omega) (by omega) (ix0 (a1 - 1))) ?_
              refine HY 7 rfl (HSub.refl _) rfl (y_load rfl ag_48 (sees 0 0 rfl) (us_at (by omega))) ?_
              refine HY 8 rfl (HSub.refl _) rfl (y_move rfl) ?_
              refine HY 9 rfl (HSub.refl _) rfl (y_move rfl) ?_
              refine HY 10 rfl (HSub.refl _) rfl (y_indexS rfl rfl Try.underlying33 sz_48 (by omega) (by omega) (ix0 (p))) ?_
              refine HY 11 rfl (HSub.refl _) rfl (y_load rfl ag_48 (sees 0 0 rfl) (us_at (by omega))) ?_
              refine H_one 12 rfl (by kernel_rfl) rfl (op_call rfl rfl (fun a w => Try.call89 a w) rfl ?_)
              refine (less_u (d4[a1 - 1]!) (d4[p]!)).mono ?_
              rintro _ _ ⟨rfl, e⟩
              obtain rfl := e.symm
              clear e
              refine ⟨_, rfl, ?_⟩
              refine ⟨HSub.refl _, ?_⟩
              refine HY 13 rfl (HSub.refl _) rfl (y_not rfl) ?_
              refine HY 14 rfl (HSub.refl _) rfl (y_pick_t rfl rfl) ?_
              refine H_done (by kernel_rfl) ?_
              refine C_cond rfl (fun hc6 => ?_) (fun hc6 => ?_)
              · have hnl : ltN d4[a1 - 1]! d4[p]! = false := by simpa using hc6
                refine C_seq (C_region (LY rfl (y_move rfl) (LY rfl (y_move rfl) (LY rfl (y_move rfl) (LY rfl (y_move rfl) ?_)))))
                refine L_op rfl (op_call rfl rfl (fun a w => Try.call90 a w) rfl ?_)
                refine (parteq_u d4 hs4 (by omega) a1 b1 p hpa hpb hb1).mono ?_
                rintro _ _ ⟨rfl, rfl⟩
                obtain ⟨⟨mid, d5⟩, hx⟩ : ∃ z, z = Go.Sort.partitionEqual ltN d4 a1 b1 p := ⟨_, rfl⟩
                rw [← hx]
                obtain ⟨q1, q2, q3, q4, q5⟩ := Go.Sort.round_eq swo_N (Go.Sort.partitionEqual_holds ltN) h0 hpa hpb (by omega) hB4 hnl hx.symm
                try dsimp only
                refine ⟨_, rfl, ?_⟩
                refine LY rfl (y_assign rfl) (L_nil (C_seq (C_region (LY rfl (y_move rfl) (LY rfl (y_assign rfl) (L_nil (C_exit ?_)))))))
                exact ⟨(d5, mid, b1, l2, wb, wp), ⟨by simp only; omega, q2, hb1, hl2, q4, by simp only; omega, fun R hR hs => hk R (Go.Sort.permIn_trans _ _ _ _ _ hp4 (q5 R hR hs).1) (q5 R hR hs).2⟩, by simp only; omega, ⟨rfl, rfl, rfl, rfl, rfl, rfl, trivial⟩, ((hsub (.cons_cons _ (.refl _))).trans (hsub_pick [0] rfl))⟩
              · skip
                refine C_skip (C_seq (C_region (LY rfl (y_move rfl) (LY rfl (y_move rfl) (LY rfl (y_move rfl) (LY rfl (y_move rfl) ?_))))))
                refine L_op rfl (op_call rfl rfl (fun a w => Try.call91 a w) rfl ?_)
                refine (part_u d4 hs4 (by omega) a1 b1 p hpa hpb hb1).mono ?_
                rintro _ _ ⟨rfl, rfl⟩
                obtain ⟨⟨mid, ap, d5⟩, hx⟩ : ∃ z, z = Go.Sort.partition ltN d4 a1 b1 p := ⟨_, rfl⟩
                rw [← hx]
                obtain ⟨q1, q2, q3, q4, q5, q6, q7⟩ := Go.Sort.round_part swo_N (Go.Sort.partition_holds ltN) hpa hpb (by omega) hB4 hx.symm
                try dsimp only
                refine ⟨_, rfl, ?_⟩
                refine LY rfl (y_move rfl) (LY rfl (y_extract rfl rfl) (LY rfl (y_extract rfl rfl) (LY rfl (y_assign rfl) (LY rfl (y_assign rfl) (L_nil (C_seq (C_region (LY rfl (y_move rfl) (LY rfl (y_assign rfl) (L_nil (C_seq (C_region (LY rfl (y_move rfl) (LY rfl (y_move rfl) ?_))))))))))))))
                refine LY rfl (y_sub rfl rfl (show _ = ((mid - a1 : Nat) : Int) from by rw [wi64 (by omega) (by omega)]; omega)) ?_
                refine LY rfl (y_move rfl) (LY rfl (y_move rfl) ?_)
                refine LY rfl (y_sub rfl rfl (show _ = ((b1 - mid : Nat) : Int) from by rw [wi64 (by omega) (by omega)]; omega)) ?_
                refine LY rfl (y_assign rfl) (LY rfl (y_assign rfl) (L_nil (C_seq (C_region (LY rfl (y_move rfl) ?_)))))
                refine LY rfl (y_quo rfl rfl (by omega) (show _ = (((b1 - a1) / 8 : Nat) : Int) from by rw [Int.tdiv_eq_ediv_of_nonneg (by omega), wi64 (by omega) (by omega)]; omega)) ?_
                refine LY rfl (y_assign rfl) (L_nil (C_seq (C_region (LY rfl (y_move rfl) (LY rfl (y_move rfl) (LY rfl (y_lss rfl rfl) (L_nil ?_)))))))
                refine C_cond rfl (fun hc7 => ?_) (fun hc7 => ?_)
                · skip
                  refine C_seq (C_region (LY rfl (y_move rfl) (LY rfl (y_move rfl) ?_)))
                  refine LY rfl (y_geq rfl rfl) ?_
                  refine LY rfl (y_assign rfl) (L_nil (C_seq (C_region (LY rfl (y_move rfl) (LY rfl (y_move rfl) (LY rfl (y_move rfl) (LY rfl (y_move rfl) ?_)))))))
                  refine L_op rfl (op_call rfl rfl (fun a w => Try.call72 a w) rfl ?_)
                  refine (ih a1 mid l2 d5 (by omega) (by omega) hl2 (by omega) (by omega) q4).mono ?_
                  rintro _ _ ⟨L, hL, rfl, rfl⟩
                  refine ⟨_, rfl, ?_⟩
                  refine L_nil (C_region (LY rfl (y_move rfl) ?_))
                  refine LY rfl (y_add rfl rfl (show _ = ((mid + 1 : Nat) : Int) from by rw [wi64 (by omega) (by omega)]; omega)) ?_
                  refine LY rfl (y_assign rfl) (L_nil ?_)
                  exact ⟨(L, mid + 1, b1, l2, _, ap), ⟨by simp only; rw [hL.1.1]; omega, by simp only; omega, hb1, hl2, (q6 L hL.1 hL.2).1, by simp only; omega, fun R hR hs => hk R (Go.Sort.permIn_trans _ _ _ _ _ hp4 ((q6 L hL.1 hL.2).2 R hR hs).1) ((q6 L hL.1 hL.2).2 R hR hs).2⟩, by simp only; omega, ⟨rfl, rfl, rfl, rfl, rfl, rfl, trivial⟩, ((hsub (.cons_cons _ (.refl _))).trans (hsub_pick [0] rfl))⟩
                · skip
                  refine C_seq (C_region (LY rfl (y_move rfl) (LY rfl (y_move rfl) ?_)))
                  refine LY rfl (y_geq rfl rfl) ?_
                  refine LY rfl (y_assign rfl) (L_nil (C_seq (C_region (LY rfl (y_move rfl) (LY rfl (y_move rfl) ?_)))))
                  refine LY rfl (y_add rfl rfl (show _ = ((mid + 1 : Nat) : Int) from by rw [wi64 (by omega) (by omega)]; omega)) ?_
                  refine LY rfl (y_move rfl) (LY rfl (y_move rfl) ?_)
                  refine L_op rfl (op_call rfl rfl (fun a w => Try.call72 a w) rfl ?_)
                  refine (ih (mid + 1) b1 l2 d5 (by omega) (by omega) hl2 (by omega) (by omega) q5).mono ?_
                  rintro _ _ ⟨L, hL, rfl, rfl⟩
                  refine ⟨_, rfl, ?_⟩
                  refine L_nil (C_region (LY rfl (y_move rfl) (LY rfl (y_assign rfl) (L_nil ?_))))
                  exact ⟨(L, a1, mid, l2, _, ap), ⟨by simp only; rw [hL.1.1]; omega, q1, by simp only; omega, hl2, (q7 L hL.1 hL.2).1, by simp only; omega, fun R hR hs => hk R (Go.Sort.permIn_trans _ _ _ _ _ hp4 ((q7 L hL.1 hL.2).2 R hR hs).1) ((q7 L hL.1 hL.2).2 R hR hs).2⟩, by simp only; omega, ⟨rfl, rfl, rfl, rfl, rfl, rfl, trivial⟩, ((hsub (.cons_cons _ (.refl _))).trans (hsub_pick [0] rfl))⟩
            · skip
              refine HK 3 rfl (HSub.refl _) rfl ?_
              refine HK 4 rfl (HSub.refl _) rfl ?_
              refine HK 5 rfl (HSub.refl _) rfl ?_
              refine HK 6 rfl (HSub.refl _) rfl ?_
              refine HK 7 rfl (HSub.refl _) rfl ?_
              refine HK 8 rfl (HSub.refl _) rfl ?_
              refine HK 9 rfl (HSub.refl _) rfl ?_
              refine HK 10 rfl (HSub.refl _) rfl ?_
              refine HK 11 rfl (HSub.refl _) rfl ?_
              refine HK 12 rfl (HSub.refl _) rfl ?_
              refine HK 13 rfl (HSub.refl _) rfl ?_
              refine HY 14 rfl (HSub.refl _) rfl (y_pick_f rfl rfl) ?_
              refine H_done (by kernel_rfl) ?_
              refine C_cond_f rfl (C_skip (C_seq (C_region (LY rfl (y_move rfl) (LY rfl (y_move rfl) (LY rfl (y_move rfl) (LY rfl (y_move rfl) ?_)))))))
              refine L_op rfl (op_call rfl rfl (fun a w => Try.call91 a w) rfl ?_)
              refine (part_u d4 hs4 (by omega) a1 b1 p hpa hpb hb1).mono ?_
              rintro _ _ ⟨rfl, rfl⟩
              obtain ⟨⟨mid, ap, d5⟩, hx⟩ : ∃ z, z = Go.Sort.partition ltN d4 a1 b1 p := ⟨_, rfl⟩
              rw [← hx]
              obtain ⟨q1, q2, q3, q4, q5, q6, q7⟩ := Go.Sort.round_part swo_N (Go.Sort.partition_holds ltN) hpa hpb (by omega) hB4 hx.symm
              try dsimp only
              refine ⟨_, rfl, ?_⟩
              refine LY rfl (y_move rfl) (LY rfl (y_extract rfl rfl) (LY rfl (y_extract rfl rfl) (LY rfl (y_assign rfl) (LY rfl (y_assign rfl) (L_nil (C_seq (C_region (LY rfl (y_move rfl) (LY rfl (y_assign rfl) (L_nil (C_seq (C_region (LY rfl (y_move rfl) (LY rfl (y_move rfl) ?_))))))))))))))
              refine LY rfl (y_sub rfl rfl (show _ = ((mid - a1 : Nat) : Int) from by rw [wi64 (by omega) (by omega)]; omega)) ?_
              refine LY rfl (y_move rfl) (LY rfl (y_move rfl) ?_)
              refine LY rfl (y_sub rfl rfl (show _ = ((b1 - mid : Nat) : Int) from by rw [wi64 (by omega) (by omega)]; omega)) ?_
              refine LY rfl (y_assign rfl) (LY rfl (y_assign rfl) (L_nil (C_seq (C_region (LY rfl (y_move rfl) ?_)))))
              refine LY rfl (y_quo rfl rfl (by omega) (show _ = (((b1 - a1) / 8 : Nat) : Int) from by rw [Int.tdiv_eq_ediv_of_nonneg (by omega), wi64 (by omega) (by omega)]; omega)) ?_
              refine LY rfl (y_assign rfl) (L_nil (C_seq (C_region (LY rfl (y_move rfl) (LY rfl (y_move rfl) (LY rfl (y_lss rfl rfl) (L_nil ?_)))))))
              refine C_cond rfl (fun hc7 => ?_) (fun hc7 => ?_)
              · skip
                refine C_seq (C_region (LY rfl (y_move rfl) (LY rfl (y_move rfl) ?_)))
                refine LY rfl (y_geq rfl rfl) ?_
                refine LY rfl (y_assign rfl) (L_nil (C_seq (C_region (LY rfl (y_move rfl) (LY rfl (y_move rfl) (LY rfl (y_move rfl) (LY rfl (y_move rfl) ?_)))))))
                refine L_op rfl (op_call rfl rfl (fun a w => Try.call72 a w) rfl ?_)
                refine (ih a1 mid l2 d5 (by omega) (by omega) hl2 (by omega) (by omega) q4).mono ?_
                rintro _ _ ⟨L, hL, rfl, rfl⟩
                refine ⟨_, rfl, ?_⟩
                refine L_nil (C_region (LY rfl (y_move rfl) ?_))
                refine LY rfl (y_add rfl rfl (show _ = ((mid + 1 : Nat) : Int) from by rw [wi64 (by omega) (by omega)]; omega)) ?_
                refine LY rfl (y_assign rfl) (L_nil ?_)
                exact ⟨(L, mid + 1, b1, l2, _, ap), ⟨by simp only; rw [hL.1.1]; omega, by simp only; omega, hb1, hl2, (q6 L hL.1 hL.2).1, by simp only; omega, fun R hR hs => hk R (Go.Sort.permIn_trans _ _ _ _ _ hp4 ((q6 L hL.1 hL.2).2 R hR hs).1) ((q6 L hL.1 hL.2).2 R hR hs).2⟩, by simp only; omega, ⟨rfl, rfl, rfl, rfl, rfl, rfl, trivial⟩, ((hsub (.cons_cons _ (.refl _))).trans (hsub_pick [0] rfl))⟩
              · skip
                refine C_seq (C_region (LY rfl (y_move rfl) (LY rfl (y_move rfl) ?_)))
                refine LY rfl (y_geq rfl rfl) ?_
                refine LY rfl (y_assign rfl) (L_nil (C_seq (C_region (LY rfl (y_move rfl) (LY rfl (y_move rfl) ?_)))))
                refine LY rfl (y_add rfl rfl (show _ = ((mid + 1 : Nat) : Int) from by rw [wi64 (by omega) (by omega)]; omega)) ?_
                refine LY rfl (y_move rfl) (LY rfl (y_move rfl) ?_)
                refine L_op rfl (op_call rfl rfl (fun a w => Try.call72 a w) rfl ?_)
                refine (ih (mid + 1) b1 l2 d5 (by omega) (by omega) hl2 (by omega) (by omega) q5).mono ?_
                rintro _ _ ⟨L, hL, rfl, rfl⟩
                refine ⟨_, rfl, ?_⟩
                refine L_nil (C_region (LY rfl (y_move rfl) (LY rfl (y_assign rfl) (L_nil ?_))))
                exact ⟨(L, a1, mid, l2, _, ap), ⟨by simp only; rw [hL.1.1]; omega, q1, by simp only; omega, hl2, (q7 L hL.1 hL.2).1, by simp only; omega, fun R hR hs => hk R (Go.Sort.permIn_trans _ _ _ _ _ hp4 ((q7 L hL.1 hL.2).2 R hR hs).1) ((q7 L hL.1 hL.2).2 R hR hs).2⟩, by simp only; omega, ⟨rfl, rfl, rfl, rfl, rfl, rfl, trivial⟩, ((hsub (.cons_cons _ (.refl _))).trans (hsub_pick [0] rfl))⟩

theorem pdq_u {w0 : World} {H : Hp} {sb n cap : Nat} {sp : List Value} (hn : n < 65536) : ∀ (m a b limit : Nat) (d : Array Nat), b - a ≤ m → d.size = n → limit ≤ 64 → a ≤ b → b ≤ n → Go.Sort.Below ltN a b d → FnS Try.prog w0 72 #[(.slice (some ⟨sb, 0, none⟩) n cap), .int .i64 ((a : Nat) : Int), .int .i64 ((b : Nat) : Int), .int .i64 ((limit : Nat) : Int)] (useg 48 sb d sp :: H) (fun e H' => ∃ d', Srt a b d d' ∧ e = .returned (.tuple #[]) ∧ H' = useg 48 sb d' sp :: H) := by
  intro m
  induction m with
  | zero => exact fun a b limit d hm hd hlim hab hb hB => pdq_step hn 0 (fun a b limit d h => absurd h (by omega)) a b limit d hm hd hlim hab hb hB
  | succ m ih => exact fun a b limit d hm hd hlim hab hb hB => pdq_step hn (m + 1) (fun a b limit d h => ih a b limit d (by omega)) a b limit d hm hd hlim hab hb hB

theorem sort_u {w0 : World} {H : Hp} {sb n cap : Nat} {sp : List Value} (d : Array Nat) (hd : d.size = n) (hn : n < 65536) : FnS Try.prog w0 57 #[(.slice (some ⟨sb, 0, none⟩) n cap)] (useg 48 sb d sp :: H) (fun e H' => ∃ d', Srt 0 n d d' ∧ e = .returned (.tuple #[]) ∧ H' = useg 48 sb d' sp :: H) := by
  refine FnS_intro (n := 11) (rs := []) (vs := [(.slice (some ⟨sb, 0, none⟩) n cap)]) Try.func57 rfl Try.ntmps57 rfl rfl ?_
  refine C_seq (C_region (LY rfl (y_move rfl) ?_))
  refine LY rfl (y_lenS rfl rfl Try.underlying33) ?_
  refine LY rfl (y_assign rfl) (L_nil (C_region (LY rfl (y_move rfl) (LY rfl (y_move rfl) (LY rfl (y_move rfl) ?_)))))
  refine LY rfl (y_conv rfl us_3 Try.underlying144 (show _ = (n : Int) from wu64 (by omega) (by omega))) ?_
  refine L_op rfl (op_call rfl rfl (fun a w => Try.call73 a w) rfl ?_)
  refine (len_u n hn).mono ?_
  rintro _ _ ⟨rfl, e⟩
  obtain rfl := e.symm
  clear e
  refine ⟨_, rfl, ?_⟩
  refine L_op rfl (op_call rfl rfl (fun a w => Try.call72 a w) rfl ?_)
  refine (pdq_u hn n 0 n (Go.Sort.bitsLen n) d (by omega) hd (by have := bits_le hn; omega) (Nat.zero_le _) (Nat.le_refl _) (.inl rfl)).mono ?_
  rintro _ _ ⟨d', hd', rfl, rfl⟩
  refine ⟨_, rfl, ?_⟩
  refine L_nil ?_
  refine B_end rv_nil ((hsub (.cons_cons _ (.refl _))).trans (hsub_pick [0] rfl)) ?_
  exact ⟨d', hd', rfl, rfl⟩

end Go.Proofs.Ytighbhplfjjgpaa

/- walks (own work; the walks' lines by a program of this repo). -/
set_option linter.unusedVariables false
set_option linter.unusedSimpArgs false
set_option maxRecDepth 20000
namespace Go.Proofs.Ytighbhplfjjgpaa
open Go.Sl
attribute [local irreducible] BodyQ WpC WpL WpS WpH OpW FnS



set_option maxHeartbeats 1000000 in

theorem xnums_s {w0 : World} {H : Hp} {o : Xo} {segs size : Int} {l : Xl} {A L : Gm} (h : Xm segs size l A L) (s : Int) (hl : l.length < 60000) : FnS Try.prog w0 32 #[ptr o.b, .int .i64 s] (o.seg 90 segs size A L :: H) (fun e H' => ∃ g, slOk 1 g (xnums segs size l s).length (us (xnums segs size l s)) ∧ e = .returned (slV g (xnums segs size l s).length) ∧ H' = slSeg 48 g (us (xnums segs size l s)) :: o.seg 90 segs size A L :: H) := by
  refine FnS_intro (n := 45) (rs := [.tmp 4]) (vs := [ptr o.b, .int .i64 s]) Try.func32 rfl Try.ntmps32 rfl rfl ?_
  refine C_seq (C_region (LY rfl (y_assign rfl) (L_nil (C_seq (C_seq (C_region (LY rfl (y_move rfl) (LY rfl (y_move rfl) ?_))))))))
  refine L_op rfl (op_call rfl rfl (fun a w => Try.call20 a w) rfl ?_)
  refine (xlive_s h s).mono ?_
  rintro _ _ ⟨rfl, rfl⟩
  refine ⟨_, rfl, ?_⟩
  refine LY rfl (y_eqi rfl rfl) (L_nil ?_)
  refine C_cond rfl (fun hc0 => ?_) (fun hc0 => ?_)
  · replace hc0 := of_decide_eq_true hc0
    refine C_seq (C_region (LY rfl (y_assign rfl) (L_nil (C_ret ?_))))
    refine B_ret (rv_tmp rfl rv_nil) (hsub_flat (H' := [] :: o.seg 90 segs size A L :: H) rfl) ?_
    have hz : cnt18 segs size l s = 0 := by omega
    have hn0 : (xnums segs size l s) = [] := List.eq_nil_of_length_eq_zero (by rw [nums_len]; exact hz)
    rw [hn0]
    exact ⟨none, ⟨rfl, rfl⟩, rfl, rfl⟩
  · replace hc0 := of_decide_eq_false hc0
    refine C_skip (C_seq (C_region (LY rfl (y_assign rfl) (L_nil (C_seq (C_seq (C_region (LY rfl (y_move rfl) (LY rfl (y_nilCheck rfl) (LY rfl (y_fieldAddr rfl fl_90_1) (LY rfl (y_load rfl ag_87 (sees 0 0 rfl) rfl) ?_)))))))))))
    refine L_op rfl (op_rangeG rfl Try.underlying87 0 1 rfl rfl (fun B1 => ?_))
    refine L_nil (C_block ?_)
    refine C_loop (ι := Xl × Array Nat × Option SlG) (fun i => [(0, ptr o.b), (1, .int .i64 s), (5, slV i.2.2 (xnums segs size i.1 s).length), (19, ptr B1)]) (fun i => [(B1, itO o.r1 A.ck i.2.1 A.ck)] :: slSeg 48 i.2.2 (us (xnums segs size i.1 s)) :: o.seg 90 segs size A L :: H) (fun i => (i.1.map xpair ++ (A.left i.2.1).map kv).Perm (l.map xpair) ∧ slOk 1 i.2.2 (xnums segs size i.1 s).length (us (xnums segs size i.1 s))) (fun i => (A.left i.2.1).length) ([], #[], none) ⟨left_start h.perm, rfl, rfl⟩ ⟨rfl, rfl, rfl, rfl, trivial⟩ (hsub_flat rfl) (fun i hi => ?_)
    obtain ⟨v, seen, g⟩ := i
    obtain ⟨hpm, hok⟩ := hi
    try simp only at hpm hok
    try dsimp only
    refine C_seq (C_region ?_)
    refine L_op rfl (op_nextG 0 0 2 1 rfl rfl rfl (fun x hx => h.okA.lt x hx) (Nat.le_refl _) rfl (fun hnx => ?_) (fun en hen => ?_))
    · skip
      refine LY rfl (y_extract rfl rfl) (L_nil (C_seq (C_cond_f rfl (C_exit (C_seq (C_region (LY rfl (y_move rfl) ?_)))))))
      refine L_op rfl (op_call rfl rfl (fun a w => Try.call57 a w) rfl ?_)
      have hvp := left_end hpm hnx
      have hlen : (xnums segs size v s).length = (xnums segs size l s).length := (xnums_perm hvp s).length_eq
      have hcn := nums_len segs size l s
      cases g with
      | none => exact absurd hok.2 (by omega)
      | some g => ?_
      have hlx := cnt_le segs size l s
      refine (FnS.sub (hsub_pick [1] rfl) (sort_u (sb := g.b) (n := (xnums segs size v s).length) (cap := g.cap) (sp := g.sp) (xnums segs size v s).toArray (by simp) (by omega))).mono ?_
      rintro _ _ ⟨r9, hr9, rfl, rfl⟩
      refine ⟨_, rfl, ?_⟩
      refine L_nil (C_seq (C_region (LY rfl (y_move rfl) (LY rfl (y_assign rfl) (L_nil (C_ret ?_))))))
      refine B_ret (rv_tmp rfl rv_nil) ((hsub (.cons_cons _ (.cons_cons _ (.cons _ (.refl _))))).trans (hsub_pick [0, 1] rfl)) ?_
      have hsz : ((xnums segs size v s).toArray).size = (xnums segs size v s).length := by simp
      have hr := sorted_list (d := (xnums segs size v s).toArray) (r := r9) (by rw [hsz]; exact hr9.1) (by rw [hsz]; exact hr9.2) (xnums_perm hvp s) (xnums_sorted h.s s)
      refine ⟨some g, ?_, ?_, ?_⟩
      · refine ⟨by rw [us_len, Nat.mul_one], ?_, ?_⟩
        · rw [us_len, ← hlen, ← us_len]; exact hok.2.1
        · rw [← hlen]; exact hok.2.2
      · rw [← hlen]; rfl
      · show useg 48 g.b _ g.sp :: _ = _
        unfold useg
        rw [hr]; rfl
    · obtain ⟨q, hq, eq1, eq2⟩ := left_in hpm hen
      obtain ⟨ek, ev_, eb⟩ := en
      simp only at eq1 eq2
      subst eq1 eq2
      obtain ⟨t, hb⟩ : ∃ t, ofS segs size q.2 = some t := by
        cases e : ofS segs size q.2 with
        | none => exact absurd e (h.valid q hq).2.2
        | some t => exact ⟨t, rfl⟩
      refine LY rfl (y_extract rfl rfl) (L_nil (C_seq (C_cond_t rfl (C_skip (C_block (C_seq (C_region ?_)))))))
      refine LY rfl (y_entryG rfl (sees 0 0 rfl) (sees 2 1 rfl) h.okA (Gm.left_mem hen)) ?_
      refine LY rfl (y_extract rfl rfl) (LY rfl (y_extract rfl rfl) (LY rfl (y_assign rfl) (LY rfl (y_assign rfl) (L_nil (C_seq (C_region (LY rfl (y_move rfl) (LY rfl (y_nilCheck rfl) (LY rfl (y_fieldAddr rfl fl_90_0) ?_)))))))))
      refine LY rfl (y_loadA rfl ag_23 sz_23 (sees 2 0 rfl) (Nat.le_of_ble_eq_true rfl) rfl) ?_
      refine LY rfl (y_move rfl) ?_
      refine L_op rfl (op_call rfl rfl (fun a w => Try.call44 a w) rfl ?_)
      refine (of_s segs size q.2).mono ?_
      rw [hb]
      rintro _ _ ⟨rfl, rfl⟩
      refine ⟨_, rfl, ?_⟩
      refine LY rfl (y_move rfl) (LY rfl (y_extract rfl rfl) (LY rfl (y_extract rfl rfl) (LY rfl (y_extract rfl rfl) (LY rfl (y_assign rfl) (LY rfl (y_assign rfl) (LY rfl (y_assign rfl) (L_nil (C_seq (C_region (LY rfl (y_move rfl) (LY rfl (y_move rfl) (LY rfl (y_eqi rfl rfl) (L_nil ?_)))))))))))))
      refine C_cond rfl (fun hc2 => ?_) (fun hc2 => ?_)
      · have hc1 : t = s := of_decide_eq_true hc2
        refine C_region (LY rfl (y_move rfl) (LY rfl (y_move rfl) ?_))
        refine L_op rfl (op_buildSlice (vs := [(0, _)]) rfl Try.underlying33 sz_48 zl_48 rfl (by decide) rfl rfl (fun B2 => ?_))
        refine L_op rfl (op_append (gs := g) (len := (xnums segs size v s).length) (m := 1) (xs := us (xnums segs size v s)) (vs := us [q.1]) 2 rfl rfl rfl hok (src_slice (sees 0 0 rfl) (Nat.le_of_ble_eq_true rfl) rfl) rfl (fun v hv => by simp [us] at hv; subst hv; rfl) Try.underlying33 ni_33 sz_48 by_48 (by decide) zl_48 rfl (by rw [nums_len]; have := cnt_le segs size v s; have := left_len hpm; omega) rfl (fun g2 hg2 => ?_))
        rw [← us_append, show (xnums segs size v s) ++ [q.1] = xnums segs size (v ++ [q]) s from by rw [xnums_snoc, if_pos (by rw [hb, hc1])], show (xnums segs size v s).length + 1 = (xnums segs size (v ++ [q]) s).length from by rw [xnums_snoc, if_pos (by rw [hb, hc1]), List.length_append]; rfl] at hg2 ⊢
        refine LY rfl (y_assign rfl) (L_nil ?_)
        refine ⟨(v ++ [q], _, g2), ⟨left_next h.okA hpm hen rfl rfl, hg2⟩, left_less h.okA hen, ⟨rfl, rfl, rfl, rfl, trivial⟩, ((hsub (.cons_cons _ (.cons_cons _ (.cons_cons _ (.cons _ (.refl _)))))).trans (hsub_pick [1, 1, 1] rfl))⟩
      · have hc1 : ¬ t = s := of_decide_eq_false hc2
        refine C_skip ?_
        have e9 : xnums segs size (v ++ [q]) s = xnums segs size v s := by rw [xnums_snoc, if_neg (by rw [hb]; intro e; exact hc1 (Option.some.inj e)), List.append_nil]
        refine ⟨(v ++ [q], _, g), ⟨left_next h.okA hpm hen rfl rfl, ?_⟩, left_less h.okA hen, ⟨rfl, rfl, ?_, rfl, trivial⟩, ?_⟩ <;> try simp only <;> try rw [e9]
        · exact hok
        · rfl
        · exact ((hsub (.cons_cons _ (.cons_cons _ (.cons_cons _ (.refl _))))).trans (hsub_pick [0, 0, 0] rfl))

end Go.Proofs.Ytighbhplfjjgpaa

/- walks (own work; the walks' lines by a program of this repo). -/
set_option linter.unusedVariables false
set_option linter.unusedSimpArgs false
set_option maxRecDepth 20000
namespace Go.Proofs.Ytighbhplfjjgpaa
open Go.Sl
attribute [local irreducible] BodyQ WpC WpL WpS WpH OpW FnS


set_option maxHeartbeats 1000000 in

theorem victim_y {w0 : World} {H : Hp} {o : Xo} {segs size : Int} {l : Xl} {A L : Gm} (h : Xm segs size l A L) {f : Nat} {cap : List Value} {C : Nat → List (Nat × Obj)} {p : Nat → Bool} (hcf : ∀ args w, (callFunc f args).run Try.prog w = .ok (.enter f args) w) (hcl : ∀ k : Nat, (k : Int) < segs → ∀ H1, HSub H H1 → FnS Try.prog w0 f ([Value.int .i64 (k : Int)] ++ cap).toArray (C k :: H1) (fun e H2 => e = .returned (.bool (p k)) ∧ H2 = C (k + 1) :: H1)) (hm : mayG segs size = true) : FnS Try.prog w0 40 #[ptr o.b, (.func (.func f) #[] cap.toArray)] (C 0 :: o.seg 90 segs size A L :: H) (fun e H' => e = .returned (.tuple #[.int .i64 (((vic p (fun j => cnt18 segs size l (j : Int)) segs.toNat).getD 0 : Nat) : Int), .bool (vic p (fun j => cnt18 segs size l (j : Int)) segs.toNat).isSome]) ∧ H' = C segs.toNat :: o.seg 90 segs size A L :: H) := by
  obtain ⟨g1, g2, g3, g4⟩ := mayG_spec hm
  refine FnS_intro (n := 57) (rs := [.tmp 4, .tmp 5]) (vs := [ptr o.b, (.func (.func f) #[] cap.toArray)]) Try.func40 rfl Try.ntmps40 rfl rfl ?_
  refine C_seq (C_region (LY rfl (y_assign rfl) (LY rfl (y_assign rfl) (L_nil (C_seq (C_seq (C_region (LY rfl (y_move rfl) ?_))))))))
  refine LY rfl (y_eqp rfl rfl Try.underlying29) ?_
  refine LY rfl (y_move rfl) (LY rfl (y_move rfl) ?_)
  refine LY rfl (y_eqfn rfl rfl Try.underlying38) ?_
  refine LY rfl (y_pick_f rfl rfl) (LY rfl (y_move rfl) (LY rfl (y_move rfl) (LY rfl (y_nilCheck rfl) (LY rfl (y_fieldAddr rfl fl_90_0) ?_))))
  refine LY rfl (y_loadA rfl ag_23 sz_23 (sees 1 0 rfl) (Nat.le_of_ble_eq_true rfl) rfl) ?_
  refine L_op rfl (op_call rfl rfl (fun a w => Try.call9 a w) rfl ?_)
  refine (check_s segs size).mono ?_
  rintro _ _ ⟨rfl, e⟩
  obtain rfl := e.symm
  clear e
  rw [show chkE segs size = 0 from by unfold chkE; rw [hm]; rfl]
  refine ⟨_, rfl, ?_⟩
  refine LY rfl (y_nei rfl rfl) ?_
  refine LY rfl (y_pick_f rfl rfl) (L_nil (C_cond_f rfl (C_skip (C_seq (C_region (LY rfl (y_assign rfl) (LY rfl (y_assign rfl) (L_nil (C_seq (C_seq (C_region (LY rfl (y_move rfl) (LY rfl (y_nilCheck rfl) (LY rfl (y_fieldAddr rfl fl_90_0) (LY rfl (y_fieldAddr rfl fl_23_0) (LY rfl (y_load rfl ag_3 (sees 1 0 rfl) rfl) (LY rfl (y_move rfl) (L_nil (C_block ?_)))))))))))))))))))
  refine C_loop (ι := Nat) (fun k => [(0, ptr o.b), (1, (.func (.func f) #[] cap.toArray)), (6, .int .i64 ((((vic p (fun j => cnt18 segs size l (j : Int)) k).getD 0 : Nat)) : Int)), (7, .bool (vic p (fun j => cnt18 segs size l (j : Int)) k).isSome), (27, .int .i64 segs), (28, .int .i64 (k : Int))]) (fun k => C k :: o.seg 90 segs size A L :: H) (fun k => (k : Int) ≤ segs) (fun k => segs.toNat - k) 0 (by omega) ⟨rfl, rfl, rfl, rfl, rfl, rfl, trivial⟩ ((hsub (.cons_cons _ (.cons_cons _ (.refl _)))).trans (hsub_pick [0, 0] rfl)) (fun k hk => ?_)
  skip
  refine C_seq (C_region (LY rfl (y_lss rfl rfl) (L_nil (C_seq ?_))))
  refine C_cond rfl (fun hc1 => ?_) (fun hc1 => ?_)
  · replace hc1 : (k : Int) < segs := of_decide_eq_true hc1
    refine C_skip (C_seq (C_block (C_seq (C_region (LY rfl (y_move rfl) (LY rfl (y_assign rfl) (L_nil (C_seq ?_))))))))
    refine C_regionH (o.seg 90 segs size A L :: H) (by kernel_rfl) ?_
    refine HY 0 rfl (((hsub (.cons_cons _ (.cons _ (.refl _)))).trans (hsub_pick [1] rfl))) rfl (y_move rfl) ?_
    refine HY 1 rfl (((hsub (.cons_cons _ (.cons _ (.refl _)))).trans (hsub_pick [1] rfl))) rfl (y_move rfl) ?_
    refine H_one 2 rfl (by kernel_rfl) rfl (op_call (f := f) (first := []) (cap := cap) rfl rfl hcf rfl ?_)
    refine FnS.mono (hcl k (by omega) _ (HSub.drop _ _)) ?_
    rintro _ _ ⟨rfl, rfl⟩
    refine ⟨_, rfl, ?_⟩
    refine ⟨((hsub (.cons_cons _ (.cons _ (.refl _)))).trans (hsub_pick [1] rfl)), ?_⟩
    refine HY 3 rfl (((hsub (.cons_cons _ (.cons _ (.refl _)))).trans (hsub_pick [1] rfl))) rfl (y_move rfl) ?_
    refine H_case 34 rfl (fun hg7_4 => ?_) (fun hg7_4 => ?_)
    · have hpk : p k = true := hg7_4
      refine HY 4 rfl (((hsub (.cons_cons _ (.cons _ (.refl _)))).trans (hsub_pick [1] rfl))) rfl (y_move rfl) ?_
      refine HY 5 rfl (((hsub (.cons_cons _ (.cons _ (.refl _)))).trans (hsub_pick [1] rfl))) rfl (y_not rfl) ?_
      refine HY 6 rfl (((hsub (.cons_cons _ (.cons _ (.refl _)))).trans (hsub_pick [1] rfl))) rfl (y_move rfl) ?_
      refine H_case 37 rfl (fun hg7_7 => ?_) (fun hg7_7 => ?_)
      · have hv : (vic p (fun j => cnt18 segs size l (j : Int)) k) = none := by simpa using hg7_7
        refine HK 7 rfl (((hsub (.cons_cons _ (.cons _ (.refl _)))).trans (hsub_pick [1] rfl))) rfl ?_
        refine HK 8 rfl (((hsub (.cons_cons _ (.cons _ (.refl _)))).trans (hsub_pick [1] rfl))) rfl ?_
        refine HK 9 rfl (((hsub (.cons_cons _ (.cons _ (.refl _)))).trans (hsub_pick [1] rfl))) rfl ?_
        refine HK 10 rfl (((hsub (.cons_cons _ (.cons _ (.refl _)))).trans (hsub_pick [1] rfl))) rfl ?_
        refine HK 11 rfl (((hsub (.cons_cons _ (.cons _ (.refl _)))).trans (hsub_pick [1] rfl))) rfl ?_
        refine HK 12 rfl (((hsub (.cons_cons _ (.cons _ (.refl _)))).trans (hsub_pick [1] rfl))) rfl ?_
        refine HK 13 rfl (((hsub (.cons_cons _ (.cons _ (.refl _)))).trans (hsub_pick [1] rfl))) rfl ?_
        refine HK 14 rfl (((hsub (.cons_cons _ (.cons _ (.refl _)))).trans (hsub_pick [1] rfl))) rfl ?_
        refine HK 15 rfl (((hsub (.cons_cons _ (.cons _ (.refl _)))).trans (hsub_pick [1] rfl))) rfl ?_
        refine HK 16 rfl (((hsub (.cons_cons _ (.cons _ (.refl _)))).trans (hsub_pick [1] rfl))) rfl ?_
        refine HK 17 rfl (((hsub (.cons_cons _ (.cons _ (.refl _)))).trans (hsub_pick [1] rfl))) rfl ?_
        refine HK 18 rfl (((hsub (.cons_cons _ (.cons _ (.refl _)))).trans (hsub_pick [1] rfl))) rfl ?_
        refine HK 19 rfl (((hsub (.cons_cons _ (.cons _ (.refl _)))).trans (hsub_pick [1] rfl))) rfl ?_
        refine HY 20 rfl (((hsub (.cons_cons _ (.cons _ (.refl _)))).trans (hsub_pick [1] rfl))) rfl (y_pick_t rfl rfl) ?_
        refine HY 21 rfl (((hsub (.cons_cons _ (.cons _ (.refl _)))).trans (hsub_pick [1] rfl))) rfl (y_pick_t rfl rfl) ?_
        refine H_done (by kernel_rfl) ?_
        refine C_cond_t rfl (C_region (LY rfl (y_move rfl) (LY rfl (y_assign rfl) (LY rfl (y_assign rfl) (L_nil (C_region ?_))))))
        refine LY rfl (y_add rfl rfl (wi64 (by omega) (by omega))) ?_
        refine LY rfl (y_move rfl) (L_nil ?_)
        have hx : (vic p (fun j => cnt18 segs size l (j : Int)) (k + 1)) = some k := by first | exact vic_first hpk hv | exact vic_less hpk hv hless
        refine ⟨k + 1, by omega, by omega, ?_⟩
        try dsimp only
        rw [hx]
        exact ⟨⟨rfl, rfl, rfl, rfl, rfl, rfl, trivial⟩, ((hsub (.cons_cons _ (.cons_cons _ (.refl _)))).trans (hsub_pick [0, 0] rfl))⟩
      · obtain ⟨b, hv⟩ : ∃ b, (vic p (fun j => cnt18 segs size l (j : Int)) k) = some b := Option.isSome_iff_exists.1 (by simpa using hg7_7)
        refine HY 7 rfl (((hsub (.cons_cons _ (.cons _ (.refl _)))).trans (hsub_pick [1] rfl))) rfl (y_move rfl) ?_
        refine HY 8 rfl (((hsub (.cons_cons _ (.cons _ (.refl _)))).trans (hsub_pick [1] rfl))) rfl (y_nilCheck rfl) ?_
        refine HY 9 rfl (((hsub (.cons_cons _ (.cons _ (.refl _)))).trans (hsub_pick [1] rfl))) rfl (y_fieldAddr rfl fl_90_2) ?_
        refine HY 10 rfl (((hsub (.cons_cons _ (.cons _ (.refl _)))).trans (hsub_pick [1] rfl))) rfl (y_load rfl ag_88 (sees 0 0 rfl) rfl) ?_
        refine HY 11 rfl (((hsub (.cons_cons _ (.cons _ (.refl _)))).trans (hsub_pick [1] rfl))) rfl (y_move rfl) ?_
        refine HY 12 rfl (((hsub (.cons_cons _ (.cons _ (.refl _)))).trans (hsub_pick [1] rfl))) rfl (y_lookupG rfl rfl Try.underlying88 Try.underlying3 zt_3 (sees 0 2 rfl)) ?_
        refine HY 13 rfl (((hsub (.cons_cons _ (.cons _ (.refl _)))).trans (hsub_pick [1] rfl))) rfl (y_move rfl) ?_
        refine HY 14 rfl (((hsub (.cons_cons _ (.cons _ (.refl _)))).trans (hsub_pick [1] rfl))) rfl (y_nilCheck rfl) ?_
        refine HY 15 rfl (((hsub (.cons_cons _ (.cons _ (.refl _)))).trans (hsub_pick [1] rfl))) rfl (y_fieldAddr rfl fl_90_2) ?_
        refine HY 16 rfl (((hsub (.cons_cons _ (.cons _ (.refl _)))).trans (hsub_pick [1] rfl))) rfl (y_load rfl ag_88 (sees 0 0 rfl) rfl) ?_
        refine HY 17 rfl (((hsub (.cons_cons _ (.cons _ (.refl _)))).trans (hsub_pick [1] rfl))) rfl (y_move rfl) ?_
        refine HY 18 rfl (((hsub (.cons_cons _ (.cons _ (.refl _)))).trans (hsub_pick [1] rfl))) rfl (y_lookupG rfl rfl Try.underlying88 Try.underlying3 zt_3 (sees 0 2 rfl)) ?_
        rw [h.liv, h.liv]
        refine HY 19 rfl (((hsub (.cons_cons _ (.cons _ (.refl _)))).trans (hsub_pick [1] rfl))) rfl (y_lss rfl rfl) ?_
        refine HY 20 rfl (((hsub (.cons_cons _ (.cons _ (.refl _)))).trans (hsub_pick [1] rfl))) rfl (y_pick_f rfl rfl) ?_
        refine HY 21 rfl (((hsub (.cons_cons _ (.cons _ (.refl _)))).trans (hsub_pick [1] rfl))) rfl (y_pick_t rfl rfl) ?_
        refine H_done (by kernel_rfl) ?_
        refine C_cond rfl (fun hc2 => ?_) (fun hc2 => ?_)
        · have hless : cnt18 segs size l (k : Int) < cnt18 segs size l (b : Int) := by have h5 := of_decide_eq_true hc2; rw [hv] at h5; exact Int.ofNat_lt.1 h5
          refine C_region (LY rfl (y_move rfl) (LY rfl (y_assign rfl) (LY rfl (y_assign rfl) (L_nil (C_region ?_)))))
          refine LY rfl (y_add rfl rfl (wi64 (by omega) (by omega))) ?_
          refine LY rfl (y_move rfl) (L_nil ?_)
          have hx : (vic p (fun j => cnt18 segs size l (j : Int)) (k + 1)) = some k := by first | exact vic_first hpk hv | exact vic_less hpk hv hless
          refine ⟨k + 1, by omega, by omega, ?_⟩
          try dsimp only
          rw [hx]
          exact ⟨⟨rfl, rfl, rfl, rfl, rfl, rfl, trivial⟩, ((hsub (.cons_cons _ (.cons_cons _ (.refl _)))).trans (hsub_pick [0, 0] rfl))⟩
        · have hless : ¬ cnt18 segs size l (k : Int) < cnt18 segs size l (b : Int) := by have h5 := of_decide_eq_false hc2; rw [hv] at h5; exact fun h6 => h5 (Int.ofNat_lt.2 h6)
          refine C_skip (C_region ?_)
          refine LY rfl (y_add rfl rfl (wi64 (by omega) (by omega))) ?_
          refine LY rfl (y_move rfl) (L_nil ?_)
          have hx : (vic p (fun j => cnt18 segs size l (j : Int)) (k + 1)) = (vic p (fun j => cnt18 segs size l (j : Int)) k) := by first | exact vic_no hpk | exact vic_not hpk hv hless
          refine ⟨k + 1, by omega, by omega, ?_⟩
          try dsimp only
          rw [hx]
          exact ⟨⟨rfl, rfl, rfl, rfl, rfl, rfl, trivial⟩, ((hsub (.cons_cons _ (.cons_cons _ (.refl _)))).trans (hsub_pick [0, 0] rfl))⟩
    · have hpk : p k = false := hg7_4
      refine HK 4 rfl (((hsub (.cons_cons _ (.cons _ (.refl _)))).trans (hsub_pick [1] rfl))) rfl ?_
      refine HK 5 rfl (((hsub (.cons_cons _ (.cons _ (.refl _)))).trans (hsub_pick [1] rfl))) rfl ?_
      refine HK 6 rfl (((hsub (.cons_cons _ (.cons _ (.refl _)))).trans (hsub_pick [1] rfl))) rfl ?_
      refine HK 7 rfl (((hsub (.cons_cons _ (.cons _ (.refl _)))).trans (hsub_pick [1] rfl))) rfl ?_
      refine HK 8 rfl (((hsub (.cons_cons _ (.cons _ (.refl _)))).trans (hsub_pick [1] rfl))) rfl ?_
      refine HK 9 rfl (((hsub (.cons_cons _ (.cons _ (.refl _)))).trans (hsub_pick [1] rfl))) rfl ?_
      refine HK 10 rfl (((hsub (.cons_cons _ (.cons _ (.refl _)))).trans (hsub_pick [1] rfl))) rfl ?_
      refine HK 11 rfl (((hsub (.cons_cons _ (.cons _ (.refl _)))).trans (hsub_pick [1] rfl))) rfl ?_
      refine HK 12 rfl (((hsub (.cons_cons _ (.cons _ (.refl _)))).trans (hsub_pick [1] rfl))) rfl ?_
      refine HK 13 rfl (((hsub (.cons_cons _ (.cons _ (.refl _)))).trans (hsub_pick [1] rfl))) rfl ?_
      refine HK 14 rfl (((hsub (.cons_cons _ (.cons _ (.refl _)))).trans (hsub_pick [1] rfl))) rfl ?_
      refine HK 15 rfl (((hsub (.cons_cons _ (.cons _ (.refl _)))).trans (hsub_pick [1] rfl))) rfl ?_
      refine HK 16 rfl (((hsub (.cons_cons _ (.cons _ (.refl _)))).trans (hsub_pick [1] rfl))) rfl ?_
      refine HK 17 rfl (((hsub (.cons_cons _ (.cons _ (.refl _)))).trans (hsub_pick [1] rfl))) rfl ?_
      refine HK 18 rfl (((hsub (.cons_cons _ (.cons _ (.refl _)))).trans (hsub_pick [1] rfl))) rfl ?_
      refine HK 19 rfl (((hsub (.cons_cons _ (.cons _ (.refl _)))).trans (hsub_pick [1] rfl))) rfl ?_
      refine HK 20 rfl (((hsub (.cons_cons _ (.cons _ (.refl _)))).trans (hsub_pick [1] rfl))) rfl ?_
      refine HY 21 rfl (((hsub (.cons_cons _ (.cons _ (.refl _)))).trans (hsub_pick [1] rfl))) rfl (y_pick_f rfl rfl) ?_
      refine H_done (by kernel_rfl) ?_
      refine C_cond_f rfl (C_skip (C_region ?_))
      refine LY rfl (y_add rfl rfl (wi64 (by omega) (by omega))) ?_
      refine LY rfl (y_move rfl) (L_nil ?_)
      have hx : (vic p (fun j => cnt18 segs size l (j : Int)) (k + 1)) = (vic p (fun j => cnt18 segs size l (j : Int)) k) := by first | exact vic_no hpk | exact vic_not hpk hv hless
      refine ⟨k + 1, by omega, by omega, ?_⟩
      try dsimp only
      rw [hx]
      exact ⟨⟨rfl, rfl, rfl, rfl, rfl, rfl, trivial⟩, ((hsub (.cons_cons _ (.cons_cons _ (.refl _)))).trans (hsub_pick [0, 0] rfl))⟩
  · replace hc1 : ¬ (k : Int) < segs := of_decide_eq_false hc1
    refine C_exit (C_seq ?_)
    have hk2 : k = segs.toNat := by omega
    subst hk2
    refine C_region (LY rfl (y_move rfl) (LY rfl (y_move rfl) (LY rfl (y_assign rfl) (LY rfl (y_assign rfl) (L_nil (C_ret ?_))))))
    refine B_ret (rv_tmp rfl (rv_tmp rfl rv_nil)) ((hsub (.cons_cons _ (.cons_cons _ (.refl _)))).trans (hsub_pick [0, 0] rfl)) ?_
    exact ⟨rfl, rfl⟩

end Go.Proofs.Ytighbhplfjjgpaa

/- walks (own work; the walks' lines by a program of this repo). -/
set_option linter.unusedVariables false
set_option linter.unusedSimpArgs false
set_option maxRecDepth 20000
namespace Go.Proofs.Ytighbhplfjjgpaa
open Go.Sl
attribute [local irreducible] BodyQ WpC WpL WpS WpH OpW FnS



end Go.Proofs.Ytighbhplfjjgpaa

/- ExtentLog: what the log and the map are behind so many appends (own work). -/
set_option linter.unusedVariables false
set_option linter.unusedSimpArgs false
namespace Go.Sl
deriving instance DecidableEq for Lm
def eL (sg sz i : Nat) : Lm := ⟨(List.range sg).map fun s => if s * sz < i then s + 1 else 0, if i = 0 then none else some ((i - 1) / sz), if i = 0 then 0 else (i - 1) % sz + 1, (i + sz - 1) / sz⟩
theorem eL_all : ∀ x : Fin 4, ∀ y : Fin 4, ∀ i : Fin 24, i.1 < (3 + x.1) * (1 + y.1) → ((eL (3 + x.1) (1 + y.1) i.1).next (1 + y.1) = some (i.1 / (1 + y.1), i.1 % (1 + y.1), i.1 / (1 + y.1) + 1) ∧ (eL (3 + x.1) (1 + y.1) i.1).put (i.1 / (1 + y.1)) (i.1 % (1 + y.1)) (i.1 / (1 + y.1) + 1) = eL (3 + x.1) (1 + y.1) (i.1 + 1)) := by decide +kernel
theorem e24 {x y i : Nat} (hx : x < 4) (hy : y < 4) (hi : i < (3 + x) * (1 + y)) : i < 24 := Nat.lt_of_lt_of_le hi (Nat.mul_le_mul (show 3 + x ≤ 6 by omega) (show 1 + y ≤ 4 by omega))
theorem eL_0 : ∀ x, x < 4 → ∀ y, y < 4 → eL (3 + x) (1 + y) 0 = l0 (3 + x) := by decide +kernel
theorem eL_step {sg sz i : Nat} (h1 : 3 ≤ sg) (h2 : sg < 7) (h3 : 1 ≤ sz) (h4 : sz < 5) (hi : i < sg * sz) : (eL sg sz i).next sz = some (i / sz, i % sz, i / sz + 1) ∧ (eL sg sz i).put (i / sz) (i % sz) (i / sz + 1) = eL sg sz (i + 1) := by
  obtain ⟨x, rfl⟩ := Nat.exists_eq_add_of_le h1
  obtain ⟨y, rfl⟩ := Nat.exists_eq_add_of_le h3
  exact eL_all ⟨x, by omega⟩ ⟨y, by omega⟩ ⟨i, e24 (by omega) (by omega) hi⟩ hi
theorem eL_z {sg sz : Nat} (h1 : 3 ≤ sg) (h2 : sg < 7) (h3 : 1 ≤ sz) (h4 : sz < 5) : eL sg sz 0 = l0 sg := by
  obtain ⟨x, rfl⟩ := Nat.exists_eq_add_of_le h1
  obtain ⟨y, rfl⟩ := Nat.exists_eq_add_of_le h3
  exact eL_0 x (by omega) y (by omega)
def eB (i : Nat) : Nat → Option (List UInt8) := fun a => if 2 ≤ a ∧ a < 2 + i then some [UInt8.ofNat (a - 2)] else none
theorem eB_0 : eB 0 = fun _ => none := by funext a; unfold eB; rw [if_neg (by omega)]
theorem eB_step (i : Nat) : updB (eB i) (2 + i) [UInt8.ofNat i] = eB (i + 1) := by
  funext a
  unfold updB eB
  by_cases h : a = 2 + i
  · subst h; rw [if_pos rfl, if_pos (by omega)]; congr 3; omega
  · rw [if_neg h]
    by_cases h2 : 2 ≤ a ∧ a < 2 + i
    · rw [if_pos h2, if_pos (by omega)]
    · rw [if_neg h2, if_neg (by omega)]
def eX (i : Nat) : Xl := (List.range i).map fun j => (j + 1, ((2 + j : Nat) : Int))
theorem eX_len (i : Nat) : (eX i).length = i := by simp [eX]
theorem eX_succ (i : Nat) : eX (i + 1) = eX i ++ [(i + 1, ((2 + i : Nat) : Int))] := by simp [eX, List.range_succ]
theorem eX_mem {i n : Nat} {a : Int} : (n, a) ∈ eX i ↔ ∃ j, j < i ∧ n = j + 1 ∧ a = ((2 + j : Nat) : Int) := by
  unfold eX
  simp only [List.mem_map, List.mem_range, Prod.mk.injEq]
  constructor
  · rintro ⟨j, h, rfl, rfl⟩; exact ⟨j, h, rfl, rfl⟩
  · rintro ⟨j, h, rfl, rfl⟩; exact ⟨j, h, rfl, rfl⟩
theorem xins_e : ∀ {l : Xl} {n : Nat} {a : Int}, (∀ x ∈ l, x.1 < n) → xins l n a = l ++ [(n, a)]
  | [], n, a, _ => rfl
  | x :: l, n, a, h => by
    have hx := h x (by simp)
    rw [xins, if_neg (by omega), xins_e (fun y hy => h y (by simp [hy]))]
    rfl
theorem xfind_none : ∀ {l : Xl} {k : Int}, (∀ x ∈ l, (x.1 : Int) ≠ k) → xfind l k = none := fun {l k} h => by
  unfold xfind
  rw [Option.map_eq_none_iff, List.find?_eq_none]
  intro x hx
  simpa using h x hx
/-- How many of them lie in segment s. -/
def eC (sz n s : Nat) : Nat := min (n - s * sz) sz
end Go.Sl

/- walks (own work; the walks' lines by a program of this repo). -/
set_option linter.unusedVariables false
set_option linter.unusedSimpArgs false
set_option maxRecDepth 20000
namespace Go.Proofs.Ytighbhplfjjgpaa
open Go.Sl
attribute [local irreducible] BodyQ WpC WpL WpS WpH OpW FnS

abbrev zc0 : List Value := ((List.replicate 32 (.int .u8 0)) ++ [.int .u64 0] ++ (List.replicate 32 (.int .u8 0)))


end Go.Proofs.Ytighbhplfjjgpaa

/- What the laws of layer 42 ask: the head, the room, what a plan empties (own work). -/
set_option linter.unusedVariables false
set_option linter.unusedSimpArgs false
namespace Go.Sl
section
variable {p q : Nat → Bool} {c : Nat → Nat} {n k b : Nat}
theorem vic_ex (hk : k < n) (hp : p k = true) : ∃ v, vic p c n = some v := by
  cases hv : vic p c n with
  | some v => exact ⟨v, rfl⟩
  | none => exact absurd hp (by rw [vic_spec.vic_none hv k hk]; decide)
end
theorem gset_all (segs size : Int) (l : Xl) (seg : Int) : ∀ (ms acc : List Nat), ms.Nodup → (∀ n ∈ ms, liesIn segs size l seg n = true ∧ ¬ n ∈ acc) → ms.foldl (fun acc n => if liesIn segs size l seg n && !acc.contains n then acc ++ [n] else acc) acc = acc ++ ms
  | [], acc, _, _ => by simp
  | m :: ms, acc, hn, h => by
    rw [List.nodup_cons] at hn
    have hm := h m (List.mem_cons_self ..)
    rw [List.foldl_cons, if_pos (by rw [hm.1]; simp [hm.2]), gset_all segs size l seg ms (acc ++ [m]) hn.2]
    · simp
    · intro n hx
      have := h n (List.mem_cons_of_mem _ hx)
      refine ⟨this.1, fun hin => ?_⟩
      rcases List.mem_append.1 hin with h1 | h1
      · exact this.2 h1
      · rw [List.mem_singleton.1 h1] at hx; exact hn.1 hx
theorem gset_nums {segs size : Int} {l : Xl} (hs : Xs l) (seg : Int) : gset segs size l seg (xnums segs size l seg) = xnums segs size l seg := by
  unfold gset
  rw [gset_all]
  · simp
  · exact (xnums_strict hs seg).imp fun h => Nat.ne_of_lt h
  · intro n hn
    obtain ⟨a, ha, ho⟩ := xnums_mem.1 hn
    refine ⟨?_, by simp⟩
    unfold liesIn
    rw [(xfind_mem hs).2 ha]
    exact decide_eq_true ho
/-! ### Numbers that are moved to one sector -/
def mvL (segs size : Int) (l : Xl) (t : Int) (ns : List Nat) : Xl := ns.foldl (fun x n => (xput segs size x n t true).1) l
/-! ### The law's cases -/
abbrev pqH (head : Int) (li : List Bool) : Nat → Bool := fun k : Nat => !decide ((k : Int) = head) && (decide (0 ≤ (k : Int)) && li.getD (k : Int).toNat false)
end Go.Sl

/- CompactCarried: the log behind so many moves (own work). -/
set_option linter.unusedVariables false
set_option linter.unusedSimpArgs false
namespace Go.Sl
/-- The log when all segments but one are full, and k bodies were moved. -/
def cL (sg sz k : Nat) : Lm := if k = 0 then eL sg sz ((sg - 1) * sz) else ⟨(eL sg sz ((sg - 1) * sz)).gens.set (sg - 1) sg, some (sg - 1), k, sg⟩
theorem cL_all : ∀ x : Fin 4, ∀ y : Fin 4, ∀ k : Fin 4, k.1 < 1 + y.1 → ((cL (3 + x.1) (1 + y.1) k.1).next (1 + y.1) = some (3 + x.1 - 1, k.1, 3 + x.1) ∧ (cL (3 + x.1) (1 + y.1) k.1).put (3 + x.1 - 1) k.1 (3 + x.1) = cL (3 + x.1) (1 + y.1) (k.1 + 1)) := by decide +kernel
theorem cR_all : ∀ x : Fin 4, ∀ y : Fin 4, ∀ k : Fin 4, ∀ v : Fin 6, k.1 < 1 + y.1 → v.1 < 3 + x.1 - 2 → (((cL (3 + x.1) (1 + y.1) k.1).free v.1).room (1 + y.1) = (cL (3 + x.1) (1 + y.1) 0).room (1 + y.1) + ((1 + y.1 : Nat) : Int) - ((k.1 : Nat) : Int) ∧ (cL (3 + x.1) (1 + y.1) k.1).gens[v.1]? = some (v.1 + 1) ∧ (cL (3 + x.1) (1 + y.1) k.1).head ≠ some v.1 ∧ ((cL (3 + x.1) (1 + y.1) k.1).free v.1).head = (if k.1 = 0 then some (3 + x.1 - 2) else some (3 + x.1 - 1))) := by decide +kernel
theorem cH_all : ∀ x : Fin 4, ∀ y : Fin 4, (cL (3 + x.1) (1 + y.1) 0).head = some (3 + x.1 - 2) ∧ ((cL (3 + x.1) (1 + y.1) 0).slot = 1 + y.1) := by decide +kernel
theorem cG_all : ∀ x : Fin 4, ∀ y : Fin 4, ∀ s : Fin 6, s.1 < 3 + x.1 → (cL (3 + x.1) (1 + y.1) 0).gens[s.1]? = some (if s.1 < 3 + x.1 - 1 then s.1 + 1 else 0) := by decide +kernel
section
variable {sg sz k v s : Nat} (h1 : 3 ≤ sg) (h2 : sg < 7) (h3 : 1 ≤ sz) (h4 : sz < 5)
include h1 h2 h3 h4
theorem cL_step (hk : k < sz) : (cL sg sz k).next sz = some (sg - 1, k, sg) ∧ (cL sg sz k).put (sg - 1) k sg = cL sg sz (k + 1) := by
  obtain ⟨x, rfl⟩ := Nat.exists_eq_add_of_le h1
  obtain ⟨y, rfl⟩ := Nat.exists_eq_add_of_le h3
  exact cL_all ⟨x, by omega⟩ ⟨y, by omega⟩ ⟨k, by omega⟩ hk
theorem cL_free (hk : k < sz) (hv : v < sg - 2) : ((cL sg sz k).free v).room sz = (cL sg sz 0).room sz + (sz : Int) - (k : Int) ∧ (cL sg sz k).gens[v]? = some (v + 1) ∧ (cL sg sz k).head ≠ some v ∧ ((cL sg sz k).free v).head = (if k = 0 then some (sg - 2) else some (sg - 1)) := by
  obtain ⟨x, rfl⟩ := Nat.exists_eq_add_of_le h1
  obtain ⟨y, rfl⟩ := Nat.exists_eq_add_of_le h3
  exact cR_all ⟨x, by omega⟩ ⟨y, by omega⟩ ⟨k, by omega⟩ ⟨v, by omega⟩ hk hv
theorem cL_head : (cL sg sz 0).head = some (sg - 2) ∧ (cL sg sz 0).slot = sz := by
  obtain ⟨x, rfl⟩ := Nat.exists_eq_add_of_le h1
  obtain ⟨y, rfl⟩ := Nat.exists_eq_add_of_le h3
  exact cH_all ⟨x, by omega⟩ ⟨y, by omega⟩
theorem cL_gen (hs : s < sg) : (cL sg sz 0).gens[s]? = some (if s < sg - 1 then s + 1 else 0) := by
  obtain ⟨x, rfl⟩ := Nat.exists_eq_add_of_le h1
  obtain ⟨y, rfl⟩ := Nat.exists_eq_add_of_le h3
  exact cG_all ⟨x, by omega⟩ ⟨y, by omega⟩ ⟨s, by omega⟩ hs
end
/-- The live ones of the first i. -/
def cX (lv : List Bool) (i : Nat) : Xl := (eX i).filter fun x => lv.getD (x.1 - 1) false
theorem cX_succ (lv : List Bool) (i : Nat) : cX lv (i + 1) = if lv.getD i false then cX lv i ++ [(i + 1, ((2 + i : Nat) : Int))] else cX lv i := by
  unfold cX
  have e : ([(i + 1, ((2 + i : Nat) : Int))] : Xl).filter (fun x => lv.getD (x.1 - 1) false) = if lv.getD i false then [(i + 1, ((2 + i : Nat) : Int))] else [] := by
    rw [List.filter_cons, List.filter_nil, Nat.add_sub_cancel]
  rw [eX_succ, List.filter_append, e]
  split <;> simp
theorem cX_mem {lv : List Bool} {i n : Nat} {a : Int} (h : (n, a) ∈ cX lv i) : ∃ j, j < i ∧ n = j + 1 ∧ a = ((2 + j : Nat) : Int) := eX_mem.1 (List.mem_filter.1 h).1
theorem cX_len (lv : List Bool) (i : Nat) : (cX lv i).length ≤ i := Nat.le_trans (List.length_filter_le _ _) (Nat.le_of_eq (eX_len i))
theorem cX_put {lv : List Bool} {sg sz i : Nat} (hm : mayG (sg : Int) (sz : Int) = true) (hi : i < sg * sz) (hl : lv.getD i false = true) : xput (sg : Int) (sz : Int) (cX lv i) (i + 1) ((2 + i : Nat) : Int) false = (cX lv (i + 1), 0) := by
  have h1 : ofS (sg : Int) (sz : Int) ((2 + i : Nat) : Int) ≠ none := by
    unfold ofS
    have : (sg : Int) * (sz : Int) = ((sg * sz : Nat) : Int) := by push_cast; rfl
    rw [if_pos (by simp [hm]; omega)]
    simp
  have h2 : xfind (cX lv i) ((i + 1 : Nat) : Int) = none := xfind_none fun x hx => by
    obtain ⟨j, hj, e1, e2⟩ := cX_mem (show (x.1, x.2) ∈ cX lv i from hx)
    omega
  have h3 : xins (cX lv i) (i + 1) ((2 + i : Nat) : Int) = cX lv (i + 1) := by
    rw [xins_e (fun x hx => ?_), cX_succ, if_pos hl]
    obtain ⟨j, hj, e1, e2⟩ := cX_mem (show (x.1, x.2) ∈ cX lv i from hx)
    omega
  unfold xput
  rw [if_neg (by omega), if_neg h1, h2]
  show (xins (cX lv i) (i + 1) ((2 + i : Nat) : Int), (0 : Int)) = _
  rw [h3]
theorem ofS_nat {sg sz t : Nat} {s : Int} (h : ofS (sg : Int) (sz : Int) ((t : Nat) : Int) = some s) : s = (((t - 2) / sz : Nat) : Int) := by
  obtain ⟨q1, q2, q3, q4, q5, q6⟩ := ofS_spec h
  rw [q4]
  push_cast
  congr 1
  omega
/-- What holds behind k moves out of segment v. -/
structure Cv (sg sz n v k : Nat) (XN : List Nat) (len : Nat) (l : Xl) (B : Nat → Option (List UInt8)) : Prop where
  at_ : ∀ (m : Nat) (a : Int), xfind l (m : Int) = some a → ∃ i t : Nat, i < n ∧ m = i + 1 ∧ a = (t : Int) ∧ t < 2 + n + k ∧ B t = some [UInt8.ofNat i]
  in_ : ∀ (m : Nat) (a : Int), xfind l (m : Int) = some a → ofS (sg : Int) (sz : Int) a = some (v : Int) → m ∈ XN.drop k
  has : ∀ m, m ∈ XN.drop k → ∃ a, xfind l (m : Int) = some a
  len : l.length = len
section
variable {sg sz n v k : Nat} {XN : List Nat} {len : Nat} {l : Xl} {B : Nat → Option (List UInt8)} {A L : Gm}
theorem Cv.start {lv : List Bool} (hX : Xm (sg : Int) (sz : Int) (cX lv n) A L) (hB : ∀ i, i < n → B (2 + i) = some [UInt8.ofNat i]) : Cv sg sz n v 0 (xnums (sg : Int) (sz : Int) (cX lv n) (v : Int)) (cX lv n).length (cX lv n) B := by
  refine ⟨fun m a h => ?_, fun m a h ho => ?_, fun m h => ?_, rfl⟩
  · obtain ⟨j, hj, rfl, rfl⟩ := cX_mem ((xfind_mem hX.s).1 h)
    exact ⟨j, 2 + j, hj, rfl, rfl, by omega, hB j hj⟩
  · exact xnums_mem.2 ⟨a, (xfind_mem hX.s).1 h, ho⟩
  · obtain ⟨a, h1, h2⟩ := xnums_mem.1 (show m ∈ xnums (sg : Int) (sz : Int) (cX lv n) (v : Int) from h)
    exact ⟨a, (xfind_mem hX.s).2 h1⟩
theorem xnums_nd {segs size : Int} (h : Xs l) (s : Int) : (xnums segs size l s).Nodup := by
  unfold xnums List.Nodup
  rw [List.pairwise_map]
  exact (List.Pairwise.filter _ h).imp fun hlt => Nat.ne_of_lt hlt
theorem Cv.put (h : Cv sg sz n v k XN len l B) (hX : Xm (sg : Int) (sz : Int) l A L) (hnd : XN.Nodup) {num : Nat} (hx : XN[k]? = some num) {s : Int} (hto : ofS (sg : Int) (sz : Int) ((2 + n + k : Nat) : Int) = some s) (hs : s ≠ (v : Int)) :
    xput (sg : Int) (sz : Int) l num ((2 + n + k : Nat) : Int) true = (xins (xdel l num) num ((2 + n + k : Nat) : Int), 0) ∧ ∃ i t : Nat, i < n ∧ num = i + 1 ∧ xfind l (num : Int) = some ((t : Nat) : Int) ∧ B t = some [UInt8.ofNat i] ∧ Cv sg sz n v (k + 1) XN len (xins (xdel l num) num ((2 + n + k : Nat) : Int)) (updB B (2 + n + k) [UInt8.ofNat i]) := by
  have hk := (List.getElem?_eq_some_iff.1 hx).1
  have hd : XN.drop k = num :: XN.drop (k + 1) := by
    rw [List.drop_eq_getElem_cons hk]
    congr 1
    rw [List.getElem?_eq_getElem hk] at hx
    exact Option.some.inj hx
  have hnm : num ∉ XN.drop (k + 1) := by
    have := hnd.sublist (List.drop_sublist k XN)
    rw [hd] at this
    exact (List.nodup_cons.1 this).1
  obtain ⟨a, ha⟩ := h.has num (by rw [hd]; simp)
  obtain ⟨i, t, q1, q2, q3, q4, q5⟩ := h.at_ num a ha
  subst q3
  have hdel : xfind (xdel l num) (num : Int) = none := by rw [xfind_del, if_pos rfl]
  have hget : ∀ m : Nat, xfind (xins (xdel l num) num ((2 + n + k : Nat) : Int)) (m : Int) = if m = num then some ((2 + n + k : Nat) : Int) else xfind l (m : Int) := fun m => by
    rw [xfind_ins hdel, xfind_del]
    by_cases e : m = num
    · subst e; simp
    · rw [if_neg (by omega), if_neg (by omega), if_neg e]
  refine ⟨?_, i, t, q1, q2, ha, q5, ?_⟩
  · unfold xput
    rw [if_neg (by omega), if_neg (by rw [hto]; simp), ha]
    rfl
  · refine ⟨fun m a h2 => ?_, fun m a h2 ho => ?_, fun m h2 => ?_, ?_⟩
    · rw [hget] at h2
      split at h2
      · rename_i e
        cases h2
        exact ⟨i, 2 + n + k, q1, by omega, rfl, by omega, by simp [updB]⟩
      · obtain ⟨i2, t2, p1, p2, p3, p4, p5⟩ := h.at_ m a h2
        exact ⟨i2, t2, p1, p2, p3, by omega, by rw [updB, if_neg (by omega)]; exact p5⟩
    · rw [hget] at h2
      split at h2
      · cases h2
        rw [hto] at ho
        cases ho
        exact absurd rfl hs
      · rename_i e
        have := h.in_ m a h2 ho
        rw [hd] at this
        rcases List.mem_cons.1 this with h3 | h3
        · exact absurd h3 e
        · exact h3
    · have e : m ≠ num := fun e => hnm (e ▸ h2)
      obtain ⟨a2, ha2⟩ := h.has m (by rw [hd]; exact List.mem_cons_of_mem _ h2)
      exact ⟨a2, by rw [hget, if_neg e]; exact ha2⟩
    · rw [xins_len, xdel_len hX.s ha]; exact h.len
theorem Cv.none_in (h : Cv sg sz n v XN.length XN len l B) (hX : Xm (sg : Int) (sz : Int) l A L) : cnt18 (sg : Int) (sz : Int) l (v : Int) = 0 := by
  unfold cnt18
  rw [List.length_eq_zero_iff, List.filter_eq_nil_iff]
  intro x hx
  have hf := (xfind_mem hX.s).2 (show (x.1, x.2) ∈ l from hx)
  intro hc
  have := h.in_ x.1 x.2 hf (by simpa using hc)
  simp at this
theorem Cv.rd (h : Cv sg sz n v XN.length XN len l B) (hX : Xm (sg : Int) (sz : Int) l A L) {i : Nat} {a : Int} (hf : xfind l ((i + 1 : Nat) : Int) = some a) : ∃ t : Nat, a = (t : Int) ∧ freeB B sz v t = some [UInt8.ofNat i] := by
  obtain ⟨i2, t, q1, q2, q3, q4, q5⟩ := h.at_ (i + 1) a hf
  obtain rfl : i = i2 := by omega
  subst q3
  refine ⟨t, rfl, ?_⟩
  obtain ⟨s, hs⟩ := ofS_some hX hf
  have e := ofS_nat hs
  unfold freeB
  rw [if_neg (fun e2 => ?_)]
  · exact q5
  · rw [e2] at e
    subst e
    have := h.in_ (i + 1) _ hf hs
    simp at this
end
def bt (th : Bool) (b : List UInt8) : List UInt8 := if th then b else []
theorem slV_ex2 {sz len : Nat} {g : Option SlG} {xs : List Value} (h : slOk sz g len xs) : ∃ a cap, slV g len = .slice a len cap := by
  cases g with
  | none => exact ⟨none, 0, by rw [h.2]; rfl⟩
  | some g => exact ⟨_, _, rfl⟩
theorem Cv.rx {sg sz n v : Nat} {XN : List Nat} {len : Nat} {l : Xl} {B : Nat → Option (List UInt8)} {A L : Gm} (h : Cv sg sz n v XN.length XN len l B) (hX : Xm (sg : Int) (sz : Int) l A L) (i : Nat) : ∃ (th : Bool) (t : Nat), (xfind l ((i + 1 : Nat) : Int)).isSome = th ∧ (xfind l ((i + 1 : Nat) : Int)).getD 0 = (t : Int) ∧ (if th then freeB B sz v t = some [UInt8.ofNat i] else t = 0) := by
  cases hf : xfind l ((i + 1 : Nat) : Int) with
  | none => exact ⟨false, 0, rfl, rfl, rfl⟩
  | some a =>
    obtain ⟨t, rfl, hb⟩ := h.rd hX hf
    exact ⟨true, t, rfl, rfl, hb⟩
theorem cR0_all : ∀ x : Fin 4, ∀ y : Fin 4, (cL (3 + x.1) (1 + y.1) 0).room (1 + y.1) = ((1 + y.1 : Nat) : Int) := by decide +kernel
theorem cL_room {sg sz : Nat} (h1 : 3 ≤ sg) (h2 : sg < 7) (h3 : 1 ≤ sz) (h4 : sz < 5) : (cL sg sz 0).room sz = (sz : Int) := by
  obtain ⟨x, rfl⟩ := Nat.exists_eq_add_of_le h1
  obtain ⟨y, rfl⟩ := Nat.exists_eq_add_of_le h3
  exact cR0_all ⟨x, by omega⟩ ⟨y, by omega⟩
theorem ofS_to {sg sz k : Nat} (hm : mayG (sg : Int) (sz : Int) = true) (hk : k < sz) : ofS (sg : Int) (sz : Int) ((2 + (sg - 1) * sz + k : Nat) : Int) = some ((sg - 1 : Nat) : Int) := by
  obtain ⟨w1, w2, w3, w4, w5⟩ := may_lt hm
  have h1 := at_lt (sg := sg) (s := sg - 1) (o := k) (by omega) hk
  have h2 := (seg_of (s := sg - 1) hk).1
  have h3 : (sg : Int) * (sz : Int) = ((sg * sz : Nat) : Int) := by push_cast; rfl
  have h4 : (((2 + (sg - 1) * sz + k - 2) / sz : Nat) : Int) = (((2 + (sg - 1) * sz + k : Nat) : Int) - 2) / (sz : Int) := by
    rw [Int.natCast_ediv]; congr 1; omega
  unfold ofS
  rw [if_pos (by simp [hm]; omega), ← h4, h2]
structure G42 where
  D : Duo
  A : Da
  m : Mi
  X : List Sec
  mb : Nat
  bx : Nat
  bys : Nat
  bp : Nat
  lb : Nat
  gb : Nat
  cb : Nat
  tb : Nat
end Go.Sl

/- walks (own work; the walks' lines by a program of this repo). -/
set_option linter.unusedVariables false
set_option linter.unusedSimpArgs false
set_option maxRecDepth 20000
namespace Go.Proofs.Ytighbhplfjjgpaa
open Go.Sl
attribute [local irreducible] BodyQ WpC WpL WpS WpH OpW FnS


theorem genw_s {w0 : World} {H : Hp} {lb mb gb : Nat} {zc : List Value} {sg sz : Nat} {l : Lm} (hLs : Sees (fun w => St w0 w H) lb (.cells (lgcells mb gb (.iface 67 (.agg zc.toArray)) sg sz l).toArray 105)) (hGs : Sees (fun w => St w0 w H) gb (.cells (us l.gens).toArray 48)) {s g : Nat} (hx : l.gens[s]? = some g) : FnS Try.prog w0 31 #[ptr lb, .int .i64 (s : Int)] H (fun e H' => e = .returned (.int .u64 (g : Int)) ∧ H' = H) := by
  have hlt := (List.getElem?_eq_some_iff.1 hx).1
  refine FnS_intro (n := 27) (rs := [.tmp 4]) (vs := [ptr lb, .int .i64 (s : Int)]) Try.func31 rfl Try.ntmps31 rfl rfl ?_
  refine C_seq (C_region (LY rfl (y_assign rfl) (L_nil (C_seq (C_seq (C_region (LY rfl (y_move rfl) ?_)))))))
  refine LY rfl (y_eqp rfl rfl Try.underlying56) ?_
  refine LY rfl (y_move rfl) (LY rfl (y_move rfl) (LY rfl (y_lss rfl rfl) (LY rfl (y_pick_f rfl rfl) (LY rfl (y_move rfl) ?_))))
  refine L_case 11 rfl (fun hg1_7 => ?_) (fun hg1_7 => ?_)
  · exact absurd (of_decide_eq_true hg1_7) (by omega)
  · skip
    refine LY rfl (y_move rfl) (LY rfl (y_move rfl) (LY rfl (y_nilCheck rfl) (LY rfl (y_fieldAddr rfl fl_105_3) ?_)))
    refine LY rfl (y_load rfl ag_33 (hLs) rfl) ?_
    refine LY rfl (y_lenS rfl rfl Try.underlying33) ?_
    refine LY rfl (y_geq rfl rfl) ?_
    refine LY rfl (y_pick_f rfl rfl) (L_nil ?_)
    refine C_cond rfl (fun hc0 => absurd hc0 (by simp <;> omega)) (fun hc0 => ?_)
    refine C_skip (C_seq (C_region (LY rfl (y_move rfl) (LY rfl (y_nilCheck rfl) (LY rfl (y_fieldAddr rfl fl_105_3) ?_)))))
    refine LY rfl (y_load rfl ag_33 (hLs) rfl) ?_
    refine LY rfl (y_move rfl) ?_
    refine LY rfl (y_indexS rfl rfl Try.underlying33 sz_48 (by omega) (by omega) (show _ = s from by simp)) ?_
    refine LY rfl (y_load rfl ag_48 (hGs) (show _ = some (Value.int .u64 (g : Int)) from by simp [us, hx])) ?_
    refine LY rfl (y_assign rfl) (L_nil (C_ret ?_))
    refine B_ret (rv_tmp rfl rv_nil) (hsub (.refl _)) ?_
    exact ⟨rfl, rfl⟩

theorem carried1_s {w0 : World} {H : Hp} {lb mb gb : Nat} {zc : List Value} {sg sz : Nat} {l : Lm} {tb : Nat} (hTs : Sees (fun w => St w0 w H) tb (.cells [ptr lb].toArray 56)) (hLs : Sees (fun w => St w0 w H) lb (.cells (lgcells mb gb (.iface 67 (.agg zc.toArray)) sg sz l).toArray 105)) (hGs : Sees (fun w => St w0 w H) gb (.cells (us l.gens).toArray 48)) {s g : Nat} (hx : l.gens[s]? = some g) : FnS Try.prog w0 37 #[.int .i64 (s : Int), ptr tb] H (fun e H' => e = .returned (.bool (decide (0 < g))) ∧ H' = H) := by
  refine FnS_intro (n := 8) (rs := [.tmp 3]) (vs := [.int .i64 (s : Int), ptr tb]) Try.func37 rfl Try.ntmps37 rfl rfl ?_
  refine C_seq (C_region (LY rfl (y_assign rfl) (L_nil (C_seq (C_region ?_)))))
  refine LY rfl (y_load rfl ag_56 (hTs) rfl) ?_
  refine LY rfl (y_move rfl) ?_
  refine L_op rfl (op_call rfl rfl (fun a w => Try.call31 a w) rfl ?_)
  refine (genw_s hLs hGs hx).mono ?_
  rintro _ _ ⟨rfl, e⟩
  obtain rfl := e.symm
  clear e
  refine ⟨_, rfl, ?_⟩
  refine LY rfl (y_gtr rfl rfl) ?_
  refine LY rfl (y_assign rfl) (L_nil (C_ret ?_))
  refine B_ret (rv_tmp rfl rv_nil) (hsub (.refl _)) ?_
  exact ⟨ret_bool (by simp), rfl⟩

theorem read_0 {w0 : World} {H : Hp} {lb mb gb : Nat} {zc : List Value} {sg sz : Nat} {l : Lm} {gv : Value} {D : Duo} {A : Da} {m : Mi} {X : List Sec} {k bx bys bp : Nat} {B : Nat → Option (List UInt8)} (h : Lst dt gv sg sz D A m X k mb bx bys bp l B)  : FnS Try.prog w0 34 #[ptr lb, .int .i64 0] (LGS lb mb gb zc sg sz l m D H) (fun e H' => e = .returned (.tuple #[.slice none 0 0, .int .i64 2]) ∧ H' = (LGS lb mb gb zc sg sz l m D H)) := by
  have r2 : ofS (sg : Int) (sz : Int) 0 = none := by unfold ofS; simp
  refine FnS_intro (n := 74) (rs := [.tmp 4, .tmp 5]) (vs := [ptr lb, .int .i64 0]) Try.func34 rfl Try.ntmps34 rfl rfl ?_
  refine C_seq (C_region (LY rfl (y_assign rfl) (LY rfl (y_assign rfl) (L_nil (C_seq (C_seq (C_region (LY rfl (y_move rfl) ?_))))))))
  refine LY rfl (y_eqp rfl rfl Try.underlying56) ?_
  refine L_nil (C_cond_f rfl (C_skip (C_seq (C_region (LY rfl (y_move rfl) (LY rfl (y_nilCheck rfl) (LY rfl (y_fieldAddr rfl fl_105_2) ?_)))))))
  refine LY rfl (y_loadA rfl ag_23 sz_23 (sees 0 0 rfl) (Nat.le_of_ble_eq_true rfl) (show _ = [Value.int .i64 (sg : Int), .int .i64 (sz : Int)] from rfl)) ?_
  refine LY rfl (y_move rfl) ?_
  refine L_op rfl (op_call rfl rfl (fun a w => Try.call44 a w) rfl ?_)
  refine (of_s (sg : Int) (sz : Int) 0).mono ?_
  rintro _ _ ⟨rfl, e⟩
  obtain rfl := e.symm
  clear e
  rw [r2]
  refine ⟨_, rfl, ?_⟩
  refine LY rfl (y_move rfl) (LY rfl (y_extract rfl rfl) (LY rfl (y_extract rfl rfl) (LY rfl (y_extract rfl rfl) (LY rfl (y_assign rfl) (LY rfl (y_assign rfl) (LY rfl (y_assign rfl) (L_nil (C_seq (C_seq (C_region (LY rfl (y_move rfl) (LY rfl (y_not rfl) (LY rfl (y_move rfl) ?_)))))))))))))
  refine L_case 27 rfl (fun hg4_3 => ?_) (fun hg4_3 => ?_)
  · skip
    refine L_skip rfl rfl (L_skip rfl rfl (L_skip rfl rfl (L_skip rfl rfl (L_skip rfl rfl (L_skip rfl rfl (L_skip rfl rfl (L_skip rfl rfl (LY rfl (y_pick_t rfl rfl) (L_nil (C_cond_t rfl (C_seq (C_region (LY rfl (y_assign rfl) (LY rfl (y_assign rfl) (L_nil (C_ret ?_))))))))))))))))
    refine B_ret (rv_tmp rfl (rv_tmp rfl rv_nil)) ((hsub (.cons_cons _ (.cons_cons _ (.cons_cons _ (.cons_cons _ (.refl _)))))).trans (hsub_pick [0, 0, 0, 0] rfl)) ?_
    exact ⟨rfl, rfl⟩
  · exact absurd hg4_3 (by simp)

theorem read_x {w0 : World} {H : Hp} {lb mb gb : Nat} {zc : List Value} {sg sz : Nat} {l : Lm} {gv : Value} {D : Duo} {A : Da} {m : Mi} {X : List Sec} {k bx bys bp : Nat} {B : Nat → Option (List UInt8)} (h : Lst dt gv sg sz D A m X k mb bx bys bp l B)  (hG : GoodAt Try.prog w0 H gv gp) (hk : k < 99000) (th : Bool) {a : Nat} {body : List UInt8} (hb : if th then B a = some body else a = 0) : FnS Try.prog w0 34 #[ptr lb, .int .i64 (a : Int)] (LGS lb mb gb zc sg sz l m D H) (fun e H' => ∃ gd, slOk 1 gd (bt th body).length (bs (bt th body)) ∧ e = .returned (.tuple #[slV gd (bt th body).length, .int .i64 (if th then 0 else 2)]) ∧ H' = slSeg 5 gd (bs (bt th body)) :: LGS lb mb gb zc sg sz l m D H) := by
  cases th with
  | true => exact read_s h hG hk hb
  | false =>
    obtain rfl : a = 0 := hb
    refine (read_0 h).weak ?_
    rintro _ _ ⟨rfl, rfl⟩
    exact ⟨[] :: LGS lb mb gb zc sg sz l m D H, hsub_flat rfl, none, ⟨rfl, rfl⟩, rfl, rfl⟩

end Go.Proofs.Ytighbhplfjjgpaa

/- Facts of the translation's types, for the kernel (own work, by a program of this repo). -/
namespace Go.Proofs.Ytighbhplfjjgpaa
open Go.Sl
theorem ag_38 : isAggT Try.prog 38 = some false := by kernel_rfl
theorem pl_35 : placesT Try.prog 35 = some [(0, 1), (1, 1)] := by kernel_rfl
theorem pl_83 : placesT Try.prog 83 = some [(0, 1), (1, 1)] := by kernel_rfl
theorem sz_83 : szT Try.prog 83 = some 2 := by kernel_rfl
theorem zl_83 : zeroL Try.prog 83 = some ([.int .u64 0, .int .i64 0]) := by kernel_rfl
end Go.Proofs.Ytighbhplfjjgpaa

/- Facts of the translation's types, for the kernel (own work, by a program of this repo). -/
namespace Go.Proofs.Ytighbhplfjjgpaa
open Go.Sl
theorem fl_83_0 : fldT Try.prog 83 0 = some 0 := by kernel_rfl
theorem fl_83_1 : fldT Try.prog 83 1 = some 1 := by kernel_rfl
end Go.Proofs.Ytighbhplfjjgpaa

/- walks (own work; the walks' lines by a program of this repo). -/
set_option linter.unusedVariables false
set_option linter.unusedSimpArgs false
set_option maxRecDepth 20000
namespace Go.Proofs.Ytighbhplfjjgpaa
open Go.Sl
attribute [local irreducible] BodyQ WpC WpL WpS WpH OpW FnS


theorem choose1_s {w0 : World} {H : Hp} {bh bu fu : Nat} {cu : List Value} {head k : Int} {b : Bool} (hh : Sees (fun w => St w0 w H) bh (.cells [Value.int .i64 head].toArray 3)) (hb : Sees (fun w => St w0 w H) bu (.cells [Value.func (.func fu) #[] cu.toArray].toArray 38)) (hcf : ∀ args w, (callFunc fu args).run Try.prog w = .ok (.enter fu args) w) (hu : FnS Try.prog w0 fu ([Value.int .i64 k] ++ cu).toArray H (fun e H2 => e = .returned (.bool b) ∧ H2 = H)) : FnS Try.prog w0 41 #[.int .i64 k, ptr bh, ptr bu] H (fun e H' => e = .returned (.bool (!decide (k = head) && b)) ∧ H' = H) := by
  refine FnS_intro (n := 13) (rs := [.tmp 4]) (vs := [.int .i64 k, ptr bh, ptr bu]) Try.func41 rfl Try.ntmps41 rfl rfl ?_
  refine C_seq (C_region (LY rfl (y_assign rfl) (L_nil (C_seq (C_region (LY rfl (y_move rfl) ?_))))))
  refine LY rfl (y_load rfl ag_3 (hh) rfl) ?_
  refine LY rfl (y_nei rfl rfl) ?_
  refine LY rfl (y_move rfl) ?_
  refine L_case 8 rfl (fun hg1_4 => ?_) (fun hg1_4 => ?_)
  · have h0 : ¬ k = head := by simpa using hg1_4
    refine LY rfl (y_load rfl ag_38 (hb) rfl) ?_
    refine LY rfl (y_move rfl) ?_
    refine L_op rfl (op_call (f := fu) (first := []) (cap := cu) rfl rfl hcf rfl ?_)
    refine FnS.mono hu ?_
    rintro _ _ ⟨rfl, e⟩
    obtain rfl := e.symm
    clear e
    refine ⟨_, rfl, ?_⟩
    refine LY rfl (y_pick_t rfl rfl) (LY rfl (y_assign rfl) (L_nil (C_ret ?_)))
    refine B_ret (rv_tmp rfl rv_nil) (hsub (.refl _)) ?_
    refine ⟨congrArg (fun b => Ending.returned (Value.bool b)) ?_, rfl⟩
    simp [h0]
  · have h0 : k = head := by simpa using hg1_4
    refine L_skip rfl rfl (L_skip rfl rfl (L_skip rfl rfl (LY rfl (y_pick_f rfl rfl) (LY rfl (y_assign rfl) (L_nil (C_ret ?_))))))
    refine B_ret (rv_tmp rfl rv_nil) (hsub (.refl _)) ?_
    refine ⟨congrArg (fun b => Ending.returned (Value.bool b)) ?_, rfl⟩
    simp [h0]

end Go.Proofs.Ytighbhplfjjgpaa

/- walks (own work; the walks' lines by a program of this repo). -/
set_option linter.unusedVariables false
set_option linter.unusedSimpArgs false
set_option maxRecDepth 20000
namespace Go.Proofs.Ytighbhplfjjgpaa
open Go.Sl
attribute [local irreducible] BodyQ WpC WpL WpS WpH OpW FnS


theorem choose_y {w0 : World} {H : Hp} {o : Xo} {segs size : Int} {l : Xl} {A L : Gm} (h : Xm segs size l A L) {fu : Nat} {cu : List Value} {p : Nat → Bool} (head : Int) (hcf : ∀ args w, (callFunc fu args).run Try.prog w = .ok (.enter fu args) w) (hu : ∀ k : Nat, (k : Int) < segs → ∀ H1, HSub H H1 → FnS Try.prog w0 fu ([Value.int .i64 (k : Int)] ++ cu).toArray H1 (fun e H2 => e = .returned (.bool (p k)) ∧ H2 = H1)) (hm : mayG segs size = true) {v : Nat} (hv : vic (fun k : Nat => !decide ((k : Int) = head) && p k) (fun j => cnt18 segs size l (j : Int)) segs.toNat = some v) (hl : l.length < 60000) : FnS Try.prog w0 11 #[ptr o.b, (.func (.func fu) #[] cu.toArray), .int .i64 head] (o.seg 90 segs size A L :: H) (fun e H' => ∃ g, slOk 1 g (xnums segs size l (v : Int)).length (us (xnums segs size l (v : Int))) ∧ e = .returned (.tuple #[.agg [Value.int .i64 (v : Int), slV g (xnums segs size l (v : Int)).length].toArray, .bool true]) ∧ H' = slSeg 48 g (us (xnums segs size l (v : Int))) :: o.seg 90 segs size A L :: H) := by
  refine FnS_intro (n := 27) (rs := [.cell 6 35, .tmp 7]) (vs := [ptr o.b, (.func (.func fu) #[] cu.toArray), .int .i64 head]) Try.func11 rfl Try.ntmps11 rfl rfl ?_
  refine C_seq (C_region ?_)
  refine L_op rfl (op_box rfl rfl rfl (fun B1 => ?_))
  refine L_op rfl (op_box rfl rfl rfl (fun B2 => ?_))
  refine L_op rfl (op_alloc zl_35 rfl (fun B3 => ?_))
  refine LY rfl (y_assign rfl) (L_nil (C_seq (C_seq (C_region (LY rfl (y_load rfl ag_38 (sees 2 0 rfl) rfl) ?_)))))
  refine LY rfl (y_eqfn rfl rfl Try.underlying38) ?_
  refine L_nil (C_cond_f rfl (C_skip (C_seq (C_region (LY rfl (y_move rfl) ?_)))))
  refine LY rfl (y_makeFunc rfl rfl) ?_
  refine L_op rfl (op_call rfl rfl (fun a w => Try.call40 a w) rfl ?_)
  refine (FnS.sub (hsub_nilx.trans (hsub_pick [3] rfl)) (victim_y h (f := 41) (cap := [ptr B2, ptr B1]) (C := fun _ => []) (p := (fun k : Nat => !decide ((k : Int) = head) && p k)) (fun a w => Try.call41 a w) (fun k hk H1 hs => choose1_s (head := head) (b := p k) (Sees.sub (by exact sees 1 0 rfl) (hs.trans (HSub.drop _ _))) (Sees.sub (by exact sees 2 0 rfl) (hs.trans (HSub.drop _ _))) hcf (hu k hk _ (HSub.trans (by exact hsub (.cons _ (.cons _ (.cons _ (.refl _))))) (hs.trans (HSub.drop _ _))))) hm)).mono ?_
  rw [hv]
  rintro _ _ ⟨rfl, rfl⟩
  refine ⟨_, rfl, ?_⟩
  refine LY rfl (y_move rfl) (LY rfl (y_extract rfl rfl) (LY rfl (y_extract rfl rfl) (LY rfl (y_assign rfl) (LY rfl (y_assign rfl) (L_nil (C_seq (C_seq (C_region (LY rfl (y_move rfl) (LY rfl (y_not rfl) (L_nil (C_cond_f rfl (C_skip (C_seq (C_region (LY rfl (y_move rfl) (LY rfl (y_move rfl) (LY rfl (y_move rfl) ?_))))))))))))))))))
  refine L_op rfl (op_call rfl rfl (fun a w => Try.call32 a w) rfl ?_)
  refine (FnS.sub (hsub_pick [1] rfl) (xnums_s h (v : Int) hl)).mono ?_
  rintro _ _ ⟨g, hg, rfl, rfl⟩
  obtain ⟨ga, gc, ge1, _⟩ := holds_sl (w0 := w0) (H := [slSeg 48 g (us (xnums segs size l (v : Int)))]) (s := 0) rfl hg
  rw [ge1]
  refine ⟨_, rfl, ?_⟩
  refine LY rfl (y_build (vs := [(0, _), (1, _)]) rfl pl_35 zl_35 (fill_cons (off := 0) (m := 1) (vs := [_]) rfl rfl rfl (Nat.le_of_ble_eq_true rfl) (fill_cons (off := 1) (m := 1) (vs := [_]) rfl rfl rfl (Nat.le_of_ble_eq_true rfl) rfl))) ?_
  refine L_op rfl (op_store 3 0 rfl rfl rfl sz_35 rfl rfl (ones rfl) (by decide) ?_)
  skip
  refine LY rfl (y_assign rfl) (L_nil (C_ret ?_))
  refine B_ret (rv_cellA rfl ag_35 sz_35 (sees 3 0 rfl) (Nat.le_of_ble_eq_true rfl) rfl (rv_tmp rfl rv_nil)) ((hsub (.cons_cons _ (.cons_cons _ (.cons _ (.cons _ (.cons _ (.cons _ (.refl _)))))))).trans (hsub_pick [0, 0] rfl)) ?_
  exact ⟨g, hg, by rw [ge1]; rfl, rfl⟩

end Go.Proofs.Ytighbhplfjjgpaa

/- walks (own work; the walks' lines by a program of this repo). -/
set_option linter.unusedVariables false
set_option linter.unusedSimpArgs false
set_option maxRecDepth 20000
namespace Go.Proofs.Ytighbhplfjjgpaa
open Go.Sl
attribute [local irreducible] BodyQ WpC WpL WpS WpH OpW FnS


theorem gain_bad {w0 : World} {H : Hp} {o : Xo} {segs size : Int} {l : Xl} {A L : Gm} (h : Xm segs size l A L) {pn : Option Addr} {cn : Nat} {ns : List Nat} (hN : Holds w0 H pn (us ns)) (hl : ns.length < 1000000) (seg : Int) (hm : mayG segs size = false) : FnS Try.prog w0 17 #[ptr o.b, shV segs size, .agg [Value.int .i64 seg, .slice pn ns.length cn].toArray] (o.seg 90 segs size A L :: H) (fun e H' => e = .returned (.int .i64 0) ∧ H' = o.seg 90 segs size A L :: H) := by
  refine FnS_intro (n := 70) (rs := [.tmp 6]) (vs := [ptr o.b, shV segs size, .agg [Value.int .i64 seg, .slice pn ns.length cn].toArray]) Try.func17 rfl Try.ntmps17 rfl rfl ?_
  refine C_seq (C_region ?_)
  refine L_op rfl (op_box rfl rfl rfl (fun B1 => ?_))
  refine L_op rfl (op_box rfl rfl rfl (fun B2 => ?_))
  refine LY rfl (y_assign rfl) (L_nil (C_seq (C_seq (C_region ?_))))
  refine LY rfl (y_loadA rfl ag_23 sz_23 (sees 1 0 rfl) (Nat.le_of_ble_eq_true rfl) rfl) ?_
  refine L_op rfl (op_call rfl rfl (fun a w => Try.call9 a w) rfl ?_)
  refine (check_s segs size).mono ?_
  rintro _ _ ⟨rfl, e⟩
  obtain rfl := e.symm
  clear e
  rw [show chkE segs size = 2 from by unfold chkE; rw [hm]; rfl]
  refine ⟨_, rfl, ?_⟩
  refine LY rfl (y_nei rfl rfl) ?_
  refine LY rfl (y_move rfl) (L_skip rfl rfl (L_skip rfl rfl (L_skip rfl rfl (LY rfl (y_pick_t rfl rfl) (LY rfl (y_move rfl) (L_skip rfl rfl (L_skip rfl rfl (L_skip rfl rfl (L_skip rfl rfl (L_skip rfl rfl (LY rfl (y_pick_t rfl rfl) (L_nil (C_cond_t rfl (C_seq (C_region (LY rfl (y_assign rfl) (L_nil (C_ret ?_))))))))))))))))))
  refine B_ret (rv_tmp rfl rv_nil) ((hsub (.cons_cons _ (.cons _ (.cons _ (.refl _))))).trans (hsub_pick [2] rfl)) ?_
  exact ⟨rfl, rfl⟩

theorem gain_lo {w0 : World} {H : Hp} {o : Xo} {segs size : Int} {l : Xl} {A L : Gm} (h : Xm segs size l A L) {pn : Option Addr} {cn : Nat} {ns : List Nat} (hN : Holds w0 H pn (us ns)) (hl : ns.length < 1000000) (seg : Int) (hm : mayG segs size = true) (hs : seg < 0) : FnS Try.prog w0 17 #[ptr o.b, shV segs size, .agg [Value.int .i64 seg, .slice pn ns.length cn].toArray] (o.seg 90 segs size A L :: H) (fun e H' => e = .returned (.int .i64 0) ∧ H' = o.seg 90 segs size A L :: H) := by
  refine FnS_intro (n := 70) (rs := [.tmp 6]) (vs := [ptr o.b, shV segs size, .agg [Value.int .i64 seg, .slice pn ns.length cn].toArray]) Try.func17 rfl Try.ntmps17 rfl rfl ?_
  refine C_seq (C_region ?_)
  refine L_op rfl (op_box rfl rfl rfl (fun B1 => ?_))
  refine L_op rfl (op_box rfl rfl rfl (fun B2 => ?_))
  refine LY rfl (y_assign rfl) (L_nil (C_seq (C_seq (C_region ?_))))
  refine LY rfl (y_loadA rfl ag_23 sz_23 (sees 1 0 rfl) (Nat.le_of_ble_eq_true rfl) rfl) ?_
  refine L_op rfl (op_call rfl rfl (fun a w => Try.call9 a w) rfl ?_)
  refine (check_s segs size).mono ?_
  rintro _ _ ⟨rfl, e⟩
  obtain rfl := e.symm
  clear e
  rw [show chkE segs size = 0 from by unfold chkE; rw [hm]; rfl]
  refine ⟨_, rfl, ?_⟩
  refine LY rfl (y_nei rfl rfl) ?_
  refine LY rfl (y_move rfl) (LY rfl (y_fieldAddr rfl fl_35_0) (LY rfl (y_load rfl ag_3 (sees 0 0 rfl) rfl) (LY rfl (y_lss rfl rfl) (LY rfl (y_pick_f rfl rfl) (LY rfl (y_move rfl) ?_)))))
  refine L_case 23 rfl (fun hg1_9 => ?_) (fun hg1_9 => ?_)
  · skip
    refine L_skip rfl rfl (L_skip rfl rfl (L_skip rfl rfl (L_skip rfl rfl (L_skip rfl rfl (LY rfl (y_pick_t rfl rfl) (L_nil (C_cond_t rfl (C_seq (C_region (LY rfl (y_assign rfl) (L_nil (C_ret ?_))))))))))))
    refine B_ret (rv_tmp rfl rv_nil) ((hsub (.cons_cons _ (.cons _ (.cons _ (.refl _))))).trans (hsub_pick [2] rfl)) ?_
    exact ⟨rfl, rfl⟩
  · exact absurd (of_decide_eq_false hg1_9) (by omega)

theorem gain_hi {w0 : World} {H : Hp} {o : Xo} {segs size : Int} {l : Xl} {A L : Gm} (h : Xm segs size l A L) {pn : Option Addr} {cn : Nat} {ns : List Nat} (hN : Holds w0 H pn (us ns)) (hl : ns.length < 1000000) (seg : Int) (hm : mayG segs size = true) (hs : ¬ seg < 0) (hs2 : segs ≤ seg) : FnS Try.prog w0 17 #[ptr o.b, shV segs size, .agg [Value.int .i64 seg, .slice pn ns.length cn].toArray] (o.seg 90 segs size A L :: H) (fun e H' => e = .returned (.int .i64 0) ∧ H' = o.seg 90 segs size A L :: H) := by
  refine FnS_intro (n := 70) (rs := [.tmp 6]) (vs := [ptr o.b, shV segs size, .agg [Value.int .i64 seg, .slice pn ns.length cn].toArray]) Try.func17 rfl Try.ntmps17 rfl rfl ?_
  refine C_seq (C_region ?_)
  refine L_op rfl (op_box rfl rfl rfl (fun B1 => ?_))
  refine L_op rfl (op_box rfl rfl rfl (fun B2 => ?_))
  refine LY rfl (y_assign rfl) (L_nil (C_seq (C_seq (C_region ?_))))
  refine LY rfl (y_loadA rfl ag_23 sz_23 (sees 1 0 rfl) (Nat.le_of_ble_eq_true rfl) rfl) ?_
  refine L_op rfl (op_call rfl rfl (fun a w => Try.call9 a w) rfl ?_)
  refine (check_s segs size).mono ?_
  rintro _ _ ⟨rfl, e⟩
  obtain rfl := e.symm
  clear e
  rw [show chkE segs size = 0 from by unfold chkE; rw [hm]; rfl]
  refine ⟨_, rfl, ?_⟩
  refine LY rfl (y_nei rfl rfl) ?_
  refine LY rfl (y_move rfl) (LY rfl (y_fieldAddr rfl fl_35_0) (LY rfl (y_load rfl ag_3 (sees 0 0 rfl) rfl) (LY rfl (y_lss rfl rfl) (LY rfl (y_pick_f rfl rfl) (LY rfl (y_move rfl) ?_)))))
  refine L_case 23 rfl (fun hg1_9 => ?_) (fun hg1_9 => ?_)
  · exact absurd (of_decide_eq_true hg1_9) (by omega)
  · skip
    refine LY rfl (y_fieldAddr rfl fl_35_0) (LY rfl (y_load rfl ag_3 (sees 0 0 rfl) rfl) (LY rfl (y_fieldAddr rfl fl_23_0) (LY rfl (y_load rfl ag_3 (sees 1 0 rfl) rfl) ?_)))
    refine LY rfl (y_geq rfl rfl) ?_
    refine LY rfl (y_pick_f rfl rfl) (L_nil ?_)
    refine C_cond rfl (fun hc0 => ?_) (fun hc0 => absurd hc0 (by simp <;> omega))
    refine C_seq (C_region (LY rfl (y_assign rfl) (L_nil (C_ret ?_))))
    refine B_ret (rv_tmp rfl rv_nil) ((hsub (.cons_cons _ (.cons _ (.cons _ (.refl _))))).trans (hsub_pick [2] rfl)) ?_
    exact ⟨rfl, rfl⟩

set_option maxHeartbeats 1000000 in

theorem gain_y {w0 : World} {H : Hp} {o : Xo} {segs size : Int} {l : Xl} {A L : Gm} (h : Xm segs size l A L) {pn : Option Addr} {cn : Nat} {ns : List Nat} (hN : Holds w0 H pn (us ns)) (hl : ns.length < 1000000) (seg : Int) (hm : mayG segs size = true) (hs : ¬ seg < 0) (hs2 : ¬ segs ≤ seg) : FnS Try.prog w0 17 #[ptr o.b, shV segs size, .agg [Value.int .i64 seg, .slice pn ns.length cn].toArray] (o.seg 90 segs size A L :: H) (fun e H' => e = .returned (.int .i64 (max (size - ((gset segs size l seg ns).length : Int)) 0)) ∧ H' = o.seg 90 segs size A L :: H) := by
  refine FnS_intro (n := 70) (rs := [.tmp 6]) (vs := [ptr o.b, shV segs size, .agg [Value.int .i64 seg, .slice pn ns.length cn].toArray]) Try.func17 rfl Try.ntmps17 rfl rfl ?_
  refine C_seq (C_region ?_)
  refine L_op rfl (op_box rfl rfl rfl (fun B1 => ?_))
  refine L_op rfl (op_box rfl rfl rfl (fun B2 => ?_))
  refine LY rfl (y_assign rfl) (L_nil (C_seq (C_seq (C_region ?_))))
  refine LY rfl (y_loadA rfl ag_23 sz_23 (sees 1 0 rfl) (Nat.le_of_ble_eq_true rfl) rfl) ?_
  refine L_op rfl (op_call rfl rfl (fun a w => Try.call9 a w) rfl ?_)
  refine (check_s segs size).mono ?_
  rintro _ _ ⟨rfl, e⟩
  obtain rfl := e.symm
  clear e
  rw [show chkE segs size = 0 from by unfold chkE; rw [hm]; rfl]
  refine ⟨_, rfl, ?_⟩
  refine LY rfl (y_nei rfl rfl) ?_
  refine LY rfl (y_move rfl) (LY rfl (y_fieldAddr rfl fl_35_0) (LY rfl (y_load rfl ag_3 (sees 0 0 rfl) rfl) (LY rfl (y_lss rfl rfl) (LY rfl (y_pick_f rfl rfl) (LY rfl (y_move rfl) ?_)))))
  refine L_case 23 rfl (fun hg1_9 => ?_) (fun hg1_9 => ?_)
  · exact absurd (of_decide_eq_true hg1_9) (by omega)
  · skip
    refine LY rfl (y_fieldAddr rfl fl_35_0) (LY rfl (y_load rfl ag_3 (sees 0 0 rfl) rfl) (LY rfl (y_fieldAddr rfl fl_23_0) (LY rfl (y_load rfl ag_3 (sees 1 0 rfl) rfl) ?_)))
    refine LY rfl (y_geq rfl rfl) ?_
    refine LY rfl (y_pick_f rfl rfl) (L_nil ?_)
    refine C_cond rfl (fun hc0 => absurd hc0 (by simp <;> omega)) (fun hc0 => ?_)
    refine C_skip (C_seq (C_region ?_))
    refine L_op rfl (op_makeMapG .u64 rfl (fun B3 => ?_))
    refine LY rfl (y_assign rfl) (L_nil (C_seq (C_seq (C_region (LY rfl (y_fieldAddr rfl fl_35_1) (LY rfl (y_load rfl ag_33 (sees 1 0 rfl) rfl) ?_))))))
    refine LY rfl (y_lenS rfl rfl Try.underlying33) ?_
    refine LY rfl (y_move rfl) (L_nil (C_block ?_))
    refine C_loop (ι := Nat × Gm) (fun i => [(0, ptr o.b), (4, ptr B1), (5, ptr B2), (7, .map (some B3)), (32, .slice pn ns.length cn), (33, .int .i64 (ns.length : Int)), (34, .int .i64 (i.1 : Int))]) (fun i => [(B3, i.2.obj .u64)] :: o.seg 90 segs size A L :: [(B1, .cells [Value.int .i64 segs, .int .i64 size].toArray 23)] :: [(B2, .cells [Value.int .i64 seg, .slice pn ns.length cn].toArray 35)] :: H) (fun i => i.1 ≤ ns.length ∧ Gs (gset segs size l seg (ns.take i.1)) i.2) (fun i => ns.length - i.1) (0, Gm.new) ⟨Nat.zero_le _, Gs.new⟩ ⟨rfl, rfl, rfl, rfl, rfl, rfl, rfl, trivial⟩ ((hsub (.cons_cons _ (.cons_cons _ (.cons_cons _ (.cons_cons _ (.refl _)))))).trans (hsub_pick [0, 2, 1, 0] rfl)) (fun i hi => ?_)
    obtain ⟨i, G⟩ := i
    obtain ⟨hi, hG⟩ := hi
    try simp only at hi hG
    try dsimp only
    refine C_seq (C_region (LY rfl (y_lss rfl rfl) (L_nil (C_seq ?_))))
    refine C_cond rfl (fun hc1 => ?_) (fun hc1 => ?_)
    · replace hc1 : i < ns.length := by have := of_decide_eq_true hc1; omega
      obtain ⟨n, hx⟩ : ∃ n, ns[i]? = some n := ⟨_, List.getElem?_eq_getElem hc1⟩
      obtain ⟨b1, o1, l1, T1, fr1, rfl, hs1, hle1, hv1⟩ := hN (by rw [us_len]; omega)
      rw [us_len] at hle1
      have hnn : ns.getD i 0 = n := by simp [List.getD, hx]
      refine C_skip (C_seq (C_block (C_seq (C_region ?_))))
      refine LY rfl (y_indexS rfl rfl Try.underlying33 sz_48 (by omega) (by omega) (show _ = o1 + i * 1 from by simp)) ?_
      refine LY rfl (y_load rfl ag_48 (hs1.up.up.up.up) (show _ = some (Value.int .u64 (n : Int)) from by rw [← hnn]; exact us_hat hv1 hc1)) ?_
      refine LY rfl (y_assign rfl) (L_nil (C_seq (C_region (LY rfl (y_move rfl) (LY rfl (y_move rfl) ?_)))))
      refine L_op rfl (op_call rfl rfl (fun a w => Try.call33 a w) rfl ?_)
      refine (FnS.sub (hsub_pick [1] rfl) (xat_s h n)).mono ?_
      rintro _ _ ⟨rfl, rfl⟩
      refine ⟨_, rfl, ?_⟩
      refine LY rfl (y_move rfl) (LY rfl (y_extract rfl rfl) (LY rfl (y_extract rfl rfl) (LY rfl (y_assign rfl) (LY rfl (y_assign rfl) (L_nil (C_seq (C_region ?_)))))))
      refine LY rfl (y_loadA rfl ag_23 sz_23 (sees 2 0 rfl) (Nat.le_of_ble_eq_true rfl) rfl) ?_
      refine LY rfl (y_move rfl) ?_
      refine L_op rfl (op_call rfl rfl (fun a w => Try.call44 a w) rfl ?_)
      refine (of_s segs size _).mono ?_
      rintro _ _ ⟨rfl, e⟩
      obtain rfl := e.symm
      clear e
      refine ⟨_, rfl, ?_⟩
      refine LY rfl (y_move rfl) (LY rfl (y_extract rfl rfl) (LY rfl (y_extract rfl rfl) (LY rfl (y_extract rfl rfl) (LY rfl (y_assign rfl) (LY rfl (y_assign rfl) (LY rfl (y_assign rfl) (L_nil (C_seq (C_region (LY rfl (y_move rfl) (LY rfl (y_move rfl) ?_)))))))))))
      refine L_case 52 rfl (fun hg9_2 => ?_) (fun hg9_2 => ?_)
      · obtain ⟨a, hq⟩ : ∃ a, xfind l (n : Int) = some a := Option.isSome_iff_exists.1 hg9_2
        obtain ⟨t, hb⟩ := ofS_some h hq
        refine LY rfl (y_move rfl) (LY rfl (y_pick_t rfl rfl) (LY rfl (y_move rfl) ?_))
        refine L_case 55 rfl (fun hg9_5 => ?_) (fun hg9_5 => ?_)
        · skip
          refine LY rfl (y_move rfl) (LY rfl (y_fieldAddr rfl fl_35_0) (LY rfl (y_load rfl ag_3 (sees 3 0 rfl) rfl) (LY rfl (y_eqi rfl rfl) (LY rfl (y_pick_t rfl rfl) (L_nil ?_)))))
          refine C_cond rfl (fun hc2 => ?_) (fun hc2 => ?_)
          · have hin : ofS segs size a = some seg := by have h5 := of_decide_eq_true hc2; rw [hq, Option.getD_some, hb, Option.getD_some] at h5; rw [hb, h5]
            refine C_region (LY rfl (y_move rfl) (LY rfl (y_move rfl) ?_))
            refine L_op rfl (op_mapUpdateG 1 0 rfl rfl rfl Try.underlying91 Try.underlying48 hG.ok rfl rfl ?_)
            refine L_nil (C_region ?_)
            refine LY rfl (y_add rfl rfl (show _ = ((i + 1 : Nat) : Int) from by rw [wi64 (by omega) (by omega)]; omega)) ?_
            refine LY rfl (y_move rfl) (L_nil ?_)
            have hz : (gset segs size l seg (ns.take (i + 1))) = (if (gset segs size l seg (ns.take i)).contains n then (gset segs size l seg (ns.take i)) else (gset segs size l seg (ns.take i)) ++ [n]) := by rw [gset_next hx, show liesIn segs size l seg n = true from by unfold liesIn; rw [hq]; exact decide_eq_true hin]; cases (gset segs size l seg (ns.take i)).contains n <;> rfl
            refine ⟨(i + 1, _), ⟨by simp only; omega, ?_⟩, by simp only; omega, ⟨rfl, rfl, rfl, rfl, rfl, rfl, rfl, trivial⟩, ((hsub (.cons_cons _ (.cons_cons _ (.cons_cons _ (.cons_cons _ (.refl _)))))).trans (hsub_pick [1, 0, 0, 0] rfl))⟩
            try simp only
            rw [hz]
            exact hG.put n _
          · have hin : ¬ ofS segs size a = some seg := by
              have h5 := of_decide_eq_false hc2
              rw [hq, Option.getD_some, hb, Option.getD_some] at h5
              rw [hb]; exact fun e => h5 (Option.some.inj e)
            refine C_skip (C_region ?_)
            refine LY rfl (y_add rfl rfl (show _ = ((i + 1 : Nat) : Int) from by rw [wi64 (by omega) (by omega)]; omega)) ?_
            refine LY rfl (y_move rfl) (L_nil ?_)
            have hz : (gset segs size l seg (ns.take (i + 1))) = (gset segs size l seg (ns.take i)) := by rw [gset_next hx, show liesIn segs size l seg n = false from by unfold liesIn; rw [hq] <;> first | rfl | exact decide_eq_false hin] <;> rfl
            refine ⟨(i + 1, G), ⟨by simp only; omega, ?_⟩, by simp only; omega, ⟨rfl, rfl, rfl, rfl, rfl, rfl, rfl, trivial⟩, ((hsub (.cons_cons _ (.cons_cons _ (.cons_cons _ (.cons_cons _ (.refl _)))))).trans (hsub_pick [1, 0, 0, 0] rfl))⟩
            try simp only
            rw [hz]
            exact hG
        · exact absurd hg9_5 (by rw [hq, Option.getD_some, hb]; simp)
      · have hq : xfind l (n : Int) = none := by cases e : xfind l (n : Int) with
          | none => rfl
          | some a => rw [e] at hg9_2; cases hg9_2
        refine L_skip rfl rfl (LY rfl (y_pick_f rfl rfl) (LY rfl (y_move rfl) (L_skip rfl rfl (L_skip rfl rfl (L_skip rfl rfl (L_skip rfl rfl (LY rfl (y_pick_f rfl rfl) (L_nil (C_cond_f rfl (C_skip (C_region ?_)))))))))))
        refine LY rfl (y_add rfl rfl (show _ = ((i + 1 : Nat) : Int) from by rw [wi64 (by omega) (by omega)]; omega)) ?_
        refine LY rfl (y_move rfl) (L_nil ?_)
        have hz : (gset segs size l seg (ns.take (i + 1))) = (gset segs size l seg (ns.take i)) := by rw [gset_next hx, show liesIn segs size l seg n = false from by unfold liesIn; rw [hq] <;> first | rfl | exact decide_eq_false hin] <;> rfl
        refine ⟨(i + 1, G), ⟨by simp only; omega, ?_⟩, by simp only; omega, ⟨rfl, rfl, rfl, rfl, rfl, rfl, rfl, trivial⟩, ((hsub (.cons_cons _ (.cons_cons _ (.cons_cons _ (.cons_cons _ (.refl _)))))).trans (hsub_pick [1, 0, 0, 0] rfl))⟩
        try simp only
        rw [hz]
        exact hG
    · obtain rfl : i = ns.length := by have := of_decide_eq_false hc1; omega
      refine C_exit (C_seq ?_)
      have hgl := hG.len
      obtain ⟨g1, g2, g3, g4⟩ := mayG_spec hm
      have hgb : (gset segs size l seg (ns.take ns.length)).length ≤ ns.length := gset_len ..
      rw [List.take_length] at hgl hgb
      refine C_region (LY rfl (y_fieldAddr rfl fl_23_1) (LY rfl (y_load rfl ag_3 (sees 2 0 rfl) rfl) (LY rfl (y_move rfl) ?_)))
      refine LY rfl (y_lenG rfl rfl Try.underlying91 (sees 0 0 rfl)) ?_
      refine LY rfl (y_sub rfl rfl (wi64 (by omega) (by omega))) ?_
      refine LY rfl (y_max rfl rfl) ?_
      refine LY rfl (y_assign rfl) (L_nil (C_ret ?_))
      refine B_ret (rv_tmp rfl rv_nil) ((hsub (.cons_cons _ (.cons _ (.cons _ (.cons _ (.refl _)))))).trans (hsub_pick [1] rfl)) ?_
      exact ⟨by rw [hgl]; rfl, rfl⟩

end Go.Proofs.Ytighbhplfjjgpaa

/- Facts of the translation's types, for the kernel (own work, by a program of this repo). -/
namespace Go.Proofs.Ytighbhplfjjgpaa
open Go.Sl
theorem ag_128 : isAggT Try.prog 128 = some true := by kernel_rfl
theorem by_128 : byT Try.prog 128 = some 16 := by kernel_rfl
theorem by_150 : byT Try.prog 150 = some 16 := by kernel_rfl
theorem fl_128_0 : fldT Try.prog 128 0 = some 0 := by kernel_rfl
theorem ni_148 : notIntT Try.prog 148 = true := by kernel_rfl
theorem ni_30 : notIntT Try.prog 30 = true := by kernel_rfl
theorem pl_128 : placesT Try.prog 128 = some [(0, 1), (1, 1)] := by kernel_rfl
theorem sz_128 : szT Try.prog 128 = some 2 := by kernel_rfl
theorem sz_150 : szT Try.prog 150 = some 2 := by kernel_rfl
theorem zl_128 : zeroL Try.prog 128 = some ([.int .u64 0, .int .i64 0]) := by kernel_rfl
theorem zl_150 : zeroL Try.prog 150 = some (List.replicate 2 (.int .i64 0)) := by kernel_rfl
end Go.Proofs.Ytighbhplfjjgpaa

/- walks (own work; the walks' lines by a program of this repo). -/
set_option linter.unusedVariables false
set_option linter.unusedSimpArgs false
set_option maxRecDepth 20000
namespace Go.Proofs.Ytighbhplfjjgpaa
open Go.Sl
attribute [local irreducible] BodyQ WpC WpL WpS WpH OpW FnS


theorem may14_s {w0 : World} {H : Hp} (segs size : Int) : FnS Try.prog w0 77 #[.int .i64 segs, .int .i64 size] H (fun e H' => e = .returned (.bool (mayG segs size)) ∧ H' = H) := by
  refine FnS_intro (n := 19) (rs := [.tmp 4]) (vs := [.int .i64 segs, .int .i64 size]) Try.func77 rfl Try.ntmps77 rfl rfl ?_
  refine C_seq (C_region (LY rfl (y_assign rfl) (L_nil (C_seq (C_region (LY rfl (y_move rfl) ?_))))))
  refine LY rfl (y_geq rfl rfl) ?_
  refine LY rfl (y_move rfl) ?_
  refine L_case 7 rfl (fun hg1_3 => ?_) (fun hg1_3 => ?_)
  · skip
    refine LY rfl (y_move rfl) ?_
    refine LY rfl (y_leq rfl rfl) ?_
    refine LY rfl (y_pick_t rfl rfl) (LY rfl (y_move rfl) ?_)
    refine L_case 11 rfl (fun hg1_7 => ?_) (fun hg1_7 => ?_)
    · skip
      refine LY rfl (y_move rfl) ?_
      refine LY rfl (y_geq rfl rfl) ?_
      refine LY rfl (y_pick_t rfl rfl) (LY rfl (y_move rfl) ?_)
      refine L_case 15 rfl (fun hg1_11 => ?_) (fun hg1_11 => ?_)
      · skip
        refine LY rfl (y_move rfl) ?_
        refine LY rfl (y_leq rfl rfl) ?_
        refine LY rfl (y_pick_t rfl rfl) (LY rfl (y_assign rfl) (L_nil (C_ret ?_)))
        refine B_ret (rv_tmp rfl rv_nil) (HSub.refl _) ?_
        refine ⟨congrArg (fun x => Ending.returned (Value.bool x)) ?_, rfl⟩
        unfold mayG
        simp_all
        try omega
      · skip
        refine L_skip rfl rfl (L_skip rfl rfl (LY rfl (y_pick_f rfl rfl) (LY rfl (y_assign rfl) (L_nil (C_ret ?_)))))
        refine B_ret (rv_tmp rfl rv_nil) (HSub.refl _) ?_
        refine ⟨congrArg (fun x => Ending.returned (Value.bool x)) ?_, rfl⟩
        unfold mayG
        simp_all
        try omega
    · skip
      refine L_skip rfl rfl (L_skip rfl rfl (LY rfl (y_pick_f rfl rfl) (LY rfl (y_move rfl) (L_skip rfl rfl (L_skip rfl rfl (LY rfl (y_pick_f rfl rfl) (LY rfl (y_assign rfl) (L_nil (C_ret ?_)))))))))
      refine B_ret (rv_tmp rfl rv_nil) (HSub.refl _) ?_
      refine ⟨congrArg (fun x => Ending.returned (Value.bool x)) ?_, rfl⟩
      unfold mayG
      simp_all
      try omega
  · skip
    refine L_skip rfl rfl (L_skip rfl rfl (LY rfl (y_pick_f rfl rfl) (LY rfl (y_move rfl) (L_skip rfl rfl (L_skip rfl rfl (LY rfl (y_pick_f rfl rfl) (LY rfl (y_move rfl) (L_skip rfl rfl (L_skip rfl rfl (LY rfl (y_pick_f rfl rfl) (LY rfl (y_assign rfl) (L_nil (C_ret ?_)))))))))))))
    refine B_ret (rv_tmp rfl rv_nil) (HSub.refl _) ?_
    refine ⟨congrArg (fun x => Ending.returned (Value.bool x)) ?_, rfl⟩
    unfold mayG
    simp_all
    try omega

theorem mul_up {sN z s j : Nat} (h1 : sN ≤ 64) (h2 : z ≤ 32) (h3 : s < sN) (h4 : j < z) : s * z + j < 2048 := by
  have a1 : (s + 1) * z ≤ sN * z := Nat.mul_le_mul_right _ h3
  have a2 : sN * z ≤ 64 * 32 := Nat.mul_le_mul h1 h2
  rw [Nat.succ_mul] at a1
  omega

theorem lies14_s {w0 : World} {H : Hp} (sN z : Nat) (hsN : sN ≤ 64) (hz1 : 1 ≤ z) (hz2 : z ≤ 32) : FnS Try.prog w0 78 #[.int .i64 (sN : Int), .int .i64 (z : Int)] H (fun e H' => ∃ g, slOk 2 (some g) (sN * z + 2) (pcs (lieK z (sN * z))) ∧ e = .returned (slV (some g) (sN * z + 2)) ∧ H' = slSeg 150 (some g) (pcs (lieK z (sN * z))) :: H) := by
  refine FnS_intro (n := 28) (rs := [.tmp 4]) (vs := [.int .i64 (sN : Int), .int .i64 (z : Int)]) Try.func78 rfl Try.ntmps78 rfl rfl ?_
  refine C_seq (C_region (LY rfl (y_assign rfl) (L_nil (C_seq (C_region ?_)))))
  refine LY rfl (y_buildA (vs := [(0, _), (1, _)]) (l := [.int .i64 (-1), .int .i64 (-1)]) rfl Try.underlying150 sz_3 zl_150 (fill_cons (off := 0) (m := 1) (vs := [_]) rfl rfl rfl (Nat.le_of_ble_eq_true rfl) (fill_cons (off := 1) (m := 1) (vs := [_]) rfl rfl rfl (Nat.le_of_ble_eq_true rfl) rfl))) ?_
  refine LY rfl (y_buildA (vs := [(0, _), (1, _)]) (l := [.int .i64 (-1), .int .i64 (-1)]) rfl Try.underlying150 sz_3 zl_150 (fill_cons (off := 0) (m := 1) (vs := [_]) rfl rfl rfl (Nat.le_of_ble_eq_true rfl) (fill_cons (off := 1) (m := 1) (vs := [_]) rfl rfl rfl (Nat.le_of_ble_eq_true rfl) rfl))) ?_
  refine L_op rfl (op_buildSlice (vs := [(0, _), (1, _)]) rfl Try.underlying148 sz_150 zl_150 rfl (by decide) (fill_cons (off := 0) (m := 2) (vs := [_, _]) rfl rfl rfl (Nat.le_of_ble_eq_true rfl) (fill_cons (off := 2) (m := 2) (vs := [_, _]) rfl rfl rfl (Nat.le_of_ble_eq_true rfl) rfl)) rfl (fun B1 => ?_))
  refine LY rfl (y_assign rfl) (L_nil (C_seq (C_seq (C_region (LY rfl (y_assign rfl) (L_nil (C_block ?_)))))))
  refine C_loop (ι := Nat × SlG) (fun s => [(0, .int .i64 (sN : Int)), (1, .int .i64 (z : Int)), (5, slV (some s.2) (s.1 * z + 2)), (6, .int .i64 (s.1 : Int))]) (fun s => slSeg 150 (some s.2) (pcs (lieK z (s.1 * z))) :: H) (fun s => s.1 ≤ sN ∧ slOk 2 (some s.2) (s.1 * z + 2) (pcs (lieK z (s.1 * z)))) (fun s => sN - s.1) (0, ⟨B1, 2, []⟩) ⟨Nat.zero_le _, by rw [Nat.zero_mul]; exact ⟨rfl, rfl, Nat.le_refl _⟩⟩ (by rw [Nat.zero_mul]; exact ⟨rfl, rfl, rfl, rfl, trivial⟩) (by rw [Nat.zero_mul]; exact ((hsub (.cons_cons _ (.refl _))).trans (hsub_pick [0] rfl))) (fun s hs => ?_)
  obtain ⟨s, g⟩ := s
  obtain ⟨hs, hok⟩ := hs
  try simp only at hs hok
  try dsimp only
  refine C_seq (C_seq (C_region (LY rfl (y_move rfl) (LY rfl (y_move rfl) (LY rfl (y_lss rfl rfl) (L_nil ?_))))))
  refine C_cond rfl (fun hc0 => ?_) (fun hc0 => ?_)
  · have hs1 : s < sN := by have := of_decide_eq_true hc0; omega
    refine C_skip (C_seq (C_block (C_seq (C_region (LY rfl (y_assign rfl) (L_nil (C_block ?_)))))))
    refine C_loop (ι := Nat × SlG) (fun j => [(0, .int .i64 (sN : Int)), (1, .int .i64 (z : Int)), (5, slV (some j.2) (s * z + j.1 + 2)), (6, .int .i64 (s : Int)), (7, .int .i64 (j.1 : Int))]) (fun j => slSeg 150 (some j.2) (pcs (lieK z (s * z + j.1))) :: H) (fun j => j.1 ≤ z ∧ slOk 2 (some j.2) (s * z + j.1 + 2) (pcs (lieK z (s * z + j.1)))) (fun j => z - j.1) (0, g) ⟨Nat.zero_le _, hok⟩ ⟨rfl, rfl, rfl, rfl, rfl, trivial⟩ ((hsub (.cons_cons _ (.refl _))).trans (hsub_pick [0] rfl)) (fun j hj => ?_)
    obtain ⟨j, g2⟩ := j
    obtain ⟨hj, hok2⟩ := hj
    try simp only at hj hok2
    try dsimp only
    refine C_seq (C_seq (C_region (LY rfl (y_move rfl) (LY rfl (y_move rfl) (LY rfl (y_lss rfl rfl) (L_nil ?_))))))
    refine C_cond rfl (fun hc1 => ?_) (fun hc1 => ?_)
    · have hj1 : j < z := by have := of_decide_eq_true hc1; omega
      refine C_skip (C_seq (C_block (C_region (LY rfl (y_move rfl) (LY rfl (y_move rfl) (LY rfl (y_move rfl) ?_))))))
      refine LY rfl (y_buildA (vs := [(0, _), (1, _)]) (l := [.int .i64 (s : Int), .int .i64 (j : Int)]) rfl Try.underlying150 sz_3 zl_150 (fill_cons (off := 0) (m := 1) (vs := [_]) rfl rfl rfl (Nat.le_of_ble_eq_true rfl) (fill_cons (off := 1) (m := 1) (vs := [_]) rfl rfl rfl (Nat.le_of_ble_eq_true rfl) rfl))) ?_
      refine L_op rfl (op_buildSlice (vs := [(0, _)]) rfl Try.underlying148 sz_150 zl_150 rfl (by decide) (fill_one rfl rfl rfl) rfl (fun B2 => ?_))
      refine L_op rfl (op_append (gs := some g2) (len := s * z + j + 2) (m := 1) (xs := pcs (lieK z (s * z + j))) (vs := pcs [((s : Int), (j : Int))]) 1 rfl rfl rfl hok2 (src_slice (sees 0 0 rfl) (Nat.le_of_ble_eq_true rfl) rfl) rfl (ones rfl) Try.underlying148 ni_148 sz_150 by_150 (by decide) zl_150 rfl (by have := mul_up hsN hz2 hs1 hj1; omega) rfl (fun g3 hg3 => ?_))
      rw [← pcs_append, ← lieK_next hj1, show s * z + j + 2 + 1 = s * z + (j + 1) + 2 by omega] at hg3 ⊢
      cases g3 with
      | none => exact slOk_none hg3 (by omega)
      | some g3 => ?_
      refine LY rfl (y_assign rfl) (L_nil (C_region (LY rfl (y_move rfl) ?_)))
      refine LY rfl (y_add rfl rfl (show _ = ((j + 1 : Nat) : Int) from by rw [wi64 (by omega) (by omega)]; omega)) ?_
      refine LY rfl (y_assign rfl) (L_nil ?_)
      exact ⟨(j + 1, g3), ⟨by simp only; omega, hg3⟩, by simp only; omega, ⟨rfl, rfl, rfl, rfl, rfl, trivial⟩, ((hsub (.cons_cons _ (.cons _ (.refl _)))).trans (hsub_pick [1] rfl))⟩
    · have hj2 : ¬ j < z := by have := of_decide_eq_false hc1; omega
      refine C_exit (C_region (LY rfl (y_move rfl) ?_))
      refine LY rfl (y_add rfl rfl (show _ = ((s + 1 : Nat) : Int) from by rw [wi64 (by omega) (by omega)]; omega)) ?_
      refine LY rfl (y_assign rfl) (L_nil ?_)
      obtain rfl : j = z := by omega
      have e9 : s * j + j = (s + 1) * j := by rw [Nat.succ_mul]
      rw [e9] at hok2
      refine ⟨(s + 1, g2), ⟨by simp only; omega, hok2⟩, by simp only; omega, ?_⟩
      try dsimp only
      rw [← e9]
      exact ⟨⟨rfl, rfl, rfl, rfl, trivial⟩, ((hsub (.cons_cons _ (.refl _))).trans (hsub_pick [0] rfl))⟩
  · obtain rfl : s = sN := by have := of_decide_eq_false hc0; omega
    refine C_exit (C_seq (C_region (LY rfl (y_move rfl) (LY rfl (y_assign rfl) (L_nil (C_ret ?_))))))
    refine B_ret (rv_tmp rfl rv_nil) ((hsub (.cons_cons _ (.refl _))).trans (hsub_pick [0] rfl)) ?_
    exact ⟨g, hok, rfl, rfl⟩

theorem seg18_n {w0 : World} {H : Hp} (segs size a : Int) (hm : mayG segs size = false) : FnS Try.prog w0 59 #[.int .i64 segs, .int .i64 size, .int .i64 a] H (fun e H' => e = .returned (.int .i64 (seg18 segs size a)) ∧ H' = H) := by
  refine FnS_intro (n := 28) (rs := [.tmp 6]) (vs := [.int .i64 segs, .int .i64 size, .int .i64 a]) Try.func59 rfl Try.ntmps59 rfl rfl ?_
  refine C_seq (C_region (LY rfl (y_assign rfl) (L_nil (C_seq (C_seq (C_region (LY rfl (y_move rfl) (LY rfl (y_move rfl) ?_))))))))
  refine L_op rfl (op_call rfl rfl (fun a w => Try.call77 a w) rfl ?_)
  refine (may14_s segs size).mono ?_
  rintro _ _ ⟨rfl, e⟩
  obtain rfl := e.symm
  clear e
  rw [hm]
  refine ⟨_, rfl, ?_⟩
  refine LY rfl (y_not rfl) (LY rfl (y_move rfl) (L_skip rfl rfl (L_skip rfl rfl (LY rfl (y_pick_t rfl rfl) (L_nil (C_cond_t rfl (C_seq (C_region (LY rfl (y_assign rfl) (L_nil (C_ret ?_)))))))))))
  refine B_ret (rv_tmp rfl rv_nil) (HSub.refl _) ?_
  exact ⟨by rw [seg18_no (ofS_no (.inl hm))]; rfl, rfl⟩

theorem seg18_y {w0 : World} {H : Hp} (sN z : Nat) (a : Int) (hm : mayG sN z = true) (hs2 : sN ≤ 64) (hz1 : 1 ≤ z) (hz2 : z ≤ 32) : FnS Try.prog w0 59 #[.int .i64 (sN : Int), .int .i64 (z : Int), .int .i64 a] H (fun e H' => e = .returned (.int .i64 (seg18 sN z a)) ∧ H' = H) := by
  have hmz : sN * z ≤ 64 * 32 := Nat.mul_le_mul hs2 hz2
  have hmi : ((sN * z : Nat) : Int) = (sN : Int) * (z : Int) := Int.natCast_mul ..
  refine FnS_intro (n := 28) (rs := [.tmp 6]) (vs := [.int .i64 (sN : Int), .int .i64 (z : Int), .int .i64 a]) Try.func59 rfl Try.ntmps59 rfl rfl ?_
  refine C_seq (C_region (LY rfl (y_assign rfl) (L_nil (C_seq (C_seq (C_region (LY rfl (y_move rfl) (LY rfl (y_move rfl) ?_))))))))
  refine L_op rfl (op_call rfl rfl (fun a w => Try.call77 a w) rfl ?_)
  refine (may14_s sN z).mono ?_
  rintro _ _ ⟨rfl, e⟩
  obtain rfl := e.symm
  clear e
  rw [hm]
  refine ⟨_, rfl, ?_⟩
  refine LY rfl (y_not rfl) (LY rfl (y_move rfl) (LY rfl (y_move rfl) (LY rfl (y_lss rfl rfl) (LY rfl (y_pick_f rfl rfl) (L_nil ?_)))))
  refine C_cond rfl (fun hc0 => ?_) (fun hc0 => ?_)
  · replace hc0 : a < 0 := of_decide_eq_true hc0
    refine C_seq (C_region (LY rfl (y_assign rfl) (L_nil (C_ret ?_))))
    refine B_ret (rv_tmp rfl rv_nil) (hsub (.refl _)) ?_
    refine ⟨?_, rfl⟩
    first
    | (rw [seg18_no (ofS_no (by omega))]; rfl)
    | (by_cases h2 : i < 2
       · rw [seg18_no (ofS_no (by omega)), if_pos h2]; rfl
       · rw [if_neg h2]
         have e5 : (((i - 2) / z : Nat) : Int) = ((i : Int) - 2) / (z : Int) := by
           rw [Int.natCast_ediv]
           congr 1
           omega
         unfold seg18
         rw [ofS_yes hm (by omega) (by omega)]
         simp only [e5]
         rfl)
  · replace hc0 : ¬ a < 0 := of_decide_eq_false hc0
    refine C_skip (C_seq (C_region (LY rfl (y_move rfl) (LY rfl (y_move rfl) ?_))))
    refine L_op rfl (op_call rfl rfl (fun a w => Try.call78 a w) rfl ?_)
    refine (lies14_s sN z hs2 hz1 hz2).mono ?_
    rintro _ _ ⟨g, hok, rfl, rfl⟩
    refine ⟨_, rfl, ?_⟩
    refine LY rfl (y_assign rfl) (L_nil (C_seq (C_seq (C_region (LY rfl (y_move rfl) (LY rfl (y_move rfl) ?_))))))
    refine LY rfl (y_lenS rfl rfl Try.underlying148) ?_
    refine LY rfl (y_geq rfl rfl) ?_
    refine L_nil ?_
    refine C_cond rfl (fun hc1 => ?_) (fun hc1 => ?_)
    · replace hc1 : ((sN * z + 2 : Nat) : Int) ≤ a := of_decide_eq_true hc1
      refine C_seq (C_region (LY rfl (y_assign rfl) (L_nil (C_ret ?_))))
      refine B_ret (rv_tmp rfl rv_nil) (hsub (.cons _ (.refl _))) ?_
      refine ⟨?_, rfl⟩
      first
      | (rw [seg18_no (ofS_no (by omega))]; rfl)
      | (by_cases h2 : i < 2
         · rw [seg18_no (ofS_no (by omega)), if_pos h2]; rfl
         · rw [if_neg h2]
           have e5 : (((i - 2) / z : Nat) : Int) = ((i : Int) - 2) / (z : Int) := by
             rw [Int.natCast_ediv]
             congr 1
             omega
           unfold seg18
           rw [ofS_yes hm (by omega) (by omega)]
           simp only [e5]
           rfl)
    · replace hc1 : ¬ ((sN * z + 2 : Nat) : Int) ≤ a := of_decide_eq_false hc1
      obtain ⟨i, rfl⟩ : ∃ i : Nat, a = i := ⟨a.toNat, by omega⟩
      have hat := lieK_at (z := z) (k := sN * z) (i := i) (by omega)
      refine C_skip (C_seq (C_region (LY rfl (y_move rfl) (LY rfl (y_move rfl) ?_))))
      refine LY rfl (y_indexS rfl rfl Try.underlying148 sz_150 (by omega) (by omega) (show _ = i * 2 from by simp)) ?_
      refine LY rfl (y_indexA rfl rfl Try.underlying150 sz_3 (by omega) (by omega) (show _ = i * 2 from by simp)) ?_
      refine LY rfl (y_load rfl ag_3 (sees 0 0 rfl) (pcs_at hat)) ?_
      refine LY rfl (y_assign rfl) (L_nil (C_ret ?_))
      refine B_ret (rv_tmp rfl rv_nil) (hsub (.cons _ (.refl _))) ?_
      refine ⟨?_, rfl⟩
      first
      | (rw [seg18_no (ofS_no (by omega))]; rfl)
      | (by_cases h2 : i < 2
         · rw [seg18_no (ofS_no (by omega)), if_pos h2]; rfl
         · rw [if_neg h2]
           have e5 : (((i - 2) / z : Nat) : Int) = ((i : Int) - 2) / (z : Int) := by
             rw [Int.natCast_ediv]
             congr 1
             omega
           unfold seg18
           rw [ofS_yes hm (by omega) (by omega)]
           simp only [e5]
           rfl)

theorem seg18_s {w0 : World} {H : Hp} (segs size a : Int) : FnS Try.prog w0 59 #[.int .i64 segs, .int .i64 size, .int .i64 a] H (fun e H' => e = .returned (.int .i64 (seg18 segs size a)) ∧ H' = H) := by
  cases hm : mayG segs size with
  | false => exact seg18_n segs size a hm
  | true =>
    obtain ⟨s, z, rfl, rfl, h1, h2, h3, h4⟩ := may_nat hm
    exact seg18_y s z a hm h2 h3 h4

end Go.Proofs.Ytighbhplfjjgpaa

/- walks (own work; the walks' lines by a program of this repo). -/
set_option linter.unusedVariables false
set_option linter.unusedSimpArgs false
set_option maxRecDepth 20000
namespace Go.Proofs.Ytighbhplfjjgpaa
open Go.Sl
attribute [local irreducible] BodyQ WpC WpL WpS WpH OpW FnS


theorem find18_y {w0 : World} {H : Hp} {l : Xl} {g : SlG} (hok : slOk 2 (some g) l.length (lcs l)) (hl : l.length < 1000000) (n : Nat) : FnS Try.prog w0 60 #[slV (some g) l.length, .int .u64 (n : Int)] (slSeg 128 (some g) (lcs l) :: H) (fun e H' => e = .returned (.int .i64 (fnd l n)) ∧ H' = slSeg 128 (some g) (lcs l) :: H) := by
  refine FnS_intro (n := 20) (rs := [.tmp 4]) (vs := [slV (some g) l.length, .int .u64 (n : Int)]) Try.func60 rfl Try.ntmps60 rfl rfl ?_
  refine C_seq (C_region (LY rfl (y_assign rfl) (L_nil (C_seq (C_seq (C_region (LY rfl (y_assign rfl) (L_nil (C_block ?_)))))))))
  refine C_loop (ι := Nat) (fun i => [(0, slV (some g) l.length), (1, .int .u64 (n : Int)), (5, .int .i64 (i : Int))]) (fun i => slSeg 128 (some g) (lcs l) :: H) (fun i => i ≤ l.length ∧ ∀ j y, j < i → l[j]? = some y → y.1 ≠ n) (fun i => l.length - i) 0 ⟨Nat.zero_le _, fun j y hj => absurd hj (by omega)⟩ ⟨rfl, rfl, rfl, trivial⟩ ((hsub (.cons_cons _ (.refl _))).trans (hsub_pick [0] rfl)) (fun i hi => ?_)
  obtain ⟨hi, hno⟩ := hi
  refine C_seq (C_seq (C_region (LY rfl (y_move rfl) (LY rfl (y_move rfl) ?_))))
  refine LY rfl (y_lenS rfl rfl Try.underlying30) ?_
  refine LY rfl (y_lss rfl rfl) (L_nil ?_)
  refine C_cond rfl (fun hc0 => ?_) (fun hc0 => ?_)
  · replace hc0 : i < l.length := by have := of_decide_eq_true hc0; omega
    obtain ⟨x, hx⟩ : ∃ x, l[i]? = some x := ⟨_, List.getElem?_eq_getElem hc0⟩
    refine C_skip (C_seq (C_block (C_seq (C_region (LY rfl (y_move rfl) (LY rfl (y_move rfl) ?_))))))
    refine LY rfl (y_indexS rfl rfl Try.underlying30 sz_128 (by omega) (by omega) (show _ = i * 2 from by simp)) ?_
    refine LY rfl (y_fieldAddr rfl fl_128_0) ?_
    refine LY rfl (y_load rfl ag_48 (sees 0 0 rfl) (lcs_at hx).1) ?_
    refine LY rfl (y_move rfl) (LY rfl (y_eqi rfl rfl) (L_nil ?_))
    refine C_cond rfl (fun hc1 => ?_) (fun hc1 => ?_)
    · have hxn : x.1 = n := by have := of_decide_eq_true hc1; omega
      refine C_seq (C_region (LY rfl (y_move rfl) (LY rfl (y_assign rfl) (L_nil (C_ret ?_)))))
      refine B_ret (rv_tmp rfl rv_nil) ((hsub (.cons_cons _ (.refl _))).trans (hsub_pick [0] rfl)) ?_
      refine ⟨?_, rfl⟩
      first
      | (rw [fnd_at hx hxn hno]; rfl)
      | (rw [fnd_no hno]; rfl)
    · have hxn : ¬ x.1 = n := by have := of_decide_eq_false hc1; omega
      refine C_skip (C_region (LY rfl (y_move rfl) ?_))
      refine LY rfl (y_add rfl rfl (show _ = ((i + 1 : Nat) : Int) from by rw [wi64 (by omega) (by omega)]; omega)) ?_
      refine LY rfl (y_assign rfl) (L_nil ?_)
      refine ⟨i + 1, ⟨by omega, fun j y hj hy => ?_⟩, by omega, ⟨rfl, rfl, rfl, trivial⟩, ((hsub (.cons_cons _ (.refl _))).trans (hsub_pick [0] rfl))⟩
      rcases Nat.lt_or_ge j i with h | h
      · exact hno j y h hy
      · have : j = i := by omega
        subst this
        rw [hx] at hy
        rw [← Option.some.inj hy]
        exact hxn
  · obtain rfl : i = l.length := by have := of_decide_eq_false hc0; omega
    refine C_exit (C_seq (C_region (LY rfl (y_assign rfl) (L_nil (C_ret ?_)))))
    refine B_ret (rv_tmp rfl rv_nil) ((hsub (.cons_cons _ (.refl _))).trans (hsub_pick [0] rfl)) ?_
    refine ⟨?_, rfl⟩
    first
    | (rw [fnd_at hx hxn hno]; rfl)
    | (rw [fnd_no hno]; rfl)

theorem find18_0 {w0 : World} {H : Hp} {c : Value} : FnS Try.prog w0 60 #[.slice none 0 0, c] H (fun e H' => e = .returned (.int .i64 (-1)) ∧ H' = H) := by
  refine FnS_intro (n := 20) (rs := [.tmp 4]) (vs := [.slice none 0 0, c]) Try.func60 rfl Try.ntmps60 rfl rfl ?_
  refine C_seq (C_region (LY rfl (y_assign rfl) (L_nil (C_seq (C_seq (C_region (LY rfl (y_assign rfl) (L_nil (C_block ?_)))))))))
  refine C_loopIn (In_round ?_)
  refine C_seq (C_seq (C_region (LY rfl (y_move rfl) (LY rfl (y_move rfl) ?_))))
  refine LY rfl (y_lenS rfl rfl Try.underlying30) ?_
  refine LY rfl (y_lss rfl rfl) (L_nil ?_)
  refine C_cond rfl (fun hc0 => absurd hc0 (by simp)) (fun hc0 => ?_)
  refine C_exit (C_seq (C_region (LY rfl (y_assign rfl) (L_nil (C_ret ?_)))))
  refine B_ret (rv_tmp rfl rv_nil) (HSub.refl _) ?_
  exact ⟨rfl, rfl⟩

theorem find18_s {w0 : World} {H : Hp} {l : Xl} {g : Option SlG} (hok : slOk 2 g l.length (lcs l)) (hl : l.length < 1000000) (n : Nat) : FnS Try.prog w0 60 #[slV g l.length, .int .u64 (n : Int)] (slSeg 128 g (lcs l) :: H) (fun e H' => e = .returned (.int .i64 (fnd l n)) ∧ H' = slSeg 128 g (lcs l) :: H) := by
  cases g with
  | some g => exact find18_y hok hl n
  | none =>
    obtain rfl := List.eq_nil_of_length_eq_zero hok.2
    exact find18_0

end Go.Proofs.Ytighbhplfjjgpaa

/- walks (own work; the walks' lines by a program of this repo). -/
set_option linter.unusedVariables false
set_option linter.unusedSimpArgs false
set_option maxRecDepth 20000
namespace Go.Proofs.Ytighbhplfjjgpaa
open Go.Sl
attribute [local irreducible] BodyQ WpC WpL WpS WpH OpW FnS


theorem put18_0f {w0 : World} {H : Hp} {l : Xl} {g : Option SlG} (hok : slOk 2 g l.length (lcs l)) (hl : l.length < 1000000) (segs size : Int) (n : Nat) (a : Int) (h0 : n = 0) : FnS Try.prog w0 39 #[slV g l.length, .int .i64 segs, .int .i64 size, .int .u64 (n : Int), .int .i64 a, .bool false] (slSeg 128 g (lcs l) :: H) (fun e H' => ∃ g2, slOk 2 g2 (xput segs size l n a false).1.length (lcs (xput segs size l n a false).1) ∧ e = .returned (.tuple #[slV g2 (xput segs size l n a false).1.length, .int .i64 (xput segs size l n a false).2]) ∧ H' = slSeg 128 g2 (lcs (xput segs size l n a false).1) :: H) := by
  refine FnS_intro (n := 86) (rs := [.tmp 12, .tmp 13]) (vs := [slV g l.length, .int .i64 segs, .int .i64 size, .int .u64 (n : Int), .int .i64 a, .bool false]) Try.func39 rfl Try.ntmps39 rfl rfl ?_
  refine C_seq (C_region (LY rfl (y_assign rfl) (LY rfl (y_assign rfl) (L_nil (C_seq (C_seq (C_region (LY rfl (y_move rfl) (LY rfl (y_eqi rfl rfl) (L_nil ?_))))))))))
  refine C_cond rfl (fun hc0 => ?_) (fun hc0 => absurd hc0 (by simp [h0]))
  refine C_seq (C_region (LY rfl (y_move rfl) (LY rfl (y_assign rfl) (LY rfl (y_assign rfl) (L_nil (C_ret ?_))))))
  refine B_ret (rv_tmp rfl (rv_tmp rfl rv_nil)) ((hsub (.cons_cons _ (.refl _))).trans (hsub_pick [0] rfl)) ?_
  have e4 : xput segs size l n a false = (l, 1) := by simp [xput, *]
  rw [e4]
  exact ⟨g, hok, rfl, rfl⟩

theorem put18_rf {w0 : World} {H : Hp} {l : Xl} {g : Option SlG} (hok : slOk 2 g l.length (lcs l)) (hl : l.length < 1000000) (segs size : Int) (n : Nat) (a : Int) (h0 : n ≠ 0) (ho : ofS segs size a = none) : FnS Try.prog w0 39 #[slV g l.length, .int .i64 segs, .int .i64 size, .int .u64 (n : Int), .int .i64 a, .bool false] (slSeg 128 g (lcs l) :: H) (fun e H' => ∃ g2, slOk 2 g2 (xput segs size l n a false).1.length (lcs (xput segs size l n a false).1) ∧ e = .returned (.tuple #[slV g2 (xput segs size l n a false).1.length, .int .i64 (xput segs size l n a false).2]) ∧ H' = slSeg 128 g2 (lcs (xput segs size l n a false).1) :: H) := by
  refine FnS_intro (n := 86) (rs := [.tmp 12, .tmp 13]) (vs := [slV g l.length, .int .i64 segs, .int .i64 size, .int .u64 (n : Int), .int .i64 a, .bool false]) Try.func39 rfl Try.ntmps39 rfl rfl ?_
  refine C_seq (C_region (LY rfl (y_assign rfl) (LY rfl (y_assign rfl) (L_nil (C_seq (C_seq (C_region (LY rfl (y_move rfl) (LY rfl (y_eqi rfl rfl) (L_nil ?_))))))))))
  refine C_cond rfl (fun hc0 => absurd hc0 (by simp <;> omega)) (fun hc0 => ?_)
  refine C_skip (C_seq (C_seq (C_region (LY rfl (y_move rfl) (LY rfl (y_move rfl) (LY rfl (y_move rfl) ?_))))))
  refine L_op rfl (op_call rfl rfl (fun a w => Try.call59 a w) rfl ?_)
  refine (seg18_s segs size a).mono ?_
  rintro _ _ ⟨rfl, e⟩
  obtain rfl := e.symm
  clear e
  rw [seg18_no ho]
  refine ⟨_, rfl, ?_⟩
  refine LY rfl (y_lss rfl rfl) (L_nil (C_cond_t rfl (C_seq (C_region (LY rfl (y_move rfl) (LY rfl (y_assign rfl) (LY rfl (y_assign rfl) (L_nil (C_ret ?_)))))))))
  refine B_ret (rv_tmp rfl (rv_tmp rfl rv_nil)) ((hsub (.cons_cons _ (.refl _))).trans (hsub_pick [0] rfl)) ?_
  have e4 : xput segs size l n a false = (l, 2) := by simp [xput, *]
  rw [e4]
  exact ⟨g, hok, rfl, rfl⟩

theorem put18_p5 {w0 : World} {H : Hp} {l : Xl} {g : Option SlG} (hok : slOk 2 g l.length (lcs l)) (hl : l.length < 1000000) (segs size : Int) (n : Nat) (a : Int) (h0 : n ≠ 0) {s : Int} (ho : ofS segs size a = some s) {q : Int} {k : Nat} (hf : xfind l n = some q) (hk : fnd l n = (k : Int)) : FnS Try.prog w0 39 #[slV g l.length, .int .i64 segs, .int .i64 size, .int .u64 (n : Int), .int .i64 a, .bool false] (slSeg 128 g (lcs l) :: H) (fun e H' => ∃ g2, slOk 2 g2 (xput segs size l n a false).1.length (lcs (xput segs size l n a false).1) ∧ e = .returned (.tuple #[slV g2 (xput segs size l n a false).1.length, .int .i64 (xput segs size l n a false).2]) ∧ H' = slSeg 128 g2 (lcs (xput segs size l n a false).1) :: H) := by
  have hs0 := (ofS_spec ho).2.2.2.2.1
  refine FnS_intro (n := 86) (rs := [.tmp 12, .tmp 13]) (vs := [slV g l.length, .int .i64 segs, .int .i64 size, .int .u64 (n : Int), .int .i64 a, .bool false]) Try.func39 rfl Try.ntmps39 rfl rfl ?_
  refine C_seq (C_region (LY rfl (y_assign rfl) (LY rfl (y_assign rfl) (L_nil (C_seq (C_seq (C_region (LY rfl (y_move rfl) (LY rfl (y_eqi rfl rfl) (L_nil ?_))))))))))
  refine C_cond rfl (fun hc0 => absurd hc0 (by simp <;> omega)) (fun hc0 => ?_)
  refine C_skip (C_seq (C_seq (C_region (LY rfl (y_move rfl) (LY rfl (y_move rfl) (LY rfl (y_move rfl) ?_))))))
  refine L_op rfl (op_call rfl rfl (fun a w => Try.call59 a w) rfl ?_)
  refine (seg18_s segs size a).mono ?_
  rintro _ _ ⟨rfl, e⟩
  obtain rfl := e.symm
  clear e
  rw [show seg18 segs size a = s from by unfold seg18; rw [ho]]
  refine ⟨_, rfl, ?_⟩
  refine LY rfl (y_lss rfl rfl) (L_nil ?_)
  refine C_cond rfl (fun hc1 => absurd hc1 (by simp <;> omega)) (fun hc1 => ?_)
  refine C_skip (C_seq (C_region (LY rfl (y_move rfl) (LY rfl (y_move rfl) ?_))))
  refine L_op rfl (op_call rfl rfl (fun a w => Try.call60 a w) rfl ?_)
  refine (find18_s (g := g) hok hl n).mono ?_
  rintro _ _ ⟨rfl, rfl⟩
  rw [hk]
  refine ⟨_, rfl, ?_⟩
  refine LY rfl (y_assign rfl) (L_nil (C_seq (C_seq (C_region (LY rfl (y_move rfl) (LY rfl (y_move rfl) (L_skip rfl rfl (L_skip rfl rfl (LY rfl (y_pick_f rfl rfl) (L_nil (C_cond_f rfl (C_skip (C_seq (C_seq (C_region (LY rfl (y_move rfl) (LY rfl (y_not rfl) (LY rfl (y_move rfl) (LY rfl (y_move rfl) ?_)))))))))))))))))))
  refine LY rfl (y_geq rfl rfl) ?_
  refine LY rfl (y_pick_t rfl rfl) (L_nil ?_)
  refine C_cond rfl (fun hc3 => ?_) (fun hc3 => absurd hc3 (by simp))
  refine C_seq (C_region (LY rfl (y_move rfl) (LY rfl (y_assign rfl) (LY rfl (y_assign rfl) (L_nil (C_ret ?_))))))
  refine B_ret (rv_tmp rfl (rv_tmp rfl rv_nil)) ((hsub (.cons_cons _ (.refl _))).trans (hsub_pick [0] rfl)) ?_
  have e4 : xput segs size l n a false = (l, 5) := by simp [xput, *]
  rw [e4]
  exact ⟨g, hok, rfl, rfl⟩

set_option maxHeartbeats 1000000 in

theorem put18_py {w0 : World} {H : Hp} {l : Xl} {g : Option SlG} (hok : slOk 2 g l.length (lcs l)) (hl : l.length < 1000000) (segs size : Int) (n : Nat) (a : Int) (h0 : n ≠ 0) {s : Int} (ho : ofS segs size a = some s) (hf : xfind l n = none) : FnS Try.prog w0 39 #[slV g l.length, .int .i64 segs, .int .i64 size, .int .u64 (n : Int), .int .i64 a, .bool false] (slSeg 128 g (lcs l) :: H) (fun e H' => ∃ g2, slOk 2 g2 (xput segs size l n a false).1.length (lcs (xput segs size l n a false).1) ∧ e = .returned (.tuple #[slV g2 (xput segs size l n a false).1.length, .int .i64 (xput segs size l n a false).2]) ∧ H' = slSeg 128 g2 (lcs (xput segs size l n a false).1) :: H) := by
  have hs0 := (ofS_spec ho).2.2.2.2.1
  refine FnS_intro (n := 86) (rs := [.tmp 12, .tmp 13]) (vs := [slV g l.length, .int .i64 segs, .int .i64 size, .int .u64 (n : Int), .int .i64 a, .bool false]) Try.func39 rfl Try.ntmps39 rfl rfl ?_
  refine C_seq (C_region (LY rfl (y_assign rfl) (LY rfl (y_assign rfl) (L_nil (C_seq (C_seq (C_region (LY rfl (y_move rfl) (LY rfl (y_eqi rfl rfl) (L_nil ?_))))))))))
  refine C_cond rfl (fun hc0 => absurd hc0 (by simp <;> omega)) (fun hc0 => ?_)
  refine C_skip (C_seq (C_seq (C_region (LY rfl (y_move rfl) (LY rfl (y_move rfl) (LY rfl (y_move rfl) ?_))))))
  refine L_op rfl (op_call rfl rfl (fun a w => Try.call59 a w) rfl ?_)
  refine (seg18_s segs size a).mono ?_
  rintro _ _ ⟨rfl, e⟩
  obtain rfl := e.symm
  clear e
  rw [show seg18 segs size a = s from by unfold seg18; rw [ho]]
  refine ⟨_, rfl, ?_⟩
  refine LY rfl (y_lss rfl rfl) (L_nil ?_)
  refine C_cond rfl (fun hc1 => absurd hc1 (by simp <;> omega)) (fun hc1 => ?_)
  refine C_skip (C_seq (C_region (LY rfl (y_move rfl) (LY rfl (y_move rfl) ?_))))
  refine L_op rfl (op_call rfl rfl (fun a w => Try.call60 a w) rfl ?_)
  refine (find18_s (g := g) hok hl n).mono ?_
  rintro _ _ ⟨rfl, rfl⟩
  rw [fnd_none hf]
  refine ⟨_, rfl, ?_⟩
  refine LY rfl (y_assign rfl) (L_nil (C_seq (C_seq (C_region (LY rfl (y_move rfl) (LY rfl (y_move rfl) (L_skip rfl rfl (L_skip rfl rfl (LY rfl (y_pick_f rfl rfl) (L_nil (C_cond_f rfl (C_skip (C_seq (C_seq (C_region (LY rfl (y_move rfl) (LY rfl (y_not rfl) (LY rfl (y_move rfl) (LY rfl (y_move rfl) ?_)))))))))))))))))))
  refine LY rfl (y_geq rfl rfl) ?_
  refine LY rfl (y_pick_t rfl rfl) (L_nil (C_cond_f rfl (C_skip (C_seq (C_seq (C_region (LY rfl (y_move rfl) (L_nil (C_cond_f rfl (C_skip (C_seq (C_region (LY rfl (y_assign rfl) (L_nil (C_seq (C_region (LY rfl (y_assign rfl) (L_nil (C_seq (C_seq (C_region (LY rfl (y_assign rfl) (L_nil (C_block ?_))))))))))))))))))))))))
  refine C_loop (ι := Nat × Option SlG) (fun i => [(0, slV g l.length), (3, .int .u64 (n : Int)), (4, .int .i64 a), (15, slV i.2 (outI l n a i.1).length), (16, .bool (big l n i.1)), (17, .int .i64 (i.1 : Int))]) (fun i => slSeg 128 i.2 (lcs (outI l n a i.1)) :: slSeg 128 g (lcs l) :: H) (fun i => i.1 ≤ l.length ∧ slOk 2 i.2 (outI l n a i.1).length (lcs (outI l n a i.1))) (fun i => l.length - i.1) (0, none) ⟨Nat.zero_le _, by rw [outI_0]; exact ⟨rfl, rfl⟩⟩ (by rw [outI_0]; exact ⟨rfl, rfl, rfl, rfl, rfl, rfl, trivial⟩) (by rw [outI_0]; exact hsub_flat rfl) (fun i hi => ?_)
  obtain ⟨i, g3⟩ := i
  obtain ⟨hi, hok3⟩ := hi
  try simp only at hi hok3
  try dsimp only
  refine C_seq (C_seq (C_region (LY rfl (y_move rfl) (LY rfl (y_move rfl) ?_))))
  refine LY rfl (y_lenV hok rfl rfl Try.underlying30) ?_
  refine LY rfl (y_lss rfl rfl) (L_nil ?_)
  refine C_cond rfl (fun hc5 => ?_) (fun hc5 => ?_)
  · replace hc5 : i < l.length := by have := of_decide_eq_true hc5; omega
    obtain ⟨x, hx⟩ : ∃ x, l[i]? = some x := ⟨_, List.getElem?_eq_getElem hc5⟩
    cases g with
    | none => exact absurd (show l.length = 0 from hok.2) (by omega)
    | some g => ?_
    refine C_skip (C_seq (C_block (C_seq (C_seq (C_region (LY rfl (y_move rfl) (LY rfl (y_not rfl) (LY rfl (y_move rfl) ?_))))))))
    refine L_case 55 rfl (fun hg17_3 => ?_) (fun hg17_3 => ?_)
    · have hb : big l n i = false := by simpa using hg17_3
      refine LY rfl (y_move rfl) (LY rfl (y_move rfl) ?_)
      refine LY rfl (y_indexS rfl rfl Try.underlying30 sz_128 (by omega) (by omega) (show _ = i * 2 from by simp)) ?_
      refine LY rfl (y_fieldAddr rfl fl_128_0) ?_
      refine LY rfl (y_load rfl ag_48 (sees 1 0 rfl) (lcs_at hx).1) ?_
      refine LY rfl (y_move rfl) ?_
      refine LY rfl (y_gtr rfl rfl) ?_
      refine LY rfl (y_pick_t rfl rfl) (L_nil ?_)
      refine C_cond rfl (fun hc6 => ?_) (fun hc6 => ?_)
      · have hlt : n < x.1 := by have := of_decide_eq_true hc6; omega
        refine C_seq (C_region (LY rfl (y_move rfl) (LY rfl (y_move rfl) (LY rfl (y_move rfl) ?_))))
        refine LY rfl (y_build (vs := [(0, _), (1, _)]) (l := [.int .u64 (n : Int), .int .i64 a]) rfl pl_128 zl_128 (fill_cons (off := 0) (m := 1) (vs := [_]) rfl rfl rfl (Nat.le_of_ble_eq_true rfl) (fill_cons (off := 1) (m := 1) (vs := [_]) rfl rfl rfl (Nat.le_of_ble_eq_true rfl) rfl))) ?_
        refine L_op rfl (op_buildSlice (vs := [(0, _)]) rfl Try.underlying30 sz_128 zl_128 rfl (by decide) (fill_one rfl rfl rfl) rfl (fun B1 => ?_))
        refine L_op rfl (op_append (gs := g3) (len := ((outI l n a i)).length) (m := 1) (xs := lcs ((outI l n a i))) (vs := lcs [(n, a)]) 1 rfl rfl rfl hok3 (src_slice (sees 0 0 rfl) (Nat.le_of_ble_eq_true rfl) rfl) rfl (lcs_one _) Try.underlying30 ni_30 sz_128 by_128 (by decide) zl_128 rfl (by have := out_len (n := n) (a := a) hi; first | omega | (simp only [List.length_append, List.length_cons, List.length_nil]; omega)) rfl (fun g4 hg4 => ?_))
        rw [← lcs_append, show ((outI l n a i)).length + 1 = ((outI l n a i) ++ [(n, a)]).length from by simp] at hg4 ⊢
        refine LY rfl (y_assign rfl) (L_nil (C_region (LY rfl (y_assign rfl) (L_nil (C_region (LY rfl (y_move rfl) (LY rfl (y_move rfl) (LY rfl (y_move rfl) ?_))))))))
        refine LY rfl (y_indexS rfl rfl Try.underlying30 sz_128 (by omega) (by omega) (show _ = i * 2 from by simp)) ?_
        refine LY rfl (y_loadA rfl ag_128 sz_128 (sees 2 0 rfl) (by rw [List.length_append, lcs_len]; omega) (lcs_at hx).2.2) ?_
        refine L_op rfl (op_buildSlice (vs := [(0, _)]) rfl Try.underlying30 sz_128 zl_128 rfl (by decide) (fill_one rfl rfl rfl) rfl (fun B2 => ?_))
        refine L_op rfl (op_append (gs := g4) (len := ((outI l n a i) ++ [(n, a)]).length) (m := 1) (xs := lcs ((outI l n a i) ++ [(n, a)])) (vs := lcs [x]) 2 rfl rfl rfl hg4 (src_slice (sees 0 0 rfl) (Nat.le_of_ble_eq_true rfl) rfl) rfl (lcs_one _) Try.underlying30 ni_30 sz_128 by_128 (by decide) zl_128 rfl (by have := out_len (n := n) (a := a) hi; first | omega | (simp only [List.length_append, List.length_cons, List.length_nil]; omega)) rfl (fun g5 hg5 => ?_))
        rw [← lcs_append, show ((outI l n a i) ++ [(n, a)]).length + 1 = ((outI l n a i) ++ [(n, a)] ++ [x]).length from by simp] at hg5 ⊢
        refine LY rfl (y_assign rfl) (L_nil (C_region (LY rfl (y_move rfl) ?_)))
        refine LY rfl (y_add rfl rfl (show _ = ((i + 1 : Nat) : Int) from by rw [wi64 (by omega) (by omega)]; omega)) ?_
        refine LY rfl (y_assign rfl) (L_nil ?_)
        have e1 : big l n (i + 1) = true := by rw [big_next hx, decide_eq_true hlt, Bool.or_true]
        have e2 := out_first (a := a) hb hx hlt
        refine ⟨(i + 1, g5), ⟨by simp only; omega, ?_⟩, by simp only; omega, ?_⟩ <;> try simp only
        · rw [e2]; exact hg5
        · rw [e1, e2]
          exact ⟨⟨rfl, rfl, rfl, rfl, rfl, rfl, trivial⟩, ((hsub (.cons_cons _ (.cons_cons _ (.cons _ (.cons _ (.refl _)))))).trans (hsub_pick [2, 2] rfl))⟩
      · have hlt : ¬ n < x.1 := by have := of_decide_eq_false hc6; omega
        refine C_skip (C_region (LY rfl (y_move rfl) (LY rfl (y_move rfl) (LY rfl (y_move rfl) ?_))))
        refine LY rfl (y_indexS rfl rfl Try.underlying30 sz_128 (by omega) (by omega) (show _ = i * 2 from by simp)) ?_
        refine LY rfl (y_loadA rfl ag_128 sz_128 (sees 1 0 rfl) (by rw [List.length_append, lcs_len]; omega) (lcs_at hx).2.2) ?_
        refine L_op rfl (op_buildSlice (vs := [(0, _)]) rfl Try.underlying30 sz_128 zl_128 rfl (by decide) (fill_one rfl rfl rfl) rfl (fun B3 => ?_))
        refine L_op rfl (op_append (gs := g3) (len := ((outI l n a i)).length) (m := 1) (xs := lcs ((outI l n a i))) (vs := lcs [x]) 1 rfl rfl rfl hok3 (src_slice (sees 0 0 rfl) (Nat.le_of_ble_eq_true rfl) rfl) rfl (lcs_one _) Try.underlying30 ni_30 sz_128 by_128 (by decide) zl_128 rfl (by have := out_len (n := n) (a := a) hi; first | omega | (simp only [List.length_append, List.length_cons, List.length_nil]; omega)) rfl (fun g5 hg5 => ?_))
        rw [← lcs_append, show ((outI l n a i)).length + 1 = ((outI l n a i) ++ [x]).length from by simp] at hg5 ⊢
        refine LY rfl (y_assign rfl) (L_nil (C_region (LY rfl (y_move rfl) ?_)))
        refine LY rfl (y_add rfl rfl (show _ = ((i + 1 : Nat) : Int) from by rw [wi64 (by omega) (by omega)]; omega)) ?_
        refine LY rfl (y_assign rfl) (L_nil ?_)
        have e1 : big l n (i + 1) = big l n i := by rw [big_next hx]; first | rw [decide_eq_false hlt, Bool.or_false] | (rw [hb]; rfl)
        have e2 : (outI l n a (i + 1)) = (outI l n a i) ++ [x] := by first | exact out_more hb hx | exact out_not hb hx hlt
        refine ⟨(i + 1, g5), ⟨by simp only; omega, ?_⟩, by simp only; omega, ?_⟩ <;> try simp only
        · rw [e2]; exact hg5
        · rw [e1, e2]
          exact ⟨⟨rfl, rfl, rfl, rfl, rfl, rfl, trivial⟩, ((hsub (.cons_cons _ (.cons_cons _ (.cons _ (.refl _))))).trans (hsub_pick [1, 1] rfl))⟩
    · have hb : big l n i = true := by simpa using hg17_3
      refine L_skip rfl rfl (L_skip rfl rfl (L_skip rfl rfl (L_skip rfl rfl (L_skip rfl rfl (L_skip rfl rfl (L_skip rfl rfl (LY rfl (y_pick_f rfl rfl) (L_nil (C_cond_f rfl (C_skip (C_region (LY rfl (y_move rfl) (LY rfl (y_move rfl) (LY rfl (y_move rfl) ?_))))))))))))))
      refine LY rfl (y_indexS rfl rfl Try.underlying30 sz_128 (by omega) (by omega) (show _ = i * 2 from by simp)) ?_
      refine LY rfl (y_loadA rfl ag_128 sz_128 (sees 1 0 rfl) (by rw [List.length_append, lcs_len]; omega) (lcs_at hx).2.2) ?_
      refine L_op rfl (op_buildSlice (vs := [(0, _)]) rfl Try.underlying30 sz_128 zl_128 rfl (by decide) (fill_one rfl rfl rfl) rfl (fun B4 => ?_))
      refine L_op rfl (op_append (gs := g3) (len := ((outI l n a i)).length) (m := 1) (xs := lcs ((outI l n a i))) (vs := lcs [x]) 1 rfl rfl rfl hok3 (src_slice (sees 0 0 rfl) (Nat.le_of_ble_eq_true rfl) rfl) rfl (lcs_one _) Try.underlying30 ni_30 sz_128 by_128 (by decide) zl_128 rfl (by have := out_len (n := n) (a := a) hi; first | omega | (simp only [List.length_append, List.length_cons, List.length_nil]; omega)) rfl (fun g5 hg5 => ?_))
      rw [← lcs_append, show ((outI l n a i)).length + 1 = ((outI l n a i) ++ [x]).length from by simp] at hg5 ⊢
      refine LY rfl (y_assign rfl) (L_nil (C_region (LY rfl (y_move rfl) ?_)))
      refine LY rfl (y_add rfl rfl (show _ = ((i + 1 : Nat) : Int) from by rw [wi64 (by omega) (by omega)]; omega)) ?_
      refine LY rfl (y_assign rfl) (L_nil ?_)
      have e1 : big l n (i + 1) = big l n i := by rw [big_next hx]; first | rw [decide_eq_false hlt, Bool.or_false] | (rw [hb]; rfl)
      have e2 : (outI l n a (i + 1)) = (outI l n a i) ++ [x] := by first | exact out_more hb hx | exact out_not hb hx hlt
      refine ⟨(i + 1, g5), ⟨by simp only; omega, ?_⟩, by simp only; omega, ?_⟩ <;> try simp only
      · rw [e2]; exact hg5
      · rw [e1, e2]
        exact ⟨⟨rfl, rfl, rfl, rfl, rfl, rfl, trivial⟩, ((hsub (.cons_cons _ (.cons_cons _ (.cons _ (.refl _))))).trans (hsub_pick [1, 1] rfl))⟩
  · obtain rfl : i = l.length := by have := of_decide_eq_false hc5; omega
    refine C_exit (C_seq (C_seq (C_region (LY rfl (y_move rfl) (LY rfl (y_not rfl) (L_nil ?_))))))
    refine C_cond rfl (fun hc7 => ?_) (fun hc7 => ?_)
    · have hb : big l n l.length = false := by simpa using hc7
      refine C_region (LY rfl (y_move rfl) (LY rfl (y_move rfl) (LY rfl (y_move rfl) ?_)))
      refine LY rfl (y_build (vs := [(0, _), (1, _)]) (l := [.int .u64 (n : Int), .int .i64 a]) rfl pl_128 zl_128 (fill_cons (off := 0) (m := 1) (vs := [_]) rfl rfl rfl (Nat.le_of_ble_eq_true rfl) (fill_cons (off := 1) (m := 1) (vs := [_]) rfl rfl rfl (Nat.le_of_ble_eq_true rfl) rfl))) ?_
      refine L_op rfl (op_buildSlice (vs := [(0, _)]) rfl Try.underlying30 sz_128 zl_128 rfl (by decide) (fill_one rfl rfl rfl) rfl (fun B5 => ?_))
      refine L_op rfl (op_append (gs := g3) (len := ((outI l n a l.length)).length) (m := 1) (xs := lcs ((outI l n a l.length))) (vs := lcs [(n, a)]) 1 rfl rfl rfl hok3 (src_slice (sees 0 0 rfl) (Nat.le_of_ble_eq_true rfl) rfl) rfl (lcs_one _) Try.underlying30 ni_30 sz_128 by_128 (by decide) zl_128 rfl (by have := out_len (n := n) (a := a) hi; first | omega | (simp only [List.length_append, List.length_cons, List.length_nil]; omega)) rfl (fun g4 hg4 => ?_))
      rw [← lcs_append, show ((outI l n a l.length)).length + 1 = ((outI l n a l.length) ++ [(n, a)]).length from by simp] at hg4 ⊢
      refine LY rfl (y_assign rfl) (L_nil (C_seq (C_region (LY rfl (y_move rfl) (LY rfl (y_assign rfl) (LY rfl (y_assign rfl) (L_nil (C_ret ?_))))))))
      refine B_ret (rv_tmp rfl (rv_tmp rfl rv_nil)) ((hsub (.cons_cons _ (.cons _ (.cons _ (.refl _))))).trans (hsub_pick [1] rfl)) ?_
      have e4 : xput segs size l n a false = (xins l n a, 0) := by simp [xput, *]
      rw [e4]
      have e6 := out_end (a := a) hb
      rw [e6] at hg4
      refine ⟨g4, hg4, ?_, ?_⟩
      · rw [e6] <;> rfl
      · rw [e6] <;> rfl
    · have hb : big l n l.length = true := by simpa using hc7
      refine C_skip (C_seq (C_region (LY rfl (y_move rfl) (LY rfl (y_assign rfl) (LY rfl (y_assign rfl) (L_nil (C_ret ?_)))))))
      refine B_ret (rv_tmp rfl (rv_tmp rfl rv_nil)) ((hsub (.cons_cons _ (.cons _ (.refl _)))).trans (hsub_pick [0] rfl)) ?_
      have e4 : xput segs size l n a false = (xins l n a, 0) := by simp [xput, *]
      rw [e4]
      have e6 := out_done (a := a) hb
      rw [e6] at hok3
      refine ⟨g3, hok3, ?_, ?_⟩
      · rw [e6] <;> rfl
      · rw [e6] <;> rfl

theorem put18_false {w0 : World} {H : Hp} {l : Xl} {g : Option SlG} (hok : slOk 2 g l.length (lcs l)) (hl : l.length < 1000000) (segs size : Int) (n : Nat) (a : Int) (hs : Xs l) : FnS Try.prog w0 39 #[slV g l.length, .int .i64 segs, .int .i64 size, .int .u64 (n : Int), .int .i64 a, .bool false] (slSeg 128 g (lcs l) :: H) (fun e H' => ∃ g2, slOk 2 g2 (xput segs size l n a false).1.length (lcs (xput segs size l n a false).1) ∧ e = .returned (.tuple #[slV g2 (xput segs size l n a false).1.length, .int .i64 (xput segs size l n a false).2]) ∧ H' = slSeg 128 g2 (lcs (xput segs size l n a false).1) :: H) := by
  by_cases h0 : n = 0
  · exact put18_0f hok hl segs size n a h0
  · cases ho : ofS segs size a with
    | none => exact put18_rf hok hl segs size n a h0 ho
    | some s =>
      cases hf : xfind l n with
      | none => exact put18_py hok hl segs size n a h0 ho hf
      | some q =>
        obtain ⟨k, hk1, hk2, hk3⟩ := fnd_some hs hf
        exact put18_p5 hok hl segs size n a h0 ho hf hk2

end Go.Proofs.Ytighbhplfjjgpaa

/- walks (own work; the walks' lines by a program of this repo). -/
set_option linter.unusedVariables false
set_option linter.unusedSimpArgs false
set_option maxRecDepth 20000
namespace Go.Proofs.Ytighbhplfjjgpaa
open Go.Sl
attribute [local irreducible] BodyQ WpC WpL WpS WpH OpW FnS



set_option maxHeartbeats 1000000 in

theorem laid_s {w0 : World} {H : Hp} {pa : Option Addr} {ca : Nat} {ll : Xl} (hA : Holds w0 H pa (lcs ll)) (hb : ∀ c ∈ ll, c.1 < 18446744073709551616) (hl : ll.length < 100000) (segs size : Int) : FnS Try.prog w0 10 #[shV segs size, .slice pa ll.length ca] H (fun e H' => ∃ (o : Xo) (g : Option SlG) (A L : Gm), Xm segs size (laidL segs size ll) A L ∧ slOk 2 g (laidL segs size ll).length (lcs (laidL segs size ll)) ∧ (laidL segs size ll).length ≤ ll.length ∧ e = .returned (.tuple #[ptr o.b, slV g (laidL segs size ll).length]) ∧ H' = o.seg 90 segs size A L :: slSeg 128 g (lcs (laidL segs size ll)) :: H) := by
  refine FnS_intro (n := 50) (rs := [.tmp 4, .tmp 5]) (vs := [shV segs size, .slice pa ll.length ca]) Try.func10 rfl Try.ntmps10 rfl rfl ?_
  refine C_seq (C_region ?_)
  refine L_op rfl (op_box rfl rfl rfl (fun B1 => ?_))
  refine LY rfl (y_assign rfl) (LY rfl (y_assign rfl) (L_nil (C_seq (C_region ?_))))
  refine LY rfl (y_loadA rfl ag_23 sz_23 (sees 0 0 rfl) (Nat.le_of_ble_eq_true rfl) rfl) ?_
  refine L_op rfl (op_call rfl rfl (fun a w => Try.call28 a w) rfl ?_)
  refine (xnew_s segs size).mono ?_
  rintro _ _ ⟨o1, rfl, rfl⟩
  have hX1 := Xm.new segs size
  refine ⟨_, rfl, ?_⟩
  refine LY rfl (y_assign rfl) (L_nil (C_seq (C_region (LY rfl (y_assign rfl) (L_nil (C_seq (C_seq (C_region (LY rfl (y_assign rfl) (L_nil (C_block ?_)))))))))))
  refine C_loop (ι := Gm × Gm × Option SlG × Nat) (fun i => [(1, .slice pa ll.length ca), (2, ptr B1), (6, ptr o1.b), (7, slV i.2.2.1 (laidL segs size (ll.take i.2.2.2)).length), (8, .int .i64 (i.2.2.2 : Int))]) (fun i => o1.seg 90 segs size i.1 i.2.1 :: slSeg 128 i.2.2.1 (lcs (laidL segs size (ll.take i.2.2.2))) :: [(B1, .cells [Value.int .i64 segs, .int .i64 size].toArray 23)] :: H) (fun i => Xm segs size (laidL segs size (ll.take i.2.2.2)) i.1 i.2.1 ∧ slOk 2 i.2.2.1 (laidL segs size (ll.take i.2.2.2)).length (lcs (laidL segs size (ll.take i.2.2.2))) ∧ (laidL segs size (ll.take i.2.2.2)).length ≤ i.2.2.2 ∧ i.2.2.2 ≤ ll.length) (fun i => ll.length - i.2.2.2) (_, _, none, 0) ⟨hX1, ⟨rfl, rfl⟩, Nat.le_refl _, Nat.zero_le _⟩ ⟨rfl, rfl, rfl, rfl, rfl, trivial⟩ (hsub_nil1.trans (HSub.refl _)) (fun i hi => ?_)
  obtain ⟨A, L, g, i⟩ := i
  obtain ⟨hX, hok, hxl, hi⟩ := hi
  try simp only at hX hok hxl hi
  try dsimp only
  refine C_seq (C_seq (C_region (LY rfl (y_move rfl) (LY rfl (y_move rfl) ?_))))
  refine LY rfl (y_lenS rfl rfl Try.underlying24) ?_
  refine LY rfl (y_lss rfl rfl) (L_nil ?_)
  refine C_cond rfl (fun hc0 => ?_) (fun hc0 => ?_)
  · replace hc0 : i < ll.length := by have := of_decide_eq_true hc0; omega
    obtain ⟨c, hx⟩ : ∃ c, ll[i]? = some c := ⟨_, List.getElem?_eq_getElem hc0⟩
    obtain ⟨b1, o1_, l1, T1, fr1, rfl, hs1, hle1, hv1⟩ := hA (by rw [lcs_len]; omega)
    rw [lcs_len] at hle1
    refine C_skip (C_seq (C_block (C_seq ?_)))
    refine C_regionH ([(B1, .cells [Value.int .i64 segs, .int .i64 size].toArray 23)] :: H) (by kernel_rfl) ?_
    refine HY 0 rfl (((hsub (.cons_cons _ (.cons _ (.cons _ (.refl _))))).trans (hsub_pick [2] rfl))) rfl (y_move rfl) ?_
    refine HY 1 rfl (((hsub (.cons_cons _ (.cons _ (.cons _ (.refl _))))).trans (hsub_pick [2] rfl))) rfl (y_move rfl) ?_
    refine HY 2 rfl (((hsub (.cons_cons _ (.cons _ (.cons _ (.refl _))))).trans (hsub_pick [2] rfl))) rfl (y_move rfl) ?_
    refine HY 3 rfl (((hsub (.cons_cons _ (.cons _ (.cons _ (.refl _))))).trans (hsub_pick [2] rfl))) rfl (y_indexS rfl rfl Try.underlying24 sz_83 (by omega) (by omega) (show _ = o1_ + i * 2 from by simp)) ?_
    refine HY 4 rfl (((hsub (.cons_cons _ (.cons _ (.cons _ (.refl _))))).trans (hsub_pick [2] rfl))) rfl (y_fieldAddr rfl fl_83_0) ?_
    refine HY 5 rfl (((hsub (.cons_cons _ (.cons _ (.cons _ (.refl _))))).trans (hsub_pick [2] rfl))) rfl (y_load rfl ag_48 (hs1.up) (lcs_hat hv1 hx).1) ?_
    refine HY 6 rfl (((hsub (.cons_cons _ (.cons _ (.cons _ (.refl _))))).trans (hsub_pick [2] rfl))) rfl (y_move rfl) ?_
    refine HY 7 rfl (((hsub (.cons_cons _ (.cons _ (.cons _ (.refl _))))).trans (hsub_pick [2] rfl))) rfl (y_move rfl) ?_
    refine HY 8 rfl (((hsub (.cons_cons _ (.cons _ (.cons _ (.refl _))))).trans (hsub_pick [2] rfl))) rfl (y_indexS rfl rfl Try.underlying24 sz_83 (by omega) (by omega) (show _ = o1_ + i * 2 from by simp)) ?_
    refine HY 9 rfl (((hsub (.cons_cons _ (.cons _ (.cons _ (.refl _))))).trans (hsub_pick [2] rfl))) rfl (y_fieldAddr rfl fl_83_1) ?_
    refine HY 10 rfl (((hsub (.cons_cons _ (.cons _ (.cons _ (.refl _))))).trans (hsub_pick [2] rfl))) rfl (y_load rfl ag_3 (hs1.up) (lcs_hat hv1 hx).2) ?_
    refine H_one 11 rfl (by kernel_rfl) rfl (op_call rfl rfl (fun a w => Try.call30 a w) rfl ?_)
    refine (FnS.sub (hsub_pick [0] rfl) (xput_s hX c.1 (hb c (List.mem_of_getElem? hx)) c.2 (by omega))).mono ?_
    rintro _ _ ⟨rfl, A2, L2, hX2, rfl⟩
    refine ⟨_, rfl, ?_⟩
    refine ⟨((hsub (.cons_cons _ (.cons _ (.cons _ (.refl _))))).trans (hsub_pick [2] rfl)), ?_⟩
    refine H_done (by kernel_rfl) ?_
    refine C_regionH ([(B1, .cells [Value.int .i64 segs, .int .i64 size].toArray 23)] :: H) (by kernel_rfl) ?_
    refine HY 0 rfl (((hsub (.cons_cons _ (.cons _ (.cons _ (.refl _))))).trans (hsub_pick [2] rfl))) rfl (y_move rfl) ?_
    refine HY 1 rfl (((hsub (.cons_cons _ (.cons _ (.cons _ (.refl _))))).trans (hsub_pick [2] rfl))) rfl (y_fieldAddr rfl fl_23_0) ?_
    refine HY 2 rfl (((hsub (.cons_cons _ (.cons _ (.cons _ (.refl _))))).trans (hsub_pick [2] rfl))) rfl (y_load rfl ag_3 (sees 0 0 rfl) rfl) ?_
    refine HY 3 rfl (((hsub (.cons_cons _ (.cons _ (.cons _ (.refl _))))).trans (hsub_pick [2] rfl))) rfl (y_fieldAddr rfl fl_23_1) ?_
    refine HY 4 rfl (((hsub (.cons_cons _ (.cons _ (.cons _ (.refl _))))).trans (hsub_pick [2] rfl))) rfl (y_load rfl ag_3 (sees 0 0 rfl) rfl) ?_
    refine HY 5 rfl (((hsub (.cons_cons _ (.cons _ (.cons _ (.refl _))))).trans (hsub_pick [2] rfl))) rfl (y_move rfl) ?_
    refine HY 6 rfl (((hsub (.cons_cons _ (.cons _ (.cons _ (.refl _))))).trans (hsub_pick [2] rfl))) rfl (y_move rfl) ?_
    refine HY 7 rfl (((hsub (.cons_cons _ (.cons _ (.cons _ (.refl _))))).trans (hsub_pick [2] rfl))) rfl (y_indexS rfl rfl Try.underlying24 sz_83 (by omega) (by omega) (show _ = o1_ + i * 2 from by simp)) ?_
    refine HY 8 rfl (((hsub (.cons_cons _ (.cons _ (.cons _ (.refl _))))).trans (hsub_pick [2] rfl))) rfl (y_fieldAddr rfl fl_83_0) ?_
    refine HY 9 rfl (((hsub (.cons_cons _ (.cons _ (.cons _ (.refl _))))).trans (hsub_pick [2] rfl))) rfl (y_load rfl ag_48 (hs1.up) (lcs_hat hv1 hx).1) ?_
    refine HY 10 rfl (((hsub (.cons_cons _ (.cons _ (.cons _ (.refl _))))).trans (hsub_pick [2] rfl))) rfl (y_move rfl) ?_
    refine HY 11 rfl (((hsub (.cons_cons _ (.cons _ (.cons _ (.refl _))))).trans (hsub_pick [2] rfl))) rfl (y_move rfl) ?_
    refine HY 12 rfl (((hsub (.cons_cons _ (.cons _ (.cons _ (.refl _))))).trans (hsub_pick [2] rfl))) rfl (y_indexS rfl rfl Try.underlying24 sz_83 (by omega) (by omega) (show _ = o1_ + i * 2 from by simp)) ?_
    refine HY 13 rfl (((hsub (.cons_cons _ (.cons _ (.cons _ (.refl _))))).trans (hsub_pick [2] rfl))) rfl (y_fieldAddr rfl fl_83_1) ?_
    refine HY 14 rfl (((hsub (.cons_cons _ (.cons _ (.cons _ (.refl _))))).trans (hsub_pick [2] rfl))) rfl (y_load rfl ag_3 (hs1.up) (lcs_hat hv1 hx).2) ?_
    refine H_one 15 rfl (by kernel_rfl) rfl (op_call rfl rfl (fun a w => Try.call39 a w) rfl ?_)
    refine (FnS.sub (hsub_pick [1] rfl) (put18_false hok (by omega) segs size c.1 c.2 hX.s)).mono ?_
    rintro _ _ ⟨g2, hg2, rfl, rfl⟩
    refine ⟨_, rfl, ?_⟩
    refine ⟨((hsub (.cons_cons _ (.cons _ (.cons _ (.refl _))))).trans (hsub_pick [2] rfl)), ?_⟩
    refine HY 16 rfl (((hsub (.cons_cons _ (.cons _ (.cons _ (.refl _))))).trans (hsub_pick [2] rfl))) rfl (y_move rfl) ?_
    refine HY 17 rfl (((hsub (.cons_cons _ (.cons _ (.cons _ (.refl _))))).trans (hsub_pick [2] rfl))) rfl (y_extract rfl rfl) ?_
    refine HY 18 rfl (((hsub (.cons_cons _ (.cons _ (.cons _ (.refl _))))).trans (hsub_pick [2] rfl))) rfl (y_extract rfl rfl) ?_
    refine HY 19 rfl (((hsub (.cons_cons _ (.cons _ (.cons _ (.refl _))))).trans (hsub_pick [2] rfl))) rfl (y_assign rfl) ?_
    refine H_done (by kernel_rfl) ?_
    refine C_region (LY rfl (y_move rfl) ?_)
    refine LY rfl (y_add rfl rfl (show _ = ((i + 1 : Nat) : Int) from by rw [wi64 (by omega) (by omega)]; omega)) ?_
    refine LY rfl (y_assign rfl) (L_nil ?_)
    have hz := laid_next (segs := segs) (size := size) hx
    rw [← hz] at hX2 hg2
    refine ⟨(A2, L2, g2, i + 1), ⟨hX2, hg2, by simp only; rw [hz]; exact Nat.le_trans (xput_len hX.s _ _ _) (Nat.succ_le_succ hxl), by simp only; omega⟩, by simp only; omega, ?_⟩
    try simp only
    rw [hz]
    exact ⟨⟨rfl, rfl, rfl, rfl, rfl, trivial⟩, ((hsub (.cons_cons _ (.cons_cons _ (.cons_cons _ (.refl _))))).trans (hsub_pick [1, 0, 0] rfl))⟩
  · obtain rfl : i = ll.length := by have := of_decide_eq_false hc0; omega
    refine C_exit (C_seq (C_region (LY rfl (y_move rfl) (LY rfl (y_move rfl) (LY rfl (y_assign rfl) (LY rfl (y_assign rfl) (L_nil (C_ret ?_))))))))
    refine B_ret (rv_tmp rfl (rv_tmp rfl rv_nil)) ((hsub (.cons_cons _ (.cons_cons _ (.cons _ (.refl _))))).trans (hsub_pick [0, 0] rfl)) ?_
    rw [List.take_length] at hX hok hxl ⊢
    exact ⟨o1, g, A, L, hX, hok, hxl, rfl, rfl⟩

end Go.Proofs.Ytighbhplfjjgpaa

/- walks (own work; the walks' lines by a program of this repo). -/
set_option linter.unusedVariables false
set_option linter.unusedSimpArgs false
set_option maxRecDepth 20000
namespace Go.Proofs.Ytighbhplfjjgpaa
open Go.Sl
attribute [local irreducible] BodyQ WpC WpL WpS WpH OpW FnS


theorem used42_s {w0 : World} {H : Hp} {pa : Option Addr} {k ca : Nat} : FnS Try.prog w0 12 #[.slice pa k ca] H (fun e H' => ∃ b, e = .returned (.func (.func 42) #[] ([ptr b] : List Value).toArray) ∧ H' = [(b, .cells [Value.slice pa k ca].toArray 25)] :: H) := by
  refine FnS_intro (n := 4) (rs := [.tmp 2]) (vs := [.slice pa k ca]) Try.func12 rfl Try.ntmps12 rfl rfl ?_
  refine C_seq (C_region ?_)
  refine L_op rfl (op_box rfl rfl rfl (fun B1 => ?_))
  refine LY rfl (y_assign rfl) (L_nil (C_seq (C_region ?_)))
  refine LY rfl (y_makeFunc rfl rfl) ?_
  refine LY rfl (y_assign rfl) (L_nil (C_ret ?_))
  refine B_ret (rv_tmp rfl rv_nil) (HSub.refl _) ?_
  exact ⟨B1, rfl, rfl⟩

theorem used421_s {w0 : World} {H : Hp} {pa : Option Addr} {ca b : Nat} {l : List Bool} (hC : Sees (fun w => St w0 w H) b (.cells [Value.slice pa l.length ca].toArray 25)) (hA : Holds w0 H pa (bos l)) (hl : l.length < 1000000) (k : Int) : FnS Try.prog w0 42 #[.int .i64 k, ptr b] H (fun e H' => e = .returned (.bool (decide (0 ≤ k) && l.getD k.toNat false)) ∧ H' = H) := by
  refine FnS_intro (n := 18) (rs := [.tmp 3]) (vs := [.int .i64 k, ptr b]) Try.func42 rfl Try.ntmps42 rfl rfl ?_
  refine C_seq (C_region (LY rfl (y_assign rfl) (L_nil (C_seq (C_region (LY rfl (y_move rfl) ?_))))))
  refine LY rfl (y_geq rfl rfl) ?_
  refine LY rfl (y_move rfl) ?_
  refine L_case 6 rfl (fun hg1_3 => ?_) (fun hg1_3 => ?_)
  · have h0 : 0 ≤ k := of_decide_eq_true hg1_3
    refine LY rfl (y_move rfl) ?_
    refine LY rfl (y_load rfl ag_25 (hC) rfl) ?_
    refine LY rfl (y_lenS rfl rfl Try.underlying25) ?_
    refine LY rfl (y_lss rfl rfl) (LY rfl (y_pick_t rfl rfl) (LY rfl (y_move rfl) ?_))
    refine L_case 12 rfl (fun hg1_9 => ?_) (fun hg1_9 => ?_)
    · have h1 : k.toNat < l.length := by have := of_decide_eq_true hg1_9; omega
      obtain ⟨b1, o1, l1, T1, fr1, rfl, hs1, hle1, hv1⟩ := hA (by rw [bos_len]; omega)
      refine LY rfl (y_load rfl ag_25 (hC) rfl) ?_
      refine LY rfl (y_move rfl) ?_
      refine LY rfl (y_indexS rfl rfl Try.underlying25 sz_4 (by omega) (by omega) (show _ = o1 + k.toNat * 1 from by simp)) ?_
      refine LY rfl (y_load rfl ag_4 (hs1) (bos_hat hv1 h1)) ?_
      refine LY rfl (y_pick_t rfl rfl) (LY rfl (y_assign rfl) (L_nil (C_ret ?_)))
      refine B_ret (rv_tmp rfl rv_nil) (hsub (.refl _)) ?_
      refine ⟨congrArg (fun b => Ending.returned (Value.bool b)) ?_, rfl⟩
      first
      | (simp only [decide_eq_true h0, Bool.true_and, h2]; done)
      | (simp only [decide_eq_true h0, Bool.true_and]; done)
      | (simp only [decide_eq_false h0, Bool.false_and]; done)
    · have h1 : ¬ k.toNat < l.length := by have := of_decide_eq_false hg1_9; omega
      have h2 : l.getD k.toNat false = false := by rw [List.getD_eq_getElem?_getD, List.getElem?_eq_none (Nat.le_of_not_lt h1)]; rfl
      refine L_skip rfl rfl (L_skip rfl rfl (L_skip rfl rfl (L_skip rfl rfl (LY rfl (y_pick_f rfl rfl) (LY rfl (y_assign rfl) (L_nil (C_ret ?_)))))))
      refine B_ret (rv_tmp rfl rv_nil) (hsub (.refl _)) ?_
      refine ⟨congrArg (fun b => Ending.returned (Value.bool b)) ?_, rfl⟩
      first
      | (simp only [decide_eq_true h0, Bool.true_and, h2]; done)
      | (simp only [decide_eq_true h0, Bool.true_and]; done)
      | (simp only [decide_eq_false h0, Bool.false_and]; done)
  · have h0 : ¬ 0 ≤ k := of_decide_eq_false hg1_3
    refine L_skip rfl rfl (L_skip rfl rfl (L_skip rfl rfl (L_skip rfl rfl (LY rfl (y_pick_f rfl rfl) (LY rfl (y_move rfl) (L_skip rfl rfl (L_skip rfl rfl (L_skip rfl rfl (L_skip rfl rfl (LY rfl (y_pick_f rfl rfl) (LY rfl (y_assign rfl) (L_nil (C_ret ?_)))))))))))))
    refine B_ret (rv_tmp rfl rv_nil) (hsub (.refl _)) ?_
    refine ⟨congrArg (fun b => Ending.returned (Value.bool b)) ?_, rfl⟩
    first
    | (simp only [decide_eq_true h0, Bool.true_and, h2]; done)
    | (simp only [decide_eq_true h0, Bool.true_and]; done)
    | (simp only [decide_eq_false h0, Bool.false_and]; done)

end Go.Proofs.Ytighbhplfjjgpaa

/- walks (own work; the walks' lines by a program of this repo). -/
set_option linter.unusedVariables false
set_option linter.unusedSimpArgs false
set_option maxRecDepth 20000
namespace Go.Proofs.Ytighbhplfjjgpaa
open Go.Sl
attribute [local irreducible] BodyQ WpC WpL WpS WpH OpW FnS



set_option maxHeartbeats 2000000 in

theorem awake42_s {w0 : World} {H : Hp}  : FnS Try.prog w0 8 #[] H (fun e H' => e = .returned (.bool true) ∧ H' = H) := by
  refine FnS_intro (n := 72) (rs := [.tmp 0]) (vs := []) Try.func8 rfl Try.ntmps8 rfl rfl ?_
  refine C_seq (C_region (LY rfl (y_assign rfl) (L_nil (C_seq (C_region ?_)))))
  refine LY rfl (y_build (vs := [(0, _), (1, _)]) rfl pl_23 zl_23 (fill_cons (off := 0) (m := 1) (vs := [_]) rfl rfl rfl (Nat.le_of_ble_eq_true rfl) (fill_cons (off := 1) (m := 1) (vs := [_]) rfl rfl rfl (Nat.le_of_ble_eq_true rfl) rfl))) ?_
  refine L_op rfl (op_alloc zl_23 rfl (fun B1 => ?_))
  refine L_op rfl (op_store 0 0 rfl rfl rfl sz_23 rfl rfl (ones rfl) (by decide) ?_)
  skip
  refine L_nil (C_seq (C_region ?_))
  refine LY rfl (y_loadA rfl ag_23 sz_23 (sees 0 0 rfl) (Nat.le_of_ble_eq_true rfl) rfl) ?_
  refine LY rfl (y_build (vs := [(0, _), (1, _)]) rfl pl_83 zl_83 (fill_cons (off := 0) (m := 1) (vs := [_]) rfl rfl rfl (Nat.le_of_ble_eq_true rfl) (fill_cons (off := 1) (m := 1) (vs := [_]) rfl rfl rfl (Nat.le_of_ble_eq_true rfl) rfl))) ?_
  refine LY rfl (y_build (vs := [(0, _), (1, _)]) rfl pl_83 zl_83 (fill_cons (off := 0) (m := 1) (vs := [_]) rfl rfl rfl (Nat.le_of_ble_eq_true rfl) (fill_cons (off := 1) (m := 1) (vs := [_]) rfl rfl rfl (Nat.le_of_ble_eq_true rfl) rfl))) ?_
  refine LY rfl (y_build (vs := [(0, _), (1, _)]) rfl pl_83 zl_83 (fill_cons (off := 0) (m := 1) (vs := [_]) rfl rfl rfl (Nat.le_of_ble_eq_true rfl) (fill_cons (off := 1) (m := 1) (vs := [_]) rfl rfl rfl (Nat.le_of_ble_eq_true rfl) rfl))) ?_
  refine L_op rfl (op_buildSlice (vs := [(0, _), (1, _), (2, _)]) rfl Try.underlying24 sz_83 zl_83 rfl (by decide) (fill_cons (off := 0) (m := 2) (vs := [_, _]) rfl rfl rfl (Nat.le_of_ble_eq_true rfl) (fill_cons (off := 2) (m := 2) (vs := [_, _]) rfl rfl rfl (Nat.le_of_ble_eq_true rfl) (fill_cons (off := 4) (m := 2) (vs := [_, _]) rfl rfl rfl (Nat.le_of_ble_eq_true rfl) rfl))) rfl (fun B2 => ?_))
  refine L_op rfl (op_call rfl rfl (fun a w => Try.call10 a w) rfl ?_)
  refine (laid_s (ll := [(1, 2), (2, 3), (3, 4)]) (holds_slice (sees 0 0 rfl) (by decide) rfl) (by decide) (by decide) 4 2).mono ?_
  rw [show laidL 4 2 [(1, 2), (2, 3), (3, 4)] = [(1, 2), (2, 3), (3, 4)] from by decide +kernel]
  rintro _ _ ⟨o1, g1, A1, L1, hX, hg1, _, rfl, rfl⟩
  refine ⟨_, rfl, ?_⟩
  refine LY rfl (y_move rfl) (LY rfl (y_extract rfl rfl) (LY rfl (y_extract rfl rfl) (LY rfl (y_assign rfl) (LY rfl (y_assign rfl) (L_nil (C_seq (C_region (LY rfl (y_move rfl) ?_))))))))
  refine L_op rfl (op_buildSlice (vs := [(0, _), (1, _), (2, _), (3, _)]) rfl Try.underlying25 sz_4 zl_4 rfl (by decide) (fill_cons (off := 0) (m := 1) (vs := [_]) rfl rfl rfl (Nat.le_of_ble_eq_true rfl) (fill_cons (off := 1) (m := 1) (vs := [_]) rfl rfl rfl (Nat.le_of_ble_eq_true rfl) (fill_cons (off := 2) (m := 1) (vs := [_]) rfl rfl rfl (Nat.le_of_ble_eq_true rfl) (fill_cons (off := 3) (m := 1) (vs := [_]) rfl rfl rfl (Nat.le_of_ble_eq_true rfl) rfl)))) rfl (fun B3 => ?_))
  refine L_op rfl (op_call rfl rfl (fun a w => Try.call12 a w) rfl ?_)
  refine used42_s.mono ?_
  rintro _ _ ⟨uba, rfl, rfl⟩
  refine ⟨_, rfl, ?_⟩
  refine L_op rfl (op_call rfl rfl (fun a w => Try.call11 a w) rfl ?_)
  refine (FnS.sub (hsub_pick [2] rfl) (choose_y hX (fu := 42) (cu := [ptr uba]) (p := (fun k => decide (0 ≤ (k : Int)) && ([true, true, true, false] : List Bool).getD (k : Int).toNat false)) (-1) (fun a w => Try.call42 a w) (fun k hk H1 hs => used421_s (l := [true, true, true, false]) (Sees.sub (by exact sees 0 0 rfl) hs) ((holds_slice (sees 1 0 rfl) (by decide) rfl).sub hs) (by decide) k) (by decide) (v := 2) (by decide +kernel) (by decide))).mono ?_
  rw [show xnums 4 2 [(1, 2), (2, 3), (3, 4)] ((2 : Nat) : Int) = [] from by decide +kernel]
  rintro _ _ ⟨ga, hga, rfl, rfl⟩
  obtain ⟨gaa, gca, gea, _⟩ := holds_sl (w0 := w0) (H := [slSeg 48 ga (us [])]) (s := 0) rfl hga
  rw [gea]
  refine ⟨_, rfl, ?_⟩
  refine LY rfl (y_move rfl) (LY rfl (y_extract rfl rfl) (LY rfl (y_extract rfl rfl) ?_))
  refine L_op rfl (op_alloc zl_35 rfl (fun B4 => ?_))
  refine L_op rfl (op_store 0 0 rfl rfl rfl sz_35 rfl rfl (ones rfl) (by decide) ?_)
  skip
  refine LY rfl (y_assign rfl) (L_nil (C_seq (C_region (LY rfl (y_move rfl) ?_))))
  refine L_op rfl (op_buildSlice (vs := [(0, _), (1, _), (2, _), (3, _)]) rfl Try.underlying25 sz_4 zl_4 rfl (by decide) (fill_cons (off := 0) (m := 1) (vs := [_]) rfl rfl rfl (Nat.le_of_ble_eq_true rfl) (fill_cons (off := 1) (m := 1) (vs := [_]) rfl rfl rfl (Nat.le_of_ble_eq_true rfl) (fill_cons (off := 2) (m := 1) (vs := [_]) rfl rfl rfl (Nat.le_of_ble_eq_true rfl) (fill_cons (off := 3) (m := 1) (vs := [_]) rfl rfl rfl (Nat.le_of_ble_eq_true rfl) rfl)))) rfl (fun B5 => ?_))
  refine L_op rfl (op_call rfl rfl (fun a w => Try.call12 a w) rfl ?_)
  refine used42_s.mono ?_
  rintro _ _ ⟨ubb, rfl, rfl⟩
  refine ⟨_, rfl, ?_⟩
  refine L_op rfl (op_call rfl rfl (fun a w => Try.call11 a w) rfl ?_)
  refine (FnS.sub (hsub_pick [4] rfl) (choose_y hX (fu := 42) (cu := [ptr ubb]) (p := (fun k => decide (0 ≤ (k : Int)) && ([true, true, true, false] : List Bool).getD (k : Int).toNat false)) 2 (fun a w => Try.call42 a w) (fun k hk H1 hs => used421_s (l := [true, true, true, false]) (Sees.sub (by exact sees 0 0 rfl) hs) ((holds_slice (sees 1 0 rfl) (by decide) rfl).sub hs) (by decide) k) (by decide) (v := 1) (by decide +kernel) (by decide))).mono ?_
  rw [show xnums 4 2 [(1, 2), (2, 3), (3, 4)] ((1 : Nat) : Int) = [3] from by decide +kernel]
  rintro _ _ ⟨gb, hgb, rfl, rfl⟩
  obtain ⟨gab, gcb, geb, _⟩ := holds_sl (w0 := w0) (H := [slSeg 48 gb (us [3])]) (s := 0) rfl hgb
  rw [geb]
  refine ⟨_, rfl, ?_⟩
  refine LY rfl (y_move rfl) (LY rfl (y_extract rfl rfl) (LY rfl (y_extract rfl rfl) ?_))
  refine L_op rfl (op_alloc zl_35 rfl (fun B6 => ?_))
  refine L_op rfl (op_store 0 0 rfl rfl rfl sz_35 rfl rfl (ones rfl) (by decide) ?_)
  skip
  refine LY rfl (y_assign rfl) (L_nil (C_seq (C_region (LY rfl (y_move rfl) (LY rfl (y_move rfl) (LY rfl (y_fieldAddr rfl fl_35_0) (LY rfl (y_load rfl ag_3 (sees 5 0 rfl) rfl) (LY rfl (y_eqi rfl rfl) (LY rfl (y_pick_t rfl rfl) (LY rfl (y_move rfl) (LY rfl (y_fieldAddr rfl fl_35_1) (LY rfl (y_load rfl ag_33 (sees 5 0 rfl) rfl) ?_))))))))))))
  refine LY rfl (y_lenS rfl rfl Try.underlying33) ?_
  refine LY rfl (y_eqi rfl rfl) (LY rfl (y_pick_t rfl rfl) (LY rfl (y_move rfl) (LY rfl (y_move rfl) ?_)))
  refine LY rfl (y_loadA rfl ag_23 sz_23 (sees 11 0 rfl) (Nat.le_of_ble_eq_true rfl) rfl) ?_
  refine LY rfl (y_loadA rfl ag_35 sz_35 (sees 5 0 rfl) (Nat.le_of_ble_eq_true rfl) rfl) ?_
  refine L_op rfl (op_call rfl rfl (fun a w => Try.call17 a w) rfl ?_)
  refine (FnS.sub (hsub_pick [2] rfl) (gain_y (ns := []) hX (holds_sl2 gea (s := 5) rfl hga) (by decide) 2 (by decide) (by decide) (by decide))).mono ?_
  rw [show (max ((2 : Int) - ((gset 4 2 [(1, 2), (2, 3), (3, 4)] 2 []).length : Int)) 0) = 2 from by decide +kernel]
  rintro _ _ ⟨rfl, rfl⟩
  refine ⟨_, rfl, ?_⟩
  refine LY rfl (y_eqi rfl rfl) (LY rfl (y_pick_t rfl rfl) (LY rfl (y_move rfl) (LY rfl (y_move rfl) (LY rfl (y_pick_t rfl rfl) (LY rfl (y_move rfl) (LY rfl (y_fieldAddr rfl fl_35_0) (LY rfl (y_load rfl ag_3 (sees 1 0 rfl) rfl) (LY rfl (y_eqi rfl rfl) (LY rfl (y_pick_t rfl rfl) (LY rfl (y_move rfl) (LY rfl (y_fieldAddr rfl fl_35_1) (LY rfl (y_load rfl ag_33 (sees 1 0 rfl) rfl) ?_))))))))))))
  refine LY rfl (y_lenS rfl rfl Try.underlying33) ?_
  refine LY rfl (y_eqi rfl rfl) (LY rfl (y_pick_t rfl rfl) (LY rfl (y_move rfl) (LY rfl (y_move rfl) ?_)))
  refine LY rfl (y_loadA rfl ag_23 sz_23 (sees 11 0 rfl) (Nat.le_of_ble_eq_true rfl) rfl) ?_
  refine LY rfl (y_loadA rfl ag_35 sz_35 (sees 1 0 rfl) (Nat.le_of_ble_eq_true rfl) rfl) ?_
  refine L_op rfl (op_call rfl rfl (fun a w => Try.call17 a w) rfl ?_)
  refine (FnS.sub (hsub_pick [0] rfl) (gain_y (ns := [3]) hX (holds_sl2 geb (s := 1) rfl hgb) (by decide) 1 (by decide) (by decide) (by decide))).mono ?_
  rw [show (max ((2 : Int) - ((gset 4 2 [(1, 2), (2, 3), (3, 4)] 1 [3]).length : Int)) 0) = 1 from by decide +kernel]
  rintro _ _ ⟨rfl, rfl⟩
  refine ⟨_, rfl, ?_⟩
  refine LY rfl (y_eqi rfl rfl) (LY rfl (y_pick_t rfl rfl) (LY rfl (y_assign rfl) (L_nil (C_ret ?_))))
  refine B_ret (rv_tmp rfl rv_nil) (hsub (.cons _ (.cons _ (.cons _ (.cons _ (.cons _ (.cons _ (.cons _ (.cons _ (.cons _ (.cons _ (.cons _ (.cons _ (.refl _)))))))))))))) ?_
  exact ⟨rfl, rfl⟩

end Go.Proofs.Ytighbhplfjjgpaa

/- walks (own work; the walks' lines by a program of this repo). -/
set_option linter.unusedVariables false
set_option linter.unusedSimpArgs false
set_option maxRecDepth 20000
namespace Go.Proofs.Ytighbhplfjjgpaa
open Go.Sl
attribute [local irreducible] BodyQ WpC WpL WpS WpH OpW FnS


theorem gain_s {w0 : World} {H : Hp} {o : Xo} {segs size : Int} {l : Xl} {A L : Gm} (h : Xm segs size l A L) {pn : Option Addr} {cn : Nat} {ns : List Nat} (hN : Holds w0 H pn (us ns)) (hl : ns.length < 1000000) (seg : Int) : FnS Try.prog w0 17 #[ptr o.b, shV segs size, .agg [Value.int .i64 seg, .slice pn ns.length cn].toArray] (o.seg 90 segs size A L :: H) (fun e H' => e = .returned (.int .i64 (gain42 segs size l seg ns)) ∧ H' = o.seg 90 segs size A L :: H) := by
  unfold gain42
  cases hm : mayG segs size with
  | false => rw [if_pos (.inl rfl)]; exact gain_bad h hN hl seg hm
  | true =>
    by_cases h1 : seg < 0
    · rw [if_pos (.inr (.inl h1))]; exact gain_lo h hN hl seg hm h1
    · by_cases h2 : segs ≤ seg
      · rw [if_pos (.inr (.inr h2))]; exact gain_hi h hN hl seg hm h1 h2
      · rw [if_neg (by simp [h1, h2])]; exact gain_y h hN hl seg hm h1 h2

end Go.Proofs.Ytighbhplfjjgpaa

/- walks (own work; the walks' lines by a program of this repo). -/
set_option linter.unusedVariables false
set_option linter.unusedSimpArgs false
set_option maxRecDepth 20000
namespace Go.Proofs.Ytighbhplfjjgpaa
open Go.Sl
attribute [local irreducible] BodyQ WpC WpL WpS WpH OpW FnS


theorem carried_40 {w0 : World} {H : Hp} {pl : Option Addr} {cl : Nat} {lv : List Bool} (hI : Holds w0 H pl (bos lv)) (a b : Nat) (ha : a < 256) (hb : b < 256) (h40 : 40 < lv.length) : FnS Try.prog w0 7 #[.int .u8 (a : Int), .int .u8 (b : Int), .slice pl lv.length cl] H (fun e H' => e = .returned (.bool true)) := by
  refine FnS_intro (n := 262) (rs := [.tmp 6]) (vs := [.int .u8 (a : Int), .int .u8 (b : Int), .slice pl lv.length cl]) Try.func7 rfl Try.ntmps7 rfl rfl ?_
  refine C_seq (C_region (LY rfl (y_assign rfl) (L_nil (C_seq (C_seq (C_region ?_))))))
  refine L_op rfl (op_call rfl rfl (fun a w => Try.call8 a w) rfl ?_)
  refine awake42_s.mono ?_
  rintro _ _ ⟨rfl, e⟩
  obtain rfl := e.symm
  clear e
  refine ⟨_, rfl, ?_⟩
  refine LY rfl (y_not rfl) (LY rfl (y_move rfl) (LY rfl (y_move rfl) ?_))
  refine LY rfl (y_lenS rfl rfl Try.underlying25) ?_
  refine LY rfl (y_gtr rfl rfl) ?_
  refine LY rfl (y_pick_f rfl rfl) (L_nil ?_)
  refine C_cond rfl (fun hc0 => ?_) (fun hc0 => absurd hc0 (by simp <;> omega))
  refine C_seq (C_region ?_)
  refine L_op rfl (op_call rfl rfl (fun a w => Try.call8 a w) rfl ?_)
  refine awake42_s.mono ?_
  rintro _ _ ⟨rfl, e⟩
  obtain rfl := e.symm
  clear e
  refine ⟨_, rfl, ?_⟩
  refine LY rfl (y_assign rfl) (L_nil (C_ret ?_))
  refine B_ret (rv_tmp rfl rv_nil) (HSub.refl _) ?_
  rfl

set_option maxHeartbeats 8000000 in

theorem carried_y {w0 : World} {H : Hp} {pl : Option Addr} {cl : Nat} {lv : List Bool} (hI : Holds w0 H pl (bos lv)) (a b : Nat) (ha : a < 256) (hb : b < 256) (h40 : ¬ 40 < lv.length) {sg sz n v : Nat} (hsg : sg = 3 + a % 4) (hsz : sz = 1 + b % 4) (hn : n = (sg - 1) * sz) (hv : vic (fun k : Nat => !decide ((k : Int) = ((sg - 2 : Nat) : Int)) && decide (k < sg - 1)) (fun j => cnt18 (sg : Int) (sz : Int) (cX lv n) (j : Int)) ((sg : Int)).toNat = some v) : FnS Try.prog w0 7 #[.int .u8 (a : Int), .int .u8 (b : Int), .slice pl lv.length cl] H (fun e H' => e = .returned (.bool true)) := by
  have hm : mayG (sg : Int) (sz : Int) = true := by unfold mayG; simp; omega
  obtain ⟨w1, w2, w3, w4, w5⟩ := may_lt hm
  have hs7 : sg < 7 := by omega
  have hz5 : sz < 5 := by omega
  have h24 : sg * sz ≤ 6 * 4 := Nat.mul_le_mul (by omega) (by omega)
  have hns : n + sz = sg * sz := by rw [hn, ← Nat.succ_mul]; congr 1; omega
  obtain ⟨v1, v2, v3⟩ := vic_spec hv
  have hv2 : v < sg - 2 := by simp at v2; omega
  have hxl := cX_len lv n
  have hq3 : (sg : Int) * (sz : Int) = ((sg * sz : Nat) : Int) := by push_cast; rfl
  have hxl2 : (xnums (sg : Int) (sz : Int) (cX lv n) (v : Int)).length ≤ n := by unfold xnums; rw [List.length_map]; exact Nat.le_trans (List.length_filter_le _ _) hxl
  refine FnS_intro (n := 262) (rs := [.tmp 6]) (vs := [.int .u8 (a : Int), .int .u8 (b : Int), .slice pl lv.length cl]) Try.func7 rfl Try.ntmps7 rfl rfl ?_
  refine C_seq (C_region (LY rfl (y_assign rfl) (L_nil (C_seq (C_seq (C_region ?_))))))
  refine L_op rfl (op_call rfl rfl (fun a w => Try.call8 a w) rfl ?_)
  refine awake42_s.mono ?_
  rintro _ _ ⟨rfl, e⟩
  obtain rfl := e.symm
  clear e
  refine ⟨_, rfl, ?_⟩
  refine LY rfl (y_not rfl) (LY rfl (y_move rfl) (LY rfl (y_move rfl) ?_))
  refine LY rfl (y_lenS rfl rfl Try.underlying25) ?_
  refine LY rfl (y_gtr rfl rfl) ?_
  refine LY rfl (y_pick_f rfl rfl) (L_nil ?_)
  refine C_cond rfl (fun hc0 => absurd hc0 (by simp <;> omega)) (fun hc0 => ?_)
  refine C_skip (C_seq (C_region (LY rfl (y_move rfl) ?_)))
  refine LY rfl (y_conv rfl us_5 Try.underlying3 (wi64 (by omega) (by omega))) ?_
  refine LY rfl (y_rem rfl rfl (by decide) (show _ = ((a % 4 : Nat) : Int) from rfl)) ?_
  refine LY rfl (y_add rfl rfl (show _ = (sg : Int) from by rw [wi64 (by omega) (by omega)]; omega)) ?_
  refine LY rfl (y_move rfl) ?_
  refine LY rfl (y_conv rfl us_5 Try.underlying3 (wi64 (by omega) (by omega))) ?_
  refine LY rfl (y_rem rfl rfl (by decide) (show _ = ((b % 4 : Nat) : Int) from rfl)) ?_
  refine LY rfl (y_add rfl rfl (show _ = (sz : Int) from by rw [wi64 (by omega) (by omega)]; omega)) ?_
  refine LY rfl (y_build (vs := [(0, _), (1, _)]) rfl pl_23 zl_23 rfl) ?_
  refine L_op rfl (op_alloc zl_23 rfl (fun B1 => ?_))
  refine L_op rfl (op_store 0 0 rfl rfl rfl sz_23 rfl rfl (ones rfl) (by decide) ?_)
  skip
  refine L_nil (C_seq (C_region ?_))
  refine L_op rfl (op_call rfl rfl (fun a w => Try.call22 a w) rfl ?_)
  refine newpower_l.mono ?_
  rintro _ _ ⟨p1, hpk1, hdv1, hP1, rfl, rfl⟩
  refine ⟨_, rfl, ?_⟩
  refine LY rfl (y_assign rfl) (L_nil ?_)
  refine C_cutG (ι := G42) (fun z => Lst dt (.func (.func 52) #[] #[ptr z.cb]) sg sz z.D z.A z.m z.X 0 z.mb z.bx z.bys z.bp (eL sg sz 0) (eB 0)) (fun z => [(2, .slice pl lv.length cl), (7, ptr B1), (9, ptr z.tb), (10, .int .i64 0)]) (fun z => LGS z.lb z.mb z.gb zc0 sg sz (eL sg sz 0) z.m z.D ([(z.cb, .cells [.iface 67 (.agg zc0.toArray)].toArray 103)] :: [(z.tb, .cells [ptr z.lb].toArray 56)] :: [(B1, .cells [Value.int .i64 (sg : Int), .int .i64 (sz : Int)].toArray 23)] :: H)) ?_ (fun z hz => ?_)
  · refine C_regionH ([(B1, .cells [Value.int .i64 (sg : Int), .int .i64 (sz : Int)].toArray 23)] :: H) (by kernel_rfl) ?_
    refine HY 0 rfl (((hsub (.cons_cons _ (.cons _ (.cons _ (.refl _))))).trans (hsub_pick [2] rfl))) rfl (y_loadA rfl ag_23 sz_23 (sees 0 0 rfl) (Nat.le_of_ble_eq_true rfl) (show _ = [Value.int .i64 (sg : Int), .int .i64 (sz : Int)] from rfl)) ?_
    refine HY 2 rfl (((hsub (.cons_cons _ (.cons _ (.cons _ (.refl _))))).trans (hsub_pick [2] rfl))) rfl (y_move rfl) ?_
    refine HY 4 rfl (((hsub (.cons_cons _ (.cons _ (.cons _ (.refl _))))).trans (hsub_pick [2] rfl))) rfl (y_loadA rfl ag_23 sz_23 (sees 0 0 rfl) (Nat.le_of_ble_eq_true rfl) (show _ = [Value.int .i64 (sg : Int), .int .i64 (sz : Int)] from rfl)) ?_
    refine HY 6 rfl (((hsub (.cons_cons _ (.cons _ (.cons _ (.refl _))))).trans (hsub_pick [2] rfl))) rfl (y_move rfl) ?_
    refine HY 8 rfl (((hsub (.cons_cons _ (.cons _ (.cons _ (.refl _))))).trans (hsub_pick [2] rfl))) rfl (y_build0 pl_67 zl_67) ?_
    refine HY 9 rfl (((hsub (.cons_cons _ (.cons _ (.cons _ (.refl _))))).trans (hsub_pick [2] rfl))) rfl (y_makeIface rfl Try.underlying67 rfl) ?_
    refine HY 12 rfl (((hsub (.cons_cons _ (.cons _ (.cons _ (.refl _))))).trans (hsub_pick [2] rfl))) rfl (y_build0 pl_67 zl_67) ?_
    refine HY 13 rfl (((hsub (.cons_cons _ (.cons _ (.cons _ (.refl _))))).trans (hsub_pick [2] rfl))) rfl (y_makeIface rfl Try.underlying67 rfl) ?_
    refine HY 14 rfl (((hsub (.cons_cons _ (.cons _ (.cons _ (.refl _))))).trans (hsub_pick [2] rfl))) rfl (y_loadA rfl ag_23 sz_23 (sees 0 0 rfl) (Nat.le_of_ble_eq_true rfl) (show _ = [Value.int .i64 (sg : Int), .int .i64 (sz : Int)] from rfl)) ?_
    refine H_two 1 19 rfl rfl (by kernel_rfl) rfl rfl ?_ ?_
    · refine op_call rfl rfl (fun a w => Try.call24 a w) rfl ?_
      refine (sectors_s (sg : Int) (sz : Int) hm).mono ?_
      rintro _ _ ⟨rfl, e⟩
      obtain rfl := e.symm
      clear e
      rw [show (2 : Int) + (sg : Int) * (sz : Int) = ((2 + sg * sz : Nat) : Int) from by push_cast; rfl]
      refine ⟨_, rfl, ?_⟩
      refine ⟨((hsub (.cons_cons _ (.cons _ (.cons _ (.refl _))))).trans (hsub_pick [2] rfl)), ?_⟩
      refine H_two 3 19 rfl rfl (by kernel_rfl) rfl rfl ?_ ?_
      · refine op_call rfl rfl (fun a w => Try.call23 a w) rfl ?_
        refine ((new_l (H := (_ :: H)) (rfl : p1.b = _) hpk1 hdv1 ((2 + sg * sz : Nat) : Int)).sub (hsub_pick [0, 0] rfl)).mono ?_
        rintro _ _ ⟨d91, p91, hG91, pb91, ha91, hq91, rfl, rfl⟩
        have hA91 : d91.a = Ab.new (2 + sg * sz) := by rw [ha91] <;> (rw [show szOf ((2 + sg * sz : Nat) : Int) = 2 + sg * sz from by unfold szOf; omega])
        have hP91 : p91.a = _ := hq91.trans hP1
        have hb91 : d91.b = d91.b := rfl
        refine ⟨_, rfl, ?_⟩
        refine ⟨((hsub (.cons_cons _ (.cons _ (.cons _ (.cons _ (.cons _ (.cons _ (.refl _)))))))).trans (hsub_pick [5] rfl)), ?_⟩
        refine H_two 5 19 rfl rfl (by kernel_rfl) rfl rfl ?_ ?_
        · refine op_call rfl rfl (fun a w => Try.call24 a w) rfl ?_
          refine (sectors_s (sg : Int) (sz : Int) hm).mono ?_
          rintro _ _ ⟨rfl, e⟩
          obtain rfl := e.symm
          clear e
          rw [show (2 : Int) + (sg : Int) * (sz : Int) = ((2 + sg * sz : Nat) : Int) from by push_cast; rfl]
          refine ⟨_, rfl, ?_⟩
          refine ⟨((hsub (.cons_cons _ (.cons _ (.cons _ (.cons _ (.cons _ (.cons _ (.refl _)))))))).trans (hsub_pick [5] rfl)), ?_⟩
          refine H_two 7 19 rfl rfl (by kernel_rfl) rfl rfl ?_ ?_
          · refine op_call rfl rfl (fun a w => Try.call23 a w) rfl ?_
            refine ((newtwo_d hG91 pb91 rfl ((2 + sg * sz : Nat) : Int)).sub (hsub_pick [0, 0, 0, 0, 0] rfl)).mono ?_
            rintro _ _ ⟨by81, D81, h81, rfl, rfl⟩
            replace h81 := h81.to (B := ⟨Ab.new (2 + sg * sz), Ab.new (2 + sg * sz), q0, none⟩) (by rw [hA91, hP91] <;> (rw [show szOf ((2 + sg * sz : Nat) : Int) = 2 + sg * sz from by unfold szOf; omega]))
            have hv1 : Vw ⟨Ab.new (2 + sg * sz), Ab.new (2 + sg * sz), q0, none⟩ (2 + sg * sz) (List.replicate (2 + sg * sz) (secOf 0)) (List.replicate (2 + sg * sz) (secOf 0)) 0 0 := Vw.new (by omega) none (.inl rfl)
            refine ⟨_, rfl, ?_⟩
            refine ⟨((hsub (.cons_cons _ (.cons _ (.refl _)))).trans (hsub_pick [1] rfl)), ?_⟩
            refine H_two 10 19 rfl rfl (by kernel_rfl) rfl rfl ?_ ?_
            · refine op_call rfl rfl (fun a w => Try.call27 a w) rfl ?_
              refine FnS.mono (good_s (_) rfl) ?_
              rintro _ _ ⟨cb, rfl, rfl⟩
              refine ⟨_, rfl, ?_⟩
              refine ⟨((hsub (.cons_cons _ (.cons _ (.cons _ (.refl _))))).trans (hsub_pick [2] rfl)), ?_⟩
              refine H_two 11 19 rfl rfl (by kernel_rfl) rfl rfl ?_ ?_
              · refine op_call rfl rfl (fun a w => Try.call26 a w) rfl ?_
                refine ((new_v (f := 52) (cap := [ptr cb]) h81 hv1 (fun s hs => by rw [List.eq_of_mem_replicate hs, secOf_len]) (fun s hs => by rw [List.eq_of_mem_replicate hs, secOf_len])).sub (hsub_pick [1] rfl)).mono ?_
                rintro _ _ ⟨mb, m, hM, rfl, rfl⟩
                refine ⟨_, rfl, ?_⟩
                refine ⟨((hsub (.cons_cons _ (.cons _ (.cons _ (.cons _ (.refl _)))))).trans (hsub_pick [3] rfl)), ?_⟩
                refine H_two 15 19 rfl rfl (by kernel_rfl) rfl rfl ?_ ?_
                · refine op_call rfl rfl (fun a w => Try.call25 a w) rfl ?_
                  refine ((lognew_s (zc := zc0) hM hm).sub (hsub_pick [0, 0] rfl)).mono ?_
                  rintro _ _ ⟨lb, gb, hL, rfl, rfl⟩
                  rw [← eL_z (sg := sg) (sz := sz) (by omega) (by omega) (by omega) (by omega)] at hL ⊢
                  rw [← eB_0] at hL
                  refine ⟨_, rfl, ?_⟩
                  refine ⟨((hsub (.cons_cons _ (.cons _ (.cons _ (.cons _ (.cons _ (.cons _ (.refl _)))))))).trans (hsub_pick [5] rfl)), ?_⟩
                  refine HY 16 rfl (((hsub (.cons_cons _ (.cons _ (.cons _ (.cons _ (.cons _ (.cons _ (.refl _)))))))).trans (hsub_pick [5] rfl))) rfl (y_move rfl) ?_
                  refine HY 17 rfl (((hsub (.cons_cons _ (.cons _ (.cons _ (.cons _ (.cons _ (.cons _ (.refl _)))))))).trans (hsub_pick [5] rfl))) rfl (y_extract rfl rfl) ?_
                  refine HY 18 rfl (((hsub (.cons_cons _ (.cons _ (.cons _ (.cons _ (.cons _ (.cons _ (.refl _)))))))).trans (hsub_pick [5] rfl))) rfl (y_extract rfl rfl) ?_
                  refine H_one 19 rfl (by kernel_rfl) rfl (op_alloc zl_56 rfl (fun B2 => ?_))
                  refine ⟨((hsub (.cons_cons _ (.cons _ (.cons _ (.cons _ (.cons _ (.cons _ (.cons _ (.refl _))))))))).trans (hsub_pick [6] rfl)), ?_⟩
                  refine H_one 20 rfl (by kernel_rfl) rfl (op_store1 0 0 rfl rfl rfl sz_56 rfl (Nat.le_of_ble_eq_true rfl) ?_)
                  refine ⟨((hsub (.cons_cons _ (.cons _ (.cons _ (.cons _ (.cons _ (.cons _ (.cons _ (.refl _))))))))).trans (hsub_pick [6] rfl)), ?_⟩
                  refine HY 21 rfl (((hsub (.cons_cons _ (.cons _ (.cons _ (.cons _ (.cons _ (.cons _ (.cons _ (.refl _))))))))).trans (hsub_pick [6] rfl))) rfl (y_assign rfl) ?_
                  refine H_done (by kernel_rfl) ?_
                  exact ⟨⟨D81, _, m, _, mb, _, _, _, lb, gb, cb, B2⟩, hL, ⟨rfl, rfl, rfl, rfl, trivial⟩, ((hsub (.cons_cons _ (.cons_cons _ (.cons_cons _ (.cons_cons _ (.cons_cons _ (.cons_cons _ (.cons_cons _ (.refl _))))))))).trans (hsub_pick [1, 1, 1, 1, 1, 0, 0] rfl))⟩
                · refine op_alloc zl_56 rfl (fun B3 => ?_)
                  refine ⟨((hsub (.cons_cons _ (.cons _ (.cons _ (.cons _ (.cons _ (.refl _))))))).trans (hsub_pick [4] rfl)), ?_⟩
                  refine H_one 15 rfl (by kernel_rfl) rfl (op_call rfl rfl (fun a w => Try.call25 a w) rfl ?_)
                  refine ((lognew_s (zc := zc0) hM hm).sub (hsub_pick [1, 1] rfl)).mono ?_
                  rintro _ _ ⟨lb, gb, hL, rfl, rfl⟩
                  rw [← eL_z (sg := sg) (sz := sz) (by omega) (by omega) (by omega) (by omega)] at hL ⊢
                  rw [← eB_0] at hL
                  refine ⟨_, rfl, ?_⟩
                  refine ⟨((hsub (.cons_cons _ (.cons _ (.cons _ (.cons _ (.cons _ (.cons _ (.cons _ (.refl _))))))))).trans (hsub_pick [6] rfl)), ?_⟩
                  refine HY 16 rfl (((hsub (.cons_cons _ (.cons _ (.cons _ (.cons _ (.cons _ (.cons _ (.cons _ (.refl _))))))))).trans (hsub_pick [6] rfl))) rfl (y_move rfl) ?_
                  refine HY 17 rfl (((hsub (.cons_cons _ (.cons _ (.cons _ (.cons _ (.cons _ (.cons _ (.cons _ (.refl _))))))))).trans (hsub_pick [6] rfl))) rfl (y_extract rfl rfl) ?_
                  refine HY 18 rfl (((hsub (.cons_cons _ (.cons _ (.cons _ (.cons _ (.cons _ (.cons _ (.cons _ (.refl _))))))))).trans (hsub_pick [6] rfl))) rfl (y_extract rfl rfl) ?_
                  refine H_one 20 rfl (by kernel_rfl) rfl (op_store1 4 0 rfl rfl rfl sz_56 rfl (Nat.le_of_ble_eq_true rfl) ?_)
                  refine ⟨((hsub (.cons_cons _ (.cons _ (.cons _ (.cons _ (.cons _ (.cons _ (.cons _ (.refl _))))))))).trans (hsub_pick [6] rfl)), ?_⟩
                  refine HY 21 rfl (((hsub (.cons_cons _ (.cons _ (.cons _ (.cons _ (.cons _ (.cons _ (.cons _ (.refl _))))))))).trans (hsub_pick [6] rfl))) rfl (y_assign rfl) ?_
                  refine H_done (by kernel_rfl) ?_
                  exact ⟨⟨D81, _, m, _, mb, _, _, _, lb, gb, cb, B3⟩, hL, ⟨rfl, rfl, rfl, rfl, trivial⟩, ((hsub (.cons_cons _ (.cons_cons _ (.cons_cons _ (.cons_cons _ (.cons_cons _ (.cons_cons _ (.cons_cons _ (.refl _))))))))).trans (hsub_pick [0, 0, 0, 0, 1, 0, 0] rfl))⟩
              · refine op_alloc zl_56 rfl (fun B4 => ?_)
                refine ⟨((hsub (.cons_cons _ (.cons _ (.cons _ (.cons _ (.refl _)))))).trans (hsub_pick [3] rfl)), ?_⟩
                refine H_one 11 rfl (by kernel_rfl) rfl (op_call rfl rfl (fun a w => Try.call26 a w) rfl ?_)
                refine ((new_v (f := 52) (cap := [ptr cb]) h81 hv1 (fun s hs => by rw [List.eq_of_mem_replicate hs, secOf_len]) (fun s hs => by rw [List.eq_of_mem_replicate hs, secOf_len])).sub (hsub_pick [2] rfl)).mono ?_
                rintro _ _ ⟨mb, m, hM, rfl, rfl⟩
                refine ⟨_, rfl, ?_⟩
                refine ⟨((hsub (.cons_cons _ (.cons _ (.cons _ (.cons _ (.cons _ (.refl _))))))).trans (hsub_pick [4] rfl)), ?_⟩
                refine H_one 15 rfl (by kernel_rfl) rfl (op_call rfl rfl (fun a w => Try.call25 a w) rfl ?_)
                refine ((lognew_s (zc := zc0) hM hm).sub (hsub_pick [0, 0] rfl)).mono ?_
                rintro _ _ ⟨lb, gb, hL, rfl, rfl⟩
                rw [← eL_z (sg := sg) (sz := sz) (by omega) (by omega) (by omega) (by omega)] at hL ⊢
                rw [← eB_0] at hL
                refine ⟨_, rfl, ?_⟩
                refine ⟨((hsub (.cons_cons _ (.cons _ (.cons _ (.cons _ (.cons _ (.cons _ (.cons _ (.refl _))))))))).trans (hsub_pick [6] rfl)), ?_⟩
                refine HY 16 rfl (((hsub (.cons_cons _ (.cons _ (.cons _ (.cons _ (.cons _ (.cons _ (.cons _ (.refl _))))))))).trans (hsub_pick [6] rfl))) rfl (y_move rfl) ?_
                refine HY 17 rfl (((hsub (.cons_cons _ (.cons _ (.cons _ (.cons _ (.cons _ (.cons _ (.cons _ (.refl _))))))))).trans (hsub_pick [6] rfl))) rfl (y_extract rfl rfl) ?_
                refine HY 18 rfl (((hsub (.cons_cons _ (.cons _ (.cons _ (.cons _ (.cons _ (.cons _ (.cons _ (.refl _))))))))).trans (hsub_pick [6] rfl))) rfl (y_extract rfl rfl) ?_
                refine H_one 20 rfl (by kernel_rfl) rfl (op_store1 4 0 rfl rfl rfl sz_56 rfl (Nat.le_of_ble_eq_true rfl) ?_)
                refine ⟨((hsub (.cons_cons _ (.cons _ (.cons _ (.cons _ (.cons _ (.cons _ (.cons _ (.refl _))))))))).trans (hsub_pick [6] rfl)), ?_⟩
                refine HY 21 rfl (((hsub (.cons_cons _ (.cons _ (.cons _ (.cons _ (.cons _ (.cons _ (.cons _ (.refl _))))))))).trans (hsub_pick [6] rfl))) rfl (y_assign rfl) ?_
                refine H_done (by kernel_rfl) ?_
                exact ⟨⟨D81, _, m, _, mb, _, _, _, lb, gb, cb, B4⟩, hL, ⟨rfl, rfl, rfl, rfl, trivial⟩, ((hsub (.cons_cons _ (.cons_cons _ (.cons_cons _ (.cons_cons _ (.cons_cons _ (.cons_cons _ (.cons_cons _ (.refl _))))))))).trans (hsub_pick [0, 0, 0, 0, 1, 0, 0] rfl))⟩
            · refine op_alloc zl_56 rfl (fun B5 => ?_)
              refine ⟨((hsub (.cons_cons _ (.cons _ (.cons _ (.refl _))))).trans (hsub_pick [2] rfl)), ?_⟩
              refine H_one 10 rfl (by kernel_rfl) rfl (op_call rfl rfl (fun a w => Try.call27 a w) rfl ?_)
              refine FnS.mono (good_s (_) rfl) ?_
              rintro _ _ ⟨cb, rfl, rfl⟩
              refine ⟨_, rfl, ?_⟩
              refine ⟨((hsub (.cons_cons _ (.cons _ (.cons _ (.cons _ (.refl _)))))).trans (hsub_pick [3] rfl)), ?_⟩
              refine H_one 11 rfl (by kernel_rfl) rfl (op_call rfl rfl (fun a w => Try.call26 a w) rfl ?_)
              refine ((new_v (f := 52) (cap := [ptr cb]) h81 hv1 (fun s hs => by rw [List.eq_of_mem_replicate hs, secOf_len]) (fun s hs => by rw [List.eq_of_mem_replicate hs, secOf_len])).sub (hsub_pick [2] rfl)).mono ?_
              rintro _ _ ⟨mb, m, hM, rfl, rfl⟩
              refine ⟨_, rfl, ?_⟩
              refine ⟨((hsub (.cons_cons _ (.cons _ (.cons _ (.cons _ (.cons _ (.refl _))))))).trans (hsub_pick [4] rfl)), ?_⟩
              refine H_one 15 rfl (by kernel_rfl) rfl (op_call rfl rfl (fun a w => Try.call25 a w) rfl ?_)
              refine ((lognew_s (zc := zc0) hM hm).sub (hsub_pick [0, 0] rfl)).mono ?_
              rintro _ _ ⟨lb, gb, hL, rfl, rfl⟩
              rw [← eL_z (sg := sg) (sz := sz) (by omega) (by omega) (by omega) (by omega)] at hL ⊢
              rw [← eB_0] at hL
              refine ⟨_, rfl, ?_⟩
              refine ⟨((hsub (.cons_cons _ (.cons _ (.cons _ (.cons _ (.cons _ (.cons _ (.cons _ (.refl _))))))))).trans (hsub_pick [6] rfl)), ?_⟩
              refine HY 16 rfl (((hsub (.cons_cons _ (.cons _ (.cons _ (.cons _ (.cons _ (.cons _ (.cons _ (.refl _))))))))).trans (hsub_pick [6] rfl))) rfl (y_move rfl) ?_
              refine HY 17 rfl (((hsub (.cons_cons _ (.cons _ (.cons _ (.cons _ (.cons _ (.cons _ (.cons _ (.refl _))))))))).trans (hsub_pick [6] rfl))) rfl (y_extract rfl rfl) ?_
              refine HY 18 rfl (((hsub (.cons_cons _ (.cons _ (.cons _ (.cons _ (.cons _ (.cons _ (.cons _ (.refl _))))))))).trans (hsub_pick [6] rfl))) rfl (y_extract rfl rfl) ?_
              refine H_one 20 rfl (by kernel_rfl) rfl (op_store1 5 0 rfl rfl rfl sz_56 rfl (Nat.le_of_ble_eq_true rfl) ?_)
              refine ⟨((hsub (.cons_cons _ (.cons _ (.cons _ (.cons _ (.cons _ (.cons _ (.cons _ (.refl _))))))))).trans (hsub_pick [6] rfl)), ?_⟩
              refine HY 21 rfl (((hsub (.cons_cons _ (.cons _ (.cons _ (.cons _ (.cons _ (.cons _ (.cons _ (.refl _))))))))).trans (hsub_pick [6] rfl))) rfl (y_assign rfl) ?_
              refine H_done (by kernel_rfl) ?_
              exact ⟨⟨D81, _, m, _, mb, _, _, _, lb, gb, cb, B5⟩, hL, ⟨rfl, rfl, rfl, rfl, trivial⟩, ((hsub (.cons_cons _ (.cons_cons _ (.cons_cons _ (.cons_cons _ (.cons_cons _ (.cons_cons _ (.cons_cons _ (.refl _))))))))).trans (hsub_pick [0, 0, 0, 0, 0, 0, 0] rfl))⟩
          · refine op_alloc zl_56 rfl (fun B6 => ?_)
            refine ⟨((hsub (.cons_cons _ (.cons _ (.cons _ (.cons _ (.cons _ (.cons _ (.cons _ (.refl _))))))))).trans (hsub_pick [6] rfl)), ?_⟩
            refine H_one 7 rfl (by kernel_rfl) rfl (op_call rfl rfl (fun a w => Try.call23 a w) rfl ?_)
            refine ((newtwo_d hG91 pb91 rfl ((2 + sg * sz : Nat) : Int)).sub (hsub_pick [1, 1, 1, 1, 1] rfl)).mono ?_
            rintro _ _ ⟨by82, D82, h82, rfl, rfl⟩
            replace h82 := h82.to (B := ⟨Ab.new (2 + sg * sz), Ab.new (2 + sg * sz), q0, none⟩) (by rw [hA91, hP91] <;> (rw [show szOf ((2 + sg * sz : Nat) : Int) = 2 + sg * sz from by unfold szOf; omega]))
            have hv2 : Vw ⟨Ab.new (2 + sg * sz), Ab.new (2 + sg * sz), q0, none⟩ (2 + sg * sz) (List.replicate (2 + sg * sz) (secOf 0)) (List.replicate (2 + sg * sz) (secOf 0)) 0 0 := Vw.new (by omega) none (.inl rfl)
            refine ⟨_, rfl, ?_⟩
            refine ⟨((hsub (.cons_cons _ (.cons _ (.cons _ (.refl _))))).trans (hsub_pick [2] rfl)), ?_⟩
            refine H_one 10 rfl (by kernel_rfl) rfl (op_call rfl rfl (fun a w => Try.call27 a w) rfl ?_)
            refine FnS.mono (good_s (_) rfl) ?_
            rintro _ _ ⟨cb, rfl, rfl⟩
            refine ⟨_, rfl, ?_⟩
            refine ⟨((hsub (.cons_cons _ (.cons _ (.cons _ (.cons _ (.refl _)))))).trans (hsub_pick [3] rfl)), ?_⟩
            refine H_one 11 rfl (by kernel_rfl) rfl (op_call rfl rfl (fun a w => Try.call26 a w) rfl ?_)
            refine ((new_v (f := 52) (cap := [ptr cb]) h82 hv2 (fun s hs => by rw [List.eq_of_mem_replicate hs, secOf_len]) (fun s hs => by rw [List.eq_of_mem_replicate hs, secOf_len])).sub (hsub_pick [1] rfl)).mono ?_
            rintro _ _ ⟨mb, m, hM, rfl, rfl⟩
            refine ⟨_, rfl, ?_⟩
            refine ⟨((hsub (.cons_cons _ (.cons _ (.cons _ (.cons _ (.cons _ (.refl _))))))).trans (hsub_pick [4] rfl)), ?_⟩
            refine H_one 15 rfl (by kernel_rfl) rfl (op_call rfl rfl (fun a w => Try.call25 a w) rfl ?_)
            refine ((lognew_s (zc := zc0) hM hm).sub (hsub_pick [0, 0] rfl)).mono ?_
            rintro _ _ ⟨lb, gb, hL, rfl, rfl⟩
            rw [← eL_z (sg := sg) (sz := sz) (by omega) (by omega) (by omega) (by omega)] at hL ⊢
            rw [← eB_0] at hL
            refine ⟨_, rfl, ?_⟩
            refine ⟨((hsub (.cons_cons _ (.cons _ (.cons _ (.cons _ (.cons _ (.cons _ (.cons _ (.refl _))))))))).trans (hsub_pick [6] rfl)), ?_⟩
            refine HY 16 rfl (((hsub (.cons_cons _ (.cons _ (.cons _ (.cons _ (.cons _ (.cons _ (.cons _ (.refl _))))))))).trans (hsub_pick [6] rfl))) rfl (y_move rfl) ?_
            refine HY 17 rfl (((hsub (.cons_cons _ (.cons _ (.cons _ (.cons _ (.cons _ (.cons _ (.cons _ (.refl _))))))))).trans (hsub_pick [6] rfl))) rfl (y_extract rfl rfl) ?_
            refine HY 18 rfl (((hsub (.cons_cons _ (.cons _ (.cons _ (.cons _ (.cons _ (.cons _ (.cons _ (.refl _))))))))).trans (hsub_pick [6] rfl))) rfl (y_extract rfl rfl) ?_
            refine H_one 20 rfl (by kernel_rfl) rfl (op_store1 5 0 rfl rfl rfl sz_56 rfl (Nat.le_of_ble_eq_true rfl) ?_)
            refine ⟨((hsub (.cons_cons _ (.cons _ (.cons _ (.cons _ (.cons _ (.cons _ (.cons _ (.refl _))))))))).trans (hsub_pick [6] rfl)), ?_⟩
            refine HY 21 rfl (((hsub (.cons_cons _ (.cons _ (.cons _ (.cons _ (.cons _ (.cons _ (.cons _ (.refl _))))))))).trans (hsub_pick [6] rfl))) rfl (y_assign rfl) ?_
            refine H_done (by kernel_rfl) ?_
            exact ⟨⟨D82, _, m, _, mb, _, _, _, lb, gb, cb, B6⟩, hL, ⟨rfl, rfl, rfl, rfl, trivial⟩, ((hsub (.cons_cons _ (.cons_cons _ (.cons_cons _ (.cons_cons _ (.cons_cons _ (.cons_cons _ (.cons_cons _ (.refl _))))))))).trans (hsub_pick [0, 0, 0, 0, 0, 0, 0] rfl))⟩
        · refine op_alloc zl_56 rfl (fun B7 => ?_)
          refine ⟨((hsub (.cons_cons _ (.cons _ (.cons _ (.cons _ (.cons _ (.cons _ (.cons _ (.refl _))))))))).trans (hsub_pick [6] rfl)), ?_⟩
          refine H_one 5 rfl (by kernel_rfl) rfl (op_call rfl rfl (fun a w => Try.call24 a w) rfl ?_)
          refine (sectors_s (sg : Int) (sz : Int) hm).mono ?_
          rintro _ _ ⟨rfl, e⟩
          obtain rfl := e.symm
          clear e
          rw [show (2 : Int) + (sg : Int) * (sz : Int) = ((2 + sg * sz : Nat) : Int) from by push_cast; rfl]
          refine ⟨_, rfl, ?_⟩
          refine ⟨((hsub (.cons_cons _ (.cons _ (.cons _ (.cons _ (.cons _ (.cons _ (.cons _ (.refl _))))))))).trans (hsub_pick [6] rfl)), ?_⟩
          refine H_one 7 rfl (by kernel_rfl) rfl (op_call rfl rfl (fun a w => Try.call23 a w) rfl ?_)
          refine ((newtwo_d hG91 pb91 rfl ((2 + sg * sz : Nat) : Int)).sub (hsub_pick [1, 1, 1, 1, 1] rfl)).mono ?_
          rintro _ _ ⟨by83, D83, h83, rfl, rfl⟩
          replace h83 := h83.to (B := ⟨Ab.new (2 + sg * sz), Ab.new (2 + sg * sz), q0, none⟩) (by rw [hA91, hP91] <;> (rw [show szOf ((2 + sg * sz : Nat) : Int) = 2 + sg * sz from by unfold szOf; omega]))
          have hv3 : Vw ⟨Ab.new (2 + sg * sz), Ab.new (2 + sg * sz), q0, none⟩ (2 + sg * sz) (List.replicate (2 + sg * sz) (secOf 0)) (List.replicate (2 + sg * sz) (secOf 0)) 0 0 := Vw.new (by omega) none (.inl rfl)
          refine ⟨_, rfl, ?_⟩
          refine ⟨((hsub (.cons_cons _ (.cons _ (.cons _ (.refl _))))).trans (hsub_pick [2] rfl)), ?_⟩
          refine H_one 10 rfl (by kernel_rfl) rfl (op_call rfl rfl (fun a w => Try.call27 a w) rfl ?_)
          refine FnS.mono (good_s (_) rfl) ?_
          rintro _ _ ⟨cb, rfl, rfl⟩
          refine ⟨_, rfl, ?_⟩
          refine ⟨((hsub (.cons_cons _ (.cons _ (.cons _ (.cons _ (.refl _)))))).trans (hsub_pick [3] rfl)), ?_⟩
          refine H_one 11 rfl (by kernel_rfl) rfl (op_call rfl rfl (fun a w => Try.call26 a w) rfl ?_)
          refine ((new_v (f := 52) (cap := [ptr cb]) h83 hv3 (fun s hs => by rw [List.eq_of_mem_replicate hs, secOf_len]) (fun s hs => by rw [List.eq_of_mem_replicate hs, secOf_len])).sub (hsub_pick [1] rfl)).mono ?_
          rintro _ _ ⟨mb, m, hM, rfl, rfl⟩
          refine ⟨_, rfl, ?_⟩
          refine ⟨((hsub (.cons_cons _ (.cons _ (.cons _ (.cons _ (.cons _ (.refl _))))))).trans (hsub_pick [4] rfl)), ?_⟩
          refine H_one 15 rfl (by kernel_rfl) rfl (op_call rfl rfl (fun a w => Try.call25 a w) rfl ?_)
          refine ((lognew_s (zc := zc0) hM hm).sub (hsub_pick [0, 0] rfl)).mono ?_
          rintro _ _ ⟨lb, gb, hL, rfl, rfl⟩
          rw [← eL_z (sg := sg) (sz := sz) (by omega) (by omega) (by omega) (by omega)] at hL ⊢
          rw [← eB_0] at hL
          refine ⟨_, rfl, ?_⟩
          refine ⟨((hsub (.cons_cons _ (.cons _ (.cons _ (.cons _ (.cons _ (.cons _ (.cons _ (.refl _))))))))).trans (hsub_pick [6] rfl)), ?_⟩
          refine HY 16 rfl (((hsub (.cons_cons _ (.cons _ (.cons _ (.cons _ (.cons _ (.cons _ (.cons _ (.refl _))))))))).trans (hsub_pick [6] rfl))) rfl (y_move rfl) ?_
          refine HY 17 rfl (((hsub (.cons_cons _ (.cons _ (.cons _ (.cons _ (.cons _ (.cons _ (.cons _ (.refl _))))))))).trans (hsub_pick [6] rfl))) rfl (y_extract rfl rfl) ?_
          refine HY 18 rfl (((hsub (.cons_cons _ (.cons _ (.cons _ (.cons _ (.cons _ (.cons _ (.cons _ (.refl _))))))))).trans (hsub_pick [6] rfl))) rfl (y_extract rfl rfl) ?_
          refine H_one 20 rfl (by kernel_rfl) rfl (op_store1 5 0 rfl rfl rfl sz_56 rfl (Nat.le_of_ble_eq_true rfl) ?_)
          refine ⟨((hsub (.cons_cons _ (.cons _ (.cons _ (.cons _ (.cons _ (.cons _ (.cons _ (.refl _))))))))).trans (hsub_pick [6] rfl)), ?_⟩
          refine HY 21 rfl (((hsub (.cons_cons _ (.cons _ (.cons _ (.cons _ (.cons _ (.cons _ (.cons _ (.refl _))))))))).trans (hsub_pick [6] rfl))) rfl (y_assign rfl) ?_
          refine H_done (by kernel_rfl) ?_
          exact ⟨⟨D83, _, m, _, mb, _, _, _, lb, gb, cb, B7⟩, hL, ⟨rfl, rfl, rfl, rfl, trivial⟩, ((hsub (.cons_cons _ (.cons_cons _ (.cons_cons _ (.cons_cons _ (.cons_cons _ (.cons_cons _ (.cons_cons _ (.refl _))))))))).trans (hsub_pick [0, 0, 0, 0, 0, 0, 0] rfl))⟩
      · refine op_alloc zl_56 rfl (fun B8 => ?_)
        refine ⟨((hsub (.cons_cons _ (.cons _ (.cons _ (.cons _ (.refl _)))))).trans (hsub_pick [3] rfl)), ?_⟩
        refine H_one 3 rfl (by kernel_rfl) rfl (op_call rfl rfl (fun a w => Try.call23 a w) rfl ?_)
        refine ((new_l (H := (_ :: _ :: H)) (rfl : p1.b = _) hpk1 hdv1 ((2 + sg * sz : Nat) : Int)).sub (hsub_pick [1, 1] rfl)).mono ?_
        rintro _ _ ⟨d92, p92, hG92, pb92, ha92, hq92, rfl, rfl⟩
        have hA92 : d92.a = Ab.new (2 + sg * sz) := by rw [ha92] <;> (rw [show szOf ((2 + sg * sz : Nat) : Int) = 2 + sg * sz from by unfold szOf; omega])
        have hP92 : p92.a = _ := hq92.trans hP1
        have hb92 : d92.b = d92.b := rfl
        refine ⟨_, rfl, ?_⟩
        refine ⟨((hsub (.cons_cons _ (.cons _ (.cons _ (.cons _ (.cons _ (.cons _ (.cons _ (.refl _))))))))).trans (hsub_pick [6] rfl)), ?_⟩
        refine H_one 5 rfl (by kernel_rfl) rfl (op_call rfl rfl (fun a w => Try.call24 a w) rfl ?_)
        refine (sectors_s (sg : Int) (sz : Int) hm).mono ?_
        rintro _ _ ⟨rfl, e⟩
        obtain rfl := e.symm
        clear e
        rw [show (2 : Int) + (sg : Int) * (sz : Int) = ((2 + sg * sz : Nat) : Int) from by push_cast; rfl]
        refine ⟨_, rfl, ?_⟩
        refine ⟨((hsub (.cons_cons _ (.cons _ (.cons _ (.cons _ (.cons _ (.cons _ (.cons _ (.refl _))))))))).trans (hsub_pick [6] rfl)), ?_⟩
        refine H_one 7 rfl (by kernel_rfl) rfl (op_call rfl rfl (fun a w => Try.call23 a w) rfl ?_)
        refine ((newtwo_d hG92 pb92 rfl ((2 + sg * sz : Nat) : Int)).sub (hsub_pick [0, 0, 0, 0, 0] rfl)).mono ?_
        rintro _ _ ⟨by84, D84, h84, rfl, rfl⟩
        replace h84 := h84.to (B := ⟨Ab.new (2 + sg * sz), Ab.new (2 + sg * sz), q0, none⟩) (by rw [hA92, hP92] <;> (rw [show szOf ((2 + sg * sz : Nat) : Int) = 2 + sg * sz from by unfold szOf; omega]))
        have hv4 : Vw ⟨Ab.new (2 + sg * sz), Ab.new (2 + sg * sz), q0, none⟩ (2 + sg * sz) (List.replicate (2 + sg * sz) (secOf 0)) (List.replicate (2 + sg * sz) (secOf 0)) 0 0 := Vw.new (by omega) none (.inl rfl)
        refine ⟨_, rfl, ?_⟩
        refine ⟨((hsub (.cons_cons _ (.cons _ (.cons _ (.refl _))))).trans (hsub_pick [2] rfl)), ?_⟩
        refine H_one 10 rfl (by kernel_rfl) rfl (op_call rfl rfl (fun a w => Try.call27 a w) rfl ?_)
        refine FnS.mono (good_s (_) rfl) ?_
        rintro _ _ ⟨cb, rfl, rfl⟩
        refine ⟨_, rfl, ?_⟩
        refine ⟨((hsub (.cons_cons _ (.cons _ (.cons _ (.cons _ (.refl _)))))).trans (hsub_pick [3] rfl)), ?_⟩
        refine H_one 11 rfl (by kernel_rfl) rfl (op_call rfl rfl (fun a w => Try.call26 a w) rfl ?_)
        refine ((new_v (f := 52) (cap := [ptr cb]) h84 hv4 (fun s hs => by rw [List.eq_of_mem_replicate hs, secOf_len]) (fun s hs => by rw [List.eq_of_mem_replicate hs, secOf_len])).sub (hsub_pick [1] rfl)).mono ?_
        rintro _ _ ⟨mb, m, hM, rfl, rfl⟩
        refine ⟨_, rfl, ?_⟩
        refine ⟨((hsub (.cons_cons _ (.cons _ (.cons _ (.cons _ (.cons _ (.refl _))))))).trans (hsub_pick [4] rfl)), ?_⟩
        refine H_one 15 rfl (by kernel_rfl) rfl (op_call rfl rfl (fun a w => Try.call25 a w) rfl ?_)
        refine ((lognew_s (zc := zc0) hM hm).sub (hsub_pick [0, 0] rfl)).mono ?_
        rintro _ _ ⟨lb, gb, hL, rfl, rfl⟩
        rw [← eL_z (sg := sg) (sz := sz) (by omega) (by omega) (by omega) (by omega)] at hL ⊢
        rw [← eB_0] at hL
        refine ⟨_, rfl, ?_⟩
        refine ⟨((hsub (.cons_cons _ (.cons _ (.cons _ (.cons _ (.cons _ (.cons _ (.cons _ (.refl _))))))))).trans (hsub_pick [6] rfl)), ?_⟩
        refine HY 16 rfl (((hsub (.cons_cons _ (.cons _ (.cons _ (.cons _ (.cons _ (.cons _ (.cons _ (.refl _))))))))).trans (hsub_pick [6] rfl))) rfl (y_move rfl) ?_
        refine HY 17 rfl (((hsub (.cons_cons _ (.cons _ (.cons _ (.cons _ (.cons _ (.cons _ (.cons _ (.refl _))))))))).trans (hsub_pick [6] rfl))) rfl (y_extract rfl rfl) ?_
        refine HY 18 rfl (((hsub (.cons_cons _ (.cons _ (.cons _ (.cons _ (.cons _ (.cons _ (.cons _ (.refl _))))))))).trans (hsub_pick [6] rfl))) rfl (y_extract rfl rfl) ?_
        refine H_one 20 rfl (by kernel_rfl) rfl (op_store1 5 0 rfl rfl rfl sz_56 rfl (Nat.le_of_ble_eq_true rfl) ?_)
        refine ⟨((hsub (.cons_cons _ (.cons _ (.cons _ (.cons _ (.cons _ (.cons _ (.cons _ (.refl _))))))))).trans (hsub_pick [6] rfl)), ?_⟩
        refine HY 21 rfl (((hsub (.cons_cons _ (.cons _ (.cons _ (.cons _ (.cons _ (.cons _ (.cons _ (.refl _))))))))).trans (hsub_pick [6] rfl))) rfl (y_assign rfl) ?_
        refine H_done (by kernel_rfl) ?_
        exact ⟨⟨D84, _, m, _, mb, _, _, _, lb, gb, cb, B8⟩, hL, ⟨rfl, rfl, rfl, rfl, trivial⟩, ((hsub (.cons_cons _ (.cons_cons _ (.cons_cons _ (.cons_cons _ (.cons_cons _ (.cons_cons _ (.cons_cons _ (.refl _))))))))).trans (hsub_pick [0, 0, 0, 0, 0, 0, 0] rfl))⟩
    · refine op_alloc zl_56 rfl (fun B9 => ?_)
      refine ⟨((hsub (.cons_cons _ (.cons _ (.cons _ (.cons _ (.refl _)))))).trans (hsub_pick [3] rfl)), ?_⟩
      refine H_one 1 rfl (by kernel_rfl) rfl (op_call rfl rfl (fun a w => Try.call24 a w) rfl ?_)
      refine (sectors_s (sg : Int) (sz : Int) hm).mono ?_
      rintro _ _ ⟨rfl, e⟩
      obtain rfl := e.symm
      clear e
      rw [show (2 : Int) + (sg : Int) * (sz : Int) = ((2 + sg * sz : Nat) : Int) from by push_cast; rfl]
      refine ⟨_, rfl, ?_⟩
      refine ⟨((hsub (.cons_cons _ (.cons _ (.cons _ (.cons _ (.refl _)))))).trans (hsub_pick [3] rfl)), ?_⟩
      refine H_one 3 rfl (by kernel_rfl) rfl (op_call rfl rfl (fun a w => Try.call23 a w) rfl ?_)
      refine ((new_l (H := (_ :: _ :: H)) (rfl : p1.b = _) hpk1 hdv1 ((2 + sg * sz : Nat) : Int)).sub (hsub_pick [1, 1] rfl)).mono ?_
      rintro _ _ ⟨d93, p93, hG93, pb93, ha93, hq93, rfl, rfl⟩
      have hA93 : d93.a = Ab.new (2 + sg * sz) := by rw [ha93] <;> (rw [show szOf ((2 + sg * sz : Nat) : Int) = 2 + sg * sz from by unfold szOf; omega])
      have hP93 : p93.a = _ := hq93.trans hP1
      have hb93 : d93.b = d93.b := rfl
      refine ⟨_, rfl, ?_⟩
      refine ⟨((hsub (.cons_cons _ (.cons _ (.cons _ (.cons _ (.cons _ (.cons _ (.cons _ (.refl _))))))))).trans (hsub_pick [6] rfl)), ?_⟩
      refine H_one 5 rfl (by kernel_rfl) rfl (op_call rfl rfl (fun a w => Try.call24 a w) rfl ?_)
      refine (sectors_s (sg : Int) (sz : Int) hm).mono ?_
      rintro _ _ ⟨rfl, e⟩
      obtain rfl := e.symm
      clear e
      rw [show (2 : Int) + (sg : Int) * (sz : Int) = ((2 + sg * sz : Nat) : Int) from by push_cast; rfl]
      refine ⟨_, rfl, ?_⟩
      refine ⟨((hsub (.cons_cons _ (.cons _ (.cons _ (.cons _ (.cons _ (.cons _ (.cons _ (.refl _))))))))).trans (hsub_pick [6] rfl)), ?_⟩
      refine H_one 7 rfl (by kernel_rfl) rfl (op_call rfl rfl (fun a w => Try.call23 a w) rfl ?_)
      refine ((newtwo_d hG93 pb93 rfl ((2 + sg * sz : Nat) : Int)).sub (hsub_pick [0, 0, 0, 0, 0] rfl)).mono ?_
      rintro _ _ ⟨by85, D85, h85, rfl, rfl⟩
      replace h85 := h85.to (B := ⟨Ab.new (2 + sg * sz), Ab.new (2 + sg * sz), q0, none⟩) (by rw [hA93, hP93] <;> (rw [show szOf ((2 + sg * sz : Nat) : Int) = 2 + sg * sz from by unfold szOf; omega]))
      have hv5 : Vw ⟨Ab.new (2 + sg * sz), Ab.new (2 + sg * sz), q0, none⟩ (2 + sg * sz) (List.replicate (2 + sg * sz) (secOf 0)) (List.replicate (2 + sg * sz) (secOf 0)) 0 0 := Vw.new (by omega) none (.inl rfl)
      refine ⟨_, rfl, ?_⟩
      refine ⟨((hsub (.cons_cons _ (.cons _ (.cons _ (.refl _))))).trans (hsub_pick [2] rfl)), ?_⟩
      refine H_one 10 rfl (by kernel_rfl) rfl (op_call rfl rfl (fun a w => Try.call27 a w) rfl ?_)
      refine FnS.mono (good_s (_) rfl) ?_
      rintro _ _ ⟨cb, rfl, rfl⟩
      refine ⟨_, rfl, ?_⟩
      refine ⟨((hsub (.cons_cons _ (.cons _ (.cons _ (.cons _ (.refl _)))))).trans (hsub_pick [3] rfl)), ?_⟩
      refine H_one 11 rfl (by kernel_rfl) rfl (op_call rfl rfl (fun a w => Try.call26 a w) rfl ?_)
      refine ((new_v (f := 52) (cap := [ptr cb]) h85 hv5 (fun s hs => by rw [List.eq_of_mem_replicate hs, secOf_len]) (fun s hs => by rw [List.eq_of_mem_replicate hs, secOf_len])).sub (hsub_pick [1] rfl)).mono ?_
      rintro _ _ ⟨mb, m, hM, rfl, rfl⟩
      refine ⟨_, rfl, ?_⟩
      refine ⟨((hsub (.cons_cons _ (.cons _ (.cons _ (.cons _ (.cons _ (.refl _))))))).trans (hsub_pick [4] rfl)), ?_⟩
      refine H_one 15 rfl (by kernel_rfl) rfl (op_call rfl rfl (fun a w => Try.call25 a w) rfl ?_)
      refine ((lognew_s (zc := zc0) hM hm).sub (hsub_pick [0, 0] rfl)).mono ?_
      rintro _ _ ⟨lb, gb, hL, rfl, rfl⟩
      rw [← eL_z (sg := sg) (sz := sz) (by omega) (by omega) (by omega) (by omega)] at hL ⊢
      rw [← eB_0] at hL
      refine ⟨_, rfl, ?_⟩
      refine ⟨((hsub (.cons_cons _ (.cons _ (.cons _ (.cons _ (.cons _ (.cons _ (.cons _ (.refl _))))))))).trans (hsub_pick [6] rfl)), ?_⟩
      refine HY 16 rfl (((hsub (.cons_cons _ (.cons _ (.cons _ (.cons _ (.cons _ (.cons _ (.cons _ (.refl _))))))))).trans (hsub_pick [6] rfl))) rfl (y_move rfl) ?_
      refine HY 17 rfl (((hsub (.cons_cons _ (.cons _ (.cons _ (.cons _ (.cons _ (.cons _ (.cons _ (.refl _))))))))).trans (hsub_pick [6] rfl))) rfl (y_extract rfl rfl) ?_
      refine HY 18 rfl (((hsub (.cons_cons _ (.cons _ (.cons _ (.cons _ (.cons _ (.cons _ (.cons _ (.refl _))))))))).trans (hsub_pick [6] rfl))) rfl (y_extract rfl rfl) ?_
      refine H_one 20 rfl (by kernel_rfl) rfl (op_store1 5 0 rfl rfl rfl sz_56 rfl (Nat.le_of_ble_eq_true rfl) ?_)
      refine ⟨((hsub (.cons_cons _ (.cons _ (.cons _ (.cons _ (.cons _ (.cons _ (.cons _ (.refl _))))))))).trans (hsub_pick [6] rfl)), ?_⟩
      refine HY 21 rfl (((hsub (.cons_cons _ (.cons _ (.cons _ (.cons _ (.cons _ (.cons _ (.cons _ (.refl _))))))))).trans (hsub_pick [6] rfl))) rfl (y_assign rfl) ?_
      refine H_done (by kernel_rfl) ?_
      exact ⟨⟨D85, _, m, _, mb, _, _, _, lb, gb, cb, B9⟩, hL, ⟨rfl, rfl, rfl, rfl, trivial⟩, ((hsub (.cons_cons _ (.cons_cons _ (.cons_cons _ (.cons_cons _ (.cons_cons _ (.cons_cons _ (.cons_cons _ (.refl _))))))))).trans (hsub_pick [0, 0, 0, 0, 0, 0, 0] rfl))⟩
  · skip
    refine C_seq (C_seq (C_region (LY rfl (y_move rfl) ?_)))
    refine LY rfl (y_nei rfl rfl) ?_
    refine L_nil (C_cond_f rfl (C_skip (C_seq (C_region ?_))))
    refine LY rfl (y_loadA rfl ag_23 sz_23 (sees 6 0 rfl) (Nat.le_of_ble_eq_true rfl) (show _ = [Value.int .i64 (sg : Int), .int .i64 (sz : Int)] from rfl)) ?_
    refine L_op rfl (op_call rfl rfl (fun a w => Try.call28 a w) rfl ?_)
    refine (xnew_s (sg : Int) (sz : Int)).mono ?_
    rintro _ _ ⟨o, rfl, rfl⟩
    refine ⟨_, rfl, ?_⟩
    refine LY rfl (y_assign rfl) (L_nil (C_seq (C_region (LY rfl (y_fieldAddr rfl fl_23_0) (LY rfl (y_load rfl ag_3 (sees 7 0 rfl) rfl) ?_)))))
    refine LY rfl (y_sub rfl rfl (show _ = ((sg - 1 : Nat) : Int) from by rw [wi64 (by omega) (by omega)]; omega)) ?_
    refine LY rfl (y_fieldAddr rfl fl_23_1) (LY rfl (y_load rfl ag_3 (sees 7 0 rfl) rfl) ?_)
    refine LY rfl (y_mul rfl rfl (show _ = (n : Int) from by rw [show ((sg - 1 : Nat) : Int) * (sz : Int) = (n : Int) from by rw [hn]; push_cast; rfl]; exact wi64 (by omega) (by omega))) ?_
    refine LY rfl (y_assign rfl) (L_nil (C_seq (C_seq (C_region (LY rfl (y_move rfl) (LY rfl (y_move rfl) (L_nil (C_block ?_))))))))
    refine C_loop (ι := Duo × Da × List Sec × Gm × Gm × Nat) (fun i => [(2, .slice pl lv.length cl), (7, ptr B1), (9, ptr z.tb), (11, ptr o.b), (12, .int .i64 (n : Int)), (83, .int .i64 (n : Int)), (84, .int .i64 (i.2.2.2.2.2 : Int))]) (fun i => o.seg 90 (sg : Int) (sz : Int) i.2.2.2.1 i.2.2.2.2.1 :: LGS z.lb z.mb z.gb zc0 sg sz (eL sg sz i.2.2.2.2.2) z.m i.1 ([(z.cb, .cells [.iface 67 (.agg zc0.toArray)].toArray 103)] :: [(z.tb, .cells [ptr z.lb].toArray 56)] :: [(B1, .cells [Value.int .i64 (sg : Int), .int .i64 (sz : Int)].toArray 23)] :: H)) (fun i => Xm (sg : Int) (sz : Int) (cX lv i.2.2.2.2.2) i.2.2.2.1 i.2.2.2.2.1 ∧ Lst dt (.func (.func 52) #[] #[ptr z.cb]) sg sz i.1 i.2.1 z.m i.2.2.1 i.2.2.2.2.2 z.mb z.bx z.bys z.bp (eL sg sz i.2.2.2.2.2) (eB i.2.2.2.2.2) ∧ i.2.2.2.2.2 ≤ n) (fun i => n - i.2.2.2.2.2) (z.D, z.A, z.X, Gm.new, Gm.new, 0) ⟨Xm.new _ _, hz, Nat.zero_le _⟩ ⟨rfl, rfl, rfl, rfl, rfl, rfl, rfl, trivial⟩ ((hsub (.cons_cons _ (.cons_cons _ (.cons_cons _ (.cons_cons _ (.cons_cons _ (.cons_cons _ (.cons_cons _ (.cons_cons _ (.refl _)))))))))).trans (hsub_pick [0, 0, 0, 0, 0, 0, 0, 0] rfl)) (fun i hi => ?_)
    obtain ⟨D, A, X, MA, ML, i⟩ := i
    obtain ⟨hX, hT, hi⟩ := hi
    simp only at hX hT hi
    dsimp only
    refine C_seq (C_region (LY rfl (y_lss rfl rfl) (L_nil (C_seq ?_))))
    refine C_cond rfl (fun hc2 => ?_) (fun hc2 => ?_)
    · replace hc2 : i < n := by have := of_decide_eq_true hc2; omega
      have hlt : i < sg * sz := by omega
      have hat : 2 + i / sz * sz + i % sz = 2 + i := by have := Nat.div_add_mod' i sz; omega
      refine C_skip (C_seq (C_block (C_seq (C_region (LY rfl (y_move rfl) (LY rfl (y_assign rfl) (L_nil (C_seq (C_region (LY rfl (y_load rfl ag_56 (sees 6 0 rfl) rfl) (LY rfl (y_move rfl) ?_)))))))))))
      refine LY rfl (y_conv rfl us_3 Try.underlying5 (w8n (by omega))) ?_
      refine L_op rfl (op_buildSlice (vs := [(0, _)]) rfl Try.underlying71 sz_5 zl_5 rfl (by decide) rfl rfl (fun B10 => ?_))
      refine L_op rfl (op_call rfl rfl (fun a w => Try.call29 a w) rfl ?_)
      refine ((append_s hT (by omega) (body := [UInt8.ofNat i]) (holds_slice (sees 0 0 rfl) (by first | exact Nat.le_of_ble_eq_true rfl | simp) rfl) (by simp) (eL_step (by omega) (by omega) (by omega) (by omega) hlt).1).sub (hsub_pick [2, 2, 2, 2] rfl)).mono ?_
      rintro _ _ ⟨rfl, D2, A2, hL2, rfl⟩
      rw [hat, (eL_step (by omega) (by omega) (by omega) (by omega) hlt).2, eB_step] at hL2
      rw [hat, (eL_step (by omega) (by omega) (by omega) (by omega) hlt).2]
      refine ⟨_, rfl, ?_⟩
      refine LY rfl (y_move rfl) (LY rfl (y_extract rfl rfl) (LY rfl (y_extract rfl rfl) (LY rfl (y_assign rfl) (LY rfl (y_assign rfl) (L_nil (C_seq (C_region (LY rfl (y_move rfl) ?_))))))))
      refine LY rfl (y_nei rfl rfl) ?_
      refine LY rfl (y_move rfl) (LY rfl (y_move rfl) (LY rfl (y_move rfl) ?_))
      refine LY rfl (y_lenS rfl rfl Try.underlying25) ?_
      refine LY rfl (y_lss rfl rfl) (LY rfl (y_move rfl) ?_)
      refine L_case 102 rfl (fun hg14_8 => ?_) (fun hg14_8 => ?_)
      · replace hg14_8 : i < lv.length := by have := of_decide_eq_true hg14_8; omega
        obtain ⟨b2, o2, l2, T2, fr2, rfl, hs2, hle2, hv2⟩ := hI (by rw [bos_len]; omega)
        rw [bos_len] at hle2
        refine LY rfl (y_move rfl) (LY rfl (y_move rfl) ?_)
        refine LY rfl (y_indexS rfl rfl Try.underlying25 sz_4 (by omega) (by omega) (show _ = o2 + i * 1 from by simp)) ?_
        refine LY rfl (y_load rfl ag_4 (hs2.up.up.up.up.up.up.up.up.up) (show _ = some (Value.bool (lv.getD i false)) from bos_hat hv2 hg14_8)) ?_
        refine LY rfl (y_pick_t rfl rfl) (LY rfl (y_move rfl) ?_)
        refine L_case 108 rfl (fun hg14_14 => ?_) (fun hg14_14 => ?_)
        · have hlv : lv.getD i false = true := hg14_14
          refine LY rfl (y_move rfl) (LY rfl (y_move rfl) ?_)
          refine LY rfl (y_add rfl rfl (show _ = ((i + 1 : Nat) : Int) from by rw [wi64 (by omega) (by omega)]; omega)) ?_
          refine LY rfl (y_conv rfl us_3 Try.underlying48 (wu64 (by omega) (by omega))) ?_
          refine LY rfl (y_move rfl) ?_
          refine L_op rfl (op_call rfl rfl (fun a w => Try.call30 a w) rfl ?_)
          refine ((xput_s hX (i + 1) (by omega) ((2 + i : Nat) : Int) (by have := cX_len lv i; omega)).sub (hsub_pick [5] rfl)).mono ?_
          rintro _ _ ⟨rfl, A3, L3, hX3, rfl⟩
          rw [cX_put hm hlt hlv] at hX3
          rw [cX_put hm hlt hlv]
          refine ⟨_, rfl, ?_⟩
          refine LY rfl (y_nei rfl rfl) ?_
          refine LY rfl (y_pick_t rfl rfl) (LY rfl (y_pick_f rfl rfl) (L_nil (C_cond_f rfl (C_skip (C_region ?_)))))
          refine LY rfl (y_add rfl rfl (wi64 (by omega) (by omega))) ?_
          refine LY rfl (y_move rfl) (L_nil ?_)
          exact ⟨(D2, A2, _, A3, L3, i + 1), ⟨hX3, hL2, by simp only; omega⟩, by simp only; omega, ⟨rfl, rfl, rfl, rfl, rfl, rfl, rfl, trivial⟩, ((hsub (.cons_cons _ (.cons_cons _ (.cons_cons _ (.cons_cons _ (.cons_cons _ (.cons_cons _ (.cons_cons _ (.cons_cons _ (.cons _ (.refl _))))))))))).trans (hsub_pick [0, 0, 0, 0, 0, 1, 1, 1] rfl))⟩
        · have hcx : cX lv (i + 1) = cX lv i := by rw [cX_succ, hg14_14]; rfl
          rw [← hcx] at hX
          refine L_skip rfl rfl (L_skip rfl rfl (L_skip rfl rfl (L_skip rfl rfl (L_skip rfl rfl (L_skip rfl rfl (L_skip rfl rfl (LY rfl (y_pick_f rfl rfl) (LY rfl (y_pick_f rfl rfl) (L_nil (C_cond_f rfl (C_skip (C_region ?_))))))))))))
          refine LY rfl (y_add rfl rfl (wi64 (by omega) (by omega))) ?_
          refine LY rfl (y_move rfl) (L_nil ?_)
          exact ⟨(D2, A2, _, MA, ML, i + 1), ⟨hX, hL2, by simp only; omega⟩, by simp only; omega, ⟨rfl, rfl, rfl, rfl, rfl, rfl, rfl, trivial⟩, ((hsub (.cons_cons _ (.cons_cons _ (.cons_cons _ (.cons_cons _ (.cons_cons _ (.cons_cons _ (.cons_cons _ (.cons_cons _ (.cons _ (.refl _))))))))))).trans (hsub_pick [5, 0, 0, 0, 0, 1, 1, 1] rfl))⟩
      · have hcx : cX lv (i + 1) = cX lv i := by rw [cX_succ, if_neg (by have := of_decide_eq_false hg14_8; simp [List.getD, List.getElem?_eq_none (show lv.length ≤ i by omega)])]
        rw [← hcx] at hX
        refine L_skip rfl rfl (L_skip rfl rfl (L_skip rfl rfl (L_skip rfl rfl (LY rfl (y_pick_f rfl rfl) (LY rfl (y_move rfl) (L_skip rfl rfl (L_skip rfl rfl (L_skip rfl rfl (L_skip rfl rfl (L_skip rfl rfl (L_skip rfl rfl (L_skip rfl rfl (LY rfl (y_pick_f rfl rfl) (LY rfl (y_pick_f rfl rfl) (L_nil (C_cond_f rfl (C_skip (C_region ?_))))))))))))))))))
        refine LY rfl (y_add rfl rfl (wi64 (by omega) (by omega))) ?_
        refine LY rfl (y_move rfl) (L_nil ?_)
        exact ⟨(D2, A2, _, MA, ML, i + 1), ⟨hX, hL2, by simp only; omega⟩, by simp only; omega, ⟨rfl, rfl, rfl, rfl, rfl, rfl, rfl, trivial⟩, ((hsub (.cons_cons _ (.cons_cons _ (.cons_cons _ (.cons_cons _ (.cons_cons _ (.cons_cons _ (.cons_cons _ (.cons_cons _ (.cons _ (.refl _))))))))))).trans (hsub_pick [5, 0, 0, 0, 0, 1, 1, 1] rfl))⟩
    · obtain ⟨rfl⟩ : n = i := by have := of_decide_eq_false hc2; omega
      have hcl : eL sg sz n = cL sg sz 0 := by rw [hn]; rfl
      rw [hcl] at hT ⊢
      refine C_exit (C_seq (C_region (LY rfl (y_load rfl ag_56 (sees 6 0 rfl) rfl) ?_)))
      refine L_op rfl (op_call rfl rfl (fun a w => Try.call35 a w) rfl ?_)
      refine ((head_s hT (cL_head (by omega) (by omega) (by omega) (by omega)).1).sub (hsub_pick [1, 1, 1, 1] rfl)).mono ?_
      rintro _ _ ⟨rfl, rfl⟩
      refine ⟨_, rfl, ?_⟩
      refine LY rfl (y_move rfl) (LY rfl (y_extract rfl rfl) (LY rfl (y_extract rfl rfl) (LY rfl (y_assign rfl) (LY rfl (y_assign rfl) (L_nil (C_seq ?_))))))
      refine C_regionH0 (by kernel_rfl) ?_
      refine HY 0 rfl (HSub.refl _) rfl (y_move rfl) ?_
      refine HY 2 rfl (HSub.refl _) rfl (y_load rfl ag_56 (sees 6 0 rfl) rfl) ?_
      refine H_one 1 rfl (by kernel_rfl) rfl (op_call rfl rfl (fun a w => Try.call15 a w) rfl ?_)
      refine ((xlen_s hX).sub (hsub_pick [4] rfl)).mono ?_
      rintro _ _ ⟨rfl, rfl⟩
      refine ⟨_, rfl, ?_⟩
      refine ⟨((hsub (.cons_cons _ (.cons_cons _ (.cons_cons _ (.cons_cons _ (.cons_cons _ (.cons_cons _ (.cons_cons _ (.cons_cons _ (.refl _)))))))))).trans (hsub_pick [1, 1, 1, 1, 0, 0, 0, 0] rfl)), ?_⟩
      refine H_one 3 rfl (by kernel_rfl) rfl (op_call rfl rfl (fun a w => Try.call36 a w) rfl ?_)
      refine ((room_s hT (cL_head (by omega) (by omega) (by omega) (by omega)).1).sub (hsub_pick [1, 1, 1, 1] rfl)).mono ?_
      rintro _ _ ⟨rfl, rfl⟩
      rw [cL_room (by omega) (by omega) (by omega) (by omega)]
      refine ⟨_, rfl, ?_⟩
      refine ⟨HSub.refl _, ?_⟩
      refine HY 4 rfl (HSub.refl _) rfl (y_assign rfl) ?_
      refine HY 5 rfl (HSub.refl _) rfl (y_assign rfl) ?_
      refine H_done (by kernel_rfl) ?_
      refine C_seq (C_region (LY rfl (y_move rfl) ?_))
      refine LY rfl (y_makeFunc rfl rfl) ?_
      refine LY rfl (y_move rfl) ?_
      refine L_op rfl (op_call rfl rfl (fun a w => Try.call11 a w) rfl ?_)
      refine ((choose_y hX (fu := 37) (cu := [ptr z.tb]) (p := fun k => decide (k < sg - 1)) ((sg - 2 : Nat) : Int) (fun a w => Try.call37 a w) (fun k hk H1 hs => by have := carried1_s (w0 := w0) (H := H1) (zc := zc0) (l := cL sg sz 0) (sg := sg) (sz := sz) (mb := z.mb) (tb := z.tb) ((sees 5 0 rfl).sub hs) ((sees 0 0 rfl).sub hs) ((sees 1 0 rfl).sub hs) (cL_gen (by omega) (by omega) (by omega) (by omega) (s := k) (by omega)); rw [show decide (0 < (if k < sg - 1 then k + 1 else 0)) = decide (k < sg - 1) from by by_cases e : k < sg - 1 <;> simp [e]] at this; exact this) hm hv (by have := cX_len lv n; omega)).sub (hsub_pick [4] rfl)).mono ?_
      rintro _ _ ⟨gn, hgn, rfl, rfl⟩
      refine ⟨_, rfl, ?_⟩
      refine LY rfl (y_move rfl) (LY rfl (y_extract rfl rfl) (LY rfl (y_extract rfl rfl) ?_))
      refine L_op rfl (op_alloc zl_35 rfl (fun B11 => ?_))
      refine L_op rfl (op_store 0 0 rfl rfl rfl sz_35 rfl rfl (fun q hq => by simp at hq; rcases hq with rfl | rfl; rfl; exact one_slV _ _) (by decide) ?_)
      skip
      refine LY rfl (y_assign rfl) (L_nil (C_seq (C_region (LY rfl (y_move rfl) ?_))))
      refine LY rfl (y_loadA rfl ag_23 sz_23 (sees 9 0 rfl) (Nat.le_of_ble_eq_true rfl) (show _ = [Value.int .i64 (sg : Int), .int .i64 (sz : Int)] from rfl)) ?_
      refine LY rfl (y_loadA rfl ag_35 sz_35 (sees 0 0 rfl) (Nat.le_of_ble_eq_true rfl) (show _ = [Value.int .i64 (v : Int), slV gn (xnums (sg : Int) (sz : Int) (cX lv n) (v : Int)).length] from rfl)) ?_
      refine L_op rfl (op_call rfl rfl (fun a w => Try.call17 a w) rfl ?_)
      obtain ⟨an, cn, en⟩ := slV_ex2 hgn
      rw [en]
      refine ((gain_s hX (holds_sl2 (s := 1) en rfl hgn) (by omega) (v : Int)).sub (hsub_pick [2] rfl)).mono ?_
      rintro _ _ ⟨rfl, rfl⟩
      rw [show gain42 (sg : Int) (sz : Int) (cX lv n) (v : Int) (xnums (sg : Int) (sz : Int) (cX lv n) (v : Int)) = max ((sz : Int) - ((xnums (sg : Int) (sz : Int) (cX lv n) (v : Int)).length : Int)) 0 from by unfold gain42; rw [if_neg (by simp [hm]; omega), gset_nums hX.s], ← en]
      refine ⟨_, rfl, ?_⟩
      refine LY rfl (y_assign rfl) (L_nil (C_seq (C_seq (C_region (LY rfl (y_move rfl) (LY rfl (y_not rfl) (LY rfl (y_move rfl) (LY rfl (y_move rfl) (LY rfl (y_lss rfl rfl) (LY rfl (y_pick_f rfl rfl) (L_nil ?_)))))))))))
      refine C_cond rfl (fun hc4 => ?_) (fun hc4 => ?_)
      · skip
        refine C_seq (C_region (LY rfl (y_fieldAddr rfl fl_23_0) (LY rfl (y_load rfl ag_3 (sees 9 0 rfl) rfl) ?_)))
        refine LY rfl (y_gtr rfl rfl) ?_
        refine LY rfl (y_assign rfl) (L_nil (C_ret ?_))
        refine B_ret (rv_tmp rfl rv_nil) (HSub.refl _) ?_
        first
        | rfl
        | exact ret_bool (by simp; omega)
      · have hfull : (xnums (sg : Int) (sz : Int) (cX lv n) (v : Int)).length < sz := by have := of_decide_eq_false hc4; omega
        refine C_skip (C_seq (C_seq ?_))
        have hnd : (xnums (sg : Int) (sz : Int) (cX lv n) (v : Int)).Nodup := xnums_nd hX.s (v : Int)
        refine C_region (LY rfl (y_fieldAddr rfl fl_35_1) (LY rfl (y_load rfl ag_33 (sees 1 0 rfl) rfl) ?_))
        refine LY rfl (y_lenV hgn rfl rfl Try.underlying33) ?_
        refine LY rfl (y_move rfl) (L_nil (C_block ?_))
        refine C_loop (ι := Duo × Da × List Sec × Gm × Gm × Xl × (Nat → Option (List UInt8)) × Nat) (fun i => [(2, .slice pl lv.length cl), (7, ptr B1), (9, ptr z.tb), (11, ptr o.b), (12, .int .i64 (n : Int)), (18, .int .i64 ((cX lv n).length : Int)), (19, .int .i64 (sz : Int)), (20, ptr B11), (22, .int .i64 (max ((sz : Int) - ((xnums (sg : Int) (sz : Int) (cX lv n) (v : Int)).length : Int)) 0)), (149, slV gn (xnums (sg : Int) (sz : Int) (cX lv n) (v : Int)).length), (150, .int .i64 ((xnums (sg : Int) (sz : Int) (cX lv n) (v : Int)).length : Int)), (151, .int .i64 (i.2.2.2.2.2.2.2 : Int))]) (fun i => slSeg 48 gn (us (xnums (sg : Int) (sz : Int) (cX lv n) (v : Int))) :: [(B11, .cells [Value.int .i64 (v : Int), slV gn (xnums (sg : Int) (sz : Int) (cX lv n) (v : Int)).length].toArray 35)] :: o.seg 90 (sg : Int) (sz : Int) i.2.2.2.1 i.2.2.2.2.1 :: LGS z.lb z.mb z.gb zc0 sg sz (cL sg sz i.2.2.2.2.2.2.2) z.m i.1 ([(z.cb, .cells [.iface 67 (.agg zc0.toArray)].toArray 103)] :: [(z.tb, .cells [ptr z.lb].toArray 56)] :: [(B1, .cells [Value.int .i64 (sg : Int), .int .i64 (sz : Int)].toArray 23)] :: H)) (fun i => Xm (sg : Int) (sz : Int) i.2.2.2.2.2.1 i.2.2.2.1 i.2.2.2.2.1 ∧ Lst dt (.func (.func 52) #[] #[ptr z.cb]) sg sz i.1 i.2.1 z.m i.2.2.1 (n + i.2.2.2.2.2.2.2) z.mb z.bx z.bys z.bp (cL sg sz i.2.2.2.2.2.2.2) i.2.2.2.2.2.2.1 ∧ Cv sg sz n v i.2.2.2.2.2.2.2 (xnums (sg : Int) (sz : Int) (cX lv n) (v : Int)) (cX lv n).length i.2.2.2.2.2.1 i.2.2.2.2.2.2.1 ∧ i.2.2.2.2.2.2.2 ≤ (xnums (sg : Int) (sz : Int) (cX lv n) (v : Int)).length) (fun i => (xnums (sg : Int) (sz : Int) (cX lv n) (v : Int)).length - i.2.2.2.2.2.2.2) (D, A, X, MA, ML, cX lv n, eB n, 0) ⟨hX, hT, Cv.start hX (fun i hi => by show eB n (2 + i) = _; unfold eB; rw [if_pos (by omega)]; congr 3; omega), Nat.zero_le _⟩ ⟨rfl, rfl, rfl, rfl, rfl, rfl, rfl, rfl, rfl, rfl, rfl, rfl, trivial⟩ ((hsub (.cons_cons _ (.cons_cons _ (.cons_cons _ (.cons_cons _ (.cons_cons _ (.cons_cons _ (.cons_cons _ (.cons_cons _ (.cons_cons _ (.cons_cons _ (.refl _)))))))))))).trans (hsub_pick [2, 1, 0, 0, 0, 0, 0, 0, 0, 0] rfl)) (fun i hi => ?_)
        obtain ⟨D, A, X, MA, ML, l, B, k⟩ := i
        obtain ⟨hX, hT, hC, hi⟩ := hi
        simp only at hX hT hC hi
        dsimp only
        refine C_seq (C_region (LY rfl (y_lss rfl rfl) (L_nil (C_seq ?_))))
        refine C_cond rfl (fun hc5 => ?_) (fun hc5 => ?_)
        · replace hc5 : k < (xnums (sg : Int) (sz : Int) (cX lv n) (v : Int)).length := by have := of_decide_eq_true hc5; omega
          have hat : 2 + (sg - 1) * sz + k = 2 + n + k := by rw [hn]
          obtain ⟨num, hxk⟩ : ∃ num, (xnums (sg : Int) (sz : Int) (cX lv n) (v : Int))[k]? = some num := ⟨_, List.getElem?_eq_getElem hc5⟩
          obtain ⟨hput, i, t, hi2, hnum, hfd, hbt, hcv⟩ := hC.put hX hnd hxk (by rw [← hat]; exact ofS_to hm (by omega)) (s := ((sg - 1 : Nat) : Int)) (by omega)
          cases gn with
          | none => exact absurd hgn.2 (by omega)
          | some gn => ?_
          refine C_skip (C_seq (C_block (C_seq (C_region ?_))))
          refine LY rfl (y_indexS rfl rfl Try.underlying33 sz_48 (by omega) (by omega) (show _ = k from by simp)) ?_
          refine LY rfl (y_load rfl ag_48 (sees 0 0 rfl) (us_ix hxk)) ?_
          refine LY rfl (y_assign rfl) (L_nil (C_seq (C_region (LY rfl (y_move rfl) (LY rfl (y_move rfl) ?_)))))
          refine L_op rfl (op_call rfl rfl (fun a w => Try.call33 a w) rfl ?_)
          refine ((xat_s hX num).sub (hsub_pick [2] rfl)).mono ?_
          rintro _ _ ⟨rfl, rfl⟩
          rw [hfd]
          simp only [Option.getD_some, Option.isSome_some]
          refine ⟨_, rfl, ?_⟩
          refine LY rfl (y_move rfl) (LY rfl (y_extract rfl rfl) (LY rfl (y_extract rfl rfl) (LY rfl (y_assign rfl) (LY rfl (y_assign rfl) (L_nil (C_seq (C_region (LY rfl (y_load rfl ag_56 (sees 8 0 rfl) rfl) (LY rfl (y_move rfl) ?_)))))))))
          refine L_op rfl (op_call rfl rfl (fun a w => Try.call34 a w) rfl ?_)
          refine ((read_s hT (good_at (zc := zc0) (sees 3 0 rfl)) (by omega) hbt).sub (hsub_pick [3, 3, 3, 3] rfl)).mono ?_
          rintro _ _ ⟨gd, hgd, rfl, rfl⟩
          cases gd with
          | none => exact slOk_none hgd (by simp)
          | some gd => ?_
          refine ⟨_, rfl, ?_⟩
          refine LY rfl (y_move rfl) (LY rfl (y_extract rfl rfl) (LY rfl (y_extract rfl rfl) (LY rfl (y_assign rfl) (LY rfl (y_assign rfl) (L_nil (C_seq (C_seq (C_region (LY rfl (y_move rfl) ?_)))))))))
          refine LY rfl (y_nei rfl rfl) ?_
          refine LY rfl (y_move rfl) (LY rfl (y_move rfl) ?_)
          refine LY rfl (y_lenS rfl rfl Try.underlying71) ?_
          refine LY rfl (y_nei rfl rfl) ?_
          refine LY rfl (y_pick_f rfl rfl) (LY rfl (y_move rfl) (LY rfl (y_move rfl) ?_))
          refine LY rfl (y_indexS rfl rfl Try.underlying71 sz_5 (by omega) (by simp) (show _ = 0 from rfl)) ?_
          refine LY rfl (y_load rfl ag_5 (sees 0 0 rfl) rfl) (LY rfl (y_move rfl) ?_)
          refine LY rfl (y_sub rfl rfl (show _ = ((i : Nat) : Int) from by rw [wu64 (by omega) (by omega)]; omega)) ?_
          refine LY rfl (y_conv rfl us_48 Try.underlying5 (w8n (by omega))) ?_
          refine LY rfl (y_nei rfl rfl) ?_
          refine LY rfl (y_pick_f rfl rfl) (L_nil ?_)
          refine C_cond rfl (fun hc6 => absurd hc6 (by simp)) (fun hc6 => ?_)
          refine C_skip (C_seq (C_region (LY rfl (y_load rfl ag_56 (sees 9 0 rfl) rfl) (LY rfl (y_move rfl) ?_))))
          refine L_op rfl (op_call rfl rfl (fun a w => Try.call29 a w) rfl ?_)
          refine ((append_s hT (by omega) (body := [UInt8.ofNat i]) (holds_slice (sees 0 0 rfl) (by first | exact Nat.le_of_ble_eq_true rfl | simp) rfl) (by simp) (cL_step (by omega) (by omega) (by omega) (by omega) (k := k) (by omega)).1).sub (hsub_pick [1, 1, 1, 1] rfl)).mono ?_
          rintro _ _ ⟨rfl, D2, A2, hL2, rfl⟩
          rw [hat, (cL_step (by omega) (by omega) (by omega) (by omega) (k := k) (by omega)).2] at hL2
          rw [hat, (cL_step (by omega) (by omega) (by omega) (by omega) (k := k) (by omega)).2]
          refine ⟨_, rfl, ?_⟩
          refine LY rfl (y_move rfl) (LY rfl (y_extract rfl rfl) (LY rfl (y_extract rfl rfl) (LY rfl (y_assign rfl) (LY rfl (y_assign rfl) (L_nil (C_seq (C_region (LY rfl (y_move rfl) ?_))))))))
          refine LY rfl (y_nei rfl rfl) ?_
          refine LY rfl (y_move rfl) (LY rfl (y_move rfl) (LY rfl (y_move rfl) (LY rfl (y_move rfl) ?_)))
          refine L_op rfl (op_call rfl rfl (fun a w => Try.call19 a w) rfl ?_)
          refine ((xmove_s hX num (by omega) ((2 + n + k : Nat) : Int) (by rw [hC.len]; have := cX_len lv n; omega)).sub (hsub_pick [5] rfl)).mono ?_
          rintro _ _ ⟨rfl, A3, L3, hX3, rfl⟩
          rw [hput] at hX3
          rw [hput]
          refine ⟨_, rfl, ?_⟩
          refine LY rfl (y_nei rfl rfl) ?_
          refine LY rfl (y_pick_f rfl rfl) (L_nil (C_cond_f rfl (C_skip (C_region ?_))))
          refine LY rfl (y_add rfl rfl (wi64 (by omega) (by omega))) ?_
          refine LY rfl (y_move rfl) (L_nil ?_)
          exact ⟨(D2, A2, _, A3, L3, _, _, k + 1), ⟨hX3, hL2, hcv, by simp only; omega⟩, by simp only; omega, ⟨rfl, rfl, rfl, rfl, rfl, rfl, rfl, rfl, rfl, rfl, rfl, rfl, trivial⟩, ((hsub (.cons_cons _ (.cons_cons _ (.cons_cons _ (.cons_cons _ (.cons_cons _ (.cons_cons _ (.cons_cons _ (.cons_cons _ (.cons_cons _ (.cons_cons _ (.cons _ (.refl _))))))))))))).trans (hsub_pick [6, 6, 0, 0, 0, 0, 0, 1, 1, 1] rfl))⟩
        · have hk : k = (xnums (sg : Int) (sz : Int) (cX lv n) (v : Int)).length := by have := of_decide_eq_false hc5; omega
          obtain ⟨f1, f2, f3, f4⟩ := cL_free (sg := sg) (sz := sz) (by omega) (by omega) (by omega) (by omega) (k := k) (v := v) (by rw [hk]; exact hfull) hv2
          obtain ⟨hh, hhd⟩ : ∃ hh, ((cL sg sz k).free v).head = some hh := by rw [f4]; split <;> exact ⟨_, rfl⟩
          refine C_exit (C_seq (C_seq (C_region (LY rfl (y_load rfl ag_56 (sees 8 0 rfl) rfl) (LY rfl (y_fieldAddr rfl fl_35_0) (LY rfl (y_load rfl ag_3 (sees 1 0 rfl) rfl) ?_))))))
          refine L_op rfl (op_call rfl rfl (fun a w => Try.call38 a w) rfl ?_)
          refine ((free_s hT (s := v) (by omega) f2 (by omega) f3).sub (hsub_pick [3, 3, 3, 3] rfl)).mono ?_
          rintro _ _ ⟨rfl, rfl⟩
          have hF := hT.rel (s := v) (by omega) f3
          refine ⟨_, rfl, ?_⟩
          refine LY rfl (y_nei rfl rfl) ?_
          refine LY rfl (y_move rfl) (LY rfl (y_load rfl ag_56 (sees 8 0 rfl) rfl) ?_)
          refine L_op rfl (op_call rfl rfl (fun a w => Try.call36 a w) rfl ?_)
          refine ((room_s hF hhd).sub (hsub_pick [0, 0, 0, 0] rfl)).mono ?_
          rintro _ _ ⟨rfl, rfl⟩
          rw [f1, cL_room (by omega) (by omega) (by omega) (by omega)]
          refine ⟨_, rfl, ?_⟩
          refine LY rfl (y_move rfl) (LY rfl (y_move rfl) ?_)
          refine LY rfl (y_add rfl rfl (wi64 (by omega) (by omega))) ?_
          refine LY rfl (y_nei rfl rfl) ?_
          refine LY rfl (y_pick_f rfl rfl) (LY rfl (y_move rfl) ?_)
          refine L_case 212 rfl (fun hg34_14 => ?_) (fun hg34_14 => ?_)
          · exact absurd hg34_14 (by simp; omega)
          · skip
            refine LY rfl (y_move rfl) ?_
            refine L_op rfl (op_call rfl rfl (fun a w => Try.call15 a w) rfl ?_)
            refine ((xlen_s hX).sub (hsub_pick [6] rfl)).mono ?_
            rintro _ _ ⟨rfl, rfl⟩
            rw [hC.len]
            refine ⟨_, rfl, ?_⟩
            refine LY rfl (y_move rfl) ?_
            refine LY rfl (y_nei rfl rfl) ?_
            refine LY rfl (y_pick_f rfl rfl) (LY rfl (y_move rfl) ?_)
            refine L_case 218 rfl (fun hg34_20 => ?_) (fun hg34_20 => ?_)
            · exact absurd hg34_20 (by simp)
            · skip
              refine LY rfl (y_move rfl) (LY rfl (y_fieldAddr rfl fl_35_0) (LY rfl (y_load rfl ag_3 (sees 6 0 rfl) rfl) ?_))
              refine L_op rfl (op_call rfl rfl (fun a w => Try.call20 a w) rfl ?_)
              refine ((xlive_s hX (v : Int)).sub (hsub_pick [0] rfl)).mono ?_
              rintro _ _ ⟨rfl, rfl⟩
              have hC0 := hC
              rw [hk] at hC0
              rw [hC0.none_in hX]
              refine ⟨_, rfl, ?_⟩
              refine LY rfl (y_nei rfl rfl) ?_
              refine LY rfl (y_pick_f rfl rfl) (L_nil ?_)
              refine C_cond rfl (fun hc8 => absurd hc8 (by simp)) (fun hc8 => ?_)
              refine C_skip (C_seq (C_seq (C_region (LY rfl (y_move rfl) (LY rfl (y_move rfl) (L_nil (C_block ?_)))))))
              refine C_loop (ι := Nat) (fun i => [(2, .slice pl lv.length cl), (7, ptr B1), (9, ptr z.tb), (11, ptr o.b), (225, .int .i64 (n : Int)), (226, .int .i64 (i : Int))]) (fun i => o.seg 90 (sg : Int) (sz : Int) MA ML :: LGS z.lb z.mb z.gb zc0 sg sz ((cL sg sz k).free v) z.m D ([(z.cb, .cells [.iface 67 (.agg zc0.toArray)].toArray 103)] :: [(z.tb, .cells [ptr z.lb].toArray 56)] :: [(B1, .cells [Value.int .i64 (sg : Int), .int .i64 (sz : Int)].toArray 23)] :: H)) (fun i => i ≤ n) (fun i => n - i) 0 (Nat.zero_le _) ⟨rfl, rfl, rfl, rfl, rfl, rfl, trivial⟩ ((hsub (.cons_cons _ (.cons_cons _ (.cons_cons _ (.cons_cons _ (.cons_cons _ (.cons_cons _ (.cons_cons _ (.cons_cons _ (.cons _ (.cons _ (.refl _)))))))))))).trans (hsub_pick [0, 0, 0, 0, 0, 2, 2, 2] rfl)) (fun i hi => ?_)
              skip
              refine C_seq (C_region (LY rfl (y_lss rfl rfl) (L_nil (C_seq ?_))))
              refine C_cond rfl (fun hc9 => ?_) (fun hc9 => ?_)
              · replace hc9 : i < n := by have := of_decide_eq_true hc9; omega
                have hC0 := hC
                rw [hk] at hC0
                obtain ⟨th, t, e1, e2, hbd⟩ := hC0.rx hX i
                refine C_skip (C_seq (C_block (C_seq (C_region (LY rfl (y_move rfl) (LY rfl (y_assign rfl) (L_nil (C_seq (C_region (LY rfl (y_move rfl) (LY rfl (y_move rfl) ?_)))))))))))
                refine LY rfl (y_add rfl rfl (show _ = ((i + 1 : Nat) : Int) from by rw [wi64 (by omega) (by omega)]; omega)) ?_
                refine LY rfl (y_conv rfl us_3 Try.underlying48 (wu64 (by omega) (by omega))) ?_
                refine L_op rfl (op_call rfl rfl (fun a w => Try.call33 a w) rfl ?_)
                refine ((xat_s hX (i + 1)).sub (hsub_pick [0] rfl)).mono ?_
                rintro _ _ ⟨rfl, rfl⟩
                rw [e1, e2]
                refine ⟨_, rfl, ?_⟩
                refine LY rfl (y_move rfl) (LY rfl (y_extract rfl rfl) (LY rfl (y_extract rfl rfl) (LY rfl (y_assign rfl) (LY rfl (y_assign rfl) (L_nil (C_seq (C_region (LY rfl (y_load rfl ag_56 (sees 6 0 rfl) rfl) (LY rfl (y_move rfl) ?_)))))))))
                refine L_op rfl (op_call rfl rfl (fun a w => Try.call34 a w) rfl ?_)
                refine ((read_x hF (good_at (zc := zc0) (sees 1 0 rfl)) (by omega) th hbd).sub (hsub_pick [1, 1, 1, 1] rfl)).mono ?_
                rintro _ _ ⟨gd, hgd, rfl, rfl⟩
                refine ⟨_, rfl, ?_⟩
                refine LY rfl (y_move rfl) (LY rfl (y_extract rfl rfl) (LY rfl (y_extract rfl rfl) (LY rfl (y_assign rfl) (LY rfl (y_assign rfl) (L_nil (C_seq (C_region (LY rfl (y_move rfl) (LY rfl (y_move rfl) ?_)))))))))
                refine L_case 244 rfl (fun hg41_2 => ?_) (fun hg41_2 => ?_)
                · obtain rfl : th = true := hg41_2
                  cases gd with
                  | none => exact slOk_none hgd (by simp [bt])
                  | some gd => ?_
                  refine LY rfl (y_move rfl) ?_
                  refine LY rfl (y_nei rfl rfl) ?_
                  refine LY rfl (y_move rfl) ?_
                  refine L_case 247 rfl (fun hg41_5 => ?_) (fun hg41_5 => ?_)
                  · exact absurd hg41_5 (by simp)
                  · skip
                    refine LY rfl (y_move rfl) ?_
                    refine LY rfl (y_lenS rfl rfl Try.underlying71) ?_
                    refine LY rfl (y_nei rfl rfl) ?_
                    refine LY rfl (y_pick_f rfl rfl) (LY rfl (y_move rfl) ?_)
                    refine L_case 252 rfl (fun hg41_10 => ?_) (fun hg41_10 => ?_)
                    · exact absurd hg41_10 (by simp [bt])
                    · skip
                      refine LY rfl (y_move rfl) ?_
                      refine LY rfl (y_indexS rfl rfl Try.underlying71 sz_5 (by omega) (by simp [bt]) (show _ = 0 from rfl)) ?_
                      refine LY rfl (y_load rfl ag_5 (sees 0 0 rfl) rfl) (LY rfl (y_move rfl) ?_)
                      refine LY rfl (y_conv rfl us_3 Try.underlying5 (w8n (by omega))) ?_
                      refine LY rfl (y_nei rfl rfl) ?_
                      refine LY rfl (y_pick_f rfl rfl) (LY rfl (y_pick_t rfl rfl) (L_nil ?_))
                      refine C_cond rfl (fun hc10 => absurd hc10 (by simp)) (fun hc10 => ?_)
                      refine C_skip (C_region ?_)
                      refine LY rfl (y_add rfl rfl (wi64 (by omega) (by omega))) ?_
                      refine LY rfl (y_move rfl) (L_nil ?_)
                      exact ⟨i + 1, by omega, by omega, ⟨rfl, rfl, rfl, rfl, rfl, rfl, trivial⟩, ((hsub (.cons_cons _ (.cons_cons _ (.cons_cons _ (.cons_cons _ (.cons_cons _ (.cons_cons _ (.cons_cons _ (.cons_cons _ (.cons _ (.refl _))))))))))).trans (hsub_pick [5, 1, 1, 1, 1, 1, 1, 1] rfl))⟩
                · skip
                  refine L_skip rfl rfl (L_skip rfl rfl (L_skip rfl rfl (L_skip rfl rfl (L_skip rfl rfl (L_skip rfl rfl (L_skip rfl rfl (L_skip rfl rfl (L_skip rfl rfl (L_skip rfl rfl (L_skip rfl rfl (L_skip rfl rfl (L_skip rfl rfl (L_skip rfl rfl (L_skip rfl rfl (LY rfl (y_pick_f rfl rfl) (L_nil (C_cond_f rfl (C_skip (C_region ?_)))))))))))))))))))
                  refine LY rfl (y_add rfl rfl (wi64 (by omega) (by omega))) ?_
                  refine LY rfl (y_move rfl) (L_nil ?_)
                  exact ⟨i + 1, by omega, by omega, ⟨rfl, rfl, rfl, rfl, rfl, rfl, trivial⟩, ((hsub (.cons_cons _ (.cons_cons _ (.cons_cons _ (.cons_cons _ (.cons_cons _ (.cons_cons _ (.cons_cons _ (.cons_cons _ (.cons _ (.refl _))))))))))).trans (hsub_pick [5, 1, 1, 1, 1, 1, 1, 1] rfl))⟩
              · replace hc9 := of_decide_eq_false hc9
                refine C_exit (C_seq (C_region (LY rfl (y_assign rfl) (L_nil (C_ret ?_)))))
                refine B_ret (rv_tmp rfl rv_nil) (HSub.refl _) ?_
                first
                | rfl
                | exact ret_bool (by simp; omega)

end Go.Proofs.Ytighbhplfjjgpaa

/- From a row's reading of a slice of bytes to what a walk asks (own work). -/
set_option linter.unusedVariables false
namespace Go.Sl
open Go.RowKit
end Go.Sl

