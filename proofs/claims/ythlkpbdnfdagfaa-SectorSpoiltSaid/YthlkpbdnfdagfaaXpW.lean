/- walks (own work; the walks' lines by a program of this repo). -/
import Derived.Test.YthlkpbdnfdagfaaXlW
import Derived.Test.YthlkpbdnfdagfaaWiW
set_option linter.unusedVariables false
set_option linter.unusedSimpArgs false
set_option maxRecDepth 20000
namespace Go.Proofs.Ythlkpbdnfdagfaa
open Go.Sl
attribute [local irreducible] BodyQ WpC WpL WpS WpH OpW FnS


theorem place_s {w0 : World} {H : Hp} (a : Int) : FnS Try.prog w0 25 #[.int .i64 a] H (fun e H' => e = .returned (.bool (decide (0 ≤ a ∧ a < 4096))) ∧ H' = H) := by
  refine FnS_intro (n := 9) (rs := [.tmp 2]) (vs := [.int .i64 a]) Try.func25 rfl Try.ntmps25 rfl rfl ?_
  refine C_seq ?_
  refine C_region ?_
  refine L_y rfl (y_assign rfl) rfl ?_
  refine L_nil ?_
  refine C_seq ?_
  refine C_region ?_
  refine L_y rfl (y_move rfl) rfl ?_
  refine L_y rfl (y_geq rfl rfl) rfl ?_
  refine L_y rfl (y_move rfl) rfl ?_
  refine L_case 5 rfl (fun hg1_3 => ?_) (fun hg1_3 => ?_)
  · skip
    refine L_y rfl (y_move rfl) rfl ?_
    refine L_y rfl (y_lss rfl rfl) rfl ?_
    refine L_y rfl (y_pick_t rfl rfl) rfl ?_
    refine L_y rfl (y_assign rfl) rfl ?_
    refine L_nil ?_
    refine C_ret ?_
    refine B_ret (rv_tmp rfl rv_nil) (HSub.refl _) ?_
    refine ⟨ret_bool ?_, rfl⟩
    simp_all <;> omega
  · skip
    refine L_skip rfl rfl ?_
    refine L_skip rfl rfl ?_
    refine L_y rfl (y_pick_f rfl rfl) rfl ?_
    refine L_y rfl (y_assign rfl) rfl ?_
    refine L_nil ?_
    refine C_ret ?_
    refine B_ret (rv_tmp rfl rv_nil) (HSub.refl _) ?_
    refine ⟨ret_bool ?_, rfl⟩
    simp_all <;> omega

theorem place_t {w0 : World} {H : Hp} {a : Int} (h : (0 ≤ a ∧ a < 4096)) : FnS Try.prog w0 25 #[.int .i64 a] H (fun e H' => e = .returned (.bool true) ∧ H' = H) := (place_s a).mono fun e H' ⟨h1, h2⟩ => ⟨h1.trans (ret_bool (by simp [h])), h2⟩

theorem place_f {w0 : World} {H : Hp} {a : Int} (h : ¬ (0 ≤ a ∧ a < 4096)) : FnS Try.prog w0 25 #[.int .i64 a] H (fun e H' => e = .returned (.bool false) ∧ H' = H) := (place_s a).mono fun e H' ⟨h1, h2⟩ => ⟨h1.trans (ret_bool (by simp [h])), h2⟩

theorem sum_s {w0 : World} {H : Hp} {zc : List Value} (a : Nat) (ha : a < 4096) (s : List UInt8) (hs : s.length = 128) : FnS Try.prog w0 27 #[.iface 33 (.agg zc.toArray), .int .i64 (a : Int), .agg (bs s).toArray] H (fun e H' => e = .returned (.agg (bs (sumS a s)).toArray) ∧ H' = H) := by
  refine FnS_intro (n := 20) (rs := [.cell 6 70]) (vs := [.iface 33 (.agg zc.toArray), .int .i64 (a : Int), .agg (bs s).toArray]) Try.func27 rfl Try.ntmps27 rfl rfl ?_
  refine C_seq ?_
  refine C_region ?_
  refine L_op rfl (op_box rfl rfl rfl (fun B1 => ?_))
  refine L_op rfl (op_alloc zl_70 rfl (fun B2 => ?_))
  refine L_nil ?_
  refine C_seq ?_
  refine C_region ?_
  refine L_y rfl (y_move rfl) rfl ?_
  refine L_y rfl (y_conv rfl us_3 Try.underlying22 (wu64 (by omega) (by omega))) rfl ?_
  refine L_op rfl (op_call rfl rfl (fun a w => Try.call26 a w) rfl ?_)
  refine (put_s a 4 (by omega) (by decide) (by decide)).mono ?_
  rintro _ _ ⟨BP, rfl, rfl⟩
  refine ⟨_, rfl, ?_⟩
  refine L_y rfl (y_assign rfl) rfl ?_
  refine L_nil ?_
  refine C_seq ?_
  refine C_regionH H (by kernel_rfl) ?_
  refine H_y 0 rfl (by kernel_rfl) (by kernel_rfl) (by kernel_rfl) (hsub (.cons _ (.cons _ (.cons _ (.refl _))))) rfl (y_move rfl) rfl ?_
  refine H_y 1 rfl (by kernel_rfl) (by kernel_rfl) (by kernel_rfl) (hsub (.cons _ (.cons _ (.cons _ (.refl _))))) rfl (y_buildA0 Try.underlying30 sz_5 zl_30) rfl ?_
  refine H_y 2 rfl (by kernel_rfl) (by kernel_rfl) (by kernel_rfl) (hsub (.cons _ (.cons _ (.cons _ (.refl _))))) rfl (y_move rfl) rfl ?_
  refine H_y 3 rfl (by kernel_rfl) (by kernel_rfl) (by kernel_rfl) (hsub (.cons _ (.cons _ (.cons _ (.refl _))))) rfl (y_sliceA_lo rfl rfl Try.underlying26 sz_5 (by omega) (by omega) (show _ = 16 from rfl)) rfl ?_
  refine H_y 5 rfl (by kernel_rfl) (by kernel_rfl) (by kernel_rfl) (hsub (.cons _ (.cons _ (.cons _ (.refl _))))) rfl (y_makeFunc rfl rfl) rfl ?_
  refine H_y 6 rfl (by kernel_rfl) (by kernel_rfl) (by kernel_rfl) (hsub (.cons _ (.cons _ (.cons _ (.refl _))))) rfl (y_nilCheckM rfl me_33_Sum rc_33) rfl ?_
  refine H_y 7 rfl (by kernel_rfl) (by kernel_rfl) (by kernel_rfl) (hsub (.cons _ (.cons _ (.cons _ (.refl _))))) rfl (y_move rfl) rfl ?_
  refine H_one 4 rfl (by kernel_rfl) rfl (op_append (gs := some ⟨BP, 4, []⟩) (len := 4) (m := 112) (xs := bs (be a 4)) (vs := bs (s.drop 16)) 0 rfl rfl (by simp [slSeg, setS]) ⟨by simp [bs_length, be_length], by simp [bs_length, be_length]⟩ (src_slice (sees 2 0 rfl) (by rw [bs_length, hs]; decide) (by rw [bs_drop, bs_take, List.take_of_length_le (by simp [hs])])) (by simp [bs_length, hs]) (bs_one _) Try.underlying23 ni_23 sz_5 by_5 (by decide) zl_5 rfl (by decide) rfl (fun g hg => ?_))
  rw [← bs_append] at hg ⊢
  rw [show 4 + 112 = (be a 4 ++ s.drop 16).length from by simp [be_length, hs]]
  cases g with
  | none => exact slOk_none hg (by decide)
  | some g => ?_
  refine ⟨hsub (.cons _ (.cons _ (.cons _ (.refl _)))), ?_⟩
  refine H_one 8 rfl (by kernel_rfl) rfl (op_invoke rfl rfl me_33_Sum rc_33 (fun a w => Try.call73 a w) rfl ?_)
  refine FnS.mono (litm_s (l := bs (be a 4 ++ s.drop 16) ++ g.sp) (off := 0) zc (be a 4 ++ s.drop 16) (by exact sees 0 0 rfl) (by rw [List.drop_zero, List.take_left' (bs_length _)]) (by simp [be_length, hs]) K0 K0_len) ?_
  rintro _ _ ⟨rfl, rfl⟩
  refine ⟨_, rfl, ?_⟩
  refine ⟨hsub (.cons _ (.cons _ (.cons _ (.refl _)))), ?_⟩
  refine H_one 9 rfl (by kernel_rfl) rfl (op_storeA 1 0 rfl rfl rfl sz_70 (by rw [bs_length, litSum_len]) rfl (bs_one _) rfl ?_)
  refine ⟨hsub (.cons _ (.cons _ (.cons _ (.refl _)))), ?_⟩
  refine H_done (by kernel_rfl) ?_
  refine C_ret ?_
  refine B_ret (rv_cellA rfl ag_70 sz_70 (sees 1 0 rfl) (by rw [bs_length, litSum_len]; decide) (bs_whole0 _ (litSum_len _ _)) rv_nil) (hsub (.cons _ (.cons _ (.cons _ (.refl _))))) ?_
  exact ⟨rfl, rfl⟩

theorem pack_ok {w0 : World} {H : Hp} {zc : List Value} {pa : Option Addr} {cap : Nat} (gen : Nat) (hg : gen < M64) (body : List UInt8) (hB : Holds w0 H pa (bs body)) (a : Nat) (ha : a < 4096) (hl : body.length ≤ 103) : FnS Try.prog w0 11 #[.iface 33 (.agg zc.toArray), .int .i64 (a : Int), .int .u64 (gen : Int), .slice pa body.length cap] H (fun e H' => e = .returned (.tuple #[.agg (bs (packS a gen body)).toArray, .bool true]) ∧ H' = H) := by
  have hp : 0 ≤ (a : Int) ∧ (a : Int) < 4096 := by omega
  simp only [M64] at hg
  refine FnS_intro (n := 44) (rs := [.cell 8 26, .tmp 9]) (vs := [.iface 33 (.agg zc.toArray), .int .i64 (a : Int), .int .u64 (gen : Int), .slice pa body.length cap]) Try.func11 rfl Try.ntmps11 rfl rfl ?_
  refine C_seq ?_
  refine C_region ?_
  refine L_op rfl (op_alloc zl_26 rfl (fun B1 => ?_))
  refine L_y rfl (y_assign rfl) rfl ?_
  refine L_nil ?_
  refine C_seq ?_
  refine C_region ?_
  refine L_op rfl (op_alloc zl_26 rfl (fun B2 => ?_))
  refine L_nil ?_
  rw [zsec]
  refine C_seq ?_
  refine C_seq ?_
  refine C_region ?_
  refine L_y rfl (y_move rfl) rfl ?_
  refine L_y rfl (y_eqIf rfl rfl if_66) rfl ?_
  refine L_y rfl (y_move rfl) rfl ?_
  refine L_y rfl (y_move rfl) rfl ?_
  refine L_op rfl (op_call rfl rfl (fun a w => Try.call25 a w) rfl ?_)
  refine (place_t hp).mono ?_
  rintro _ _ ⟨rfl, rfl⟩
  refine ⟨_, rfl, ?_⟩
  refine L_y rfl (y_not rfl) rfl ?_
  refine L_y rfl (y_pick_f rfl rfl) rfl ?_
  refine L_y rfl (y_move rfl) rfl ?_
  refine L_y rfl (y_move rfl) rfl ?_
  refine L_y rfl (y_lenS rfl rfl Try.underlying23) rfl ?_
  refine L_y rfl (y_gtr rfl rfl) rfl ?_
  refine L_y rfl (y_pick_f rfl rfl) rfl ?_
  refine L_nil ?_
  refine C_cond rfl (fun hc0 => absurd hc0 (by simp <;> omega)) (fun hc0 => ?_)
  refine C_skip ?_
  refine C_seq ?_
  refine C_regionH H (by kernel_rfl) ?_
  refine H_y 0 rfl (by kernel_rfl) (by kernel_rfl) (by kernel_rfl) (hsub (.cons _ (.cons _ (.refl _)))) rfl (y_sliceA_lo rfl rfl Try.underlying26 sz_5 (by omega) (by omega) (show _ = 16 from rfl)) rfl ?_
  refine H_y 1 rfl (by kernel_rfl) (by kernel_rfl) (by kernel_rfl) (hsub (.cons _ (.cons _ (.refl _)))) rfl (y_move rfl) rfl ?_
  refine H_one 2 rfl (by kernel_rfl) rfl (op_call rfl rfl (fun a w => Try.call26 a w) rfl ?_)
  refine (put_s gen 8 (by omega) (by decide) (by decide)).mono ?_
  rintro _ _ ⟨BP, rfl, rfl⟩
  refine ⟨_, rfl, ?_⟩
  refine ⟨hsub (.cons _ (.cons _ (.cons _ (.refl _)))), ?_⟩
  refine H_one 3 rfl (by kernel_rfl) rfl (op_copyS (vs := bs (be gen 8)) 1 0 rfl rfl Try.underlying23 sz_5 (src_bytes (holds_bytes (sees 0 0 rfl) (by rw [List.drop_zero, List.take_of_length_le (by rw [bs_length, be_length]; decide)])) (be_length _ _)) (by decide) (by rw [bs_length, be_length, Nat.mul_one]) rfl (bs_one _) (by rw [bs_length]; rw [secOf_len]; decide) rfl ?_)
  rw [pk1]
  refine ⟨hsub (.cons _ (.cons _ (.cons _ (.refl _)))), ?_⟩
  refine H_done (by kernel_rfl) ?_
  refine C_seq ?_
  refine C_region ?_
  refine L_y rfl (y_move rfl) rfl ?_
  refine L_y rfl (y_lenS rfl rfl Try.underlying23) rfl ?_
  refine L_y rfl (y_conv rfl us_3 Try.underlying5 (w8n (by omega))) rfl ?_
  refine L_y rfl (y_indexA rfl rfl Try.underlying26 sz_5 (by omega) (by omega) (show _ = 24 from rfl)) rfl ?_
  refine L_op rfl (op_store1 1 0 rfl rfl rfl sz_5 rfl (by rw [bs_length, pS1_len]; decide) ?_)
  refine L_nil ?_
  rw [pk2]
  refine C_seq ?_
  refine C_region ?_
  refine L_y rfl (y_sliceA_lo rfl rfl Try.underlying26 sz_5 (by omega) (by omega) (show _ = 25 from rfl)) rfl ?_
  refine L_y rfl (y_move rfl) rfl ?_
  refine L_op rfl (op_copyS (vs := bs body) 1 0 rfl rfl Try.underlying23 sz_5 (src_bytes (hB.up.up.up) rfl) (by show _ ≤ 103; omega) (by rw [bs_length, Nat.mul_one]) rfl (bs_one _) (by rw [bs_length]; rw [pS2_len]; omega) rfl ?_)
  rw [pk3 hl]
  refine L_nil ?_
  refine C_seq ?_
  refine C_region ?_
  refine L_y rfl (y_move rfl) rfl ?_
  refine L_y rfl (y_move rfl) rfl ?_
  refine L_y rfl (y_loadA rfl ag_26 sz_26 (sees 1 0 rfl) (by rw [bs_length, pS3_len hl]; decide) (bs_whole0 _ (pS3_len hl))) rfl ?_
  refine L_op rfl (op_call rfl rfl (fun a w => Try.call27 a w) rfl ?_)
  refine (sum_s a ha (pS3 gen body) (pS3_len hl)).mono ?_
  rintro _ _ ⟨rfl, rfl⟩
  refine ⟨_, rfl, ?_⟩
  refine L_op rfl (op_alloc zl_70 rfl (fun B3 => ?_))
  refine L_op rfl (op_storeA 0 0 rfl rfl rfl sz_70 (by rw [bs_length, sumS_len]) rfl (bs_one _) rfl ?_)
  refine L_nil ?_
  refine C_seq ?_
  refine C_regionT 2 (by kernel_rfl) (by kernel_rfl) ?_
  refine S_y rfl (y_sliceA_all rfl Try.underlying26 sz_5) rfl ?_
  refine S_y rfl (y_sliceA_all rfl Try.underlying70 sz_5) rfl ?_
  refine S_nil ?_
  refine L_op rfl (op_copyS (vs := bs (sumS a (pS3 gen body))) 2 0 rfl rfl Try.underlying23 sz_5 (src_bytes (holds_bytes (sees 0 0 rfl) (bs_whole0 _ rfl)) (sumS_len _ _)) (by decide) (by rw [bs_length, sumS_len, Nat.mul_one]) rfl (bs_one _) (by rw [bs_length]; rw [pS3_len hl]; decide) rfl ?_)
  rw [pk4 (sumS_len _ _), pS3_sum]
  refine L_nil ?_
  refine C_seq ?_
  refine C_region ?_
  refine L_y rfl (y_loadA rfl ag_26 sz_26 (sees 2 0 rfl) (by rw [bs_length, packS_len hl]; decide) (bs_whole0 _ (packS_len hl))) rfl ?_
  refine L_op rfl (op_storeA 3 0 rfl rfl rfl sz_26 (by rw [bs_length, packS_len hl]) rfl (bs_one _) (by rw [bs_length, secOf_len]) ?_)
  refine L_y rfl (y_assign rfl) rfl ?_
  refine L_nil ?_
  refine C_ret ?_
  refine B_ret (rv_cellA rfl ag_26 sz_26 (sees 3 0 rfl) (by rw [bs_length, packS_len hl]; decide) (bs_whole0 _ (packS_len hl)) (rv_tmp rfl rv_nil)) (hsub (.cons _ (.cons _ (.cons _ (.cons _ (.refl _)))))) ?_
  exact ⟨rfl, rfl⟩

theorem pack_f1 {w0 : World} {H : Hp} {zc : List Value} {pa : Option Addr} {cap : Nat} (gen : Nat) (hg : gen < M64) (body : List UInt8) (hB : Holds w0 H pa (bs body)) (a : Int) (hp : ¬ (0 ≤ a ∧ a < 4096)) : FnS Try.prog w0 11 #[.iface 33 (.agg zc.toArray), .int .i64 a, .int .u64 (gen : Int), .slice pa body.length cap] H (fun e H' => e = .returned (.tuple #[.agg (bs (secOf 0)).toArray, .bool false]) ∧ H' = H) := by
  refine FnS_intro (n := 44) (rs := [.cell 8 26, .tmp 9]) (vs := [.iface 33 (.agg zc.toArray), .int .i64 a, .int .u64 (gen : Int), .slice pa body.length cap]) Try.func11 rfl Try.ntmps11 rfl rfl ?_
  refine C_seq ?_
  refine C_region ?_
  refine L_op rfl (op_alloc zl_26 rfl (fun B1 => ?_))
  refine L_y rfl (y_assign rfl) rfl ?_
  refine L_nil ?_
  refine C_seq ?_
  refine C_region ?_
  refine L_op rfl (op_alloc zl_26 rfl (fun B2 => ?_))
  refine L_nil ?_
  rw [zsec]
  refine C_seq ?_
  refine C_seq ?_
  refine C_region ?_
  refine L_y rfl (y_move rfl) rfl ?_
  refine L_y rfl (y_eqIf rfl rfl if_66) rfl ?_
  refine L_y rfl (y_move rfl) rfl ?_
  refine L_y rfl (y_move rfl) rfl ?_
  refine L_op rfl (op_call rfl rfl (fun a w => Try.call25 a w) rfl ?_)
  refine (place_f hp).mono ?_
  rintro _ _ ⟨rfl, rfl⟩
  refine ⟨_, rfl, ?_⟩
  refine L_y rfl (y_not rfl) rfl ?_
  refine L_y rfl (y_pick_f rfl rfl) rfl ?_
  refine L_y rfl (y_move rfl) rfl ?_
  refine L_skip rfl rfl ?_
  refine L_skip rfl rfl ?_
  refine L_skip rfl rfl ?_
  refine L_y rfl (y_pick_t rfl rfl) rfl ?_
  refine L_nil ?_
  refine C_cond_t rfl ?_
  refine C_seq ?_
  refine C_region ?_
  refine L_y rfl (y_loadA rfl ag_26 sz_26 (sees 0 0 rfl) (by rw [bs_length, secOf_len]; decide) (bs_whole0 _ (secOf_len 0))) rfl ?_
  refine L_op rfl (op_storeA 1 0 rfl rfl rfl sz_26 (by rw [bs_length, secOf_len]) rfl (bs_one _) (by rw [bs_length, secOf_len]) ?_)
  refine L_y rfl (y_assign rfl) rfl ?_
  refine L_nil ?_
  refine C_ret ?_
  refine B_ret (rv_cellA rfl ag_26 sz_26 (sees 1 0 rfl) (by rw [bs_length, secOf_len]; decide) (bs_whole0 _ (secOf_len 0)) (rv_tmp rfl rv_nil)) (hsub (.cons _ (.cons _ (.refl _)))) ?_
  exact ⟨rfl, rfl⟩

theorem pack_f2 {w0 : World} {H : Hp} {zc : List Value} {pa : Option Addr} {cap : Nat} (gen : Nat) (hg : gen < M64) (body : List UInt8) (hB : Holds w0 H pa (bs body)) (a : Int) (hp : 0 ≤ a ∧ a < 4096) (hl : ¬ body.length ≤ 103) : FnS Try.prog w0 11 #[.iface 33 (.agg zc.toArray), .int .i64 a, .int .u64 (gen : Int), .slice pa body.length cap] H (fun e H' => e = .returned (.tuple #[.agg (bs (secOf 0)).toArray, .bool false]) ∧ H' = H) := by
  refine FnS_intro (n := 44) (rs := [.cell 8 26, .tmp 9]) (vs := [.iface 33 (.agg zc.toArray), .int .i64 a, .int .u64 (gen : Int), .slice pa body.length cap]) Try.func11 rfl Try.ntmps11 rfl rfl ?_
  refine C_seq ?_
  refine C_region ?_
  refine L_op rfl (op_alloc zl_26 rfl (fun B1 => ?_))
  refine L_y rfl (y_assign rfl) rfl ?_
  refine L_nil ?_
  refine C_seq ?_
  refine C_region ?_
  refine L_op rfl (op_alloc zl_26 rfl (fun B2 => ?_))
  refine L_nil ?_
  rw [zsec]
  refine C_seq ?_
  refine C_seq ?_
  refine C_region ?_
  refine L_y rfl (y_move rfl) rfl ?_
  refine L_y rfl (y_eqIf rfl rfl if_66) rfl ?_
  refine L_y rfl (y_move rfl) rfl ?_
  refine L_y rfl (y_move rfl) rfl ?_
  refine L_op rfl (op_call rfl rfl (fun a w => Try.call25 a w) rfl ?_)
  refine (place_t hp).mono ?_
  rintro _ _ ⟨rfl, rfl⟩
  refine ⟨_, rfl, ?_⟩
  refine L_y rfl (y_not rfl) rfl ?_
  refine L_y rfl (y_pick_f rfl rfl) rfl ?_
  refine L_y rfl (y_move rfl) rfl ?_
  refine L_y rfl (y_move rfl) rfl ?_
  refine L_y rfl (y_lenS rfl rfl Try.underlying23) rfl ?_
  refine L_y rfl (y_gtr rfl rfl) rfl ?_
  refine L_y rfl (y_pick_f rfl rfl) rfl ?_
  refine L_nil ?_
  refine C_cond rfl (fun hc0 => ?_) (fun hc0 => absurd hc0 (by simp <;> omega))
  refine C_seq ?_
  refine C_region ?_
  refine L_y rfl (y_loadA rfl ag_26 sz_26 (sees 0 0 rfl) (by rw [bs_length, secOf_len]; decide) (bs_whole0 _ (secOf_len 0))) rfl ?_
  refine L_op rfl (op_storeA 1 0 rfl rfl rfl sz_26 (by rw [bs_length, secOf_len]) rfl (bs_one _) (by rw [bs_length, secOf_len]) ?_)
  refine L_y rfl (y_assign rfl) rfl ?_
  refine L_nil ?_
  refine C_ret ?_
  refine B_ret (rv_cellA rfl ag_26 sz_26 (sees 1 0 rfl) (by rw [bs_length, secOf_len]; decide) (bs_whole0 _ (secOf_len 0)) (rv_tmp rfl rv_nil)) (hsub (.cons _ (.cons _ (.refl _)))) ?_
  exact ⟨rfl, rfl⟩

theorem pack_nil {w0 : World} {H : Hp} {zc : List Value} {pa : Option Addr} {cap : Nat} (gen : Nat) (hg : gen < M64) (body : List UInt8) (hB : Holds w0 H pa (bs body)) (a : Int) : FnS Try.prog w0 11 #[.nilIface, .int .i64 a, .int .u64 (gen : Int), .slice pa body.length cap] H (fun e H' => e = .returned (.tuple #[.agg (bs (secOf 0)).toArray, .bool false]) ∧ H' = H) := by
  refine FnS_intro (n := 44) (rs := [.cell 8 26, .tmp 9]) (vs := [.nilIface, .int .i64 a, .int .u64 (gen : Int), .slice pa body.length cap]) Try.func11 rfl Try.ntmps11 rfl rfl ?_
  refine C_seq ?_
  refine C_region ?_
  refine L_op rfl (op_alloc zl_26 rfl (fun B1 => ?_))
  refine L_y rfl (y_assign rfl) rfl ?_
  refine L_nil ?_
  refine C_seq ?_
  refine C_region ?_
  refine L_op rfl (op_alloc zl_26 rfl (fun B2 => ?_))
  refine L_nil ?_
  rw [zsec]
  refine C_seq ?_
  refine C_seq ?_
  refine C_region ?_
  refine L_y rfl (y_move rfl) rfl ?_
  refine L_y rfl (y_eqIf0 rfl rfl if_66) rfl ?_
  refine L_y rfl (y_move rfl) rfl ?_
  refine L_skip rfl rfl ?_
  refine L_skip rfl rfl ?_
  refine L_skip rfl rfl ?_
  refine L_y rfl (y_pick_t rfl rfl) rfl ?_
  refine L_y rfl (y_move rfl) rfl ?_
  refine L_skip rfl rfl ?_
  refine L_skip rfl rfl ?_
  refine L_skip rfl rfl ?_
  refine L_y rfl (y_pick_t rfl rfl) rfl ?_
  refine L_nil ?_
  refine C_cond_t rfl ?_
  refine C_seq ?_
  refine C_region ?_
  refine L_y rfl (y_loadA rfl ag_26 sz_26 (sees 0 0 rfl) (by rw [bs_length, secOf_len]; decide) (bs_whole0 _ (secOf_len 0))) rfl ?_
  refine L_op rfl (op_storeA 1 0 rfl rfl rfl sz_26 (by rw [bs_length, secOf_len]) rfl (bs_one _) (by rw [bs_length, secOf_len]) ?_)
  refine L_y rfl (y_assign rfl) rfl ?_
  refine L_nil ?_
  refine C_ret ?_
  refine B_ret (rv_cellA rfl ag_26 sz_26 (sees 1 0 rfl) (by rw [bs_length, secOf_len]; decide) (bs_whole0 _ (secOf_len 0)) (rv_tmp rfl rv_nil)) (hsub (.cons _ (.cons _ (.refl _)))) ?_
  exact ⟨rfl, rfl⟩

theorem pack_no {w0 : World} {H : Hp} {zc : List Value} {pa : Option Addr} {cap : Nat} (gen : Nat) (hg : gen < M64) (body : List UInt8) (hB : Holds w0 H pa (bs body)) (a : Int) (h : ¬ packOk a body) : FnS Try.prog w0 11 #[.iface 33 (.agg zc.toArray), .int .i64 a, .int .u64 (gen : Int), .slice pa body.length cap] H (fun e H' => e = .returned (.tuple #[.agg (bs (secOf 0)).toArray, .bool false]) ∧ H' = H) := by
  by_cases hp : 0 ≤ a ∧ a < 4096
  · exact pack_f2 gen hg body hB a hp fun hl => h ⟨hp.1, hp.2, hl⟩
  · exact pack_f1 gen hg body hB a hp

end Go.Proofs.Ythlkpbdnfdagfaa
