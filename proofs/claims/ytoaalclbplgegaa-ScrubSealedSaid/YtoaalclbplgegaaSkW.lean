/- walks (own work; the walks' lines by a program of this repo). -/
import Derived.Test.YtoaalclbplgegaaSvW
import Derived.Test.YtoaalclbplgegaaFd
set_option linter.unusedVariables false
set_option linter.unusedSimpArgs false
set_option maxRecDepth 20000
namespace Go.Proofs.Ytoaalclbplgegaa
open Go.Sl
attribute [local irreducible] BodyQ WpC WpL WpS WpH OpW FnS


theorem awake10_s {w0 : World} {H : Hp} : FnS Try.prog w0 13 #[] H (fun e H' => e = .returned (.bool true) ∧ H' = H) := by
  refine FnS_intro (n := 33) (rs := [.tmp 0]) (vs := []) Try.func13 rfl Try.ntmps13 rfl rfl ?_
  refine C_seq ?_
  refine C_region ?_
  refine L_y rfl (y_assign rfl) rfl ?_
  refine L_nil ?_
  refine C_seq ?_
  refine C_region ?_
  refine L_y rfl (y_buildA (vs := [(0, _), (1, _)]) (l := [.int .u8 0, .int .u8 0]) rfl Try.underlying58 sz_5 zl_58 rfl) rfl ?_
  refine L_y rfl (y_buildA (vs := [(0, _), (1, _)]) (l := [.int .u8 2, .int .u8 0]) rfl Try.underlying58 sz_5 zl_58 rfl) rfl ?_
  refine L_y rfl (y_buildA (vs := [(0, _), (1, _)]) (l := [.int .u8 0, .int .u8 1]) rfl Try.underlying58 sz_5 zl_58 rfl) rfl ?_
  refine L_op rfl (op_buildSlice (vs := [(0, _), (1, _), (2, _)]) rfl Try.underlying22 sz_58 zl_58 rfl (by decide) (show _ = some (bs (pb [(0, 0), (2, 0), (0, 1)])).toArray from rfl) rfl (fun B1 => ?_))
  refine L_y rfl (y_buildA (vs := [(0, _), (1, _)]) (l := [.int .u8 0, .int .u8 0]) rfl Try.underlying58 sz_5 zl_58 rfl) rfl ?_
  refine L_y rfl (y_buildA (vs := [(0, _), (1, _)]) (l := [.int .u8 0, .int .u8 0]) rfl Try.underlying58 sz_5 zl_58 rfl) rfl ?_
  refine L_y rfl (y_buildA (vs := [(0, _), (1, _)]) (l := [.int .u8 0, .int .u8 1]) rfl Try.underlying58 sz_5 zl_58 rfl) rfl ?_
  refine L_op rfl (op_buildSlice (vs := [(0, _), (1, _), (2, _)]) rfl Try.underlying22 sz_58 zl_58 rfl (by decide) (show _ = some (bs (pb [(0, 0), (0, 0), (0, 1)])).toArray from rfl) rfl (fun B2 => ?_))
  refine L_op rfl (op_call rfl rfl (fun a w => Try.call14 a w) rfl ?_)
  refine FnS.mono (pair_v (la := [(0, 0), (2, 0), (0, 1)]) (lb := [(0, 0), (0, 0), (0, 1)]) (K := 3) (holds_bytes (sees 1 0 rfl) (by rfl)) (holds_bytes (sees 0 0 rfl) (by rfl)) (by decide) rfl) ?_
  rintro _ _ ⟨D1, A1, m1, mb1, bx1, by1, bp1, ga1, gb1, hS1, hga1, hgb1, rfl, rfl⟩
  refine ⟨_, rfl, ?_⟩
  refine L_y rfl (y_move rfl) rfl ?_
  refine L_y rfl (y_extract rfl rfl) rfl ?_
  refine L_y rfl (y_extract rfl rfl) rfl ?_
  refine L_y rfl (y_extract rfl rfl) rfl ?_
  refine L_y rfl (y_extract rfl rfl) rfl ?_
  refine L_op rfl (op_alloc zl_27 rfl (fun B3 => ?_))
  refine L_y rfl (y_assign rfl) rfl ?_
  refine L_y rfl (y_assign rfl) rfl ?_
  refine L_y rfl (y_assign rfl) rfl ?_
  refine L_op rfl (op_store (vs := [slV ga1 3, slV gb1 3]) 0 0 rfl rfl rfl sz_27 rfl rfl (fun v hv => by simp at hv; rcases hv with rfl | rfl <;> exact one_slV _ _) (Nat.le_of_ble_eq_true rfl) ?_)
  refine L_nil ?_
  refine C_seq ?_
  refine C_region ?_
  refine L_y rfl (y_move rfl) rfl ?_
  refine L_op rfl (op_call rfl rfl (fun a w => Try.call16 a w) rfl ?_)
  refine (FnS.sub (hsub_pick [1, 1] rfl) (all_v hS1 (by decide) (by decide) (by decide) (r := (1, 1, 1)) (by decide +kernel))).mono ?_
  rintro _ _ ⟨rfl, D2, A2, m2, hS2, rfl⟩
  refine ⟨_, rfl, ?_⟩
  refine L_op rfl (op_alloc zl_32 rfl (fun B4 => ?_))
  refine L_op rfl (op_store (vs := [.int .i64 1, .int .i64 1, .int .i64 1]) 0 0 rfl rfl rfl sz_32 rfl rfl (ones rfl) (Nat.le_of_ble_eq_true rfl) ?_)
  refine L_nil ?_
  refine C_seq ?_
  refine C_region ?_
  refine L_y rfl (y_move rfl) rfl ?_
  refine L_op rfl (op_call rfl rfl (fun a w => Try.call16 a w) rfl ?_)
  refine (FnS.sub (hsub_pick [1, 1] rfl) (all_v hS2 (by decide) (by decide) (by decide) (r := (2, 0, 1)) (by decide +kernel))).mono ?_
  rintro _ _ ⟨rfl, D3, A3, m3, hS3, rfl⟩
  refine ⟨_, rfl, ?_⟩
  refine L_op rfl (op_alloc zl_32 rfl (fun B5 => ?_))
  refine L_op rfl (op_store (vs := [.int .i64 2, .int .i64 0, .int .i64 1]) 0 0 rfl rfl rfl sz_32 rfl rfl (ones rfl) (Nat.le_of_ble_eq_true rfl) ?_)
  refine L_nil ?_
  refine C_seq ?_
  refine C_region ?_
  refine L_y rfl (y_loadA rfl ag_32 sz_32 (sees 3 0 rfl) (Nat.le_of_ble_eq_true rfl) rfl) rfl ?_
  refine L_y rfl (y_build (vs := [(0, _), (1, _), (2, _)]) (l := [.int .i64 1, .int .i64 1, .int .i64 1]) rfl pl_32 zl_32 rfl) rfl ?_
  refine L_y rfl (y_eqst (xs := [1, 1, 1]) (ys := [1, 1, 1]) rfl rfl fi_32 eg_32 rfl rfl) rfl ?_
  refine L_y rfl (y_move rfl) rfl ?_
  refine L_case 28 rfl (fun hg4_4 => ?_) (fun hg4_4 => ?_)
  · skip
    refine L_y rfl (y_loadA rfl ag_32 sz_32 (sees 0 0 rfl) (Nat.le_of_ble_eq_true rfl) rfl) rfl ?_
    refine L_y rfl (y_build (vs := [(0, _), (2, _)]) (l := [.int .i64 2, .int .i64 0, .int .i64 1]) rfl pl_32 zl_32 rfl) rfl ?_
    refine L_y rfl (y_eqst (xs := [2, 0, 1]) (ys := [2, 0, 1]) rfl rfl fi_32 eg_32 rfl rfl) rfl ?_
    refine L_y rfl (y_pick_t rfl rfl) rfl ?_
    refine L_y rfl (y_assign rfl) rfl ?_
    refine L_nil ?_
    refine C_ret ?_
    refine B_ret (rv_tmp rfl rv_nil) (hsub (.cons _ (.cons _ (.cons _ (.cons _ (.cons _ (.cons _ (.cons _ (.cons _ (.cons _ (.refl _))))))))))) ?_
    exact ⟨ret_bool (by simp), rfl⟩
  · exact absurd hg4_4 (by simp)

end Go.Proofs.Ytoaalclbplgegaa
