/- walks (own work; the walks' lines by a program of this repo). -/
import Derived.Test.YthlkpbdnfdagfaaXuW
import Derived.Test.YthlkpbdnfdagfaaFb
set_option linter.unusedVariables false
set_option linter.unusedSimpArgs false
set_option maxRecDepth 20000
namespace Go.Proofs.Ythlkpbdnfdagfaa
open Go.Sl
attribute [local irreducible] BodyQ WpC WpL WpS WpH OpW FnS


theorem awake11_s {w0 : World} {H : Hp} : FnS Try.prog w0 10 #[] H (fun e H' => e = .returned (.bool true) ∧ H' = H) := by
  refine FnS_intro (n := 68) (rs := [.tmp 0]) (vs := []) Try.func10 rfl Try.ntmps10 rfl rfl ?_
  refine C_seq ?_
  refine C_region ?_
  refine L_y rfl (y_assign rfl) rfl ?_
  refine L_nil ?_
  refine C_seq ?_
  refine C_region ?_
  refine L_y rfl (y_build0 pl_33 zl_33) rfl ?_
  refine L_y rfl (y_makeIface rfl Try.underlying33 rfl) rfl ?_
  refine L_op rfl (op_buildSlice (vs := [(0, _), (1, _), (2, _)]) rfl Try.underlying23 sz_5 zl_5 rfl (by decide) (fill_cons (off := 0) (m := 1) (vs := [_]) rfl rfl rfl (Nat.le_of_ble_eq_true rfl) (fill_cons (off := 1) (m := 1) (vs := [_]) rfl rfl rfl (Nat.le_of_ble_eq_true rfl) (fill_cons (off := 2) (m := 1) (vs := [_]) rfl rfl rfl (Nat.le_of_ble_eq_true rfl) rfl))) rfl (fun B1 => ?_))
  refine L_op rfl (op_markBytes 0 0 rfl rfl Try.underlying23 Try.underlying23 Try.underlying5 rfl rfl ?_)
  refine L_op rfl (op_call rfl rfl (fun a w => Try.call11 a w) rfl ?_)
  refine FnS.mono (pack_v 7 (by decide) abc (slh_raw (holds_bytes (sees 0 0 rfl) (by rfl)) rfl) 5) ?_
  rintro _ _ ⟨rfl, e⟩
  obtain rfl := e.symm
  rw [abc_R, show decide (packOk 5 abc) = true from by decide]
  refine ⟨_, rfl, ?_⟩
  refine L_y rfl (y_move rfl) rfl ?_
  refine L_y rfl (y_extract rfl rfl) rfl ?_
  refine L_y rfl (y_extract rfl rfl) rfl ?_
  refine L_op rfl (op_alloc zl_26 rfl (fun B2 => ?_))
  refine L_op rfl (op_storeA 0 0 rfl rfl rfl sz_26 (by rw [bs_length, abc_len]) rfl (bs_one _) (by simp) ?_)
  refine L_y rfl (y_assign rfl) rfl ?_
  refine L_nil ?_
  refine C_seq ?_
  refine C_region ?_
  refine L_y rfl (y_build0 pl_33 zl_33) rfl ?_
  refine L_y rfl (y_makeIface rfl Try.underlying33 rfl) rfl ?_
  refine L_y rfl (y_loadA rfl ag_26 sz_26 (sees 0 0 rfl) (by rw [bs_length, abc_len]; decide) (bs_whole0 _ (abc_len))) rfl ?_
  refine L_op rfl (op_call rfl rfl (fun a w => Try.call14 a w) rfl ?_)
  refine FnS.mono (unpack_u 5 abcS abc_len) ?_
  rintro _ _ ⟨g1, hg1, rfl, rfl⟩
  rw [abc_unp.1, abc_unp.2.1, decide_eq_true abc_unp.2.2]
  rw [abc_unp.2.1] at hg1
  refine ⟨_, rfl, ?_⟩
  refine L_y rfl (y_move rfl) rfl ?_
  refine L_y rfl (y_extract rfl rfl) rfl ?_
  refine L_y rfl (y_extract rfl rfl) rfl ?_
  refine L_y rfl (y_extract rfl rfl) rfl ?_
  refine L_y rfl (y_assign rfl) rfl ?_
  refine L_y rfl (y_assign rfl) rfl ?_
  refine L_y rfl (y_assign rfl) rfl ?_
  refine L_nil ?_
  refine C_seq ?_
  refine C_region ?_
  refine L_y rfl (y_build0 pl_33 zl_33) rfl ?_
  refine L_y rfl (y_makeIface rfl Try.underlying33 rfl) rfl ?_
  refine L_y rfl (y_loadA rfl ag_26 sz_26 (sees 1 0 rfl) (by rw [bs_length, abc_len]; decide) (bs_whole0 _ (abc_len))) rfl ?_
  refine L_op rfl (op_call rfl rfl (fun a w => Try.call14 a w) rfl ?_)
  refine FnS.mono (unpack_u 6 abcS abc_len) ?_
  rintro _ _ ⟨g2, hg2, rfl, rfl⟩
  rw [decide_eq_false abc_other]
  refine ⟨_, rfl, ?_⟩
  refine L_y rfl (y_move rfl) rfl ?_
  refine L_y rfl (y_extract rfl rfl) rfl ?_
  refine L_y rfl (y_extract rfl rfl) rfl ?_
  refine L_y rfl (y_extract rfl rfl) rfl ?_
  refine L_y rfl (y_assign rfl) rfl ?_
  refine L_y rfl (y_assign rfl) rfl ?_
  refine L_y rfl (y_assign rfl) rfl ?_
  refine L_nil ?_
  refine C_seq ?_
  refine C_region ?_
  refine L_y rfl (y_build0 pl_33 zl_33) rfl ?_
  refine L_y rfl (y_makeIface rfl Try.underlying33 rfl) rfl ?_
  refine L_op rfl (op_makeSlice rfl Try.underlying23 by_5 sz_5 zl_5 rfl (by omega) (by omega) (by omega) rfl (fun B3 => ?_))
  refine L_op rfl (op_call rfl rfl (fun a w => Try.call11 a w) rfl ?_)
  refine FnS.mono (pack_v 7 (by decide) (List.replicate 104 0) (slh_raw (holds_bytes (sees 0 0 rfl) (by rfl)) rfl) 5) ?_
  rintro _ _ ⟨rfl, e⟩
  obtain rfl := e.symm
  rw [show decide (packOk 5 (List.replicate 104 0)) = false from by decide]
  refine ⟨_, rfl, ?_⟩
  refine L_y rfl (y_move rfl) rfl ?_
  refine L_y rfl (y_extract rfl rfl) rfl ?_
  refine L_y rfl (y_extract rfl rfl) rfl ?_
  refine L_op rfl (op_alloc zl_26 rfl (fun B4 => ?_))
  refine L_op rfl (op_storeA 0 0 rfl rfl rfl sz_26 (by rw [bs_length, packR_len _ _ _]) rfl (bs_one _) (by simp) ?_)
  refine L_y rfl (y_assign rfl) rfl ?_
  refine L_nil ?_
  refine C_seq ?_
  refine C_region ?_
  refine L_y rfl (y_move rfl) rfl ?_
  refine L_y rfl (y_move rfl) rfl ?_
  refine L_y rfl (y_move rfl) rfl ?_
  refine L_y rfl (y_pick_t rfl rfl) rfl ?_
  refine L_y rfl (y_move rfl) rfl ?_
  refine L_y rfl (y_move rfl) rfl ?_
  refine L_y rfl (y_eqi rfl rfl) rfl ?_
  refine L_y rfl (y_pick_t rfl rfl) rfl ?_
  refine L_y rfl (y_move rfl) rfl ?_
  refine L_y rfl (y_move rfl) rfl ?_
  refine L_y rfl (y_strV rfl Try.underlying23 Try.underlying5 Try.underlying9 (slh_v 3 rfl hg1 rfl)) rfl ?_
  refine L_y rfl (y_eqstr rfl rfl) rfl ?_
  refine L_y rfl (y_pick_t rfl rfl) rfl ?_
  refine L_y rfl (y_move rfl) rfl ?_
  refine L_case 55 rfl (fun hg5_14 => ?_) (fun hg5_14 => ?_)
  · skip
    refine L_y rfl (y_move rfl) rfl ?_
    refine L_y rfl (y_not rfl) rfl ?_
    refine L_y rfl (y_pick_t rfl rfl) rfl ?_
    refine L_y rfl (y_move rfl) rfl ?_
    refine L_y rfl (y_move rfl) rfl ?_
    refine L_y rfl (y_not rfl) rfl ?_
    refine L_y rfl (y_pick_t rfl rfl) rfl ?_
    refine L_y rfl (y_move rfl) rfl ?_
    refine L_y rfl (y_indexA rfl rfl Try.underlying26 sz_5 (by omega) (by omega) (show _ = 24 from rfl)) rfl ?_
    refine L_y rfl (y_load rfl ag_5 (sees 4 0 rfl) abc_3) rfl ?_
    refine L_y rfl (y_eqi rfl rfl) rfl ?_
    refine L_y rfl (y_pick_t rfl rfl) rfl ?_
    refine L_y rfl (y_assign rfl) rfl ?_
    refine L_nil ?_
    refine C_ret ?_
    refine B_ret (rv_tmp rfl rv_nil) (hsub (.cons _ (.cons _ (.cons _ (.cons _ (.cons _ (.cons _ (.refl _)))))))) ?_
    exact ⟨ret_bool (by simp), rfl⟩
  · exact absurd hg5_14 (by decide)

end Go.Proofs.Ythlkpbdnfdagfaa
