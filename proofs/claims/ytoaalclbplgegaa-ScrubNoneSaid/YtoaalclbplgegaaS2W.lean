/- walks (own work; the walks' lines by a program of this repo). -/
import Derived.Test.YtoaalclbplgegaaSkW
set_option linter.unusedVariables false
set_option linter.unusedSimpArgs false
set_option maxRecDepth 20000
namespace Go.Proofs.Ytoaalclbplgegaa
open Go.Sl
attribute [local irreducible] BodyQ WpC WpL WpS WpH OpW FnS


theorem report_z {w0 : World} {H : Hp} {wb : Nat} (hW : Sees (fun w => St w0 w H) wb (.cells [Value.pointer none, .int .i64 0, .int .i64 0, .int .i64 0, .int .i64 0].toArray 51)) : FnS Try.prog w0 21 #[ptr wb] H (fun e H' => e = .returned (.agg [Value.int .i64 0, .int .i64 0, .int .i64 0].toArray) ∧ H' = H) := by
  refine FnS_intro (n := 10) (rs := [.cell 2 32]) (vs := [ptr wb]) Try.func21 rfl Try.ntmps21 rfl rfl ?_
  refine C_seq ?_
  refine C_region ?_
  refine L_op rfl (op_alloc zl_32 rfl (fun B1 => ?_))
  refine L_nil ?_
  refine C_seq ?_
  refine C_seq ?_
  refine C_region ?_
  refine L_y rfl (y_move rfl) rfl ?_
  refine L_y rfl (y_eqp rfl rfl Try.underlying44) rfl ?_
  refine L_nil ?_
  refine C_cond_f rfl ?_
  refine C_skip ?_
  refine C_seq ?_
  refine C_region ?_
  refine L_y rfl (y_move rfl) rfl ?_
  refine L_y rfl (y_nilCheck rfl) rfl ?_
  refine L_y rfl (y_fieldAddr rfl fl_51_2) rfl ?_
  refine L_y rfl (y_loadA rfl ag_32 sz_32 (hW.up) (Nat.le_of_ble_eq_true rfl) rfl) rfl ?_
  refine L_op rfl (op_store 0 0 rfl rfl rfl sz_32 rfl rfl (ones rfl) (by decide) ?_)
  skip
  refine L_nil ?_
  refine C_ret ?_
  refine B_ret (rv_cellA rfl ag_32 sz_32 (sees 0 0 rfl) (Nat.le_of_ble_eq_true rfl) rfl rv_nil) (hsub (.cons _ (.refl _))) ?_
  exact ⟨rfl, rfl⟩

theorem sall_nil {w0 : World} {H : Hp}  : FnS Try.prog w0 16 #[.pointer none] H (fun e H' => e = .returned (.agg [Value.int .i64 0, .int .i64 0, .int .i64 0].toArray) ∧ H' = H) := by
  refine FnS_intro (n := 15) (rs := [.cell 2 32]) (vs := [.pointer none]) Try.func16 rfl Try.ntmps16 rfl rfl ?_
  refine C_seq ?_
  refine C_region ?_
  refine L_op rfl (op_alloc zl_32 rfl (fun B1 => ?_))
  refine L_nil ?_
  refine C_seq ?_
  refine C_region ?_
  refine L_y rfl (y_move rfl) rfl ?_
  refine L_op rfl (op_call rfl rfl (fun a w => Try.call20 a w) rfl ?_)
  refine snew_nil.mono ?_
  rintro _ _ ⟨wb, rfl, rfl⟩
  refine ⟨_, rfl, ?_⟩
  refine L_y rfl (y_assign rfl) rfl ?_
  refine L_nil ?_
  refine C_seq ?_
  refine C_seq ?_
  refine C_region ?_
  refine L_y rfl (y_assign rfl) rfl ?_
  refine L_nil ?_
  refine C_block ?_
  refine C_loopIn (In_round ?_)
  refine C_seq ?_
  refine C_seq ?_
  refine C_region ?_
  refine L_y rfl (y_move rfl) rfl ?_
  refine L_nil ?_
  refine C_cond_t rfl ?_
  refine C_skip ?_
  refine C_block ?_
  refine C_region ?_
  refine L_y rfl (y_move rfl) rfl ?_
  refine L_op rfl (op_call rfl rfl (fun a w => Try.call22 a w) rfl ?_)
  refine (step_zero (sees 0 0 rfl)).mono ?_
  rintro _ _ ⟨rfl, e⟩
  obtain rfl := e.symm
  refine ⟨_, rfl, ?_⟩
  refine L_y rfl (y_move rfl) rfl ?_
  refine L_y rfl (y_extract rfl rfl) rfl ?_
  refine L_y rfl (y_extract rfl rfl) rfl ?_
  refine L_y rfl (y_assign rfl) rfl ?_
  refine L_nil ?_
  refine In_round ?_
  refine C_seq ?_
  refine C_seq ?_
  refine C_region ?_
  refine L_y rfl (y_move rfl) rfl ?_
  refine L_nil ?_
  refine C_cond_f rfl ?_
  refine C_exit ?_
  refine C_seq ?_
  refine C_region ?_
  refine L_y rfl (y_move rfl) rfl ?_
  refine L_op rfl (op_call rfl rfl (fun a w => Try.call21 a w) rfl ?_)
  refine (report_z (sees 0 0 rfl)).mono ?_
  rintro _ _ ⟨rfl, e⟩
  obtain rfl := e.symm
  refine ⟨_, rfl, ?_⟩
  refine L_op rfl (op_store (vs := [.int .i64 0, .int .i64 0, .int .i64 0]) 1 0 rfl rfl rfl sz_32 rfl rfl (ones rfl) (Nat.le_of_ble_eq_true rfl) ?_)
  refine L_nil ?_
  refine C_ret ?_
  refine B_ret (rv_cellA rfl ag_32 sz_32 (sees 1 0 rfl) (Nat.le_of_ble_eq_true rfl) rfl rv_nil) (hsub (.cons _ (.cons _ (.refl _)))) ?_
  exact ⟨rfl, rfl⟩

theorem scrubnone_s {w0 : World} {H : Hp} (c : Nat) (hc : c < 256) : FnS Try.prog w0 5 #[.int .u8 (c : Int)] H (fun e H' => e = .returned (.bool true)) := by
  refine FnS_intro (n := 62) (rs := [.tmp 2]) (vs := [.int .u8 (c : Int)]) Try.func5 rfl Try.ntmps5 rfl rfl ?_
  refine C_seq ?_
  refine C_region ?_
  refine L_y rfl (y_assign rfl) rfl ?_
  refine L_nil ?_
  refine C_seq ?_
  refine C_seq ?_
  refine C_region ?_
  refine L_op rfl (op_call rfl rfl (fun a w => Try.call13 a w) rfl ?_)
  refine awake10_s.mono ?_
  rintro _ _ ⟨rfl, e⟩
  obtain rfl := e.symm
  refine ⟨_, rfl, ?_⟩
  refine L_y rfl (y_not rfl) rfl ?_
  refine L_nil ?_
  refine C_cond_f rfl ?_
  refine C_skip ?_
  refine C_seq ?_
  refine C_region ?_
  refine L_y rfl (y_assign rfl) rfl ?_
  refine L_nil ?_
  refine C_seq ?_
  refine C_region ?_
  refine L_op rfl (op_alloc zl_51 rfl (fun B1 => ?_))
  refine L_nil ?_
  refine C_seq ?_
  refine C_region ?_
  refine L_op rfl (op_call rfl rfl (fun a w => Try.call20 a w) rfl ?_)
  refine snew_nil.mono ?_
  rintro _ _ ⟨wb, rfl, rfl⟩
  refine ⟨_, rfl, ?_⟩
  refine L_y rfl (y_assign rfl) rfl ?_
  refine L_nil ?_
  refine C_seq ?_
  refine C_seq ?_
  refine C_region ?_
  refine L_y rfl (y_move rfl) rfl ?_
  refine L_y rfl (y_conv rfl us_5 Try.underlying3 (wi64 (by omega) (by omega))) rfl ?_
  refine L_y rfl (y_rem rfl rfl (by decide) (show _ = (((c % 4) : Nat) : Int) from rfl)) rfl ?_
  refine L_y rfl (y_move rfl) rfl ?_
  refine L_nil ?_
  refine C_block ?_
  refine C_loop (ι := Nat) (fun k => [(3, .pointer none), (4, ptr B1), (5, ptr wb), (17, .int .i64 (((c % 4) : Nat) : Int)), (18, .int .i64 (k : Int))]) (fun k => [(wb, .cells [Value.pointer none, .int .i64 0, .int .i64 0, .int .i64 0, .int .i64 0].toArray 51)] :: [(B1, .cells [Value.pointer none, .int .i64 0, .int .i64 0, .int .i64 0, .int .i64 0].toArray 51)] :: H) (fun k => k ≤ (c % 4)) (fun k => (c % 4) - k) 0 (Nat.zero_le _) ⟨rfl, rfl, rfl, rfl, rfl, trivial⟩ (HSub.refl _) (fun k hk => ?_)
  skip
  refine C_seq ?_
  refine C_region ?_
  refine L_y rfl (y_lss rfl rfl) rfl ?_
  refine L_nil ?_
  refine C_seq ?_
  refine C_cond rfl (fun hc1 => ?_) (fun hc1 => ?_)
  · replace hc1 := of_decide_eq_true hc1
    refine C_skip ?_
    refine C_seq ?_
    refine C_block ?_
    refine C_seq ?_
    refine C_region ?_
    refine L_y rfl (y_move rfl) rfl ?_
    refine L_op rfl (op_call rfl rfl (fun a w => Try.call22 a w) rfl ?_)
    refine (step_nil).mono ?_
    rintro _ _ ⟨rfl, e⟩
    obtain rfl := e.symm
    refine ⟨_, rfl, ?_⟩
    refine L_y rfl (y_move rfl) rfl ?_
    refine L_y rfl (y_extract rfl rfl) rfl ?_
    refine L_y rfl (y_extract rfl rfl) rfl ?_
    refine L_y rfl (y_assign rfl) rfl ?_
    refine L_y rfl (y_assign rfl) rfl ?_
    refine L_nil ?_
    refine C_seq ?_
    refine C_region ?_
    refine L_op rfl (op_call rfl rfl (fun a w => Try.call22 a w) rfl ?_)
    refine (step_zero (sees 1 0 rfl)).mono ?_
    rintro _ _ ⟨rfl, e⟩
    obtain rfl := e.symm
    refine ⟨_, rfl, ?_⟩
    refine L_y rfl (y_move rfl) rfl ?_
    refine L_y rfl (y_extract rfl rfl) rfl ?_
    refine L_y rfl (y_extract rfl rfl) rfl ?_
    refine L_y rfl (y_assign rfl) rfl ?_
    refine L_y rfl (y_assign rfl) rfl ?_
    refine L_nil ?_
    refine C_seq ?_
    refine C_region ?_
    refine L_y rfl (y_move rfl) rfl ?_
    refine L_op rfl (op_call rfl rfl (fun a w => Try.call22 a w) rfl ?_)
    refine (step_zero (sees 0 0 rfl)).mono ?_
    rintro _ _ ⟨rfl, e⟩
    obtain rfl := e.symm
    refine ⟨_, rfl, ?_⟩
    refine L_y rfl (y_move rfl) rfl ?_
    refine L_y rfl (y_extract rfl rfl) rfl ?_
    refine L_y rfl (y_extract rfl rfl) rfl ?_
    refine L_y rfl (y_assign rfl) rfl ?_
    refine L_y rfl (y_assign rfl) rfl ?_
    refine L_nil ?_
    refine C_seq ?_
    refine C_region ?_
    refine L_y rfl (y_move rfl) rfl ?_
    refine L_y rfl (y_move rfl) rfl ?_
    refine L_y rfl (y_move rfl) rfl ?_
    refine L_y rfl (y_pick_f rfl rfl) rfl ?_
    refine L_y rfl (y_move rfl) rfl ?_
    refine L_y rfl (y_move rfl) rfl ?_
    refine L_y rfl (y_pick_f rfl rfl) rfl ?_
    refine L_nil ?_
    refine C_cond_f rfl ?_
    refine C_skip ?_
    refine C_region ?_
    refine L_y rfl (y_add rfl rfl (wi64 (by omega) (by omega))) rfl ?_
    refine L_y rfl (y_move rfl) rfl ?_
    refine L_nil ?_
    exact ⟨k + 1, by omega, by omega, ⟨rfl, rfl, rfl, rfl, rfl, trivial⟩, HSub.refl _⟩
  · replace hc1 := of_decide_eq_false hc1
    refine C_exit ?_
    refine C_seq ?_
    refine C_region ?_
    refine L_op rfl (op_call rfl rfl (fun a w => Try.call16 a w) rfl ?_)
    refine (sall_nil).mono ?_
    rintro _ _ ⟨rfl, e⟩
    obtain rfl := e.symm
    refine ⟨_, rfl, ?_⟩
    refine L_y rfl (y_build (vs := []) (l := [.int .i64 0, .int .i64 0, .int .i64 0]) rfl pl_32 zl_32 rfl) rfl ?_
    refine L_y rfl (y_eqst (xs := [0, 0, 0]) (ys := [0, 0, 0]) rfl rfl fi_32 eg_32 rfl rfl) rfl ?_
    refine L_y rfl (y_move rfl) rfl ?_
    refine L_case 45 rfl (fun hg14_4 => ?_) (fun hg14_4 => ?_)
    · skip
      refine L_y rfl (y_move rfl) rfl ?_
      refine L_op rfl (op_call rfl rfl (fun a w => Try.call21 a w) rfl ?_)
      refine (report_nil).mono ?_
      rintro _ _ ⟨rfl, e⟩
      obtain rfl := e.symm
      refine ⟨_, rfl, ?_⟩
      refine L_y rfl (y_build (vs := []) (l := [.int .i64 0, .int .i64 0, .int .i64 0]) rfl pl_32 zl_32 rfl) rfl ?_
      refine L_y rfl (y_eqst (xs := [0, 0, 0]) (ys := [0, 0, 0]) rfl rfl fi_32 eg_32 rfl rfl) rfl ?_
      refine L_y rfl (y_pick_t rfl rfl) rfl ?_
      refine L_y rfl (y_move rfl) rfl ?_
      refine L_case 51 rfl (fun hg14_10 => ?_) (fun hg14_10 => ?_)
      · skip
        refine L_op rfl (op_call rfl rfl (fun a w => Try.call21 a w) rfl ?_)
        refine (report_z (sees 1 0 rfl)).mono ?_
        rintro _ _ ⟨rfl, e⟩
        obtain rfl := e.symm
        refine ⟨_, rfl, ?_⟩
        refine L_y rfl (y_build (vs := []) (l := [.int .i64 0, .int .i64 0, .int .i64 0]) rfl pl_32 zl_32 rfl) rfl ?_
        refine L_y rfl (y_eqst (xs := [0, 0, 0]) (ys := [0, 0, 0]) rfl rfl fi_32 eg_32 rfl rfl) rfl ?_
        refine L_y rfl (y_pick_t rfl rfl) rfl ?_
        refine L_y rfl (y_move rfl) rfl ?_
        refine L_case 56 rfl (fun hg14_15 => ?_) (fun hg14_15 => ?_)
        · skip
          refine L_y rfl (y_move rfl) rfl ?_
          refine L_op rfl (op_call rfl rfl (fun a w => Try.call21 a w) rfl ?_)
          refine (report_z (sees 0 0 rfl)).mono ?_
          rintro _ _ ⟨rfl, e⟩
          obtain rfl := e.symm
          refine ⟨_, rfl, ?_⟩
          refine L_y rfl (y_build (vs := []) (l := [.int .i64 0, .int .i64 0, .int .i64 0]) rfl pl_32 zl_32 rfl) rfl ?_
          refine L_y rfl (y_eqst (xs := [0, 0, 0]) (ys := [0, 0, 0]) rfl rfl fi_32 eg_32 rfl rfl) rfl ?_
          refine L_y rfl (y_pick_t rfl rfl) rfl ?_
          refine L_y rfl (y_assign rfl) rfl ?_
          refine L_nil ?_
          refine C_ret ?_
          refine B_ret (rv_tmp rfl rv_nil) (HSub.refl _) ?_
          exact ret_bool (by simp)
        · exact absurd hg14_15 (by simp)
      · exact absurd hg14_10 (by simp)
    · exact absurd hg14_4 (by simp)

end Go.Proofs.Ytoaalclbplgegaa
