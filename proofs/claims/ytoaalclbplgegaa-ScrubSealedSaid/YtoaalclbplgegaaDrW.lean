/- walks (own work; the walks' lines by a program of this repo). -/
import Derived.Test.YtoaalclbplgegaaFa
import Derived.Test.YtoaalclbplgegaaDv
set_option linter.unusedVariables false
set_option linter.unusedSimpArgs false
set_option maxRecDepth 20000
namespace Go.Proofs.Ytoaalclbplgegaa
open Go.Sl
attribute [local irreducible] BodyQ WpC WpL WpS WpH OpW FnS

abbrev dt : DT := ⟨97, 37, 95, 1, 115, 54⟩

theorem down_s {w0 : World} {H : Hp} (d : Dv) (p : Pw) (hD : Sees (fun w => St w0 w H) d.b (.cells d.cells.toArray dt.dev)) (hP : Sees (fun w => St w0 w H) d.pw (.cells p.cells.toArray dt.pow)) : FnS Try.prog w0 44 #[ptr d.b] H (fun e H' => e = .returned (.bool (d.a.out || p.a.off)) ∧ H' = H) := by
  refine FnS_intro (n := 16) (rs := [.tmp 2]) (vs := [ptr d.b]) Try.func44 rfl Try.ntmps44 rfl rfl ?_
  refine C_seq ?_
  refine C_region ?_
  refine L_y rfl (y_assign rfl) rfl ?_
  refine L_nil ?_
  refine C_seq ?_
  refine C_region ?_
  refine L_y rfl (y_move rfl) rfl ?_
  refine L_y rfl (y_nilCheck rfl) rfl ?_
  refine L_y rfl (y_fieldAddr rfl fl_97_6) rfl ?_
  refine L_y rfl (y_load rfl ag_4 (hD) rfl) rfl ?_
  refine L_y rfl (y_move rfl) rfl ?_
  refine L_case 7 rfl (fun hg1_5 => ?_) (fun hg1_5 => ?_)
  · skip
    refine L_skip rfl rfl ?_
    refine L_skip rfl rfl ?_
    refine L_skip rfl rfl ?_
    refine L_skip rfl rfl ?_
    refine L_skip rfl rfl ?_
    refine L_skip rfl rfl ?_
    refine L_skip rfl rfl ?_
    refine L_y rfl (y_pick_t rfl rfl) rfl ?_
    refine L_y rfl (y_assign rfl) rfl ?_
    refine L_nil ?_
    refine C_ret ?_
    refine B_ret (rv_tmp rfl rv_nil) (HSub.refl _) ?_
    refine ⟨ret_bool ?_, rfl⟩
    simp_all
  · skip
    refine L_y rfl (y_move rfl) rfl ?_
    refine L_y rfl (y_nilCheck rfl) rfl ?_
    refine L_y rfl (y_fieldAddr rfl fl_97_0) rfl ?_
    refine L_y rfl (y_load rfl ag_64 (hD) rfl) rfl ?_
    refine L_y rfl (y_nilCheck rfl) rfl ?_
    refine L_y rfl (y_fieldAddr rfl fl_115_0) rfl ?_
    refine L_y rfl (y_load rfl ag_4 (hP) rfl) rfl ?_
    refine L_y rfl (y_pick_f rfl rfl) rfl ?_
    refine L_y rfl (y_assign rfl) rfl ?_
    refine L_nil ?_
    refine C_ret ?_
    refine B_ret (rv_tmp rfl rv_nil) (HSub.refl _) ?_
    refine ⟨ret_bool ?_, rfl⟩
    simp_all

theorem there_s {w0 : World} {H : Hp} (d : Dv) (n : Int) (hD : Sees (fun w => St w0 w H) d.b (.cells d.cells.toArray dt.dev)) : FnS Try.prog w0 45 #[ptr d.b, .int .i64 n] H (fun e H' => e = .returned (.bool (decide (0 ≤ n) && decide (n < d.a.S.length))) ∧ H' = H) := by
  refine FnS_intro (n := 16) (rs := [.tmp 4]) (vs := [ptr d.b, .int .i64 n]) Try.func45 rfl Try.ntmps45 rfl rfl ?_
  refine C_seq ?_
  refine C_region ?_
  refine L_y rfl (y_assign rfl) rfl ?_
  refine L_nil ?_
  refine C_seq ?_
  refine C_region ?_
  refine L_y rfl (y_move rfl) rfl ?_
  refine L_y rfl (y_geq rfl rfl) rfl ?_
  refine L_y rfl (y_move rfl) rfl ?_
  refine L_case 7 rfl (fun hg1_3 => ?_) (fun hg1_3 => ?_)
  · skip
    refine L_y rfl (y_move rfl) rfl ?_
    refine L_y rfl (y_move rfl) rfl ?_
    refine L_y rfl (y_nilCheck rfl) rfl ?_
    refine L_y rfl (y_fieldAddr rfl fl_97_1) rfl ?_
    refine L_y rfl (y_load rfl ag_26 (hD) rfl) rfl ?_
    refine L_y rfl (y_lenS rfl rfl Try.underlying26) rfl ?_
    refine L_y rfl (y_lss rfl rfl) rfl ?_
    refine L_y rfl (y_pick_t rfl rfl) rfl ?_
    refine L_y rfl (y_assign rfl) rfl ?_
    refine L_nil ?_
    refine C_ret ?_
    refine B_ret (rv_tmp rfl rv_nil) (HSub.refl _) ?_
    refine ⟨ret_bool ?_, rfl⟩
    simp_all <;> omega
  · skip
    refine L_skip rfl rfl ?_
    refine L_skip rfl rfl ?_
    refine L_skip rfl rfl ?_
    refine L_skip rfl rfl ?_
    refine L_skip rfl rfl ?_
    refine L_skip rfl rfl ?_
    refine L_skip rfl rfl ?_
    refine L_y rfl (y_pick_f rfl rfl) rfl ?_
    refine L_y rfl (y_assign rfl) rfl ?_
    refine L_nil ?_
    refine C_ret ?_
    refine B_ret (rv_tmp rfl rv_nil) (HSub.refl _) ?_
    refine ⟨ret_bool ?_, rfl⟩
    simp_all <;> omega

theorem len_s {w0 : World} {H : Hp} (d : Dv) (hD : Sees (fun w => St w0 w H) d.b (.cells d.cells.toArray dt.dev)) : FnS Try.prog w0 55 #[ptr d.b] H (fun e H' => e = .returned (.int .i64 (d.a.S.length : Int)) ∧ H' = H) := by
  refine FnS_intro (n := 10) (rs := [.tmp 2]) (vs := [ptr d.b]) Try.func55 rfl Try.ntmps55 rfl rfl ?_
  refine C_seq ?_
  refine C_region ?_
  refine L_y rfl (y_assign rfl) rfl ?_
  refine L_nil ?_
  refine C_seq ?_
  refine C_seq ?_
  refine C_region ?_
  refine L_y rfl (y_move rfl) rfl ?_
  refine L_y rfl (y_eqp rfl rfl Try.underlying24) rfl ?_
  refine L_nil ?_
  refine C_cond_f rfl ?_
  refine C_skip ?_
  refine C_seq ?_
  refine C_region ?_
  refine L_y rfl (y_move rfl) rfl ?_
  refine L_y rfl (y_nilCheck rfl) rfl ?_
  refine L_y rfl (y_fieldAddr rfl fl_97_1) rfl ?_
  refine L_y rfl (y_load rfl ag_26 (hD) rfl) rfl ?_
  refine L_y rfl (y_lenS rfl rfl Try.underlying26) rfl ?_
  refine L_y rfl (y_assign rfl) rfl ?_
  refine L_nil ?_
  refine C_ret ?_
  refine B_ret (rv_tmp rfl rv_nil) (HSub.refl _) ?_
  exact ⟨rfl, rfl⟩

theorem len_nil {w0 : World} {H : Hp}  : FnS Try.prog w0 55 #[.pointer none] H (fun e H' => e = .returned (.int .i64 0) ∧ H' = H) := by
  refine FnS_intro (n := 10) (rs := [.tmp 2]) (vs := [.pointer none]) Try.func55 rfl Try.ntmps55 rfl rfl ?_
  refine C_seq ?_
  refine C_region ?_
  refine L_y rfl (y_assign rfl) rfl ?_
  refine L_nil ?_
  refine C_seq ?_
  refine C_seq ?_
  refine C_region ?_
  refine L_y rfl (y_move rfl) rfl ?_
  refine L_y rfl (y_eqp rfl rfl Try.underlying24) rfl ?_
  refine L_nil ?_
  refine C_cond_t rfl ?_
  refine C_seq ?_
  refine C_region ?_
  refine L_y rfl (y_assign rfl) rfl ?_
  refine L_nil ?_
  refine C_ret ?_
  refine B_ret (rv_tmp rfl rv_nil) (HSub.refl _) ?_
  exact ⟨rfl, rfl⟩

theorem out_t {w0 : World} {H : Hp} (d : Dv) : FnS Try.prog w0 23 #[ptr d.b, .bool true] (d.o dt :: H) (fun e H' => e = .returned (.tuple #[]) ∧ H' = ({ d with g := none, a := { d.a with Q := [], out := true } } : Dv).o dt :: H) := by
  refine FnS_intro (n := 14) (rs := []) (vs := [ptr d.b, .bool true]) Try.func23 rfl Try.ntmps23 rfl rfl ?_
  refine C_seq ?_
  refine C_seq ?_
  refine C_region ?_
  refine L_y rfl (y_move rfl) rfl ?_
  refine L_y rfl (y_eqp rfl rfl Try.underlying24) rfl ?_
  refine L_nil ?_
  refine C_cond_f rfl ?_
  refine C_skip ?_
  refine C_seq ?_
  refine C_seq ?_
  refine C_region ?_
  refine L_y rfl (y_move rfl) rfl ?_
  refine L_nil ?_
  refine C_cond_t rfl ?_
  refine C_region ?_
  refine L_y rfl (y_move rfl) rfl ?_
  refine L_y rfl (y_nilCheck rfl) rfl ?_
  refine L_y rfl (y_fieldAddr rfl fl_97_2) rfl ?_
  refine L_op rfl (op_store1 0 0 rfl rfl rfl sz_93 rfl (Nat.le_of_ble_eq_true rfl) ?_)
  refine L_nil ?_
  refine C_region ?_
  refine L_y rfl (y_move rfl) rfl ?_
  refine L_y rfl (y_move rfl) rfl ?_
  refine L_y rfl (y_nilCheck rfl) rfl ?_
  refine L_y rfl (y_fieldAddr rfl fl_97_6) rfl ?_
  refine L_op rfl (op_store1 0 0 rfl rfl rfl sz_4 rfl (Nat.le_of_ble_eq_true rfl) ?_)
  refine L_nil ?_
  refine B_end rv_nil (HSub.refl _) ?_
  exact ⟨rfl, rfl⟩

theorem out_f {w0 : World} {H : Hp} (d : Dv) : FnS Try.prog w0 23 #[ptr d.b, .bool false] (d.o dt :: H) (fun e H' => e = .returned (.tuple #[]) ∧ H' = ({ d with a := { d.a with out := false } } : Dv).o dt :: H) := by
  refine FnS_intro (n := 14) (rs := []) (vs := [ptr d.b, .bool false]) Try.func23 rfl Try.ntmps23 rfl rfl ?_
  refine C_seq ?_
  refine C_seq ?_
  refine C_region ?_
  refine L_y rfl (y_move rfl) rfl ?_
  refine L_y rfl (y_eqp rfl rfl Try.underlying24) rfl ?_
  refine L_nil ?_
  refine C_cond_f rfl ?_
  refine C_skip ?_
  refine C_seq ?_
  refine C_seq ?_
  refine C_region ?_
  refine L_y rfl (y_move rfl) rfl ?_
  refine L_nil ?_
  refine C_cond_f rfl ?_
  refine C_skip ?_
  refine C_region ?_
  refine L_y rfl (y_move rfl) rfl ?_
  refine L_y rfl (y_move rfl) rfl ?_
  refine L_y rfl (y_nilCheck rfl) rfl ?_
  refine L_y rfl (y_fieldAddr rfl fl_97_6) rfl ?_
  refine L_op rfl (op_store1 0 0 rfl rfl rfl sz_4 rfl (Nat.le_of_ble_eq_true rfl) ?_)
  refine L_nil ?_
  refine B_end rv_nil (HSub.refl _) ?_
  exact ⟨rfl, rfl⟩

theorem out_nil {w0 : World} {H : Hp} (on : Bool) : FnS Try.prog w0 23 #[.pointer none, .bool on] H (fun e H' => e = .returned (.tuple #[]) ∧ H' = H) := by
  refine FnS_intro (n := 14) (rs := []) (vs := [.pointer none, .bool on]) Try.func23 rfl Try.ntmps23 rfl rfl ?_
  refine C_seq ?_
  refine C_seq ?_
  refine C_region ?_
  refine L_y rfl (y_move rfl) rfl ?_
  refine L_y rfl (y_eqp rfl rfl Try.underlying24) rfl ?_
  refine L_nil ?_
  refine C_cond_t rfl ?_
  refine C_ret ?_
  refine B_ret rv_nil (HSub.refl _) ?_
  exact ⟨rfl, rfl⟩

end Go.Proofs.Ytoaalclbplgegaa
