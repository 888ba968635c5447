/- walks (own work; the walks' lines by a program of this repo). -/
import Derived.Test.YtfijmjolchdkfaaFa
import Derived.Test.YtfijmjolchdkfaaDv
set_option linter.unusedVariables false
set_option linter.unusedSimpArgs false
set_option maxRecDepth 20000
namespace Go.Proofs.Ytfijmjolchdkfaa
open Go.Sl
attribute [local irreducible] BodyQ WpC WpL WpS WpH OpW FnS

abbrev dt : DT := ⟨95, 32, 117, 1, 98, 48⟩

theorem down_s {w0 : World} {H : Hp} (d : Dv) (p : Pw) (hD : Sees (fun w => St w0 w H) d.b (.cells d.cells.toArray dt.dev)) (hP : Sees (fun w => St w0 w H) d.pw (.cells p.cells.toArray dt.pow)) : FnS Try.prog w0 60 #[ptr d.b] H (fun e H' => e = .returned (.bool (d.a.out || p.a.off)) ∧ H' = H) := by
  refine FnS_intro (n := 16) (rs := [.tmp 2]) (vs := [ptr d.b]) Try.func60 rfl Try.ntmps60 rfl rfl ?_
  refine C_seq ?_
  refine C_region ?_
  refine L_y rfl (y_assign rfl) rfl ?_
  refine L_nil ?_
  refine C_seq ?_
  refine C_region ?_
  refine L_y rfl (y_move rfl) rfl ?_
  refine L_y rfl (y_nilCheck rfl) rfl ?_
  refine L_y rfl (y_fieldAddr rfl fl_95_6) rfl ?_
  refine L_y rfl (y_load rfl ag_4 (hD) rfl) rfl ?_
  refine L_y rfl (y_move rfl) rfl ?_
  refine L_case 7 rfl (fun hg1_5 => ?_) (fun hg1_5 => ?_)
  · skip
    refine L_skip rfl rfl ?_
    refine L_skip rfl rfl ?_
    refine L_skip rfl rfl ?_
    refine L_skip rfl rfl ?_
    refine L_skip rfl rfl ?_
    refine L_skip rfl rfl ?_
    refine L_skip rfl rfl ?_
    refine L_y rfl (y_pick_t rfl rfl) rfl ?_
    refine L_y rfl (y_assign rfl) rfl ?_
    refine L_nil ?_
    refine C_ret ?_
    refine B_ret (rv_tmp rfl rv_nil) (HSub.refl _) ?_
    refine ⟨ret_bool ?_, rfl⟩
    simp_all
  · skip
    refine L_y rfl (y_move rfl) rfl ?_
    refine L_y rfl (y_nilCheck rfl) rfl ?_
    refine L_y rfl (y_fieldAddr rfl fl_95_0) rfl ?_
    refine L_y rfl (y_load rfl ag_43 (hD) rfl) rfl ?_
    refine L_y rfl (y_nilCheck rfl) rfl ?_
    refine L_y rfl (y_fieldAddr rfl fl_98_0) rfl ?_
    refine L_y rfl (y_load rfl ag_4 (hP) rfl) rfl ?_
    refine L_y rfl (y_pick_f rfl rfl) rfl ?_
    refine L_y rfl (y_assign rfl) rfl ?_
    refine L_nil ?_
    refine C_ret ?_
    refine B_ret (rv_tmp rfl rv_nil) (HSub.refl _) ?_
    refine ⟨ret_bool ?_, rfl⟩
    simp_all

theorem there_s {w0 : World} {H : Hp} (d : Dv) (n : Int) (hD : Sees (fun w => St w0 w H) d.b (.cells d.cells.toArray dt.dev)) : FnS Try.prog w0 61 #[ptr d.b, .int .i64 n] H (fun e H' => e = .returned (.bool (decide (0 ≤ n) && decide (n < d.a.S.length))) ∧ H' = H) := by
  refine FnS_intro (n := 16) (rs := [.tmp 4]) (vs := [ptr d.b, .int .i64 n]) Try.func61 rfl Try.ntmps61 rfl rfl ?_
  refine C_seq ?_
  refine C_region ?_
  refine L_y rfl (y_assign rfl) rfl ?_
  refine L_nil ?_
  refine C_seq ?_
  refine C_region ?_
  refine L_y rfl (y_move rfl) rfl ?_
  refine L_y rfl (y_geq rfl rfl) rfl ?_
  refine L_y rfl (y_move rfl) rfl ?_
  refine L_case 7 rfl (fun hg1_3 => ?_) (fun hg1_3 => ?_)
  · skip
    refine L_y rfl (y_move rfl) rfl ?_
    refine L_y rfl (y_move rfl) rfl ?_
    refine L_y rfl (y_nilCheck rfl) rfl ?_
    refine L_y rfl (y_fieldAddr rfl fl_95_1) rfl ?_
    refine L_y rfl (y_load rfl ag_40 (hD) rfl) rfl ?_
    refine L_y rfl (y_lenS rfl rfl Try.underlying40) rfl ?_
    refine L_y rfl (y_lss rfl rfl) rfl ?_
    refine L_y rfl (y_pick_t rfl rfl) rfl ?_
    refine L_y rfl (y_assign rfl) rfl ?_
    refine L_nil ?_
    refine C_ret ?_
    refine B_ret (rv_tmp rfl rv_nil) (HSub.refl _) ?_
    refine ⟨ret_bool ?_, rfl⟩
    simp_all <;> omega
  · skip
    refine L_skip rfl rfl ?_
    refine L_skip rfl rfl ?_
    refine L_skip rfl rfl ?_
    refine L_skip rfl rfl ?_
    refine L_skip rfl rfl ?_
    refine L_skip rfl rfl ?_
    refine L_skip rfl rfl ?_
    refine L_y rfl (y_pick_f rfl rfl) rfl ?_
    refine L_y rfl (y_assign rfl) rfl ?_
    refine L_nil ?_
    refine C_ret ?_
    refine B_ret (rv_tmp rfl rv_nil) (HSub.refl _) ?_
    refine ⟨ret_bool ?_, rfl⟩
    simp_all <;> omega

theorem len_s {w0 : World} {H : Hp} (d : Dv) (hD : Sees (fun w => St w0 w H) d.b (.cells d.cells.toArray dt.dev)) : FnS Try.prog w0 49 #[ptr d.b] H (fun e H' => e = .returned (.int .i64 (d.a.S.length : Int)) ∧ H' = H) := by
  refine FnS_intro (n := 10) (rs := [.tmp 2]) (vs := [ptr d.b]) Try.func49 rfl Try.ntmps49 rfl rfl ?_
  refine C_seq ?_
  refine C_region ?_
  refine L_y rfl (y_assign rfl) rfl ?_
  refine L_nil ?_
  refine C_seq ?_
  refine C_seq ?_
  refine C_region ?_
  refine L_y rfl (y_move rfl) rfl ?_
  refine L_y rfl (y_eqp rfl rfl Try.underlying24) rfl ?_
  refine L_nil ?_
  refine C_cond_f rfl ?_
  refine C_skip ?_
  refine C_seq ?_
  refine C_region ?_
  refine L_y rfl (y_move rfl) rfl ?_
  refine L_y rfl (y_nilCheck rfl) rfl ?_
  refine L_y rfl (y_fieldAddr rfl fl_95_1) rfl ?_
  refine L_y rfl (y_load rfl ag_40 (hD) rfl) rfl ?_
  refine L_y rfl (y_lenS rfl rfl Try.underlying40) rfl ?_
  refine L_y rfl (y_assign rfl) rfl ?_
  refine L_nil ?_
  refine C_ret ?_
  refine B_ret (rv_tmp rfl rv_nil) (HSub.refl _) ?_
  exact ⟨rfl, rfl⟩

theorem len_nil {w0 : World} {H : Hp}  : FnS Try.prog w0 49 #[.pointer none] H (fun e H' => e = .returned (.int .i64 0) ∧ H' = H) := by
  refine FnS_intro (n := 10) (rs := [.tmp 2]) (vs := [.pointer none]) Try.func49 rfl Try.ntmps49 rfl rfl ?_
  refine C_seq ?_
  refine C_region ?_
  refine L_y rfl (y_assign rfl) rfl ?_
  refine L_nil ?_
  refine C_seq ?_
  refine C_seq ?_
  refine C_region ?_
  refine L_y rfl (y_move rfl) rfl ?_
  refine L_y rfl (y_eqp rfl rfl Try.underlying24) rfl ?_
  refine L_nil ?_
  refine C_cond_t rfl ?_
  refine C_seq ?_
  refine C_region ?_
  refine L_y rfl (y_assign rfl) rfl ?_
  refine L_nil ?_
  refine C_ret ?_
  refine B_ret (rv_tmp rfl rv_nil) (HSub.refl _) ?_
  exact ⟨rfl, rfl⟩

theorem waiting_s {w0 : World} {H : Hp} (d : Dv) (hd : d.ok) (hD : Sees (fun w => St w0 w H) d.b (.cells d.cells.toArray dt.dev)) : FnS Try.prog w0 46 #[ptr d.b] H (fun e H' => e = .returned (.int .i64 (d.a.Q.length : Int)) ∧ H' = H) := by
  refine FnS_intro (n := 10) (rs := [.tmp 2]) (vs := [ptr d.b]) Try.func46 rfl Try.ntmps46 rfl rfl ?_
  refine C_seq ?_
  refine C_region ?_
  refine L_y rfl (y_assign rfl) rfl ?_
  refine L_nil ?_
  refine C_seq ?_
  refine C_seq ?_
  refine C_region ?_
  refine L_y rfl (y_move rfl) rfl ?_
  refine L_y rfl (y_eqp rfl rfl Try.underlying24) rfl ?_
  refine L_nil ?_
  refine C_cond_f rfl ?_
  refine C_skip ?_
  refine C_seq ?_
  refine C_region ?_
  refine L_y rfl (y_move rfl) rfl ?_
  refine L_y rfl (y_nilCheck rfl) rfl ?_
  refine L_y rfl (y_fieldAddr rfl fl_95_2) rfl ?_
  refine L_y rfl (y_load rfl ag_93 (hD) rfl) rfl ?_
  refine L_y rfl (y_lenV hd.2.1 rfl rfl Try.underlying93) rfl ?_
  refine L_y rfl (y_assign rfl) rfl ?_
  refine L_nil ?_
  refine C_ret ?_
  refine B_ret (rv_tmp rfl rv_nil) (HSub.refl _) ?_
  exact ⟨rfl, rfl⟩

theorem waiting_nil {w0 : World} {H : Hp}  : FnS Try.prog w0 46 #[.pointer none] H (fun e H' => e = .returned (.int .i64 0) ∧ H' = H) := by
  refine FnS_intro (n := 10) (rs := [.tmp 2]) (vs := [.pointer none]) Try.func46 rfl Try.ntmps46 rfl rfl ?_
  refine C_seq ?_
  refine C_region ?_
  refine L_y rfl (y_assign rfl) rfl ?_
  refine L_nil ?_
  refine C_seq ?_
  refine C_seq ?_
  refine C_region ?_
  refine L_y rfl (y_move rfl) rfl ?_
  refine L_y rfl (y_eqp rfl rfl Try.underlying24) rfl ?_
  refine L_nil ?_
  refine C_cond_t rfl ?_
  refine C_seq ?_
  refine C_region ?_
  refine L_y rfl (y_assign rfl) rfl ?_
  refine L_nil ?_
  refine C_ret ?_
  refine B_ret (rv_tmp rfl rv_nil) (HSub.refl _) ?_
  exact ⟨rfl, rfl⟩

theorem tear_s {w0 : World} {H : Hp} (d : Dv) (k m : Int) : FnS Try.prog w0 28 #[ptr d.b, .int .i64 k, .int .i64 m] (d.o dt :: H) (fun e H' => e = .returned (.tuple #[]) ∧ H' = ({ d with a := d.a.tear k m } : Dv).o dt :: H) := by
  have e1 : (((max k 0).toNat : Nat) : Int) = max k 0 := by omega
  have e2 : (((min (max m 0) 128).toNat : Nat) : Int) = min (max m 0) 128 := by omega
  refine FnS_intro (n := 19) (rs := []) (vs := [ptr d.b, .int .i64 k, .int .i64 m]) Try.func28 rfl Try.ntmps28 rfl rfl ?_
  refine C_seq ?_
  refine C_region ?_
  refine L_y rfl (y_move rfl) rfl ?_
  refine L_y rfl (y_nep rfl rfl Try.underlying24) rfl ?_
  refine L_nil ?_
  refine C_cond_t rfl ?_
  refine C_region ?_
  refine L_y rfl (y_move rfl) rfl ?_
  refine L_y rfl (y_move rfl) rfl ?_
  refine L_y rfl (y_move rfl) rfl ?_
  refine L_y rfl (y_max rfl rfl) rfl ?_
  refine L_y rfl (y_move rfl) rfl ?_
  refine L_y rfl (y_max rfl rfl) rfl ?_
  refine L_y rfl (y_min rfl rfl) rfl ?_
  refine L_y rfl (y_nilCheck rfl) rfl ?_
  refine L_y rfl (y_fieldAddr rfl fl_95_3) rfl ?_
  refine L_op rfl (op_store1 0 0 rfl rfl rfl sz_3 rfl (Nat.le_of_ble_eq_true rfl) ?_)
  refine L_y rfl (y_nilCheck rfl) rfl ?_
  refine L_y rfl (y_fieldAddr rfl fl_95_4) rfl ?_
  refine L_op rfl (op_store1 0 0 rfl rfl rfl sz_3 rfl (Nat.le_of_ble_eq_true rfl) ?_)
  refine L_nil ?_
  refine B_end rv_nil (HSub.refl _) ?_
  refine ⟨rfl, ?_⟩
  simp only [Dv.o, Dv.cells, Ab.tear, e1, e2]
  rfl

theorem tear_nil {w0 : World} {H : Hp} (k m : Int) : FnS Try.prog w0 28 #[.pointer none, .int .i64 k, .int .i64 m] H (fun e H' => e = .returned (.tuple #[]) ∧ H' = H) := by
  refine FnS_intro (n := 19) (rs := []) (vs := [.pointer none, .int .i64 k, .int .i64 m]) Try.func28 rfl Try.ntmps28 rfl rfl ?_
  refine C_seq ?_
  refine C_region ?_
  refine L_y rfl (y_move rfl) rfl ?_
  refine L_y rfl (y_nep rfl rfl Try.underlying24) rfl ?_
  refine L_nil ?_
  refine C_cond_f rfl ?_
  refine C_skip ?_
  refine B_end rv_nil (HSub.refl _) ?_
  exact ⟨rfl, rfl⟩

theorem out_t {w0 : World} {H : Hp} (d : Dv) : FnS Try.prog w0 34 #[ptr d.b, .bool true] (d.o dt :: H) (fun e H' => e = .returned (.tuple #[]) ∧ H' = ({ d with g := none, a := { d.a with Q := [], out := true } } : Dv).o dt :: H) := by
  refine FnS_intro (n := 14) (rs := []) (vs := [ptr d.b, .bool true]) Try.func34 rfl Try.ntmps34 rfl rfl ?_
  refine C_seq ?_
  refine C_seq ?_
  refine C_region ?_
  refine L_y rfl (y_move rfl) rfl ?_
  refine L_y rfl (y_eqp rfl rfl Try.underlying24) rfl ?_
  refine L_nil ?_
  refine C_cond_f rfl ?_
  refine C_skip ?_
  refine C_seq ?_
  refine C_seq ?_
  refine C_region ?_
  refine L_y rfl (y_move rfl) rfl ?_
  refine L_nil ?_
  refine C_cond_t rfl ?_
  refine C_region ?_
  refine L_y rfl (y_move rfl) rfl ?_
  refine L_y rfl (y_nilCheck rfl) rfl ?_
  refine L_y rfl (y_fieldAddr rfl fl_95_2) rfl ?_
  refine L_op rfl (op_store1 0 0 rfl rfl rfl sz_93 rfl (Nat.le_of_ble_eq_true rfl) ?_)
  refine L_nil ?_
  refine C_region ?_
  refine L_y rfl (y_move rfl) rfl ?_
  refine L_y rfl (y_move rfl) rfl ?_
  refine L_y rfl (y_nilCheck rfl) rfl ?_
  refine L_y rfl (y_fieldAddr rfl fl_95_6) rfl ?_
  refine L_op rfl (op_store1 0 0 rfl rfl rfl sz_4 rfl (Nat.le_of_ble_eq_true rfl) ?_)
  refine L_nil ?_
  refine B_end rv_nil (HSub.refl _) ?_
  exact ⟨rfl, rfl⟩

theorem out_f {w0 : World} {H : Hp} (d : Dv) : FnS Try.prog w0 34 #[ptr d.b, .bool false] (d.o dt :: H) (fun e H' => e = .returned (.tuple #[]) ∧ H' = ({ d with a := { d.a with out := false } } : Dv).o dt :: H) := by
  refine FnS_intro (n := 14) (rs := []) (vs := [ptr d.b, .bool false]) Try.func34 rfl Try.ntmps34 rfl rfl ?_
  refine C_seq ?_
  refine C_seq ?_
  refine C_region ?_
  refine L_y rfl (y_move rfl) rfl ?_
  refine L_y rfl (y_eqp rfl rfl Try.underlying24) rfl ?_
  refine L_nil ?_
  refine C_cond_f rfl ?_
  refine C_skip ?_
  refine C_seq ?_
  refine C_seq ?_
  refine C_region ?_
  refine L_y rfl (y_move rfl) rfl ?_
  refine L_nil ?_
  refine C_cond_f rfl ?_
  refine C_skip ?_
  refine C_region ?_
  refine L_y rfl (y_move rfl) rfl ?_
  refine L_y rfl (y_move rfl) rfl ?_
  refine L_y rfl (y_nilCheck rfl) rfl ?_
  refine L_y rfl (y_fieldAddr rfl fl_95_6) rfl ?_
  refine L_op rfl (op_store1 0 0 rfl rfl rfl sz_4 rfl (Nat.le_of_ble_eq_true rfl) ?_)
  refine L_nil ?_
  refine B_end rv_nil (HSub.refl _) ?_
  exact ⟨rfl, rfl⟩

theorem out_nil {w0 : World} {H : Hp} (on : Bool) : FnS Try.prog w0 34 #[.pointer none, .bool on] H (fun e H' => e = .returned (.tuple #[]) ∧ H' = H) := by
  refine FnS_intro (n := 14) (rs := []) (vs := [.pointer none, .bool on]) Try.func34 rfl Try.ntmps34 rfl rfl ?_
  refine C_seq ?_
  refine C_seq ?_
  refine C_region ?_
  refine L_y rfl (y_move rfl) rfl ?_
  refine L_y rfl (y_eqp rfl rfl Try.underlying24) rfl ?_
  refine L_nil ?_
  refine C_cond_t rfl ?_
  refine C_ret ?_
  refine B_ret rv_nil (HSub.refl _) ?_
  exact ⟨rfl, rfl⟩

theorem fail_s {w0 : World} {H : Hp} (p : Pw) (n : Int) : FnS Try.prog w0 29 #[ptr p.b, .int .i64 n] (p.o dt :: H) (fun e H' => e = .returned (.tuple #[]) ∧ H' = ({ p with a := p.a.fail n } : Pw).o dt :: H) := by
  refine FnS_intro (n := 15) (rs := []) (vs := [ptr p.b, .int .i64 n]) Try.func29 rfl Try.ntmps29 rfl rfl ?_
  refine C_seq ?_
  refine C_region ?_
  refine L_y rfl (y_move rfl) rfl ?_
  refine L_y rfl (y_nep rfl rfl Try.underlying43) rfl ?_
  refine L_nil ?_
  refine C_cond_t rfl ?_
  refine C_region ?_
  refine L_y rfl (y_move rfl) rfl ?_
  refine L_y rfl (y_move rfl) rfl ?_
  refine L_y rfl (y_move rfl) rfl ?_
  refine L_y rfl (y_move rfl) rfl ?_
  refine L_y rfl (y_geq rfl rfl) rfl ?_
  refine L_y rfl (y_nilCheck rfl) rfl ?_
  refine L_y rfl (y_fieldAddr rfl fl_98_1) rfl ?_
  refine L_op rfl (op_store1 0 0 rfl rfl rfl sz_3 rfl (Nat.le_of_ble_eq_true rfl) ?_)
  refine L_y rfl (y_nilCheck rfl) rfl ?_
  refine L_y rfl (y_fieldAddr rfl fl_98_2) rfl ?_
  refine L_op rfl (op_store1 0 0 rfl rfl rfl sz_4 rfl (Nat.le_of_ble_eq_true rfl) ?_)
  refine L_nil ?_
  refine B_end rv_nil (HSub.refl _) ?_
  exact ⟨rfl, rfl⟩

theorem fail_nil {w0 : World} {H : Hp} (n : Int) : FnS Try.prog w0 29 #[.pointer none, .int .i64 n] H (fun e H' => e = .returned (.tuple #[]) ∧ H' = H) := by
  refine FnS_intro (n := 15) (rs := []) (vs := [.pointer none, .int .i64 n]) Try.func29 rfl Try.ntmps29 rfl rfl ?_
  refine C_seq ?_
  refine C_region ?_
  refine L_y rfl (y_move rfl) rfl ?_
  refine L_y rfl (y_nep rfl rfl Try.underlying43) rfl ?_
  refine L_nil ?_
  refine C_cond_f rfl ?_
  refine C_skip ?_
  refine B_end rv_nil (HSub.refl _) ?_
  exact ⟨rfl, rfl⟩

end Go.Proofs.Ytfijmjolchdkfaa
