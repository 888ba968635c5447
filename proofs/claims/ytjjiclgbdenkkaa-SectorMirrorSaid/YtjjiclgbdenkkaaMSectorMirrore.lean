/- Own work: texts SwW, SaW, VaW, VdW, L9W, Rw, Rg, Rs, put together. -/
import Derived.ShutString
import Derived.OpenShut
import Derived.Carry
import Derived.Deep.Slices
import Derived.Test.YtjjiclgbdenkkaaMSectorMirrord
/- walks (own work; the walks' lines by a program of this repo). -/
set_option linter.unusedVariables false
set_option linter.unusedSimpArgs false
set_option maxRecDepth 20000
namespace Go.Proofs.Ytjjiclgbdenkkaa
open Go.Sl
attribute [local irreducible] BodyQ WpC WpL WpS WpH OpW FnS


theorem report_s {w0 : World} {H : Hp} {wb mb : Nat} {nx : Int} {r : Rp} (hW : Sees (fun w => St w0 w H) wb (.cells (wcells mb nx r).toArray 160)) : FnS Try.prog w0 81 #[ptr wb] H (fun e H' => e = .returned (.agg [Value.int .i64 r.1, .int .i64 r.2.1, .int .i64 r.2.2].toArray) ∧ H' = H) := by
  refine FnS_intro (n := 10) (rs := [.cell 2 90]) (vs := [ptr wb]) Try.func81 rfl Try.ntmps81 rfl rfl ?_
  refine C_seq ?_
  refine C_region ?_
  refine L_op rfl (op_alloc zl_90 rfl (fun B1 => ?_))
  refine L_nil ?_
  refine C_seq ?_
  refine C_seq ?_
  refine C_region ?_
  refine L_y rfl (y_move rfl) rfl ?_
  refine L_y rfl (y_eqp rfl rfl Try.underlying140) rfl ?_
  refine L_nil ?_
  refine C_cond_f rfl ?_
  refine C_skip ?_
  refine C_seq ?_
  refine C_region ?_
  refine L_y rfl (y_move rfl) rfl ?_
  refine L_y rfl (y_nilCheck rfl) rfl ?_
  refine L_y rfl (y_fieldAddr rfl fl_160_2) rfl ?_
  refine L_y rfl (y_loadA rfl ag_90 sz_90 (hW.up) (Nat.le_of_ble_eq_true rfl) rfl) rfl ?_
  refine L_op rfl (op_store 0 0 rfl rfl rfl sz_90 rfl rfl (ones rfl) (by decide) ?_)
  skip
  refine L_nil ?_
  refine C_ret ?_
  refine B_ret (rv_cellA rfl ag_90 sz_90 (sees 0 0 rfl) (Nat.le_of_ble_eq_true rfl) rfl rv_nil) (hsub (.cons _ (.refl _))) ?_
  exact ⟨rfl, rfl⟩

theorem snew_s {w0 : World} {H : Hp} {mb : Nat} : FnS Try.prog w0 79 #[ptr mb] H (fun e H' => ∃ wb, e = .returned (ptr wb) ∧ H' = [(wb, .cells [ptr mb, .int .i64 0, .int .i64 0, .int .i64 0, .int .i64 0].toArray 160)] :: H) := by
  refine FnS_intro (n := 6) (rs := [.tmp 2]) (vs := [ptr mb]) Try.func79 rfl Try.ntmps79 rfl rfl ?_
  refine C_seq ?_
  refine C_region ?_
  refine L_y rfl (y_assign rfl) rfl ?_
  refine L_nil ?_
  refine C_seq ?_
  refine C_region ?_
  refine L_y rfl (y_move rfl) rfl ?_
  refine L_y rfl (y_build (vs := [(0, _)]) (l := [ptr mb, .int .i64 0, .int .i64 0, .int .i64 0, .int .i64 0]) rfl pl_160 zl_160 (fill_cons (off := 0) (m := 1) (vs := [_]) rfl rfl rfl (Nat.le_of_ble_eq_true rfl) rfl)) rfl ?_
  refine L_op rfl (op_box rfl rfl rfl (fun B1 => ?_))
  refine L_y rfl (y_assign rfl) rfl ?_
  refine L_nil ?_
  refine C_ret ?_
  refine B_ret (rv_tmp rfl rv_nil) (HSub.refl _) ?_
  exact ⟨B1, rfl, rfl⟩

theorem step_end {w0 : World} {H : Hp} {D : Duo} {A : Da} {bp : Nat} {m : Mi} (h : Two dt D A m.bx m.bys bp) {p : Int → Sec → Bool} {wb : Nat} {nx : Nat} {r : Rp} (hG : GoodAt Try.prog w0 H m.gv p) (hQ : ∀ i, (A.dev i).Q.length < 99990) (hr : 0 ≤ r.1 ∧ r.1 ≤ 5000 ∧ 0 ≤ r.2.1 ∧ r.2.1 ≤ 5000 ∧ 0 ≤ r.2.2 ∧ r.2.2 ≤ 5000) (hn : ¬ nx < m.n) : FnS Try.prog w0 80 #[ptr wb] ([(wb, .cells (wcells m.b (nx : Int) r).toArray 160)] :: m.seg 110 :: D.seg dt :: H) (fun e H' => e = .returned (.tuple #[.int .i64 0, .bool false]) ∧ H' = [(wb, .cells (wcells m.b (nx : Int) r).toArray 160)] :: m.seg 110 :: D.seg dt :: H) := by
  refine FnS_intro (n := 80) (rs := [.tmp 2, .tmp 3]) (vs := [ptr wb]) Try.func80 rfl Try.ntmps80 rfl rfl ?_
  refine C_seq ?_
  refine C_region ?_
  refine L_y rfl (y_assign rfl) rfl ?_
  refine L_y rfl (y_assign rfl) rfl ?_
  refine L_nil ?_
  refine C_seq ?_
  refine C_seq ?_
  refine C_regionH0 (by kernel_rfl) ?_
  refine H_y 0 rfl (by kernel_rfl) (by kernel_rfl) (by kernel_rfl) (HSub.refl _) rfl (y_move rfl) rfl ?_
  refine H_y 1 rfl (by kernel_rfl) (by kernel_rfl) (by kernel_rfl) (HSub.refl _) rfl (y_eqp rfl rfl Try.underlying140) rfl ?_
  refine H_y 2 rfl (by kernel_rfl) (by kernel_rfl) (by kernel_rfl) (HSub.refl _) rfl (y_move rfl) rfl ?_
  refine H_y 3 rfl (by kernel_rfl) (by kernel_rfl) (by kernel_rfl) (HSub.refl _) rfl (y_move rfl) rfl ?_
  refine H_y 4 rfl (by kernel_rfl) (by kernel_rfl) (by kernel_rfl) (HSub.refl _) rfl (y_nilCheck rfl) rfl ?_
  refine H_y 5 rfl (by kernel_rfl) (by kernel_rfl) (by kernel_rfl) (HSub.refl _) rfl (y_fieldAddr rfl fl_160_0) rfl ?_
  refine H_y 6 rfl (by kernel_rfl) (by kernel_rfl) (by kernel_rfl) (HSub.refl _) rfl (y_load rfl ag_26 (sees 0 0 rfl) rfl) rfl ?_
  refine H_y 7 rfl (by kernel_rfl) (by kernel_rfl) (by kernel_rfl) (HSub.refl _) rfl (y_eqp rfl rfl Try.underlying26) rfl ?_
  refine H_y 8 rfl (by kernel_rfl) (by kernel_rfl) (by kernel_rfl) (HSub.refl _) rfl (y_pick_f rfl rfl) rfl ?_
  refine H_y 9 rfl (by kernel_rfl) (by kernel_rfl) (by kernel_rfl) (HSub.refl _) rfl (y_move rfl) rfl ?_
  refine H_y 10 rfl (by kernel_rfl) (by kernel_rfl) (by kernel_rfl) (HSub.refl _) rfl (y_move rfl) rfl ?_
  refine H_y 11 rfl (by kernel_rfl) (by kernel_rfl) (by kernel_rfl) (HSub.refl _) rfl (y_nilCheck rfl) rfl ?_
  refine H_y 12 rfl (by kernel_rfl) (by kernel_rfl) (by kernel_rfl) (HSub.refl _) rfl (y_fieldAddr rfl fl_160_1) rfl ?_
  refine H_y 13 rfl (by kernel_rfl) (by kernel_rfl) (by kernel_rfl) (HSub.refl _) rfl (y_load rfl ag_3 (sees 0 0 rfl) rfl) rfl ?_
  refine H_y 14 rfl (by kernel_rfl) (by kernel_rfl) (by kernel_rfl) (HSub.refl _) rfl (y_move rfl) rfl ?_
  refine H_y 15 rfl (by kernel_rfl) (by kernel_rfl) (by kernel_rfl) (HSub.refl _) rfl (y_nilCheck rfl) rfl ?_
  refine H_y 16 rfl (by kernel_rfl) (by kernel_rfl) (by kernel_rfl) (HSub.refl _) rfl (y_fieldAddr rfl fl_160_0) rfl ?_
  refine H_y 17 rfl (by kernel_rfl) (by kernel_rfl) (by kernel_rfl) (HSub.refl _) rfl (y_load rfl ag_26 (sees 0 0 rfl) rfl) rfl ?_
  refine H_one 18 rfl (by kernel_rfl) rfl (op_call rfl rfl (fun a w => Try.call36 a w) rfl ?_)
  refine (len_m (sees 1 0 rfl)).mono ?_
  rintro _ _ ⟨rfl, e⟩
  obtain rfl := e.symm
  refine ⟨_, rfl, ?_⟩
  refine ⟨HSub.refl _, ?_⟩
  refine H_y 19 rfl (by kernel_rfl) (by kernel_rfl) (by kernel_rfl) (HSub.refl _) rfl (y_geq rfl rfl) rfl ?_
  refine H_y 20 rfl (by kernel_rfl) (by kernel_rfl) (by kernel_rfl) (HSub.refl _) rfl (y_pick_f rfl rfl) rfl ?_
  refine H_done (by kernel_rfl) ?_
  refine C_cond rfl (fun hc0 => ?_) (fun hc0 => absurd hc0 (by simp <;> omega))
  refine C_seq ?_
  refine C_region ?_
  refine L_y rfl (y_assign rfl) rfl ?_
  refine L_y rfl (y_assign rfl) rfl ?_
  refine L_nil ?_
  refine C_ret ?_
  refine B_ret (rv_tmp rfl (rv_tmp rfl rv_nil)) (HSub.refl _) ?_
  exact ⟨rfl, rfl⟩

theorem step_0_0 {w0 : World} {H : Hp} {D : Duo} {A : Da} {bp : Nat} {m : Mi} (h : Two dt D A m.bx m.bys bp) {p : Int → Sec → Bool} {wb : Nat} {nx : Nat} {r : Rp} (hG : GoodAt Try.prog w0 H m.gv p) (hQ : ∀ i, (A.dev i).Q.length < 99990) (hr : 0 ≤ r.1 ∧ r.1 ≤ 5000 ∧ 0 ≤ r.2.1 ∧ r.2.1 ≤ 5000 ∧ 0 ≤ r.2.2 ∧ r.2.2 ≤ 5000) (hn : nx < m.n) (hm : m.n ≤ 4096) (hR : healR m A p nx = (0, 0)) : FnS Try.prog w0 80 #[ptr wb] ([(wb, .cells (wcells m.b (nx : Int) r).toArray 160)] :: m.seg 110 :: D.seg dt :: H) (fun e H' => e = .returned (.tuple #[.int .i64 (nx : Int), .bool true]) ∧ ∃ D', Two dt D' (healA m A p nx) m.bx m.bys bp ∧ H' = [(wb, .cells (wcells m.b ((nx + 1 : Nat) : Int) (r.1 + 1, r.2.1, r.2.2)).toArray 160)] :: (healM m A p nx).seg 110 :: D'.seg dt :: H) := by
  refine FnS_intro (n := 80) (rs := [.tmp 2, .tmp 3]) (vs := [ptr wb]) Try.func80 rfl Try.ntmps80 rfl rfl ?_
  refine C_seq ?_
  refine C_region ?_
  refine L_y rfl (y_assign rfl) rfl ?_
  refine L_y rfl (y_assign rfl) rfl ?_
  refine L_nil ?_
  refine C_seq ?_
  refine C_seq ?_
  refine C_regionH0 (by kernel_rfl) ?_
  refine H_y 0 rfl (by kernel_rfl) (by kernel_rfl) (by kernel_rfl) (HSub.refl _) rfl (y_move rfl) rfl ?_
  refine H_y 1 rfl (by kernel_rfl) (by kernel_rfl) (by kernel_rfl) (HSub.refl _) rfl (y_eqp rfl rfl Try.underlying140) rfl ?_
  refine H_y 2 rfl (by kernel_rfl) (by kernel_rfl) (by kernel_rfl) (HSub.refl _) rfl (y_move rfl) rfl ?_
  refine H_y 3 rfl (by kernel_rfl) (by kernel_rfl) (by kernel_rfl) (HSub.refl _) rfl (y_move rfl) rfl ?_
  refine H_y 4 rfl (by kernel_rfl) (by kernel_rfl) (by kernel_rfl) (HSub.refl _) rfl (y_nilCheck rfl) rfl ?_
  refine H_y 5 rfl (by kernel_rfl) (by kernel_rfl) (by kernel_rfl) (HSub.refl _) rfl (y_fieldAddr rfl fl_160_0) rfl ?_
  refine H_y 6 rfl (by kernel_rfl) (by kernel_rfl) (by kernel_rfl) (HSub.refl _) rfl (y_load rfl ag_26 (sees 0 0 rfl) rfl) rfl ?_
  refine H_y 7 rfl (by kernel_rfl) (by kernel_rfl) (by kernel_rfl) (HSub.refl _) rfl (y_eqp rfl rfl Try.underlying26) rfl ?_
  refine H_y 8 rfl (by kernel_rfl) (by kernel_rfl) (by kernel_rfl) (HSub.refl _) rfl (y_pick_f rfl rfl) rfl ?_
  refine H_y 9 rfl (by kernel_rfl) (by kernel_rfl) (by kernel_rfl) (HSub.refl _) rfl (y_move rfl) rfl ?_
  refine H_y 10 rfl (by kernel_rfl) (by kernel_rfl) (by kernel_rfl) (HSub.refl _) rfl (y_move rfl) rfl ?_
  refine H_y 11 rfl (by kernel_rfl) (by kernel_rfl) (by kernel_rfl) (HSub.refl _) rfl (y_nilCheck rfl) rfl ?_
  refine H_y 12 rfl (by kernel_rfl) (by kernel_rfl) (by kernel_rfl) (HSub.refl _) rfl (y_fieldAddr rfl fl_160_1) rfl ?_
  refine H_y 13 rfl (by kernel_rfl) (by kernel_rfl) (by kernel_rfl) (HSub.refl _) rfl (y_load rfl ag_3 (sees 0 0 rfl) rfl) rfl ?_
  refine H_y 14 rfl (by kernel_rfl) (by kernel_rfl) (by kernel_rfl) (HSub.refl _) rfl (y_move rfl) rfl ?_
  refine H_y 15 rfl (by kernel_rfl) (by kernel_rfl) (by kernel_rfl) (HSub.refl _) rfl (y_nilCheck rfl) rfl ?_
  refine H_y 16 rfl (by kernel_rfl) (by kernel_rfl) (by kernel_rfl) (HSub.refl _) rfl (y_fieldAddr rfl fl_160_0) rfl ?_
  refine H_y 17 rfl (by kernel_rfl) (by kernel_rfl) (by kernel_rfl) (HSub.refl _) rfl (y_load rfl ag_26 (sees 0 0 rfl) rfl) rfl ?_
  refine H_one 18 rfl (by kernel_rfl) rfl (op_call rfl rfl (fun a w => Try.call36 a w) rfl ?_)
  refine (len_m (sees 1 0 rfl)).mono ?_
  rintro _ _ ⟨rfl, e⟩
  obtain rfl := e.symm
  refine ⟨_, rfl, ?_⟩
  refine ⟨HSub.refl _, ?_⟩
  refine H_y 19 rfl (by kernel_rfl) (by kernel_rfl) (by kernel_rfl) (HSub.refl _) rfl (y_geq rfl rfl) rfl ?_
  refine H_y 20 rfl (by kernel_rfl) (by kernel_rfl) (by kernel_rfl) (HSub.refl _) rfl (y_pick_f rfl rfl) rfl ?_
  refine H_done (by kernel_rfl) ?_
  refine C_cond rfl (fun hc0 => absurd hc0 (by simp <;> omega)) (fun hc0 => ?_)
  refine C_skip ?_
  refine C_seq ?_
  refine C_region ?_
  refine L_y rfl (y_move rfl) rfl ?_
  refine L_y rfl (y_nilCheck rfl) rfl ?_
  refine L_y rfl (y_fieldAddr rfl fl_160_1) rfl ?_
  refine L_y rfl (y_load rfl ag_3 (sees 0 0 rfl) rfl) rfl ?_
  refine L_y rfl (y_assign rfl) rfl ?_
  refine L_nil ?_
  refine C_seq ?_
  refine C_region ?_
  refine L_y rfl (y_move rfl) rfl ?_
  refine L_y rfl (y_nilCheck rfl) rfl ?_
  refine L_y rfl (y_fieldAddr rfl fl_160_1) rfl ?_
  refine L_y rfl (y_load rfl ag_3 (sees 0 0 rfl) rfl) rfl ?_
  refine L_y rfl (y_add rfl rfl (show _ = ((nx + 1 : Nat) : Int) from by rw [wi64 (by omega) (by omega)]; omega)) rfl ?_
  refine L_y rfl (y_nilCheck rfl) rfl ?_
  refine L_y rfl (y_fieldAddr rfl fl_160_1) rfl ?_
  refine L_op rfl (op_store1 0 0 rfl rfl rfl sz_3 rfl (Nat.le_of_ble_eq_true rfl) ?_)
  refine L_nil ?_
  refine C_seq ?_
  refine C_region ?_
  refine L_y rfl (y_move rfl) rfl ?_
  refine L_y rfl (y_nilCheck rfl) rfl ?_
  refine L_y rfl (y_fieldAddr rfl fl_160_0) rfl ?_
  refine L_y rfl (y_load rfl ag_26 (sees 0 0 rfl) rfl) rfl ?_
  refine L_y rfl (y_move rfl) rfl ?_
  refine L_op rfl (op_call rfl rfl (fun a w => Try.call23 a w) rfl ?_)
  refine (FnS.sub (hsub_pick [1, 1] rfl) (heal_m h (hG.sub (HSub.drop _ _)) (nx : Int) hQ)).mono ?_
  rintro _ _ ⟨rfl, D1, h1, rfl⟩
  rw [hR]
  refine ⟨_, rfl, ?_⟩
  refine L_y rfl (y_move rfl) rfl ?_
  refine L_y rfl (y_extract rfl rfl) rfl ?_
  refine L_y rfl (y_extract rfl rfl) rfl ?_
  refine L_y rfl (y_assign rfl) rfl ?_
  refine L_y rfl (y_assign rfl) rfl ?_
  refine L_nil ?_
  refine C_seq ?_
  refine C_regionH0 (by kernel_rfl) ?_
  refine H_y 0 rfl (by kernel_rfl) (by kernel_rfl) (by kernel_rfl) (HSub.refl _) rfl (y_move rfl) rfl ?_
  refine H_y 1 rfl (by kernel_rfl) (by kernel_rfl) (by kernel_rfl) (HSub.refl _) rfl (y_nilCheck rfl) rfl ?_
  refine H_y 2 rfl (by kernel_rfl) (by kernel_rfl) (by kernel_rfl) (HSub.refl _) rfl (y_fieldAddr rfl fl_160_2) rfl ?_
  refine H_y 3 rfl (by kernel_rfl) (by kernel_rfl) (by kernel_rfl) (HSub.refl _) rfl (y_fieldAddr rfl fl_90_0) rfl ?_
  refine H_y 4 rfl (by kernel_rfl) (by kernel_rfl) (by kernel_rfl) (HSub.refl _) rfl (y_move rfl) rfl ?_
  refine H_y 5 rfl (by kernel_rfl) (by kernel_rfl) (by kernel_rfl) (HSub.refl _) rfl (y_nilCheck rfl) rfl ?_
  refine H_y 6 rfl (by kernel_rfl) (by kernel_rfl) (by kernel_rfl) (HSub.refl _) rfl (y_fieldAddr rfl fl_160_2) rfl ?_
  refine H_y 7 rfl (by kernel_rfl) (by kernel_rfl) (by kernel_rfl) (HSub.refl _) rfl (y_fieldAddr rfl fl_90_1) rfl ?_
  refine H_y 8 rfl (by kernel_rfl) (by kernel_rfl) (by kernel_rfl) (HSub.refl _) rfl (y_move rfl) rfl ?_
  refine H_y 9 rfl (by kernel_rfl) (by kernel_rfl) (by kernel_rfl) (HSub.refl _) rfl (y_nilCheck rfl) rfl ?_
  refine H_y 10 rfl (by kernel_rfl) (by kernel_rfl) (by kernel_rfl) (HSub.refl _) rfl (y_fieldAddr rfl fl_160_2) rfl ?_
  refine H_y 11 rfl (by kernel_rfl) (by kernel_rfl) (by kernel_rfl) (HSub.refl _) rfl (y_fieldAddr rfl fl_90_2) rfl ?_
  refine H_y 12 rfl (by kernel_rfl) (by kernel_rfl) (by kernel_rfl) (HSub.refl _) rfl (y_buildA (vs := [(0, _), (1, _), (2, _)]) (l := [.pointer (some ⟨wb, 2, none⟩), .pointer (some ⟨wb, 3, none⟩), .pointer (some ⟨wb, 4, none⟩)]) rfl Try.underlying162 sz_161 zl_162 (fill_cons (off := 0) (m := 1) (vs := [_]) rfl rfl rfl (Nat.le_of_ble_eq_true rfl) (fill_cons (off := 1) (m := 1) (vs := [_]) rfl rfl rfl (Nat.le_of_ble_eq_true rfl) (fill_cons (off := 2) (m := 1) (vs := [_]) rfl rfl rfl (Nat.le_of_ble_eq_true rfl) rfl)))) rfl ?_
  refine H_one 13 rfl (by kernel_rfl) rfl (op_alloc zl_162 rfl (fun B1 => ?_))
  refine ⟨hsub (.cons _ (.refl _)), ?_⟩
  refine H_one 14 rfl (by kernel_rfl) rfl (op_store (vs := [.pointer (some ⟨wb, 2, none⟩), .pointer (some ⟨wb, 3, none⟩), .pointer (some ⟨wb, 4, none⟩)]) 0 0 rfl rfl rfl sz_162 rfl rfl (ones rfl) (Nat.le_of_ble_eq_true rfl) ?_)
  refine ⟨hsub (.cons _ (.refl _)), ?_⟩
  refine H_done (by kernel_rfl) ?_
  refine C_seq ?_
  refine C_seq ?_
  refine C_region ?_
  refine L_y rfl (y_move rfl) rfl ?_
  refine L_y rfl (y_eqi rfl rfl) rfl ?_
  refine L_y rfl (y_move rfl) rfl ?_
  refine L_y rfl (y_move rfl) rfl ?_
  refine L_y rfl (y_geq rfl rfl) rfl ?_
  refine L_y rfl (y_pick_t rfl rfl) rfl ?_
  refine L_y rfl (y_move rfl) rfl ?_
  refine L_y rfl (y_move rfl) rfl ?_
  refine L_y rfl (y_lss rfl rfl) rfl ?_
  refine L_y rfl (y_pick_t rfl rfl) rfl ?_
  refine L_nil ?_
  refine C_cond_t rfl ?_
  refine C_region ?_
  refine L_y rfl (y_move rfl) rfl ?_
  refine L_y rfl (y_indexA rfl rfl Try.underlying162 sz_161 (by omega) (by omega) (show _ = 0 from rfl)) rfl ?_
  refine L_y rfl (y_load rfl ag_161 (sees 0 0 rfl) rfl) rfl ?_
  refine L_y rfl (y_nilCheck rfl) rfl ?_
  refine L_y rfl (y_load rfl ag_3 (sees 3 0 rfl) rfl) rfl ?_
  refine L_y rfl (y_add rfl rfl (wi64 (by omega) (by omega))) rfl ?_
  refine L_y rfl (y_nilCheck rfl) rfl ?_
  refine L_op rfl (op_store1 3 0 rfl rfl rfl sz_3 rfl (Nat.le_of_ble_eq_true rfl) ?_)
  refine L_nil ?_
  refine C_seq ?_
  refine C_region ?_
  refine L_y rfl (y_move rfl) rfl ?_
  refine L_y rfl (y_assign rfl) rfl ?_
  refine L_y rfl (y_assign rfl) rfl ?_
  refine L_nil ?_
  refine C_ret ?_
  refine B_ret (rv_tmp rfl (rv_tmp rfl rv_nil)) ((hsub (.cons_cons _ (.cons_cons _ (.cons_cons _ (.cons _ (.refl _)))))).trans (hsub_pick [3, 1, 1] rfl)) ?_
  exact ⟨rfl, D1, h1, rfl⟩

theorem step_1_0 {w0 : World} {H : Hp} {D : Duo} {A : Da} {bp : Nat} {m : Mi} (h : Two dt D A m.bx m.bys bp) {p : Int → Sec → Bool} {wb : Nat} {nx : Nat} {r : Rp} (hG : GoodAt Try.prog w0 H m.gv p) (hQ : ∀ i, (A.dev i).Q.length < 99990) (hr : 0 ≤ r.1 ∧ r.1 ≤ 5000 ∧ 0 ≤ r.2.1 ∧ r.2.1 ≤ 5000 ∧ 0 ≤ r.2.2 ∧ r.2.2 ≤ 5000) (hn : nx < m.n) (hm : m.n ≤ 4096) (hR : healR m A p nx = (1, 0)) : FnS Try.prog w0 80 #[ptr wb] ([(wb, .cells (wcells m.b (nx : Int) r).toArray 160)] :: m.seg 110 :: D.seg dt :: H) (fun e H' => e = .returned (.tuple #[.int .i64 (nx : Int), .bool true]) ∧ ∃ D', Two dt D' (healA m A p nx) m.bx m.bys bp ∧ H' = [(wb, .cells (wcells m.b ((nx + 1 : Nat) : Int) (r.1, r.2.1 + 1, r.2.2)).toArray 160)] :: (healM m A p nx).seg 110 :: D'.seg dt :: H) := by
  refine FnS_intro (n := 80) (rs := [.tmp 2, .tmp 3]) (vs := [ptr wb]) Try.func80 rfl Try.ntmps80 rfl rfl ?_
  refine C_seq ?_
  refine C_region ?_
  refine L_y rfl (y_assign rfl) rfl ?_
  refine L_y rfl (y_assign rfl) rfl ?_
  refine L_nil ?_
  refine C_seq ?_
  refine C_seq ?_
  refine C_regionH0 (by kernel_rfl) ?_
  refine H_y 0 rfl (by kernel_rfl) (by kernel_rfl) (by kernel_rfl) (HSub.refl _) rfl (y_move rfl) rfl ?_
  refine H_y 1 rfl (by kernel_rfl) (by kernel_rfl) (by kernel_rfl) (HSub.refl _) rfl (y_eqp rfl rfl Try.underlying140) rfl ?_
  refine H_y 2 rfl (by kernel_rfl) (by kernel_rfl) (by kernel_rfl) (HSub.refl _) rfl (y_move rfl) rfl ?_
  refine H_y 3 rfl (by kernel_rfl) (by kernel_rfl) (by kernel_rfl) (HSub.refl _) rfl (y_move rfl) rfl ?_
  refine H_y 4 rfl (by kernel_rfl) (by kernel_rfl) (by kernel_rfl) (HSub.refl _) rfl (y_nilCheck rfl) rfl ?_
  refine H_y 5 rfl (by kernel_rfl) (by kernel_rfl) (by kernel_rfl) (HSub.refl _) rfl (y_fieldAddr rfl fl_160_0) rfl ?_
  refine H_y 6 rfl (by kernel_rfl) (by kernel_rfl) (by kernel_rfl) (HSub.refl _) rfl (y_load rfl ag_26 (sees 0 0 rfl) rfl) rfl ?_
  refine H_y 7 rfl (by kernel_rfl) (by kernel_rfl) (by kernel_rfl) (HSub.refl _) rfl (y_eqp rfl rfl Try.underlying26) rfl ?_
  refine H_y 8 rfl (by kernel_rfl) (by kernel_rfl) (by kernel_rfl) (HSub.refl _) rfl (y_pick_f rfl rfl) rfl ?_
  refine H_y 9 rfl (by kernel_rfl) (by kernel_rfl) (by kernel_rfl) (HSub.refl _) rfl (y_move rfl) rfl ?_
  refine H_y 10 rfl (by kernel_rfl) (by kernel_rfl) (by kernel_rfl) (HSub.refl _) rfl (y_move rfl) rfl ?_
  refine H_y 11 rfl (by kernel_rfl) (by kernel_rfl) (by kernel_rfl) (HSub.refl _) rfl (y_nilCheck rfl) rfl ?_
  refine H_y 12 rfl (by kernel_rfl) (by kernel_rfl) (by kernel_rfl) (HSub.refl _) rfl (y_fieldAddr rfl fl_160_1) rfl ?_
  refine H_y 13 rfl (by kernel_rfl) (by kernel_rfl) (by kernel_rfl) (HSub.refl _) rfl (y_load rfl ag_3 (sees 0 0 rfl) rfl) rfl ?_
  refine H_y 14 rfl (by kernel_rfl) (by kernel_rfl) (by kernel_rfl) (HSub.refl _) rfl (y_move rfl) rfl ?_
  refine H_y 15 rfl (by kernel_rfl) (by kernel_rfl) (by kernel_rfl) (HSub.refl _) rfl (y_nilCheck rfl) rfl ?_
  refine H_y 16 rfl (by kernel_rfl) (by kernel_rfl) (by kernel_rfl) (HSub.refl _) rfl (y_fieldAddr rfl fl_160_0) rfl ?_
  refine H_y 17 rfl (by kernel_rfl) (by kernel_rfl) (by kernel_rfl) (HSub.refl _) rfl (y_load rfl ag_26 (sees 0 0 rfl) rfl) rfl ?_
  refine H_one 18 rfl (by kernel_rfl) rfl (op_call rfl rfl (fun a w => Try.call36 a w) rfl ?_)
  refine (len_m (sees 1 0 rfl)).mono ?_
  rintro _ _ ⟨rfl, e⟩
  obtain rfl := e.symm
  refine ⟨_, rfl, ?_⟩
  refine ⟨HSub.refl _, ?_⟩
  refine H_y 19 rfl (by kernel_rfl) (by kernel_rfl) (by kernel_rfl) (HSub.refl _) rfl (y_geq rfl rfl) rfl ?_
  refine H_y 20 rfl (by kernel_rfl) (by kernel_rfl) (by kernel_rfl) (HSub.refl _) rfl (y_pick_f rfl rfl) rfl ?_
  refine H_done (by kernel_rfl) ?_
  refine C_cond rfl (fun hc0 => absurd hc0 (by simp <;> omega)) (fun hc0 => ?_)
  refine C_skip ?_
  refine C_seq ?_
  refine C_region ?_
  refine L_y rfl (y_move rfl) rfl ?_
  refine L_y rfl (y_nilCheck rfl) rfl ?_
  refine L_y rfl (y_fieldAddr rfl fl_160_1) rfl ?_
  refine L_y rfl (y_load rfl ag_3 (sees 0 0 rfl) rfl) rfl ?_
  refine L_y rfl (y_assign rfl) rfl ?_
  refine L_nil ?_
  refine C_seq ?_
  refine C_region ?_
  refine L_y rfl (y_move rfl) rfl ?_
  refine L_y rfl (y_nilCheck rfl) rfl ?_
  refine L_y rfl (y_fieldAddr rfl fl_160_1) rfl ?_
  refine L_y rfl (y_load rfl ag_3 (sees 0 0 rfl) rfl) rfl ?_
  refine L_y rfl (y_add rfl rfl (show _ = ((nx + 1 : Nat) : Int) from by rw [wi64 (by omega) (by omega)]; omega)) rfl ?_
  refine L_y rfl (y_nilCheck rfl) rfl ?_
  refine L_y rfl (y_fieldAddr rfl fl_160_1) rfl ?_
  refine L_op rfl (op_store1 0 0 rfl rfl rfl sz_3 rfl (Nat.le_of_ble_eq_true rfl) ?_)
  refine L_nil ?_
  refine C_seq ?_
  refine C_region ?_
  refine L_y rfl (y_move rfl) rfl ?_
  refine L_y rfl (y_nilCheck rfl) rfl ?_
  refine L_y rfl (y_fieldAddr rfl fl_160_0) rfl ?_
  refine L_y rfl (y_load rfl ag_26 (sees 0 0 rfl) rfl) rfl ?_
  refine L_y rfl (y_move rfl) rfl ?_
  refine L_op rfl (op_call rfl rfl (fun a w => Try.call23 a w) rfl ?_)
  refine (FnS.sub (hsub_pick [1, 1] rfl) (heal_m h (hG.sub (HSub.drop _ _)) (nx : Int) hQ)).mono ?_
  rintro _ _ ⟨rfl, D1, h1, rfl⟩
  rw [hR]
  refine ⟨_, rfl, ?_⟩
  refine L_y rfl (y_move rfl) rfl ?_
  refine L_y rfl (y_extract rfl rfl) rfl ?_
  refine L_y rfl (y_extract rfl rfl) rfl ?_
  refine L_y rfl (y_assign rfl) rfl ?_
  refine L_y rfl (y_assign rfl) rfl ?_
  refine L_nil ?_
  refine C_seq ?_
  refine C_regionH0 (by kernel_rfl) ?_
  refine H_y 0 rfl (by kernel_rfl) (by kernel_rfl) (by kernel_rfl) (HSub.refl _) rfl (y_move rfl) rfl ?_
  refine H_y 1 rfl (by kernel_rfl) (by kernel_rfl) (by kernel_rfl) (HSub.refl _) rfl (y_nilCheck rfl) rfl ?_
  refine H_y 2 rfl (by kernel_rfl) (by kernel_rfl) (by kernel_rfl) (HSub.refl _) rfl (y_fieldAddr rfl fl_160_2) rfl ?_
  refine H_y 3 rfl (by kernel_rfl) (by kernel_rfl) (by kernel_rfl) (HSub.refl _) rfl (y_fieldAddr rfl fl_90_0) rfl ?_
  refine H_y 4 rfl (by kernel_rfl) (by kernel_rfl) (by kernel_rfl) (HSub.refl _) rfl (y_move rfl) rfl ?_
  refine H_y 5 rfl (by kernel_rfl) (by kernel_rfl) (by kernel_rfl) (HSub.refl _) rfl (y_nilCheck rfl) rfl ?_
  refine H_y 6 rfl (by kernel_rfl) (by kernel_rfl) (by kernel_rfl) (HSub.refl _) rfl (y_fieldAddr rfl fl_160_2) rfl ?_
  refine H_y 7 rfl (by kernel_rfl) (by kernel_rfl) (by kernel_rfl) (HSub.refl _) rfl (y_fieldAddr rfl fl_90_1) rfl ?_
  refine H_y 8 rfl (by kernel_rfl) (by kernel_rfl) (by kernel_rfl) (HSub.refl _) rfl (y_move rfl) rfl ?_
  refine H_y 9 rfl (by kernel_rfl) (by kernel_rfl) (by kernel_rfl) (HSub.refl _) rfl (y_nilCheck rfl) rfl ?_
  refine H_y 10 rfl (by kernel_rfl) (by kernel_rfl) (by kernel_rfl) (HSub.refl _) rfl (y_fieldAddr rfl fl_160_2) rfl ?_
  refine H_y 11 rfl (by kernel_rfl) (by kernel_rfl) (by kernel_rfl) (HSub.refl _) rfl (y_fieldAddr rfl fl_90_2) rfl ?_
  refine H_y 12 rfl (by kernel_rfl) (by kernel_rfl) (by kernel_rfl) (HSub.refl _) rfl (y_buildA (vs := [(0, _), (1, _), (2, _)]) (l := [.pointer (some ⟨wb, 2, none⟩), .pointer (some ⟨wb, 3, none⟩), .pointer (some ⟨wb, 4, none⟩)]) rfl Try.underlying162 sz_161 zl_162 (fill_cons (off := 0) (m := 1) (vs := [_]) rfl rfl rfl (Nat.le_of_ble_eq_true rfl) (fill_cons (off := 1) (m := 1) (vs := [_]) rfl rfl rfl (Nat.le_of_ble_eq_true rfl) (fill_cons (off := 2) (m := 1) (vs := [_]) rfl rfl rfl (Nat.le_of_ble_eq_true rfl) rfl)))) rfl ?_
  refine H_one 13 rfl (by kernel_rfl) rfl (op_alloc zl_162 rfl (fun B1 => ?_))
  refine ⟨hsub (.cons _ (.refl _)), ?_⟩
  refine H_one 14 rfl (by kernel_rfl) rfl (op_store (vs := [.pointer (some ⟨wb, 2, none⟩), .pointer (some ⟨wb, 3, none⟩), .pointer (some ⟨wb, 4, none⟩)]) 0 0 rfl rfl rfl sz_162 rfl rfl (ones rfl) (Nat.le_of_ble_eq_true rfl) ?_)
  refine ⟨hsub (.cons _ (.refl _)), ?_⟩
  refine H_done (by kernel_rfl) ?_
  refine C_seq ?_
  refine C_seq ?_
  refine C_region ?_
  refine L_y rfl (y_move rfl) rfl ?_
  refine L_y rfl (y_eqi rfl rfl) rfl ?_
  refine L_y rfl (y_move rfl) rfl ?_
  refine L_y rfl (y_move rfl) rfl ?_
  refine L_y rfl (y_geq rfl rfl) rfl ?_
  refine L_y rfl (y_pick_t rfl rfl) rfl ?_
  refine L_y rfl (y_move rfl) rfl ?_
  refine L_y rfl (y_move rfl) rfl ?_
  refine L_y rfl (y_lss rfl rfl) rfl ?_
  refine L_y rfl (y_pick_t rfl rfl) rfl ?_
  refine L_nil ?_
  refine C_cond_t rfl ?_
  refine C_region ?_
  refine L_y rfl (y_move rfl) rfl ?_
  refine L_y rfl (y_indexA rfl rfl Try.underlying162 sz_161 (by omega) (by omega) (show _ = 1 from rfl)) rfl ?_
  refine L_y rfl (y_load rfl ag_161 (sees 0 0 rfl) rfl) rfl ?_
  refine L_y rfl (y_nilCheck rfl) rfl ?_
  refine L_y rfl (y_load rfl ag_3 (sees 3 0 rfl) rfl) rfl ?_
  refine L_y rfl (y_add rfl rfl (wi64 (by omega) (by omega))) rfl ?_
  refine L_y rfl (y_nilCheck rfl) rfl ?_
  refine L_op rfl (op_store1 3 0 rfl rfl rfl sz_3 rfl (Nat.le_of_ble_eq_true rfl) ?_)
  refine L_nil ?_
  refine C_seq ?_
  refine C_region ?_
  refine L_y rfl (y_move rfl) rfl ?_
  refine L_y rfl (y_assign rfl) rfl ?_
  refine L_y rfl (y_assign rfl) rfl ?_
  refine L_nil ?_
  refine C_ret ?_
  refine B_ret (rv_tmp rfl (rv_tmp rfl rv_nil)) ((hsub (.cons_cons _ (.cons_cons _ (.cons_cons _ (.cons _ (.refl _)))))).trans (hsub_pick [3, 1, 1] rfl)) ?_
  exact ⟨rfl, D1, h1, rfl⟩

theorem step_2_0 {w0 : World} {H : Hp} {D : Duo} {A : Da} {bp : Nat} {m : Mi} (h : Two dt D A m.bx m.bys bp) {p : Int → Sec → Bool} {wb : Nat} {nx : Nat} {r : Rp} (hG : GoodAt Try.prog w0 H m.gv p) (hQ : ∀ i, (A.dev i).Q.length < 99990) (hr : 0 ≤ r.1 ∧ r.1 ≤ 5000 ∧ 0 ≤ r.2.1 ∧ r.2.1 ≤ 5000 ∧ 0 ≤ r.2.2 ∧ r.2.2 ≤ 5000) (hn : nx < m.n) (hm : m.n ≤ 4096) (hR : healR m A p nx = (2, 0)) : FnS Try.prog w0 80 #[ptr wb] ([(wb, .cells (wcells m.b (nx : Int) r).toArray 160)] :: m.seg 110 :: D.seg dt :: H) (fun e H' => e = .returned (.tuple #[.int .i64 (nx : Int), .bool true]) ∧ ∃ D', Two dt D' (healA m A p nx) m.bx m.bys bp ∧ H' = [(wb, .cells (wcells m.b ((nx + 1 : Nat) : Int) (r.1, r.2.1, r.2.2 + 1)).toArray 160)] :: (healM m A p nx).seg 110 :: D'.seg dt :: H) := by
  refine FnS_intro (n := 80) (rs := [.tmp 2, .tmp 3]) (vs := [ptr wb]) Try.func80 rfl Try.ntmps80 rfl rfl ?_
  refine C_seq ?_
  refine C_region ?_
  refine L_y rfl (y_assign rfl) rfl ?_
  refine L_y rfl (y_assign rfl) rfl ?_
  refine L_nil ?_
  refine C_seq ?_
  refine C_seq ?_
  refine C_regionH0 (by kernel_rfl) ?_
  refine H_y 0 rfl (by kernel_rfl) (by kernel_rfl) (by kernel_rfl) (HSub.refl _) rfl (y_move rfl) rfl ?_
  refine H_y 1 rfl (by kernel_rfl) (by kernel_rfl) (by kernel_rfl) (HSub.refl _) rfl (y_eqp rfl rfl Try.underlying140) rfl ?_
  refine H_y 2 rfl (by kernel_rfl) (by kernel_rfl) (by kernel_rfl) (HSub.refl _) rfl (y_move rfl) rfl ?_
  refine H_y 3 rfl (by kernel_rfl) (by kernel_rfl) (by kernel_rfl) (HSub.refl _) rfl (y_move rfl) rfl ?_
  refine H_y 4 rfl (by kernel_rfl) (by kernel_rfl) (by kernel_rfl) (HSub.refl _) rfl (y_nilCheck rfl) rfl ?_
  refine H_y 5 rfl (by kernel_rfl) (by kernel_rfl) (by kernel_rfl) (HSub.refl _) rfl (y_fieldAddr rfl fl_160_0) rfl ?_
  refine H_y 6 rfl (by kernel_rfl) (by kernel_rfl) (by kernel_rfl) (HSub.refl _) rfl (y_load rfl ag_26 (sees 0 0 rfl) rfl) rfl ?_
  refine H_y 7 rfl (by kernel_rfl) (by kernel_rfl) (by kernel_rfl) (HSub.refl _) rfl (y_eqp rfl rfl Try.underlying26) rfl ?_
  refine H_y 8 rfl (by kernel_rfl) (by kernel_rfl) (by kernel_rfl) (HSub.refl _) rfl (y_pick_f rfl rfl) rfl ?_
  refine H_y 9 rfl (by kernel_rfl) (by kernel_rfl) (by kernel_rfl) (HSub.refl _) rfl (y_move rfl) rfl ?_
  refine H_y 10 rfl (by kernel_rfl) (by kernel_rfl) (by kernel_rfl) (HSub.refl _) rfl (y_move rfl) rfl ?_
  refine H_y 11 rfl (by kernel_rfl) (by kernel_rfl) (by kernel_rfl) (HSub.refl _) rfl (y_nilCheck rfl) rfl ?_
  refine H_y 12 rfl (by kernel_rfl) (by kernel_rfl) (by kernel_rfl) (HSub.refl _) rfl (y_fieldAddr rfl fl_160_1) rfl ?_
  refine H_y 13 rfl (by kernel_rfl) (by kernel_rfl) (by kernel_rfl) (HSub.refl _) rfl (y_load rfl ag_3 (sees 0 0 rfl) rfl) rfl ?_
  refine H_y 14 rfl (by kernel_rfl) (by kernel_rfl) (by kernel_rfl) (HSub.refl _) rfl (y_move rfl) rfl ?_
  refine H_y 15 rfl (by kernel_rfl) (by kernel_rfl) (by kernel_rfl) (HSub.refl _) rfl (y_nilCheck rfl) rfl ?_
  refine H_y 16 rfl (by kernel_rfl) (by kernel_rfl) (by kernel_rfl) (HSub.refl _) rfl (y_fieldAddr rfl fl_160_0) rfl ?_
  refine H_y 17 rfl (by kernel_rfl) (by kernel_rfl) (by kernel_rfl) (HSub.refl _) rfl (y_load rfl ag_26 (sees 0 0 rfl) rfl) rfl ?_
  refine H_one 18 rfl (by kernel_rfl) rfl (op_call rfl rfl (fun a w => Try.call36 a w) rfl ?_)
  refine (len_m (sees 1 0 rfl)).mono ?_
  rintro _ _ ⟨rfl, e⟩
  obtain rfl := e.symm
  refine ⟨_, rfl, ?_⟩
  refine ⟨HSub.refl _, ?_⟩
  refine H_y 19 rfl (by kernel_rfl) (by kernel_rfl) (by kernel_rfl) (HSub.refl _) rfl (y_geq rfl rfl) rfl ?_
  refine H_y 20 rfl (by kernel_rfl) (by kernel_rfl) (by kernel_rfl) (HSub.refl _) rfl (y_pick_f rfl rfl) rfl ?_
  refine H_done (by kernel_rfl) ?_
  refine C_cond rfl (fun hc0 => absurd hc0 (by simp <;> omega)) (fun hc0 => ?_)
  refine C_skip ?_
  refine C_seq ?_
  refine C_region ?_
  refine L_y rfl (y_move rfl) rfl ?_
  refine L_y rfl (y_nilCheck rfl) rfl ?_
  refine L_y rfl (y_fieldAddr rfl fl_160_1) rfl ?_
  refine L_y rfl (y_load rfl ag_3 (sees 0 0 rfl) rfl) rfl ?_
  refine L_y rfl (y_assign rfl) rfl ?_
  refine L_nil ?_
  refine C_seq ?_
  refine C_region ?_
  refine L_y rfl (y_move rfl) rfl ?_
  refine L_y rfl (y_nilCheck rfl) rfl ?_
  refine L_y rfl (y_fieldAddr rfl fl_160_1) rfl ?_
  refine L_y rfl (y_load rfl ag_3 (sees 0 0 rfl) rfl) rfl ?_
  refine L_y rfl (y_add rfl rfl (show _ = ((nx + 1 : Nat) : Int) from by rw [wi64 (by omega) (by omega)]; omega)) rfl ?_
  refine L_y rfl (y_nilCheck rfl) rfl ?_
  refine L_y rfl (y_fieldAddr rfl fl_160_1) rfl ?_
  refine L_op rfl (op_store1 0 0 rfl rfl rfl sz_3 rfl (Nat.le_of_ble_eq_true rfl) ?_)
  refine L_nil ?_
  refine C_seq ?_
  refine C_region ?_
  refine L_y rfl (y_move rfl) rfl ?_
  refine L_y rfl (y_nilCheck rfl) rfl ?_
  refine L_y rfl (y_fieldAddr rfl fl_160_0) rfl ?_
  refine L_y rfl (y_load rfl ag_26 (sees 0 0 rfl) rfl) rfl ?_
  refine L_y rfl (y_move rfl) rfl ?_
  refine L_op rfl (op_call rfl rfl (fun a w => Try.call23 a w) rfl ?_)
  refine (FnS.sub (hsub_pick [1, 1] rfl) (heal_m h (hG.sub (HSub.drop _ _)) (nx : Int) hQ)).mono ?_
  rintro _ _ ⟨rfl, D1, h1, rfl⟩
  rw [hR]
  refine ⟨_, rfl, ?_⟩
  refine L_y rfl (y_move rfl) rfl ?_
  refine L_y rfl (y_extract rfl rfl) rfl ?_
  refine L_y rfl (y_extract rfl rfl) rfl ?_
  refine L_y rfl (y_assign rfl) rfl ?_
  refine L_y rfl (y_assign rfl) rfl ?_
  refine L_nil ?_
  refine C_seq ?_
  refine C_regionH0 (by kernel_rfl) ?_
  refine H_y 0 rfl (by kernel_rfl) (by kernel_rfl) (by kernel_rfl) (HSub.refl _) rfl (y_move rfl) rfl ?_
  refine H_y 1 rfl (by kernel_rfl) (by kernel_rfl) (by kernel_rfl) (HSub.refl _) rfl (y_nilCheck rfl) rfl ?_
  refine H_y 2 rfl (by kernel_rfl) (by kernel_rfl) (by kernel_rfl) (HSub.refl _) rfl (y_fieldAddr rfl fl_160_2) rfl ?_
  refine H_y 3 rfl (by kernel_rfl) (by kernel_rfl) (by kernel_rfl) (HSub.refl _) rfl (y_fieldAddr rfl fl_90_0) rfl ?_
  refine H_y 4 rfl (by kernel_rfl) (by kernel_rfl) (by kernel_rfl) (HSub.refl _) rfl (y_move rfl) rfl ?_
  refine H_y 5 rfl (by kernel_rfl) (by kernel_rfl) (by kernel_rfl) (HSub.refl _) rfl (y_nilCheck rfl) rfl ?_
  refine H_y 6 rfl (by kernel_rfl) (by kernel_rfl) (by kernel_rfl) (HSub.refl _) rfl (y_fieldAddr rfl fl_160_2) rfl ?_
  refine H_y 7 rfl (by kernel_rfl) (by kernel_rfl) (by kernel_rfl) (HSub.refl _) rfl (y_fieldAddr rfl fl_90_1) rfl ?_
  refine H_y 8 rfl (by kernel_rfl) (by kernel_rfl) (by kernel_rfl) (HSub.refl _) rfl (y_move rfl) rfl ?_
  refine H_y 9 rfl (by kernel_rfl) (by kernel_rfl) (by kernel_rfl) (HSub.refl _) rfl (y_nilCheck rfl) rfl ?_
  refine H_y 10 rfl (by kernel_rfl) (by kernel_rfl) (by kernel_rfl) (HSub.refl _) rfl (y_fieldAddr rfl fl_160_2) rfl ?_
  refine H_y 11 rfl (by kernel_rfl) (by kernel_rfl) (by kernel_rfl) (HSub.refl _) rfl (y_fieldAddr rfl fl_90_2) rfl ?_
  refine H_y 12 rfl (by kernel_rfl) (by kernel_rfl) (by kernel_rfl) (HSub.refl _) rfl (y_buildA (vs := [(0, _), (1, _), (2, _)]) (l := [.pointer (some ⟨wb, 2, none⟩), .pointer (some ⟨wb, 3, none⟩), .pointer (some ⟨wb, 4, none⟩)]) rfl Try.underlying162 sz_161 zl_162 (fill_cons (off := 0) (m := 1) (vs := [_]) rfl rfl rfl (Nat.le_of_ble_eq_true rfl) (fill_cons (off := 1) (m := 1) (vs := [_]) rfl rfl rfl (Nat.le_of_ble_eq_true rfl) (fill_cons (off := 2) (m := 1) (vs := [_]) rfl rfl rfl (Nat.le_of_ble_eq_true rfl) rfl)))) rfl ?_
  refine H_one 13 rfl (by kernel_rfl) rfl (op_alloc zl_162 rfl (fun B1 => ?_))
  refine ⟨hsub (.cons _ (.refl _)), ?_⟩
  refine H_one 14 rfl (by kernel_rfl) rfl (op_store (vs := [.pointer (some ⟨wb, 2, none⟩), .pointer (some ⟨wb, 3, none⟩), .pointer (some ⟨wb, 4, none⟩)]) 0 0 rfl rfl rfl sz_162 rfl rfl (ones rfl) (Nat.le_of_ble_eq_true rfl) ?_)
  refine ⟨hsub (.cons _ (.refl _)), ?_⟩
  refine H_done (by kernel_rfl) ?_
  refine C_seq ?_
  refine C_seq ?_
  refine C_region ?_
  refine L_y rfl (y_move rfl) rfl ?_
  refine L_y rfl (y_eqi rfl rfl) rfl ?_
  refine L_y rfl (y_move rfl) rfl ?_
  refine L_y rfl (y_move rfl) rfl ?_
  refine L_y rfl (y_geq rfl rfl) rfl ?_
  refine L_y rfl (y_pick_t rfl rfl) rfl ?_
  refine L_y rfl (y_move rfl) rfl ?_
  refine L_y rfl (y_move rfl) rfl ?_
  refine L_y rfl (y_lss rfl rfl) rfl ?_
  refine L_y rfl (y_pick_t rfl rfl) rfl ?_
  refine L_nil ?_
  refine C_cond_t rfl ?_
  refine C_region ?_
  refine L_y rfl (y_move rfl) rfl ?_
  refine L_y rfl (y_indexA rfl rfl Try.underlying162 sz_161 (by omega) (by omega) (show _ = 2 from rfl)) rfl ?_
  refine L_y rfl (y_load rfl ag_161 (sees 0 0 rfl) rfl) rfl ?_
  refine L_y rfl (y_nilCheck rfl) rfl ?_
  refine L_y rfl (y_load rfl ag_3 (sees 3 0 rfl) rfl) rfl ?_
  refine L_y rfl (y_add rfl rfl (wi64 (by omega) (by omega))) rfl ?_
  refine L_y rfl (y_nilCheck rfl) rfl ?_
  refine L_op rfl (op_store1 3 0 rfl rfl rfl sz_3 rfl (Nat.le_of_ble_eq_true rfl) ?_)
  refine L_nil ?_
  refine C_seq ?_
  refine C_region ?_
  refine L_y rfl (y_move rfl) rfl ?_
  refine L_y rfl (y_assign rfl) rfl ?_
  refine L_y rfl (y_assign rfl) rfl ?_
  refine L_nil ?_
  refine C_ret ?_
  refine B_ret (rv_tmp rfl (rv_tmp rfl rv_nil)) ((hsub (.cons_cons _ (.cons_cons _ (.cons_cons _ (.cons _ (.refl _)))))).trans (hsub_pick [3, 1, 1] rfl)) ?_
  exact ⟨rfl, D1, h1, rfl⟩

theorem step_0_13 {w0 : World} {H : Hp} {D : Duo} {A : Da} {bp : Nat} {m : Mi} (h : Two dt D A m.bx m.bys bp) {p : Int → Sec → Bool} {wb : Nat} {nx : Nat} {r : Rp} (hG : GoodAt Try.prog w0 H m.gv p) (hQ : ∀ i, (A.dev i).Q.length < 99990) (hr : 0 ≤ r.1 ∧ r.1 ≤ 5000 ∧ 0 ≤ r.2.1 ∧ r.2.1 ≤ 5000 ∧ 0 ≤ r.2.2 ∧ r.2.2 ≤ 5000) (hn : nx < m.n) (hm : m.n ≤ 4096) (hR : healR m A p nx = (0, 13)) : FnS Try.prog w0 80 #[ptr wb] ([(wb, .cells (wcells m.b (nx : Int) r).toArray 160)] :: m.seg 110 :: D.seg dt :: H) (fun e H' => e = .returned (.tuple #[.int .i64 (nx : Int), .bool true]) ∧ ∃ D', Two dt D' (healA m A p nx) m.bx m.bys bp ∧ H' = [(wb, .cells (wcells m.b ((nx + 1 : Nat) : Int) r).toArray 160)] :: (healM m A p nx).seg 110 :: D'.seg dt :: H) := by
  refine FnS_intro (n := 80) (rs := [.tmp 2, .tmp 3]) (vs := [ptr wb]) Try.func80 rfl Try.ntmps80 rfl rfl ?_
  refine C_seq ?_
  refine C_region ?_
  refine L_y rfl (y_assign rfl) rfl ?_
  refine L_y rfl (y_assign rfl) rfl ?_
  refine L_nil ?_
  refine C_seq ?_
  refine C_seq ?_
  refine C_regionH0 (by kernel_rfl) ?_
  refine H_y 0 rfl (by kernel_rfl) (by kernel_rfl) (by kernel_rfl) (HSub.refl _) rfl (y_move rfl) rfl ?_
  refine H_y 1 rfl (by kernel_rfl) (by kernel_rfl) (by kernel_rfl) (HSub.refl _) rfl (y_eqp rfl rfl Try.underlying140) rfl ?_
  refine H_y 2 rfl (by kernel_rfl) (by kernel_rfl) (by kernel_rfl) (HSub.refl _) rfl (y_move rfl) rfl ?_
  refine H_y 3 rfl (by kernel_rfl) (by kernel_rfl) (by kernel_rfl) (HSub.refl _) rfl (y_move rfl) rfl ?_
  refine H_y 4 rfl (by kernel_rfl) (by kernel_rfl) (by kernel_rfl) (HSub.refl _) rfl (y_nilCheck rfl) rfl ?_
  refine H_y 5 rfl (by kernel_rfl) (by kernel_rfl) (by kernel_rfl) (HSub.refl _) rfl (y_fieldAddr rfl fl_160_0) rfl ?_
  refine H_y 6 rfl (by kernel_rfl) (by kernel_rfl) (by kernel_rfl) (HSub.refl _) rfl (y_load rfl ag_26 (sees 0 0 rfl) rfl) rfl ?_
  refine H_y 7 rfl (by kernel_rfl) (by kernel_rfl) (by kernel_rfl) (HSub.refl _) rfl (y_eqp rfl rfl Try.underlying26) rfl ?_
  refine H_y 8 rfl (by kernel_rfl) (by kernel_rfl) (by kernel_rfl) (HSub.refl _) rfl (y_pick_f rfl rfl) rfl ?_
  refine H_y 9 rfl (by kernel_rfl) (by kernel_rfl) (by kernel_rfl) (HSub.refl _) rfl (y_move rfl) rfl ?_
  refine H_y 10 rfl (by kernel_rfl) (by kernel_rfl) (by kernel_rfl) (HSub.refl _) rfl (y_move rfl) rfl ?_
  refine H_y 11 rfl (by kernel_rfl) (by kernel_rfl) (by kernel_rfl) (HSub.refl _) rfl (y_nilCheck rfl) rfl ?_
  refine H_y 12 rfl (by kernel_rfl) (by kernel_rfl) (by kernel_rfl) (HSub.refl _) rfl (y_fieldAddr rfl fl_160_1) rfl ?_
  refine H_y 13 rfl (by kernel_rfl) (by kernel_rfl) (by kernel_rfl) (HSub.refl _) rfl (y_load rfl ag_3 (sees 0 0 rfl) rfl) rfl ?_
  refine H_y 14 rfl (by kernel_rfl) (by kernel_rfl) (by kernel_rfl) (HSub.refl _) rfl (y_move rfl) rfl ?_
  refine H_y 15 rfl (by kernel_rfl) (by kernel_rfl) (by kernel_rfl) (HSub.refl _) rfl (y_nilCheck rfl) rfl ?_
  refine H_y 16 rfl (by kernel_rfl) (by kernel_rfl) (by kernel_rfl) (HSub.refl _) rfl (y_fieldAddr rfl fl_160_0) rfl ?_
  refine H_y 17 rfl (by kernel_rfl) (by kernel_rfl) (by kernel_rfl) (HSub.refl _) rfl (y_load rfl ag_26 (sees 0 0 rfl) rfl) rfl ?_
  refine H_one 18 rfl (by kernel_rfl) rfl (op_call rfl rfl (fun a w => Try.call36 a w) rfl ?_)
  refine (len_m (sees 1 0 rfl)).mono ?_
  rintro _ _ ⟨rfl, e⟩
  obtain rfl := e.symm
  refine ⟨_, rfl, ?_⟩
  refine ⟨HSub.refl _, ?_⟩
  refine H_y 19 rfl (by kernel_rfl) (by kernel_rfl) (by kernel_rfl) (HSub.refl _) rfl (y_geq rfl rfl) rfl ?_
  refine H_y 20 rfl (by kernel_rfl) (by kernel_rfl) (by kernel_rfl) (HSub.refl _) rfl (y_pick_f rfl rfl) rfl ?_
  refine H_done (by kernel_rfl) ?_
  refine C_cond rfl (fun hc0 => absurd hc0 (by simp <;> omega)) (fun hc0 => ?_)
  refine C_skip ?_
  refine C_seq ?_
  refine C_region ?_
  refine L_y rfl (y_move rfl) rfl ?_
  refine L_y rfl (y_nilCheck rfl) rfl ?_
  refine L_y rfl (y_fieldAddr rfl fl_160_1) rfl ?_
  refine L_y rfl (y_load rfl ag_3 (sees 0 0 rfl) rfl) rfl ?_
  refine L_y rfl (y_assign rfl) rfl ?_
  refine L_nil ?_
  refine C_seq ?_
  refine C_region ?_
  refine L_y rfl (y_move rfl) rfl ?_
  refine L_y rfl (y_nilCheck rfl) rfl ?_
  refine L_y rfl (y_fieldAddr rfl fl_160_1) rfl ?_
  refine L_y rfl (y_load rfl ag_3 (sees 0 0 rfl) rfl) rfl ?_
  refine L_y rfl (y_add rfl rfl (show _ = ((nx + 1 : Nat) : Int) from by rw [wi64 (by omega) (by omega)]; omega)) rfl ?_
  refine L_y rfl (y_nilCheck rfl) rfl ?_
  refine L_y rfl (y_fieldAddr rfl fl_160_1) rfl ?_
  refine L_op rfl (op_store1 0 0 rfl rfl rfl sz_3 rfl (Nat.le_of_ble_eq_true rfl) ?_)
  refine L_nil ?_
  refine C_seq ?_
  refine C_region ?_
  refine L_y rfl (y_move rfl) rfl ?_
  refine L_y rfl (y_nilCheck rfl) rfl ?_
  refine L_y rfl (y_fieldAddr rfl fl_160_0) rfl ?_
  refine L_y rfl (y_load rfl ag_26 (sees 0 0 rfl) rfl) rfl ?_
  refine L_y rfl (y_move rfl) rfl ?_
  refine L_op rfl (op_call rfl rfl (fun a w => Try.call23 a w) rfl ?_)
  refine (FnS.sub (hsub_pick [1, 1] rfl) (heal_m h (hG.sub (HSub.drop _ _)) (nx : Int) hQ)).mono ?_
  rintro _ _ ⟨rfl, D1, h1, rfl⟩
  rw [hR]
  refine ⟨_, rfl, ?_⟩
  refine L_y rfl (y_move rfl) rfl ?_
  refine L_y rfl (y_extract rfl rfl) rfl ?_
  refine L_y rfl (y_extract rfl rfl) rfl ?_
  refine L_y rfl (y_assign rfl) rfl ?_
  refine L_y rfl (y_assign rfl) rfl ?_
  refine L_nil ?_
  refine C_seq ?_
  refine C_regionH0 (by kernel_rfl) ?_
  refine H_y 0 rfl (by kernel_rfl) (by kernel_rfl) (by kernel_rfl) (HSub.refl _) rfl (y_move rfl) rfl ?_
  refine H_y 1 rfl (by kernel_rfl) (by kernel_rfl) (by kernel_rfl) (HSub.refl _) rfl (y_nilCheck rfl) rfl ?_
  refine H_y 2 rfl (by kernel_rfl) (by kernel_rfl) (by kernel_rfl) (HSub.refl _) rfl (y_fieldAddr rfl fl_160_2) rfl ?_
  refine H_y 3 rfl (by kernel_rfl) (by kernel_rfl) (by kernel_rfl) (HSub.refl _) rfl (y_fieldAddr rfl fl_90_0) rfl ?_
  refine H_y 4 rfl (by kernel_rfl) (by kernel_rfl) (by kernel_rfl) (HSub.refl _) rfl (y_move rfl) rfl ?_
  refine H_y 5 rfl (by kernel_rfl) (by kernel_rfl) (by kernel_rfl) (HSub.refl _) rfl (y_nilCheck rfl) rfl ?_
  refine H_y 6 rfl (by kernel_rfl) (by kernel_rfl) (by kernel_rfl) (HSub.refl _) rfl (y_fieldAddr rfl fl_160_2) rfl ?_
  refine H_y 7 rfl (by kernel_rfl) (by kernel_rfl) (by kernel_rfl) (HSub.refl _) rfl (y_fieldAddr rfl fl_90_1) rfl ?_
  refine H_y 8 rfl (by kernel_rfl) (by kernel_rfl) (by kernel_rfl) (HSub.refl _) rfl (y_move rfl) rfl ?_
  refine H_y 9 rfl (by kernel_rfl) (by kernel_rfl) (by kernel_rfl) (HSub.refl _) rfl (y_nilCheck rfl) rfl ?_
  refine H_y 10 rfl (by kernel_rfl) (by kernel_rfl) (by kernel_rfl) (HSub.refl _) rfl (y_fieldAddr rfl fl_160_2) rfl ?_
  refine H_y 11 rfl (by kernel_rfl) (by kernel_rfl) (by kernel_rfl) (HSub.refl _) rfl (y_fieldAddr rfl fl_90_2) rfl ?_
  refine H_y 12 rfl (by kernel_rfl) (by kernel_rfl) (by kernel_rfl) (HSub.refl _) rfl (y_buildA (vs := [(0, _), (1, _), (2, _)]) (l := [.pointer (some ⟨wb, 2, none⟩), .pointer (some ⟨wb, 3, none⟩), .pointer (some ⟨wb, 4, none⟩)]) rfl Try.underlying162 sz_161 zl_162 (fill_cons (off := 0) (m := 1) (vs := [_]) rfl rfl rfl (Nat.le_of_ble_eq_true rfl) (fill_cons (off := 1) (m := 1) (vs := [_]) rfl rfl rfl (Nat.le_of_ble_eq_true rfl) (fill_cons (off := 2) (m := 1) (vs := [_]) rfl rfl rfl (Nat.le_of_ble_eq_true rfl) rfl)))) rfl ?_
  refine H_one 13 rfl (by kernel_rfl) rfl (op_alloc zl_162 rfl (fun B1 => ?_))
  refine ⟨hsub (.cons _ (.refl _)), ?_⟩
  refine H_one 14 rfl (by kernel_rfl) rfl (op_store (vs := [.pointer (some ⟨wb, 2, none⟩), .pointer (some ⟨wb, 3, none⟩), .pointer (some ⟨wb, 4, none⟩)]) 0 0 rfl rfl rfl sz_162 rfl rfl (ones rfl) (Nat.le_of_ble_eq_true rfl) ?_)
  refine ⟨hsub (.cons _ (.refl _)), ?_⟩
  refine H_done (by kernel_rfl) ?_
  refine C_seq ?_
  refine C_seq ?_
  refine C_region ?_
  refine L_y rfl (y_move rfl) rfl ?_
  refine L_y rfl (y_eqi rfl rfl) rfl ?_
  refine L_y rfl (y_move rfl) rfl ?_
  refine L_skip rfl rfl ?_
  refine L_skip rfl rfl ?_
  refine L_y rfl (y_pick_f rfl rfl) rfl ?_
  refine L_y rfl (y_move rfl) rfl ?_
  refine L_skip rfl rfl ?_
  refine L_skip rfl rfl ?_
  refine L_y rfl (y_pick_f rfl rfl) rfl ?_
  refine L_nil ?_
  refine C_cond_f rfl ?_
  refine C_skip ?_
  refine C_seq ?_
  refine C_region ?_
  refine L_y rfl (y_move rfl) rfl ?_
  refine L_y rfl (y_assign rfl) rfl ?_
  refine L_y rfl (y_assign rfl) rfl ?_
  refine L_nil ?_
  refine C_ret ?_
  refine B_ret (rv_tmp rfl (rv_tmp rfl rv_nil)) ((hsub (.cons_cons _ (.cons_cons _ (.cons_cons _ (.cons _ (.refl _)))))).trans (hsub_pick [3, 1, 1] rfl)) ?_
  exact ⟨rfl, D1, h1, rfl⟩

theorem step_m {w0 : World} {H : Hp} {D : Duo} {A : Da} {bp : Nat} {m : Mi} (h : Two dt D A m.bx m.bys bp) {p : Int → Sec → Bool} {wb : Nat} {nx : Nat} {r : Rp} (hG : GoodAt Try.prog w0 H m.gv p) (hQ : ∀ i, (A.dev i).Q.length < 99990) (hr : 0 ≤ r.1 ∧ r.1 ≤ 5000 ∧ 0 ≤ r.2.1 ∧ r.2.1 ≤ 5000 ∧ 0 ≤ r.2.2 ∧ r.2.2 ≤ 5000) (hn : nx < m.n) (hm : m.n ≤ 4096) : FnS Try.prog w0 80 #[ptr wb] ([(wb, .cells (wcells m.b (nx : Int) r).toArray 160)] :: m.seg 110 :: D.seg dt :: H) (fun e H' => e = .returned (.tuple #[.int .i64 (nx : Int), .bool true]) ∧ ∃ D', Two dt D' (healA m A p nx) m.bx m.bys bp ∧ H' = [(wb, .cells (wcells m.b ((nx + 1 : Nat) : Int) (cnt r (healR m A p nx))).toArray 160)] :: (healM m A p nx).seg 110 :: D'.seg dt :: H) := by
  have hh : m.has (nx : Int) = true := by simp [Mi.has, hn]
  rcases healR_is m A p nx hh with hR | hR | hR | hR
  · rw [hR]; exact step_0_0 h hG hQ hr hn hm hR
  · rw [hR]; exact step_1_0 h hG hQ hr hn hm hR
  · rw [hR]; exact step_2_0 h hG hQ hr hn hm hR
  · rw [hR]; exact step_0_13 h hG hQ hr hn hm hR

end Go.Proofs.Ytjjiclgbdenkkaa

/- walks (own work; the walks' lines by a program of this repo). -/
set_option linter.unusedVariables false
set_option linter.unusedSimpArgs false
set_option maxRecDepth 20000
namespace Go.Proofs.Ytjjiclgbdenkkaa
open Go.Sl
attribute [local irreducible] BodyQ WpC WpL WpS WpH OpW FnS


theorem step_k {w0 : World} {H : Hp} {D : Duo} {A : Da} {bp : Nat} {m : Mi} {p : Int → Sec → Bool} {wb k : Nat} (hG : GoodAt Try.prog w0 H m.gv p) (hQ : ∀ i, (A.dev i).Q.length ≤ 50000) (hm : m.n ≤ 4096) (hk : k ≤ m.n) (hT : Two dt D (scr m A p k).1 m.bx m.bys bp) :
    FnS Try.prog w0 80 #[ptr wb] ([(wb, .cells (wcells m.b ((k : Nat) : Int) (scr m A p k).2.2).toArray 160)] :: (scr m A p k).2.1.seg 110 :: D.seg dt :: H) (fun e H' => e = .returned (.tuple #[.int .i64 (if k < m.n then (k : Int) else 0), .bool (decide (k < m.n))]) ∧ ∃ D' j, (j = if k < m.n then k + 1 else k) ∧ Two dt D' (scr m A p j).1 m.bx m.bys bp ∧ H' = [(wb, .cells (wcells m.b ((j : Nat) : Int) (scr m A p j).2.2).toArray 160)] :: (scr m A p j).2.1.seg 110 :: D'.seg dt :: H) := by
  obtain ⟨s1, s2, s3, s4, s5⟩ := scr_same m A p k
  have hct := scr_cnt m A p k
  have hT2 : Two dt D (scr m A p k).1 (scr m A p k).2.1.bx (scr m A p k).2.1.bys bp := by rw [s2, s3]; exact hT
  have hG2 : GoodAt Try.prog w0 H (scr m A p k).2.1.gv p := by rw [s5]; exact hG
  have hQ2 : ∀ i, ((scr m A p k).1.dev i).Q.length < 99990 := fun i => by have := scr_many m A p i k; have := hQ i; omega
  have hr : 0 ≤ (scr m A p k).2.2.1 ∧ (scr m A p k).2.2.1 ≤ 5000 ∧ 0 ≤ (scr m A p k).2.2.2.1 ∧ (scr m A p k).2.2.2.1 ≤ 5000 ∧ 0 ≤ (scr m A p k).2.2.2.2 ∧ (scr m A p k).2.2.2.2 ≤ 5000 := by omega
  rw [← s1]
  by_cases hlt : k < m.n
  · refine (step_m hT2 hG2 hQ2 hr (by rw [s4]; exact hlt) (by rw [s4]; exact hm)).mono ?_
    rintro _ _ ⟨rfl, D1, h1, rfl⟩
    rw [s2, s3] at h1
    exact ⟨by simp [hlt], D1, k + 1, by simp [hlt], h1, rfl⟩
  · refine (step_end hT2 hG2 hQ2 hr (by rw [s4]; exact hlt)).mono ?_
    rintro _ _ ⟨rfl, rfl⟩
    exact ⟨by simp [hlt], D, k, by simp [hlt], hT, rfl⟩

theorem sall_m {w0 : World} {H : Hp} {D : Duo} {A : Da} {bp : Nat} {m : Mi} (h : Two dt D A m.bx m.bys bp) {p : Int → Sec → Bool} (hG : GoodAt Try.prog w0 H m.gv p) (hQ : ∀ i, (A.dev i).Q.length ≤ 50000) (hm : m.n ≤ 4096) : FnS Try.prog w0 46 #[ptr m.b] (m.seg 110 :: D.seg dt :: H) (fun e H' => e = .returned (.agg [Value.int .i64 (scr m A p m.n).2.2.1, .int .i64 (scr m A p m.n).2.2.2.1, .int .i64 (scr m A p m.n).2.2.2.2].toArray) ∧ ∃ D', Two dt D' (scr m A p m.n).1 m.bx m.bys bp ∧ H' = (scr m A p m.n).2.1.seg 110 :: D'.seg dt :: H) := by
  refine FnS_intro (n := 15) (rs := [.cell 2 90]) (vs := [ptr m.b]) Try.func46 rfl Try.ntmps46 rfl rfl ?_
  refine C_seq ?_
  refine C_region ?_
  refine L_op rfl (op_alloc zl_90 rfl (fun B1 => ?_))
  refine L_nil ?_
  refine C_seq ?_
  refine C_region ?_
  refine L_y rfl (y_move rfl) rfl ?_
  refine L_op rfl (op_call rfl rfl (fun a w => Try.call79 a w) rfl ?_)
  refine snew_s.mono ?_
  rintro _ _ ⟨wb, rfl, rfl⟩
  refine ⟨_, rfl, ?_⟩
  refine L_y rfl (y_assign rfl) rfl ?_
  refine L_nil ?_
  refine C_seq ?_
  refine C_seq ?_
  refine C_region ?_
  refine L_y rfl (y_assign rfl) rfl ?_
  refine L_nil ?_
  refine C_block ?_
  refine C_loop (ι := Duo × Nat × Bool) (fun i => [(4, .bool i.2.2), (3, ptr wb), (2, ptr B1)]) (fun i => [(wb, .cells (wcells m.b ((i.2.1 : Nat) : Int) (scr m A p i.2.1).2.2).toArray 160)] :: (scr m A p i.2.1).2.1.seg 110 :: i.1.seg dt :: [(B1, .cells [Value.int .i64 0, .int .i64 0, .int .i64 0].toArray 90)] :: H) (fun i => i.2.1 ≤ m.n ∧ Two dt i.1 (scr m A p i.2.1).1 m.bx m.bys bp ∧ (i.2.2 = false → i.2.1 = m.n)) (fun i => 2 * (m.n - i.2.1) + (if i.2.2 then 1 else 0)) (D, 0, true) ⟨Nat.zero_le _, h, fun e => by cases e⟩ ⟨rfl, rfl, rfl, trivial⟩ ((hsub (.cons_cons _ (.cons_cons _ (.cons_cons _ (.cons_cons _ (.refl _)))))).trans (hsub_pick [0, 1, 1, 0] rfl)) (fun i hi => ?_)
  obtain ⟨D, k, b⟩ := i
  obtain ⟨hk, hT, hb⟩ := hi
  simp only at hk hT hb
  dsimp only
  refine C_seq ?_
  refine C_seq ?_
  refine C_region ?_
  refine L_y rfl (y_move rfl) rfl ?_
  refine L_nil ?_
  refine C_cond rfl (fun hc0 => ?_) (fun hc0 => ?_)
  · skip
    refine C_skip ?_
    refine C_block ?_
    refine C_region ?_
    refine L_y rfl (y_move rfl) rfl ?_
    refine L_op rfl (op_call rfl rfl (fun a w => Try.call80 a w) rfl ?_)
    refine (FnS.sub (hsub_pick [0, 0, 0] rfl) (step_k (hG.sub (HSub.drop _ _)) hQ hm hk hT)).mono ?_
    rintro _ _ ⟨rfl, D2, j, hj, hT2, rfl⟩
    refine ⟨_, rfl, ?_⟩
    refine L_y rfl (y_move rfl) rfl ?_
    refine L_y rfl (y_extract rfl rfl) rfl ?_
    refine L_y rfl (y_extract rfl rfl) rfl ?_
    refine L_y rfl (y_assign rfl) rfl ?_
    refine L_nil ?_
    exact ⟨(D2, j, decide (k < m.n)), ⟨by simp only; split at hj <;> omega, hT2, fun e => by have := of_decide_eq_false e; simp only; rw [if_neg this] at hj; omega⟩, by simp only; rw [hc0]; by_cases hlt : k < m.n <;> simp [hlt] at hj ⊢ <;> omega, ⟨rfl, rfl, rfl, trivial⟩, ((hsub (.cons_cons _ (.cons_cons _ (.cons_cons _ (.cons_cons _ (.refl _)))))).trans (hsub_pick [0, 0, 0, 0] rfl))⟩
  · skip
    refine C_exit ?_
    refine C_seq ?_
    obtain rfl : k = m.n := hb hc0
    refine C_region ?_
    refine L_y rfl (y_move rfl) rfl ?_
    refine L_op rfl (op_call rfl rfl (fun a w => Try.call81 a w) rfl ?_)
    refine (report_s (sees 0 0 rfl)).mono ?_
    rintro _ _ ⟨rfl, e⟩
    obtain rfl := e.symm
    refine ⟨_, rfl, ?_⟩
    refine L_op rfl (op_store (vs := [.int .i64 (scr m A p m.n).2.2.1, .int .i64 (scr m A p m.n).2.2.2.1, .int .i64 (scr m A p m.n).2.2.2.2]) 3 0 rfl rfl rfl sz_90 rfl rfl (ones rfl) (Nat.le_of_ble_eq_true rfl) ?_)
    refine L_nil ?_
    refine C_ret ?_
    refine B_ret (rv_cellA rfl ag_90 sz_90 (sees 3 0 rfl) (Nat.le_of_ble_eq_true rfl) rfl rv_nil) ((hsub (.cons_cons _ (.cons_cons _ (.cons _ (.cons _ (.refl _)))))).trans (hsub_pick [1, 1] rfl)) ?_
    exact ⟨rfl, D, hT, rfl⟩

end Go.Proofs.Ytjjiclgbdenkkaa

/- walks (own work; the walks' lines by a program of this repo). -/
set_option linter.unusedVariables false
set_option linter.unusedSimpArgs false
set_option maxRecDepth 20000
namespace Go.Proofs.Ytjjiclgbdenkkaa
open Go.Sl
attribute [local irreducible] BodyQ WpC WpL WpS WpH OpW FnS


theorem allg_v {w0 : World} {H : Hp} {gv : Value} {D : Duo} {A : Da} {m : Mi} {K : Nat} {X Y : List Sec} {k0 k1 mb bx bys bp : Nat} (h : Ms dt gv D A m K X Y k0 k1 mb bx bys bp) {p : Int → Sec → Bool} (hG : GoodAt Try.prog w0 H gv p) (hK : K ≤ 4096) (h0 : k0 ≤ 50000) (h1 : k1 ≤ 50000) {r : Rp} (hr : rK p X Y K = r) : FnS Try.prog w0 46 #[ptr mb] (m.seg 110 :: D.seg dt :: H) (fun e H' => e = .returned (.agg [Value.int .i64 r.1, .int .i64 r.2.1, .int .i64 r.2.2].toArray) ∧ ∃ D' A' m', Ms dt gv D' A' m' K (XK p X Y K K) (YK p X Y K K) (k0 + K) (k1 + K) mb bx bys bp ∧ H' = m'.seg 110 :: D'.seg dt :: H) := by
  have hT : Two dt D A m.bx m.bys bp := by rw [h.bx, h.bys]; exact h.two
  rw [← h.mb]
  refine (sall_m hT (p := p) (by rw [h.gv]; exact hG) (fun i => h.many h0 h1 i) (by rw [h.n]; exact hK)).mono ?_
  rintro _ _ ⟨rfl, D', hT', rfl⟩
  obtain ⟨e2, h2⟩ := h.scr hT'
  rw [e2, hr]
  rw [h.mb] at *
  exact ⟨rfl, D', _, _, h2, rfl⟩

end Go.Proofs.Ytjjiclgbdenkkaa

/- walks (own work; the walks' lines by a program of this repo). -/
set_option linter.unusedVariables false
set_option linter.unusedSimpArgs false
set_option maxRecDepth 20000
namespace Go.Proofs.Ytjjiclgbdenkkaa
open Go.Sl
attribute [local irreducible] BodyQ WpC WpL WpS WpH OpW FnS


theorem rotg_v {w0 : World} {H : Hp} {gv : Value} {D : Duo} {A : Da} {m : Mi} {K : Nat} {X Y : List Sec} {mb bx bys bp : Nat} (h : Ms dt gv D A m K X Y 0 0 mb bx bys bp) (i : Bool) {n j : Nat} {s : Sec} {c : UInt8} (hs : (pick2 i X Y)[n]? = some s) (hj : j < 128) : FnS Try.prog w0 34 #[ptr (sel bx bys i), .int .i64 (n : Int), .int .i64 (j : Int), .int .u8 (c.toNat : Int)] (D.seg dt :: H) (fun e H' => e = .returned (.bool true) ∧ ∃ D' A', Ms dt gv D' A' m K (if i then X else X.set n (rotB s j c)) (if i then Y.set n (rotB s j c) else Y) 0 0 mb bx bys bp ∧ H' = D'.seg dt :: H) := by
  obtain ⟨e, v⟩ := h.vw.rot (c := c) hs hj
  refine (rot_d h.two i (n : Int) (j : Int) c).mono ?_
  rintro _ _ ⟨rfl, D', hT', rfl⟩
  rw [e]
  have ls : s.length = 128 := by cases i; exact h.okX s (List.mem_of_getElem? hs); exact h.okY s (List.mem_of_getElem? hs)
  refine ⟨rfl, D', _, h.with hT' v ?_ ?_, rfl⟩
  · cases i
    · exact set_ok2 h.okX (rotB_len.trans ls)
    · exact h.okX
  · cases i
    · exact h.okY
    · exact set_ok2 h.okY (rotB_len.trans ls)

theorem dumpg_v {w0 : World} {H : Hp} {gv : Value} {D : Duo} {A : Da} {m : Mi} {K : Nat} {X Y : List Sec} {mb bx bys bp : Nat} (h : Ms dt gv D A m K X Y 0 0 mb bx bys bp) (i : Bool) {Z : List Sec} (hZ : pick2 i X Y = Z) : FnS Try.prog w0 30 #[ptr (sel bx bys i)] (D.seg dt :: H) (fun e H' => ∃ g, slOk 128 g K (bs Z.flatten) ∧ e = .returned (slV g K) ∧ H' = slSeg 32 g (bs Z.flatten) :: D.seg dt :: H) := by
  subst hZ
  have := dump_d (w0 := w0) (H := H) h.two i
  have e : (A.dev i).S = pick2 i X Y := by cases i; exact (h.vw.dev false).stable.2; exact (h.vw.dev true).stable.2
  have hl : (A.dev i).S.length = K := (h.vw.dev i).len
  rw [hl, e] at this
  exact this

end Go.Proofs.Ytjjiclgbdenkkaa

/- walks (own work; the walks' lines by a program of this repo). -/
set_option linter.unusedVariables false
set_option linter.unusedSimpArgs false
set_option maxRecDepth 20000
namespace Go.Proofs.Ytjjiclgbdenkkaa
open Go.Sl
attribute [local irreducible] BodyQ WpC WpL WpS WpH OpW FnS



set_option maxHeartbeats 4000000 in

theorem smirror_t {w0 : World} {H : Hp} {pa : Option Addr} {cap : Nat} (gen : Nat) (hg : gen < M64) (body : List UInt8) (hB : Holds w0 H pa (bs body)) (hl : ¬ 103 < body.length) (i : Nat) (hi : i < 256) (c : UInt8) : FnS Try.prog w0 14 #[.int .u64 (gen : Int), .slice pa body.length cap, .bool true, .int .u8 (i : Int), .int .u8 (c.toNat : Int)] H (fun e H' => e = .returned (.bool true)) := by
  refine FnS_intro (n := 124) (rs := [.tmp 10]) (vs := [.int .u64 (gen : Int), .slice pa body.length cap, .bool true, .int .u8 (i : Int), .int .u8 (c.toNat : Int)]) Try.func14 rfl Try.ntmps14 rfl rfl ?_
  refine C_seq ?_
  refine C_region ?_
  refine L_y rfl (y_assign rfl) rfl ?_
  refine L_nil ?_
  refine C_seq ?_
  refine C_seq ?_
  refine C_region ?_
  refine L_op rfl (op_call rfl rfl (fun a w => Try.call47 a w) rfl ?_)
  refine awake11_s.mono ?_
  rintro _ _ ⟨rfl, e⟩
  obtain rfl := e.symm
  refine ⟨_, rfl, ?_⟩
  refine L_y rfl (y_not rfl) rfl ?_
  refine L_nil ?_
  refine C_cond_f rfl ?_
  refine C_skip ?_
  refine C_seq ?_
  refine C_seq ?_
  refine C_region ?_
  refine L_y rfl (y_move rfl) rfl ?_
  refine L_y rfl (y_lenS rfl rfl Try.underlying22) rfl ?_
  refine L_y rfl (y_gtr rfl rfl) rfl ?_
  refine L_nil ?_
  refine C_cond rfl (fun hc1 => absurd hc1 (by simp <;> omega)) (fun hc1 => ?_)
  refine C_skip ?_
  refine C_seq ?_
  refine C_region ?_
  refine L_op rfl (op_call rfl rfl (fun a w => Try.call16 a w) rfl ?_)
  refine (new_ln 3).mono ?_
  rintro _ _ ⟨d91, p91, hG91, ha91, hP91, rfl, rfl⟩
  have hA91 : d91.a = Ab.new 3 := by rw [ha91] <;> (rfl)
  have hb91 : d91.b = d91.b := rfl
  refine ⟨_, rfl, ?_⟩
  refine L_op rfl (op_call rfl rfl (fun a w => Try.call16 a w) rfl ?_)
  refine ((newnil_d hG91 rfl 3).sub (hsub_pick [0, 0, 0, 0, 0] rfl)).mono ?_
  rintro _ _ ⟨by81, D81, h81, rfl, rfl⟩
  replace h81 := h81.to (B := ⟨Ab.new 3, Ab.new 3, q0, some q0⟩) (by rw [hA91, hP91] <;> (rfl))
  have hv1 : Vw ⟨Ab.new 3, Ab.new 3, q0, some q0⟩ 3 (List.replicate 3 (secOf 0)) (List.replicate 3 (secOf 0)) 0 0 := Vw.new (by omega) (some q0) (.inr rfl)
  refine ⟨_, rfl, ?_⟩
  refine L_y rfl (y_assign rfl) rfl ?_
  refine L_y rfl (y_assign rfl) rfl ?_
  refine L_nil ?_
  refine C_seq ?_
  refine C_region ?_
  refine L_y rfl (y_move rfl) rfl ?_
  refine L_y rfl (y_move rfl) rfl ?_
  refine L_y rfl (y_build0 pl_78 zl_78) rfl ?_
  refine L_y rfl (y_makeIface rfl Try.underlying78 rfl) rfl ?_
  refine L_op rfl (op_call rfl rfl (fun a w => Try.call48 a w) rfl ?_)
  refine FnS.mono (sgood_s _ rfl) ?_
  rintro _ _ ⟨c1, rfl, rfl⟩
  refine ⟨_, rfl, ?_⟩
  refine L_op rfl (op_call rfl rfl (fun a w => Try.call17 a w) rfl ?_)
  refine (FnS.sub (hsub_pick [1] rfl) (new_v (f := 82) (cap := [ptr c1]) h81 hv1 (show ∀ s ∈ (List.replicate 3 (secOf 0)), s.length = 128 from fun s hs => by rw [List.eq_of_mem_replicate hs]; exact secOf_len _) (show ∀ s ∈ (List.replicate 3 (secOf 0)), s.length = 128 from fun s hs => by rw [List.eq_of_mem_replicate hs]; exact secOf_len _))).mono ?_
  rintro _ _ ⟨mb2, m2, hS2, rfl, rfl⟩
  refine ⟨_, rfl, ?_⟩
  refine L_y rfl (y_assign rfl) rfl ?_
  refine L_nil ?_
  refine C_seq ?_
  refine C_region ?_
  refine L_y rfl (y_build0 pl_78 zl_78) rfl ?_
  refine L_y rfl (y_makeIface rfl Try.underlying78 rfl) rfl ?_
  refine L_y rfl (y_move rfl) rfl ?_
  refine L_y rfl (y_move rfl) rfl ?_
  refine L_op rfl (op_call rfl rfl (fun a w => Try.call49 a w) rfl ?_)
  refine FnS.mono (pack_v gen hg body (slh_raw (hB.up.up.up) rfl) 1) ?_
  rintro _ _ ⟨rfl, e⟩
  obtain rfl := e.symm
  rw [show decide (packOk 1 body) = true from decide_eq_true ⟨by decide, by decide, by omega⟩]
  refine ⟨_, rfl, ?_⟩
  refine L_y rfl (y_move rfl) rfl ?_
  refine L_y rfl (y_extract rfl rfl) rfl ?_
  refine L_y rfl (y_extract rfl rfl) rfl ?_
  refine L_op rfl (op_alloc zl_32 rfl (fun B1 => ?_))
  refine L_op rfl (op_storeA 0 0 rfl rfl rfl sz_32 (by rw [bs_length, packR_len _ _ _]) rfl (bs_one _) (by simp) ?_)
  refine L_y rfl (y_assign rfl) rfl ?_
  refine L_nil ?_
  refine C_seq ?_
  refine C_seq ?_
  refine C_region ?_
  refine L_y rfl (y_move rfl) rfl ?_
  refine L_y rfl (y_loadA rfl ag_32 sz_32 (sees 0 0 rfl) (by rw [bs_length, packR_len _ _ _]; decide) (bs_whole0 _ (packR_len _ _ _))) rfl ?_
  refine L_op rfl (op_call rfl rfl (fun a w => Try.call19 a w) rfl ?_)
  refine (FnS.sub (hsub_pick [1, 1] rfl) (write_v hS2 (n := 1) (s := (packR 1 gen body)) (by decide) (packR_len _ _ _) (by omega) (by omega))).mono ?_
  rintro _ _ ⟨rfl, D3, A3, hS3, rfl⟩
  refine ⟨_, rfl, ?_⟩
  refine L_y rfl (y_nei rfl rfl) rfl ?_
  refine L_y rfl (y_move rfl) rfl ?_
  refine L_case 52 rfl (fun hg8_5 => ?_) (fun hg8_5 => ?_)
  · exact absurd hg8_5 (by simp)
  · skip
    refine L_y rfl (y_move rfl) rfl ?_
    refine L_op rfl (op_call rfl rfl (fun a w => Try.call21 a w) rfl ?_)
    refine (FnS.sub (hsub_pick [0, 0] rfl) (flush_v hS3)).mono ?_
    rintro _ _ ⟨rfl, D4, A4, hS4, rfl⟩
    refine ⟨_, rfl, ?_⟩
    refine L_y rfl (y_nei rfl rfl) rfl ?_
    refine L_y rfl (y_pick_f rfl rfl) rfl ?_
    refine L_nil ?_
    refine C_cond rfl (fun hc2 => absurd hc2 (by simp)) (fun hc2 => ?_)
    refine C_skip ?_
    refine C_seq ?_
    refine C_region ?_
    refine L_y rfl (y_move rfl) rfl ?_
    refine L_y rfl (y_assign rfl) rfl ?_
    refine L_nil ?_
    refine C_seq ?_
    refine C_seq ?_
    refine C_region ?_
    refine L_y rfl (y_move rfl) rfl ?_
    refine L_nil ?_
    refine C_cond_t rfl ?_
    refine C_region ?_
    refine L_y rfl (y_move rfl) rfl ?_
    refine L_y rfl (y_assign rfl) rfl ?_
    refine L_nil ?_
    refine C_seq ?_
    refine C_region ?_
    refine L_y rfl (y_move rfl) rfl ?_
    refine L_y rfl (y_move rfl) rfl ?_
    refine L_y rfl (y_conv rfl us_5 Try.underlying3 (wi64 (by omega) (by omega))) rfl ?_
    refine L_y rfl (y_rem rfl rfl (by decide) (show _ = ((i % 128 : Nat) : Int) from rfl)) rfl ?_
    refine L_y rfl (y_move rfl) rfl ?_
    refine L_op rfl (op_call rfl rfl (fun a w => Try.call34 a w) rfl ?_)
    refine (FnS.sub (hsub_pick [1] rfl) (rotg_v hS4 false (n := 1) (j := (i % 128)) (c := c) (s := (packR 1 gen body)) rfl (by omega))).mono ?_
    rintro _ _ ⟨rfl, D5, A5, hS5, rfl⟩
    simp only [Bool.false_eq_true, if_false, if_true] at hS5
    replace hS5 : Ms dt _ D5 A5 m2 3 ([secOf 0, (rotB (packR 1 gen body) (i % 128) c), secOf 0] : List Sec) ([secOf 0, (packR 1 gen body), secOf 0] : List Sec) 0 0 _ _ _ _ := hS5
    refine ⟨_, rfl, ?_⟩
    refine L_nil ?_
    refine C_seq ?_
    refine C_seq ?_
    refine C_region ?_
    refine L_y rfl (y_move rfl) rfl ?_
    refine L_op rfl (op_call rfl rfl (fun a w => Try.call30 a w) rfl ?_)
    refine (FnS.sub (hsub_pick [0] rfl) (dumpg_v hS5 false (Z := ([secOf 0, (rotB (packR 1 gen body) (i % 128) c), secOf 0] : List Sec)) rfl)).mono ?_
    rintro _ _ ⟨gz, hgz, rfl, rfl⟩
    refine ⟨_, rfl, ?_⟩
    refine L_y rfl (y_assign rfl) rfl ?_
    refine L_nil ?_
    refine C_seq ?_
    have okT : ∀ s ∈ ([secOf 0, (rotB (packR 1 gen body) (i % 128) c), secOf 0] : List Sec), s.length = 128 := (fun s hs => by simp only [List.mem_cons, List.not_mem_nil, or_false] at hs; rcases hs with rfl | rfl | rfl; exact secOf_len _; exact rotB_len.trans (packR_len _ _ _); exact secOf_len _)
    have hfT := flat_len okT
    have hp : sP 1 (packR 1 gen body) = true := sP_pack (n := 1) (by decide) hg (by omega)
    cases gz with
    | none => exact slOk_none hgz (by decide)
    | some gz => ?_
    refine C_regionH0 (by kernel_rfl) ?_
    refine H_y 0 rfl (by kernel_rfl) (by kernel_rfl) (by kernel_rfl) (HSub.refl _) rfl (y_move rfl) rfl ?_
    refine H_y 1 rfl (by kernel_rfl) (by kernel_rfl) (by kernel_rfl) (HSub.refl _) rfl (y_indexS rfl rfl Try.underlying40 sz_32 (by omega) (by omega) (show _ = 0 + 1 * 128 from by simp)) rfl ?_
    refine H_y 2 rfl (by kernel_rfl) (by kernel_rfl) (by kernel_rfl) (HSub.refl _) rfl (y_loadA rfl ag_32 sz_32 (sees 0 0 rfl) (by rw [List.length_append, bs_length, hfT]; simp <;> omega) (sec_at (n := 0) okT (by simp) (show (([secOf 0, (rotB (packR 1 gen body) (i % 128) c), secOf 0] : List Sec))[1]? = some (rotB (packR 1 gen body) (i % 128) c) from rfl))) rfl ?_
    refine H_y 3 rfl (by kernel_rfl) (by kernel_rfl) (by kernel_rfl) (HSub.refl _) rfl (y_loadA rfl ag_32 sz_32 (sees 3 0 rfl) (by rw [bs_length, packR_len _ _ _]; decide) (bs_whole0 _ (packR_len _ _ _))) rfl ?_
    refine H_y 4 rfl (by kernel_rfl) (by kernel_rfl) (by kernel_rfl) (HSub.refl _) rfl (y_nea rfl rfl Try.underlying32 Try.underlying5 sz_5 eg_32 (rotB_len.trans (packR_len _ _ _)) (packR_len _ _ _)) rfl ?_
    refine H_done (by kernel_rfl) ?_
    refine C_cond rfl (fun hc4 => ?_) (fun hc4 => ?_)
    · skip
      refine C_seq ?_
      refine C_region ?_
      refine L_y rfl (y_move rfl) rfl ?_
      refine L_y rfl (y_indexS rfl rfl Try.underlying40 sz_32 (by omega) (by omega) (show _ = 0 + 1 * 128 from by simp)) rfl ?_
      refine L_y rfl (y_loadA rfl ag_32 sz_32 (sees 0 0 rfl) (by rw [List.length_append, bs_length, hfT]; simp <;> omega) (sec_at (n := 0) okT (by simp) (show (([secOf 0, (rotB (packR 1 gen body) (i % 128) c), secOf 0] : List Sec))[1]? = some (rotB (packR 1 gen body) (i % 128) c) from rfl))) rfl ?_
      refine L_op rfl (op_call rfl rfl (fun a w => Try.call50 a w) rfl ?_)
      refine FnS.mono (runpack_u 1 (rotB (packR 1 gen body) (i % 128) c) (rotB_len.trans (packR_len _ _ _))) ?_
      rintro _ _ ⟨g1, hg1, rfl, rfl⟩
      refine ⟨_, rfl, ?_⟩
      refine L_y rfl (y_move rfl) rfl ?_
      refine L_y rfl (y_extract rfl rfl) rfl ?_
      refine L_y rfl (y_extract rfl rfl) rfl ?_
      refine L_y rfl (y_extract rfl rfl) rfl ?_
      refine L_y rfl (y_assign rfl) rfl ?_
      refine L_y rfl (y_assign rfl) rfl ?_
      refine L_y rfl (y_assign rfl) rfl ?_
      refine L_nil ?_
      refine C_seq ?_
      refine C_region ?_
      refine L_y rfl (y_move rfl) rfl ?_
      refine L_nil ?_
      refine C_cond rfl (fun hc5 => ?_) (fun hc5 => ?_)
      · skip
        refine C_seq ?_
        refine C_region ?_
        refine L_y rfl (y_assign rfl) rfl ?_
        refine L_nil ?_
        refine C_ret ?_
        refine B_ret (rv_tmp rfl rv_nil) (HSub.refl _) ?_
        first | rfl | exact ret_bool (by simp)
      · have hq : sP 1 (rotB (packR 1 gen body) (i % 128) c) = false ∨ (rotB (packR 1 gen body) (i % 128) c) = (packR 1 gen body) := .inl hc5
        refine C_skip ?_
        refine C_seq ?_
        refine C_region ?_
        refine L_y rfl (y_move rfl) rfl ?_
        refine L_op rfl (op_call rfl rfl (fun a w => Try.call22 a w) rfl ?_)
        refine (FnS.sub (hsub_pick [3, 2] rfl) (readg_v hS5 (sgood_at (sees 3 0 rfl)) (n := 1) (s := (rotB (packR 1 gen body) (i % 128) c)) (show (([secOf 0, (rotB (packR 1 gen body) (i % 128) c), secOf 0] : List Sec))[1]? = some (rotB (packR 1 gen body) (i % 128) c) from rfl) (t := (packR 1 gen body)) (show (([secOf 0, (packR 1 gen body), secOf 0] : List Sec))[1]? = some (packR 1 gen body) from rfl))).mono ?_
        rintro _ _ ⟨e4, rfl⟩
        rw [show rdv sP ((1 : Nat) : Int) (rotB (packR 1 gen body) (i % 128) c) (packR 1 gen body) = (packR 1 gen body) from (sm_read (n := 1) hp hq).2.1, show rde sP ((1 : Nat) : Int) (rotB (packR 1 gen body) (i % 128) c) (packR 1 gen body) = 0 from (sm_read (n := 1) hp hq).2.2] at e4
        obtain rfl := e4
        refine ⟨_, rfl, ?_⟩
        refine L_y rfl (y_move rfl) rfl ?_
        refine L_y rfl (y_extract rfl rfl) rfl ?_
        refine L_y rfl (y_extract rfl rfl) rfl ?_
        refine L_op rfl (op_alloc zl_32 rfl (fun B2 => ?_))
        refine L_op rfl (op_storeA 0 0 rfl rfl rfl sz_32 (by rw [bs_length, packR_len _ _ _]) rfl (bs_one _) (by simp) ?_)
        refine L_y rfl (y_assign rfl) rfl ?_
        refine L_nil ?_
        refine C_seq ?_
        refine C_region ?_
        refine L_y rfl (y_move rfl) rfl ?_
        refine L_op rfl (op_call rfl rfl (fun a w => Try.call46 a w) rfl ?_)
        obtain ⟨ra, rb, hrk⟩ := sm_rk hp hq true
        replace hS5 : Ms dt _ _ _ _ 3 (pick2 true ([secOf 0, (packR 1 gen body), secOf 0] : List Sec) ([secOf 0, (rotB (packR 1 gen body) (i % 128) c), secOf 0] : List Sec)) (pick2 true ([secOf 0, (rotB (packR 1 gen body) (i % 128) c), secOf 0] : List Sec) ([secOf 0, (packR 1 gen body), secOf 0] : List Sec)) 0 0 _ _ _ _ := hS5
        refine (FnS.sub (hsub_pick [1, 1] rfl) (allg_v hS5 (sgood_at (sees 4 0 rfl)) (by decide) (by decide) (by decide) (r := (ra, (if (rotB (packR 1 gen body) (i % 128) c) = (packR 1 gen body) then 0 else 1), rb)) hrk)).mono ?_
        rintro _ _ ⟨rfl, D6, A6, m6, hS6, rfl⟩
        refine ⟨_, rfl, ?_⟩
        refine L_op rfl (op_alloc zl_90 rfl (fun B3 => ?_))
        refine L_op rfl (op_store 0 0 rfl rfl rfl sz_90 rfl rfl (ones rfl) (by decide) ?_)
        skip
        refine L_nil ?_
        refine C_seq ?_
        refine C_region ?_
        refine L_y rfl (y_move rfl) rfl ?_
        refine L_op rfl (op_call rfl rfl (fun a w => Try.call21 a w) rfl ?_)
        refine (FnS.sub (hsub_pick [1, 1] rfl) (flush_v hS6)).mono ?_
        rintro _ _ ⟨rfl, D7, A7, hS7, rfl⟩
        refine ⟨_, rfl, ?_⟩
        refine L_nil ?_
        refine C_seq ?_
        refine C_region ?_
        refine L_y rfl (y_move rfl) rfl ?_
        refine L_op rfl (op_call rfl rfl (fun a w => Try.call30 a w) rfl ?_)
        refine (FnS.sub (hsub_pick [1] rfl) (dumpg_v hS7 false (Z := (XK sP (pick2 true ([secOf 0, (packR 1 gen body), secOf 0] : List Sec) ([secOf 0, (rotB (packR 1 gen body) (i % 128) c), secOf 0] : List Sec)) (pick2 true ([secOf 0, (rotB (packR 1 gen body) (i % 128) c), secOf 0] : List Sec) ([secOf 0, (packR 1 gen body), secOf 0] : List Sec)) 3 3)) rfl)).mono ?_
        rintro _ _ ⟨gp, hgp, rfl, rfl⟩
        refine ⟨_, rfl, ?_⟩
        refine L_y rfl (y_move rfl) rfl ?_
        refine L_op rfl (op_call rfl rfl (fun a w => Try.call30 a w) rfl ?_)
        refine (FnS.sub (hsub_pick [1] rfl) (dumpg_v hS7 true (Z := (YK sP (pick2 true ([secOf 0, (packR 1 gen body), secOf 0] : List Sec) ([secOf 0, (rotB (packR 1 gen body) (i % 128) c), secOf 0] : List Sec)) (pick2 true ([secOf 0, (rotB (packR 1 gen body) (i % 128) c), secOf 0] : List Sec) ([secOf 0, (packR 1 gen body), secOf 0] : List Sec)) 3 3)) rfl)).mono ?_
        rintro _ _ ⟨gq, hgq, rfl, rfl⟩
        refine ⟨_, rfl, ?_⟩
        refine L_y rfl (y_assign rfl) rfl ?_
        refine L_y rfl (y_assign rfl) rfl ?_
        refine L_nil ?_
        refine C_seq ?_
        refine C_region ?_
        refine L_y rfl (y_assign rfl) rfl ?_
        refine L_nil ?_
        refine C_seq ?_
        refine C_seq ?_
        refine C_region ?_
        refine L_y rfl (y_move rfl) rfl ?_
        refine L_y rfl (y_nei rfl rfl) rfl ?_
        refine L_nil ?_
        refine C_cond rfl (fun hc6 => ?_) (fun hc6 => ?_)
        · have hc0 : ¬ c = 0 := fun h => by subst h; exact absurd hc6 (by decide)
          refine C_region ?_
          refine L_y rfl (y_assign rfl) rfl ?_
          refine L_nil ?_
          refine C_seq ?_
          cases gp with
          | none => exact slOk_none hgp (by decide)
          | some gp => ?_
          cases gq with
          | none => exact slOk_none hgq (by decide)
          | some gq => ?_
          have okA : ∀ s ∈ ([secOf 0, (packR 1 gen body), secOf 0] : List Sec), s.length = 128 := (fun s hs => by simp only [List.mem_cons, List.not_mem_nil, or_false] at hs; rcases hs with rfl | rfl | rfl; exact secOf_len _; exact packR_len _ _ _; exact secOf_len _)
          have okX2 : ∀ s ∈ (pick2 true ([secOf 0, (packR 1 gen body), secOf 0] : List Sec) ([secOf 0, (rotB (packR 1 gen body) (i % 128) c), secOf 0] : List Sec)), s.length = 128 := by first | exact okA | exact okT
          have okY2 : ∀ s ∈ (pick2 true ([secOf 0, (rotB (packR 1 gen body) (i % 128) c), secOf 0] : List Sec) ([secOf 0, (packR 1 gen body), secOf 0] : List Sec)), s.length = 128 := by first | exact okA | exact okT
          have okP := XK_ok (p := sP) (K := 3) (k := 3) okX2 okY2 rfl rfl
          have okQ := YK_ok (p := sP) (K := 3) (k := 3) okX2 okY2 rfl rfl
          have hfP := flat_len okP
          have hfQ := flat_len okQ
          rw [show (XK sP (pick2 true ([secOf 0, (packR 1 gen body), secOf 0] : List Sec) ([secOf 0, (rotB (packR 1 gen body) (i % 128) c), secOf 0] : List Sec)) (pick2 true ([secOf 0, (rotB (packR 1 gen body) (i % 128) c), secOf 0] : List Sec) ([secOf 0, (packR 1 gen body), secOf 0] : List Sec)) 3 3).length = 3 from rfl] at hfP
          rw [show (YK sP (pick2 true ([secOf 0, (packR 1 gen body), secOf 0] : List Sec) ([secOf 0, (rotB (packR 1 gen body) (i % 128) c), secOf 0] : List Sec)) (pick2 true ([secOf 0, (rotB (packR 1 gen body) (i % 128) c), secOf 0] : List Sec) ([secOf 0, (packR 1 gen body), secOf 0] : List Sec)) 3 3).length = 3 from rfl] at hfQ
          refine C_regionH0 (by kernel_rfl) ?_
          refine H_y 0 rfl (by kernel_rfl) (by kernel_rfl) (by kernel_rfl) (HSub.refl _) rfl (y_move rfl) rfl ?_
          refine H_y 1 rfl (by kernel_rfl) (by kernel_rfl) (by kernel_rfl) (HSub.refl _) rfl (y_eqi rfl rfl) rfl ?_
          refine H_y 2 rfl (by kernel_rfl) (by kernel_rfl) (by kernel_rfl) (HSub.refl _) rfl (y_move rfl) rfl ?_
          refine H_case 99 rfl (fun hg26_3 => ?_) (fun hg26_3 => ?_)
          · skip
            refine H_y 3 rfl (by kernel_rfl) (by kernel_rfl) (by kernel_rfl) (HSub.refl _) rfl (y_loadA rfl ag_32 sz_32 (sees 5 0 rfl) (by rw [bs_length, packR_len _ _ _]; decide) (bs_whole0 _ (packR_len _ _ _))) rfl ?_
            refine H_y 4 rfl (by kernel_rfl) (by kernel_rfl) (by kernel_rfl) (HSub.refl _) rfl (y_loadA rfl ag_32 sz_32 (sees 8 0 rfl) (by rw [bs_length, packR_len _ _ _]; decide) (bs_whole0 _ (packR_len _ _ _))) rfl ?_
            refine H_y 5 rfl (by kernel_rfl) (by kernel_rfl) (by kernel_rfl) (HSub.refl _) rfl (y_eqa rfl rfl Try.underlying32 Try.underlying5 sz_5 eg_32 (packR_len _ _ _) (packR_len _ _ _)) rfl ?_
            refine H_y 6 rfl (by kernel_rfl) (by kernel_rfl) (by kernel_rfl) (HSub.refl _) rfl (y_pick_t rfl rfl) rfl ?_
            refine H_y 7 rfl (by kernel_rfl) (by kernel_rfl) (by kernel_rfl) (HSub.refl _) rfl (y_move rfl) rfl ?_
            refine H_case 104 rfl (fun hg26_8 => ?_) (fun hg26_8 => ?_)
            · skip
              refine H_y 8 rfl (by kernel_rfl) (by kernel_rfl) (by kernel_rfl) (HSub.refl _) rfl (y_fieldAddr rfl fl_90_1) rfl ?_
              refine H_y 9 rfl (by kernel_rfl) (by kernel_rfl) (by kernel_rfl) (HSub.refl _) rfl (y_load rfl ag_3 (sees 4 0 rfl) rfl) rfl ?_
              refine H_y 10 rfl (by kernel_rfl) (by kernel_rfl) (by kernel_rfl) (HSub.refl _) rfl (y_move rfl) rfl ?_
              refine H_y 11 rfl (by kernel_rfl) (by kernel_rfl) (by kernel_rfl) (HSub.refl _) rfl (y_eqi rfl rfl) rfl ?_
              refine H_y 12 rfl (by kernel_rfl) (by kernel_rfl) (by kernel_rfl) (HSub.refl _) rfl (y_pick_t rfl rfl) rfl ?_
              refine H_y 13 rfl (by kernel_rfl) (by kernel_rfl) (by kernel_rfl) (HSub.refl _) rfl (y_move rfl) rfl ?_
              refine H_case 110 rfl (fun hg26_14 => ?_) (fun hg26_14 => ?_)
              · skip
                refine H_y 14 rfl (by kernel_rfl) (by kernel_rfl) (by kernel_rfl) (HSub.refl _) rfl (y_move rfl) rfl ?_
                refine H_y 15 rfl (by kernel_rfl) (by kernel_rfl) (by kernel_rfl) (HSub.refl _) rfl (y_indexS rfl rfl Try.underlying40 sz_32 (by omega) (by omega) (show _ = 0 + 1 * 128 from by simp)) rfl ?_
                refine H_y 16 rfl (by kernel_rfl) (by kernel_rfl) (by kernel_rfl) (HSub.refl _) rfl (y_loadA rfl ag_32 sz_32 (sees 2 0 rfl) (by rw [List.length_append, bs_length, hfP]; omega) (sec_at (n := 0) okP (by simp) (sm_xk hp hq true false))) rfl ?_
                refine H_y 17 rfl (by kernel_rfl) (by kernel_rfl) (by kernel_rfl) (HSub.refl _) rfl (y_loadA rfl ag_32 sz_32 (sees 8 0 rfl) (by rw [bs_length, packR_len _ _ _]; decide) (bs_whole0 _ (packR_len _ _ _))) rfl ?_
                refine H_y 18 rfl (by kernel_rfl) (by kernel_rfl) (by kernel_rfl) (HSub.refl _) rfl (y_eqa rfl rfl Try.underlying32 Try.underlying5 sz_5 eg_32 (packR_len _ _ _) (packR_len _ _ _)) rfl ?_
                refine H_y 19 rfl (by kernel_rfl) (by kernel_rfl) (by kernel_rfl) (HSub.refl _) rfl (y_pick_t rfl rfl) rfl ?_
                refine H_y 20 rfl (by kernel_rfl) (by kernel_rfl) (by kernel_rfl) (HSub.refl _) rfl (y_move rfl) rfl ?_
                refine H_case 117 rfl (fun hg26_21 => ?_) (fun hg26_21 => ?_)
                · skip
                  refine H_y 21 rfl (by kernel_rfl) (by kernel_rfl) (by kernel_rfl) (HSub.refl _) rfl (y_move rfl) rfl ?_
                  refine H_y 22 rfl (by kernel_rfl) (by kernel_rfl) (by kernel_rfl) (HSub.refl _) rfl (y_indexS rfl rfl Try.underlying40 sz_32 (by omega) (by omega) (show _ = 0 + 1 * 128 from by simp)) rfl ?_
                  refine H_y 23 rfl (by kernel_rfl) (by kernel_rfl) (by kernel_rfl) (HSub.refl _) rfl (y_loadA rfl ag_32 sz_32 (sees 0 0 rfl) (by rw [List.length_append, bs_length, hfQ]; omega) (sec_at (n := 0) okQ (by simp) (sm_xk hp hq true true))) rfl ?_
                  refine H_y 24 rfl (by kernel_rfl) (by kernel_rfl) (by kernel_rfl) (HSub.refl _) rfl (y_loadA rfl ag_32 sz_32 (sees 8 0 rfl) (by rw [bs_length, packR_len _ _ _]; decide) (bs_whole0 _ (packR_len _ _ _))) rfl ?_
                  refine H_y 25 rfl (by kernel_rfl) (by kernel_rfl) (by kernel_rfl) (HSub.refl _) rfl (y_eqa rfl rfl Try.underlying32 Try.underlying5 sz_5 eg_32 (packR_len _ _ _) (packR_len _ _ _)) rfl ?_
                  refine H_y 26 rfl (by kernel_rfl) (by kernel_rfl) (by kernel_rfl) (HSub.refl _) rfl (y_pick_t rfl rfl) rfl ?_
                  refine H_y 27 rfl (by kernel_rfl) (by kernel_rfl) (by kernel_rfl) (HSub.refl _) rfl (y_assign rfl) rfl ?_
                  refine H_done (by kernel_rfl) ?_
                  refine C_ret ?_
                  refine B_ret (rv_tmp rfl rv_nil) (HSub.refl _) ?_
                  first | rfl | exact ret_bool (by simp)
                · exact absurd hg26_21 (by simp)
              · exact absurd hg26_14 (by simp [rotB_same (packR_len _ _ _) (show i % 128 < 128 by omega), hc0])
            · exact absurd hg26_8 (by simp)
          · exact absurd hg26_3 (by simp)
        · have hc0 : c = 0 := UInt8.toNat_inj.1 (Int.ofNat_inj.1 (by simpa using hc6))
          refine C_skip ?_
          refine C_seq ?_
          cases gp with
          | none => exact slOk_none hgp (by decide)
          | some gp => ?_
          cases gq with
          | none => exact slOk_none hgq (by decide)
          | some gq => ?_
          have okA : ∀ s ∈ ([secOf 0, (packR 1 gen body), secOf 0] : List Sec), s.length = 128 := (fun s hs => by simp only [List.mem_cons, List.not_mem_nil, or_false] at hs; rcases hs with rfl | rfl | rfl; exact secOf_len _; exact packR_len _ _ _; exact secOf_len _)
          have okX2 : ∀ s ∈ (pick2 true ([secOf 0, (packR 1 gen body), secOf 0] : List Sec) ([secOf 0, (rotB (packR 1 gen body) (i % 128) c), secOf 0] : List Sec)), s.length = 128 := by first | exact okA | exact okT
          have okY2 : ∀ s ∈ (pick2 true ([secOf 0, (rotB (packR 1 gen body) (i % 128) c), secOf 0] : List Sec) ([secOf 0, (packR 1 gen body), secOf 0] : List Sec)), s.length = 128 := by first | exact okA | exact okT
          have okP := XK_ok (p := sP) (K := 3) (k := 3) okX2 okY2 rfl rfl
          have okQ := YK_ok (p := sP) (K := 3) (k := 3) okX2 okY2 rfl rfl
          have hfP := flat_len okP
          have hfQ := flat_len okQ
          rw [show (XK sP (pick2 true ([secOf 0, (packR 1 gen body), secOf 0] : List Sec) ([secOf 0, (rotB (packR 1 gen body) (i % 128) c), secOf 0] : List Sec)) (pick2 true ([secOf 0, (rotB (packR 1 gen body) (i % 128) c), secOf 0] : List Sec) ([secOf 0, (packR 1 gen body), secOf 0] : List Sec)) 3 3).length = 3 from rfl] at hfP
          rw [show (YK sP (pick2 true ([secOf 0, (packR 1 gen body), secOf 0] : List Sec) ([secOf 0, (rotB (packR 1 gen body) (i % 128) c), secOf 0] : List Sec)) (pick2 true ([secOf 0, (rotB (packR 1 gen body) (i % 128) c), secOf 0] : List Sec) ([secOf 0, (packR 1 gen body), secOf 0] : List Sec)) 3 3).length = 3 from rfl] at hfQ
          refine C_regionH0 (by kernel_rfl) ?_
          refine H_y 0 rfl (by kernel_rfl) (by kernel_rfl) (by kernel_rfl) (HSub.refl _) rfl (y_move rfl) rfl ?_
          refine H_y 1 rfl (by kernel_rfl) (by kernel_rfl) (by kernel_rfl) (HSub.refl _) rfl (y_eqi rfl rfl) rfl ?_
          refine H_y 2 rfl (by kernel_rfl) (by kernel_rfl) (by kernel_rfl) (HSub.refl _) rfl (y_move rfl) rfl ?_
          refine H_case 99 rfl (fun hg26_3 => ?_) (fun hg26_3 => ?_)
          · skip
            refine H_y 3 rfl (by kernel_rfl) (by kernel_rfl) (by kernel_rfl) (HSub.refl _) rfl (y_loadA rfl ag_32 sz_32 (sees 5 0 rfl) (by rw [bs_length, packR_len _ _ _]; decide) (bs_whole0 _ (packR_len _ _ _))) rfl ?_
            refine H_y 4 rfl (by kernel_rfl) (by kernel_rfl) (by kernel_rfl) (HSub.refl _) rfl (y_loadA rfl ag_32 sz_32 (sees 8 0 rfl) (by rw [bs_length, packR_len _ _ _]; decide) (bs_whole0 _ (packR_len _ _ _))) rfl ?_
            refine H_y 5 rfl (by kernel_rfl) (by kernel_rfl) (by kernel_rfl) (HSub.refl _) rfl (y_eqa rfl rfl Try.underlying32 Try.underlying5 sz_5 eg_32 (packR_len _ _ _) (packR_len _ _ _)) rfl ?_
            refine H_y 6 rfl (by kernel_rfl) (by kernel_rfl) (by kernel_rfl) (HSub.refl _) rfl (y_pick_t rfl rfl) rfl ?_
            refine H_y 7 rfl (by kernel_rfl) (by kernel_rfl) (by kernel_rfl) (HSub.refl _) rfl (y_move rfl) rfl ?_
            refine H_case 104 rfl (fun hg26_8 => ?_) (fun hg26_8 => ?_)
            · skip
              refine H_y 8 rfl (by kernel_rfl) (by kernel_rfl) (by kernel_rfl) (HSub.refl _) rfl (y_fieldAddr rfl fl_90_1) rfl ?_
              refine H_y 9 rfl (by kernel_rfl) (by kernel_rfl) (by kernel_rfl) (HSub.refl _) rfl (y_load rfl ag_3 (sees 4 0 rfl) rfl) rfl ?_
              refine H_y 10 rfl (by kernel_rfl) (by kernel_rfl) (by kernel_rfl) (HSub.refl _) rfl (y_move rfl) rfl ?_
              refine H_y 11 rfl (by kernel_rfl) (by kernel_rfl) (by kernel_rfl) (HSub.refl _) rfl (y_eqi rfl rfl) rfl ?_
              refine H_y 12 rfl (by kernel_rfl) (by kernel_rfl) (by kernel_rfl) (HSub.refl _) rfl (y_pick_t rfl rfl) rfl ?_
              refine H_y 13 rfl (by kernel_rfl) (by kernel_rfl) (by kernel_rfl) (HSub.refl _) rfl (y_move rfl) rfl ?_
              refine H_case 110 rfl (fun hg26_14 => ?_) (fun hg26_14 => ?_)
              · skip
                refine H_y 14 rfl (by kernel_rfl) (by kernel_rfl) (by kernel_rfl) (HSub.refl _) rfl (y_move rfl) rfl ?_
                refine H_y 15 rfl (by kernel_rfl) (by kernel_rfl) (by kernel_rfl) (HSub.refl _) rfl (y_indexS rfl rfl Try.underlying40 sz_32 (by omega) (by omega) (show _ = 0 + 1 * 128 from by simp)) rfl ?_
                refine H_y 16 rfl (by kernel_rfl) (by kernel_rfl) (by kernel_rfl) (HSub.refl _) rfl (y_loadA rfl ag_32 sz_32 (sees 2 0 rfl) (by rw [List.length_append, bs_length, hfP]; omega) (sec_at (n := 0) okP (by simp) (sm_xk hp hq true false))) rfl ?_
                refine H_y 17 rfl (by kernel_rfl) (by kernel_rfl) (by kernel_rfl) (HSub.refl _) rfl (y_loadA rfl ag_32 sz_32 (sees 8 0 rfl) (by rw [bs_length, packR_len _ _ _]; decide) (bs_whole0 _ (packR_len _ _ _))) rfl ?_
                refine H_y 18 rfl (by kernel_rfl) (by kernel_rfl) (by kernel_rfl) (HSub.refl _) rfl (y_eqa rfl rfl Try.underlying32 Try.underlying5 sz_5 eg_32 (packR_len _ _ _) (packR_len _ _ _)) rfl ?_
                refine H_y 19 rfl (by kernel_rfl) (by kernel_rfl) (by kernel_rfl) (HSub.refl _) rfl (y_pick_t rfl rfl) rfl ?_
                refine H_y 20 rfl (by kernel_rfl) (by kernel_rfl) (by kernel_rfl) (HSub.refl _) rfl (y_move rfl) rfl ?_
                refine H_case 117 rfl (fun hg26_21 => ?_) (fun hg26_21 => ?_)
                · skip
                  refine H_y 21 rfl (by kernel_rfl) (by kernel_rfl) (by kernel_rfl) (HSub.refl _) rfl (y_move rfl) rfl ?_
                  refine H_y 22 rfl (by kernel_rfl) (by kernel_rfl) (by kernel_rfl) (HSub.refl _) rfl (y_indexS rfl rfl Try.underlying40 sz_32 (by omega) (by omega) (show _ = 0 + 1 * 128 from by simp)) rfl ?_
                  refine H_y 23 rfl (by kernel_rfl) (by kernel_rfl) (by kernel_rfl) (HSub.refl _) rfl (y_loadA rfl ag_32 sz_32 (sees 0 0 rfl) (by rw [List.length_append, bs_length, hfQ]; omega) (sec_at (n := 0) okQ (by simp) (sm_xk hp hq true true))) rfl ?_
                  refine H_y 24 rfl (by kernel_rfl) (by kernel_rfl) (by kernel_rfl) (HSub.refl _) rfl (y_loadA rfl ag_32 sz_32 (sees 8 0 rfl) (by rw [bs_length, packR_len _ _ _]; decide) (bs_whole0 _ (packR_len _ _ _))) rfl ?_
                  refine H_y 25 rfl (by kernel_rfl) (by kernel_rfl) (by kernel_rfl) (HSub.refl _) rfl (y_eqa rfl rfl Try.underlying32 Try.underlying5 sz_5 eg_32 (packR_len _ _ _) (packR_len _ _ _)) rfl ?_
                  refine H_y 26 rfl (by kernel_rfl) (by kernel_rfl) (by kernel_rfl) (HSub.refl _) rfl (y_pick_t rfl rfl) rfl ?_
                  refine H_y 27 rfl (by kernel_rfl) (by kernel_rfl) (by kernel_rfl) (HSub.refl _) rfl (y_assign rfl) rfl ?_
                  refine H_done (by kernel_rfl) ?_
                  refine C_ret ?_
                  refine B_ret (rv_tmp rfl rv_nil) (HSub.refl _) ?_
                  first | rfl | exact ret_bool (by simp)
                · exact absurd hg26_21 (by simp)
              · exact absurd hg26_14 (by simp [rotB_same (packR_len _ _ _) (show i % 128 < 128 by omega), hc0])
            · exact absurd hg26_8 (by simp)
          · exact absurd hg26_3 (by simp)
    · have hq : sP 1 (rotB (packR 1 gen body) (i % 128) c) = false ∨ (rotB (packR 1 gen body) (i % 128) c) = (packR 1 gen body) := .inr (by simpa using hc4)
      refine C_skip ?_
      refine C_seq ?_
      refine C_region ?_
      refine L_y rfl (y_move rfl) rfl ?_
      refine L_op rfl (op_call rfl rfl (fun a w => Try.call22 a w) rfl ?_)
      refine (FnS.sub (hsub_pick [2, 1] rfl) (readg_v hS5 (sgood_at (sees 2 0 rfl)) (n := 1) (s := (rotB (packR 1 gen body) (i % 128) c)) (show (([secOf 0, (rotB (packR 1 gen body) (i % 128) c), secOf 0] : List Sec))[1]? = some (rotB (packR 1 gen body) (i % 128) c) from rfl) (t := (packR 1 gen body)) (show (([secOf 0, (packR 1 gen body), secOf 0] : List Sec))[1]? = some (packR 1 gen body) from rfl))).mono ?_
      rintro _ _ ⟨e4, rfl⟩
      rw [show rdv sP ((1 : Nat) : Int) (rotB (packR 1 gen body) (i % 128) c) (packR 1 gen body) = (packR 1 gen body) from (sm_read (n := 1) hp hq).2.1, show rde sP ((1 : Nat) : Int) (rotB (packR 1 gen body) (i % 128) c) (packR 1 gen body) = 0 from (sm_read (n := 1) hp hq).2.2] at e4
      obtain rfl := e4
      refine ⟨_, rfl, ?_⟩
      refine L_y rfl (y_move rfl) rfl ?_
      refine L_y rfl (y_extract rfl rfl) rfl ?_
      refine L_y rfl (y_extract rfl rfl) rfl ?_
      refine L_op rfl (op_alloc zl_32 rfl (fun B4 => ?_))
      refine L_op rfl (op_storeA 0 0 rfl rfl rfl sz_32 (by rw [bs_length, packR_len _ _ _]) rfl (bs_one _) (by simp) ?_)
      refine L_y rfl (y_assign rfl) rfl ?_
      refine L_nil ?_
      refine C_seq ?_
      refine C_region ?_
      refine L_y rfl (y_move rfl) rfl ?_
      refine L_op rfl (op_call rfl rfl (fun a w => Try.call46 a w) rfl ?_)
      obtain ⟨ra, rb, hrk⟩ := sm_rk hp hq true
      replace hS5 : Ms dt _ _ _ _ 3 (pick2 true ([secOf 0, (packR 1 gen body), secOf 0] : List Sec) ([secOf 0, (rotB (packR 1 gen body) (i % 128) c), secOf 0] : List Sec)) (pick2 true ([secOf 0, (rotB (packR 1 gen body) (i % 128) c), secOf 0] : List Sec) ([secOf 0, (packR 1 gen body), secOf 0] : List Sec)) 0 0 _ _ _ _ := hS5
      refine (FnS.sub (hsub_pick [1, 1] rfl) (allg_v hS5 (sgood_at (sees 3 0 rfl)) (by decide) (by decide) (by decide) (r := (ra, (if (rotB (packR 1 gen body) (i % 128) c) = (packR 1 gen body) then 0 else 1), rb)) hrk)).mono ?_
      rintro _ _ ⟨rfl, D8, A8, m8, hS8, rfl⟩
      refine ⟨_, rfl, ?_⟩
      refine L_op rfl (op_alloc zl_90 rfl (fun B5 => ?_))
      refine L_op rfl (op_store 0 0 rfl rfl rfl sz_90 rfl rfl (ones rfl) (by decide) ?_)
      skip
      refine L_nil ?_
      refine C_seq ?_
      refine C_region ?_
      refine L_y rfl (y_move rfl) rfl ?_
      refine L_op rfl (op_call rfl rfl (fun a w => Try.call21 a w) rfl ?_)
      refine (FnS.sub (hsub_pick [1, 1] rfl) (flush_v hS8)).mono ?_
      rintro _ _ ⟨rfl, D9, A9, hS9, rfl⟩
      refine ⟨_, rfl, ?_⟩
      refine L_nil ?_
      refine C_seq ?_
      refine C_region ?_
      refine L_y rfl (y_move rfl) rfl ?_
      refine L_op rfl (op_call rfl rfl (fun a w => Try.call30 a w) rfl ?_)
      refine (FnS.sub (hsub_pick [1] rfl) (dumpg_v hS9 false (Z := (XK sP (pick2 true ([secOf 0, (packR 1 gen body), secOf 0] : List Sec) ([secOf 0, (rotB (packR 1 gen body) (i % 128) c), secOf 0] : List Sec)) (pick2 true ([secOf 0, (rotB (packR 1 gen body) (i % 128) c), secOf 0] : List Sec) ([secOf 0, (packR 1 gen body), secOf 0] : List Sec)) 3 3)) rfl)).mono ?_
      rintro _ _ ⟨gp, hgp, rfl, rfl⟩
      refine ⟨_, rfl, ?_⟩
      refine L_y rfl (y_move rfl) rfl ?_
      refine L_op rfl (op_call rfl rfl (fun a w => Try.call30 a w) rfl ?_)
      refine (FnS.sub (hsub_pick [1] rfl) (dumpg_v hS9 true (Z := (YK sP (pick2 true ([secOf 0, (packR 1 gen body), secOf 0] : List Sec) ([secOf 0, (rotB (packR 1 gen body) (i % 128) c), secOf 0] : List Sec)) (pick2 true ([secOf 0, (rotB (packR 1 gen body) (i % 128) c), secOf 0] : List Sec) ([secOf 0, (packR 1 gen body), secOf 0] : List Sec)) 3 3)) rfl)).mono ?_
      rintro _ _ ⟨gq, hgq, rfl, rfl⟩
      refine ⟨_, rfl, ?_⟩
      refine L_y rfl (y_assign rfl) rfl ?_
      refine L_y rfl (y_assign rfl) rfl ?_
      refine L_nil ?_
      refine C_seq ?_
      refine C_region ?_
      refine L_y rfl (y_assign rfl) rfl ?_
      refine L_nil ?_
      refine C_seq ?_
      refine C_seq ?_
      refine C_region ?_
      refine L_y rfl (y_move rfl) rfl ?_
      refine L_y rfl (y_nei rfl rfl) rfl ?_
      refine L_nil ?_
      refine C_cond rfl (fun hc6 => ?_) (fun hc6 => ?_)
      · have hc0 : ¬ c = 0 := fun h => by subst h; exact absurd hc6 (by decide)
        refine C_region ?_
        refine L_y rfl (y_assign rfl) rfl ?_
        refine L_nil ?_
        refine C_seq ?_
        cases gp with
        | none => exact slOk_none hgp (by decide)
        | some gp => ?_
        cases gq with
        | none => exact slOk_none hgq (by decide)
        | some gq => ?_
        have okA : ∀ s ∈ ([secOf 0, (packR 1 gen body), secOf 0] : List Sec), s.length = 128 := (fun s hs => by simp only [List.mem_cons, List.not_mem_nil, or_false] at hs; rcases hs with rfl | rfl | rfl; exact secOf_len _; exact packR_len _ _ _; exact secOf_len _)
        have okX2 : ∀ s ∈ (pick2 true ([secOf 0, (packR 1 gen body), secOf 0] : List Sec) ([secOf 0, (rotB (packR 1 gen body) (i % 128) c), secOf 0] : List Sec)), s.length = 128 := by first | exact okA | exact okT
        have okY2 : ∀ s ∈ (pick2 true ([secOf 0, (rotB (packR 1 gen body) (i % 128) c), secOf 0] : List Sec) ([secOf 0, (packR 1 gen body), secOf 0] : List Sec)), s.length = 128 := by first | exact okA | exact okT
        have okP := XK_ok (p := sP) (K := 3) (k := 3) okX2 okY2 rfl rfl
        have okQ := YK_ok (p := sP) (K := 3) (k := 3) okX2 okY2 rfl rfl
        have hfP := flat_len okP
        have hfQ := flat_len okQ
        rw [show (XK sP (pick2 true ([secOf 0, (packR 1 gen body), secOf 0] : List Sec) ([secOf 0, (rotB (packR 1 gen body) (i % 128) c), secOf 0] : List Sec)) (pick2 true ([secOf 0, (rotB (packR 1 gen body) (i % 128) c), secOf 0] : List Sec) ([secOf 0, (packR 1 gen body), secOf 0] : List Sec)) 3 3).length = 3 from rfl] at hfP
        rw [show (YK sP (pick2 true ([secOf 0, (packR 1 gen body), secOf 0] : List Sec) ([secOf 0, (rotB (packR 1 gen body) (i % 128) c), secOf 0] : List Sec)) (pick2 true ([secOf 0, (rotB (packR 1 gen body) (i % 128) c), secOf 0] : List Sec) ([secOf 0, (packR 1 gen body), secOf 0] : List Sec)) 3 3).length = 3 from rfl] at hfQ
        refine C_regionH0 (by kernel_rfl) ?_
        refine H_y 0 rfl (by kernel_rfl) (by kernel_rfl) (by kernel_rfl) (HSub.refl _) rfl (y_move rfl) rfl ?_
        refine H_y 1 rfl (by kernel_rfl) (by kernel_rfl) (by kernel_rfl) (HSub.refl _) rfl (y_eqi rfl rfl) rfl ?_
        refine H_y 2 rfl (by kernel_rfl) (by kernel_rfl) (by kernel_rfl) (HSub.refl _) rfl (y_move rfl) rfl ?_
        refine H_case 99 rfl (fun hg26_3 => ?_) (fun hg26_3 => ?_)
        · skip
          refine H_y 3 rfl (by kernel_rfl) (by kernel_rfl) (by kernel_rfl) (HSub.refl _) rfl (y_loadA rfl ag_32 sz_32 (sees 5 0 rfl) (by rw [bs_length, packR_len _ _ _]; decide) (bs_whole0 _ (packR_len _ _ _))) rfl ?_
          refine H_y 4 rfl (by kernel_rfl) (by kernel_rfl) (by kernel_rfl) (HSub.refl _) rfl (y_loadA rfl ag_32 sz_32 (sees 7 0 rfl) (by rw [bs_length, packR_len _ _ _]; decide) (bs_whole0 _ (packR_len _ _ _))) rfl ?_
          refine H_y 5 rfl (by kernel_rfl) (by kernel_rfl) (by kernel_rfl) (HSub.refl _) rfl (y_eqa rfl rfl Try.underlying32 Try.underlying5 sz_5 eg_32 (packR_len _ _ _) (packR_len _ _ _)) rfl ?_
          refine H_y 6 rfl (by kernel_rfl) (by kernel_rfl) (by kernel_rfl) (HSub.refl _) rfl (y_pick_t rfl rfl) rfl ?_
          refine H_y 7 rfl (by kernel_rfl) (by kernel_rfl) (by kernel_rfl) (HSub.refl _) rfl (y_move rfl) rfl ?_
          refine H_case 104 rfl (fun hg26_8 => ?_) (fun hg26_8 => ?_)
          · skip
            refine H_y 8 rfl (by kernel_rfl) (by kernel_rfl) (by kernel_rfl) (HSub.refl _) rfl (y_fieldAddr rfl fl_90_1) rfl ?_
            refine H_y 9 rfl (by kernel_rfl) (by kernel_rfl) (by kernel_rfl) (HSub.refl _) rfl (y_load rfl ag_3 (sees 4 0 rfl) rfl) rfl ?_
            refine H_y 10 rfl (by kernel_rfl) (by kernel_rfl) (by kernel_rfl) (HSub.refl _) rfl (y_move rfl) rfl ?_
            refine H_y 11 rfl (by kernel_rfl) (by kernel_rfl) (by kernel_rfl) (HSub.refl _) rfl (y_eqi rfl rfl) rfl ?_
            refine H_y 12 rfl (by kernel_rfl) (by kernel_rfl) (by kernel_rfl) (HSub.refl _) rfl (y_pick_t rfl rfl) rfl ?_
            refine H_y 13 rfl (by kernel_rfl) (by kernel_rfl) (by kernel_rfl) (HSub.refl _) rfl (y_move rfl) rfl ?_
            refine H_case 110 rfl (fun hg26_14 => ?_) (fun hg26_14 => ?_)
            · skip
              refine H_y 14 rfl (by kernel_rfl) (by kernel_rfl) (by kernel_rfl) (HSub.refl _) rfl (y_move rfl) rfl ?_
              refine H_y 15 rfl (by kernel_rfl) (by kernel_rfl) (by kernel_rfl) (HSub.refl _) rfl (y_indexS rfl rfl Try.underlying40 sz_32 (by omega) (by omega) (show _ = 0 + 1 * 128 from by simp)) rfl ?_
              refine H_y 16 rfl (by kernel_rfl) (by kernel_rfl) (by kernel_rfl) (HSub.refl _) rfl (y_loadA rfl ag_32 sz_32 (sees 2 0 rfl) (by rw [List.length_append, bs_length, hfP]; omega) (sec_at (n := 0) okP (by simp) (sm_xk hp hq true false))) rfl ?_
              refine H_y 17 rfl (by kernel_rfl) (by kernel_rfl) (by kernel_rfl) (HSub.refl _) rfl (y_loadA rfl ag_32 sz_32 (sees 7 0 rfl) (by rw [bs_length, packR_len _ _ _]; decide) (bs_whole0 _ (packR_len _ _ _))) rfl ?_
              refine H_y 18 rfl (by kernel_rfl) (by kernel_rfl) (by kernel_rfl) (HSub.refl _) rfl (y_eqa rfl rfl Try.underlying32 Try.underlying5 sz_5 eg_32 (packR_len _ _ _) (packR_len _ _ _)) rfl ?_
              refine H_y 19 rfl (by kernel_rfl) (by kernel_rfl) (by kernel_rfl) (HSub.refl _) rfl (y_pick_t rfl rfl) rfl ?_
              refine H_y 20 rfl (by kernel_rfl) (by kernel_rfl) (by kernel_rfl) (HSub.refl _) rfl (y_move rfl) rfl ?_
              refine H_case 117 rfl (fun hg26_21 => ?_) (fun hg26_21 => ?_)
              · skip
                refine H_y 21 rfl (by kernel_rfl) (by kernel_rfl) (by kernel_rfl) (HSub.refl _) rfl (y_move rfl) rfl ?_
                refine H_y 22 rfl (by kernel_rfl) (by kernel_rfl) (by kernel_rfl) (HSub.refl _) rfl (y_indexS rfl rfl Try.underlying40 sz_32 (by omega) (by omega) (show _ = 0 + 1 * 128 from by simp)) rfl ?_
                refine H_y 23 rfl (by kernel_rfl) (by kernel_rfl) (by kernel_rfl) (HSub.refl _) rfl (y_loadA rfl ag_32 sz_32 (sees 0 0 rfl) (by rw [List.length_append, bs_length, hfQ]; omega) (sec_at (n := 0) okQ (by simp) (sm_xk hp hq true true))) rfl ?_
                refine H_y 24 rfl (by kernel_rfl) (by kernel_rfl) (by kernel_rfl) (HSub.refl _) rfl (y_loadA rfl ag_32 sz_32 (sees 7 0 rfl) (by rw [bs_length, packR_len _ _ _]; decide) (bs_whole0 _ (packR_len _ _ _))) rfl ?_
                refine H_y 25 rfl (by kernel_rfl) (by kernel_rfl) (by kernel_rfl) (HSub.refl _) rfl (y_eqa rfl rfl Try.underlying32 Try.underlying5 sz_5 eg_32 (packR_len _ _ _) (packR_len _ _ _)) rfl ?_
                refine H_y 26 rfl (by kernel_rfl) (by kernel_rfl) (by kernel_rfl) (HSub.refl _) rfl (y_pick_t rfl rfl) rfl ?_
                refine H_y 27 rfl (by kernel_rfl) (by kernel_rfl) (by kernel_rfl) (HSub.refl _) rfl (y_assign rfl) rfl ?_
                refine H_done (by kernel_rfl) ?_
                refine C_ret ?_
                refine B_ret (rv_tmp rfl rv_nil) (HSub.refl _) ?_
                first | rfl | exact ret_bool (by simp)
              · exact absurd hg26_21 (by simp)
            · exact absurd hg26_14 (by simp [rotB_same (packR_len _ _ _) (show i % 128 < 128 by omega), hc0])
          · exact absurd hg26_8 (by simp)
        · exact absurd hg26_3 (by simp)
      · have hc0 : c = 0 := UInt8.toNat_inj.1 (Int.ofNat_inj.1 (by simpa using hc6))
        refine C_skip ?_
        refine C_seq ?_
        cases gp with
        | none => exact slOk_none hgp (by decide)
        | some gp => ?_
        cases gq with
        | none => exact slOk_none hgq (by decide)
        | some gq => ?_
        have okA : ∀ s ∈ ([secOf 0, (packR 1 gen body), secOf 0] : List Sec), s.length = 128 := (fun s hs => by simp only [List.mem_cons, List.not_mem_nil, or_false] at hs; rcases hs with rfl | rfl | rfl; exact secOf_len _; exact packR_len _ _ _; exact secOf_len _)
        have okX2 : ∀ s ∈ (pick2 true ([secOf 0, (packR 1 gen body), secOf 0] : List Sec) ([secOf 0, (rotB (packR 1 gen body) (i % 128) c), secOf 0] : List Sec)), s.length = 128 := by first | exact okA | exact okT
        have okY2 : ∀ s ∈ (pick2 true ([secOf 0, (rotB (packR 1 gen body) (i % 128) c), secOf 0] : List Sec) ([secOf 0, (packR 1 gen body), secOf 0] : List Sec)), s.length = 128 := by first | exact okA | exact okT
        have okP := XK_ok (p := sP) (K := 3) (k := 3) okX2 okY2 rfl rfl
        have okQ := YK_ok (p := sP) (K := 3) (k := 3) okX2 okY2 rfl rfl
        have hfP := flat_len okP
        have hfQ := flat_len okQ
        rw [show (XK sP (pick2 true ([secOf 0, (packR 1 gen body), secOf 0] : List Sec) ([secOf 0, (rotB (packR 1 gen body) (i % 128) c), secOf 0] : List Sec)) (pick2 true ([secOf 0, (rotB (packR 1 gen body) (i % 128) c), secOf 0] : List Sec) ([secOf 0, (packR 1 gen body), secOf 0] : List Sec)) 3 3).length = 3 from rfl] at hfP
        rw [show (YK sP (pick2 true ([secOf 0, (packR 1 gen body), secOf 0] : List Sec) ([secOf 0, (rotB (packR 1 gen body) (i % 128) c), secOf 0] : List Sec)) (pick2 true ([secOf 0, (rotB (packR 1 gen body) (i % 128) c), secOf 0] : List Sec) ([secOf 0, (packR 1 gen body), secOf 0] : List Sec)) 3 3).length = 3 from rfl] at hfQ
        refine C_regionH0 (by kernel_rfl) ?_
        refine H_y 0 rfl (by kernel_rfl) (by kernel_rfl) (by kernel_rfl) (HSub.refl _) rfl (y_move rfl) rfl ?_
        refine H_y 1 rfl (by kernel_rfl) (by kernel_rfl) (by kernel_rfl) (HSub.refl _) rfl (y_eqi rfl rfl) rfl ?_
        refine H_y 2 rfl (by kernel_rfl) (by kernel_rfl) (by kernel_rfl) (HSub.refl _) rfl (y_move rfl) rfl ?_
        refine H_case 99 rfl (fun hg26_3 => ?_) (fun hg26_3 => ?_)
        · skip
          refine H_y 3 rfl (by kernel_rfl) (by kernel_rfl) (by kernel_rfl) (HSub.refl _) rfl (y_loadA rfl ag_32 sz_32 (sees 5 0 rfl) (by rw [bs_length, packR_len _ _ _]; decide) (bs_whole0 _ (packR_len _ _ _))) rfl ?_
          refine H_y 4 rfl (by kernel_rfl) (by kernel_rfl) (by kernel_rfl) (HSub.refl _) rfl (y_loadA rfl ag_32 sz_32 (sees 7 0 rfl) (by rw [bs_length, packR_len _ _ _]; decide) (bs_whole0 _ (packR_len _ _ _))) rfl ?_
          refine H_y 5 rfl (by kernel_rfl) (by kernel_rfl) (by kernel_rfl) (HSub.refl _) rfl (y_eqa rfl rfl Try.underlying32 Try.underlying5 sz_5 eg_32 (packR_len _ _ _) (packR_len _ _ _)) rfl ?_
          refine H_y 6 rfl (by kernel_rfl) (by kernel_rfl) (by kernel_rfl) (HSub.refl _) rfl (y_pick_t rfl rfl) rfl ?_
          refine H_y 7 rfl (by kernel_rfl) (by kernel_rfl) (by kernel_rfl) (HSub.refl _) rfl (y_move rfl) rfl ?_
          refine H_case 104 rfl (fun hg26_8 => ?_) (fun hg26_8 => ?_)
          · skip
            refine H_y 8 rfl (by kernel_rfl) (by kernel_rfl) (by kernel_rfl) (HSub.refl _) rfl (y_fieldAddr rfl fl_90_1) rfl ?_
            refine H_y 9 rfl (by kernel_rfl) (by kernel_rfl) (by kernel_rfl) (HSub.refl _) rfl (y_load rfl ag_3 (sees 4 0 rfl) rfl) rfl ?_
            refine H_y 10 rfl (by kernel_rfl) (by kernel_rfl) (by kernel_rfl) (HSub.refl _) rfl (y_move rfl) rfl ?_
            refine H_y 11 rfl (by kernel_rfl) (by kernel_rfl) (by kernel_rfl) (HSub.refl _) rfl (y_eqi rfl rfl) rfl ?_
            refine H_y 12 rfl (by kernel_rfl) (by kernel_rfl) (by kernel_rfl) (HSub.refl _) rfl (y_pick_t rfl rfl) rfl ?_
            refine H_y 13 rfl (by kernel_rfl) (by kernel_rfl) (by kernel_rfl) (HSub.refl _) rfl (y_move rfl) rfl ?_
            refine H_case 110 rfl (fun hg26_14 => ?_) (fun hg26_14 => ?_)
            · skip
              refine H_y 14 rfl (by kernel_rfl) (by kernel_rfl) (by kernel_rfl) (HSub.refl _) rfl (y_move rfl) rfl ?_
              refine H_y 15 rfl (by kernel_rfl) (by kernel_rfl) (by kernel_rfl) (HSub.refl _) rfl (y_indexS rfl rfl Try.underlying40 sz_32 (by omega) (by omega) (show _ = 0 + 1 * 128 from by simp)) rfl ?_
              refine H_y 16 rfl (by kernel_rfl) (by kernel_rfl) (by kernel_rfl) (HSub.refl _) rfl (y_loadA rfl ag_32 sz_32 (sees 2 0 rfl) (by rw [List.length_append, bs_length, hfP]; omega) (sec_at (n := 0) okP (by simp) (sm_xk hp hq true false))) rfl ?_
              refine H_y 17 rfl (by kernel_rfl) (by kernel_rfl) (by kernel_rfl) (HSub.refl _) rfl (y_loadA rfl ag_32 sz_32 (sees 7 0 rfl) (by rw [bs_length, packR_len _ _ _]; decide) (bs_whole0 _ (packR_len _ _ _))) rfl ?_
              refine H_y 18 rfl (by kernel_rfl) (by kernel_rfl) (by kernel_rfl) (HSub.refl _) rfl (y_eqa rfl rfl Try.underlying32 Try.underlying5 sz_5 eg_32 (packR_len _ _ _) (packR_len _ _ _)) rfl ?_
              refine H_y 19 rfl (by kernel_rfl) (by kernel_rfl) (by kernel_rfl) (HSub.refl _) rfl (y_pick_t rfl rfl) rfl ?_
              refine H_y 20 rfl (by kernel_rfl) (by kernel_rfl) (by kernel_rfl) (HSub.refl _) rfl (y_move rfl) rfl ?_
              refine H_case 117 rfl (fun hg26_21 => ?_) (fun hg26_21 => ?_)
              · skip
                refine H_y 21 rfl (by kernel_rfl) (by kernel_rfl) (by kernel_rfl) (HSub.refl _) rfl (y_move rfl) rfl ?_
                refine H_y 22 rfl (by kernel_rfl) (by kernel_rfl) (by kernel_rfl) (HSub.refl _) rfl (y_indexS rfl rfl Try.underlying40 sz_32 (by omega) (by omega) (show _ = 0 + 1 * 128 from by simp)) rfl ?_
                refine H_y 23 rfl (by kernel_rfl) (by kernel_rfl) (by kernel_rfl) (HSub.refl _) rfl (y_loadA rfl ag_32 sz_32 (sees 0 0 rfl) (by rw [List.length_append, bs_length, hfQ]; omega) (sec_at (n := 0) okQ (by simp) (sm_xk hp hq true true))) rfl ?_
                refine H_y 24 rfl (by kernel_rfl) (by kernel_rfl) (by kernel_rfl) (HSub.refl _) rfl (y_loadA rfl ag_32 sz_32 (sees 7 0 rfl) (by rw [bs_length, packR_len _ _ _]; decide) (bs_whole0 _ (packR_len _ _ _))) rfl ?_
                refine H_y 25 rfl (by kernel_rfl) (by kernel_rfl) (by kernel_rfl) (HSub.refl _) rfl (y_eqa rfl rfl Try.underlying32 Try.underlying5 sz_5 eg_32 (packR_len _ _ _) (packR_len _ _ _)) rfl ?_
                refine H_y 26 rfl (by kernel_rfl) (by kernel_rfl) (by kernel_rfl) (HSub.refl _) rfl (y_pick_t rfl rfl) rfl ?_
                refine H_y 27 rfl (by kernel_rfl) (by kernel_rfl) (by kernel_rfl) (HSub.refl _) rfl (y_assign rfl) rfl ?_
                refine H_done (by kernel_rfl) ?_
                refine C_ret ?_
                refine B_ret (rv_tmp rfl rv_nil) (HSub.refl _) ?_
                first | rfl | exact ret_bool (by simp)
              · exact absurd hg26_21 (by simp)
            · exact absurd hg26_14 (by simp [rotB_same (packR_len _ _ _) (show i % 128 < 128 by omega), hc0])
          · exact absurd hg26_8 (by simp)
        · exact absurd hg26_3 (by simp)

theorem smirror_over {w0 : World} {H : Hp} {pa : Option Addr} {cap : Nat} {fv : Value} (gen : Nat) (body : List UInt8) (hl : 103 < body.length) (i : Nat) (c : UInt8) : FnS Try.prog w0 14 #[.int .u64 (gen : Int), .slice pa body.length cap, fv, .int .u8 (i : Int), .int .u8 (c.toNat : Int)] H (fun e H' => e = .returned (.bool true)) := by
  refine FnS_intro (n := 124) (rs := [.tmp 10]) (vs := [.int .u64 (gen : Int), .slice pa body.length cap, fv, .int .u8 (i : Int), .int .u8 (c.toNat : Int)]) Try.func14 rfl Try.ntmps14 rfl rfl ?_
  refine C_seq ?_
  refine C_region ?_
  refine L_y rfl (y_assign rfl) rfl ?_
  refine L_nil ?_
  refine C_seq ?_
  refine C_seq ?_
  refine C_region ?_
  refine L_op rfl (op_call rfl rfl (fun a w => Try.call47 a w) rfl ?_)
  refine awake11_s.mono ?_
  rintro _ _ ⟨rfl, e⟩
  obtain rfl := e.symm
  refine ⟨_, rfl, ?_⟩
  refine L_y rfl (y_not rfl) rfl ?_
  refine L_nil ?_
  refine C_cond_f rfl ?_
  refine C_skip ?_
  refine C_seq ?_
  refine C_seq ?_
  refine C_region ?_
  refine L_y rfl (y_move rfl) rfl ?_
  refine L_y rfl (y_lenS rfl rfl Try.underlying22) rfl ?_
  refine L_y rfl (y_gtr rfl rfl) rfl ?_
  refine L_nil ?_
  refine C_cond rfl (fun hc1 => ?_) (fun hc1 => absurd hc1 (by simp <;> omega))
  refine C_seq ?_
  refine C_region ?_
  refine L_y rfl (y_assign rfl) rfl ?_
  refine L_nil ?_
  refine C_ret ?_
  refine B_ret (rv_tmp rfl rv_nil) (HSub.refl _) ?_
  rfl

set_option maxHeartbeats 4000000 in

theorem smirror_f {w0 : World} {H : Hp} {pa : Option Addr} {cap : Nat} (gen : Nat) (hg : gen < M64) (body : List UInt8) (hB : Holds w0 H pa (bs body)) (hl : ¬ 103 < body.length) (i : Nat) (hi : i < 256) (c : UInt8) : FnS Try.prog w0 14 #[.int .u64 (gen : Int), .slice pa body.length cap, .bool false, .int .u8 (i : Int), .int .u8 (c.toNat : Int)] H (fun e H' => e = .returned (.bool true)) := by
  refine FnS_intro (n := 124) (rs := [.tmp 10]) (vs := [.int .u64 (gen : Int), .slice pa body.length cap, .bool false, .int .u8 (i : Int), .int .u8 (c.toNat : Int)]) Try.func14 rfl Try.ntmps14 rfl rfl ?_
  refine C_seq ?_
  refine C_region ?_
  refine L_y rfl (y_assign rfl) rfl ?_
  refine L_nil ?_
  refine C_seq ?_
  refine C_seq ?_
  refine C_region ?_
  refine L_op rfl (op_call rfl rfl (fun a w => Try.call47 a w) rfl ?_)
  refine awake11_s.mono ?_
  rintro _ _ ⟨rfl, e⟩
  obtain rfl := e.symm
  refine ⟨_, rfl, ?_⟩
  refine L_y rfl (y_not rfl) rfl ?_
  refine L_nil ?_
  refine C_cond_f rfl ?_
  refine C_skip ?_
  refine C_seq ?_
  refine C_seq ?_
  refine C_region ?_
  refine L_y rfl (y_move rfl) rfl ?_
  refine L_y rfl (y_lenS rfl rfl Try.underlying22) rfl ?_
  refine L_y rfl (y_gtr rfl rfl) rfl ?_
  refine L_nil ?_
  refine C_cond rfl (fun hc1 => absurd hc1 (by simp <;> omega)) (fun hc1 => ?_)
  refine C_skip ?_
  refine C_seq ?_
  refine C_region ?_
  refine L_op rfl (op_call rfl rfl (fun a w => Try.call16 a w) rfl ?_)
  refine (new_ln 3).mono ?_
  rintro _ _ ⟨d91, p91, hG91, ha91, hP91, rfl, rfl⟩
  have hA91 : d91.a = Ab.new 3 := by rw [ha91] <;> (rfl)
  have hb91 : d91.b = d91.b := rfl
  refine ⟨_, rfl, ?_⟩
  refine L_op rfl (op_call rfl rfl (fun a w => Try.call16 a w) rfl ?_)
  refine ((newnil_d hG91 rfl 3).sub (hsub_pick [0, 0, 0, 0, 0] rfl)).mono ?_
  rintro _ _ ⟨by81, D81, h81, rfl, rfl⟩
  replace h81 := h81.to (B := ⟨Ab.new 3, Ab.new 3, q0, some q0⟩) (by rw [hA91, hP91] <;> (rfl))
  have hv1 : Vw ⟨Ab.new 3, Ab.new 3, q0, some q0⟩ 3 (List.replicate 3 (secOf 0)) (List.replicate 3 (secOf 0)) 0 0 := Vw.new (by omega) (some q0) (.inr rfl)
  refine ⟨_, rfl, ?_⟩
  refine L_y rfl (y_assign rfl) rfl ?_
  refine L_y rfl (y_assign rfl) rfl ?_
  refine L_nil ?_
  refine C_seq ?_
  refine C_region ?_
  refine L_y rfl (y_move rfl) rfl ?_
  refine L_y rfl (y_move rfl) rfl ?_
  refine L_y rfl (y_build0 pl_78 zl_78) rfl ?_
  refine L_y rfl (y_makeIface rfl Try.underlying78 rfl) rfl ?_
  refine L_op rfl (op_call rfl rfl (fun a w => Try.call48 a w) rfl ?_)
  refine FnS.mono (sgood_s _ rfl) ?_
  rintro _ _ ⟨c1, rfl, rfl⟩
  refine ⟨_, rfl, ?_⟩
  refine L_op rfl (op_call rfl rfl (fun a w => Try.call17 a w) rfl ?_)
  refine (FnS.sub (hsub_pick [1] rfl) (new_v (f := 82) (cap := [ptr c1]) h81 hv1 (show ∀ s ∈ (List.replicate 3 (secOf 0)), s.length = 128 from fun s hs => by rw [List.eq_of_mem_replicate hs]; exact secOf_len _) (show ∀ s ∈ (List.replicate 3 (secOf 0)), s.length = 128 from fun s hs => by rw [List.eq_of_mem_replicate hs]; exact secOf_len _))).mono ?_
  rintro _ _ ⟨mb2, m2, hS2, rfl, rfl⟩
  refine ⟨_, rfl, ?_⟩
  refine L_y rfl (y_assign rfl) rfl ?_
  refine L_nil ?_
  refine C_seq ?_
  refine C_region ?_
  refine L_y rfl (y_build0 pl_78 zl_78) rfl ?_
  refine L_y rfl (y_makeIface rfl Try.underlying78 rfl) rfl ?_
  refine L_y rfl (y_move rfl) rfl ?_
  refine L_y rfl (y_move rfl) rfl ?_
  refine L_op rfl (op_call rfl rfl (fun a w => Try.call49 a w) rfl ?_)
  refine FnS.mono (pack_v gen hg body (slh_raw (hB.up.up.up) rfl) 1) ?_
  rintro _ _ ⟨rfl, e⟩
  obtain rfl := e.symm
  rw [show decide (packOk 1 body) = true from decide_eq_true ⟨by decide, by decide, by omega⟩]
  refine ⟨_, rfl, ?_⟩
  refine L_y rfl (y_move rfl) rfl ?_
  refine L_y rfl (y_extract rfl rfl) rfl ?_
  refine L_y rfl (y_extract rfl rfl) rfl ?_
  refine L_op rfl (op_alloc zl_32 rfl (fun B1 => ?_))
  refine L_op rfl (op_storeA 0 0 rfl rfl rfl sz_32 (by rw [bs_length, packR_len _ _ _]) rfl (bs_one _) (by simp) ?_)
  refine L_y rfl (y_assign rfl) rfl ?_
  refine L_nil ?_
  refine C_seq ?_
  refine C_seq ?_
  refine C_region ?_
  refine L_y rfl (y_move rfl) rfl ?_
  refine L_y rfl (y_loadA rfl ag_32 sz_32 (sees 0 0 rfl) (by rw [bs_length, packR_len _ _ _]; decide) (bs_whole0 _ (packR_len _ _ _))) rfl ?_
  refine L_op rfl (op_call rfl rfl (fun a w => Try.call19 a w) rfl ?_)
  refine (FnS.sub (hsub_pick [1, 1] rfl) (write_v hS2 (n := 1) (s := (packR 1 gen body)) (by decide) (packR_len _ _ _) (by omega) (by omega))).mono ?_
  rintro _ _ ⟨rfl, D3, A3, hS3, rfl⟩
  refine ⟨_, rfl, ?_⟩
  refine L_y rfl (y_nei rfl rfl) rfl ?_
  refine L_y rfl (y_move rfl) rfl ?_
  refine L_case 52 rfl (fun hg8_5 => ?_) (fun hg8_5 => ?_)
  · exact absurd hg8_5 (by simp)
  · skip
    refine L_y rfl (y_move rfl) rfl ?_
    refine L_op rfl (op_call rfl rfl (fun a w => Try.call21 a w) rfl ?_)
    refine (FnS.sub (hsub_pick [0, 0] rfl) (flush_v hS3)).mono ?_
    rintro _ _ ⟨rfl, D4, A4, hS4, rfl⟩
    refine ⟨_, rfl, ?_⟩
    refine L_y rfl (y_nei rfl rfl) rfl ?_
    refine L_y rfl (y_pick_f rfl rfl) rfl ?_
    refine L_nil ?_
    refine C_cond rfl (fun hc2 => absurd hc2 (by simp)) (fun hc2 => ?_)
    refine C_skip ?_
    refine C_seq ?_
    refine C_region ?_
    refine L_y rfl (y_move rfl) rfl ?_
    refine L_y rfl (y_assign rfl) rfl ?_
    refine L_nil ?_
    refine C_seq ?_
    refine C_seq ?_
    refine C_region ?_
    refine L_y rfl (y_move rfl) rfl ?_
    refine L_nil ?_
    refine C_cond_f rfl ?_
    refine C_skip ?_
    refine C_seq ?_
    refine C_region ?_
    refine L_y rfl (y_move rfl) rfl ?_
    refine L_y rfl (y_move rfl) rfl ?_
    refine L_y rfl (y_conv rfl us_5 Try.underlying3 (wi64 (by omega) (by omega))) rfl ?_
    refine L_y rfl (y_rem rfl rfl (by decide) (show _ = ((i % 128 : Nat) : Int) from rfl)) rfl ?_
    refine L_y rfl (y_move rfl) rfl ?_
    refine L_op rfl (op_call rfl rfl (fun a w => Try.call34 a w) rfl ?_)
    refine (FnS.sub (hsub_pick [1] rfl) (rotg_v hS4 true (n := 1) (j := (i % 128)) (c := c) (s := (packR 1 gen body)) rfl (by omega))).mono ?_
    rintro _ _ ⟨rfl, D5, A5, hS5, rfl⟩
    simp only [Bool.false_eq_true, if_false, if_true] at hS5
    replace hS5 : Ms dt _ D5 A5 m2 3 ([secOf 0, (packR 1 gen body), secOf 0] : List Sec) ([secOf 0, (rotB (packR 1 gen body) (i % 128) c), secOf 0] : List Sec) 0 0 _ _ _ _ := hS5
    refine ⟨_, rfl, ?_⟩
    refine L_nil ?_
    refine C_seq ?_
    refine C_seq ?_
    refine C_region ?_
    refine L_y rfl (y_move rfl) rfl ?_
    refine L_op rfl (op_call rfl rfl (fun a w => Try.call30 a w) rfl ?_)
    refine (FnS.sub (hsub_pick [0] rfl) (dumpg_v hS5 true (Z := ([secOf 0, (rotB (packR 1 gen body) (i % 128) c), secOf 0] : List Sec)) rfl)).mono ?_
    rintro _ _ ⟨gz, hgz, rfl, rfl⟩
    refine ⟨_, rfl, ?_⟩
    refine L_y rfl (y_assign rfl) rfl ?_
    refine L_nil ?_
    refine C_seq ?_
    have okT : ∀ s ∈ ([secOf 0, (rotB (packR 1 gen body) (i % 128) c), secOf 0] : List Sec), s.length = 128 := (fun s hs => by simp only [List.mem_cons, List.not_mem_nil, or_false] at hs; rcases hs with rfl | rfl | rfl; exact secOf_len _; exact rotB_len.trans (packR_len _ _ _); exact secOf_len _)
    have hfT := flat_len okT
    have hp : sP 1 (packR 1 gen body) = true := sP_pack (n := 1) (by decide) hg (by omega)
    cases gz with
    | none => exact slOk_none hgz (by decide)
    | some gz => ?_
    refine C_regionH0 (by kernel_rfl) ?_
    refine H_y 0 rfl (by kernel_rfl) (by kernel_rfl) (by kernel_rfl) (HSub.refl _) rfl (y_move rfl) rfl ?_
    refine H_y 1 rfl (by kernel_rfl) (by kernel_rfl) (by kernel_rfl) (HSub.refl _) rfl (y_indexS rfl rfl Try.underlying40 sz_32 (by omega) (by omega) (show _ = 0 + 1 * 128 from by simp)) rfl ?_
    refine H_y 2 rfl (by kernel_rfl) (by kernel_rfl) (by kernel_rfl) (HSub.refl _) rfl (y_loadA rfl ag_32 sz_32 (sees 0 0 rfl) (by rw [List.length_append, bs_length, hfT]; simp <;> omega) (sec_at (n := 0) okT (by simp) (show (([secOf 0, (rotB (packR 1 gen body) (i % 128) c), secOf 0] : List Sec))[1]? = some (rotB (packR 1 gen body) (i % 128) c) from rfl))) rfl ?_
    refine H_y 3 rfl (by kernel_rfl) (by kernel_rfl) (by kernel_rfl) (HSub.refl _) rfl (y_loadA rfl ag_32 sz_32 (sees 3 0 rfl) (by rw [bs_length, packR_len _ _ _]; decide) (bs_whole0 _ (packR_len _ _ _))) rfl ?_
    refine H_y 4 rfl (by kernel_rfl) (by kernel_rfl) (by kernel_rfl) (HSub.refl _) rfl (y_nea rfl rfl Try.underlying32 Try.underlying5 sz_5 eg_32 (rotB_len.trans (packR_len _ _ _)) (packR_len _ _ _)) rfl ?_
    refine H_done (by kernel_rfl) ?_
    refine C_cond rfl (fun hc4 => ?_) (fun hc4 => ?_)
    · skip
      refine C_seq ?_
      refine C_region ?_
      refine L_y rfl (y_move rfl) rfl ?_
      refine L_y rfl (y_indexS rfl rfl Try.underlying40 sz_32 (by omega) (by omega) (show _ = 0 + 1 * 128 from by simp)) rfl ?_
      refine L_y rfl (y_loadA rfl ag_32 sz_32 (sees 0 0 rfl) (by rw [List.length_append, bs_length, hfT]; simp <;> omega) (sec_at (n := 0) okT (by simp) (show (([secOf 0, (rotB (packR 1 gen body) (i % 128) c), secOf 0] : List Sec))[1]? = some (rotB (packR 1 gen body) (i % 128) c) from rfl))) rfl ?_
      refine L_op rfl (op_call rfl rfl (fun a w => Try.call50 a w) rfl ?_)
      refine FnS.mono (runpack_u 1 (rotB (packR 1 gen body) (i % 128) c) (rotB_len.trans (packR_len _ _ _))) ?_
      rintro _ _ ⟨g1, hg1, rfl, rfl⟩
      refine ⟨_, rfl, ?_⟩
      refine L_y rfl (y_move rfl) rfl ?_
      refine L_y rfl (y_extract rfl rfl) rfl ?_
      refine L_y rfl (y_extract rfl rfl) rfl ?_
      refine L_y rfl (y_extract rfl rfl) rfl ?_
      refine L_y rfl (y_assign rfl) rfl ?_
      refine L_y rfl (y_assign rfl) rfl ?_
      refine L_y rfl (y_assign rfl) rfl ?_
      refine L_nil ?_
      refine C_seq ?_
      refine C_region ?_
      refine L_y rfl (y_move rfl) rfl ?_
      refine L_nil ?_
      refine C_cond rfl (fun hc5 => ?_) (fun hc5 => ?_)
      · skip
        refine C_seq ?_
        refine C_region ?_
        refine L_y rfl (y_assign rfl) rfl ?_
        refine L_nil ?_
        refine C_ret ?_
        refine B_ret (rv_tmp rfl rv_nil) (HSub.refl _) ?_
        first | rfl | exact ret_bool (by simp)
      · have hq : sP 1 (rotB (packR 1 gen body) (i % 128) c) = false ∨ (rotB (packR 1 gen body) (i % 128) c) = (packR 1 gen body) := .inl hc5
        refine C_skip ?_
        refine C_seq ?_
        refine C_region ?_
        refine L_y rfl (y_move rfl) rfl ?_
        refine L_op rfl (op_call rfl rfl (fun a w => Try.call22 a w) rfl ?_)
        refine (FnS.sub (hsub_pick [3, 2] rfl) (readg_v hS5 (sgood_at (sees 3 0 rfl)) (n := 1) (s := (packR 1 gen body)) (show (([secOf 0, (packR 1 gen body), secOf 0] : List Sec))[1]? = some (packR 1 gen body) from rfl) (t := (rotB (packR 1 gen body) (i % 128) c)) (show (([secOf 0, (rotB (packR 1 gen body) (i % 128) c), secOf 0] : List Sec))[1]? = some (rotB (packR 1 gen body) (i % 128) c) from rfl))).mono ?_
        rintro _ _ ⟨e4, rfl⟩
        rw [show rdv sP ((1 : Nat) : Int) (packR 1 gen body) (rotB (packR 1 gen body) (i % 128) c) = (packR 1 gen body) from (sm_read (n := 1) hp hq).1.1, show rde sP ((1 : Nat) : Int) (packR 1 gen body) (rotB (packR 1 gen body) (i % 128) c) = 0 from (sm_read (n := 1) hp hq).1.2] at e4
        obtain rfl := e4
        refine ⟨_, rfl, ?_⟩
        refine L_y rfl (y_move rfl) rfl ?_
        refine L_y rfl (y_extract rfl rfl) rfl ?_
        refine L_y rfl (y_extract rfl rfl) rfl ?_
        refine L_op rfl (op_alloc zl_32 rfl (fun B2 => ?_))
        refine L_op rfl (op_storeA 0 0 rfl rfl rfl sz_32 (by rw [bs_length, packR_len _ _ _]) rfl (bs_one _) (by simp) ?_)
        refine L_y rfl (y_assign rfl) rfl ?_
        refine L_nil ?_
        refine C_seq ?_
        refine C_region ?_
        refine L_y rfl (y_move rfl) rfl ?_
        refine L_op rfl (op_call rfl rfl (fun a w => Try.call46 a w) rfl ?_)
        obtain ⟨ra, rb, hrk⟩ := sm_rk hp hq false
        replace hS5 : Ms dt _ _ _ _ 3 (pick2 false ([secOf 0, (packR 1 gen body), secOf 0] : List Sec) ([secOf 0, (rotB (packR 1 gen body) (i % 128) c), secOf 0] : List Sec)) (pick2 false ([secOf 0, (rotB (packR 1 gen body) (i % 128) c), secOf 0] : List Sec) ([secOf 0, (packR 1 gen body), secOf 0] : List Sec)) 0 0 _ _ _ _ := hS5
        refine (FnS.sub (hsub_pick [1, 1] rfl) (allg_v hS5 (sgood_at (sees 4 0 rfl)) (by decide) (by decide) (by decide) (r := (ra, (if (rotB (packR 1 gen body) (i % 128) c) = (packR 1 gen body) then 0 else 1), rb)) hrk)).mono ?_
        rintro _ _ ⟨rfl, D6, A6, m6, hS6, rfl⟩
        refine ⟨_, rfl, ?_⟩
        refine L_op rfl (op_alloc zl_90 rfl (fun B3 => ?_))
        refine L_op rfl (op_store 0 0 rfl rfl rfl sz_90 rfl rfl (ones rfl) (by decide) ?_)
        skip
        refine L_nil ?_
        refine C_seq ?_
        refine C_region ?_
        refine L_y rfl (y_move rfl) rfl ?_
        refine L_op rfl (op_call rfl rfl (fun a w => Try.call21 a w) rfl ?_)
        refine (FnS.sub (hsub_pick [1, 1] rfl) (flush_v hS6)).mono ?_
        rintro _ _ ⟨rfl, D7, A7, hS7, rfl⟩
        refine ⟨_, rfl, ?_⟩
        refine L_nil ?_
        refine C_seq ?_
        refine C_region ?_
        refine L_y rfl (y_move rfl) rfl ?_
        refine L_op rfl (op_call rfl rfl (fun a w => Try.call30 a w) rfl ?_)
        refine (FnS.sub (hsub_pick [1] rfl) (dumpg_v hS7 false (Z := (XK sP (pick2 false ([secOf 0, (packR 1 gen body), secOf 0] : List Sec) ([secOf 0, (rotB (packR 1 gen body) (i % 128) c), secOf 0] : List Sec)) (pick2 false ([secOf 0, (rotB (packR 1 gen body) (i % 128) c), secOf 0] : List Sec) ([secOf 0, (packR 1 gen body), secOf 0] : List Sec)) 3 3)) rfl)).mono ?_
        rintro _ _ ⟨gp, hgp, rfl, rfl⟩
        refine ⟨_, rfl, ?_⟩
        refine L_y rfl (y_move rfl) rfl ?_
        refine L_op rfl (op_call rfl rfl (fun a w => Try.call30 a w) rfl ?_)
        refine (FnS.sub (hsub_pick [1] rfl) (dumpg_v hS7 true (Z := (YK sP (pick2 false ([secOf 0, (packR 1 gen body), secOf 0] : List Sec) ([secOf 0, (rotB (packR 1 gen body) (i % 128) c), secOf 0] : List Sec)) (pick2 false ([secOf 0, (rotB (packR 1 gen body) (i % 128) c), secOf 0] : List Sec) ([secOf 0, (packR 1 gen body), secOf 0] : List Sec)) 3 3)) rfl)).mono ?_
        rintro _ _ ⟨gq, hgq, rfl, rfl⟩
        refine ⟨_, rfl, ?_⟩
        refine L_y rfl (y_assign rfl) rfl ?_
        refine L_y rfl (y_assign rfl) rfl ?_
        refine L_nil ?_
        refine C_seq ?_
        refine C_region ?_
        refine L_y rfl (y_assign rfl) rfl ?_
        refine L_nil ?_
        refine C_seq ?_
        refine C_seq ?_
        refine C_region ?_
        refine L_y rfl (y_move rfl) rfl ?_
        refine L_y rfl (y_nei rfl rfl) rfl ?_
        refine L_nil ?_
        refine C_cond rfl (fun hc6 => ?_) (fun hc6 => ?_)
        · have hc0 : ¬ c = 0 := fun h => by subst h; exact absurd hc6 (by decide)
          refine C_region ?_
          refine L_y rfl (y_assign rfl) rfl ?_
          refine L_nil ?_
          refine C_seq ?_
          cases gp with
          | none => exact slOk_none hgp (by decide)
          | some gp => ?_
          cases gq with
          | none => exact slOk_none hgq (by decide)
          | some gq => ?_
          have okA : ∀ s ∈ ([secOf 0, (packR 1 gen body), secOf 0] : List Sec), s.length = 128 := (fun s hs => by simp only [List.mem_cons, List.not_mem_nil, or_false] at hs; rcases hs with rfl | rfl | rfl; exact secOf_len _; exact packR_len _ _ _; exact secOf_len _)
          have okX2 : ∀ s ∈ (pick2 false ([secOf 0, (packR 1 gen body), secOf 0] : List Sec) ([secOf 0, (rotB (packR 1 gen body) (i % 128) c), secOf 0] : List Sec)), s.length = 128 := by first | exact okA | exact okT
          have okY2 : ∀ s ∈ (pick2 false ([secOf 0, (rotB (packR 1 gen body) (i % 128) c), secOf 0] : List Sec) ([secOf 0, (packR 1 gen body), secOf 0] : List Sec)), s.length = 128 := by first | exact okA | exact okT
          have okP := XK_ok (p := sP) (K := 3) (k := 3) okX2 okY2 rfl rfl
          have okQ := YK_ok (p := sP) (K := 3) (k := 3) okX2 okY2 rfl rfl
          have hfP := flat_len okP
          have hfQ := flat_len okQ
          rw [show (XK sP (pick2 false ([secOf 0, (packR 1 gen body), secOf 0] : List Sec) ([secOf 0, (rotB (packR 1 gen body) (i % 128) c), secOf 0] : List Sec)) (pick2 false ([secOf 0, (rotB (packR 1 gen body) (i % 128) c), secOf 0] : List Sec) ([secOf 0, (packR 1 gen body), secOf 0] : List Sec)) 3 3).length = 3 from rfl] at hfP
          rw [show (YK sP (pick2 false ([secOf 0, (packR 1 gen body), secOf 0] : List Sec) ([secOf 0, (rotB (packR 1 gen body) (i % 128) c), secOf 0] : List Sec)) (pick2 false ([secOf 0, (rotB (packR 1 gen body) (i % 128) c), secOf 0] : List Sec) ([secOf 0, (packR 1 gen body), secOf 0] : List Sec)) 3 3).length = 3 from rfl] at hfQ
          refine C_regionH0 (by kernel_rfl) ?_
          refine H_y 0 rfl (by kernel_rfl) (by kernel_rfl) (by kernel_rfl) (HSub.refl _) rfl (y_move rfl) rfl ?_
          refine H_y 1 rfl (by kernel_rfl) (by kernel_rfl) (by kernel_rfl) (HSub.refl _) rfl (y_eqi rfl rfl) rfl ?_
          refine H_y 2 rfl (by kernel_rfl) (by kernel_rfl) (by kernel_rfl) (HSub.refl _) rfl (y_move rfl) rfl ?_
          refine H_case 99 rfl (fun hg26_3 => ?_) (fun hg26_3 => ?_)
          · skip
            refine H_y 3 rfl (by kernel_rfl) (by kernel_rfl) (by kernel_rfl) (HSub.refl _) rfl (y_loadA rfl ag_32 sz_32 (sees 5 0 rfl) (by rw [bs_length, packR_len _ _ _]; decide) (bs_whole0 _ (packR_len _ _ _))) rfl ?_
            refine H_y 4 rfl (by kernel_rfl) (by kernel_rfl) (by kernel_rfl) (HSub.refl _) rfl (y_loadA rfl ag_32 sz_32 (sees 8 0 rfl) (by rw [bs_length, packR_len _ _ _]; decide) (bs_whole0 _ (packR_len _ _ _))) rfl ?_
            refine H_y 5 rfl (by kernel_rfl) (by kernel_rfl) (by kernel_rfl) (HSub.refl _) rfl (y_eqa rfl rfl Try.underlying32 Try.underlying5 sz_5 eg_32 (packR_len _ _ _) (packR_len _ _ _)) rfl ?_
            refine H_y 6 rfl (by kernel_rfl) (by kernel_rfl) (by kernel_rfl) (HSub.refl _) rfl (y_pick_t rfl rfl) rfl ?_
            refine H_y 7 rfl (by kernel_rfl) (by kernel_rfl) (by kernel_rfl) (HSub.refl _) rfl (y_move rfl) rfl ?_
            refine H_case 104 rfl (fun hg26_8 => ?_) (fun hg26_8 => ?_)
            · skip
              refine H_y 8 rfl (by kernel_rfl) (by kernel_rfl) (by kernel_rfl) (HSub.refl _) rfl (y_fieldAddr rfl fl_90_1) rfl ?_
              refine H_y 9 rfl (by kernel_rfl) (by kernel_rfl) (by kernel_rfl) (HSub.refl _) rfl (y_load rfl ag_3 (sees 4 0 rfl) rfl) rfl ?_
              refine H_y 10 rfl (by kernel_rfl) (by kernel_rfl) (by kernel_rfl) (HSub.refl _) rfl (y_move rfl) rfl ?_
              refine H_y 11 rfl (by kernel_rfl) (by kernel_rfl) (by kernel_rfl) (HSub.refl _) rfl (y_eqi rfl rfl) rfl ?_
              refine H_y 12 rfl (by kernel_rfl) (by kernel_rfl) (by kernel_rfl) (HSub.refl _) rfl (y_pick_t rfl rfl) rfl ?_
              refine H_y 13 rfl (by kernel_rfl) (by kernel_rfl) (by kernel_rfl) (HSub.refl _) rfl (y_move rfl) rfl ?_
              refine H_case 110 rfl (fun hg26_14 => ?_) (fun hg26_14 => ?_)
              · skip
                refine H_y 14 rfl (by kernel_rfl) (by kernel_rfl) (by kernel_rfl) (HSub.refl _) rfl (y_move rfl) rfl ?_
                refine H_y 15 rfl (by kernel_rfl) (by kernel_rfl) (by kernel_rfl) (HSub.refl _) rfl (y_indexS rfl rfl Try.underlying40 sz_32 (by omega) (by omega) (show _ = 0 + 1 * 128 from by simp)) rfl ?_
                refine H_y 16 rfl (by kernel_rfl) (by kernel_rfl) (by kernel_rfl) (HSub.refl _) rfl (y_loadA rfl ag_32 sz_32 (sees 2 0 rfl) (by rw [List.length_append, bs_length, hfP]; omega) (sec_at (n := 0) okP (by simp) (sm_xk hp hq false false))) rfl ?_
                refine H_y 17 rfl (by kernel_rfl) (by kernel_rfl) (by kernel_rfl) (HSub.refl _) rfl (y_loadA rfl ag_32 sz_32 (sees 8 0 rfl) (by rw [bs_length, packR_len _ _ _]; decide) (bs_whole0 _ (packR_len _ _ _))) rfl ?_
                refine H_y 18 rfl (by kernel_rfl) (by kernel_rfl) (by kernel_rfl) (HSub.refl _) rfl (y_eqa rfl rfl Try.underlying32 Try.underlying5 sz_5 eg_32 (packR_len _ _ _) (packR_len _ _ _)) rfl ?_
                refine H_y 19 rfl (by kernel_rfl) (by kernel_rfl) (by kernel_rfl) (HSub.refl _) rfl (y_pick_t rfl rfl) rfl ?_
                refine H_y 20 rfl (by kernel_rfl) (by kernel_rfl) (by kernel_rfl) (HSub.refl _) rfl (y_move rfl) rfl ?_
                refine H_case 117 rfl (fun hg26_21 => ?_) (fun hg26_21 => ?_)
                · skip
                  refine H_y 21 rfl (by kernel_rfl) (by kernel_rfl) (by kernel_rfl) (HSub.refl _) rfl (y_move rfl) rfl ?_
                  refine H_y 22 rfl (by kernel_rfl) (by kernel_rfl) (by kernel_rfl) (HSub.refl _) rfl (y_indexS rfl rfl Try.underlying40 sz_32 (by omega) (by omega) (show _ = 0 + 1 * 128 from by simp)) rfl ?_
                  refine H_y 23 rfl (by kernel_rfl) (by kernel_rfl) (by kernel_rfl) (HSub.refl _) rfl (y_loadA rfl ag_32 sz_32 (sees 0 0 rfl) (by rw [List.length_append, bs_length, hfQ]; omega) (sec_at (n := 0) okQ (by simp) (sm_xk hp hq false true))) rfl ?_
                  refine H_y 24 rfl (by kernel_rfl) (by kernel_rfl) (by kernel_rfl) (HSub.refl _) rfl (y_loadA rfl ag_32 sz_32 (sees 8 0 rfl) (by rw [bs_length, packR_len _ _ _]; decide) (bs_whole0 _ (packR_len _ _ _))) rfl ?_
                  refine H_y 25 rfl (by kernel_rfl) (by kernel_rfl) (by kernel_rfl) (HSub.refl _) rfl (y_eqa rfl rfl Try.underlying32 Try.underlying5 sz_5 eg_32 (packR_len _ _ _) (packR_len _ _ _)) rfl ?_
                  refine H_y 26 rfl (by kernel_rfl) (by kernel_rfl) (by kernel_rfl) (HSub.refl _) rfl (y_pick_t rfl rfl) rfl ?_
                  refine H_y 27 rfl (by kernel_rfl) (by kernel_rfl) (by kernel_rfl) (HSub.refl _) rfl (y_assign rfl) rfl ?_
                  refine H_done (by kernel_rfl) ?_
                  refine C_ret ?_
                  refine B_ret (rv_tmp rfl rv_nil) (HSub.refl _) ?_
                  first | rfl | exact ret_bool (by simp)
                · exact absurd hg26_21 (by simp)
              · exact absurd hg26_14 (by simp [rotB_same (packR_len _ _ _) (show i % 128 < 128 by omega), hc0])
            · exact absurd hg26_8 (by simp)
          · exact absurd hg26_3 (by simp)
        · have hc0 : c = 0 := UInt8.toNat_inj.1 (Int.ofNat_inj.1 (by simpa using hc6))
          refine C_skip ?_
          refine C_seq ?_
          cases gp with
          | none => exact slOk_none hgp (by decide)
          | some gp => ?_
          cases gq with
          | none => exact slOk_none hgq (by decide)
          | some gq => ?_
          have okA : ∀ s ∈ ([secOf 0, (packR 1 gen body), secOf 0] : List Sec), s.length = 128 := (fun s hs => by simp only [List.mem_cons, List.not_mem_nil, or_false] at hs; rcases hs with rfl | rfl | rfl; exact secOf_len _; exact packR_len _ _ _; exact secOf_len _)
          have okX2 : ∀ s ∈ (pick2 false ([secOf 0, (packR 1 gen body), secOf 0] : List Sec) ([secOf 0, (rotB (packR 1 gen body) (i % 128) c), secOf 0] : List Sec)), s.length = 128 := by first | exact okA | exact okT
          have okY2 : ∀ s ∈ (pick2 false ([secOf 0, (rotB (packR 1 gen body) (i % 128) c), secOf 0] : List Sec) ([secOf 0, (packR 1 gen body), secOf 0] : List Sec)), s.length = 128 := by first | exact okA | exact okT
          have okP := XK_ok (p := sP) (K := 3) (k := 3) okX2 okY2 rfl rfl
          have okQ := YK_ok (p := sP) (K := 3) (k := 3) okX2 okY2 rfl rfl
          have hfP := flat_len okP
          have hfQ := flat_len okQ
          rw [show (XK sP (pick2 false ([secOf 0, (packR 1 gen body), secOf 0] : List Sec) ([secOf 0, (rotB (packR 1 gen body) (i % 128) c), secOf 0] : List Sec)) (pick2 false ([secOf 0, (rotB (packR 1 gen body) (i % 128) c), secOf 0] : List Sec) ([secOf 0, (packR 1 gen body), secOf 0] : List Sec)) 3 3).length = 3 from rfl] at hfP
          rw [show (YK sP (pick2 false ([secOf 0, (packR 1 gen body), secOf 0] : List Sec) ([secOf 0, (rotB (packR 1 gen body) (i % 128) c), secOf 0] : List Sec)) (pick2 false ([secOf 0, (rotB (packR 1 gen body) (i % 128) c), secOf 0] : List Sec) ([secOf 0, (packR 1 gen body), secOf 0] : List Sec)) 3 3).length = 3 from rfl] at hfQ
          refine C_regionH0 (by kernel_rfl) ?_
          refine H_y 0 rfl (by kernel_rfl) (by kernel_rfl) (by kernel_rfl) (HSub.refl _) rfl (y_move rfl) rfl ?_
          refine H_y 1 rfl (by kernel_rfl) (by kernel_rfl) (by kernel_rfl) (HSub.refl _) rfl (y_eqi rfl rfl) rfl ?_
          refine H_y 2 rfl (by kernel_rfl) (by kernel_rfl) (by kernel_rfl) (HSub.refl _) rfl (y_move rfl) rfl ?_
          refine H_case 99 rfl (fun hg26_3 => ?_) (fun hg26_3 => ?_)
          · skip
            refine H_y 3 rfl (by kernel_rfl) (by kernel_rfl) (by kernel_rfl) (HSub.refl _) rfl (y_loadA rfl ag_32 sz_32 (sees 5 0 rfl) (by rw [bs_length, packR_len _ _ _]; decide) (bs_whole0 _ (packR_len _ _ _))) rfl ?_
            refine H_y 4 rfl (by kernel_rfl) (by kernel_rfl) (by kernel_rfl) (HSub.refl _) rfl (y_loadA rfl ag_32 sz_32 (sees 8 0 rfl) (by rw [bs_length, packR_len _ _ _]; decide) (bs_whole0 _ (packR_len _ _ _))) rfl ?_
            refine H_y 5 rfl (by kernel_rfl) (by kernel_rfl) (by kernel_rfl) (HSub.refl _) rfl (y_eqa rfl rfl Try.underlying32 Try.underlying5 sz_5 eg_32 (packR_len _ _ _) (packR_len _ _ _)) rfl ?_
            refine H_y 6 rfl (by kernel_rfl) (by kernel_rfl) (by kernel_rfl) (HSub.refl _) rfl (y_pick_t rfl rfl) rfl ?_
            refine H_y 7 rfl (by kernel_rfl) (by kernel_rfl) (by kernel_rfl) (HSub.refl _) rfl (y_move rfl) rfl ?_
            refine H_case 104 rfl (fun hg26_8 => ?_) (fun hg26_8 => ?_)
            · skip
              refine H_y 8 rfl (by kernel_rfl) (by kernel_rfl) (by kernel_rfl) (HSub.refl _) rfl (y_fieldAddr rfl fl_90_1) rfl ?_
              refine H_y 9 rfl (by kernel_rfl) (by kernel_rfl) (by kernel_rfl) (HSub.refl _) rfl (y_load rfl ag_3 (sees 4 0 rfl) rfl) rfl ?_
              refine H_y 10 rfl (by kernel_rfl) (by kernel_rfl) (by kernel_rfl) (HSub.refl _) rfl (y_move rfl) rfl ?_
              refine H_y 11 rfl (by kernel_rfl) (by kernel_rfl) (by kernel_rfl) (HSub.refl _) rfl (y_eqi rfl rfl) rfl ?_
              refine H_y 12 rfl (by kernel_rfl) (by kernel_rfl) (by kernel_rfl) (HSub.refl _) rfl (y_pick_t rfl rfl) rfl ?_
              refine H_y 13 rfl (by kernel_rfl) (by kernel_rfl) (by kernel_rfl) (HSub.refl _) rfl (y_move rfl) rfl ?_
              refine H_case 110 rfl (fun hg26_14 => ?_) (fun hg26_14 => ?_)
              · skip
                refine H_y 14 rfl (by kernel_rfl) (by kernel_rfl) (by kernel_rfl) (HSub.refl _) rfl (y_move rfl) rfl ?_
                refine H_y 15 rfl (by kernel_rfl) (by kernel_rfl) (by kernel_rfl) (HSub.refl _) rfl (y_indexS rfl rfl Try.underlying40 sz_32 (by omega) (by omega) (show _ = 0 + 1 * 128 from by simp)) rfl ?_
                refine H_y 16 rfl (by kernel_rfl) (by kernel_rfl) (by kernel_rfl) (HSub.refl _) rfl (y_loadA rfl ag_32 sz_32 (sees 2 0 rfl) (by rw [List.length_append, bs_length, hfP]; omega) (sec_at (n := 0) okP (by simp) (sm_xk hp hq false false))) rfl ?_
                refine H_y 17 rfl (by kernel_rfl) (by kernel_rfl) (by kernel_rfl) (HSub.refl _) rfl (y_loadA rfl ag_32 sz_32 (sees 8 0 rfl) (by rw [bs_length, packR_len _ _ _]; decide) (bs_whole0 _ (packR_len _ _ _))) rfl ?_
                refine H_y 18 rfl (by kernel_rfl) (by kernel_rfl) (by kernel_rfl) (HSub.refl _) rfl (y_eqa rfl rfl Try.underlying32 Try.underlying5 sz_5 eg_32 (packR_len _ _ _) (packR_len _ _ _)) rfl ?_
                refine H_y 19 rfl (by kernel_rfl) (by kernel_rfl) (by kernel_rfl) (HSub.refl _) rfl (y_pick_t rfl rfl) rfl ?_
                refine H_y 20 rfl (by kernel_rfl) (by kernel_rfl) (by kernel_rfl) (HSub.refl _) rfl (y_move rfl) rfl ?_
                refine H_case 117 rfl (fun hg26_21 => ?_) (fun hg26_21 => ?_)
                · skip
                  refine H_y 21 rfl (by kernel_rfl) (by kernel_rfl) (by kernel_rfl) (HSub.refl _) rfl (y_move rfl) rfl ?_
                  refine H_y 22 rfl (by kernel_rfl) (by kernel_rfl) (by kernel_rfl) (HSub.refl _) rfl (y_indexS rfl rfl Try.underlying40 sz_32 (by omega) (by omega) (show _ = 0 + 1 * 128 from by simp)) rfl ?_
                  refine H_y 23 rfl (by kernel_rfl) (by kernel_rfl) (by kernel_rfl) (HSub.refl _) rfl (y_loadA rfl ag_32 sz_32 (sees 0 0 rfl) (by rw [List.length_append, bs_length, hfQ]; omega) (sec_at (n := 0) okQ (by simp) (sm_xk hp hq false true))) rfl ?_
                  refine H_y 24 rfl (by kernel_rfl) (by kernel_rfl) (by kernel_rfl) (HSub.refl _) rfl (y_loadA rfl ag_32 sz_32 (sees 8 0 rfl) (by rw [bs_length, packR_len _ _ _]; decide) (bs_whole0 _ (packR_len _ _ _))) rfl ?_
                  refine H_y 25 rfl (by kernel_rfl) (by kernel_rfl) (by kernel_rfl) (HSub.refl _) rfl (y_eqa rfl rfl Try.underlying32 Try.underlying5 sz_5 eg_32 (packR_len _ _ _) (packR_len _ _ _)) rfl ?_
                  refine H_y 26 rfl (by kernel_rfl) (by kernel_rfl) (by kernel_rfl) (HSub.refl _) rfl (y_pick_t rfl rfl) rfl ?_
                  refine H_y 27 rfl (by kernel_rfl) (by kernel_rfl) (by kernel_rfl) (HSub.refl _) rfl (y_assign rfl) rfl ?_
                  refine H_done (by kernel_rfl) ?_
                  refine C_ret ?_
                  refine B_ret (rv_tmp rfl rv_nil) (HSub.refl _) ?_
                  first | rfl | exact ret_bool (by simp)
                · exact absurd hg26_21 (by simp)
              · exact absurd hg26_14 (by simp [rotB_same (packR_len _ _ _) (show i % 128 < 128 by omega), hc0])
            · exact absurd hg26_8 (by simp)
          · exact absurd hg26_3 (by simp)
    · have hq : sP 1 (rotB (packR 1 gen body) (i % 128) c) = false ∨ (rotB (packR 1 gen body) (i % 128) c) = (packR 1 gen body) := .inr (by simpa using hc4)
      refine C_skip ?_
      refine C_seq ?_
      refine C_region ?_
      refine L_y rfl (y_move rfl) rfl ?_
      refine L_op rfl (op_call rfl rfl (fun a w => Try.call22 a w) rfl ?_)
      refine (FnS.sub (hsub_pick [2, 1] rfl) (readg_v hS5 (sgood_at (sees 2 0 rfl)) (n := 1) (s := (packR 1 gen body)) (show (([secOf 0, (packR 1 gen body), secOf 0] : List Sec))[1]? = some (packR 1 gen body) from rfl) (t := (rotB (packR 1 gen body) (i % 128) c)) (show (([secOf 0, (rotB (packR 1 gen body) (i % 128) c), secOf 0] : List Sec))[1]? = some (rotB (packR 1 gen body) (i % 128) c) from rfl))).mono ?_
      rintro _ _ ⟨e4, rfl⟩
      rw [show rdv sP ((1 : Nat) : Int) (packR 1 gen body) (rotB (packR 1 gen body) (i % 128) c) = (packR 1 gen body) from (sm_read (n := 1) hp hq).1.1, show rde sP ((1 : Nat) : Int) (packR 1 gen body) (rotB (packR 1 gen body) (i % 128) c) = 0 from (sm_read (n := 1) hp hq).1.2] at e4
      obtain rfl := e4
      refine ⟨_, rfl, ?_⟩
      refine L_y rfl (y_move rfl) rfl ?_
      refine L_y rfl (y_extract rfl rfl) rfl ?_
      refine L_y rfl (y_extract rfl rfl) rfl ?_
      refine L_op rfl (op_alloc zl_32 rfl (fun B4 => ?_))
      refine L_op rfl (op_storeA 0 0 rfl rfl rfl sz_32 (by rw [bs_length, packR_len _ _ _]) rfl (bs_one _) (by simp) ?_)
      refine L_y rfl (y_assign rfl) rfl ?_
      refine L_nil ?_
      refine C_seq ?_
      refine C_region ?_
      refine L_y rfl (y_move rfl) rfl ?_
      refine L_op rfl (op_call rfl rfl (fun a w => Try.call46 a w) rfl ?_)
      obtain ⟨ra, rb, hrk⟩ := sm_rk hp hq false
      replace hS5 : Ms dt _ _ _ _ 3 (pick2 false ([secOf 0, (packR 1 gen body), secOf 0] : List Sec) ([secOf 0, (rotB (packR 1 gen body) (i % 128) c), secOf 0] : List Sec)) (pick2 false ([secOf 0, (rotB (packR 1 gen body) (i % 128) c), secOf 0] : List Sec) ([secOf 0, (packR 1 gen body), secOf 0] : List Sec)) 0 0 _ _ _ _ := hS5
      refine (FnS.sub (hsub_pick [1, 1] rfl) (allg_v hS5 (sgood_at (sees 3 0 rfl)) (by decide) (by decide) (by decide) (r := (ra, (if (rotB (packR 1 gen body) (i % 128) c) = (packR 1 gen body) then 0 else 1), rb)) hrk)).mono ?_
      rintro _ _ ⟨rfl, D8, A8, m8, hS8, rfl⟩
      refine ⟨_, rfl, ?_⟩
      refine L_op rfl (op_alloc zl_90 rfl (fun B5 => ?_))
      refine L_op rfl (op_store 0 0 rfl rfl rfl sz_90 rfl rfl (ones rfl) (by decide) ?_)
      skip
      refine L_nil ?_
      refine C_seq ?_
      refine C_region ?_
      refine L_y rfl (y_move rfl) rfl ?_
      refine L_op rfl (op_call rfl rfl (fun a w => Try.call21 a w) rfl ?_)
      refine (FnS.sub (hsub_pick [1, 1] rfl) (flush_v hS8)).mono ?_
      rintro _ _ ⟨rfl, D9, A9, hS9, rfl⟩
      refine ⟨_, rfl, ?_⟩
      refine L_nil ?_
      refine C_seq ?_
      refine C_region ?_
      refine L_y rfl (y_move rfl) rfl ?_
      refine L_op rfl (op_call rfl rfl (fun a w => Try.call30 a w) rfl ?_)
      refine (FnS.sub (hsub_pick [1] rfl) (dumpg_v hS9 false (Z := (XK sP (pick2 false ([secOf 0, (packR 1 gen body), secOf 0] : List Sec) ([secOf 0, (rotB (packR 1 gen body) (i % 128) c), secOf 0] : List Sec)) (pick2 false ([secOf 0, (rotB (packR 1 gen body) (i % 128) c), secOf 0] : List Sec) ([secOf 0, (packR 1 gen body), secOf 0] : List Sec)) 3 3)) rfl)).mono ?_
      rintro _ _ ⟨gp, hgp, rfl, rfl⟩
      refine ⟨_, rfl, ?_⟩
      refine L_y rfl (y_move rfl) rfl ?_
      refine L_op rfl (op_call rfl rfl (fun a w => Try.call30 a w) rfl ?_)
      refine (FnS.sub (hsub_pick [1] rfl) (dumpg_v hS9 true (Z := (YK sP (pick2 false ([secOf 0, (packR 1 gen body), secOf 0] : List Sec) ([secOf 0, (rotB (packR 1 gen body) (i % 128) c), secOf 0] : List Sec)) (pick2 false ([secOf 0, (rotB (packR 1 gen body) (i % 128) c), secOf 0] : List Sec) ([secOf 0, (packR 1 gen body), secOf 0] : List Sec)) 3 3)) rfl)).mono ?_
      rintro _ _ ⟨gq, hgq, rfl, rfl⟩
      refine ⟨_, rfl, ?_⟩
      refine L_y rfl (y_assign rfl) rfl ?_
      refine L_y rfl (y_assign rfl) rfl ?_
      refine L_nil ?_
      refine C_seq ?_
      refine C_region ?_
      refine L_y rfl (y_assign rfl) rfl ?_
      refine L_nil ?_
      refine C_seq ?_
      refine C_seq ?_
      refine C_region ?_
      refine L_y rfl (y_move rfl) rfl ?_
      refine L_y rfl (y_nei rfl rfl) rfl ?_
      refine L_nil ?_
      refine C_cond rfl (fun hc6 => ?_) (fun hc6 => ?_)
      · have hc0 : ¬ c = 0 := fun h => by subst h; exact absurd hc6 (by decide)
        refine C_region ?_
        refine L_y rfl (y_assign rfl) rfl ?_
        refine L_nil ?_
        refine C_seq ?_
        cases gp with
        | none => exact slOk_none hgp (by decide)
        | some gp => ?_
        cases gq with
        | none => exact slOk_none hgq (by decide)
        | some gq => ?_
        have okA : ∀ s ∈ ([secOf 0, (packR 1 gen body), secOf 0] : List Sec), s.length = 128 := (fun s hs => by simp only [List.mem_cons, List.not_mem_nil, or_false] at hs; rcases hs with rfl | rfl | rfl; exact secOf_len _; exact packR_len _ _ _; exact secOf_len _)
        have okX2 : ∀ s ∈ (pick2 false ([secOf 0, (packR 1 gen body), secOf 0] : List Sec) ([secOf 0, (rotB (packR 1 gen body) (i % 128) c), secOf 0] : List Sec)), s.length = 128 := by first | exact okA | exact okT
        have okY2 : ∀ s ∈ (pick2 false ([secOf 0, (rotB (packR 1 gen body) (i % 128) c), secOf 0] : List Sec) ([secOf 0, (packR 1 gen body), secOf 0] : List Sec)), s.length = 128 := by first | exact okA | exact okT
        have okP := XK_ok (p := sP) (K := 3) (k := 3) okX2 okY2 rfl rfl
        have okQ := YK_ok (p := sP) (K := 3) (k := 3) okX2 okY2 rfl rfl
        have hfP := flat_len okP
        have hfQ := flat_len okQ
        rw [show (XK sP (pick2 false ([secOf 0, (packR 1 gen body), secOf 0] : List Sec) ([secOf 0, (rotB (packR 1 gen body) (i % 128) c), secOf 0] : List Sec)) (pick2 false ([secOf 0, (rotB (packR 1 gen body) (i % 128) c), secOf 0] : List Sec) ([secOf 0, (packR 1 gen body), secOf 0] : List Sec)) 3 3).length = 3 from rfl] at hfP
        rw [show (YK sP (pick2 false ([secOf 0, (packR 1 gen body), secOf 0] : List Sec) ([secOf 0, (rotB (packR 1 gen body) (i % 128) c), secOf 0] : List Sec)) (pick2 false ([secOf 0, (rotB (packR 1 gen body) (i % 128) c), secOf 0] : List Sec) ([secOf 0, (packR 1 gen body), secOf 0] : List Sec)) 3 3).length = 3 from rfl] at hfQ
        refine C_regionH0 (by kernel_rfl) ?_
        refine H_y 0 rfl (by kernel_rfl) (by kernel_rfl) (by kernel_rfl) (HSub.refl _) rfl (y_move rfl) rfl ?_
        refine H_y 1 rfl (by kernel_rfl) (by kernel_rfl) (by kernel_rfl) (HSub.refl _) rfl (y_eqi rfl rfl) rfl ?_
        refine H_y 2 rfl (by kernel_rfl) (by kernel_rfl) (by kernel_rfl) (HSub.refl _) rfl (y_move rfl) rfl ?_
        refine H_case 99 rfl (fun hg26_3 => ?_) (fun hg26_3 => ?_)
        · skip
          refine H_y 3 rfl (by kernel_rfl) (by kernel_rfl) (by kernel_rfl) (HSub.refl _) rfl (y_loadA rfl ag_32 sz_32 (sees 5 0 rfl) (by rw [bs_length, packR_len _ _ _]; decide) (bs_whole0 _ (packR_len _ _ _))) rfl ?_
          refine H_y 4 rfl (by kernel_rfl) (by kernel_rfl) (by kernel_rfl) (HSub.refl _) rfl (y_loadA rfl ag_32 sz_32 (sees 7 0 rfl) (by rw [bs_length, packR_len _ _ _]; decide) (bs_whole0 _ (packR_len _ _ _))) rfl ?_
          refine H_y 5 rfl (by kernel_rfl) (by kernel_rfl) (by kernel_rfl) (HSub.refl _) rfl (y_eqa rfl rfl Try.underlying32 Try.underlying5 sz_5 eg_32 (packR_len _ _ _) (packR_len _ _ _)) rfl ?_
          refine H_y 6 rfl (by kernel_rfl) (by kernel_rfl) (by kernel_rfl) (HSub.refl _) rfl (y_pick_t rfl rfl) rfl ?_
          refine H_y 7 rfl (by kernel_rfl) (by kernel_rfl) (by kernel_rfl) (HSub.refl _) rfl (y_move rfl) rfl ?_
          refine H_case 104 rfl (fun hg26_8 => ?_) (fun hg26_8 => ?_)
          · skip
            refine H_y 8 rfl (by kernel_rfl) (by kernel_rfl) (by kernel_rfl) (HSub.refl _) rfl (y_fieldAddr rfl fl_90_1) rfl ?_
            refine H_y 9 rfl (by kernel_rfl) (by kernel_rfl) (by kernel_rfl) (HSub.refl _) rfl (y_load rfl ag_3 (sees 4 0 rfl) rfl) rfl ?_
            refine H_y 10 rfl (by kernel_rfl) (by kernel_rfl) (by kernel_rfl) (HSub.refl _) rfl (y_move rfl) rfl ?_
            refine H_y 11 rfl (by kernel_rfl) (by kernel_rfl) (by kernel_rfl) (HSub.refl _) rfl (y_eqi rfl rfl) rfl ?_
            refine H_y 12 rfl (by kernel_rfl) (by kernel_rfl) (by kernel_rfl) (HSub.refl _) rfl (y_pick_t rfl rfl) rfl ?_
            refine H_y 13 rfl (by kernel_rfl) (by kernel_rfl) (by kernel_rfl) (HSub.refl _) rfl (y_move rfl) rfl ?_
            refine H_case 110 rfl (fun hg26_14 => ?_) (fun hg26_14 => ?_)
            · skip
              refine H_y 14 rfl (by kernel_rfl) (by kernel_rfl) (by kernel_rfl) (HSub.refl _) rfl (y_move rfl) rfl ?_
              refine H_y 15 rfl (by kernel_rfl) (by kernel_rfl) (by kernel_rfl) (HSub.refl _) rfl (y_indexS rfl rfl Try.underlying40 sz_32 (by omega) (by omega) (show _ = 0 + 1 * 128 from by simp)) rfl ?_
              refine H_y 16 rfl (by kernel_rfl) (by kernel_rfl) (by kernel_rfl) (HSub.refl _) rfl (y_loadA rfl ag_32 sz_32 (sees 2 0 rfl) (by rw [List.length_append, bs_length, hfP]; omega) (sec_at (n := 0) okP (by simp) (sm_xk hp hq false false))) rfl ?_
              refine H_y 17 rfl (by kernel_rfl) (by kernel_rfl) (by kernel_rfl) (HSub.refl _) rfl (y_loadA rfl ag_32 sz_32 (sees 7 0 rfl) (by rw [bs_length, packR_len _ _ _]; decide) (bs_whole0 _ (packR_len _ _ _))) rfl ?_
              refine H_y 18 rfl (by kernel_rfl) (by kernel_rfl) (by kernel_rfl) (HSub.refl _) rfl (y_eqa rfl rfl Try.underlying32 Try.underlying5 sz_5 eg_32 (packR_len _ _ _) (packR_len _ _ _)) rfl ?_
              refine H_y 19 rfl (by kernel_rfl) (by kernel_rfl) (by kernel_rfl) (HSub.refl _) rfl (y_pick_t rfl rfl) rfl ?_
              refine H_y 20 rfl (by kernel_rfl) (by kernel_rfl) (by kernel_rfl) (HSub.refl _) rfl (y_move rfl) rfl ?_
              refine H_case 117 rfl (fun hg26_21 => ?_) (fun hg26_21 => ?_)
              · skip
                refine H_y 21 rfl (by kernel_rfl) (by kernel_rfl) (by kernel_rfl) (HSub.refl _) rfl (y_move rfl) rfl ?_
                refine H_y 22 rfl (by kernel_rfl) (by kernel_rfl) (by kernel_rfl) (HSub.refl _) rfl (y_indexS rfl rfl Try.underlying40 sz_32 (by omega) (by omega) (show _ = 0 + 1 * 128 from by simp)) rfl ?_
                refine H_y 23 rfl (by kernel_rfl) (by kernel_rfl) (by kernel_rfl) (HSub.refl _) rfl (y_loadA rfl ag_32 sz_32 (sees 0 0 rfl) (by rw [List.length_append, bs_length, hfQ]; omega) (sec_at (n := 0) okQ (by simp) (sm_xk hp hq false true))) rfl ?_
                refine H_y 24 rfl (by kernel_rfl) (by kernel_rfl) (by kernel_rfl) (HSub.refl _) rfl (y_loadA rfl ag_32 sz_32 (sees 7 0 rfl) (by rw [bs_length, packR_len _ _ _]; decide) (bs_whole0 _ (packR_len _ _ _))) rfl ?_
                refine H_y 25 rfl (by kernel_rfl) (by kernel_rfl) (by kernel_rfl) (HSub.refl _) rfl (y_eqa rfl rfl Try.underlying32 Try.underlying5 sz_5 eg_32 (packR_len _ _ _) (packR_len _ _ _)) rfl ?_
                refine H_y 26 rfl (by kernel_rfl) (by kernel_rfl) (by kernel_rfl) (HSub.refl _) rfl (y_pick_t rfl rfl) rfl ?_
                refine H_y 27 rfl (by kernel_rfl) (by kernel_rfl) (by kernel_rfl) (HSub.refl _) rfl (y_assign rfl) rfl ?_
                refine H_done (by kernel_rfl) ?_
                refine C_ret ?_
                refine B_ret (rv_tmp rfl rv_nil) (HSub.refl _) ?_
                first | rfl | exact ret_bool (by simp)
              · exact absurd hg26_21 (by simp)
            · exact absurd hg26_14 (by simp [rotB_same (packR_len _ _ _) (show i % 128 < 128 by omega), hc0])
          · exact absurd hg26_8 (by simp)
        · exact absurd hg26_3 (by simp)
      · have hc0 : c = 0 := UInt8.toNat_inj.1 (Int.ofNat_inj.1 (by simpa using hc6))
        refine C_skip ?_
        refine C_seq ?_
        cases gp with
        | none => exact slOk_none hgp (by decide)
        | some gp => ?_
        cases gq with
        | none => exact slOk_none hgq (by decide)
        | some gq => ?_
        have okA : ∀ s ∈ ([secOf 0, (packR 1 gen body), secOf 0] : List Sec), s.length = 128 := (fun s hs => by simp only [List.mem_cons, List.not_mem_nil, or_false] at hs; rcases hs with rfl | rfl | rfl; exact secOf_len _; exact packR_len _ _ _; exact secOf_len _)
        have okX2 : ∀ s ∈ (pick2 false ([secOf 0, (packR 1 gen body), secOf 0] : List Sec) ([secOf 0, (rotB (packR 1 gen body) (i % 128) c), secOf 0] : List Sec)), s.length = 128 := by first | exact okA | exact okT
        have okY2 : ∀ s ∈ (pick2 false ([secOf 0, (rotB (packR 1 gen body) (i % 128) c), secOf 0] : List Sec) ([secOf 0, (packR 1 gen body), secOf 0] : List Sec)), s.length = 128 := by first | exact okA | exact okT
        have okP := XK_ok (p := sP) (K := 3) (k := 3) okX2 okY2 rfl rfl
        have okQ := YK_ok (p := sP) (K := 3) (k := 3) okX2 okY2 rfl rfl
        have hfP := flat_len okP
        have hfQ := flat_len okQ
        rw [show (XK sP (pick2 false ([secOf 0, (packR 1 gen body), secOf 0] : List Sec) ([secOf 0, (rotB (packR 1 gen body) (i % 128) c), secOf 0] : List Sec)) (pick2 false ([secOf 0, (rotB (packR 1 gen body) (i % 128) c), secOf 0] : List Sec) ([secOf 0, (packR 1 gen body), secOf 0] : List Sec)) 3 3).length = 3 from rfl] at hfP
        rw [show (YK sP (pick2 false ([secOf 0, (packR 1 gen body), secOf 0] : List Sec) ([secOf 0, (rotB (packR 1 gen body) (i % 128) c), secOf 0] : List Sec)) (pick2 false ([secOf 0, (rotB (packR 1 gen body) (i % 128) c), secOf 0] : List Sec) ([secOf 0, (packR 1 gen body), secOf 0] : List Sec)) 3 3).length = 3 from rfl] at hfQ
        refine C_regionH0 (by kernel_rfl) ?_
        refine H_y 0 rfl (by kernel_rfl) (by kernel_rfl) (by kernel_rfl) (HSub.refl _) rfl (y_move rfl) rfl ?_
        refine H_y 1 rfl (by kernel_rfl) (by kernel_rfl) (by kernel_rfl) (HSub.refl _) rfl (y_eqi rfl rfl) rfl ?_
        refine H_y 2 rfl (by kernel_rfl) (by kernel_rfl) (by kernel_rfl) (HSub.refl _) rfl (y_move rfl) rfl ?_
        refine H_case 99 rfl (fun hg26_3 => ?_) (fun hg26_3 => ?_)
        · skip
          refine H_y 3 rfl (by kernel_rfl) (by kernel_rfl) (by kernel_rfl) (HSub.refl _) rfl (y_loadA rfl ag_32 sz_32 (sees 5 0 rfl) (by rw [bs_length, packR_len _ _ _]; decide) (bs_whole0 _ (packR_len _ _ _))) rfl ?_
          refine H_y 4 rfl (by kernel_rfl) (by kernel_rfl) (by kernel_rfl) (HSub.refl _) rfl (y_loadA rfl ag_32 sz_32 (sees 7 0 rfl) (by rw [bs_length, packR_len _ _ _]; decide) (bs_whole0 _ (packR_len _ _ _))) rfl ?_
          refine H_y 5 rfl (by kernel_rfl) (by kernel_rfl) (by kernel_rfl) (HSub.refl _) rfl (y_eqa rfl rfl Try.underlying32 Try.underlying5 sz_5 eg_32 (packR_len _ _ _) (packR_len _ _ _)) rfl ?_
          refine H_y 6 rfl (by kernel_rfl) (by kernel_rfl) (by kernel_rfl) (HSub.refl _) rfl (y_pick_t rfl rfl) rfl ?_
          refine H_y 7 rfl (by kernel_rfl) (by kernel_rfl) (by kernel_rfl) (HSub.refl _) rfl (y_move rfl) rfl ?_
          refine H_case 104 rfl (fun hg26_8 => ?_) (fun hg26_8 => ?_)
          · skip
            refine H_y 8 rfl (by kernel_rfl) (by kernel_rfl) (by kernel_rfl) (HSub.refl _) rfl (y_fieldAddr rfl fl_90_1) rfl ?_
            refine H_y 9 rfl (by kernel_rfl) (by kernel_rfl) (by kernel_rfl) (HSub.refl _) rfl (y_load rfl ag_3 (sees 4 0 rfl) rfl) rfl ?_
            refine H_y 10 rfl (by kernel_rfl) (by kernel_rfl) (by kernel_rfl) (HSub.refl _) rfl (y_move rfl) rfl ?_
            refine H_y 11 rfl (by kernel_rfl) (by kernel_rfl) (by kernel_rfl) (HSub.refl _) rfl (y_eqi rfl rfl) rfl ?_
            refine H_y 12 rfl (by kernel_rfl) (by kernel_rfl) (by kernel_rfl) (HSub.refl _) rfl (y_pick_t rfl rfl) rfl ?_
            refine H_y 13 rfl (by kernel_rfl) (by kernel_rfl) (by kernel_rfl) (HSub.refl _) rfl (y_move rfl) rfl ?_
            refine H_case 110 rfl (fun hg26_14 => ?_) (fun hg26_14 => ?_)
            · skip
              refine H_y 14 rfl (by kernel_rfl) (by kernel_rfl) (by kernel_rfl) (HSub.refl _) rfl (y_move rfl) rfl ?_
              refine H_y 15 rfl (by kernel_rfl) (by kernel_rfl) (by kernel_rfl) (HSub.refl _) rfl (y_indexS rfl rfl Try.underlying40 sz_32 (by omega) (by omega) (show _ = 0 + 1 * 128 from by simp)) rfl ?_
              refine H_y 16 rfl (by kernel_rfl) (by kernel_rfl) (by kernel_rfl) (HSub.refl _) rfl (y_loadA rfl ag_32 sz_32 (sees 2 0 rfl) (by rw [List.length_append, bs_length, hfP]; omega) (sec_at (n := 0) okP (by simp) (sm_xk hp hq false false))) rfl ?_
              refine H_y 17 rfl (by kernel_rfl) (by kernel_rfl) (by kernel_rfl) (HSub.refl _) rfl (y_loadA rfl ag_32 sz_32 (sees 7 0 rfl) (by rw [bs_length, packR_len _ _ _]; decide) (bs_whole0 _ (packR_len _ _ _))) rfl ?_
              refine H_y 18 rfl (by kernel_rfl) (by kernel_rfl) (by kernel_rfl) (HSub.refl _) rfl (y_eqa rfl rfl Try.underlying32 Try.underlying5 sz_5 eg_32 (packR_len _ _ _) (packR_len _ _ _)) rfl ?_
              refine H_y 19 rfl (by kernel_rfl) (by kernel_rfl) (by kernel_rfl) (HSub.refl _) rfl (y_pick_t rfl rfl) rfl ?_
              refine H_y 20 rfl (by kernel_rfl) (by kernel_rfl) (by kernel_rfl) (HSub.refl _) rfl (y_move rfl) rfl ?_
              refine H_case 117 rfl (fun hg26_21 => ?_) (fun hg26_21 => ?_)
              · skip
                refine H_y 21 rfl (by kernel_rfl) (by kernel_rfl) (by kernel_rfl) (HSub.refl _) rfl (y_move rfl) rfl ?_
                refine H_y 22 rfl (by kernel_rfl) (by kernel_rfl) (by kernel_rfl) (HSub.refl _) rfl (y_indexS rfl rfl Try.underlying40 sz_32 (by omega) (by omega) (show _ = 0 + 1 * 128 from by simp)) rfl ?_
                refine H_y 23 rfl (by kernel_rfl) (by kernel_rfl) (by kernel_rfl) (HSub.refl _) rfl (y_loadA rfl ag_32 sz_32 (sees 0 0 rfl) (by rw [List.length_append, bs_length, hfQ]; omega) (sec_at (n := 0) okQ (by simp) (sm_xk hp hq false true))) rfl ?_
                refine H_y 24 rfl (by kernel_rfl) (by kernel_rfl) (by kernel_rfl) (HSub.refl _) rfl (y_loadA rfl ag_32 sz_32 (sees 7 0 rfl) (by rw [bs_length, packR_len _ _ _]; decide) (bs_whole0 _ (packR_len _ _ _))) rfl ?_
                refine H_y 25 rfl (by kernel_rfl) (by kernel_rfl) (by kernel_rfl) (HSub.refl _) rfl (y_eqa rfl rfl Try.underlying32 Try.underlying5 sz_5 eg_32 (packR_len _ _ _) (packR_len _ _ _)) rfl ?_
                refine H_y 26 rfl (by kernel_rfl) (by kernel_rfl) (by kernel_rfl) (HSub.refl _) rfl (y_pick_t rfl rfl) rfl ?_
                refine H_y 27 rfl (by kernel_rfl) (by kernel_rfl) (by kernel_rfl) (HSub.refl _) rfl (y_assign rfl) rfl ?_
                refine H_done (by kernel_rfl) ?_
                refine C_ret ?_
                refine B_ret (rv_tmp rfl rv_nil) (HSub.refl _) ?_
                first | rfl | exact ret_bool (by simp)
              · exact absurd hg26_21 (by simp)
            · exact absurd hg26_14 (by simp [rotB_same (packR_len _ _ _) (show i % 128 < 128 by omega), hc0])
          · exact absurd hg26_8 (by simp)
        · exact absurd hg26_3 (by simp)

end Go.Proofs.Ytjjiclgbdenkkaa

/- From a row's reading of a slice of bytes to what a walk asks (own work). -/
set_option linter.unusedVariables false
namespace Go.Sl
open Go.RowKit
end Go.Sl

/- What a row tells of its arguments, for flat types (integers, bools, structs and arrays of these) and slices of them (own work). -/
set_option linter.unusedVariables false
set_option linter.unusedSimpArgs false
namespace Go.Sl
open Go.RowKit
inductive Sc where
  | int (k : IntKind)
  | bool
def Sc.fit : Sc → Value → Prop
  | .int k, v => ∃ n, v = .int k n ∧ (Lit.int k n).wf = true
  | .bool, v => ∃ b, v = .bool b
/-- A row of cells fits a row of scalars. -/
def Fits : List Sc → List Value → Prop
  | [], [] => True
  | s :: ss, v :: vs => s.fit v ∧ Fits ss vs
  | _, _ => False
theorem Fits.length : ∀ {ss : List Sc} {vs : List Value}, Fits ss vs → vs.length = ss.length
  | [], [], _ => rfl
  | _ :: _, _ :: _, h => by simp [Fits.length h.2]
  | [], _ :: _, h => h.elim
  | _ :: _, [], h => h.elim
theorem Fits.append : ∀ {ss tt : List Sc} {vs us : List Value}, Fits ss vs → Fits tt us → Fits (ss ++ tt) (vs ++ us)
  | [], _, [], _, _, h => h
  | _ :: _, _, _ :: _, _, h, k => ⟨h.1, Fits.append h.2 k⟩
  | [], _, _ :: _, _, h, _ => h.elim
  | _ :: _, _, [], _, h, _ => h.elim
theorem Fits.cons_iff {s : Sc} {ss : List Sc} {vs : List Value} : Fits (s :: ss) vs ↔ ∃ v us, vs = v :: us ∧ s.fit v ∧ Fits ss us := by
  cases vs with
  | nil => simp [Fits]
  | cons v us =>
    refine ⟨fun h => ⟨v, us, rfl, h⟩, fun ⟨v', us', e, h⟩ => ?_⟩
    obtain ⟨rfl, rfl⟩ := List.cons.inj e
    exact h
theorem Fits.nil_iff {vs : List Value} : Fits [] vs ↔ vs = [] := by cases vs <;> simp [Fits]
theorem Fits.split : ∀ {ss tt : List Sc} {vs : List Value}, Fits (ss ++ tt) vs → ∃ a b, vs = a ++ b ∧ Fits ss a ∧ Fits tt b
  | [], _, vs, h => ⟨[], vs, rfl, trivial, h⟩
  | s :: ss, tt, vs, h => by
    obtain ⟨v, us, rfl, h1, h2⟩ := Fits.cons_iff.1 h
    obtain ⟨a, b, rfl, h3, h4⟩ := Fits.split (ss := ss) h2
    exact ⟨v :: a, b, rfl, ⟨h1, h3⟩, h4⟩
/-- A row of bytes. -/
theorem Fits.bytes : ∀ {n : Nat} {vs : List Value}, Fits (List.replicate n (.int .u8)) vs → ∃ u : List UInt8, vs = bs u ∧ u.length = n
  | 0, vs, h => ⟨[], by rw [Fits.nil_iff.1 h]; rfl, rfl⟩
  | n + 1, vs, h => by
    rw [List.replicate_succ] at h
    obtain ⟨v, us, rfl, ⟨m, rfl, hm⟩, h2⟩ := Fits.cons_iff.1 h
    obtain ⟨u, rfl, rfl⟩ := Fits.bytes h2
    have hb := bounds_u8 hm
    refine ⟨UInt8.ofNat m.toNat :: u, ?_, rfl⟩
    rw [u8_of_int (by omega) (by omega)]; rfl
def flatF (P : Program) (g : TypeId → Option (List Sc)) : List Field → Nat → Option (List Sc)
  | [], _ => some []
  | f :: fs, off => if f.offset = off then (g f.type).bind fun l => if P.cellsOf f.type = l.length then (flatF P g fs (off + l.length)).map (l ++ ·) else none else none
def flatT (P : Program) : Nat → TypeId → Option (List Sc)
  | 0, _ => none
  | d + 1, t => match P.underlying t with
    | some (.int k) => some [.int k]
    | some .bool => some [.bool]
    | some (.struct fs) => (flatF P (flatT P d) fs.toList 0).bind fun l => if P.cellsOf t = l.length then some l else none
    | some (.array n e) => (flatT P d e).bind fun l => if P.cellsOf e = l.length ∧ P.cellsOf t = n * l.length then some (List.replicate n l).flatten else none
    | _ => none
theorem flatF_fits {P : Program} {g : TypeId → Option (List Sc)} {cs : List Value} : ∀ {fs : List Field} {off : Nat} {sh : List Sc}, flatF P g fs off = some sh →
    (∀ f ∈ fs, ∀ l, g f.type = some l → Fits l ((cs.drop f.offset).take (P.cellsOf f.type))) → Fits sh ((cs.drop off).take sh.length)
  | [], off, sh, h, _ => by
    simp only [flatF, Option.some.injEq] at h
    subst h; simp [Fits]
  | f :: fs, off, sh, h, hf => by
    unfold flatF at h
    split at h
    · rename_i ho
      cases hg : g f.type with
      | none => simp [hg] at h
      | some l =>
        rw [hg] at h; simp only [Option.bind_some] at h
        split at h
        · rename_i hc
          cases hr : flatF P g fs (off + l.length) with
          | none => simp [hr] at h
          | some l2 =>
            simp only [hr, Option.map_some, Option.some.injEq] at h
            subst h
            have h1 := hf f (by simp) l hg
            have h2 := flatF_fits hr (fun f' hf' => hf f' (by simp [hf']))
            rw [ho, hc] at h1
            have h3 := Fits.append h1 h2
            rw [List.length_append, List.take_add, List.drop_drop]
            exact h3
        · cases h
    · cases h
section
variable {H : Type} {enc : TypeId × Value → H} {P : Program} {w : World} {base : Nat} {spare : Nat → Bool} {held : Bool}
theorem arr_fits {l : List Sc} : ∀ {n : Nat} {cs : List Value}, cs.length = n * l.length → (∀ i, i < n → Fits l ((cs.drop (i * l.length)).take l.length)) → Fits (List.replicate n l).flatten cs
  | 0, cs, h, _ => by simp at h; subst h; simp [Fits]
  | n + 1, cs, h, hi => by
    rw [Nat.add_mul, Nat.one_mul] at h
    have h0 := hi 0 (by omega)
    rw [Nat.zero_mul, List.drop_zero] at h0
    have h1 := arr_fits (l := l) (n := n) (cs := cs.drop l.length) (by simp; omega) (fun i hi' => by
      have := hi (i + 1) (by omega)
      rw [List.drop_drop, show l.length + i * l.length = (i + 1) * l.length from by rw [Nat.add_mul, Nat.one_mul, Nat.add_comm]]
      exact this)
    have h2 := Fits.append h0 h1
    rw [List.take_append_drop] at h2
    rw [List.replicate_succ, List.flatten_cons]
    exact h2
theorem flat_trod : ∀ {d : Nat} {t : TypeId} {sh : List Sc}, flatT P d t = some sh → ∀ {fuel : Nat} {cs : List Value} {x : DataW H × List MemPlace}, DataW.trod enc P w base spare held fuel t cs = some x → Fits sh cs
  | 0, _, _, h, _, _, _, _ => by simp [flatT] at h
  | d + 1, t, sh, h, fuel, cs, x, hx => by
    unfold flatT at h
    split at h
    · rename_i k hu
      obtain ⟨n, rfl, _, hw⟩ := DataW.trod_int hu hx
      simp only [Option.some.injEq] at h; subst h
      exact ⟨⟨n, rfl, hw⟩, trivial⟩
    · rename_i hu
      obtain ⟨b, rfl, _⟩ := DataW.trod_bool hu hx
      simp only [Option.some.injEq] at h; subst h
      exact ⟨⟨b, rfl⟩, trivial⟩
    · rename_i fs hu
      obtain ⟨xs, n, _, _, hl, hlen, hf⟩ := DataW.trod_struct hu hx
      cases hF : flatF P (flatT P d) fs.toList 0 with
      | none => simp [hF] at h
      | some l =>
        simp only [hF, Option.bind_some] at h
        split at h
        · rename_i hc
          simp only [Option.some.injEq] at h; subst h
          have := flatF_fits (cs := cs) hF (fun f hfm l' hl' => by
            obtain ⟨i, hi, rfl⟩ := List.getElem_of_mem hfm
            have h1 := hf i _ (by rw [← Array.getElem?_toList]; exact List.getElem?_eq_getElem hi)
            have h2 : i < xs.length := by rw [hlen]; simpa using hi
            rw [List.getElem?_eq_getElem h2] at h1
            exact flat_trod hl' h1)
          rw [List.drop_zero, List.take_of_length_le (by omega)] at this
          exact this
        · cases h
    · rename_i n e hu
      obtain ⟨xs, m, _, _, hl, hlen, hf⟩ := DataW.trod_array hu hx
      cases hF : flatT P d e with
      | none => simp [hF] at h
      | some l =>
        simp only [hF, Option.bind_some] at h
        split at h
        · rename_i hc
          simp only [Option.some.injEq] at h; subst h
          refine arr_fits (by rw [hl, hc.2]) (fun i hi => ?_)
          have h1 := hf i hi
          have h2 : i < xs.length := by omega
          rw [List.getElem?_eq_getElem h2, hc.1] at h1
          exact flat_trod hF h1
        · cases h
    · cases h
/-- What is told of a slice that came in. -/
def InS (w : World) (sh : List Sc) (a : Option Addr) (len cap : Nat) : Prop :=
  (a = none ∧ len = 0 ∧ cap = 0) ∨ ∃ (x : Addr), a = some x ∧ len ≤ cap ∧ cap ≤ maxLen ∧
    (0 < len → ∃ (b off : Nat) (l : List Value) (T : TypeId) (fr : Nat × Nat), x = ⟨b, off, none⟩ ∧ w.heap[b]? = some (.cells l.toArray T fr) ∧ off + len * sh.length ≤ l.length ∧
      ∀ i, i < len → Fits sh ((l.drop (off + i * sh.length)).take sh.length))
theorem cell_block {w : World} {b off : Nat} {spot : Option Nat} {v : Value} (h : w.cell? ⟨b, off, spot⟩ = some v) : spot = none ∧ ∃ (l : List Value) (T : TypeId) (fr : Nat × Nat), w.heap[b]? = some (.cells l.toArray T fr) := by
  have hs : spot = none := by
    unfold World.cell? at h
    cases spot with
    | none => rfl
    | some s => split at h <;> simp at h
  subst hs
  refine ⟨rfl, ?_⟩
  cases hb : w.heap[b]? with
  | none => simp [World.cell?, hb] at h
  | some o =>
    cases o with
    | cells c T fr => exact ⟨c.toList, T, fr, by simp⟩
    | _ => simp [World.cell?, hb] at h
theorem flat_slice {d : Nat} {t e : TypeId} {sh : List Sc} {a : Option Addr} {len cap : Nat} {D : DataW H} {ps : List MemPlace} (ht : P.underlying t = some (.slice e)) (h : flatT P d e = some sh) (hc : P.cellsOf e = sh.length) (hp : 0 < sh.length)
    (hT : DataW.Trod enc P w base (fun _ => true) held t (.slice a len cap) D ps) : InS w sh a len cap := by
  obtain ⟨fuel, hf⟩ := hT
  rcases Go.Deep.open_slice ht hf with ⟨hcs, _⟩ | ⟨x, len', cap', m, n, DD, Pl, hcs, _, hl, hm, hmm, _, hx⟩
  · simp [Value.cells] at hcs
    exact .inl hcs
  · simp [Value.cells] at hcs
    obtain ⟨rfl, rfl, rfl⟩ := hcs
    refine .inr ⟨x, rfl, hl, hm, fun hpos => ?_⟩
    simp only [if_true] at hmm
    subst hmm
    rw [hc] at hx
    obtain ⟨b, off, spot⟩ := x
    obtain ⟨cs1, f1, f2⟩ := hx 0 (by omega)
    obtain ⟨_, f3, f4⟩ := World.cells?_some f1
    have f5 := f4 0 hp
    rw [List.getElem?_eq_getElem (by omega), show (Addr.add (Addr.add ⟨b, off, spot⟩ (0 * sh.length)) 0) = ⟨b, off, spot⟩ from by simp [Addr.add]] at f5
    obtain ⟨rfl, l, T, fr, hb⟩ := cell_block f5
    have hcell : ∀ i, i < len → ∃ cs', cs'.length = sh.length ∧ Fits sh cs' ∧ ∀ j, j < sh.length → w.cell? ⟨b, off + (i * sh.length + j), none⟩ = cs'[j]? := fun i hi => by
      obtain ⟨cs', h1, h2⟩ := hx i (by omega)
      obtain ⟨_, h3, h4⟩ := World.cells?_some h1
      exact ⟨cs', h3, flat_trod h h2, fun j hj => by have := h4 j hj; rw [addr_add, addr_add] at this; simpa [Nat.add_assoc] using this⟩
    have hget : ∀ i, i < len → ∀ j, j < sh.length → ∃ v, l[off + (i * sh.length + j)]? = some v ∧ w.cell? ⟨b, off + (i * sh.length + j), none⟩ = some v := fun i hi j hj => by
      obtain ⟨cs', h1, h2, h3⟩ := hcell i hi
      have h4 := h3 j hj
      rw [List.getElem?_eq_getElem (by omega)] at h4
      refine ⟨_, ?_, h4⟩
      simpa [World.cell?, hb] using h4
    have hle : off + len * sh.length ≤ l.length := by
      obtain ⟨v, h1, _⟩ := hget (len - 1) (by omega) (sh.length - 1) (by omega)
      have h2 := (List.getElem?_eq_some_iff.1 h1).1
      have h3 : (len - 1) * sh.length + sh.length = len * sh.length := by
        rw [← Nat.succ_mul]; congr 1; omega
      omega
    refine ⟨b, off, l, T, fr, rfl, hb, hle, fun i hi => ?_⟩
    obtain ⟨cs', h1, h2, h3⟩ := hcell i hi
    have : (l.drop (off + i * sh.length)).take sh.length = cs' := by
      apply List.ext_getElem?
      intro j
      by_cases hj : j < sh.length
      · rw [List.getElem?_take_of_lt hj, List.getElem?_drop, ← h3 j hj]
        obtain ⟨v, k1, k2⟩ := hget i hi j hj
        rw [k2, Nat.add_assoc, k1]
      · have hc : i * sh.length + sh.length ≤ len * sh.length := by
          rw [← Nat.succ_mul]; exact Nat.mul_le_mul_right _ hi
        rw [List.getElem?_eq_none (by simp; omega), List.getElem?_eq_none (by omega)]
    rw [this]; exact h2
/-- The same, told as one row of elements. -/
theorem inS_rows {w : World} {sh : List Sc} {α : Type} {f : α → List Value} (hf : ∀ cs, Fits sh cs → ∃ x, cs = f x) : ∀ {len : Nat} {l : List Value} {off : Nat}, off + len * sh.length ≤ l.length →
    (∀ i, i < len → Fits sh ((l.drop (off + i * sh.length)).take sh.length)) → ∃ xs : List α, xs.length = len ∧ (l.drop off).take (len * sh.length) = (xs.map f).flatten
  | 0, l, off, _, _ => ⟨[], rfl, by simp⟩
  | len + 1, l, off, hl, h => by
    have h0 := h 0 (by omega)
    rw [Nat.zero_mul, Nat.add_zero] at h0
    obtain ⟨x, hx⟩ := hf _ h0
    rw [Nat.succ_mul] at hl
    obtain ⟨xs, h1, h2⟩ := inS_rows (w := w) hf (len := len) (l := l) (off := off + sh.length) (by omega) (fun i hi => by
      have := h (i + 1) (by omega)
      rw [Nat.succ_mul] at this
      rw [show off + sh.length + i * sh.length = off + (i * sh.length + sh.length) from by omega]
      exact this)
    refine ⟨x :: xs, by simp [h1], ?_⟩
    rw [Nat.succ_mul, Nat.add_comm (len * sh.length), List.take_add, List.drop_drop, hx, h2]
    rfl
end
end Go.Sl

/- Rows over bytes (own work). -/
set_option linter.unusedVariables false
namespace Go.Sl
open Go.RowKit
theorem in_byts {w : World} {a : Option Addr} {len cap : Nat} (h : InS w [.int .u8] a len cap) : ∃ u : List UInt8, len = u.length ∧ Holds w [] a (bs u) := by
  rcases h with ⟨rfl, rfl, rfl⟩ | ⟨x, rfl, h1, h2, h3⟩
  · exact ⟨[], rfl, fun hp => by simp [bs] at hp⟩
  · rcases Nat.eq_zero_or_pos len with rfl | hp
    · exact ⟨[], rfl, fun hp => by simp [bs] at hp⟩
    · obtain ⟨b, off, l, T, fr, rfl, hb, hl, hf⟩ := h3 hp
      have hone : ∀ cs, Fits [.int .u8] cs → ∃ x : UInt8, cs = (fun b => [u8 b]) x := fun cs hc => by
        obtain ⟨u, rfl, hu⟩ := Fits.bytes (n := 1) hc
        match u, hu with
        | [x], _ => exact ⟨x, rfl⟩
      obtain ⟨ds, hd, ht⟩ := inS_rows (w := w) (f := fun b : UInt8 => [u8 b]) hone hl hf
      have he : (ds.map fun b => [u8 b]).flatten = bs ds := by
        clear ht hd
        induction ds with
        | nil => rfl
        | cons x ds ih => rw [List.map_cons, List.flatten_cons, ih]; rfl
      rw [he] at ht
      refine ⟨ds, hd.symm, fun _ => ⟨b, off, l, T, fr, rfl, sees_old hb, ?_, ?_⟩⟩
      · rw [bs_length, hd]; simpa using hl
      · rw [bs_length, hd]; simpa using ht
end Go.Sl

