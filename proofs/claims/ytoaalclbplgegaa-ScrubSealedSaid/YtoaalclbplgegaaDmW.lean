/- walks (own work; the walks' lines by a program of this repo). -/
import Derived.Test.YtoaalclbplgegaaDtW
set_option linter.unusedVariables false
set_option linter.unusedSimpArgs false
set_option maxRecDepth 20000
namespace Go.Proofs.Ytoaalclbplgegaa
open Go.Sl
attribute [local irreducible] BodyQ WpC WpL WpS WpH OpW FnS


theorem newpower_s {w0 : World} {H : Hp}  : FnS Try.prog w0 29 #[] H (fun e H' => ∃ b, e = .returned (ptr b) ∧ H' = (⟨b, none, [], ⟨false, 0, false⟩⟩ : Pw).o dt :: [] :: H) := by
  refine FnS_intro (n := 3) (rs := [.tmp 0]) (vs := []) Try.func29 rfl Try.ntmps29 rfl rfl ?_
  refine C_seq ?_
  refine C_region ?_
  refine L_y rfl (y_assign rfl) rfl ?_
  refine L_nil ?_
  refine C_seq ?_
  refine C_region ?_
  refine L_y rfl (y_build0 pl_115 zl_115) rfl ?_
  refine L_op rfl (op_box rfl rfl rfl (fun B1 => ?_))
  refine L_y rfl (y_assign rfl) rfl ?_
  refine L_nil ?_
  refine C_ret ?_
  refine B_ret (rv_tmp rfl rv_nil) hsub_nil1 ?_
  exact ⟨_, rfl, rfl⟩

theorem new_s {w0 : World} {H : Hp} (n : Int) (p : Pw) (hp : p.ok dt) (hk : p.devs.length ≤ 1000) : FnS Try.prog w0 30 #[.int .i64 n, ptr p.b] (p.o dt :: p.q dt :: H) (fun e H' => ∃ b st g', slOk 1 g' (p.devs ++ [b]).length ((p.devs ++ [b]).map (clos dt)) ∧ e = .returned (ptr b) ∧ H' = opn dt (Dv.new b st p.b (szOf n)) ⟨p.b, g', p.devs ++ [b], p.a⟩ [] H) := by
  refine FnS_intro (n := 28) (rs := [.tmp 4]) (vs := [.int .i64 n, ptr p.b]) Try.func30 rfl Try.ntmps30 rfl rfl ?_
  refine C_seq ?_
  refine C_region ?_
  refine L_y rfl (y_assign rfl) rfl ?_
  refine L_nil ?_
  refine C_seq ?_
  refine C_seq ?_
  refine C_region ?_
  refine L_y rfl (y_move rfl) rfl ?_
  refine L_y rfl (y_eqp rfl rfl Try.underlying64) rfl ?_
  refine L_nil ?_
  refine C_cond_f rfl ?_
  refine C_skip ?_
  refine C_seq ?_
  refine C_region ?_
  refine L_y rfl (y_move rfl) rfl ?_
  refine L_y rfl (y_move rfl) rfl ?_
  refine L_y rfl (y_max rfl rfl) rfl ?_
  refine L_y rfl (y_min rfl rfl) rfl ?_
  refine L_op rfl (op_makeSlice rfl Try.underlying26 by_37 sz_37 zl_37 rfl (by omega) (by omega) (by omega) rfl (fun B1 => ?_))
  refine L_y rfl (y_build (vs := [(0, _), (1, _)]) rfl pl_97 zl_97 (fill_cons (off := 0) (m := 1) (vs := [_]) rfl rfl rfl (Nat.le_of_ble_eq_true rfl) (fill_cons (off := 1) (m := 1) (vs := [_]) rfl rfl rfl (Nat.le_of_ble_eq_true rfl) rfl))) rfl ?_
  refine L_op rfl (op_box rfl rfl rfl (fun B2 => ?_))
  refine L_y rfl (y_assign rfl) rfl ?_
  refine L_nil ?_
  refine C_seq ?_
  refine C_region ?_
  refine L_y rfl (y_move rfl) rfl ?_
  refine L_y rfl (y_move rfl) rfl ?_
  refine L_y rfl (y_nilCheck rfl) rfl ?_
  refine L_y rfl (y_fieldAddr rfl fl_115_3) rfl ?_
  refine L_y rfl (y_load rfl ag_113 (sees 2 0 rfl) rfl) rfl ?_
  refine L_y rfl (y_move rfl) rfl ?_
  refine L_y rfl (y_makeFunc rfl rfl) rfl ?_
  refine L_op rfl (op_buildSlice (vs := [(0, _)]) rfl Try.underlying113 sz_1 zl_1 rfl (by decide) (fill_one rfl rfl rfl) rfl (fun B3 => ?_))
  refine L_op rfl (op_append (gs := p.g) (len := p.devs.length) (m := 1) (xs := p.devs.map (clos dt)) (vs := [clos dt B2]) 4 rfl rfl rfl hp.1 (src_slice (sees 0 0 rfl) (Nat.le_of_ble_eq_true rfl) rfl) rfl (fun v hv => by simp at hv; subst hv; rfl) Try.underlying113 ni_113 sz_1 by_1 (by decide) zl_1 rfl (by omega) rfl (fun g' hg' => ?_))
  rw [show p.devs.map (clos dt) ++ [clos dt B2] = (p.devs ++ [B2]).map (clos dt) from by simp, show p.devs.length + 1 = (p.devs ++ [B2]).length from by simp] at hg' ⊢
  refine L_y rfl (y_nilCheck rfl) rfl ?_
  refine L_y rfl (y_fieldAddr rfl fl_115_3) rfl ?_
  refine L_op rfl (op_store1 3 0 rfl rfl (one_slV _ _) sz_113 rfl (Nat.le_of_ble_eq_true rfl) ?_)
  refine L_nil ?_
  refine C_seq ?_
  refine C_region ?_
  refine L_y rfl (y_move rfl) rfl ?_
  refine L_y rfl (y_assign rfl) rfl ?_
  refine L_nil ?_
  refine C_ret ?_
  refine B_ret (rv_tmp rfl rv_nil) (hsub_nil2.trans (hsub (.cons _ (.refl _)))) ?_
  refine ⟨B2, B1, g', hg', rfl, ?_⟩
  rw [zsecs]
  unfold opn Dv.o Dv.t Dv.q Dv.cells Dv.new Ab.new szOf
  simp only [List.length_replicate]
  have e0 : (((min (max n 0) 4096).toNat : Nat) : Int) = min (max n 0) 4096 := by omega
  rfl

theorem new_nil {w0 : World} {H : Hp} (n : Int) : FnS Try.prog w0 30 #[.int .i64 n, .pointer none] H (fun e H' => ∃ pb b st g', slOk 1 g' ([] ++ [b]).length (([] ++ [b]).map (clos dt)) ∧ e = .returned (ptr b) ∧ H' = opn dt (Dv.new b st pb (szOf n)) ⟨pb, g', [] ++ [b], ⟨false, 0, false⟩⟩ [] H) := by
  have hk : (0 : Nat) ≤ 0 := Nat.le_refl 0
  refine FnS_intro (n := 28) (rs := [.tmp 4]) (vs := [.int .i64 n, .pointer none]) Try.func30 rfl Try.ntmps30 rfl rfl ?_
  refine C_seq ?_
  refine C_region ?_
  refine L_y rfl (y_assign rfl) rfl ?_
  refine L_nil ?_
  refine C_seq ?_
  refine C_seq ?_
  refine C_region ?_
  refine L_y rfl (y_move rfl) rfl ?_
  refine L_y rfl (y_eqp rfl rfl Try.underlying64) rfl ?_
  refine L_nil ?_
  refine C_cond_t rfl ?_
  refine C_region ?_
  refine L_op rfl (op_call rfl rfl (fun a w => Try.call29 a w) rfl ?_)
  refine newpower_s.mono ?_
  rintro _ _ ⟨pb, rfl, rfl⟩
  refine ⟨_, rfl, ?_⟩
  refine L_y rfl (y_assign rfl) rfl ?_
  refine L_nil ?_
  refine C_seq ?_
  refine C_region ?_
  refine L_y rfl (y_move rfl) rfl ?_
  refine L_y rfl (y_move rfl) rfl ?_
  refine L_y rfl (y_max rfl rfl) rfl ?_
  refine L_y rfl (y_min rfl rfl) rfl ?_
  refine L_op rfl (op_makeSlice rfl Try.underlying26 by_37 sz_37 zl_37 rfl (by omega) (by omega) (by omega) rfl (fun B1 => ?_))
  refine L_y rfl (y_build (vs := [(0, _), (1, _)]) rfl pl_97 zl_97 (fill_cons (off := 0) (m := 1) (vs := [_]) rfl rfl rfl (Nat.le_of_ble_eq_true rfl) (fill_cons (off := 1) (m := 1) (vs := [_]) rfl rfl rfl (Nat.le_of_ble_eq_true rfl) rfl))) rfl ?_
  refine L_op rfl (op_box rfl rfl rfl (fun B2 => ?_))
  refine L_y rfl (y_assign rfl) rfl ?_
  refine L_nil ?_
  refine C_seq ?_
  refine C_region ?_
  refine L_y rfl (y_move rfl) rfl ?_
  refine L_y rfl (y_move rfl) rfl ?_
  refine L_y rfl (y_nilCheck rfl) rfl ?_
  refine L_y rfl (y_fieldAddr rfl fl_115_3) rfl ?_
  refine L_y rfl (y_load rfl ag_113 (sees 2 0 rfl) rfl) rfl ?_
  refine L_y rfl (y_move rfl) rfl ?_
  refine L_y rfl (y_makeFunc rfl rfl) rfl ?_
  refine L_op rfl (op_buildSlice (vs := [(0, _)]) rfl Try.underlying113 sz_1 zl_1 rfl (by decide) (fill_one rfl rfl rfl) rfl (fun B3 => ?_))
  refine L_op rfl (op_append (gs := none) (len := [].length) (m := 1) (xs := [].map (clos dt)) (vs := [clos dt B2]) 4 rfl rfl rfl ⟨rfl, rfl⟩ (src_slice (sees 0 0 rfl) (Nat.le_of_ble_eq_true rfl) rfl) rfl (fun v hv => by simp at hv; subst hv; rfl) Try.underlying113 ni_113 sz_1 by_1 (by decide) zl_1 rfl (by decide) rfl (fun g' hg' => ?_))
  rw [show [].map (clos dt) ++ [clos dt B2] = ([] ++ [B2]).map (clos dt) from by simp, show [].length + 1 = ([] ++ [B2]).length from by simp] at hg' ⊢
  refine L_y rfl (y_nilCheck rfl) rfl ?_
  refine L_y rfl (y_fieldAddr rfl fl_115_3) rfl ?_
  refine L_op rfl (op_store1 3 0 rfl rfl (one_slV _ _) sz_113 rfl (Nat.le_of_ble_eq_true rfl) ?_)
  refine L_nil ?_
  refine C_seq ?_
  refine C_region ?_
  refine L_y rfl (y_move rfl) rfl ?_
  refine L_y rfl (y_assign rfl) rfl ?_
  refine L_nil ?_
  refine C_ret ?_
  refine B_ret (rv_tmp rfl rv_nil) (hsub_nil2.trans (hsub (.cons _ (.refl _)))) ?_
  refine ⟨pb, B2, B1, g', hg', rfl, ?_⟩
  rw [zsecs]
  unfold opn Dv.o Dv.t Dv.q Dv.cells Dv.new Ab.new szOf
  simp only [List.length_replicate]
  have e0 : (((min (max n 0) 4096).toNat : Nat) : Int) = min (max n 0) 4096 := by omega
  rfl

end Go.Proofs.Ytoaalclbplgegaa
