/- walks (own work; the walks' lines by a program of this repo). -/
import Derived.Test.YtjiojffakejgjaaDlW
set_option linter.unusedVariables false
set_option linter.unusedSimpArgs false
set_option maxRecDepth 20000
namespace Go.Proofs.Ytjiojffakejgjaa
open Go.Sl
attribute [local irreducible] BodyQ WpC WpL WpS WpH OpW FnS


theorem awake08_s {w0 : World} {H : Hp} : FnS Try.prog w0 20 #[] H (fun e H' => e = .returned (.bool true) ∧ H' = H) := by
  refine FnS_intro (n := 71) (rs := [.tmp 0]) (vs := []) Try.func20 rfl Try.ntmps20 rfl rfl ?_
  refine C_seq ?_
  refine C_region ?_
  refine L_y rfl (y_assign rfl) rfl ?_
  refine L_nil ?_
  refine C_seq ?_
  refine C_region ?_
  refine L_op rfl (op_call rfl rfl (fun a w => Try.call21 a w) rfl ?_)
  refine newpower_l.mono ?_
  rintro _ _ ⟨p1, hpk1, hdv1, hP1, rfl, rfl⟩
  refine ⟨_, rfl, ?_⟩
  refine L_y rfl (y_assign rfl) rfl ?_
  refine L_nil ?_
  refine C_seq ?_
  refine C_region ?_
  refine L_y rfl (y_move rfl) rfl ?_
  refine L_op rfl (op_call rfl rfl (fun a w => Try.call22 a w) rfl ?_)
  refine ((new_l (H := (H)) (rfl : p1.b = _) hpk1 hdv1 4).sub (hsub_pick [0, 0] rfl)).mono ?_
  rintro _ _ ⟨d2, p2, hG2, pb2, ha2, hq2, rfl, rfl⟩
  have hA2 : d2.a = Ab.new 4 := by rw [ha2] <;> (rfl)
  have hP2 : p2.a = _ := hq2.trans hP1
  have hb2 : d2.b = d2.b := rfl
  refine ⟨_, rfl, ?_⟩
  refine L_y rfl (y_assign rfl) rfl ?_
  refine L_nil ?_
  refine C_seq ?_
  refine C_seq ?_
  refine C_region ?_
  refine L_y rfl (y_move rfl) rfl ?_
  refine L_y rfl (y_eqp rfl rfl Try.underlying36) rfl ?_
  refine L_y rfl (y_move rfl) rfl ?_
  refine L_y rfl (y_move rfl) rfl ?_
  refine L_y rfl (y_eqp rfl rfl Try.underlying38) rfl ?_
  refine L_y rfl (y_pick_f rfl rfl) rfl ?_
  refine L_nil ?_
  refine C_cond_f rfl ?_
  refine C_skip ?_
  refine C_seq ?_
  refine C_region ?_
  refine L_y rfl (y_move rfl) rfl ?_
  refine L_op rfl (op_call rfl rfl (fun a w => Try.call25 a w) rfl ?_)
  refine (sector_s 1).mono ?_
  rintro _ _ ⟨rfl, rfl⟩
  refine ⟨_, rfl, ?_⟩
  refine L_op rfl (op_call rfl rfl (fun a w => Try.call24 a w) rfl ?_)
  refine ((write_1 (H := (H)) hG2 hb2 0 (secOf 1) (secOf_len _) (by rw [hA2]; decide)).sub (hsub_pick [0, 0, 0, 0, 0] rfl)).mono ?_
  rintro _ _ ⟨rfl, d3, p3, hG3, hb3, ha3, hpb3, hq3, rfl⟩
  have hA3 : d3.a = (Ab.new 4).push 0 (secOf 1) := by rw [ha3, hA2, hP2] <;> (rfl)
  have hP3 : p3.a = ⟨false, 0, false⟩ := by rw [hq3, hA2, hP2] <;> (rfl)
  have pb3 := hpb3.trans pb2
  rw [show writeE d2.a p2.a 0 = 0 from by rw [hA2, hP2] <;> (rfl)]
  refine ⟨_, rfl, ?_⟩
  refine L_y rfl (y_move rfl) rfl ?_
  refine L_op rfl (op_call rfl rfl (fun a w => Try.call25 a w) rfl ?_)
  refine (sector_s 2).mono ?_
  rintro _ _ ⟨rfl, rfl⟩
  refine ⟨_, rfl, ?_⟩
  refine L_op rfl (op_call rfl rfl (fun a w => Try.call24 a w) rfl ?_)
  refine ((write_1 (H := (H)) hG3 hb3 1 (secOf 2) (secOf_len _) (by rw [hA3]; decide)).sub (hsub_pick [0, 0, 0, 0, 0] rfl)).mono ?_
  rintro _ _ ⟨rfl, d4, p4, hG4, hb4, ha4, hpb4, hq4, rfl⟩
  have hA4 : d4.a = ((Ab.new 4).push 0 (secOf 1)).push 1 (secOf 2) := by rw [ha4, hA3, hP3] <;> (rfl)
  have hP4 : p4.a = ⟨false, 0, false⟩ := by rw [hq4, hA3, hP3] <;> (rfl)
  have pb4 := hpb4.trans pb3
  rw [show writeE d3.a p3.a 1 = 0 from by rw [hA3, hP3] <;> (rfl)]
  refine ⟨_, rfl, ?_⟩
  refine L_y rfl (y_assign rfl) rfl ?_
  refine L_y rfl (y_assign rfl) rfl ?_
  refine L_nil ?_
  refine C_seq ?_
  refine C_region ?_
  refine L_y rfl (y_move rfl) rfl ?_
  refine L_op rfl (op_call rfl rfl (fun a w => Try.call23 a w) rfl ?_)
  refine ((tear_l (H := (H)) (L := []) (R := []) hG4 hb4 1 2).sub (hsub_pick [0, 0, 0, 0, 0] rfl)).mono ?_
  rintro _ _ ⟨rfl, d5, hG5, hb5, ha5, rfl⟩
  have hA5 : d5.a = (((Ab.new 4).push 0 (secOf 1)).push 1 (secOf 2)).tear 1 2 := by rw [ha5, hA4] <;> (rfl)
  refine ⟨_, rfl, ?_⟩
  refine L_nil ?_
  refine C_seq ?_
  refine C_region ?_
  refine L_y rfl (y_move rfl) rfl ?_
  refine L_op rfl (op_call rfl rfl (fun a w => Try.call26 a w) rfl ?_)
  refine ((fail_l (H := (H)) (L := []) (R := []) hG5 pb4 0 (by decide)).sub (hsub_pick [0, 0, 0, 0, 0] rfl)).mono ?_
  rintro _ _ ⟨rfl, p6, hG6, pb6, hq6, rfl⟩
  have hP6 : p6.a = ⟨false, 0, true⟩ := by rw [hq6, hP4] <;> (rfl)
  refine ⟨_, rfl, ?_⟩
  refine L_nil ?_
  refine C_seq ?_
  refine C_region ?_
  refine L_y rfl (y_move rfl) rfl ?_
  refine L_op rfl (op_call rfl rfl (fun a w => Try.call27 a w) rfl ?_)
  refine ((flush_1 (H := (H)) hG6 hb5).sub (hsub_pick [0, 0, 0, 0, 0] rfl)).mono ?_
  rintro _ _ ⟨rfl, d7, p7, hG7, hb7, ha7, hpb7, hq7, rfl⟩
  have hA7 : d7.a = ((((Ab.new 4).push 0 (secOf 1)).push 1 (secOf 2)).tear 1 2).cut := by rw [ha7, hA5, hP6] <;> (rfl)
  have hP7 : p7.a = ⟨true, 0, false⟩ := by rw [hq7, hA5, hP6] <;> (rfl)
  have pb7 := hpb7.trans pb6
  rw [show flushE d5.a p6.a = 13 from by rw [hA5, hP6] <;> (rfl)]
  refine ⟨_, rfl, ?_⟩
  refine L_y rfl (y_assign rfl) rfl ?_
  refine L_nil ?_
  refine C_seq ?_
  refine C_region ?_
  refine L_y rfl (y_move rfl) rfl ?_
  refine L_op rfl (op_call rfl rfl (fun a w => Try.call28 a w) rfl ?_)
  refine (dump_l hb7 hG7.dok.1 (sees 0 0 rfl) (sees 1 0 rfl)).mono ?_
  rintro _ _ ⟨g, hg, rfl, rfl⟩
  have hS8 : d7.a.S = awS := by rw [hA7] <;> (rfl)
  rw [show d7.a.S.length = (awS).length from by rw [hS8], hS8] at hg
  rw [show slSeg _ g (bs d7.a.S.flatten) = slSeg _ g (bs (awS).flatten) from by rw [hS8], show slV g d7.a.S.length = slV g (awS).length from by rw [hS8]]
  cases g with
  | none => exact slOk_none hg (by decide)
  | some g => ?_
  refine ⟨_, rfl, ?_⟩
  refine L_y rfl (y_assign rfl) rfl ?_
  refine L_nil ?_
  refine C_seq ?_
  refine C_regionH0 (by kernel_rfl) ?_
  refine H_y 0 rfl (by kernel_rfl) (by kernel_rfl) (by kernel_rfl) (HSub.refl _) rfl (y_move rfl) rfl ?_
  refine H_y 1 rfl (by kernel_rfl) (by kernel_rfl) (by kernel_rfl) (HSub.refl _) rfl (y_eqi rfl rfl) rfl ?_
  refine H_y 2 rfl (by kernel_rfl) (by kernel_rfl) (by kernel_rfl) (HSub.refl _) rfl (y_move rfl) rfl ?_
  refine H_y 3 rfl (by kernel_rfl) (by kernel_rfl) (by kernel_rfl) (HSub.refl _) rfl (y_move rfl) rfl ?_
  refine H_y 4 rfl (by kernel_rfl) (by kernel_rfl) (by kernel_rfl) (HSub.refl _) rfl (y_eqi rfl rfl) rfl ?_
  refine H_y 5 rfl (by kernel_rfl) (by kernel_rfl) (by kernel_rfl) (HSub.refl _) rfl (y_pick_t rfl rfl) rfl ?_
  refine H_y 6 rfl (by kernel_rfl) (by kernel_rfl) (by kernel_rfl) (HSub.refl _) rfl (y_move rfl) rfl ?_
  refine H_y 7 rfl (by kernel_rfl) (by kernel_rfl) (by kernel_rfl) (HSub.refl _) rfl (y_move rfl) rfl ?_
  refine H_y 8 rfl (by kernel_rfl) (by kernel_rfl) (by kernel_rfl) (HSub.refl _) rfl (y_eqi rfl rfl) rfl ?_
  refine H_y 9 rfl (by kernel_rfl) (by kernel_rfl) (by kernel_rfl) (HSub.refl _) rfl (y_pick_t rfl rfl) rfl ?_
  refine H_y 10 rfl (by kernel_rfl) (by kernel_rfl) (by kernel_rfl) (HSub.refl _) rfl (y_move rfl) rfl ?_
  refine H_y 11 rfl (by kernel_rfl) (by kernel_rfl) (by kernel_rfl) (HSub.refl _) rfl (y_move rfl) rfl ?_
  refine H_one 12 rfl (by kernel_rfl) rfl (op_call rfl rfl (fun a w => Try.call30 a w) rfl ?_)
  refine (on_l pb7 (sees 4 0 rfl)).mono ?_
  rintro _ _ ⟨rfl, rfl⟩
  rw [show (!p7.a.off) = false from by rw [hP7] <;> (rfl)]
  refine ⟨_, rfl, ?_⟩
  refine ⟨HSub.refl _, ?_⟩
  refine H_y 13 rfl (by kernel_rfl) (by kernel_rfl) (by kernel_rfl) (HSub.refl _) rfl (y_not rfl) rfl ?_
  refine H_y 14 rfl (by kernel_rfl) (by kernel_rfl) (by kernel_rfl) (HSub.refl _) rfl (y_pick_t rfl rfl) rfl ?_
  refine H_y 15 rfl (by kernel_rfl) (by kernel_rfl) (by kernel_rfl) (HSub.refl _) rfl (y_move rfl) rfl ?_
  refine H_y 16 rfl (by kernel_rfl) (by kernel_rfl) (by kernel_rfl) (HSub.refl _) rfl (y_move rfl) rfl ?_
  refine H_y 17 rfl (by kernel_rfl) (by kernel_rfl) (by kernel_rfl) (HSub.refl _) rfl (y_lenS rfl rfl Try.underlying48) rfl ?_
  refine H_y 18 rfl (by kernel_rfl) (by kernel_rfl) (by kernel_rfl) (HSub.refl _) rfl (y_eqi rfl rfl) rfl ?_
  refine H_y 19 rfl (by kernel_rfl) (by kernel_rfl) (by kernel_rfl) (HSub.refl _) rfl (y_pick_t rfl rfl) rfl ?_
  refine H_y 20 rfl (by kernel_rfl) (by kernel_rfl) (by kernel_rfl) (HSub.refl _) rfl (y_move rfl) rfl ?_
  refine H_y 21 rfl (by kernel_rfl) (by kernel_rfl) (by kernel_rfl) (HSub.refl _) rfl (y_move rfl) rfl ?_
  refine H_y 22 rfl (by kernel_rfl) (by kernel_rfl) (by kernel_rfl) (HSub.refl _) rfl (y_indexS rfl rfl Try.underlying48 sz_44 (by omega) (by decide) rfl) rfl ?_
  refine H_y 23 rfl (by kernel_rfl) (by kernel_rfl) (by kernel_rfl) (HSub.refl _) rfl (y_loadA rfl ag_44 sz_44 (sees 0 0 rfl) (by rw [List.length_append, bs_length, awS_len]; omega) (sec_at (off := 0) (i := 0) (n := 0) (A := awS) awS_ok (by simp) rfl)) rfl ?_
  refine H_one 24 rfl (by kernel_rfl) rfl (op_call rfl rfl (fun a w => Try.call25 a w) rfl ?_)
  refine (sector_s 1).mono ?_
  rintro _ _ ⟨rfl, rfl⟩
  refine ⟨_, rfl, ?_⟩
  refine ⟨HSub.refl _, ?_⟩
  refine H_y 25 rfl (by kernel_rfl) (by kernel_rfl) (by kernel_rfl) (HSub.refl _) rfl (y_eqa rfl rfl Try.underlying44 Try.underlying5 sz_5 eg_44 (secOf_len 1) (secOf_len 1)) rfl ?_
  refine H_y 26 rfl (by kernel_rfl) (by kernel_rfl) (by kernel_rfl) (HSub.refl _) rfl (y_pick_t rfl rfl) rfl ?_
  refine H_y 27 rfl (by kernel_rfl) (by kernel_rfl) (by kernel_rfl) (HSub.refl _) rfl (y_move rfl) rfl ?_
  refine H_y 28 rfl (by kernel_rfl) (by kernel_rfl) (by kernel_rfl) (HSub.refl _) rfl (y_move rfl) rfl ?_
  refine H_y 29 rfl (by kernel_rfl) (by kernel_rfl) (by kernel_rfl) (HSub.refl _) rfl (y_indexS rfl rfl Try.underlying48 sz_44 (by omega) (by decide) rfl) rfl ?_
  refine H_y 30 rfl (by kernel_rfl) (by kernel_rfl) (by kernel_rfl) (HSub.refl _) rfl (y_indexA rfl rfl Try.underlying44 sz_5 (by omega) (by omega) rfl) rfl ?_
  refine H_y 31 rfl (by kernel_rfl) (by kernel_rfl) (by kernel_rfl) (HSub.refl _) rfl (y_load rfl ag_5 (sees 0 0 rfl) (show _ = some (u8 2) from by rw [List.getElem?_append_left (by rw [bs_length, awS_len]; decide)]; rfl)) rfl ?_
  refine H_y 32 rfl (by kernel_rfl) (by kernel_rfl) (by kernel_rfl) (HSub.refl _) rfl (y_eqi rfl rfl) rfl ?_
  refine H_y 33 rfl (by kernel_rfl) (by kernel_rfl) (by kernel_rfl) (HSub.refl _) rfl (y_pick_t rfl rfl) rfl ?_
  refine H_y 34 rfl (by kernel_rfl) (by kernel_rfl) (by kernel_rfl) (HSub.refl _) rfl (y_move rfl) rfl ?_
  refine H_y 35 rfl (by kernel_rfl) (by kernel_rfl) (by kernel_rfl) (HSub.refl _) rfl (y_move rfl) rfl ?_
  refine H_y 36 rfl (by kernel_rfl) (by kernel_rfl) (by kernel_rfl) (HSub.refl _) rfl (y_indexS rfl rfl Try.underlying48 sz_44 (by omega) (by decide) rfl) rfl ?_
  refine H_y 37 rfl (by kernel_rfl) (by kernel_rfl) (by kernel_rfl) (HSub.refl _) rfl (y_indexA rfl rfl Try.underlying44 sz_5 (by omega) (by omega) rfl) rfl ?_
  refine H_y 38 rfl (by kernel_rfl) (by kernel_rfl) (by kernel_rfl) (HSub.refl _) rfl (y_load rfl ag_5 (sees 0 0 rfl) (show _ = some (u8 0) from by rw [List.getElem?_append_left (by rw [bs_length, awS_len]; decide)]; rfl)) rfl ?_
  refine H_y 39 rfl (by kernel_rfl) (by kernel_rfl) (by kernel_rfl) (HSub.refl _) rfl (y_eqi rfl rfl) rfl ?_
  refine H_y 40 rfl (by kernel_rfl) (by kernel_rfl) (by kernel_rfl) (HSub.refl _) rfl (y_pick_t rfl rfl) rfl ?_
  refine H_y 41 rfl (by kernel_rfl) (by kernel_rfl) (by kernel_rfl) (HSub.refl _) rfl (y_assign rfl) rfl ?_
  refine H_done (by kernel_rfl) ?_
  refine C_ret ?_
  refine B_ret (rv_tmp rfl rv_nil) (hsub (.cons _ (.cons _ (.cons _ (.cons _ (.cons _ (.cons _ (.refl _)))))))) ?_
  exact ⟨rfl, rfl⟩

end Go.Proofs.Ytjiojffakejgjaa
