/- walks (own work; the walks' lines by a program of this repo). -/
import Derived.Test.YtjiojffakejgjaaDaW
import Derived.Test.YtjiojffakejgjaaDuW
import Derived.Test.YtjiojffakejgjaaDx
set_option linter.unusedVariables false
set_option linter.unusedSimpArgs false
set_option maxRecDepth 20000
namespace Go.Proofs.Ytjiojffakejgjaa
open Go.Sl
attribute [local irreducible] BodyQ WpC WpL WpS WpH OpW FnS


theorem out_law {w0 : World} {H : Hp} (n k : Int) (c : UInt8) : FnS Try.prog w0 11 #[.int .i64 n, .int .u8 (c.toNat : Int), .int .i64 k] H (fun e H' => e = .returned (.bool true)) := by
  refine FnS_intro (n := 130) (rs := [.tmp 6]) (vs := [.int .i64 n, .int .u8 (c.toNat : Int), .int .i64 k]) Try.func11 rfl Try.ntmps11 rfl rfl ?_
  refine C_seq ?_
  refine C_region ?_
  refine L_y rfl (y_assign rfl) rfl ?_
  refine L_nil ?_
  refine C_seq ?_
  refine C_seq ?_
  refine C_region ?_
  refine L_op rfl (op_call rfl rfl (fun a w => Try.call20 a w) rfl ?_)
  refine awake08_s.mono ?_
  rintro _ _ ⟨rfl, e⟩
  obtain rfl := e.symm
  refine ⟨_, rfl, ?_⟩
  refine L_y rfl (y_not rfl) rfl ?_
  refine L_nil ?_
  refine C_cond_f rfl ?_
  refine C_skip ?_
  refine C_seq ?_
  refine C_region ?_
  refine L_op rfl (op_call rfl rfl (fun a w => Try.call21 a w) rfl ?_)
  refine newpower_l.mono ?_
  rintro _ _ ⟨p1, hpk1, hdv1, hP1, rfl, rfl⟩
  refine ⟨_, rfl, ?_⟩
  refine L_y rfl (y_assign rfl) rfl ?_
  refine L_nil ?_
  refine C_seq ?_
  refine C_region ?_
  refine L_y rfl (y_move rfl) rfl ?_
  refine L_op rfl (op_call rfl rfl (fun a w => Try.call22 a w) rfl ?_)
  refine ((new_l (H := (H)) (rfl : p1.b = _) hpk1 hdv1 20).sub (hsub_pick [0, 0] rfl)).mono ?_
  rintro _ _ ⟨d91, p91, hG91, pb91, ha91, hq91, rfl, rfl⟩
  have hA91 : d91.a = Ab.new 20 := by rw [ha91] <;> (rfl)
  have hP91 : p91.a = _ := hq91.trans hP1
  have hb91 : d91.b = d91.b := rfl
  refine ⟨_, rfl, ?_⟩
  refine L_y rfl (y_move rfl) rfl ?_
  refine L_op rfl (op_call rfl rfl (fun a w => Try.call22 a w) rfl ?_)
  refine ((newtwo_d hG91 pb91 rfl 20).sub (hsub_pick [0, 0, 0, 0, 0] rfl)).mono ?_
  rintro _ _ ⟨by1, D1, h1, rfl, rfl⟩
  replace h1 := h1.to (B := ⟨(Ab.new 20), (Ab.new 20), q0, none⟩) (by rw [hA91, hP91] <;> (rfl))
  refine ⟨_, rfl, ?_⟩
  refine L_y rfl (y_assign rfl) rfl ?_
  refine L_y rfl (y_assign rfl) rfl ?_
  refine L_nil ?_
  refine C_seq ?_
  refine C_seq ?_
  refine C_region ?_
  refine L_y rfl (y_move rfl) rfl ?_
  refine L_y rfl (y_move rfl) rfl ?_
  refine L_op rfl (op_call rfl rfl (fun a w => Try.call25 a w) rfl ?_)
  refine (sector_s c).mono ?_
  rintro _ _ ⟨rfl, rfl⟩
  refine ⟨_, rfl, ?_⟩
  refine L_op rfl (op_call rfl rfl (fun a w => Try.call24 a w) rfl ?_)
  refine ((write_d h1 false (3) (secOf c) (secOf_len _) (show (_ : Nat) < 100000 from Nat.lt_of_lt_of_le (Nat.lt_succ_self _) (by first | exact (by decide : (1 : Nat) ≤ 100000) | exact (by decide : (2 : Nat) ≤ 100000)))).sub (hsub_pick [0] rfl)).mono ?_
  rintro _ _ ⟨rfl, D2, h2, rfl⟩
  replace h2 := h2.to (B := ⟨(Ab.new 20).push 3 (secOf c), (Ab.new 20), q0, none⟩) (by rfl)
  rw [show Da.wE _ _ (3) = 0 from by rfl]
  refine ⟨_, rfl, ?_⟩
  refine L_y rfl (y_nei rfl rfl) rfl ?_
  refine L_y rfl (y_move rfl) rfl ?_
  refine L_y rfl (y_move rfl) rfl ?_
  refine L_op rfl (op_call rfl rfl (fun a w => Try.call27 a w) rfl ?_)
  refine ((flush_d h2 false).sub (hsub_pick [0] rfl)).mono ?_
  rintro _ _ ⟨rfl, D3, h3, rfl⟩
  replace h3 := h3.to (B := ⟨oF c, (Ab.new 20), q0, none⟩) (by rfl)
  rw [show Da.fE _ _ = 0 from by rfl]
  refine ⟨_, rfl, ?_⟩
  refine L_y rfl (y_nei rfl rfl) rfl ?_
  refine L_y rfl (y_pick_f rfl rfl) rfl ?_
  refine L_y rfl (y_move rfl) rfl ?_
  refine L_y rfl (y_move rfl) rfl ?_
  refine L_y rfl (y_move rfl) rfl ?_
  refine L_op rfl (op_call rfl rfl (fun a w => Try.call25 a w) rfl ?_)
  refine (sector_s c).mono ?_
  rintro _ _ ⟨rfl, rfl⟩
  refine ⟨_, rfl, ?_⟩
  refine L_op rfl (op_call rfl rfl (fun a w => Try.call24 a w) rfl ?_)
  refine ((write_d h3 false (4) (secOf c) (secOf_len _) (show (_ : Nat) < 100000 from Nat.lt_of_lt_of_le (Nat.lt_succ_self _) (by first | exact (by decide : (1 : Nat) ≤ 100000) | exact (by decide : (2 : Nat) ≤ 100000)))).sub (hsub_pick [0] rfl)).mono ?_
  rintro _ _ ⟨rfl, D4, h4, rfl⟩
  replace h4 := h4.to (B := ⟨((oF c).push 4 (secOf c)), (Ab.new 20), q0, none⟩) (by rfl)
  rw [show Da.wE _ _ (4) = 0 from by rfl]
  refine ⟨_, rfl, ?_⟩
  refine L_y rfl (y_nei rfl rfl) rfl ?_
  refine L_y rfl (y_pick_f rfl rfl) rfl ?_
  refine L_nil ?_
  refine C_cond_f rfl ?_
  refine C_skip ?_
  refine C_seq ?_
  refine C_region ?_
  refine L_y rfl (y_move rfl) rfl ?_
  refine L_op rfl (op_call rfl rfl (fun a w => Try.call28 a w) rfl ?_)
  refine ((dump_d h4 false).sub (hsub_pick [0] rfl)).mono ?_
  rintro _ _ ⟨g, hg, rfl, rfl⟩
  rw [show ((_ : Da).dev false).S = oS c from rfl] at hg ⊢
  cases g with
  | none => exact slOk_none hg (by rw [oS_len]; decide)
  | some g => ?_
  refine ⟨_, rfl, ?_⟩
  refine L_y rfl (y_assign rfl) rfl ?_
  refine L_nil ?_
  refine C_seq ?_
  refine C_region ?_
  refine L_y rfl (y_move rfl) rfl ?_
  refine L_op rfl (op_call rfl rfl (fun a w => Try.call37 a w) rfl ?_)
  refine ((out_d h4 false true).sub (hsub_pick [1] rfl)).mono ?_
  rintro _ _ ⟨rfl, D5, h5, rfl⟩
  replace h5 := h5.to (B := ⟨oO c, (Ab.new 20), q0, none⟩) (by rfl)
  refine ⟨_, rfl, ?_⟩
  refine L_nil ?_
  refine C_seq ?_
  refine C_seq ?_
  refine C_region ?_
  refine L_y rfl (y_move rfl) rfl ?_
  refine L_op rfl (op_call rfl rfl (fun a w => Try.call33 a w) rfl ?_)
  refine ((read_d h5 false 3).sub (hsub_pick [0] rfl)).mono ?_
  rintro _ _ ⟨rfl, rfl⟩
  rw [show Da.rS _ _ 3 = secOf 0 from by rfl]
  rw [show Da.rE _ _ 3 = 13 from by rfl]
  refine ⟨_, rfl, ?_⟩
  refine L_y rfl (y_move rfl) rfl ?_
  refine L_y rfl (y_extract rfl rfl) rfl ?_
  refine L_y rfl (y_extract rfl rfl) rfl ?_
  refine L_op rfl (op_alloc zl_44 rfl (fun B1 => ?_))
  refine L_op rfl (op_storeA 0 0 rfl rfl rfl sz_44 (by rw [bs_length, secOf_len]) rfl (bs_one _) (by simp) ?_)
  refine L_y rfl (y_assign rfl) rfl ?_
  refine L_nil ?_
  refine C_seq ?_
  refine C_region ?_
  refine L_y rfl (y_move rfl) rfl ?_
  refine L_y rfl (y_nei rfl rfl) rfl ?_
  refine L_y rfl (y_move rfl) rfl ?_
  refine L_y rfl (y_move rfl) rfl ?_
  refine L_y rfl (y_move rfl) rfl ?_
  refine L_y rfl (y_move rfl) rfl ?_
  refine L_op rfl (op_call rfl rfl (fun a w => Try.call25 a w) rfl ?_)
  refine (sector_s c).mono ?_
  rintro _ _ ⟨rfl, rfl⟩
  refine ⟨_, rfl, ?_⟩
  refine L_op rfl (op_call rfl rfl (fun a w => Try.call24 a w) rfl ?_)
  refine ((write_d h5 false (n) (secOf c) (secOf_len _) (show (_ : Nat) < 100000 from Nat.lt_of_lt_of_le (Nat.lt_succ_self _) (by first | exact (by decide : (1 : Nat) ≤ 100000) | exact (by decide : (2 : Nat) ≤ 100000)))).sub (hsub_pick [1] rfl)).mono ?_
  rintro _ _ ⟨rfl, D6, h6, rfl⟩
  replace h6 := h6.to (B := ⟨oO c, (Ab.new 20), q0, none⟩) (by rfl)
  rw [show Da.wE _ _ (n) = 13 from by rfl]
  refine ⟨_, rfl, ?_⟩
  refine L_y rfl (y_nei rfl rfl) rfl ?_
  refine L_y rfl (y_pick_f rfl rfl) rfl ?_
  refine L_y rfl (y_move rfl) rfl ?_
  refine L_y rfl (y_move rfl) rfl ?_
  refine L_op rfl (op_call rfl rfl (fun a w => Try.call27 a w) rfl ?_)
  refine ((flush_d h6 false).sub (hsub_pick [0] rfl)).mono ?_
  rintro _ _ ⟨rfl, D7, h7, rfl⟩
  replace h7 := h7.to (B := ⟨oO c, (Ab.new 20), q0, none⟩) (by rfl)
  rw [show Da.fE _ _ = 13 from by rfl]
  refine ⟨_, rfl, ?_⟩
  refine L_y rfl (y_nei rfl rfl) rfl ?_
  refine L_y rfl (y_pick_f rfl rfl) rfl ?_
  refine L_y rfl (y_move rfl) rfl ?_
  refine L_y rfl (y_move rfl) rfl ?_
  refine L_op rfl (op_call rfl rfl (fun a w => Try.call29 a w) rfl ?_)
  refine ((waiting_d h7 false).sub (hsub_pick [0] rfl)).mono ?_
  rintro _ _ ⟨rfl, rfl⟩
  refine ⟨_, rfl, ?_⟩
  refine L_y rfl (y_nei rfl rfl) rfl ?_
  refine L_y rfl (y_pick_f rfl rfl) rfl ?_
  refine L_nil ?_
  refine C_cond_f rfl ?_
  refine C_skip ?_
  refine C_seq ?_
  refine C_seq ?_
  refine C_region ?_
  refine L_y rfl (y_move rfl) rfl ?_
  refine L_y rfl (y_move rfl) rfl ?_
  refine L_op rfl (op_call rfl rfl (fun a w => Try.call25 a w) rfl ?_)
  refine (sector_s c).mono ?_
  rintro _ _ ⟨rfl, rfl⟩
  refine ⟨_, rfl, ?_⟩
  refine L_op rfl (op_call rfl rfl (fun a w => Try.call24 a w) rfl ?_)
  refine ((write_d h7 true (5) (secOf c) (secOf_len _) (show (_ : Nat) < 100000 from Nat.lt_of_lt_of_le (Nat.lt_succ_self _) (by first | exact (by decide : (1 : Nat) ≤ 100000) | exact (by decide : (2 : Nat) ≤ 100000)))).sub (hsub_pick [0] rfl)).mono ?_
  rintro _ _ ⟨rfl, D8, h8, rfl⟩
  replace h8 := h8.to (B := ⟨oO c, ((Ab.new 20).push 5 (secOf c)), q0, none⟩) (by rfl)
  rw [show Da.wE _ _ (5) = 0 from by rfl]
  refine ⟨_, rfl, ?_⟩
  refine L_y rfl (y_nei rfl rfl) rfl ?_
  refine L_nil ?_
  refine C_cond_f rfl ?_
  refine C_skip ?_
  refine C_seq ?_
  refine C_region ?_
  refine L_y rfl (y_move rfl) rfl ?_
  refine L_y rfl (y_move rfl) rfl ?_
  refine L_op rfl (op_call rfl rfl (fun a w => Try.call23 a w) rfl ?_)
  refine ((tear_d h8 false k 128).sub (hsub_pick [0] rfl)).mono ?_
  rintro _ _ ⟨rfl, D9, h9, rfl⟩
  replace h9 := h9.to (B := ⟨((oO c).tear k 128), ((Ab.new 20).push 5 (secOf c)), q0, none⟩) (by rfl)
  refine ⟨_, rfl, ?_⟩
  refine L_nil ?_
  refine C_seq ?_
  refine C_region ?_
  refine L_y rfl (y_move rfl) rfl ?_
  refine L_op rfl (op_call rfl rfl (fun a w => Try.call26 a w) rfl ?_)
  refine ((fail_d h9 0 (by decide)).sub (hsub_pick [0] rfl)).mono ?_
  rintro _ _ ⟨rfl, D10, h10, rfl⟩
  replace h10 := h10.to (B := ⟨((oO c).tear k 128), ((Ab.new 20).push 5 (secOf c)), qF, none⟩) (by rfl)
  refine ⟨_, rfl, ?_⟩
  refine L_nil ?_
  refine C_seq ?_
  refine C_seq ?_
  refine C_region ?_
  refine L_y rfl (y_move rfl) rfl ?_
  refine L_op rfl (op_call rfl rfl (fun a w => Try.call27 a w) rfl ?_)
  refine ((flush_d h10 true).sub (hsub_pick [0] rfl)).mono ?_
  rintro _ _ ⟨rfl, D11, h11, rfl⟩
  replace h11 := h11.to (B := ⟨((oO c).tear k 128), ((Ab.new 20).push 5 (secOf c)).cut, qX, none⟩) (by rfl)
  rw [show Da.fE _ _ = 13 from by rfl]
  refine ⟨_, rfl, ?_⟩
  refine L_y rfl (y_nei rfl rfl) rfl ?_
  refine L_y rfl (y_move rfl) rfl ?_
  refine L_y rfl (y_move rfl) rfl ?_
  refine L_op rfl (op_call rfl rfl (fun a w => Try.call28 a w) rfl ?_)
  refine ((dump_d h11 false).sub (hsub_pick [0] rfl)).mono ?_
  rintro _ _ ⟨g2, hg2, rfl, rfl⟩
  rw [show ((_ : Da).dev false).S = oS c from rfl] at hg2 ⊢
  cases g2 with
  | none => exact slOk_none hg2 (by rw [oS_len]; decide)
  | some g2 => ?_
  refine ⟨_, rfl, ?_⟩
  refine L_y rfl (y_move rfl) rfl ?_
  refine L_op rfl (op_call rfl rfl (fun a w => Try.call32 a w) rfl ?_)
  refine (same_s (A := oS c) (B := oS c) (oS_ok c) (oS_ok c) (holds_slice (sees 0 0 rfl) (by simp) (by simp)) (holds_slice (sees 3 0 rfl) (by simp) (by simp)) (by rw [oS_len]; decide)).mono ?_
  rintro _ _ ⟨rfl, rfl⟩
  rw [if_pos rfl]
  refine ⟨_, rfl, ?_⟩
  refine L_y rfl (y_nei rfl rfl) rfl ?_
  refine L_y rfl (y_pick_f rfl rfl) rfl ?_
  refine L_nil ?_
  refine C_cond_f rfl ?_
  refine C_skip ?_
  refine C_seq ?_
  refine C_region ?_
  refine L_y rfl (y_move rfl) rfl ?_
  refine L_op rfl (op_call rfl rfl (fun a w => Try.call34 a w) rfl ?_)
  refine ((restart_d h11).sub (hsub_pick [1] rfl)).mono ?_
  rintro _ _ ⟨rfl, D12, h12, rfl⟩
  replace h12 := h12.to (B := ⟨((oO c).tear k 128), ((Ab.new 20).push 5 (secOf c)).cut, q0, none⟩) (by rfl)
  refine ⟨_, rfl, ?_⟩
  refine L_nil ?_
  refine C_seq ?_
  refine C_seq ?_
  refine C_region ?_
  refine L_y rfl (y_move rfl) rfl ?_
  refine L_op rfl (op_call rfl rfl (fun a w => Try.call33 a w) rfl ?_)
  refine ((read_d h12 false 3).sub (hsub_pick [0] rfl)).mono ?_
  rintro _ _ ⟨rfl, rfl⟩
  rw [show Da.rS _ _ 3 = secOf 0 from by rfl]
  rw [show Da.rE _ _ 3 = 13 from by rfl]
  refine ⟨_, rfl, ?_⟩
  refine L_y rfl (y_move rfl) rfl ?_
  refine L_y rfl (y_extract rfl rfl) rfl ?_
  refine L_y rfl (y_extract rfl rfl) rfl ?_
  refine L_op rfl (op_alloc zl_44 rfl (fun B2 => ?_))
  refine L_op rfl (op_storeA 0 0 rfl rfl rfl sz_44 (by rw [bs_length, secOf_len]) rfl (bs_one _) (by simp) ?_)
  refine L_y rfl (y_assign rfl) rfl ?_
  refine L_nil ?_
  refine C_seq ?_
  refine C_region ?_
  refine L_y rfl (y_move rfl) rfl ?_
  refine L_y rfl (y_nei rfl rfl) rfl ?_
  refine L_nil ?_
  refine C_cond_f rfl ?_
  refine C_skip ?_
  refine C_seq ?_
  refine C_region ?_
  refine L_y rfl (y_move rfl) rfl ?_
  refine L_op rfl (op_call rfl rfl (fun a w => Try.call37 a w) rfl ?_)
  refine ((out_d h12 false false).sub (hsub_pick [1] rfl)).mono ?_
  rintro _ _ ⟨rfl, D13, h13, rfl⟩
  replace h13 := h13.to (B := ⟨((oO c).tear k 128).outs false, ((Ab.new 20).push 5 (secOf c)).cut, q0, none⟩) (by rfl)
  refine ⟨_, rfl, ?_⟩
  refine L_nil ?_
  refine C_seq ?_
  refine C_region ?_
  refine L_y rfl (y_move rfl) rfl ?_
  refine L_op rfl (op_call rfl rfl (fun a w => Try.call33 a w) rfl ?_)
  refine ((read_d h13 false 3).sub (hsub_pick [0] rfl)).mono ?_
  rintro _ _ ⟨rfl, rfl⟩
  rw [show Da.rS _ _ 3 = secOf c from by rfl]
  rw [show Da.rE _ _ 3 = 0 from by rfl]
  refine ⟨_, rfl, ?_⟩
  refine L_y rfl (y_move rfl) rfl ?_
  refine L_y rfl (y_extract rfl rfl) rfl ?_
  refine L_y rfl (y_extract rfl rfl) rfl ?_
  refine L_op rfl (op_alloc zl_44 rfl (fun B3 => ?_))
  refine L_op rfl (op_storeA 0 0 rfl rfl rfl sz_44 (by rw [bs_length, secOf_len]) rfl (bs_one _) (by simp) ?_)
  refine L_y rfl (y_assign rfl) rfl ?_
  refine L_nil ?_
  refine C_seq ?_
  refine C_region ?_
  refine L_y rfl (y_move rfl) rfl ?_
  refine L_op rfl (op_call rfl rfl (fun a w => Try.call33 a w) rfl ?_)
  refine ((read_d h13 false 4).sub (hsub_pick [1] rfl)).mono ?_
  rintro _ _ ⟨rfl, rfl⟩
  rw [show Da.rS _ _ 4 = secOf 0 from by rfl]
  rw [show Da.rE _ _ 4 = 0 from by rfl]
  refine ⟨_, rfl, ?_⟩
  refine L_y rfl (y_move rfl) rfl ?_
  refine L_y rfl (y_extract rfl rfl) rfl ?_
  refine L_y rfl (y_extract rfl rfl) rfl ?_
  refine L_op rfl (op_alloc zl_44 rfl (fun B4 => ?_))
  refine L_op rfl (op_storeA 0 0 rfl rfl rfl sz_44 (by rw [bs_length, secOf_len]) rfl (bs_one _) (by simp) ?_)
  refine L_y rfl (y_assign rfl) rfl ?_
  refine L_nil ?_
  refine C_seq ?_
  refine C_regionH0 (by kernel_rfl) ?_
  refine H_y 0 rfl (by kernel_rfl) (by kernel_rfl) (by kernel_rfl) (HSub.refl _) rfl (y_move rfl) rfl ?_
  refine H_y 1 rfl (by kernel_rfl) (by kernel_rfl) (by kernel_rfl) (HSub.refl _) rfl (y_eqi rfl rfl) rfl ?_
  refine H_y 2 rfl (by kernel_rfl) (by kernel_rfl) (by kernel_rfl) (HSub.refl _) rfl (y_move rfl) rfl ?_
  refine H_y 3 rfl (by kernel_rfl) (by kernel_rfl) (by kernel_rfl) (HSub.refl _) rfl (y_loadA rfl ag_44 sz_44 (sees 2 0 rfl) (by rw [bs_length, secOf_len]; decide) (bs_whole0 _ (secOf_len c))) rfl ?_
  refine H_y 4 rfl (by kernel_rfl) (by kernel_rfl) (by kernel_rfl) (HSub.refl _) rfl (y_move rfl) rfl ?_
  refine H_one 5 rfl (by kernel_rfl) rfl (op_call rfl rfl (fun a w => Try.call25 a w) rfl ?_)
  refine (sector_s c).mono ?_
  rintro _ _ ⟨rfl, rfl⟩
  refine ⟨_, rfl, ?_⟩
  refine ⟨HSub.refl _, ?_⟩
  refine H_y 6 rfl (by kernel_rfl) (by kernel_rfl) (by kernel_rfl) (HSub.refl _) rfl (y_eqa rfl rfl Try.underlying44 Try.underlying5 sz_5 eg_44 (secOf_len c) (secOf_len c)) rfl ?_
  refine H_y 7 rfl (by kernel_rfl) (by kernel_rfl) (by kernel_rfl) (HSub.refl _) rfl (y_pick_t rfl rfl) rfl ?_
  refine H_y 8 rfl (by kernel_rfl) (by kernel_rfl) (by kernel_rfl) (HSub.refl _) rfl (y_move rfl) rfl ?_
  refine H_case 121 rfl (fun hg25_9 => ?_) (fun hg25_9 => ?_)
  · skip
    refine H_y 9 rfl (by kernel_rfl) (by kernel_rfl) (by kernel_rfl) (HSub.refl _) rfl (y_move rfl) rfl ?_
    refine H_y 10 rfl (by kernel_rfl) (by kernel_rfl) (by kernel_rfl) (HSub.refl _) rfl (y_eqi rfl rfl) rfl ?_
    refine H_y 11 rfl (by kernel_rfl) (by kernel_rfl) (by kernel_rfl) (HSub.refl _) rfl (y_pick_t rfl rfl) rfl ?_
    refine H_y 12 rfl (by kernel_rfl) (by kernel_rfl) (by kernel_rfl) (HSub.refl _) rfl (y_move rfl) rfl ?_
    refine H_y 13 rfl (by kernel_rfl) (by kernel_rfl) (by kernel_rfl) (HSub.refl _) rfl (y_loadA rfl ag_44 sz_44 (sees 0 0 rfl) (by rw [bs_length, secOf_len]; decide) (bs_whole0 _ (secOf_len 0))) rfl ?_
    refine H_y 14 rfl (by kernel_rfl) (by kernel_rfl) (by kernel_rfl) (HSub.refl _) rfl (y_buildA0 Try.underlying44 sz_5 zl_44) rfl ?_
    refine H_y 15 rfl (by kernel_rfl) (by kernel_rfl) (by kernel_rfl) (HSub.refl _) rfl (y_eqa rfl rfl Try.underlying44 Try.underlying5 sz_5 eg_44 (secOf_len 0) (secOf_len 0)) rfl ?_
    refine H_y 16 rfl (by kernel_rfl) (by kernel_rfl) (by kernel_rfl) (HSub.refl _) rfl (y_pick_t rfl rfl) rfl ?_
    refine H_y 17 rfl (by kernel_rfl) (by kernel_rfl) (by kernel_rfl) (HSub.refl _) rfl (y_assign rfl) rfl ?_
    refine H_done (by kernel_rfl) ?_
    refine C_ret ?_
    refine B_ret (rv_tmp rfl rv_nil) (HSub.refl _) ?_
    exact ret_bool (by simp)
  · exact absurd hg25_9 (by simp)

end Go.Proofs.Ytjiojffakejgjaa
