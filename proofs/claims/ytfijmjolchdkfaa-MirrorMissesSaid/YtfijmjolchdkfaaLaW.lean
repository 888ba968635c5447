/- walks (own work; the walks' lines by a program of this repo). -/
import Derived.Test.YtfijmjolchdkfaaGgW
import Derived.Test.YtfijmjolchdkfaaVwW
import Derived.Test.YtfijmjolchdkfaaVnW
import Derived.Test.YtfijmjolchdkfaaVrW
import Derived.Test.YtfijmjolchdkfaaVhW
import Derived.Test.YtfijmjolchdkfaaVdW
import Derived.Test.YtfijmjolchdkfaaSd
set_option linter.unusedVariables false
set_option linter.unusedSimpArgs false
set_option maxRecDepth 20000
namespace Go.Proofs.Ytfijmjolchdkfaa
open Go.Sl
attribute [local irreducible] BodyQ WpC WpL WpS WpH OpW FnS


theorem sector3_s {w0 : World} {H : Hp} (x y : UInt8) : FnS Try.prog w0 20 #[.int .u8 (x.toNat : Int), .int .u8 (y.toNat : Int)] H (fun e H' => e = .returned (.agg (bs (sec3 x y 9)).toArray) ∧ H' = H) := by
  refine FnS_intro (n := 8) (rs := [.cell 4 32]) (vs := [.int .u8 (x.toNat : Int), .int .u8 (y.toNat : Int)]) Try.func20 rfl Try.ntmps20 rfl rfl ?_
  refine C_seq ?_
  refine C_region ?_
  refine L_op rfl (op_alloc zl_32 rfl (fun B1 => ?_))
  refine L_nil ?_
  refine C_seq ?_
  refine C_region ?_
  refine L_y rfl (y_move rfl) rfl ?_
  refine L_y rfl (y_move rfl) rfl ?_
  refine L_y rfl (y_buildA (vs := [(0, _), (1, _), (2, _)]) (l := bs (sec3 x y 9)) rfl Try.underlying32 sz_5 zl_32 (by rw [sec3_fill]; exact (fill_cons (off := 0) (m := 1) (vs := [_]) rfl rfl rfl (Nat.le_of_ble_eq_true rfl) (fill_cons (off := 1) (m := 1) (vs := [_]) rfl rfl rfl (Nat.le_of_ble_eq_true rfl) (fill_cons (off := 2) (m := 1) (vs := [_]) rfl rfl rfl (Nat.le_of_ble_eq_true rfl) rfl))))) rfl ?_
  refine L_op rfl (op_storeA 0 0 rfl rfl rfl sz_32 (by rw [bs_length, sec3_len]) rfl (bs_one _) (by simp) ?_)
  refine L_nil ?_
  refine C_ret ?_
  refine B_ret (rv_cellA rfl ag_32 sz_32 (sees 0 0 rfl) (Nat.le_of_ble_eq_true rfl) rfl rv_nil) (hsub (.cons _ (.refl _))) ?_
  exact ⟨rfl, rfl⟩

theorem awake09_s {w0 : World} {H : Hp} : FnS Try.prog w0 15 #[] H (fun e H' => e = .returned (.bool true) ∧ H' = H) := by
  refine FnS_intro (n := 56) (rs := [.tmp 0]) (vs := []) Try.func15 rfl Try.ntmps15 rfl rfl ?_
  refine C_seq ?_
  refine C_region ?_
  refine L_y rfl (y_assign rfl) rfl ?_
  refine L_nil ?_
  refine C_seq ?_
  refine C_region ?_
  refine L_op rfl (op_call rfl rfl (fun a w => Try.call16 a w) rfl ?_)
  refine (new_ln 5).mono ?_
  rintro _ _ ⟨d91, p91, hG91, ha91, hP91, rfl, rfl⟩
  have hA91 : d91.a = Ab.new 5 := by rw [ha91] <;> (rfl)
  have hb91 : d91.b = d91.b := rfl
  refine ⟨_, rfl, ?_⟩
  refine L_op rfl (op_call rfl rfl (fun a w => Try.call16 a w) rfl ?_)
  refine ((newnil_d hG91 rfl 5).sub (hsub_pick [0, 0, 0, 0, 0] rfl)).mono ?_
  rintro _ _ ⟨by81, D81, h81, rfl, rfl⟩
  replace h81 := h81.to (B := ⟨Ab.new 5, Ab.new 5, q0, some q0⟩) (by rw [hA91, hP91] <;> (rfl))
  have hv1 : Vw ⟨Ab.new 5, Ab.new 5, q0, some q0⟩ 5 (List.replicate 5 (secOf 0)) (List.replicate 5 (secOf 0)) 0 0 := Vw.new (by omega) (some q0) (.inr rfl)
  refine ⟨_, rfl, ?_⟩
  refine L_y rfl (y_assign rfl) rfl ?_
  refine L_y rfl (y_assign rfl) rfl ?_
  refine L_nil ?_
  refine C_seq ?_
  refine C_region ?_
  refine L_y rfl (y_move rfl) rfl ?_
  refine L_y rfl (y_move rfl) rfl ?_
  refine L_op rfl (op_call rfl rfl (fun a w => Try.call17 a w) rfl ?_)
  refine (FnS.sub (hsub_pick [0] rfl) (new_v (f := 18) (cap := []) h81 hv1 (fun s hs => by rw [List.eq_of_mem_replicate hs]; exact secOf_len _) (fun s hs => by rw [List.eq_of_mem_replicate hs]; exact secOf_len _))).mono ?_
  rintro _ _ ⟨mb2, m2, hS2, rfl, rfl⟩
  refine ⟨_, rfl, ?_⟩
  refine L_y rfl (y_assign rfl) rfl ?_
  refine L_nil ?_
  refine C_seq ?_
  refine C_region ?_
  refine L_y rfl (y_move rfl) rfl ?_
  refine L_op rfl (op_call rfl rfl (fun a w => Try.call20 a w) rfl ?_)
  refine (sector3_s 1 0).mono ?_
  rintro _ _ ⟨rfl, e⟩
  obtain rfl := e.symm
  clear e
  refine ⟨_, rfl, ?_⟩
  refine L_op rfl (op_call rfl rfl (fun a w => Try.call19 a w) rfl ?_)
  refine (FnS.sub (hsub_pick [0, 0] rfl) (write_v hS2 (n := 3) (s := (sec3 1 0 9)) (by decide) (sec3_len _ _ _) (by omega) (by omega))).mono ?_
  rintro _ _ ⟨rfl, D3, A3, hS3, rfl⟩
  refine ⟨_, rfl, ?_⟩
  refine L_y rfl (y_assign rfl) rfl ?_
  refine L_nil ?_
  refine C_seq ?_
  refine C_region ?_
  refine L_y rfl (y_move rfl) rfl ?_
  refine L_op rfl (op_call rfl rfl (fun a w => Try.call21 a w) rfl ?_)
  refine (FnS.sub (hsub_pick [0, 0] rfl) (flush_v hS3)).mono ?_
  rintro _ _ ⟨rfl, D4, A4, hS4, rfl⟩
  refine ⟨_, rfl, ?_⟩
  refine L_y rfl (y_assign rfl) rfl ?_
  refine L_nil ?_
  refine C_seq ?_
  refine C_seq ?_
  refine C_region ?_
  refine L_y rfl (y_move rfl) rfl ?_
  refine L_op rfl (op_call rfl rfl (fun a w => Try.call37 a w) rfl ?_)
  refine (FnS.sub (hsub_pick [1] rfl) (rotg_v hS4 false (n := 3) (j := 0) (c := 1) (s := (sec3 1 0 9)) rfl (by decide))).mono ?_
  rintro _ _ ⟨rfl, D5, A5, hS5, rfl⟩
  simp only [Bool.false_eq_true, if_false, if_true] at hS5
  refine ⟨_, rfl, ?_⟩
  refine L_y rfl (y_not rfl) rfl ?_
  refine L_nil ?_
  refine C_cond_f rfl ?_
  refine C_skip ?_
  refine C_seq ?_
  refine C_region ?_
  refine L_y rfl (y_move rfl) rfl ?_
  refine L_op rfl (op_call rfl rfl (fun a w => Try.call22 a w) rfl ?_)
  refine (FnS.sub (hsub_pick [1, 0] rfl) (readg_v hS5 good_at (n := 3) (s := (sec3 0 0 9)) (show _ = some (sec3 0 0 9) from rfl) (t := (sec3 1 0 9)) rfl)).mono ?_
  rintro _ _ ⟨e4, rfl⟩
  rw [show rdv goodP ((3 : Nat) : Int) (sec3 0 0 9) (sec3 1 0 9) = (sec3 1 0 9) from by decide +kernel, show rde goodP ((3 : Nat) : Int) (sec3 0 0 9) (sec3 1 0 9) = 0 from by decide +kernel] at e4
  obtain rfl := e4
  refine ⟨_, rfl, ?_⟩
  refine L_y rfl (y_move rfl) rfl ?_
  refine L_y rfl (y_extract rfl rfl) rfl ?_
  refine L_y rfl (y_extract rfl rfl) rfl ?_
  refine L_op rfl (op_alloc zl_32 rfl (fun B1 => ?_))
  refine L_op rfl (op_storeA 0 0 rfl rfl rfl sz_32 (by rw [bs_length, sec3_len _ _ _]) rfl (bs_one _) (by simp) ?_)
  refine L_y rfl (y_assign rfl) rfl ?_
  refine L_nil ?_
  refine C_seq ?_
  refine C_region ?_
  refine L_y rfl (y_move rfl) rfl ?_
  refine L_op rfl (op_call rfl rfl (fun a w => Try.call23 a w) rfl ?_)
  refine (FnS.sub (hsub_pick [1, 1] rfl) (healg_v hS5 good_at (n := 3) (s := (sec3 0 0 9)) (show _ = some (sec3 0 0 9) from rfl) (t := (sec3 1 0 9)) rfl (by omega) (by omega))).mono ?_
  rintro _ _ ⟨e4, D6, A6, m6, hS6, rfl⟩
  rw [show hC goodP 3 (sec3 0 0 9) (sec3 1 0 9) = 1 from by decide +kernel] at e4
  obtain rfl := e4
  refine ⟨_, rfl, ?_⟩
  refine L_y rfl (y_move rfl) rfl ?_
  refine L_y rfl (y_extract rfl rfl) rfl ?_
  refine L_y rfl (y_extract rfl rfl) rfl ?_
  refine L_y rfl (y_assign rfl) rfl ?_
  refine L_y rfl (y_assign rfl) rfl ?_
  refine L_nil ?_
  refine C_seq ?_
  refine C_regionH0 (by kernel_rfl) ?_
  refine H_y 0 rfl (by kernel_rfl) (by kernel_rfl) (by kernel_rfl) (HSub.refl _) rfl (y_move rfl) rfl ?_
  refine H_y 1 rfl (by kernel_rfl) (by kernel_rfl) (by kernel_rfl) (HSub.refl _) rfl (y_eqi rfl rfl) rfl ?_
  refine H_y 2 rfl (by kernel_rfl) (by kernel_rfl) (by kernel_rfl) (HSub.refl _) rfl (y_move rfl) rfl ?_
  refine H_case 35 rfl (fun hg9_3 => ?_) (fun hg9_3 => ?_)
  · skip
    refine H_y 3 rfl (by kernel_rfl) (by kernel_rfl) (by kernel_rfl) (HSub.refl _) rfl (y_move rfl) rfl ?_
    refine H_y 4 rfl (by kernel_rfl) (by kernel_rfl) (by kernel_rfl) (HSub.refl _) rfl (y_eqi rfl rfl) rfl ?_
    refine H_y 5 rfl (by kernel_rfl) (by kernel_rfl) (by kernel_rfl) (HSub.refl _) rfl (y_pick_t rfl rfl) rfl ?_
    refine H_y 6 rfl (by kernel_rfl) (by kernel_rfl) (by kernel_rfl) (HSub.refl _) rfl (y_move rfl) rfl ?_
    refine H_case 39 rfl (fun hg9_7 => ?_) (fun hg9_7 => ?_)
    · skip
      refine H_y 7 rfl (by kernel_rfl) (by kernel_rfl) (by kernel_rfl) (HSub.refl _) rfl (y_move rfl) rfl ?_
      refine H_y 8 rfl (by kernel_rfl) (by kernel_rfl) (by kernel_rfl) (HSub.refl _) rfl (y_eqi rfl rfl) rfl ?_
      refine H_y 9 rfl (by kernel_rfl) (by kernel_rfl) (by kernel_rfl) (HSub.refl _) rfl (y_pick_t rfl rfl) rfl ?_
      refine H_y 10 rfl (by kernel_rfl) (by kernel_rfl) (by kernel_rfl) (HSub.refl _) rfl (y_move rfl) rfl ?_
      refine H_case 43 rfl (fun hg9_11 => ?_) (fun hg9_11 => ?_)
      · skip
        refine H_y 11 rfl (by kernel_rfl) (by kernel_rfl) (by kernel_rfl) (HSub.refl _) rfl (y_move rfl) rfl ?_
        refine H_y 12 rfl (by kernel_rfl) (by kernel_rfl) (by kernel_rfl) (HSub.refl _) rfl (y_eqi rfl rfl) rfl ?_
        refine H_y 13 rfl (by kernel_rfl) (by kernel_rfl) (by kernel_rfl) (HSub.refl _) rfl (y_pick_t rfl rfl) rfl ?_
        refine H_y 14 rfl (by kernel_rfl) (by kernel_rfl) (by kernel_rfl) (HSub.refl _) rfl (y_move rfl) rfl ?_
        refine H_case 47 rfl (fun hg9_15 => ?_) (fun hg9_15 => ?_)
        · skip
          refine H_y 15 rfl (by kernel_rfl) (by kernel_rfl) (by kernel_rfl) (HSub.refl _) rfl (y_loadA rfl ag_32 sz_32 (sees 2 0 rfl) (by rw [bs_length, sec3_len _ _ _]; decide) (bs_whole0 _ (sec3_len _ _ _))) rfl ?_
          refine H_one 16 rfl (by kernel_rfl) rfl (op_call rfl rfl (fun a w => Try.call20 a w) rfl ?_)
          refine (sector3_s 1 0).mono ?_
          rintro _ _ ⟨rfl, e⟩
          obtain rfl := e.symm
          clear e
          refine ⟨_, rfl, ?_⟩
          refine ⟨HSub.refl _, ?_⟩
          refine H_y 17 rfl (by kernel_rfl) (by kernel_rfl) (by kernel_rfl) (HSub.refl _) rfl (y_eqa rfl rfl Try.underlying32 Try.underlying5 sz_5 eg_32 (sec3_len _ _ _) (sec3_len _ _ _)) rfl ?_
          refine H_y 18 rfl (by kernel_rfl) (by kernel_rfl) (by kernel_rfl) (HSub.refl _) rfl (y_pick_t rfl rfl) rfl ?_
          refine H_y 19 rfl (by kernel_rfl) (by kernel_rfl) (by kernel_rfl) (HSub.refl _) rfl (y_move rfl) rfl ?_
          refine H_case 52 rfl (fun hg9_20 => ?_) (fun hg9_20 => ?_)
          · skip
            refine H_y 20 rfl (by kernel_rfl) (by kernel_rfl) (by kernel_rfl) (HSub.refl _) rfl (y_move rfl) rfl ?_
            refine H_y 21 rfl (by kernel_rfl) (by kernel_rfl) (by kernel_rfl) (HSub.refl _) rfl (y_eqi rfl rfl) rfl ?_
            refine H_y 22 rfl (by kernel_rfl) (by kernel_rfl) (by kernel_rfl) (HSub.refl _) rfl (y_pick_t rfl rfl) rfl ?_
            refine H_y 23 rfl (by kernel_rfl) (by kernel_rfl) (by kernel_rfl) (HSub.refl _) rfl (y_assign rfl) rfl ?_
            refine H_done (by kernel_rfl) ?_
            refine C_ret ?_
            refine B_ret (rv_tmp rfl rv_nil) (hsub (.cons _ (.cons _ (.cons _ (.refl _))))) ?_
            exact ⟨ret_bool (by simp), rfl⟩
          · exact absurd hg9_20 (by simp)
        · exact absurd hg9_15 (by simp)
      · exact absurd hg9_11 (by simp)
    · exact absurd hg9_7 (by simp)
  · exact absurd hg9_3 (by simp)

end Go.Proofs.Ytfijmjolchdkfaa
