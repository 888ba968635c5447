/- walks (own work; the walks' lines by a program of this repo). -/
import Derived.Test.YtjiojffakejgjaaSpW
set_option linter.unusedVariables false
set_option linter.unusedSimpArgs false
set_option maxRecDepth 20000
namespace Go.Proofs.Ytjiojffakejgjaa
open Go.Sl
attribute [local irreducible] BodyQ WpC WpL WpS WpH OpW FnS

theorem cutmod {cut : Int} (h : 0 ≤ cut) : cut.tmod ((14 : Nat) : Int) = ((cut.toNat % 14 : Nat) : Int) := by
  rw [Int.tmod_eq_emod_of_nonneg h]; omega
theorem scodes_over {w0 : World} {H : Hp} (v : Nat) (now : Int) (top : Nat) (hv : v < 18446744073709551616) {a : Option Addr} {cap : Nat} (more : List UInt8) (cut : Int) (hc : 0 ≤ cut) (hc2 : cut < 256) (hm : Src Try.prog w0 H 1 (.slice a more.length cap) more.length (bs more)) (hl : 20 < more.length) : FnS Try.prog w0 3 #[supV v now top, .slice a more.length cap, .int .u8 cut] H (fun e H' => e = .returned (.bool true)) := by
  refine FnS_intro (n := 85) (rs := [.tmp 6]) (vs := [supV v now top, .slice a more.length cap, .int .u8 cut]) Try.func3 rfl Try.ntmps3 rfl rfl ?_
  refine C_seq ?_
  refine C_region ?_
  refine L_op rfl (op_box rfl rfl rfl (fun B1 => ?_))
  refine L_y rfl (y_assign rfl) rfl ?_
  refine L_nil ?_
  refine C_seq ?_
  refine C_seq ?_
  refine C_region ?_
  refine L_op rfl (op_call rfl rfl (fun a w => Try.call14 a w) rfl ?_)
  refine awake16_s.mono ?_
  rintro _ _ ⟨rfl, rfl⟩
  refine ⟨_, rfl, ?_⟩
  refine L_y rfl (y_not rfl) rfl ?_
  refine L_nil ?_
  refine C_cond_f rfl ?_
  refine C_skip ?_
  refine C_seq ?_
  refine C_seq ?_
  refine C_region ?_
  refine L_y rfl (y_move rfl) rfl ?_
  refine L_y rfl (y_lenS rfl rfl Try.underlying25) rfl ?_
  refine L_y rfl (y_gtr rfl rfl) rfl ?_
  refine L_nil ?_
  refine C_cond rfl (fun hc1 => ?_) (fun hc1 => absurd hc1 (by simp <;> omega))
  refine C_seq ?_
  refine C_region ?_
  refine L_y rfl (y_assign rfl) rfl ?_
  refine L_nil ?_
  refine C_ret ?_
  refine B_ret (rv_tmp rfl rv_nil) (HSub.refl _) ?_
  rfl

theorem scodes_not {w0 : World} {H : Hp} (v : Nat) (now : Int) (top : Nat) (hv : v < 18446744073709551616) {a : Option Addr} {cap : Nat} (more : List UInt8) (cut : Int) (hc : 0 ≤ cut) (hc2 : cut < 256) (hm : Src Try.prog w0 H 1 (.slice a more.length cap) more.length (bs more)) (hl : ¬ 20 < more.length) (hmay : mayS now top = false) : FnS Try.prog w0 3 #[supV v now top, .slice a more.length cap, .int .u8 cut] H (fun e H' => e = .returned (.bool true)) := by
  refine FnS_intro (n := 85) (rs := [.tmp 6]) (vs := [supV v now top, .slice a more.length cap, .int .u8 cut]) Try.func3 rfl Try.ntmps3 rfl rfl ?_
  refine C_seq ?_
  refine C_region ?_
  refine L_op rfl (op_box rfl rfl rfl (fun B1 => ?_))
  refine L_y rfl (y_assign rfl) rfl ?_
  refine L_nil ?_
  refine C_seq ?_
  refine C_seq ?_
  refine C_region ?_
  refine L_op rfl (op_call rfl rfl (fun a w => Try.call14 a w) rfl ?_)
  refine awake16_s.mono ?_
  rintro _ _ ⟨rfl, rfl⟩
  refine ⟨_, rfl, ?_⟩
  refine L_y rfl (y_not rfl) rfl ?_
  refine L_nil ?_
  refine C_cond_f rfl ?_
  refine C_skip ?_
  refine C_seq ?_
  refine C_seq ?_
  refine C_region ?_
  refine L_y rfl (y_move rfl) rfl ?_
  refine L_y rfl (y_lenS rfl rfl Try.underlying25) rfl ?_
  refine L_y rfl (y_gtr rfl rfl) rfl ?_
  refine L_nil ?_
  refine C_cond rfl (fun hc1 => absurd hc1 (by simp <;> omega)) (fun hc1 => ?_)
  refine C_skip ?_
  refine C_seq ?_
  refine C_region ?_
  refine L_y rfl (y_loadA rfl ag_24 sz_24 (sees 0 0 rfl) (Nat.le_of_ble_eq_true rfl) rfl) rfl ?_
  refine L_op rfl (op_call rfl rfl (fun a w => Try.call15 a w) rfl ?_)
  refine (encode_no v now top hmay).mono ?_
  rintro _ _ ⟨rfl, rfl⟩
  refine ⟨_, rfl, ?_⟩
  refine L_y rfl (y_assign rfl) rfl ?_
  refine L_nil ?_
  refine C_seq ?_
  refine C_seq ?_
  refine C_region ?_
  refine L_y rfl (y_fieldAddr rfl fl_24_0) rfl ?_
  refine L_y rfl (y_load rfl ag_22 (sees 0 0 rfl) rfl) rfl ?_
  refine L_y rfl (y_fieldAddr rfl fl_24_1) rfl ?_
  refine L_y rfl (y_load rfl ag_3 (sees 0 0 rfl) rfl) rfl ?_
  refine L_y rfl (y_fieldAddr rfl fl_24_2) rfl ?_
  refine L_y rfl (y_load rfl ag_22 (sees 0 0 rfl) rfl) rfl ?_
  refine L_op rfl (op_call rfl rfl (fun a w => Try.call16 a w) rfl ?_)
  refine (rmay_s v now top).mono ?_
  rintro _ _ ⟨rfl, rfl⟩
  rw [hmay]
  refine ⟨_, rfl, ?_⟩
  refine L_y rfl (y_not rfl) rfl ?_
  refine L_nil ?_
  refine C_cond_t rfl ?_
  refine C_seq ?_
  refine C_region ?_
  refine L_y rfl (y_move rfl) rfl ?_
  refine L_y rfl (y_lenS rfl rfl Try.underlying25) rfl ?_
  refine L_y rfl (y_eqi rfl rfl) rfl ?_
  refine L_y rfl (y_assign rfl) rfl ?_
  refine L_nil ?_
  refine C_ret ?_
  refine B_ret (rv_tmp rfl rv_nil) (HSub.refl _) ?_
  rfl

theorem scodes_eq {w0 : World} {H : Hp} (v : Nat) (now : Int) (top : Nat) (hv : v < 18446744073709551616) {a : Option Addr} {cap : Nat} (cut : Int) (hc : 0 ≤ cut) (hc2 : cut < 256) (hm : Src Try.prog w0 H 1 (.slice a 0 cap) 0 []) (hmay : mayS now top = true) : FnS Try.prog w0 3 #[supV v now top, .slice a 0 cap, .int .u8 cut] H (fun e H' => e = .returned (.bool true)) := by
  have hv0 : gOk (enc v now top) = true := by
    obtain ⟨_, h2, _⟩ := d_enc hv hmay
    obtain ⟨_, h1, _⟩ := mayS_spec hmay
    simp only [gOk, decide_eq_true_eq]; omega
  have hdec : (Value.tuple #[supV (gV (enc v now top)) (gN (enc v now top) : Int) (gT (enc v now top)), .bool (gOk (enc v now top))]) = .tuple #[supV v now top, .bool true] := by
    have hd : dN (enc v now top) ≤ 1073741824 := of_decide_eq_true hv0
    obtain ⟨h1, h2, h3⟩ := d_enc hv hmay
    rw [hv0]; simp only [gV, gN, gT, hd, if_true, h1, h2, h3]
  refine FnS_intro (n := 85) (rs := [.tmp 6]) (vs := [supV v now top, .slice a 0 cap, .int .u8 cut]) Try.func3 rfl Try.ntmps3 rfl rfl ?_
  refine C_seq ?_
  refine C_region ?_
  refine L_op rfl (op_box rfl rfl rfl (fun B1 => ?_))
  refine L_y rfl (y_assign rfl) rfl ?_
  refine L_nil ?_
  refine C_seq ?_
  refine C_seq ?_
  refine C_region ?_
  refine L_op rfl (op_call rfl rfl (fun a w => Try.call14 a w) rfl ?_)
  refine awake16_s.mono ?_
  rintro _ _ ⟨rfl, rfl⟩
  refine ⟨_, rfl, ?_⟩
  refine L_y rfl (y_not rfl) rfl ?_
  refine L_nil ?_
  refine C_cond_f rfl ?_
  refine C_skip ?_
  refine C_seq ?_
  refine C_seq ?_
  refine C_region ?_
  refine L_y rfl (y_move rfl) rfl ?_
  refine L_y rfl (y_lenS rfl rfl Try.underlying25) rfl ?_
  refine L_y rfl (y_gtr rfl rfl) rfl ?_
  refine L_nil ?_
  refine C_cond rfl (fun hc1 => absurd hc1 (by simp)) (fun hc1 => ?_)
  refine C_skip ?_
  refine C_seq ?_
  refine C_region ?_
  refine L_y rfl (y_loadA rfl ag_24 sz_24 (sees 0 0 rfl) (Nat.le_of_ble_eq_true rfl) rfl) rfl ?_
  refine L_op rfl (op_call rfl rfl (fun a w => Try.call15 a w) rfl ?_)
  refine (encode_s v now top hv hmay).mono ?_
  rintro _ _ ⟨g, hg, rfl, rfl⟩
  cases g with
  | none => exact slOk_none hg (by decide)
  | some g => ?_
  refine ⟨_, rfl, ?_⟩
  refine L_y rfl (y_assign rfl) rfl ?_
  refine L_nil ?_
  refine C_seq ?_
  refine C_seq ?_
  refine C_region ?_
  refine L_y rfl (y_fieldAddr rfl fl_24_0) rfl ?_
  refine L_y rfl (y_load rfl ag_22 (sees 1 0 rfl) rfl) rfl ?_
  refine L_y rfl (y_fieldAddr rfl fl_24_1) rfl ?_
  refine L_y rfl (y_load rfl ag_3 (sees 1 0 rfl) rfl) rfl ?_
  refine L_y rfl (y_fieldAddr rfl fl_24_2) rfl ?_
  refine L_y rfl (y_load rfl ag_22 (sees 1 0 rfl) rfl) rfl ?_
  refine L_op rfl (op_call rfl rfl (fun a w => Try.call16 a w) rfl ?_)
  refine (rmay_s v now top).mono ?_
  rintro _ _ ⟨rfl, rfl⟩
  rw [hmay]
  refine ⟨_, rfl, ?_⟩
  refine L_y rfl (y_not rfl) rfl ?_
  refine L_nil ?_
  refine C_cond_f rfl ?_
  refine C_skip ?_
  refine C_seq ?_
  refine C_seq ?_
  refine C_regionH0 (by kernel_rfl) ?_
  refine H_y 0 rfl (by kernel_rfl) (by kernel_rfl) (by kernel_rfl) (HSub.refl _) rfl (y_move rfl) rfl ?_
  refine H_y 1 rfl (by kernel_rfl) (by kernel_rfl) (by kernel_rfl) (HSub.refl _) rfl (y_str rfl Try.underlying25 Try.underlying5 Try.underlying9 (sees 0 0 rfl) (by have := hg.1; simp [bs_length, enc_length]) (show _ = bs (enc v now top) from by rw [List.drop_zero, List.take_left' (by simp [bs_length, enc_length])])) rfl ?_
  refine H_y 2 rfl (by kernel_rfl) (by kernel_rfl) (by kernel_rfl) (HSub.refl _) rfl (y_fieldAddr rfl fl_24_0) rfl ?_
  refine H_y 3 rfl (by kernel_rfl) (by kernel_rfl) (by kernel_rfl) (HSub.refl _) rfl (y_load rfl ag_22 (sees 1 0 rfl) rfl) rfl ?_
  refine H_y 4 rfl (by kernel_rfl) (by kernel_rfl) (by kernel_rfl) (HSub.refl _) rfl (y_fieldAddr rfl fl_24_1) rfl ?_
  refine H_y 5 rfl (by kernel_rfl) (by kernel_rfl) (by kernel_rfl) (HSub.refl _) rfl (y_load rfl ag_3 (sees 1 0 rfl) rfl) rfl ?_
  refine H_y 6 rfl (by kernel_rfl) (by kernel_rfl) (by kernel_rfl) (HSub.refl _) rfl (y_fieldAddr rfl fl_24_2) rfl ?_
  refine H_y 7 rfl (by kernel_rfl) (by kernel_rfl) (by kernel_rfl) (HSub.refl _) rfl (y_load rfl ag_22 (sees 1 0 rfl) rfl) rfl ?_
  refine H_one 8 rfl (by kernel_rfl) rfl (op_call rfl rfl (fun a w => Try.call17 a w) rfl ?_)
  refine (rencode_s v now top hv hmay).mono ?_
  rintro _ _ ⟨g2, hg2, rfl, rfl⟩
  cases g2 with
  | none => exact slOk_none hg2 (by decide)
  | some g2 => ?_
  refine ⟨_, rfl, ?_⟩
  refine ⟨hsub (.cons _ (.refl _)), ?_⟩
  refine H_one 9 rfl (by kernel_rfl) rfl (op_y (y_str rfl Try.underlying25 Try.underlying5 Try.underlying9 (sees 0 0 rfl) (by simp [bs_length, enc_length]) (show _ = bs (enc v now top) from by rw [List.drop_zero, List.take_left' (by simp [bs_length, enc_length])])) rfl ?_)
  refine ⟨hsub (.cons _ (.refl _)), ?_⟩
  refine H_y 10 rfl (by kernel_rfl) (by kernel_rfl) (by kernel_rfl) (hsub (.cons _ (.refl _))) rfl (y_nestr rfl rfl) rfl ?_
  refine H_done (by kernel_rfl) ?_
  refine C_cond rfl (fun hc3 => absurd hc3 (by simp)) (fun hc3 => ?_)
  refine C_skip ?_
  refine C_seq ?_
  refine C_region ?_
  refine L_y rfl (y_move rfl) rfl ?_
  refine L_op rfl (op_call rfl rfl (fun a w => Try.call18 a w) rfl ?_)
  refine (decode_s (enc v now top) (sees 1 0 rfl) (show _ = bs (enc v now top) from by rw [List.drop_zero, List.take_left' (by simp [bs_length, enc_length])]) (enc_length v now top) hg.2.2).mono ?_
  rintro _ _ ⟨rfl, rfl⟩
  rw [hdec]
  refine ⟨_, rfl, ?_⟩
  refine L_y rfl (y_move rfl) rfl ?_
  refine L_y rfl (y_extract rfl rfl) rfl ?_
  refine L_y rfl (y_extract rfl rfl) rfl ?_
  refine L_op rfl (op_alloc zl_24 rfl (fun B2 => ?_))
  refine L_op rfl (op_store 0 0 rfl rfl rfl sz_24 rfl rfl (ones rfl) (by decide) ?_)
  skip
  refine L_y rfl (y_assign rfl) rfl ?_
  refine L_nil ?_
  refine C_seq ?_
  refine C_region ?_
  refine L_y rfl (y_move rfl) rfl ?_
  refine L_y rfl (y_move rfl) rfl ?_
  refine L_y rfl (y_conv rfl us_5 Try.underlying3 (wi64 (by omega) (by omega))) rfl ?_
  refine L_y rfl (y_move rfl) rfl ?_
  refine L_y rfl (y_lenS rfl rfl Try.underlying25) rfl ?_
  refine L_y rfl (y_rem rfl rfl (by decide) (show _ = ((cut.toNat % 14 : Nat) : Int) from cutmod hc)) rfl ?_
  refine L_y rfl (y_sliceS_hi rfl rfl Try.underlying25 sz_5 (by omega) (by have := hg.2.2; omega)) rfl ?_
  refine L_op rfl (op_call rfl rfl (fun a w => Try.call18 a w) rfl ?_)
  refine (decode_no (len := (((cut.toNat % 14 : Nat) : Int)).toNat) (by omega)).mono ?_
  rintro _ _ ⟨rfl, rfl⟩
  refine ⟨_, rfl, ?_⟩
  refine L_y rfl (y_move rfl) rfl ?_
  refine L_y rfl (y_extract rfl rfl) rfl ?_
  refine L_y rfl (y_extract rfl rfl) rfl ?_
  refine L_op rfl (op_alloc zl_24 rfl (fun B3 => ?_))
  refine L_op rfl (op_store 0 0 rfl rfl rfl sz_24 rfl rfl (ones rfl) (by decide) ?_)
  skip
  refine L_y rfl (y_assign rfl) rfl ?_
  refine L_nil ?_
  refine C_seq ?_
  refine C_region ?_
  refine L_op rfl (op_buildSlice (vs := []) rfl Try.underlying25 sz_5 zl_5 rfl (by decide) rfl rfl (fun B4 => ?_))
  refine L_y rfl (y_move rfl) rfl ?_
  refine L_op rfl (op_append (gs := some ⟨B4, 0, []⟩) (len := 0) (m := 14) (xs := []) (vs := bs (enc v now top)) 0 rfl rfl rfl ⟨rfl, rfl, Nat.le_refl _⟩ (src_slice (sees 4 0 rfl) (by simp [bs_length, enc_length]) (show _ = bs (enc v now top) from by rw [List.drop_zero, List.take_left' (by simp [bs_length, enc_length])])) (by simp [bs_length, enc_length]) (bs_one _) Try.underlying25 ni_25 sz_5 by_5 (by decide) zl_5 rfl (by decide) rfl (fun g3 hg3 => ?_))
  refine L_y rfl (y_move rfl) rfl ?_
  refine L_op rfl (op_append (gs := g3) (len := 14) (m := 0) (xs := [] ++ bs (enc v now top)) (vs := []) 0 rfl rfl rfl hg3 (hm.up.up.up.up.up.up) rfl (fun v h => nomatch h) Try.underlying25 ni_25 sz_5 by_5 (by decide) zl_5 rfl (by omega) rfl (fun g4 hg4 => ?_))
  cases g4 with
  | none => exact slOk_none hg4 (by decide)
  | some g4 => ?_
  rw [List.append_nil, List.nil_append] at hg4 ⊢
  refine L_op rfl (op_call rfl rfl (fun a w => Try.call18 a w) rfl ?_)
  refine (decode_s (enc v now top) (sees 0 0 rfl) (show _ = bs (enc v now top) from by rw [List.drop_zero, List.take_left' (by simp [bs_length, enc_length])]) (enc_length v now top) (show 14 ≤ g4.cap from hg4.2.2)).mono ?_
  rintro _ _ ⟨rfl, rfl⟩
  rw [hdec]
  refine ⟨_, rfl, ?_⟩
  refine L_y rfl (y_move rfl) rfl ?_
  refine L_y rfl (y_extract rfl rfl) rfl ?_
  refine L_y rfl (y_extract rfl rfl) rfl ?_
  refine L_op rfl (op_alloc zl_24 rfl (fun B5 => ?_))
  refine L_op rfl (op_store 0 0 rfl rfl rfl sz_24 rfl rfl (ones rfl) (by decide) ?_)
  skip
  refine L_y rfl (y_assign rfl) rfl ?_
  refine L_nil ?_
  refine C_seq ?_
  refine C_region ?_
  refine L_y rfl (y_move rfl) rfl ?_
  refine L_y rfl (y_move rfl) rfl ?_
  refine L_y rfl (y_loadA rfl ag_24 sz_24 (sees 3 0 rfl) (Nat.le_of_ble_eq_true rfl) rfl) rfl ?_
  refine L_y rfl (y_loadA rfl ag_24 sz_24 (sees 6 0 rfl) (Nat.le_of_ble_eq_true rfl) rfl) rfl ?_
  refine L_y rfl (y_eqst (xs := [(v : Int), now, (top : Int)]) (ys := [(v : Int), now, (top : Int)]) rfl rfl fi_24 eg_24 rfl rfl) rfl ?_
  refine L_y rfl (y_pick_t rfl rfl) rfl ?_
  refine L_y rfl (y_move rfl) rfl ?_
  refine L_case 74 rfl (fun hg13_7 => ?_) (fun hg13_7 => ?_)
  · skip
    refine L_y rfl (y_move rfl) rfl ?_
    refine L_y rfl (y_not rfl) rfl ?_
    refine L_y rfl (y_pick_t rfl rfl) rfl ?_
    refine L_y rfl (y_move rfl) rfl ?_
    refine L_y rfl (y_move rfl) rfl ?_
    refine L_y rfl (y_move rfl) rfl ?_
    refine L_y rfl (y_lenS rfl rfl Try.underlying25) rfl ?_
    refine L_y rfl (y_eqi rfl rfl) rfl ?_
    refine L_y rfl (y_eqb rfl rfl Try.underlying4) rfl ?_
    refine L_y rfl (y_pick_t rfl rfl) rfl ?_
    refine L_y rfl (y_assign rfl) rfl ?_
    refine L_nil ?_
    refine C_ret ?_
    refine B_ret (rv_tmp rfl rv_nil) (HSub.refl _) ?_
    exact congrArg (fun b => Ending.returned (.bool b)) (by simp)
  · exact absurd hg13_7 (by simp)

theorem scodes_more {w0 : World} {H : Hp} (v : Nat) (now : Int) (top : Nat) (hv : v < 18446744073709551616) {a : Option Addr} {cap : Nat} (more : List UInt8) (cut : Int) (hc : 0 ≤ cut) (hc2 : cut < 256) (hm : Src Try.prog w0 H 1 (.slice a more.length cap) more.length (bs more)) (hl : ¬ 20 < more.length) (hne : more ≠ []) (hmay : mayS now top = true) : FnS Try.prog w0 3 #[supV v now top, .slice a more.length cap, .int .u8 cut] H (fun e H' => e = .returned (.bool true)) := by
  have hv0 : gOk (enc v now top) = true := by
    obtain ⟨_, h2, _⟩ := d_enc hv hmay
    obtain ⟨_, h1, _⟩ := mayS_spec hmay
    simp only [gOk, decide_eq_true_eq]; omega
  have hdec : (Value.tuple #[supV (gV (enc v now top)) (gN (enc v now top) : Int) (gT (enc v now top)), .bool (gOk (enc v now top))]) = .tuple #[supV v now top, .bool true] := by
    have hd : dN (enc v now top) ≤ 1073741824 := of_decide_eq_true hv0
    obtain ⟨h1, h2, h3⟩ := d_enc hv hmay
    rw [hv0]; simp only [gV, gN, gT, hd, if_true, h1, h2, h3]
  refine FnS_intro (n := 85) (rs := [.tmp 6]) (vs := [supV v now top, .slice a more.length cap, .int .u8 cut]) Try.func3 rfl Try.ntmps3 rfl rfl ?_
  refine C_seq ?_
  refine C_region ?_
  refine L_op rfl (op_box rfl rfl rfl (fun B1 => ?_))
  refine L_y rfl (y_assign rfl) rfl ?_
  refine L_nil ?_
  refine C_seq ?_
  refine C_seq ?_
  refine C_region ?_
  refine L_op rfl (op_call rfl rfl (fun a w => Try.call14 a w) rfl ?_)
  refine awake16_s.mono ?_
  rintro _ _ ⟨rfl, rfl⟩
  refine ⟨_, rfl, ?_⟩
  refine L_y rfl (y_not rfl) rfl ?_
  refine L_nil ?_
  refine C_cond_f rfl ?_
  refine C_skip ?_
  refine C_seq ?_
  refine C_seq ?_
  refine C_region ?_
  refine L_y rfl (y_move rfl) rfl ?_
  refine L_y rfl (y_lenS rfl rfl Try.underlying25) rfl ?_
  refine L_y rfl (y_gtr rfl rfl) rfl ?_
  refine L_nil ?_
  refine C_cond rfl (fun hc1 => absurd hc1 (by simp <;> omega)) (fun hc1 => ?_)
  refine C_skip ?_
  refine C_seq ?_
  refine C_region ?_
  refine L_y rfl (y_loadA rfl ag_24 sz_24 (sees 0 0 rfl) (Nat.le_of_ble_eq_true rfl) rfl) rfl ?_
  refine L_op rfl (op_call rfl rfl (fun a w => Try.call15 a w) rfl ?_)
  refine (encode_s v now top hv hmay).mono ?_
  rintro _ _ ⟨g, hg, rfl, rfl⟩
  cases g with
  | none => exact slOk_none hg (by decide)
  | some g => ?_
  refine ⟨_, rfl, ?_⟩
  refine L_y rfl (y_assign rfl) rfl ?_
  refine L_nil ?_
  refine C_seq ?_
  refine C_seq ?_
  refine C_region ?_
  refine L_y rfl (y_fieldAddr rfl fl_24_0) rfl ?_
  refine L_y rfl (y_load rfl ag_22 (sees 1 0 rfl) rfl) rfl ?_
  refine L_y rfl (y_fieldAddr rfl fl_24_1) rfl ?_
  refine L_y rfl (y_load rfl ag_3 (sees 1 0 rfl) rfl) rfl ?_
  refine L_y rfl (y_fieldAddr rfl fl_24_2) rfl ?_
  refine L_y rfl (y_load rfl ag_22 (sees 1 0 rfl) rfl) rfl ?_
  refine L_op rfl (op_call rfl rfl (fun a w => Try.call16 a w) rfl ?_)
  refine (rmay_s v now top).mono ?_
  rintro _ _ ⟨rfl, rfl⟩
  rw [hmay]
  refine ⟨_, rfl, ?_⟩
  refine L_y rfl (y_not rfl) rfl ?_
  refine L_nil ?_
  refine C_cond_f rfl ?_
  refine C_skip ?_
  refine C_seq ?_
  refine C_seq ?_
  refine C_regionH0 (by kernel_rfl) ?_
  refine H_y 0 rfl (by kernel_rfl) (by kernel_rfl) (by kernel_rfl) (HSub.refl _) rfl (y_move rfl) rfl ?_
  refine H_y 1 rfl (by kernel_rfl) (by kernel_rfl) (by kernel_rfl) (HSub.refl _) rfl (y_str rfl Try.underlying25 Try.underlying5 Try.underlying9 (sees 0 0 rfl) (by have := hg.1; simp [bs_length, enc_length]) (show _ = bs (enc v now top) from by rw [List.drop_zero, List.take_left' (by simp [bs_length, enc_length])])) rfl ?_
  refine H_y 2 rfl (by kernel_rfl) (by kernel_rfl) (by kernel_rfl) (HSub.refl _) rfl (y_fieldAddr rfl fl_24_0) rfl ?_
  refine H_y 3 rfl (by kernel_rfl) (by kernel_rfl) (by kernel_rfl) (HSub.refl _) rfl (y_load rfl ag_22 (sees 1 0 rfl) rfl) rfl ?_
  refine H_y 4 rfl (by kernel_rfl) (by kernel_rfl) (by kernel_rfl) (HSub.refl _) rfl (y_fieldAddr rfl fl_24_1) rfl ?_
  refine H_y 5 rfl (by kernel_rfl) (by kernel_rfl) (by kernel_rfl) (HSub.refl _) rfl (y_load rfl ag_3 (sees 1 0 rfl) rfl) rfl ?_
  refine H_y 6 rfl (by kernel_rfl) (by kernel_rfl) (by kernel_rfl) (HSub.refl _) rfl (y_fieldAddr rfl fl_24_2) rfl ?_
  refine H_y 7 rfl (by kernel_rfl) (by kernel_rfl) (by kernel_rfl) (HSub.refl _) rfl (y_load rfl ag_22 (sees 1 0 rfl) rfl) rfl ?_
  refine H_one 8 rfl (by kernel_rfl) rfl (op_call rfl rfl (fun a w => Try.call17 a w) rfl ?_)
  refine (rencode_s v now top hv hmay).mono ?_
  rintro _ _ ⟨g2, hg2, rfl, rfl⟩
  cases g2 with
  | none => exact slOk_none hg2 (by decide)
  | some g2 => ?_
  refine ⟨_, rfl, ?_⟩
  refine ⟨hsub (.cons _ (.refl _)), ?_⟩
  refine H_one 9 rfl (by kernel_rfl) rfl (op_y (y_str rfl Try.underlying25 Try.underlying5 Try.underlying9 (sees 0 0 rfl) (by simp [bs_length, enc_length]) (show _ = bs (enc v now top) from by rw [List.drop_zero, List.take_left' (by simp [bs_length, enc_length])])) rfl ?_)
  refine ⟨hsub (.cons _ (.refl _)), ?_⟩
  refine H_y 10 rfl (by kernel_rfl) (by kernel_rfl) (by kernel_rfl) (hsub (.cons _ (.refl _))) rfl (y_nestr rfl rfl) rfl ?_
  refine H_done (by kernel_rfl) ?_
  refine C_cond rfl (fun hc3 => absurd hc3 (by simp)) (fun hc3 => ?_)
  refine C_skip ?_
  refine C_seq ?_
  refine C_region ?_
  refine L_y rfl (y_move rfl) rfl ?_
  refine L_op rfl (op_call rfl rfl (fun a w => Try.call18 a w) rfl ?_)
  refine (decode_s (enc v now top) (sees 1 0 rfl) (show _ = bs (enc v now top) from by rw [List.drop_zero, List.take_left' (by simp [bs_length, enc_length])]) (enc_length v now top) hg.2.2).mono ?_
  rintro _ _ ⟨rfl, rfl⟩
  rw [hdec]
  refine ⟨_, rfl, ?_⟩
  refine L_y rfl (y_move rfl) rfl ?_
  refine L_y rfl (y_extract rfl rfl) rfl ?_
  refine L_y rfl (y_extract rfl rfl) rfl ?_
  refine L_op rfl (op_alloc zl_24 rfl (fun B2 => ?_))
  refine L_op rfl (op_store 0 0 rfl rfl rfl sz_24 rfl rfl (ones rfl) (by decide) ?_)
  skip
  refine L_y rfl (y_assign rfl) rfl ?_
  refine L_nil ?_
  refine C_seq ?_
  refine C_region ?_
  refine L_y rfl (y_move rfl) rfl ?_
  refine L_y rfl (y_move rfl) rfl ?_
  refine L_y rfl (y_conv rfl us_5 Try.underlying3 (wi64 (by omega) (by omega))) rfl ?_
  refine L_y rfl (y_move rfl) rfl ?_
  refine L_y rfl (y_lenS rfl rfl Try.underlying25) rfl ?_
  refine L_y rfl (y_rem rfl rfl (by decide) (show _ = ((cut.toNat % 14 : Nat) : Int) from cutmod hc)) rfl ?_
  refine L_y rfl (y_sliceS_hi rfl rfl Try.underlying25 sz_5 (by omega) (by have := hg.2.2; omega)) rfl ?_
  refine L_op rfl (op_call rfl rfl (fun a w => Try.call18 a w) rfl ?_)
  refine (decode_no (len := (((cut.toNat % 14 : Nat) : Int)).toNat) (by omega)).mono ?_
  rintro _ _ ⟨rfl, rfl⟩
  refine ⟨_, rfl, ?_⟩
  refine L_y rfl (y_move rfl) rfl ?_
  refine L_y rfl (y_extract rfl rfl) rfl ?_
  refine L_y rfl (y_extract rfl rfl) rfl ?_
  refine L_op rfl (op_alloc zl_24 rfl (fun B3 => ?_))
  refine L_op rfl (op_store 0 0 rfl rfl rfl sz_24 rfl rfl (ones rfl) (by decide) ?_)
  skip
  refine L_y rfl (y_assign rfl) rfl ?_
  refine L_nil ?_
  refine C_seq ?_
  refine C_region ?_
  refine L_op rfl (op_buildSlice (vs := []) rfl Try.underlying25 sz_5 zl_5 rfl (by decide) rfl rfl (fun B4 => ?_))
  refine L_y rfl (y_move rfl) rfl ?_
  refine L_op rfl (op_append (gs := some ⟨B4, 0, []⟩) (len := 0) (m := 14) (xs := []) (vs := bs (enc v now top)) 0 rfl rfl rfl ⟨rfl, rfl, Nat.le_refl _⟩ (src_slice (sees 4 0 rfl) (by simp [bs_length, enc_length]) (show _ = bs (enc v now top) from by rw [List.drop_zero, List.take_left' (by simp [bs_length, enc_length])])) (by simp [bs_length, enc_length]) (bs_one _) Try.underlying25 ni_25 sz_5 by_5 (by decide) zl_5 rfl (by decide) rfl (fun g3 hg3 => ?_))
  refine L_y rfl (y_move rfl) rfl ?_
  refine L_op rfl (op_append (gs := g3) (len := 14) (m := more.length) (xs := [] ++ bs (enc v now top)) (vs := bs more) 0 rfl rfl rfl hg3 (hm.up.up.up.up.up.up) (by simp [bs_length]) (bs_one _) Try.underlying25 ni_25 sz_5 by_5 (by decide) zl_5 rfl (by omega) rfl (fun g4 hg4 => ?_))
  cases g4 with
  | none => exact slOk_none hg4 (by omega)
  | some g4 => ?_
  refine L_op rfl (op_call rfl rfl (fun a w => Try.call18 a w) rfl ?_)
  refine (decode_no (by simpa using hne)).mono ?_
  rintro _ _ ⟨rfl, rfl⟩
  refine ⟨_, rfl, ?_⟩
  refine L_y rfl (y_move rfl) rfl ?_
  refine L_y rfl (y_extract rfl rfl) rfl ?_
  refine L_y rfl (y_extract rfl rfl) rfl ?_
  refine L_op rfl (op_alloc zl_24 rfl (fun B5 => ?_))
  refine L_op rfl (op_store 0 0 rfl rfl rfl sz_24 rfl rfl (ones rfl) (by decide) ?_)
  skip
  refine L_y rfl (y_assign rfl) rfl ?_
  refine L_nil ?_
  refine C_seq ?_
  refine C_region ?_
  refine L_y rfl (y_move rfl) rfl ?_
  refine L_y rfl (y_move rfl) rfl ?_
  refine L_y rfl (y_loadA rfl ag_24 sz_24 (sees 3 0 rfl) (Nat.le_of_ble_eq_true rfl) rfl) rfl ?_
  refine L_y rfl (y_loadA rfl ag_24 sz_24 (sees 6 0 rfl) (Nat.le_of_ble_eq_true rfl) rfl) rfl ?_
  refine L_y rfl (y_eqst (xs := [(v : Int), now, (top : Int)]) (ys := [(v : Int), now, (top : Int)]) rfl rfl fi_24 eg_24 rfl rfl) rfl ?_
  refine L_y rfl (y_pick_t rfl rfl) rfl ?_
  refine L_y rfl (y_move rfl) rfl ?_
  refine L_case 74 rfl (fun hg13_7 => ?_) (fun hg13_7 => ?_)
  · skip
    refine L_y rfl (y_move rfl) rfl ?_
    refine L_y rfl (y_not rfl) rfl ?_
    refine L_y rfl (y_pick_t rfl rfl) rfl ?_
    refine L_y rfl (y_move rfl) rfl ?_
    refine L_y rfl (y_move rfl) rfl ?_
    refine L_y rfl (y_move rfl) rfl ?_
    refine L_y rfl (y_lenS rfl rfl Try.underlying25) rfl ?_
    refine L_y rfl (y_eqi rfl rfl) rfl ?_
    refine L_y rfl (y_eqb rfl rfl Try.underlying4) rfl ?_
    refine L_y rfl (y_pick_t rfl rfl) rfl ?_
    refine L_y rfl (y_assign rfl) rfl ?_
    refine L_nil ?_
    refine C_ret ?_
    refine B_ret (rv_tmp rfl rv_nil) (HSub.refl _) ?_
    exact congrArg (fun b => Ending.returned (.bool b)) (by simp [hne])
  · exact absurd hg13_7 (by simp)

end Go.Proofs.Ytjiojffakejgjaa
