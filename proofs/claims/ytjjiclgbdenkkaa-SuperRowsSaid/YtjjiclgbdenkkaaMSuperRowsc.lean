/- Own work: texts SpW, put together. -/
import Derived.Test.YtjjiclgbdenkkaaMSuperRowsb
/- walks (own work; the walks' lines by a program of this repo). -/
set_option linter.unusedVariables false
set_option linter.unusedSimpArgs false
set_option maxRecDepth 20000
namespace Go.Proofs.Ytjjiclgbdenkkaa
open Go.Sl
attribute [local irreducible] BodyQ WpC WpL WpS WpH OpW FnS


theorem may_s {w0 : World} {H : Hp} (v : Nat) (now : Int) (top : Nat) : FnS Try.prog w0 74 #[supV v now top] H (fun e H' => e = .returned (.bool (mayS now top)) ∧ H' = H) := by
  refine FnS_intro (n := 16) (rs := [.tmp 2]) (vs := [supV v now top]) Try.func74 rfl Try.ntmps74 rfl rfl ?_
  refine C_seq ?_
  refine C_region ?_
  refine L_op rfl (op_box rfl rfl rfl (fun B1 => ?_))
  refine L_y rfl (y_assign rfl) rfl ?_
  refine L_nil ?_
  refine C_seq ?_
  refine C_region ?_
  refine L_y rfl (y_fieldAddr rfl fl_70_1) rfl ?_
  refine L_y rfl (y_load rfl ag_3 (sees 0 0 rfl) rfl) rfl ?_
  refine L_y rfl (y_geq rfl rfl) rfl ?_
  refine L_y rfl (y_move rfl) rfl ?_
  refine L_case 6 rfl (fun hg1_4 => ?_) (fun hg1_4 => ?_)
  · skip
    refine L_y rfl (y_fieldAddr rfl fl_70_1) rfl ?_
    refine L_y rfl (y_load rfl ag_3 (sees 0 0 rfl) rfl) rfl ?_
    refine L_y rfl (y_leq rfl rfl) rfl ?_
    refine L_y rfl (y_pick_t rfl rfl) rfl ?_
    refine L_y rfl (y_move rfl) rfl ?_
    refine L_case 11 rfl (fun hg1_9 => ?_) (fun hg1_9 => ?_)
    · skip
      refine L_y rfl (y_fieldAddr rfl fl_70_2) rfl ?_
      refine L_y rfl (y_load rfl ag_68 (sees 0 0 rfl) rfl) rfl ?_
      refine L_y rfl (y_leq rfl rfl) rfl ?_
      refine L_y rfl (y_pick_t rfl rfl) rfl ?_
      refine L_y rfl (y_assign rfl) rfl ?_
      refine L_nil ?_
      refine C_ret ?_
      refine B_ret (rv_tmp rfl rv_nil) (hsub (.cons _ (.refl _))) ?_
      refine ⟨congrArg (fun b => Ending.returned (.bool b)) ?_, rfl⟩
      rw [Bool.eq_iff_iff]
      simp only [decide_eq_true_eq, decide_eq_false_iff_not] at *
      simp [mayS]
      omega
    · skip
      refine L_skip rfl rfl ?_
      refine L_skip rfl rfl ?_
      refine L_skip rfl rfl ?_
      refine L_y rfl (y_pick_f rfl rfl) rfl ?_
      refine L_y rfl (y_assign rfl) rfl ?_
      refine L_nil ?_
      refine C_ret ?_
      refine B_ret (rv_tmp rfl rv_nil) (hsub (.cons _ (.refl _))) ?_
      refine ⟨congrArg (fun b => Ending.returned (.bool b)) ?_, rfl⟩
      rw [Bool.eq_iff_iff]
      simp only [decide_eq_true_eq, decide_eq_false_iff_not] at *
      simp [mayS]
      omega
  · skip
    refine L_skip rfl rfl ?_
    refine L_skip rfl rfl ?_
    refine L_skip rfl rfl ?_
    refine L_y rfl (y_pick_f rfl rfl) rfl ?_
    refine L_y rfl (y_move rfl) rfl ?_
    refine L_skip rfl rfl ?_
    refine L_skip rfl rfl ?_
    refine L_skip rfl rfl ?_
    refine L_y rfl (y_pick_f rfl rfl) rfl ?_
    refine L_y rfl (y_assign rfl) rfl ?_
    refine L_nil ?_
    refine C_ret ?_
    refine B_ret (rv_tmp rfl rv_nil) (hsub (.cons _ (.refl _))) ?_
    refine ⟨congrArg (fun b => Ending.returned (.bool b)) ?_, rfl⟩
    rw [Bool.eq_iff_iff]
    simp only [decide_eq_true_eq, decide_eq_false_iff_not] at *
    simp [mayS]
    omega

theorem rmay_s {w0 : World} {H : Hp} (v : Nat) (now : Int) (top : Nat) : FnS Try.prog w0 42 #[.int .u64 (v : Int), .int .i64 now, .int .u64 (top : Int)] H (fun e H' => e = .returned (.bool (mayS now top)) ∧ H' = H) := by
  refine FnS_intro (n := 17) (rs := [.tmp 6]) (vs := [.int .u64 (v : Int), .int .i64 now, .int .u64 (top : Int)]) Try.func42 rfl Try.ntmps42 rfl rfl ?_
  refine C_seq ?_
  refine C_region ?_
  refine L_y rfl (y_assign rfl) rfl ?_
  refine L_nil ?_
  refine C_seq ?_
  refine C_region ?_
  refine L_y rfl (y_move rfl) rfl ?_
  refine L_y rfl (y_geq rfl rfl) rfl ?_
  refine L_y rfl (y_move rfl) rfl ?_
  refine L_case 9 rfl (fun hg1_3 => ?_) (fun hg1_3 => ?_)
  · skip
    refine L_y rfl (y_move rfl) rfl ?_
    refine L_y rfl (y_leq rfl rfl) rfl ?_
    refine L_y rfl (y_pick_t rfl rfl) rfl ?_
    refine L_y rfl (y_move rfl) rfl ?_
    refine L_case 13 rfl (fun hg1_7 => ?_) (fun hg1_7 => ?_)
    · skip
      refine L_y rfl (y_move rfl) rfl ?_
      refine L_y rfl (y_leq rfl rfl) rfl ?_
      refine L_y rfl (y_pick_t rfl rfl) rfl ?_
      refine L_y rfl (y_assign rfl) rfl ?_
      refine L_nil ?_
      refine C_ret ?_
      refine B_ret (rv_tmp rfl rv_nil) (HSub.refl _) ?_
      refine ⟨congrArg (fun b => Ending.returned (.bool b)) ?_, rfl⟩
      rw [Bool.eq_iff_iff]
      simp only [decide_eq_true_eq, decide_eq_false_iff_not] at *
      simp [mayS]
      omega
    · skip
      refine L_skip rfl rfl ?_
      refine L_skip rfl rfl ?_
      refine L_y rfl (y_pick_f rfl rfl) rfl ?_
      refine L_y rfl (y_assign rfl) rfl ?_
      refine L_nil ?_
      refine C_ret ?_
      refine B_ret (rv_tmp rfl rv_nil) (HSub.refl _) ?_
      refine ⟨congrArg (fun b => Ending.returned (.bool b)) ?_, rfl⟩
      rw [Bool.eq_iff_iff]
      simp only [decide_eq_true_eq, decide_eq_false_iff_not] at *
      simp [mayS]
      omega
  · skip
    refine L_skip rfl rfl ?_
    refine L_skip rfl rfl ?_
    refine L_y rfl (y_pick_f rfl rfl) rfl ?_
    refine L_y rfl (y_move rfl) rfl ?_
    refine L_skip rfl rfl ?_
    refine L_skip rfl rfl ?_
    refine L_y rfl (y_pick_f rfl rfl) rfl ?_
    refine L_y rfl (y_assign rfl) rfl ?_
    refine L_nil ?_
    refine C_ret ?_
    refine B_ret (rv_tmp rfl rv_nil) (HSub.refl _) ?_
    refine ⟨congrArg (fun b => Ending.returned (.bool b)) ?_, rfl⟩
    rw [Bool.eq_iff_iff]
    simp only [decide_eq_true_eq, decide_eq_false_iff_not] at *
    simp [mayS]
    omega

theorem encode_s {w0 : World} {H : Hp} (v : Nat) (now : Int) (top : Nat) (hv : v < 18446744073709551616) (hmay : mayS now top = true) : FnS Try.prog w0 73 #[supV v now top] H (fun e H' => ∃ g, slOk 1 g 14 (bs (enc v now top)) ∧ e = .returned (slV g 14) ∧ H' = slSeg 5 g (bs (enc v now top)) :: H) := by
  obtain ⟨h0, h1, h2⟩ := mayS_spec hmay
  refine FnS_intro (n := 18) (rs := [.tmp 2]) (vs := [supV v now top]) Try.func73 rfl Try.ntmps73 rfl rfl ?_
  refine C_seq ?_
  refine C_region ?_
  refine L_op rfl (op_box rfl rfl rfl (fun B1 => ?_))
  refine L_y rfl (y_assign rfl) rfl ?_
  refine L_nil ?_
  refine C_seq ?_
  refine C_seq ?_
  refine C_region ?_
  refine L_y rfl (y_loadA rfl ag_70 sz_70 (sees 0 0 rfl) (Nat.le_of_ble_eq_true rfl) rfl) rfl ?_
  refine L_op rfl (op_call rfl rfl (fun a w => Try.call74 a w) rfl ?_)
  refine (may_s v now top).mono ?_
  rintro _ _ ⟨rfl, rfl⟩
  rw [hmay]
  refine ⟨_, rfl, ?_⟩
  refine L_y rfl (y_not rfl) rfl ?_
  refine L_nil ?_
  refine C_cond_f rfl ?_
  refine C_skip ?_
  refine C_seq ?_
  refine C_regionH0 (by kernel_rfl) ?_
  refine H_y 0 rfl (by kernel_rfl) (by kernel_rfl) (by kernel_rfl) (HSub.refl _) rfl (y_fieldAddr rfl fl_70_0) rfl ?_
  refine H_y 1 rfl (by kernel_rfl) (by kernel_rfl) (by kernel_rfl) (HSub.refl _) rfl (y_load rfl ag_68 (sees 0 0 rfl) rfl) rfl ?_
  refine H_y 3 rfl (by kernel_rfl) (by kernel_rfl) (by kernel_rfl) (HSub.refl _) rfl (y_fieldAddr rfl fl_70_1) rfl ?_
  refine H_y 4 rfl (by kernel_rfl) (by kernel_rfl) (by kernel_rfl) (HSub.refl _) rfl (y_load rfl ag_3 (sees 0 0 rfl) rfl) rfl ?_
  refine H_y 5 rfl (by kernel_rfl) (by kernel_rfl) (by kernel_rfl) (HSub.refl _) rfl (y_conv rfl us_3 Try.underlying68 (show _ = ((now.toNat : Nat) : Int) from by rw [wu64 (by omega) (by omega)]; omega)) rfl ?_
  refine H_y 7 rfl (by kernel_rfl) (by kernel_rfl) (by kernel_rfl) (HSub.refl _) rfl (y_fieldAddr rfl fl_70_2) rfl ?_
  refine H_y 8 rfl (by kernel_rfl) (by kernel_rfl) (by kernel_rfl) (HSub.refl _) rfl (y_load rfl ag_68 (sees 0 0 rfl) rfl) rfl ?_
  refine H_one 2 rfl (by kernel_rfl) rfl (op_call rfl rfl (fun a w => Try.call84 a w) rfl ?_)
  refine (put_s v 8 hv (by decide) (by decide)).mono ?_
  rintro _ _ ⟨P1, rfl, rfl⟩
  refine ⟨_, rfl, ?_⟩
  refine ⟨hsub (.cons _ (.refl _)), ?_⟩
  refine H_one 6 rfl (by kernel_rfl) rfl (op_call rfl rfl (fun a w => Try.call84 a w) rfl ?_)
  refine (put_s now.toNat 4 (by omega) (by decide) (by decide)).mono ?_
  rintro _ _ ⟨P2, rfl, rfl⟩
  refine ⟨_, rfl, ?_⟩
  refine ⟨hsub (.cons _ (.cons _ (.refl _))), ?_⟩
  refine H_one 9 rfl (by kernel_rfl) rfl (op_call rfl rfl (fun a w => Try.call84 a w) rfl ?_)
  refine (put_s top 2 (by omega) (by decide) (by decide)).mono ?_
  rintro _ _ ⟨P3, rfl, rfl⟩
  refine ⟨_, rfl, ?_⟩
  refine ⟨hsub (.cons _ (.cons _ (.cons _ (.refl _)))), ?_⟩
  refine H_one 10 rfl (by kernel_rfl) rfl (op_buildSlice (vs := [(0, _), (1, _), (2, _)]) rfl Try.underlying165 sz_22 zl_22 rfl (by decide) (fill_cons (off := 0) (m := 1) (vs := [_]) rfl rfl rfl (Nat.le_of_ble_eq_true rfl) (fill_cons (off := 1) (m := 1) (vs := [_]) rfl rfl rfl (Nat.le_of_ble_eq_true rfl) (fill_cons (off := 2) (m := 1) (vs := [_]) rfl rfl rfl (Nat.le_of_ble_eq_true rfl) rfl))) rfl (fun B2 => ?_))
  refine ⟨hsub (.cons _ (.cons _ (.cons _ (.cons _ (.refl _))))), ?_⟩
  refine H_one 11 rfl (by kernel_rfl) rfl (op_call rfl rfl (fun a w => Try.call90 a w) rfl ?_)
  refine (concat_s ([(some ⟨P1, 0, none⟩, 8, be v 8), (some ⟨P2, 0, none⟩, 4, be now.toNat 4), (some ⟨P3, 0, none⟩, 2, be top 2)] : List Part) (sees 0 0 rfl) (by intro p hp; simp only [List.mem_cons, List.not_mem_nil, or_false] at hp; rcases hp with rfl | rfl | rfl; exact src_slice (sees 3 0 rfl) (by simp [bs_length, be_length]) (by rw [List.drop_zero, List.take_of_length_le (by simp [bs_length, be_length])]); exact src_slice (sees 2 0 rfl) (by simp [bs_length, be_length]) (by rw [List.drop_zero, List.take_of_length_le (by simp [bs_length, be_length])]); exact src_slice (sees 1 0 rfl) (by simp [bs_length, be_length]) (by rw [List.drop_zero, List.take_of_length_le (by simp [bs_length, be_length])])) (by simp [cat, be_length]) (by simp)).mono ?_
  have hcat : cat ([(some ⟨P1, 0, none⟩, 8, be v 8), (some ⟨P2, 0, none⟩, 4, be now.toNat 4), (some ⟨P3, 0, none⟩, 2, be top 2)] : List Part) = enc v now top := by simp [cat, enc]
  rw [hcat, enc_length]
  rintro _ _ ⟨g, hg, rfl, rfl⟩
  refine ⟨_, rfl, ?_⟩
  refine ⟨hsub (.cons _ (.cons _ (.cons _ (.cons _ (.cons _ (.refl _)))))), ?_⟩
  refine H_y 12 rfl (by kernel_rfl) (by kernel_rfl) (by kernel_rfl) (hsub (.cons _ (.cons _ (.cons _ (.cons _ (.cons _ (.refl _))))))) rfl (y_assign rfl) rfl ?_
  refine H_done (by kernel_rfl) ?_
  refine C_ret ?_
  refine B_ret (rv_tmp rfl rv_nil) (hsub (.cons_cons _ (.cons _ (.cons _ (.cons _ (.cons _ (.cons _ (.refl _)))))))) ?_
  exact ⟨g, hg, rfl, rfl⟩

theorem rencode_s {w0 : World} {H : Hp} (v : Nat) (now : Int) (top : Nat) (hv : v < 18446744073709551616) (hmay : mayS now top = true) : FnS Try.prog w0 76 #[.int .u64 (v : Int), .int .i64 now, .int .u64 (top : Int)] H (fun e H' => ∃ g, slOk 1 g 14 (bs (enc v now top)) ∧ e = .returned (slV g 14) ∧ H' = slSeg 5 g (bs (enc v now top)) :: H) := by
  obtain ⟨h0, h1, h2⟩ := mayS_spec hmay
  refine FnS_intro (n := 16) (rs := [.tmp 6]) (vs := [.int .u64 (v : Int), .int .i64 now, .int .u64 (top : Int)]) Try.func76 rfl Try.ntmps76 rfl rfl ?_
  refine C_seq ?_
  refine C_region ?_
  refine L_y rfl (y_assign rfl) rfl ?_
  refine L_nil ?_
  refine C_seq ?_
  refine C_region ?_
  refine L_y rfl (y_move rfl) rfl ?_
  refine L_op rfl (op_call rfl rfl (fun a w => Try.call92 a w) rfl ?_)
  refine (rput_s v 8 hv (by decide) (by decide)).mono ?_
  rintro _ _ ⟨P1, hP1, rfl, rfl⟩
  refine ⟨_, rfl, ?_⟩
  refine L_y rfl (y_move rfl) rfl ?_
  refine L_y rfl (y_conv rfl us_3 Try.underlying68 (show _ = ((now.toNat : Nat) : Int) from by rw [wu64 (by omega) (by omega)]; omega)) rfl ?_
  refine L_op rfl (op_call rfl rfl (fun a w => Try.call92 a w) rfl ?_)
  refine (rput_s now.toNat 4 (by omega) (by decide) (by decide)).mono ?_
  rintro _ _ ⟨P2, hP2, rfl, rfl⟩
  refine ⟨_, rfl, ?_⟩
  refine L_op rfl (op_append (gs := P1) (len := 8) (m := 4) (xs := bs (be v 8)) (vs := bs (be now.toNat 4)) 1 rfl rfl rfl hP1 (src_sl (s := 0) rfl hP2) (by simp [bs_length, be_length]) (bs_one _) Try.underlying22 ni_22 sz_5 by_5 (by decide) zl_5 rfl (by decide) rfl (fun R1 hR1 => ?_))
  rw [← bs_append] at hR1 ⊢
  refine L_y rfl (y_move rfl) rfl ?_
  refine L_op rfl (op_call rfl rfl (fun a w => Try.call92 a w) rfl ?_)
  refine (rput_s top 2 (by omega) (by decide) (by decide)).mono ?_
  rintro _ _ ⟨P3, hP3, rfl, rfl⟩
  refine ⟨_, rfl, ?_⟩
  refine L_op rfl (op_append (gs := R1) (len := 12) (m := 2) (xs := bs (be v 8 ++ be now.toNat 4)) (vs := bs (be top 2)) 2 rfl rfl rfl hR1 (src_sl (s := 0) rfl hP3) (by simp [bs_length, be_length]) (bs_one _) Try.underlying22 ni_22 sz_5 by_5 (by decide) zl_5 rfl (by decide) rfl (fun R2 hR2 => ?_))
  rw [← bs_append] at hR2 ⊢
  have henc : be v 8 ++ be now.toNat 4 ++ be top 2 = enc v now top := by simp [enc]
  rw [henc] at hR2 ⊢
  refine L_y rfl (y_assign rfl) rfl ?_
  refine L_nil ?_
  refine C_ret ?_
  refine B_ret (rv_tmp rfl rv_nil) (hsub (.cons _ (.cons _ (.cons_cons _ (.refl _))))) ?_
  exact ⟨R2, hR2, rfl, rfl⟩

theorem decode_s {w0 : World} {H : Hp} {b off cap T : Nat} {fr : Nat × Nat} {l : List Value} (u : List UInt8) (hs : Sees (fun w => St w0 w H) b (.cells l.toArray T fr)) (hv : (l.drop off).take 14 = bs u) (hl : u.length = 14) (hcap : 14 ≤ cap) : FnS Try.prog w0 78 #[.slice (some ⟨b, off, none⟩) 14 cap] H (fun e H' => e = .returned (.tuple #[supV (gV u) (gN u : Int) (gT u), .bool (gOk u)]) ∧ H' = H) := by
  refine FnS_intro (n := 43) (rs := [.cell 2 70, .tmp 3]) (vs := [.slice (some ⟨b, off, none⟩) 14 cap]) Try.func78 rfl Try.ntmps78 rfl rfl ?_
  refine C_seq ?_
  refine C_region ?_
  refine L_op rfl (op_alloc zl_70 rfl (fun B1 => ?_))
  refine L_y rfl (y_assign rfl) rfl ?_
  refine L_nil ?_
  refine C_seq ?_
  refine C_seq ?_
  refine C_region ?_
  refine L_y rfl (y_move rfl) rfl ?_
  refine L_y rfl (y_lenS rfl rfl Try.underlying22) rfl ?_
  refine L_y rfl (y_nei rfl rfl) rfl ?_
  refine L_nil ?_
  refine C_cond rfl (fun hc0 => absurd hc0 (by simp)) (fun hc0 => ?_)
  refine C_skip ?_
  refine C_seq ?_
  refine C_region ?_
  refine L_y rfl (y_move rfl) rfl ?_
  refine L_y rfl (y_sliceS_hi rfl rfl Try.underlying22 sz_5 (by omega) (by omega)) rfl ?_
  refine L_op rfl (op_call rfl rfl (fun a w => Try.call93 a w) rfl ?_)
  refine (get_s ((u.drop 0).take 8) (hs.up) (sub_bytes (i := 0) (k := 8) hv (by decide)) (by simp; omega) (by decide) (by decide)).mono ?_
  rintro _ _ ⟨rfl, rfl⟩
  refine ⟨_, rfl, ?_⟩
  refine L_y rfl (y_move rfl) rfl ?_
  refine L_y rfl (y_extract rfl rfl) rfl ?_
  refine L_y rfl (y_extract rfl rfl) rfl ?_
  refine L_y rfl (y_assign rfl) rfl ?_
  refine L_y rfl (y_assign rfl) rfl ?_
  refine L_nil ?_
  refine C_seq ?_
  refine C_region ?_
  refine L_y rfl (y_move rfl) rfl ?_
  refine L_y rfl (y_sliceS rfl rfl rfl Try.underlying22 sz_5 (by omega) (by omega) (by omega) (if_neg (by simp; omega))) rfl ?_
  refine L_op rfl (op_call rfl rfl (fun a w => Try.call93 a w) rfl ?_)
  refine (get_s ((u.drop 8).take 4) (hs.up) (sub_bytes (i := 8) (k := 4) hv (by decide)) (by simp; omega) (by decide) (by decide)).mono ?_
  rintro _ _ ⟨rfl, rfl⟩
  refine ⟨_, rfl, ?_⟩
  refine L_y rfl (y_move rfl) rfl ?_
  refine L_y rfl (y_extract rfl rfl) rfl ?_
  refine L_y rfl (y_extract rfl rfl) rfl ?_
  refine L_y rfl (y_assign rfl) rfl ?_
  refine L_y rfl (y_assign rfl) rfl ?_
  refine L_nil ?_
  refine C_seq ?_
  refine C_region ?_
  refine L_y rfl (y_move rfl) rfl ?_
  refine L_y rfl (y_sliceS_lo rfl rfl Try.underlying22 sz_5 (by omega) (by decide) (if_neg (by simp; omega))) rfl ?_
  refine L_op rfl (op_call rfl rfl (fun a w => Try.call93 a w) rfl ?_)
  refine (get_s ((u.drop 12).take 2) (hs.up) (sub_bytes (i := 12) (k := 2) hv (by decide)) (by simp; omega) (by decide) (by decide)).mono ?_
  rintro _ _ ⟨rfl, rfl⟩
  refine ⟨_, rfl, ?_⟩
  refine L_y rfl (y_move rfl) rfl ?_
  refine L_y rfl (y_extract rfl rfl) rfl ?_
  refine L_y rfl (y_extract rfl rfl) rfl ?_
  refine L_y rfl (y_assign rfl) rfl ?_
  refine L_y rfl (y_assign rfl) rfl ?_
  refine L_nil ?_
  refine C_seq ?_
  refine C_region ?_
  have hT := dT_le u
  have hN := dN_lt u
  refine L_y rfl (y_move rfl) rfl ?_
  refine L_y rfl (y_move rfl) rfl ?_
  refine L_y rfl (y_conv rfl us_68 Try.underlying3 (wi64 (by unfold dN at hN; omega) (by unfold dN at hN; omega))) rfl ?_
  refine L_y rfl (y_move rfl) rfl ?_
  refine L_y rfl (y_build (vs := [(0, _), (1, _), (2, _)]) rfl pl_70 zl_70 (fill_cons (off := 0) (m := 1) (vs := [_]) rfl rfl rfl (Nat.le_of_ble_eq_true rfl) (fill_cons (off := 1) (m := 1) (vs := [_]) rfl rfl rfl (Nat.le_of_ble_eq_true rfl) (fill_cons (off := 2) (m := 1) (vs := [_]) rfl rfl rfl (Nat.le_of_ble_eq_true rfl) rfl)))) rfl ?_
  refine L_op rfl (op_alloc zl_70 rfl (fun B2 => ?_))
  refine L_op rfl (op_store 0 0 rfl rfl rfl sz_70 rfl rfl (ones rfl) (by decide) ?_)
  skip
  refine L_nil ?_
  refine C_seq ?_
  refine C_seq ?_
  refine C_region ?_
  refine L_y rfl (y_loadA rfl ag_70 sz_70 (sees 0 0 rfl) (Nat.le_of_ble_eq_true rfl) rfl) rfl ?_
  refine L_op rfl (op_call rfl rfl (fun a w => Try.call74 a w) rfl ?_)
  refine (may_s (dV u) (dN u : Int) (dT u)).mono ?_
  rintro _ _ ⟨rfl, rfl⟩
  rw [mayS_d]
  refine ⟨_, rfl, ?_⟩
  refine L_y rfl (y_not rfl) rfl ?_
  refine L_nil ?_
  refine C_cond rfl (fun hc1 => ?_) (fun hc1 => ?_)
  · have hd : ¬ dN u ≤ 1073741824 := by simpa using hc1
    refine C_seq ?_
    refine C_region ?_
    refine L_y rfl (y_build0 pl_70 zl_70) rfl ?_
    refine L_op rfl (op_store 1 0 rfl rfl rfl sz_70 rfl rfl (ones rfl) (by decide) ?_)
    skip
    refine L_y rfl (y_assign rfl) rfl ?_
    refine L_nil ?_
    refine C_ret ?_
    refine B_ret (rv_cellA rfl ag_70 sz_70 (sees 1 0 rfl) (Nat.le_of_ble_eq_true rfl) rfl (rv_tmp rfl rv_nil)) (hsub (.cons _ (.cons _ (.refl _)))) ?_
    refine ⟨?_, rfl⟩
    simp only [gV, gN, gT, gOk, hd, if_true, if_false, decide_true, decide_false]
    rfl
  · have hd : dN u ≤ 1073741824 := by simpa using hc1
    refine C_skip ?_
    refine C_seq ?_
    refine C_region ?_
    refine L_y rfl (y_loadA rfl ag_70 sz_70 (sees 0 0 rfl) (Nat.le_of_ble_eq_true rfl) rfl) rfl ?_
    refine L_op rfl (op_store 1 0 rfl rfl rfl sz_70 rfl rfl (ones rfl) (by decide) ?_)
    skip
    refine L_y rfl (y_assign rfl) rfl ?_
    refine L_nil ?_
    refine C_ret ?_
    refine B_ret (rv_cellA rfl ag_70 sz_70 (sees 1 0 rfl) (Nat.le_of_ble_eq_true rfl) rfl (rv_tmp rfl rv_nil)) (hsub (.cons _ (.cons _ (.refl _)))) ?_
    refine ⟨?_, rfl⟩
    simp only [gV, gN, gT, gOk, hd, if_true, if_false, decide_true, decide_false]
    rfl

theorem decode_no {w0 : World} {H : Hp} {a : Option Addr} {len cap : Nat} (hl : len ≠ 14) : FnS Try.prog w0 78 #[.slice a len cap] H (fun e H' => e = .returned (.tuple #[supV 0 0 0, .bool false]) ∧ H' = H) := by
  refine FnS_intro (n := 43) (rs := [.cell 2 70, .tmp 3]) (vs := [.slice a len cap]) Try.func78 rfl Try.ntmps78 rfl rfl ?_
  refine C_seq ?_
  refine C_region ?_
  refine L_op rfl (op_alloc zl_70 rfl (fun B1 => ?_))
  refine L_y rfl (y_assign rfl) rfl ?_
  refine L_nil ?_
  refine C_seq ?_
  refine C_seq ?_
  refine C_region ?_
  refine L_y rfl (y_move rfl) rfl ?_
  refine L_y rfl (y_lenS rfl rfl Try.underlying22) rfl ?_
  refine L_y rfl (y_nei rfl rfl) rfl ?_
  refine L_nil ?_
  refine C_cond rfl (fun hc0 => ?_) (fun hc0 => absurd hc0 (by simp <;> omega))
  refine C_seq ?_
  refine C_region ?_
  refine L_y rfl (y_build0 pl_70 zl_70) rfl ?_
  refine L_op rfl (op_store 0 0 rfl rfl rfl sz_70 rfl rfl (ones rfl) (by decide) ?_)
  skip
  refine L_y rfl (y_assign rfl) rfl ?_
  refine L_nil ?_
  refine C_ret ?_
  refine B_ret (rv_cellA rfl ag_70 sz_70 (sees 0 0 rfl) (Nat.le_of_ble_eq_true rfl) rfl (rv_tmp rfl rv_nil)) (hsub (.cons _ (.refl _))) ?_
  exact ⟨rfl, rfl⟩

theorem awake16_s {w0 : World} {H : Hp} : FnS Try.prog w0 39 #[] H (fun e H' => e = .returned (.bool true) ∧ H' = H) := by
  refine FnS_intro (n := 7) (rs := [.tmp 0]) (vs := []) Try.func39 rfl Try.ntmps39 rfl rfl ?_
  refine C_seq ?_
  refine C_region ?_
  refine L_y rfl (y_assign rfl) rfl ?_
  refine L_nil ?_
  refine C_seq ?_
  refine C_region ?_
  refine L_y rfl (y_build (vs := [(0, _), (1, _), (2, _)]) rfl pl_70 zl_70 (fill_cons (off := 0) (m := 1) (vs := [_]) rfl rfl rfl (Nat.le_of_ble_eq_true rfl) (fill_cons (off := 1) (m := 1) (vs := [_]) rfl rfl rfl (Nat.le_of_ble_eq_true rfl) (fill_cons (off := 2) (m := 1) (vs := [_]) rfl rfl rfl (Nat.le_of_ble_eq_true rfl) rfl)))) rfl ?_
  refine L_op rfl (op_call rfl rfl (fun a w => Try.call73 a w) rfl ?_)
  refine (encode_s 3 7 32 (by decide) (by decide)).mono ?_
  rintro _ _ ⟨g, hg, rfl, rfl⟩
  cases g with
  | none => exact absurd hg.2 (by decide)
  | some g => ?_
  refine ⟨_, rfl, ?_⟩
  refine L_y rfl (y_assign rfl) rfl ?_
  refine L_nil ?_
  refine C_seq ?_
  refine C_region ?_
  refine L_y rfl (y_move rfl) rfl ?_
  refine L_y rfl (y_str rfl Try.underlying22 Try.underlying5 Try.underlying9 (sees 0 0 rfl) (by have := hg.1; simp [bs_length, enc_length]) (show _ = bs (enc 3 7 32) from by rw [List.drop_zero, List.take_left' (by simp [bs_length, enc_length])])) rfl ?_
  refine L_y rfl (y_eqstr rfl rfl) rfl ?_
  refine L_y rfl (y_assign rfl) rfl ?_
  refine L_nil ?_
  refine C_ret ?_
  refine B_ret (rv_tmp rfl rv_nil) (hsub (.cons _ (.refl _))) ?_
  exact ⟨congrArg (fun b => Ending.returned (.bool b)) (by decide), rfl⟩

end Go.Proofs.Ytjjiclgbdenkkaa

