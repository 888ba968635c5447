/- walks (own work; the walks' lines by a program of this repo). -/
import Derived.Test.YtoaalclbplgegaaSwW
set_option linter.unusedVariables false
set_option linter.unusedSimpArgs false
set_option maxRecDepth 20000
namespace Go.Proofs.Ytoaalclbplgegaa
open Go.Sl
attribute [local irreducible] BodyQ WpC WpL WpS WpH OpW FnS


theorem is_s {w0 : World} {H : Hp} (a b c x y z : Int) : FnS Try.prog w0 15 #[.agg [Value.int .i64 a, .int .i64 b, .int .i64 c].toArray, .agg [Value.int .i64 x, .int .i64 y, .int .i64 z].toArray] H (fun e H' => e = .returned (.int .i64 (if a = x ∧ b = y ∧ c = z then 1 else 0)) ∧ H' = H) := by
  refine FnS_intro (n := 24) (rs := [.tmp 4]) (vs := [.agg [Value.int .i64 a, .int .i64 b, .int .i64 c].toArray, .agg [Value.int .i64 x, .int .i64 y, .int .i64 z].toArray]) Try.func15 rfl Try.ntmps15 rfl rfl ?_
  refine C_seq ?_
  refine C_region ?_
  refine L_op rfl (op_box rfl rfl rfl (fun B1 => ?_))
  refine L_op rfl (op_box rfl rfl rfl (fun B2 => ?_))
  refine L_y rfl (y_assign rfl) rfl ?_
  refine L_nil ?_
  refine C_seq ?_
  refine C_seq ?_
  refine C_region ?_
  refine L_y rfl (y_fieldAddr rfl fl_32_0) rfl ?_
  refine L_y rfl (y_load rfl ag_3 (sees 1 0 rfl) rfl) rfl ?_
  refine L_y rfl (y_indexA rfl rfl Try.underlying34 sz_3 (by omega) (by omega) (show _ = 0 from rfl)) rfl ?_
  refine L_y rfl (y_load rfl ag_3 (sees 0 0 rfl) rfl) rfl ?_
  refine L_y rfl (y_nei rfl rfl) rfl ?_
  refine L_y rfl (y_move rfl) rfl ?_
  refine L_case 10 rfl (fun hg1_6 => ?_) (fun hg1_6 => ?_)
  · skip
    refine L_skip rfl rfl ?_
    refine L_skip rfl rfl ?_
    refine L_skip rfl rfl ?_
    refine L_skip rfl rfl ?_
    refine L_skip rfl rfl ?_
    refine L_y rfl (y_pick_t rfl rfl) rfl ?_
    refine L_y rfl (y_move rfl) rfl ?_
    refine L_skip rfl rfl ?_
    refine L_skip rfl rfl ?_
    refine L_skip rfl rfl ?_
    refine L_skip rfl rfl ?_
    refine L_skip rfl rfl ?_
    refine L_y rfl (y_pick_t rfl rfl) rfl ?_
    refine L_nil ?_
    refine C_cond_t rfl ?_
    refine C_seq ?_
    refine C_region ?_
    refine L_y rfl (y_assign rfl) rfl ?_
    refine L_nil ?_
    refine C_ret ?_
    refine B_ret (rv_tmp rfl rv_nil) (hsub (.cons _ (.cons _ (.refl _)))) ?_
    exact ⟨ret_int (by simp_all), rfl⟩
  · skip
    refine L_y rfl (y_fieldAddr rfl fl_32_1) rfl ?_
    refine L_y rfl (y_load rfl ag_3 (sees 1 0 rfl) rfl) rfl ?_
    refine L_y rfl (y_indexA rfl rfl Try.underlying34 sz_3 (by omega) (by omega) (show _ = 1 from rfl)) rfl ?_
    refine L_y rfl (y_load rfl ag_3 (sees 0 0 rfl) rfl) rfl ?_
    refine L_y rfl (y_nei rfl rfl) rfl ?_
    refine L_y rfl (y_pick_f rfl rfl) rfl ?_
    refine L_y rfl (y_move rfl) rfl ?_
    refine L_case 17 rfl (fun hg1_13 => ?_) (fun hg1_13 => ?_)
    · skip
      refine L_skip rfl rfl ?_
      refine L_skip rfl rfl ?_
      refine L_skip rfl rfl ?_
      refine L_skip rfl rfl ?_
      refine L_skip rfl rfl ?_
      refine L_y rfl (y_pick_t rfl rfl) rfl ?_
      refine L_nil ?_
      refine C_cond_t rfl ?_
      refine C_seq ?_
      refine C_region ?_
      refine L_y rfl (y_assign rfl) rfl ?_
      refine L_nil ?_
      refine C_ret ?_
      refine B_ret (rv_tmp rfl rv_nil) (hsub (.cons _ (.cons _ (.refl _)))) ?_
      exact ⟨ret_int (by simp_all), rfl⟩
    · skip
      refine L_y rfl (y_fieldAddr rfl fl_32_2) rfl ?_
      refine L_y rfl (y_load rfl ag_3 (sees 1 0 rfl) rfl) rfl ?_
      refine L_y rfl (y_indexA rfl rfl Try.underlying34 sz_3 (by omega) (by omega) (show _ = 2 from rfl)) rfl ?_
      refine L_y rfl (y_load rfl ag_3 (sees 0 0 rfl) rfl) rfl ?_
      refine L_y rfl (y_nei rfl rfl) rfl ?_
      refine L_y rfl (y_pick_f rfl rfl) rfl ?_
      refine L_nil ?_
      refine C_cond rfl (fun hc0 => ?_) (fun hc0 => ?_)
      · skip
        refine C_seq ?_
        refine C_region ?_
        refine L_y rfl (y_assign rfl) rfl ?_
        refine L_nil ?_
        refine C_ret ?_
        refine B_ret (rv_tmp rfl rv_nil) (hsub (.cons _ (.cons _ (.refl _)))) ?_
        exact ⟨ret_int (by simp_all), rfl⟩
      · skip
        refine C_skip ?_
        refine C_seq ?_
        refine C_region ?_
        refine L_y rfl (y_assign rfl) rfl ?_
        refine L_nil ?_
        refine C_ret ?_
        refine B_ret (rv_tmp rfl rv_nil) (hsub (.cons _ (.cons _ (.refl _)))) ?_
        exact ⟨ret_int (by simp_all), rfl⟩

theorem counts_s {w0 : World} {H : Hp} (n : Nat) (a b : Sec) (ha : a.length = 128) (hb : b.length = 128) : FnS Try.prog w0 43 #[.int .i64 (n : Int), .agg (bs a).toArray, .agg (bs b).toArray] H (fun e H' => e = .returned (.int .i64 (hC goodP n a b)) ∧ H' = H) := by
  refine FnS_intro (n := 30) (rs := [.tmp 6]) (vs := [.int .i64 (n : Int), .agg (bs a).toArray, .agg (bs b).toArray]) Try.func43 rfl Try.ntmps43 rfl rfl ?_
  refine C_seq ?_
  refine C_region ?_
  refine L_op rfl (op_box rfl rfl rfl (fun B1 => ?_))
  refine L_op rfl (op_box rfl rfl rfl (fun B2 => ?_))
  refine L_y rfl (y_assign rfl) rfl ?_
  refine L_nil ?_
  refine C_seq ?_
  refine C_regionH0 (by kernel_rfl) ?_
  refine H_y 0 rfl (by kernel_rfl) (by kernel_rfl) (by kernel_rfl) (HSub.refl _) rfl (y_move rfl) rfl ?_
  refine H_y 1 rfl (by kernel_rfl) (by kernel_rfl) (by kernel_rfl) (HSub.refl _) rfl (y_loadA rfl ag_37 sz_37 (sees 1 0 rfl) (by rw [bs_length, ha]; decide) (bs_whole0 _ (ha))) rfl ?_
  refine H_y 3 rfl (by kernel_rfl) (by kernel_rfl) (by kernel_rfl) (HSub.refl _) rfl (y_move rfl) rfl ?_
  refine H_y 4 rfl (by kernel_rfl) (by kernel_rfl) (by kernel_rfl) (HSub.refl _) rfl (y_loadA rfl ag_37 sz_37 (sees 0 0 rfl) (by rw [bs_length, hb]; decide) (bs_whole0 _ (hb))) rfl ?_
  refine H_one 2 rfl (by kernel_rfl) rfl (op_call rfl rfl (fun a w => Try.call26 a w) rfl ?_)
  refine (good09_s _ a ha).mono ?_
  rintro _ _ ⟨rfl, e⟩
  obtain rfl := e.symm
  refine ⟨_, rfl, ?_⟩
  refine ⟨HSub.refl _, ?_⟩
  refine H_one 5 rfl (by kernel_rfl) rfl (op_call rfl rfl (fun a w => Try.call26 a w) rfl ?_)
  refine (good09_s _ b hb).mono ?_
  rintro _ _ ⟨rfl, e⟩
  obtain rfl := e.symm
  refine ⟨_, rfl, ?_⟩
  refine ⟨HSub.refl _, ?_⟩
  refine H_y 6 rfl (by kernel_rfl) (by kernel_rfl) (by kernel_rfl) (HSub.refl _) rfl (y_assign rfl) rfl ?_
  refine H_y 7 rfl (by kernel_rfl) (by kernel_rfl) (by kernel_rfl) (HSub.refl _) rfl (y_assign rfl) rfl ?_
  refine H_done (by kernel_rfl) ?_
  refine C_seq ?_
  refine C_seq ?_
  refine C_region ?_
  refine L_y rfl (y_move rfl) rfl ?_
  refine L_y rfl (y_not rfl) rfl ?_
  refine L_y rfl (y_move rfl) rfl ?_
  refine L_case 17 rfl (fun hg2_3 => ?_) (fun hg2_3 => ?_)
  · skip
    refine L_y rfl (y_move rfl) rfl ?_
    refine L_y rfl (y_not rfl) rfl ?_
    refine L_y rfl (y_pick_t rfl rfl) rfl ?_
    refine L_nil ?_
    refine C_cond rfl (fun hc0 => ?_) (fun hc0 => ?_)
    · skip
      refine C_seq ?_
      refine C_region ?_
      refine L_y rfl (y_assign rfl) rfl ?_
      refine L_nil ?_
      refine C_ret ?_
      refine B_ret (rv_tmp rfl rv_nil) (hsub (.cons _ (.cons _ (.refl _)))) ?_
      exact ⟨ret_int (by simp_all [hC]), rfl⟩
    · skip
      refine C_skip ?_
      refine C_seq ?_
      refine C_seq ?_
      refine C_region ?_
      refine L_y rfl (y_move rfl) rfl ?_
      refine L_y rfl (y_move rfl) rfl ?_
      refine L_case 22 rfl (fun hg4_2 => ?_) (fun hg4_2 => ?_)
      · skip
        refine L_y rfl (y_move rfl) rfl ?_
        refine L_y rfl (y_pick_t rfl rfl) rfl ?_
        refine L_y rfl (y_move rfl) rfl ?_
        refine L_case 25 rfl (fun hg4_5 => ?_) (fun hg4_5 => ?_)
        · skip
          refine L_y rfl (y_loadA rfl ag_37 sz_37 (sees 1 0 rfl) (by rw [bs_length, ha]; decide) (bs_whole0 _ (ha))) rfl ?_
          refine L_y rfl (y_loadA rfl ag_37 sz_37 (sees 0 0 rfl) (by rw [bs_length, hb]; decide) (bs_whole0 _ (hb))) rfl ?_
          refine L_y rfl (y_eqa rfl rfl Try.underlying37 Try.underlying5 sz_5 eg_37 ha hb) rfl ?_
          refine L_y rfl (y_pick_t rfl rfl) rfl ?_
          refine L_nil ?_
          refine C_cond rfl (fun hc1 => ?_) (fun hc1 => ?_)
          · skip
            refine C_seq ?_
            refine C_region ?_
            refine L_y rfl (y_assign rfl) rfl ?_
            refine L_nil ?_
            refine C_ret ?_
            refine B_ret (rv_tmp rfl rv_nil) (hsub (.cons _ (.cons _ (.refl _)))) ?_
            exact ⟨ret_int (by simp_all [hC]), rfl⟩
          · skip
            refine C_skip ?_
            refine C_seq ?_
            refine C_region ?_
            refine L_y rfl (y_assign rfl) rfl ?_
            refine L_nil ?_
            refine C_ret ?_
            refine B_ret (rv_tmp rfl rv_nil) (hsub (.cons _ (.cons _ (.refl _)))) ?_
            exact ⟨ret_int (by simp_all [hC]), rfl⟩
        · skip
          refine L_skip rfl rfl ?_
          refine L_skip rfl rfl ?_
          refine L_skip rfl rfl ?_
          refine L_y rfl (y_pick_f rfl rfl) rfl ?_
          refine L_nil ?_
          refine C_cond_f rfl ?_
          refine C_skip ?_
          refine C_seq ?_
          refine C_region ?_
          refine L_y rfl (y_assign rfl) rfl ?_
          refine L_nil ?_
          refine C_ret ?_
          refine B_ret (rv_tmp rfl rv_nil) (hsub (.cons _ (.cons _ (.refl _)))) ?_
          exact ⟨ret_int (by simp_all [hC]), rfl⟩
      · skip
        refine L_skip rfl rfl ?_
        refine L_y rfl (y_pick_f rfl rfl) rfl ?_
        refine L_y rfl (y_move rfl) rfl ?_
        refine L_skip rfl rfl ?_
        refine L_skip rfl rfl ?_
        refine L_skip rfl rfl ?_
        refine L_y rfl (y_pick_f rfl rfl) rfl ?_
        refine L_nil ?_
        refine C_cond_f rfl ?_
        refine C_skip ?_
        refine C_seq ?_
        refine C_region ?_
        refine L_y rfl (y_assign rfl) rfl ?_
        refine L_nil ?_
        refine C_ret ?_
        refine B_ret (rv_tmp rfl rv_nil) (hsub (.cons _ (.cons _ (.refl _)))) ?_
        exact ⟨ret_int (by simp_all [hC]), rfl⟩
  · skip
    refine L_skip rfl rfl ?_
    refine L_skip rfl rfl ?_
    refine L_y rfl (y_pick_f rfl rfl) rfl ?_
    refine L_nil ?_
    refine C_cond_f rfl ?_
    refine C_skip ?_
    refine C_seq ?_
    refine C_seq ?_
    refine C_region ?_
    refine L_y rfl (y_move rfl) rfl ?_
    refine L_y rfl (y_move rfl) rfl ?_
    refine L_case 22 rfl (fun hg4_2 => ?_) (fun hg4_2 => ?_)
    · skip
      refine L_y rfl (y_move rfl) rfl ?_
      refine L_y rfl (y_pick_t rfl rfl) rfl ?_
      refine L_y rfl (y_move rfl) rfl ?_
      refine L_case 25 rfl (fun hg4_5 => ?_) (fun hg4_5 => ?_)
      · skip
        refine L_y rfl (y_loadA rfl ag_37 sz_37 (sees 1 0 rfl) (by rw [bs_length, ha]; decide) (bs_whole0 _ (ha))) rfl ?_
        refine L_y rfl (y_loadA rfl ag_37 sz_37 (sees 0 0 rfl) (by rw [bs_length, hb]; decide) (bs_whole0 _ (hb))) rfl ?_
        refine L_y rfl (y_eqa rfl rfl Try.underlying37 Try.underlying5 sz_5 eg_37 ha hb) rfl ?_
        refine L_y rfl (y_pick_t rfl rfl) rfl ?_
        refine L_nil ?_
        refine C_cond rfl (fun hc1 => ?_) (fun hc1 => ?_)
        · skip
          refine C_seq ?_
          refine C_region ?_
          refine L_y rfl (y_assign rfl) rfl ?_
          refine L_nil ?_
          refine C_ret ?_
          refine B_ret (rv_tmp rfl rv_nil) (hsub (.cons _ (.cons _ (.refl _)))) ?_
          exact ⟨ret_int (by simp_all [hC]), rfl⟩
        · skip
          refine C_skip ?_
          refine C_seq ?_
          refine C_region ?_
          refine L_y rfl (y_assign rfl) rfl ?_
          refine L_nil ?_
          refine C_ret ?_
          refine B_ret (rv_tmp rfl rv_nil) (hsub (.cons _ (.cons _ (.refl _)))) ?_
          exact ⟨ret_int (by simp_all [hC]), rfl⟩
      · skip
        refine L_skip rfl rfl ?_
        refine L_skip rfl rfl ?_
        refine L_skip rfl rfl ?_
        refine L_y rfl (y_pick_f rfl rfl) rfl ?_
        refine L_nil ?_
        refine C_cond_f rfl ?_
        refine C_skip ?_
        refine C_seq ?_
        refine C_region ?_
        refine L_y rfl (y_assign rfl) rfl ?_
        refine L_nil ?_
        refine C_ret ?_
        refine B_ret (rv_tmp rfl rv_nil) (hsub (.cons _ (.cons _ (.refl _)))) ?_
        exact ⟨ret_int (by simp_all [hC]), rfl⟩
    · skip
      refine L_skip rfl rfl ?_
      refine L_y rfl (y_pick_f rfl rfl) rfl ?_
      refine L_y rfl (y_move rfl) rfl ?_
      refine L_skip rfl rfl ?_
      refine L_skip rfl rfl ?_
      refine L_skip rfl rfl ?_
      refine L_y rfl (y_pick_f rfl rfl) rfl ?_
      refine L_nil ?_
      refine C_cond_f rfl ?_
      refine C_skip ?_
      refine C_seq ?_
      refine C_region ?_
      refine L_y rfl (y_assign rfl) rfl ?_
      refine L_nil ?_
      refine C_ret ?_
      refine B_ret (rv_tmp rfl rv_nil) (hsub (.cons _ (.cons _ (.refl _)))) ?_
      exact ⟨ret_int (by simp_all [hC]), rfl⟩

theorem healed_s {w0 : World} {H : Hp} (n : Nat) (a b : Sec) (ha : a.length = 128) (hb : b.length = 128) : FnS Try.prog w0 18 #[.int .i64 (n : Int), .agg (bs a).toArray, .agg (bs b).toArray] H (fun e H' => e = .returned (.tuple #[.agg (bs (hX goodP n a b)).toArray, .agg (bs (hY goodP n a b)).toArray]) ∧ H' = H) := by
  refine FnS_intro (n := 20) (rs := [.cell 6 37, .cell 7 37]) (vs := [.int .i64 (n : Int), .agg (bs a).toArray, .agg (bs b).toArray]) Try.func18 rfl Try.ntmps18 rfl rfl ?_
  refine C_seq ?_
  refine C_region ?_
  refine L_op rfl (op_box rfl rfl rfl (fun B1 => ?_))
  refine L_op rfl (op_box rfl rfl rfl (fun B2 => ?_))
  refine L_op rfl (op_alloc zl_37 rfl (fun B3 => ?_))
  refine L_op rfl (op_alloc zl_37 rfl (fun B4 => ?_))
  refine L_nil ?_
  refine C_seq ?_
  refine C_seq ?_
  refine C_region ?_
  refine L_y rfl (y_move rfl) rfl ?_
  refine L_y rfl (y_loadA rfl ag_37 sz_37 (sees 3 0 rfl) (by rw [bs_length, ha]; decide) (bs_whole0 _ (ha))) rfl ?_
  refine L_op rfl (op_call rfl rfl (fun a w => Try.call26 a w) rfl ?_)
  refine (good09_s _ a ha).mono ?_
  rintro _ _ ⟨rfl, e⟩
  obtain rfl := e.symm
  refine ⟨_, rfl, ?_⟩
  refine L_nil ?_
  refine C_cond rfl (fun hc0 => ?_) (fun hc0 => ?_)
  · skip
    refine C_seq ?_
    refine C_regionH ([(B2, .cells (bs b).toArray 37)] :: [(B1, .cells (bs a).toArray 37)] :: H) (by kernel_rfl) ?_
    refine H_y 0 rfl (by kernel_rfl) (by kernel_rfl) (by kernel_rfl) (((hsub (.cons_cons _ (.cons_cons _ (.cons _ (.cons _ (.refl _)))))).trans (hsub_pick [2, 2] rfl))) rfl (y_loadA rfl ag_37 sz_37 (sees 1 0 rfl) (by rw [bs_length, ha]; decide) (bs_whole0 _ (ha))) rfl ?_
    refine H_y 1 rfl (by kernel_rfl) (by kernel_rfl) (by kernel_rfl) (((hsub (.cons_cons _ (.cons_cons _ (.cons _ (.cons _ (.refl _)))))).trans (hsub_pick [2, 2] rfl))) rfl (y_loadA rfl ag_37 sz_37 (sees 1 0 rfl) (by rw [bs_length, ha]; decide) (bs_whole0 _ (ha))) rfl ?_
    refine H_one 2 rfl (by kernel_rfl) rfl (op_storeA 1 0 rfl rfl rfl sz_37 (by rw [bs_length, ha]) rfl (bs_one _) (by simp) ?_)
    refine ⟨((hsub (.cons_cons _ (.cons_cons _ (.cons _ (.cons _ (.refl _)))))).trans (hsub_pick [2, 2] rfl)), ?_⟩
    refine H_one 3 rfl (by kernel_rfl) rfl (op_storeA 0 0 rfl rfl rfl sz_37 (by rw [bs_length, ha]) rfl (bs_one _) (by simp) ?_)
    refine ⟨((hsub (.cons_cons _ (.cons_cons _ (.cons _ (.cons _ (.refl _)))))).trans (hsub_pick [2, 2] rfl)), ?_⟩
    refine H_done (by kernel_rfl) ?_
    refine C_ret ?_
    refine B_ret (rv_cellA rfl ag_37 sz_37 (sees 1 0 rfl) (by rw [bs_length]; first | (rw [ha]; decide) | (rw [hb]; decide)) (by first | exact bs_whole0 _ ha | exact bs_whole0 _ hb) (rv_cellA rfl ag_37 sz_37 (sees 0 0 rfl) (by rw [bs_length]; first | (rw [ha]; decide) | (rw [hb]; decide)) (by first | exact bs_whole0 _ ha | exact bs_whole0 _ hb) rv_nil)) (hsub (.cons _ (.cons _ (.cons _ (.cons _ (.refl _)))))) ?_
    exact ⟨by simp only [hX, hY]; simp_all <;> rfl, rfl⟩
  · skip
    refine C_skip ?_
    refine C_seq ?_
    refine C_seq ?_
    refine C_region ?_
    refine L_y rfl (y_move rfl) rfl ?_
    refine L_y rfl (y_loadA rfl ag_37 sz_37 (sees 2 0 rfl) (by rw [bs_length, hb]; decide) (bs_whole0 _ (hb))) rfl ?_
    refine L_op rfl (op_call rfl rfl (fun a w => Try.call26 a w) rfl ?_)
    refine (good09_s _ b hb).mono ?_
    rintro _ _ ⟨rfl, e⟩
    obtain rfl := e.symm
    refine ⟨_, rfl, ?_⟩
    refine L_nil ?_
    refine C_cond rfl (fun hc1 => ?_) (fun hc1 => ?_)
    · skip
      refine C_seq ?_
      refine C_regionH ([(B2, .cells (bs b).toArray 37)] :: [(B1, .cells (bs a).toArray 37)] :: H) (by kernel_rfl) ?_
      refine H_y 0 rfl (by kernel_rfl) (by kernel_rfl) (by kernel_rfl) (((hsub (.cons_cons _ (.cons_cons _ (.cons _ (.cons _ (.refl _)))))).trans (hsub_pick [2, 2] rfl))) rfl (y_loadA rfl ag_37 sz_37 (sees 0 0 rfl) (by rw [bs_length, hb]; decide) (bs_whole0 _ (hb))) rfl ?_
      refine H_y 1 rfl (by kernel_rfl) (by kernel_rfl) (by kernel_rfl) (((hsub (.cons_cons _ (.cons_cons _ (.cons _ (.cons _ (.refl _)))))).trans (hsub_pick [2, 2] rfl))) rfl (y_loadA rfl ag_37 sz_37 (sees 0 0 rfl) (by rw [bs_length, hb]; decide) (bs_whole0 _ (hb))) rfl ?_
      refine H_one 2 rfl (by kernel_rfl) rfl (op_storeA 1 0 rfl rfl rfl sz_37 (by rw [bs_length, hb]) rfl (bs_one _) (by simp) ?_)
      refine ⟨((hsub (.cons_cons _ (.cons_cons _ (.cons _ (.cons _ (.refl _)))))).trans (hsub_pick [2, 2] rfl)), ?_⟩
      refine H_one 3 rfl (by kernel_rfl) rfl (op_storeA 0 0 rfl rfl rfl sz_37 (by rw [bs_length, hb]) rfl (bs_one _) (by simp) ?_)
      refine ⟨((hsub (.cons_cons _ (.cons_cons _ (.cons _ (.cons _ (.refl _)))))).trans (hsub_pick [2, 2] rfl)), ?_⟩
      refine H_done (by kernel_rfl) ?_
      refine C_ret ?_
      refine B_ret (rv_cellA rfl ag_37 sz_37 (sees 1 0 rfl) (by rw [bs_length]; first | (rw [ha]; decide) | (rw [hb]; decide)) (by first | exact bs_whole0 _ ha | exact bs_whole0 _ hb) (rv_cellA rfl ag_37 sz_37 (sees 0 0 rfl) (by rw [bs_length]; first | (rw [ha]; decide) | (rw [hb]; decide)) (by first | exact bs_whole0 _ ha | exact bs_whole0 _ hb) rv_nil)) (hsub (.cons _ (.cons _ (.cons _ (.cons _ (.refl _)))))) ?_
      exact ⟨by simp only [hX, hY]; simp_all <;> rfl, rfl⟩
    · skip
      refine C_skip ?_
      refine C_seq ?_
      refine C_regionH ([(B2, .cells (bs b).toArray 37)] :: [(B1, .cells (bs a).toArray 37)] :: H) (by kernel_rfl) ?_
      refine H_y 0 rfl (by kernel_rfl) (by kernel_rfl) (by kernel_rfl) (((hsub (.cons_cons _ (.cons_cons _ (.cons _ (.cons _ (.refl _)))))).trans (hsub_pick [2, 2] rfl))) rfl (y_loadA rfl ag_37 sz_37 (sees 1 0 rfl) (by rw [bs_length, ha]; decide) (bs_whole0 _ (ha))) rfl ?_
      refine H_y 1 rfl (by kernel_rfl) (by kernel_rfl) (by kernel_rfl) (((hsub (.cons_cons _ (.cons_cons _ (.cons _ (.cons _ (.refl _)))))).trans (hsub_pick [2, 2] rfl))) rfl (y_loadA rfl ag_37 sz_37 (sees 0 0 rfl) (by rw [bs_length, hb]; decide) (bs_whole0 _ (hb))) rfl ?_
      refine H_one 2 rfl (by kernel_rfl) rfl (op_storeA 1 0 rfl rfl rfl sz_37 (by rw [bs_length, ha]) rfl (bs_one _) (by simp) ?_)
      refine ⟨((hsub (.cons_cons _ (.cons_cons _ (.cons _ (.cons _ (.refl _)))))).trans (hsub_pick [2, 2] rfl)), ?_⟩
      refine H_one 3 rfl (by kernel_rfl) rfl (op_storeA 0 0 rfl rfl rfl sz_37 (by rw [bs_length, hb]) rfl (bs_one _) (by simp) ?_)
      refine ⟨((hsub (.cons_cons _ (.cons_cons _ (.cons _ (.cons _ (.refl _)))))).trans (hsub_pick [2, 2] rfl)), ?_⟩
      refine H_done (by kernel_rfl) ?_
      refine C_ret ?_
      refine B_ret (rv_cellA rfl ag_37 sz_37 (sees 1 0 rfl) (by rw [bs_length]; first | (rw [ha]; decide) | (rw [hb]; decide)) (by first | exact bs_whole0 _ ha | exact bs_whole0 _ hb) (rv_cellA rfl ag_37 sz_37 (sees 0 0 rfl) (by rw [bs_length]; first | (rw [ha]; decide) | (rw [hb]; decide)) (by first | exact bs_whole0 _ ha | exact bs_whole0 _ hb) rv_nil)) (hsub (.cons _ (.cons _ (.cons _ (.cons _ (.refl _)))))) ?_
      exact ⟨by simp only [hX, hY]; simp_all <;> rfl, rfl⟩

theorem rall_s {w0 : World} {H : Hp} {a b : Option Addr} {ca cb : Nat} {A B : List Sec} (hA : ∀ s ∈ A, s.length = 128) (hB : ∀ s ∈ B, s.length = 128) (ha : Holds w0 H a (bs A.flatten)) (hb : Holds w0 H b (bs B.flatten)) (hl : A.length = B.length) (hm : A.length ≤ 4096) : FnS Try.prog w0 17 #[.slice a A.length ca, .slice b B.length cb] H (fun e H' => e = .returned (.agg [Value.int .i64 (rK goodP A B A.length).1, .int .i64 (rK goodP A B A.length).2.1, .int .i64 (rK goodP A B A.length).2.2].toArray) ∧ H' = H) := by
  refine FnS_intro (n := 37) (rs := [.cell 4 34]) (vs := [.slice a A.length ca, .slice b B.length cb]) Try.func17 rfl Try.ntmps17 rfl rfl ?_
  refine C_seq ?_
  refine C_region ?_
  refine L_op rfl (op_alloc zl_34 rfl (fun B1 => ?_))
  refine L_nil ?_
  refine C_seq ?_
  refine C_region ?_
  refine L_op rfl (op_alloc zl_34 rfl (fun B2 => ?_))
  refine L_nil ?_
  refine C_seq ?_
  refine C_seq ?_
  refine C_region ?_
  refine L_y rfl (y_assign rfl) rfl ?_
  refine L_nil ?_
  refine C_block ?_
  refine C_loop (ι := Nat) (fun i => [(0, .slice a A.length ca), (1, .slice b B.length cb), (6, .int .i64 (i : Int)), (4, ptr B1), (5, ptr B2)]) (fun i => [(B2, .cells [Value.int .i64 (rK goodP A B i).1, .int .i64 (rK goodP A B i).2.1, .int .i64 (rK goodP A B i).2.2].toArray 34)] :: [(B1, .cells [Value.int .i64 0, .int .i64 0, .int .i64 0].toArray 34)] :: H) (fun i => i ≤ A.length) (fun i => A.length - i) 0 (Nat.zero_le _) ⟨rfl, rfl, rfl, rfl, rfl, trivial⟩ (HSub.refl _) (fun i hi => ?_)
  skip
  refine C_seq ?_
  refine C_seq ?_
  refine C_region ?_
  refine L_y rfl (y_move rfl) rfl ?_
  refine L_y rfl (y_move rfl) rfl ?_
  refine L_y rfl (y_lenS rfl rfl Try.underlying26) rfl ?_
  refine L_y rfl (y_lss rfl rfl) rfl ?_
  refine L_y rfl (y_move rfl) rfl ?_
  refine L_case 12 rfl (fun hg3_5 => ?_) (fun hg3_5 => ?_)
  · have q1 := of_decide_eq_true hg3_5
    refine L_y rfl (y_move rfl) rfl ?_
    refine L_y rfl (y_move rfl) rfl ?_
    refine L_y rfl (y_lenS rfl rfl Try.underlying26) rfl ?_
    refine L_y rfl (y_lss rfl rfl) rfl ?_
    refine L_y rfl (y_pick_t rfl rfl) rfl ?_
    refine L_nil ?_
    refine C_cond rfl (fun hc0 => ?_) (fun hc0 => ?_)
    · replace hc0 := of_decide_eq_true hc0
      refine C_skip ?_
      refine C_seq ?_
      refine C_block ?_
      refine C_seq ?_
      obtain ⟨s, hs⟩ : ∃ s, A[i]? = some s := ⟨_, List.getElem?_eq_getElem (by omega)⟩
      obtain ⟨t, ht⟩ : ∃ t, B[i]? = some t := ⟨_, List.getElem?_eq_getElem (by omega)⟩
      have hla := flat_len hA
      have hlb := flat_len hB
      obtain ⟨b1, o1, l1, T1, fr1, rfl, hs1, hle1, hv1⟩ := ha (by rw [bs_length, hla]; omega)
      obtain ⟨b2, o2, l2, T2, fr2, rfl, hs2, hle2, hv2⟩ := hb (by rw [bs_length, hlb]; omega)
      rw [bs_length] at hle1 hle2
      have hS := hA s (List.mem_of_getElem? hs)
      have hT := hB t (List.mem_of_getElem? ht)
      have gs : gt A i = s := by simp [gt, List.getD, hs]
      have gt2 : gt B i = t := by simp [gt, List.getD, ht]
      have hrk := rK_le goodP A B i
      refine C_regionH0 (by kernel_rfl) ?_
      refine H_y 0 rfl (by kernel_rfl) (by kernel_rfl) (by kernel_rfl) (HSub.refl _) rfl (y_move rfl) rfl ?_
      refine H_y 1 rfl (by kernel_rfl) (by kernel_rfl) (by kernel_rfl) (HSub.refl _) rfl (y_move rfl) rfl ?_
      refine H_y 2 rfl (by kernel_rfl) (by kernel_rfl) (by kernel_rfl) (HSub.refl _) rfl (y_move rfl) rfl ?_
      refine H_y 3 rfl (by kernel_rfl) (by kernel_rfl) (by kernel_rfl) (HSub.refl _) rfl (y_indexS rfl rfl Try.underlying26 sz_37 (by omega) (by omega) (show _ = o1 + i * 128 from by simp)) rfl ?_
      refine H_y 4 rfl (by kernel_rfl) (by kernel_rfl) (by kernel_rfl) (HSub.refl _) rfl (y_loadA rfl ag_37 sz_37 (hs1.up.up) (by omega) (sec_at (n := 0) hA hv1 hs)) rfl ?_
      refine H_y 5 rfl (by kernel_rfl) (by kernel_rfl) (by kernel_rfl) (HSub.refl _) rfl (y_move rfl) rfl ?_
      refine H_y 6 rfl (by kernel_rfl) (by kernel_rfl) (by kernel_rfl) (HSub.refl _) rfl (y_move rfl) rfl ?_
      refine H_y 7 rfl (by kernel_rfl) (by kernel_rfl) (by kernel_rfl) (HSub.refl _) rfl (y_indexS rfl rfl Try.underlying26 sz_37 (by omega) (by omega) (show _ = o2 + i * 128 from by simp)) rfl ?_
      refine H_y 8 rfl (by kernel_rfl) (by kernel_rfl) (by kernel_rfl) (HSub.refl _) rfl (y_loadA rfl ag_37 sz_37 (hs2.up.up) (by omega) (sec_at (n := 0) hB hv2 ht)) rfl ?_
      refine H_one 9 rfl (by kernel_rfl) rfl (op_call rfl rfl (fun a w => Try.call43 a w) rfl ?_)
      refine (counts_s i s t hS hT).mono ?_
      rintro _ _ ⟨rfl, e⟩
      obtain rfl := e.symm
      obtain ⟨j, hj, hjc⟩ := hC_nat goodP i s t
      have hjl := rsel_le (p := goodP) (X := A) (Y := B) (i := i) (j := j)
      rw [hjc]
      refine ⟨_, rfl, ?_⟩
      refine ⟨HSub.refl _, ?_⟩
      refine H_y 10 rfl (by kernel_rfl) (by kernel_rfl) (by kernel_rfl) (HSub.refl _) rfl (y_assign rfl) rfl ?_
      refine H_done (by kernel_rfl) ?_
      refine C_region ?_
      refine L_y rfl (y_move rfl) rfl ?_
      refine L_y rfl (y_move rfl) rfl ?_
      refine L_y rfl (y_indexA rfl rfl Try.underlying34 sz_3 (by omega) (by omega) (show _ = j from by simp)) rfl ?_
      refine L_y rfl (y_load rfl ag_3 (sees 0 0 rfl) (rsel_get _ hj)) rfl ?_
      refine L_y rfl (y_add rfl rfl (wi64 (by omega) (by omega))) rfl ?_
      refine L_y rfl (y_indexA rfl rfl Try.underlying34 sz_3 (by omega) (by omega) (show _ = j from by simp)) rfl ?_
      refine L_op rfl (op_store1 0 0 rfl rfl rfl sz_3 rfl (by simp only [List.length_cons, List.length_nil]; omega) ?_)
      refine L_nil ?_
      refine C_region ?_
      refine L_y rfl (y_move rfl) rfl ?_
      refine L_y rfl (y_add rfl rfl (wi64 (by omega) (by omega))) rfl ?_
      refine L_y rfl (y_assign rfl) rfl ?_
      refine L_nil ?_
      exact ⟨i + 1, by omega, by omega, ⟨rfl, rfl, rfl, rfl, rfl, trivial⟩, HSub.of_eq (by rw [← rK_set gs gt2 hj hjc]; rfl)⟩
    · replace hc0 := of_decide_eq_false hc0
      refine C_exit ?_
      refine C_seq ?_
      obtain rfl : i = A.length := by omega
      refine C_region ?_
      refine L_y rfl (y_loadA rfl ag_34 sz_34 (sees 0 0 rfl) (Nat.le_of_ble_eq_true rfl) rfl) rfl ?_
      refine L_op rfl (op_store (vs := [.int .i64 (rK goodP A B A.length).1, .int .i64 (rK goodP A B A.length).2.1, .int .i64 (rK goodP A B A.length).2.2]) 1 0 rfl rfl rfl sz_34 rfl rfl (ones rfl) (Nat.le_of_ble_eq_true rfl) ?_)
      skip
      refine L_nil ?_
      refine C_ret ?_
      refine B_ret (rv_cellA rfl ag_34 sz_34 (sees 1 0 rfl) (Nat.le_of_ble_eq_true rfl) rfl rv_nil) (hsub (.cons _ (.cons _ (.refl _)))) ?_
      exact ⟨rfl, rfl⟩
  · have q1 := of_decide_eq_false hg3_5
    refine L_skip rfl rfl ?_
    refine L_skip rfl rfl ?_
    refine L_skip rfl rfl ?_
    refine L_skip rfl rfl ?_
    refine L_y rfl (y_pick_f rfl rfl) rfl ?_
    refine L_nil ?_
    refine C_cond_f rfl ?_
    refine C_exit ?_
    refine C_seq ?_
    obtain rfl : i = A.length := by omega
    refine C_region ?_
    refine L_y rfl (y_loadA rfl ag_34 sz_34 (sees 0 0 rfl) (Nat.le_of_ble_eq_true rfl) rfl) rfl ?_
    refine L_op rfl (op_store (vs := [.int .i64 (rK goodP A B A.length).1, .int .i64 (rK goodP A B A.length).2.1, .int .i64 (rK goodP A B A.length).2.2]) 1 0 rfl rfl rfl sz_34 rfl rfl (ones rfl) (Nat.le_of_ble_eq_true rfl) ?_)
    skip
    refine L_nil ?_
    refine C_ret ?_
    refine B_ret (rv_cellA rfl ag_34 sz_34 (sees 1 0 rfl) (Nat.le_of_ble_eq_true rfl) rfl rv_nil) (hsub (.cons _ (.cons _ (.refl _)))) ?_
    exact ⟨rfl, rfl⟩

end Go.Proofs.Ytoaalclbplgegaa
