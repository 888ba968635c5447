/- Own work: texts RpW, RnW, L5W, Rw, Rg, Ra, put together. -/
import Derived.ShutString
import Derived.OpenShut
import Derived.Carry
import Derived.Deep.Slices
import Derived.Test.YtjjiclgbdenkkaaMMirrorPlayse
/- walks (own work; the walks' lines by a program of this repo). -/
set_option linter.unusedVariables false
set_option linter.unusedSimpArgs false
set_option maxRecDepth 20000
namespace Go.Proofs.Ytjjiclgbdenkkaa
open Go.Sl
attribute [local irreducible] BodyQ WpC WpL WpS WpH OpW FnS



set_option maxHeartbeats 1000000 in

theorem play_0 {w0 : World} {H : Hp} {o : Ro} {K : Nat} {r : Rm} {D : Duo} {A : Da} {m : Mi} {mb bx bys bp : Nat} (h : Mq dt (.func (.func 18) #[] ([] : List Value).toArray) D A m r K 0 0 mb bx bys bp) (hK : K ≤ 4096) (n : Int) (x y : UInt8) (on : Bool) : FnS Try.prog w0 38 #[.agg (acells ⟨0, n, x, y, on⟩).toArray, ptr mb, .agg [ptr bx, ptr bys].toArray, ptr o.b] (m.seg 110 :: D.seg dt :: (o.hp 126 32 4 K r H)) (fun e H' => e = .returned (.bool true) ∧ ∃ D' A' m', Mq dt (.func (.func 18) #[] ([] : List Value).toArray) D' A' m' (r.write n (sec3 x y 9)) K 0 0 mb bx bys bp ∧ H' = m'.seg 110 :: D'.seg dt :: (o.hp 126 32 4 K (r.write n (sec3 x y 9)) H)) := by
  have okr := h.rel.ok hK
  have hbx := x.toNat_lt
  refine FnS_intro (n := 225) (rs := [.tmp 8]) (vs := [.agg (acells ⟨0, n, x, y, on⟩).toArray, ptr mb, .agg [ptr bx, ptr bys].toArray, ptr o.b]) Try.func38 rfl Try.ntmps38 rfl rfl ?_
  refine C_seq (C_region ?_)
  refine L_op rfl (op_box rfl rfl rfl (fun B1 => ?_))
  refine L_op rfl (op_box rfl rfl rfl (fun B2 => ?_))
  refine LY rfl (y_assign rfl) (L_nil (C_seq (C_region (LY rfl (y_fieldAddr rfl fl_54_2) (LY rfl (y_load rfl ag_5 (sees 1 0 rfl) rfl) (LY rfl (y_fieldAddr rfl fl_54_3) (LY rfl (y_load rfl ag_5 (sees 1 0 rfl) rfl) ?_)))))))
  refine L_op rfl (op_call rfl rfl (fun a w => Try.call20 a w) rfl ?_)
  refine (sector3_s x y).mono ?_
  rintro _ _ ⟨rfl, e⟩
  obtain rfl := e.symm
  clear e
  refine ⟨_, rfl, ?_⟩
  refine L_op rfl (op_alloc zl_32 rfl (fun B3 => ?_))
  refine L_op rfl (op_storeA 0 0 rfl rfl rfl sz_32 (by rw [bs_length, sec3_len _ _ _]) rfl (bs_one _) (by simp) ?_)
  refine L_nil (C_seq (C_region (LY rfl (y_assign rfl) (L_nil (C_seq (C_seq (C_region (LY rfl (y_fieldAddr rfl fl_54_0) (LY rfl (y_load rfl ag_3 (sees 2 0 rfl) rfl) (L_nil (C_block (C_seq (C_region (LY rfl (y_eqi rfl rfl) (LY rfl (y_assign rfl) (L_nil (C_cond_t rfl ?_)))))))))))))))))
  refine C_regionH ([(B1, .cells (acells ⟨0, n, x, y, on⟩).toArray 54)] :: [(B3, .cells (bs (sec3 x y 9)).toArray 32)] :: H) (by kernel_rfl) ?_
  refine HY 0 rfl (((hsub (.cons_cons _ (.cons_cons _ (.cons _ (.cons _ (.cons _ (.cons _ (.cons _ (.cons _ (.cons _ (.cons _ (.refl _)))))))))))).trans (hsub_pick [2, 0] rfl))) rfl (y_move rfl) ?_
  refine HY 1 rfl (((hsub (.cons_cons _ (.cons_cons _ (.cons _ (.cons _ (.cons _ (.cons _ (.cons _ (.cons _ (.cons _ (.cons _ (.refl _)))))))))))).trans (hsub_pick [2, 0] rfl))) rfl (y_fieldAddr rfl fl_54_1) ?_
  refine HY 2 rfl (((hsub (.cons_cons _ (.cons_cons _ (.cons _ (.cons _ (.cons _ (.cons _ (.cons _ (.cons _ (.cons _ (.cons _ (.refl _)))))))))))).trans (hsub_pick [2, 0] rfl))) rfl (y_load rfl ag_3 (sees 0 0 rfl) rfl) ?_
  refine HY 3 rfl (((hsub (.cons_cons _ (.cons_cons _ (.cons _ (.cons _ (.cons _ (.cons _ (.cons _ (.cons _ (.cons _ (.cons _ (.refl _)))))))))))).trans (hsub_pick [2, 0] rfl))) rfl (y_loadA rfl ag_32 sz_32 (sees 1 0 rfl) (by rw [bs_length, sec3_len _ _ _]; decide) (bs_whole0 _ (sec3_len _ _ _))) ?_
  refine HY 5 rfl (((hsub (.cons_cons _ (.cons_cons _ (.cons _ (.cons _ (.cons _ (.cons _ (.cons _ (.cons _ (.cons _ (.cons _ (.refl _)))))))))))).trans (hsub_pick [2, 0] rfl))) rfl (y_move rfl) ?_
  refine HY 6 rfl (((hsub (.cons_cons _ (.cons_cons _ (.cons _ (.cons _ (.cons _ (.cons _ (.cons _ (.cons _ (.cons _ (.cons _ (.refl _)))))))))))).trans (hsub_pick [2, 0] rfl))) rfl (y_fieldAddr rfl fl_54_1) ?_
  refine HY 7 rfl (((hsub (.cons_cons _ (.cons_cons _ (.cons _ (.cons _ (.cons _ (.cons _ (.cons _ (.cons _ (.cons _ (.cons _ (.refl _)))))))))))).trans (hsub_pick [2, 0] rfl))) rfl (y_load rfl ag_3 (sees 0 0 rfl) rfl) ?_
  refine HY 8 rfl (((hsub (.cons_cons _ (.cons_cons _ (.cons _ (.cons _ (.cons _ (.cons _ (.cons _ (.cons _ (.cons _ (.cons _ (.refl _)))))))))))).trans (hsub_pick [2, 0] rfl))) rfl (y_loadA rfl ag_32 sz_32 (sees 1 0 rfl) (by rw [bs_length, sec3_len _ _ _]; decide) (bs_whole0 _ (sec3_len _ _ _))) ?_
  refine H_one 4 rfl (by kernel_rfl) rfl (op_call rfl rfl (fun a w => Try.call19 a w) rfl ?_)
  refine (FnS.sub (hsub_pick [3, 3] rfl) (write_r h n (sec3 x y 9) (sec3_len _ _ _) (by decide) (by decide))).mono ?_
  rintro _ _ ⟨e4, D1, A1, m1, hS1, rfl⟩
  obtain rfl := e4
  refine ⟨_, rfl, ?_⟩
  refine ⟨((hsub (.cons_cons _ (.cons_cons _ (.cons _ (.cons _ (.cons _ (.cons _ (.cons _ (.cons _ (.cons _ (.cons _ (.refl _)))))))))))).trans (hsub_pick [4, 2] rfl)), ?_⟩
  refine H_one 9 rfl (by kernel_rfl) rfl (op_call rfl rfl (fun a w => Try.call66 a w) rfl ?_)
  refine (FnS.sub (hsub_pick [5, 5, 5, 5, 5] rfl) (rwrite_s okr n (sec3 x y 9) (sec3_len _ _ _))).mono ?_
  rintro _ _ ⟨rfl, rfl⟩
  refine ⟨_, rfl, ?_⟩
  refine ⟨((hsub (.cons_cons _ (.cons_cons _ (.cons _ (.cons _ (.cons _ (.cons _ (.cons _ (.cons _ (.cons _ (.cons _ (.refl _)))))))))))).trans (hsub_pick [9, 7] rfl)), ?_⟩
  refine HY 10 rfl (((hsub (.cons_cons _ (.cons_cons _ (.cons _ (.cons _ (.cons _ (.cons _ (.cons _ (.cons _ (.cons _ (.cons _ (.refl _)))))))))))).trans (hsub_pick [9, 7] rfl))) rfl (y_eqi rfl rfl) ?_
  refine HY 11 rfl (((hsub (.cons_cons _ (.cons_cons _ (.cons _ (.cons _ (.cons _ (.cons _ (.cons _ (.cons _ (.cons _ (.cons _ (.refl _)))))))))))).trans (hsub_pick [9, 7] rfl))) rfl (y_assign rfl) ?_
  refine H_done (by kernel_rfl) ?_
  refine C_seq (C_region (LY rfl (y_move rfl) ?_))
  refine L_op rfl (op_call rfl rfl (fun a w => Try.call21 a w) rfl ?_)
  refine (FnS.sub (hsub_pick [5, 5] rfl) (flush_r hS1)).mono ?_
  rintro _ _ ⟨e4, D2, A2, m2, hS2, rfl⟩
  obtain rfl := e4
  refine ⟨_, rfl, ?_⟩
  refine LY rfl (y_assign rfl) (L_nil (C_seq (C_region (LY rfl (y_move rfl) ?_))))
  refine L_op rfl (op_call rfl rfl (fun a w => Try.call35 a w) rfl ?_)
  refine (FnS.sub (hsub_pick [0] rfl) (stale_r hS2)).mono ?_
  rintro _ _ ⟨rfl, rfl⟩
  refine ⟨_, rfl, ?_⟩
  refine LY rfl (y_move rfl) (LY rfl (y_extract rfl rfl) (LY rfl (y_extract rfl rfl) (LY rfl (y_assign rfl) (LY rfl (y_assign rfl) (L_nil (C_seq (C_region (LY rfl (y_move rfl) (LY rfl (y_move rfl) ?_)))))))))
  refine L_case 194 rfl (fun hg30_2 => ?_) (fun hg30_2 => ?_)
  · skip
    refine LY rfl (y_move rfl) (LY rfl (y_eqi rfl rfl) (LY rfl (y_move rfl) (LY rfl (y_nilCheck rfl) (LY rfl (y_fieldAddr rfl fl_126_1) ?_))))
    refine LY rfl (y_indexA rfl rfl Try.underlying62 sz_4 (by omega) (by omega) (show _ = 2 from rfl)) ?_
    refine LY rfl (y_load rfl ag_4 (sees 2 0 rfl) rfl) (LY rfl (y_not rfl) (LY rfl (y_move rfl) ?_))
    refine L_case 203 rfl (fun hg30_11 => ?_) (fun hg30_11 => ?_)
    · skip
      refine L_skip rfl rfl (L_skip rfl rfl (L_skip rfl rfl (L_skip rfl rfl (L_skip rfl rfl (L_skip rfl rfl (LY rfl (y_pick_t rfl rfl) ?_))))))
      refine LY rfl (y_eqb rfl rfl Try.underlying4) ?_
      refine LY rfl (y_pick_t rfl rfl) (LY rfl (y_move rfl) ?_)
      refine L_case 213 rfl (fun hg30_21 => ?_) (fun hg30_21 => ?_)
      · skip
        refine LY rfl (y_move rfl) (LY rfl (y_move rfl) ?_)
        refine L_op rfl (op_call rfl rfl (fun a w => Try.call72 a w) rfl ?_)
        refine (FnS.sub (hsub_pick [2, 2, 2, 2, 2] rfl) (rcount0_s (hS2.rel.ok hK))).mono ?_
        rintro _ _ ⟨rfl, rfl⟩
        refine ⟨_, rfl, ?_⟩
        refine LY rfl (y_eqi rfl rfl) (LY rfl (y_pick_t rfl rfl) (LY rfl (y_move rfl) ?_))
        refine L_case 219 rfl (fun hg30_27 => ?_) (fun hg30_27 => ?_)
        · skip
          refine LY rfl (y_move rfl) (LY rfl (y_move rfl) ?_)
          refine L_op rfl (op_call rfl rfl (fun a w => Try.call72 a w) rfl ?_)
          refine (FnS.sub (hsub_pick [0, 0, 0, 0, 0] rfl) (rcount1_s (hS2.rel.ok hK))).mono ?_
          rintro _ _ ⟨rfl, rfl⟩
          refine ⟨_, rfl, ?_⟩
          refine LY rfl (y_eqi rfl rfl) (LY rfl (y_pick_t rfl rfl) (LY rfl (y_assign rfl) (L_nil (C_ret ?_))))
          refine B_ret (rv_tmp rfl rv_nil) ((hsub (.cons_cons _ (.cons_cons _ (.cons_cons _ (.cons_cons _ (.cons_cons _ (.cons_cons _ (.cons_cons _ (.cons _ (.cons _ (.cons _ (.refl _)))))))))))).trans (hsub_pick [5, 5, 0, 0, 0, 0, 0] rfl)) ?_
          exact ⟨ret_bool (by simp), _, _, _, hS2, rfl⟩
        · exact absurd hg30_27 (by simp)
      · exact absurd hg30_21 (by simp_all [Rm.put, Rm.sd])
    · skip
      refine LY rfl (y_move rfl) (LY rfl (y_nilCheck rfl) (LY rfl (y_fieldAddr rfl fl_126_1) ?_))
      refine LY rfl (y_indexA rfl rfl Try.underlying62 sz_4 (by omega) (by omega) (show _ = 3 from rfl)) ?_
      refine LY rfl (y_load rfl ag_4 (sees 2 0 rfl) rfl) (LY rfl (y_not rfl) (LY rfl (y_pick_f rfl rfl) ?_))
      refine LY rfl (y_eqb rfl rfl Try.underlying4) ?_
      refine LY rfl (y_pick_t rfl rfl) (LY rfl (y_move rfl) ?_)
      refine L_case 213 rfl (fun hg30_21 => ?_) (fun hg30_21 => ?_)
      · skip
        refine LY rfl (y_move rfl) (LY rfl (y_move rfl) ?_)
        refine L_op rfl (op_call rfl rfl (fun a w => Try.call72 a w) rfl ?_)
        refine (FnS.sub (hsub_pick [2, 2, 2, 2, 2] rfl) (rcount0_s (hS2.rel.ok hK))).mono ?_
        rintro _ _ ⟨rfl, rfl⟩
        refine ⟨_, rfl, ?_⟩
        refine LY rfl (y_eqi rfl rfl) (LY rfl (y_pick_t rfl rfl) (LY rfl (y_move rfl) ?_))
        refine L_case 219 rfl (fun hg30_27 => ?_) (fun hg30_27 => ?_)
        · skip
          refine LY rfl (y_move rfl) (LY rfl (y_move rfl) ?_)
          refine L_op rfl (op_call rfl rfl (fun a w => Try.call72 a w) rfl ?_)
          refine (FnS.sub (hsub_pick [0, 0, 0, 0, 0] rfl) (rcount1_s (hS2.rel.ok hK))).mono ?_
          rintro _ _ ⟨rfl, rfl⟩
          refine ⟨_, rfl, ?_⟩
          refine LY rfl (y_eqi rfl rfl) (LY rfl (y_pick_t rfl rfl) (LY rfl (y_assign rfl) (L_nil (C_ret ?_))))
          refine B_ret (rv_tmp rfl rv_nil) ((hsub (.cons_cons _ (.cons_cons _ (.cons_cons _ (.cons_cons _ (.cons_cons _ (.cons_cons _ (.cons_cons _ (.cons _ (.cons _ (.cons _ (.refl _)))))))))))).trans (hsub_pick [5, 5, 0, 0, 0, 0, 0] rfl)) ?_
          exact ⟨ret_bool (by simp), _, _, _, hS2, rfl⟩
        · exact absurd hg30_27 (by simp)
      · exact absurd hg30_21 (by simp_all [Rm.put, Rm.sd])
  · exact absurd hg30_2 (by simp)

set_option maxHeartbeats 1000000 in

theorem play_5 {w0 : World} {H : Hp} {o : Ro} {K : Nat} {r : Rm} {D : Duo} {A : Da} {m : Mi} {mb bx bys bp : Nat} (h : Mq dt (.func (.func 18) #[] ([] : List Value).toArray) D A m r K 0 0 mb bx bys bp) (hK : K ≤ 4096) (n : Int) (x y : UInt8) (on : Bool) : FnS Try.prog w0 38 #[.agg (acells ⟨5, n, x, y, on⟩).toArray, ptr mb, .agg [ptr bx, ptr bys].toArray, ptr o.b] (m.seg 110 :: D.seg dt :: (o.hp 126 32 4 K r H)) (fun e H' => e = .returned (.bool true) ∧ ∃ D' A' m', Mq dt (.func (.func 18) #[] ([] : List Value).toArray) D' A' m' (r.write n (sec3 x y 9)) K 0 0 mb bx bys bp ∧ H' = m'.seg 110 :: D'.seg dt :: (o.hp 126 32 4 K (r.write n (sec3 x y 9)) H)) := by
  have okr := h.rel.ok hK
  have hbx := x.toNat_lt
  refine FnS_intro (n := 225) (rs := [.tmp 8]) (vs := [.agg (acells ⟨5, n, x, y, on⟩).toArray, ptr mb, .agg [ptr bx, ptr bys].toArray, ptr o.b]) Try.func38 rfl Try.ntmps38 rfl rfl ?_
  refine C_seq (C_region ?_)
  refine L_op rfl (op_box rfl rfl rfl (fun B1 => ?_))
  refine L_op rfl (op_box rfl rfl rfl (fun B2 => ?_))
  refine LY rfl (y_assign rfl) (L_nil (C_seq (C_region (LY rfl (y_fieldAddr rfl fl_54_2) (LY rfl (y_load rfl ag_5 (sees 1 0 rfl) rfl) (LY rfl (y_fieldAddr rfl fl_54_3) (LY rfl (y_load rfl ag_5 (sees 1 0 rfl) rfl) ?_)))))))
  refine L_op rfl (op_call rfl rfl (fun a w => Try.call20 a w) rfl ?_)
  refine (sector3_s x y).mono ?_
  rintro _ _ ⟨rfl, e⟩
  obtain rfl := e.symm
  clear e
  refine ⟨_, rfl, ?_⟩
  refine L_op rfl (op_alloc zl_32 rfl (fun B3 => ?_))
  refine L_op rfl (op_storeA 0 0 rfl rfl rfl sz_32 (by rw [bs_length, sec3_len _ _ _]) rfl (bs_one _) (by simp) ?_)
  refine L_nil (C_seq (C_region (LY rfl (y_assign rfl) (L_nil (C_seq (C_seq (C_region (LY rfl (y_fieldAddr rfl fl_54_0) (LY rfl (y_load rfl ag_3 (sees 2 0 rfl) rfl) (L_nil (C_block (C_seq (C_region (LY rfl (y_eqi rfl rfl) (LY rfl (y_assign rfl) (L_nil (C_cond_f rfl (C_seq (C_region (LY rfl (y_eqi rfl rfl) (LY rfl (y_assign rfl) (L_nil (C_cond_f rfl (C_seq (C_region (LY rfl (y_eqi rfl rfl) (LY rfl (y_assign rfl) (L_nil (C_cond_f rfl (C_seq (C_region (LY rfl (y_eqi rfl rfl) (LY rfl (y_assign rfl) (L_nil (C_cond_f rfl (C_seq (C_region (LY rfl (y_eqi rfl rfl) (LY rfl (y_assign rfl) (L_nil (C_cond_f rfl (C_seq (C_region (LY rfl (y_eqi rfl rfl) (LY rfl (y_assign rfl) (L_nil (C_cond_t rfl ?_)))))))))))))))))))))))))))))))))))))))))))))))
  refine C_regionH ([(B1, .cells (acells ⟨5, n, x, y, on⟩).toArray 54)] :: [(B3, .cells (bs (sec3 x y 9)).toArray 32)] :: H) (by kernel_rfl) ?_
  refine HY 0 rfl (((hsub (.cons_cons _ (.cons_cons _ (.cons _ (.cons _ (.cons _ (.cons _ (.cons _ (.cons _ (.cons _ (.cons _ (.refl _)))))))))))).trans (hsub_pick [2, 0] rfl))) rfl (y_move rfl) ?_
  refine HY 1 rfl (((hsub (.cons_cons _ (.cons_cons _ (.cons _ (.cons _ (.cons _ (.cons _ (.cons _ (.cons _ (.cons _ (.cons _ (.refl _)))))))))))).trans (hsub_pick [2, 0] rfl))) rfl (y_fieldAddr rfl fl_54_1) ?_
  refine HY 2 rfl (((hsub (.cons_cons _ (.cons_cons _ (.cons _ (.cons _ (.cons _ (.cons _ (.cons _ (.cons _ (.cons _ (.cons _ (.refl _)))))))))))).trans (hsub_pick [2, 0] rfl))) rfl (y_load rfl ag_3 (sees 0 0 rfl) rfl) ?_
  refine HY 3 rfl (((hsub (.cons_cons _ (.cons_cons _ (.cons _ (.cons _ (.cons _ (.cons _ (.cons _ (.cons _ (.cons _ (.cons _ (.refl _)))))))))))).trans (hsub_pick [2, 0] rfl))) rfl (y_loadA rfl ag_32 sz_32 (sees 1 0 rfl) (by rw [bs_length, sec3_len _ _ _]; decide) (bs_whole0 _ (sec3_len _ _ _))) ?_
  refine HY 5 rfl (((hsub (.cons_cons _ (.cons_cons _ (.cons _ (.cons _ (.cons _ (.cons _ (.cons _ (.cons _ (.cons _ (.cons _ (.refl _)))))))))))).trans (hsub_pick [2, 0] rfl))) rfl (y_move rfl) ?_
  refine HY 6 rfl (((hsub (.cons_cons _ (.cons_cons _ (.cons _ (.cons _ (.cons _ (.cons _ (.cons _ (.cons _ (.cons _ (.cons _ (.refl _)))))))))))).trans (hsub_pick [2, 0] rfl))) rfl (y_fieldAddr rfl fl_54_1) ?_
  refine HY 7 rfl (((hsub (.cons_cons _ (.cons_cons _ (.cons _ (.cons _ (.cons _ (.cons _ (.cons _ (.cons _ (.cons _ (.cons _ (.refl _)))))))))))).trans (hsub_pick [2, 0] rfl))) rfl (y_load rfl ag_3 (sees 0 0 rfl) rfl) ?_
  refine HY 8 rfl (((hsub (.cons_cons _ (.cons_cons _ (.cons _ (.cons _ (.cons _ (.cons _ (.cons _ (.cons _ (.cons _ (.cons _ (.refl _)))))))))))).trans (hsub_pick [2, 0] rfl))) rfl (y_loadA rfl ag_32 sz_32 (sees 1 0 rfl) (by rw [bs_length, sec3_len _ _ _]; decide) (bs_whole0 _ (sec3_len _ _ _))) ?_
  refine H_one 4 rfl (by kernel_rfl) rfl (op_call rfl rfl (fun a w => Try.call31 a w) rfl ?_)
  refine (FnS.sub (hsub_pick [3, 3] rfl) (choose_r h n (sec3 x y 9) (sec3_len _ _ _) (by decide) (by decide))).mono ?_
  rintro _ _ ⟨e4, D1, A1, m1, hS1, rfl⟩
  obtain rfl := e4
  refine ⟨_, rfl, ?_⟩
  refine ⟨((hsub (.cons_cons _ (.cons_cons _ (.cons _ (.cons _ (.cons _ (.cons _ (.cons _ (.cons _ (.cons _ (.cons _ (.refl _)))))))))))).trans (hsub_pick [4, 2] rfl)), ?_⟩
  refine H_one 9 rfl (by kernel_rfl) rfl (op_call rfl rfl (fun a w => Try.call66 a w) rfl ?_)
  refine (FnS.sub (hsub_pick [5, 5, 5, 5, 5] rfl) (rwrite_s okr n (sec3 x y 9) (sec3_len _ _ _))).mono ?_
  rintro _ _ ⟨rfl, rfl⟩
  refine ⟨_, rfl, ?_⟩
  refine ⟨((hsub (.cons_cons _ (.cons_cons _ (.cons _ (.cons _ (.cons _ (.cons _ (.cons _ (.cons _ (.cons _ (.cons _ (.refl _)))))))))))).trans (hsub_pick [9, 7] rfl)), ?_⟩
  refine HY 10 rfl (((hsub (.cons_cons _ (.cons_cons _ (.cons _ (.cons _ (.cons _ (.cons _ (.cons _ (.cons _ (.cons _ (.cons _ (.refl _)))))))))))).trans (hsub_pick [9, 7] rfl))) rfl (y_eqi rfl rfl) ?_
  refine HY 11 rfl (((hsub (.cons_cons _ (.cons_cons _ (.cons _ (.cons _ (.cons _ (.cons _ (.cons _ (.cons _ (.cons _ (.cons _ (.refl _)))))))))))).trans (hsub_pick [9, 7] rfl))) rfl (y_assign rfl) ?_
  refine H_done (by kernel_rfl) ?_
  refine C_seq (C_region (LY rfl (y_move rfl) ?_))
  refine L_op rfl (op_call rfl rfl (fun a w => Try.call21 a w) rfl ?_)
  refine (FnS.sub (hsub_pick [5, 5] rfl) (flush_r hS1)).mono ?_
  rintro _ _ ⟨e4, D2, A2, m2, hS2, rfl⟩
  obtain rfl := e4
  refine ⟨_, rfl, ?_⟩
  refine LY rfl (y_assign rfl) (L_nil (C_seq (C_region (LY rfl (y_move rfl) ?_))))
  refine L_op rfl (op_call rfl rfl (fun a w => Try.call35 a w) rfl ?_)
  refine (FnS.sub (hsub_pick [0] rfl) (stale_r hS2)).mono ?_
  rintro _ _ ⟨rfl, rfl⟩
  refine ⟨_, rfl, ?_⟩
  refine LY rfl (y_move rfl) (LY rfl (y_extract rfl rfl) (LY rfl (y_extract rfl rfl) (LY rfl (y_assign rfl) (LY rfl (y_assign rfl) (L_nil (C_seq (C_region (LY rfl (y_move rfl) (LY rfl (y_move rfl) ?_)))))))))
  refine L_case 194 rfl (fun hg30_2 => ?_) (fun hg30_2 => ?_)
  · skip
    refine LY rfl (y_move rfl) (LY rfl (y_eqi rfl rfl) (LY rfl (y_move rfl) (LY rfl (y_nilCheck rfl) (LY rfl (y_fieldAddr rfl fl_126_1) ?_))))
    refine LY rfl (y_indexA rfl rfl Try.underlying62 sz_4 (by omega) (by omega) (show _ = 2 from rfl)) ?_
    refine LY rfl (y_load rfl ag_4 (sees 2 0 rfl) rfl) (LY rfl (y_not rfl) (LY rfl (y_move rfl) ?_))
    refine L_case 203 rfl (fun hg30_11 => ?_) (fun hg30_11 => ?_)
    · skip
      refine L_skip rfl rfl (L_skip rfl rfl (L_skip rfl rfl (L_skip rfl rfl (L_skip rfl rfl (L_skip rfl rfl (LY rfl (y_pick_t rfl rfl) ?_))))))
      refine LY rfl (y_eqb rfl rfl Try.underlying4) ?_
      refine LY rfl (y_pick_t rfl rfl) (LY rfl (y_move rfl) ?_)
      refine L_case 213 rfl (fun hg30_21 => ?_) (fun hg30_21 => ?_)
      · skip
        refine LY rfl (y_move rfl) (LY rfl (y_move rfl) ?_)
        refine L_op rfl (op_call rfl rfl (fun a w => Try.call72 a w) rfl ?_)
        refine (FnS.sub (hsub_pick [2, 2, 2, 2, 2] rfl) (rcount0_s (hS2.rel.ok hK))).mono ?_
        rintro _ _ ⟨rfl, rfl⟩
        refine ⟨_, rfl, ?_⟩
        refine LY rfl (y_eqi rfl rfl) (LY rfl (y_pick_t rfl rfl) (LY rfl (y_move rfl) ?_))
        refine L_case 219 rfl (fun hg30_27 => ?_) (fun hg30_27 => ?_)
        · skip
          refine LY rfl (y_move rfl) (LY rfl (y_move rfl) ?_)
          refine L_op rfl (op_call rfl rfl (fun a w => Try.call72 a w) rfl ?_)
          refine (FnS.sub (hsub_pick [0, 0, 0, 0, 0] rfl) (rcount1_s (hS2.rel.ok hK))).mono ?_
          rintro _ _ ⟨rfl, rfl⟩
          refine ⟨_, rfl, ?_⟩
          refine LY rfl (y_eqi rfl rfl) (LY rfl (y_pick_t rfl rfl) (LY rfl (y_assign rfl) (L_nil (C_ret ?_))))
          refine B_ret (rv_tmp rfl rv_nil) ((hsub (.cons_cons _ (.cons_cons _ (.cons_cons _ (.cons_cons _ (.cons_cons _ (.cons_cons _ (.cons_cons _ (.cons _ (.cons _ (.cons _ (.refl _)))))))))))).trans (hsub_pick [5, 5, 0, 0, 0, 0, 0] rfl)) ?_
          exact ⟨ret_bool (by simp), _, _, _, hS2, rfl⟩
        · exact absurd hg30_27 (by simp)
      · exact absurd hg30_21 (by simp_all [Rm.put, Rm.sd])
    · skip
      refine LY rfl (y_move rfl) (LY rfl (y_nilCheck rfl) (LY rfl (y_fieldAddr rfl fl_126_1) ?_))
      refine LY rfl (y_indexA rfl rfl Try.underlying62 sz_4 (by omega) (by omega) (show _ = 3 from rfl)) ?_
      refine LY rfl (y_load rfl ag_4 (sees 2 0 rfl) rfl) (LY rfl (y_not rfl) (LY rfl (y_pick_f rfl rfl) ?_))
      refine LY rfl (y_eqb rfl rfl Try.underlying4) ?_
      refine LY rfl (y_pick_t rfl rfl) (LY rfl (y_move rfl) ?_)
      refine L_case 213 rfl (fun hg30_21 => ?_) (fun hg30_21 => ?_)
      · skip
        refine LY rfl (y_move rfl) (LY rfl (y_move rfl) ?_)
        refine L_op rfl (op_call rfl rfl (fun a w => Try.call72 a w) rfl ?_)
        refine (FnS.sub (hsub_pick [2, 2, 2, 2, 2] rfl) (rcount0_s (hS2.rel.ok hK))).mono ?_
        rintro _ _ ⟨rfl, rfl⟩
        refine ⟨_, rfl, ?_⟩
        refine LY rfl (y_eqi rfl rfl) (LY rfl (y_pick_t rfl rfl) (LY rfl (y_move rfl) ?_))
        refine L_case 219 rfl (fun hg30_27 => ?_) (fun hg30_27 => ?_)
        · skip
          refine LY rfl (y_move rfl) (LY rfl (y_move rfl) ?_)
          refine L_op rfl (op_call rfl rfl (fun a w => Try.call72 a w) rfl ?_)
          refine (FnS.sub (hsub_pick [0, 0, 0, 0, 0] rfl) (rcount1_s (hS2.rel.ok hK))).mono ?_
          rintro _ _ ⟨rfl, rfl⟩
          refine ⟨_, rfl, ?_⟩
          refine LY rfl (y_eqi rfl rfl) (LY rfl (y_pick_t rfl rfl) (LY rfl (y_assign rfl) (L_nil (C_ret ?_))))
          refine B_ret (rv_tmp rfl rv_nil) ((hsub (.cons_cons _ (.cons_cons _ (.cons_cons _ (.cons_cons _ (.cons_cons _ (.cons_cons _ (.cons_cons _ (.cons _ (.cons _ (.cons _ (.refl _)))))))))))).trans (hsub_pick [5, 5, 0, 0, 0, 0, 0] rfl)) ?_
          exact ⟨ret_bool (by simp), _, _, _, hS2, rfl⟩
        · exact absurd hg30_27 (by simp)
      · exact absurd hg30_21 (by simp_all [Rm.put, Rm.sd])
  · exact absurd hg30_2 (by simp)

set_option maxHeartbeats 1000000 in

theorem play_1 {w0 : World} {H : Hp} {o : Ro} {K : Nat} {r : Rm} {D : Duo} {A : Da} {m : Mi} {mb bx bys bp : Nat} (h : Mq dt (.func (.func 18) #[] ([] : List Value).toArray) D A m r K 0 0 mb bx bys bp) (hK : K ≤ 4096) (n : Int) (x y : UInt8) (on : Bool) : FnS Try.prog w0 38 #[.agg (acells ⟨1, n, x, y, on⟩).toArray, ptr mb, .agg [ptr bx, ptr bys].toArray, ptr o.b] (m.seg 110 :: D.seg dt :: (o.hp 126 32 4 K r H)) (fun e H' => e = .returned (.bool true) ∧ ∃ D' A' m', Mq dt (.func (.func 18) #[] ([] : List Value).toArray) D' A' m' r K 0 0 mb bx bys bp ∧ H' = m'.seg 110 :: D'.seg dt :: (o.hp 126 32 4 K r H)) := by
  have okr := h.rel.ok hK
  have hbx := x.toNat_lt
  refine FnS_intro (n := 225) (rs := [.tmp 8]) (vs := [.agg (acells ⟨1, n, x, y, on⟩).toArray, ptr mb, .agg [ptr bx, ptr bys].toArray, ptr o.b]) Try.func38 rfl Try.ntmps38 rfl rfl ?_
  refine C_seq (C_region ?_)
  refine L_op rfl (op_box rfl rfl rfl (fun B1 => ?_))
  refine L_op rfl (op_box rfl rfl rfl (fun B2 => ?_))
  refine LY rfl (y_assign rfl) (L_nil (C_seq (C_region (LY rfl (y_fieldAddr rfl fl_54_2) (LY rfl (y_load rfl ag_5 (sees 1 0 rfl) rfl) (LY rfl (y_fieldAddr rfl fl_54_3) (LY rfl (y_load rfl ag_5 (sees 1 0 rfl) rfl) ?_)))))))
  refine L_op rfl (op_call rfl rfl (fun a w => Try.call20 a w) rfl ?_)
  refine (sector3_s x y).mono ?_
  rintro _ _ ⟨rfl, e⟩
  obtain rfl := e.symm
  clear e
  refine ⟨_, rfl, ?_⟩
  refine L_op rfl (op_alloc zl_32 rfl (fun B3 => ?_))
  refine L_op rfl (op_storeA 0 0 rfl rfl rfl sz_32 (by rw [bs_length, sec3_len _ _ _]) rfl (bs_one _) (by simp) ?_)
  refine L_nil (C_seq (C_region (LY rfl (y_assign rfl) (L_nil (C_seq (C_seq (C_region (LY rfl (y_fieldAddr rfl fl_54_0) (LY rfl (y_load rfl ag_3 (sees 2 0 rfl) rfl) (L_nil (C_block (C_seq (C_region (LY rfl (y_eqi rfl rfl) (LY rfl (y_assign rfl) (L_nil (C_cond_f rfl (C_seq (C_region (LY rfl (y_eqi rfl rfl) (LY rfl (y_assign rfl) (L_nil (C_cond_t rfl (C_seq (C_region (LY rfl (y_move rfl) (LY rfl (y_fieldAddr rfl fl_54_1) (LY rfl (y_load rfl ag_3 (sees 2 0 rfl) rfl) ?_))))))))))))))))))))))))))))
  refine L_op rfl (op_call rfl rfl (fun a w => Try.call22 a w) rfl ?_)
  refine (FnS.sub (hsub_pick [3, 3] rfl) (read_r h good_at n)).mono ?_
  rintro _ _ ⟨e4, rfl⟩
  obtain rfl := e4
  refine ⟨_, rfl, ?_⟩
  refine LY rfl (y_move rfl) (LY rfl (y_extract rfl rfl) (LY rfl (y_extract rfl rfl) ?_))
  refine L_op rfl (op_alloc zl_32 rfl (fun B4 => ?_))
  refine L_op rfl (op_storeA 0 0 rfl rfl rfl sz_32 (by rw [bs_length, Rm.readS_len h.rel n]) rfl (bs_one _) (by simp) ?_)
  refine LY rfl (y_assign rfl) (L_nil (C_seq (C_region (LY rfl (y_move rfl) (LY rfl (y_fieldAddr rfl fl_54_1) (LY rfl (y_load rfl ag_3 (sees 5 0 rfl) rfl) ?_))))))
  refine L_op rfl (op_call rfl rfl (fun a w => Try.call67 a w) rfl ?_)
  refine (FnS.sub (hsub_pick [6, 6, 6, 6, 6] rfl) (rread_s okr n)).mono ?_
  rintro _ _ ⟨rfl, rfl⟩
  refine ⟨_, rfl, ?_⟩
  refine LY rfl (y_move rfl) (LY rfl (y_extract rfl rfl) (LY rfl (y_extract rfl rfl) ?_))
  refine L_op rfl (op_alloc zl_32 rfl (fun B5 => ?_))
  refine L_op rfl (op_storeA 0 0 rfl rfl rfl sz_32 (by rw [bs_length, Rm.readS_len h.rel n]) rfl (bs_one _) (by simp) ?_)
  refine LY rfl (y_assign rfl) (L_nil (C_region ?_))
  refine LY rfl (y_loadA rfl ag_32 sz_32 (sees 6 0 rfl) (by rw [bs_length, Rm.readS_len h.rel n]; decide) (bs_whole0 _ (Rm.readS_len h.rel n))) ?_
  refine LY rfl (y_loadA rfl ag_32 sz_32 (sees 0 0 rfl) (by rw [bs_length, Rm.readS_len h.rel n]; decide) (bs_whole0 _ (Rm.readS_len h.rel n))) ?_
  refine LY rfl (y_eqa rfl rfl Try.underlying32 Try.underlying5 sz_5 eg_32 (Rm.readS_len h.rel n) (Rm.readS_len h.rel n)) ?_
  refine LY rfl (y_move rfl) ?_
  refine L_case 61 rfl (fun hg9_4 => ?_) (fun hg9_4 => ?_)
  · skip
    refine LY rfl (y_move rfl) (LY rfl (y_move rfl) (LY rfl (y_eqi rfl rfl) (LY rfl (y_pick_t rfl rfl) (LY rfl (y_assign rfl) (L_nil (C_seq (C_region (LY rfl (y_move rfl) ?_))))))))
    refine L_op rfl (op_call rfl rfl (fun a w => Try.call21 a w) rfl ?_)
    refine (FnS.sub (hsub_pick [7, 7] rfl) (flush_r h)).mono ?_
    rintro _ _ ⟨e4, D1, A1, m1, hS1, rfl⟩
    obtain rfl := e4
    refine ⟨_, rfl, ?_⟩
    refine LY rfl (y_assign rfl) (L_nil (C_seq (C_region (LY rfl (y_move rfl) ?_))))
    refine L_op rfl (op_call rfl rfl (fun a w => Try.call35 a w) rfl ?_)
    refine (FnS.sub (hsub_pick [0] rfl) (stale_r hS1)).mono ?_
    rintro _ _ ⟨rfl, rfl⟩
    refine ⟨_, rfl, ?_⟩
    refine LY rfl (y_move rfl) (LY rfl (y_extract rfl rfl) (LY rfl (y_extract rfl rfl) (LY rfl (y_assign rfl) (LY rfl (y_assign rfl) (L_nil (C_seq (C_region (LY rfl (y_move rfl) (LY rfl (y_move rfl) ?_)))))))))
    refine L_case 194 rfl (fun hg30_2 => ?_) (fun hg30_2 => ?_)
    · skip
      refine LY rfl (y_move rfl) (LY rfl (y_eqi rfl rfl) (LY rfl (y_move rfl) (LY rfl (y_nilCheck rfl) (LY rfl (y_fieldAddr rfl fl_126_1) ?_))))
      refine LY rfl (y_indexA rfl rfl Try.underlying62 sz_4 (by omega) (by omega) (show _ = 2 from rfl)) ?_
      refine LY rfl (y_load rfl ag_4 (sees 3 0 rfl) rfl) (LY rfl (y_not rfl) (LY rfl (y_move rfl) ?_))
      refine L_case 203 rfl (fun hg30_11 => ?_) (fun hg30_11 => ?_)
      · skip
        refine L_skip rfl rfl (L_skip rfl rfl (L_skip rfl rfl (L_skip rfl rfl (L_skip rfl rfl (L_skip rfl rfl (LY rfl (y_pick_t rfl rfl) ?_))))))
        refine LY rfl (y_eqb rfl rfl Try.underlying4) ?_
        refine LY rfl (y_pick_t rfl rfl) (LY rfl (y_move rfl) ?_)
        refine L_case 213 rfl (fun hg30_21 => ?_) (fun hg30_21 => ?_)
        · skip
          refine LY rfl (y_move rfl) (LY rfl (y_move rfl) ?_)
          refine L_op rfl (op_call rfl rfl (fun a w => Try.call72 a w) rfl ?_)
          refine (FnS.sub (hsub_pick [3, 3, 3, 3, 3] rfl) (rcount0_s (hS1.rel.ok hK))).mono ?_
          rintro _ _ ⟨rfl, rfl⟩
          refine ⟨_, rfl, ?_⟩
          refine LY rfl (y_eqi rfl rfl) (LY rfl (y_pick_t rfl rfl) (LY rfl (y_move rfl) ?_))
          refine L_case 219 rfl (fun hg30_27 => ?_) (fun hg30_27 => ?_)
          · skip
            refine LY rfl (y_move rfl) (LY rfl (y_move rfl) ?_)
            refine L_op rfl (op_call rfl rfl (fun a w => Try.call72 a w) rfl ?_)
            refine (FnS.sub (hsub_pick [0, 0, 0, 0, 0] rfl) (rcount1_s (hS1.rel.ok hK))).mono ?_
            rintro _ _ ⟨rfl, rfl⟩
            refine ⟨_, rfl, ?_⟩
            refine LY rfl (y_eqi rfl rfl) (LY rfl (y_pick_t rfl rfl) (LY rfl (y_assign rfl) (L_nil (C_ret ?_))))
            refine B_ret (rv_tmp rfl rv_nil) ((hsub (.cons_cons _ (.cons_cons _ (.cons_cons _ (.cons_cons _ (.cons_cons _ (.cons_cons _ (.cons_cons _ (.cons _ (.cons _ (.cons _ (.cons _ (.cons _ (.refl _)))))))))))))).trans (hsub_pick [5, 5, 0, 0, 0, 0, 0] rfl)) ?_
            exact ⟨ret_bool (by simp), _, _, _, hS1, rfl⟩
          · exact absurd hg30_27 (by simp)
        · exact absurd hg30_21 (by simp_all [Rm.put, Rm.sd])
      · skip
        refine LY rfl (y_move rfl) (LY rfl (y_nilCheck rfl) (LY rfl (y_fieldAddr rfl fl_126_1) ?_))
        refine LY rfl (y_indexA rfl rfl Try.underlying62 sz_4 (by omega) (by omega) (show _ = 3 from rfl)) ?_
        refine LY rfl (y_load rfl ag_4 (sees 3 0 rfl) rfl) (LY rfl (y_not rfl) (LY rfl (y_pick_f rfl rfl) ?_))
        refine LY rfl (y_eqb rfl rfl Try.underlying4) ?_
        refine LY rfl (y_pick_t rfl rfl) (LY rfl (y_move rfl) ?_)
        refine L_case 213 rfl (fun hg30_21 => ?_) (fun hg30_21 => ?_)
        · skip
          refine LY rfl (y_move rfl) (LY rfl (y_move rfl) ?_)
          refine L_op rfl (op_call rfl rfl (fun a w => Try.call72 a w) rfl ?_)
          refine (FnS.sub (hsub_pick [3, 3, 3, 3, 3] rfl) (rcount0_s (hS1.rel.ok hK))).mono ?_
          rintro _ _ ⟨rfl, rfl⟩
          refine ⟨_, rfl, ?_⟩
          refine LY rfl (y_eqi rfl rfl) (LY rfl (y_pick_t rfl rfl) (LY rfl (y_move rfl) ?_))
          refine L_case 219 rfl (fun hg30_27 => ?_) (fun hg30_27 => ?_)
          · skip
            refine LY rfl (y_move rfl) (LY rfl (y_move rfl) ?_)
            refine L_op rfl (op_call rfl rfl (fun a w => Try.call72 a w) rfl ?_)
            refine (FnS.sub (hsub_pick [0, 0, 0, 0, 0] rfl) (rcount1_s (hS1.rel.ok hK))).mono ?_
            rintro _ _ ⟨rfl, rfl⟩
            refine ⟨_, rfl, ?_⟩
            refine LY rfl (y_eqi rfl rfl) (LY rfl (y_pick_t rfl rfl) (LY rfl (y_assign rfl) (L_nil (C_ret ?_))))
            refine B_ret (rv_tmp rfl rv_nil) ((hsub (.cons_cons _ (.cons_cons _ (.cons_cons _ (.cons_cons _ (.cons_cons _ (.cons_cons _ (.cons_cons _ (.cons _ (.cons _ (.cons _ (.cons _ (.cons _ (.refl _)))))))))))))).trans (hsub_pick [5, 5, 0, 0, 0, 0, 0] rfl)) ?_
            exact ⟨ret_bool (by simp), _, _, _, hS1, rfl⟩
          · exact absurd hg30_27 (by simp)
        · exact absurd hg30_21 (by simp_all [Rm.put, Rm.sd])
    · exact absurd hg30_2 (by simp)
  · exact absurd hg9_4 (by simp)

set_option maxHeartbeats 1000000 in

theorem play_2 {w0 : World} {H : Hp} {o : Ro} {K : Nat} {r : Rm} {D : Duo} {A : Da} {m : Mi} {mb bx bys bp : Nat} (h : Mq dt (.func (.func 18) #[] ([] : List Value).toArray) D A m r K 0 0 mb bx bys bp) (hK : K ≤ 4096) (n : Int) (x y : UInt8) (on : Bool) : FnS Try.prog w0 38 #[.agg (acells ⟨2, n, x, y, on⟩).toArray, ptr mb, .agg [ptr bx, ptr bys].toArray, ptr o.b] (m.seg 110 :: D.seg dt :: (o.hp 126 32 4 K r H)) (fun e H' => e = .returned (.bool true) ∧ ∃ D' A' m', Mq dt (.func (.func 18) #[] ([] : List Value).toArray) D' A' m' (r.sync goodP) K 0 0 mb bx bys bp ∧ H' = m'.seg 110 :: D'.seg dt :: (o.hp 126 32 4 K (r.sync goodP) H)) := by
  have okr := h.rel.ok hK
  have hbx := x.toNat_lt
  refine FnS_intro (n := 225) (rs := [.tmp 8]) (vs := [.agg (acells ⟨2, n, x, y, on⟩).toArray, ptr mb, .agg [ptr bx, ptr bys].toArray, ptr o.b]) Try.func38 rfl Try.ntmps38 rfl rfl ?_
  refine C_seq (C_region ?_)
  refine L_op rfl (op_box rfl rfl rfl (fun B1 => ?_))
  refine L_op rfl (op_box rfl rfl rfl (fun B2 => ?_))
  refine LY rfl (y_assign rfl) (L_nil (C_seq (C_region (LY rfl (y_fieldAddr rfl fl_54_2) (LY rfl (y_load rfl ag_5 (sees 1 0 rfl) rfl) (LY rfl (y_fieldAddr rfl fl_54_3) (LY rfl (y_load rfl ag_5 (sees 1 0 rfl) rfl) ?_)))))))
  refine L_op rfl (op_call rfl rfl (fun a w => Try.call20 a w) rfl ?_)
  refine (sector3_s x y).mono ?_
  rintro _ _ ⟨rfl, e⟩
  obtain rfl := e.symm
  clear e
  refine ⟨_, rfl, ?_⟩
  refine L_op rfl (op_alloc zl_32 rfl (fun B3 => ?_))
  refine L_op rfl (op_storeA 0 0 rfl rfl rfl sz_32 (by rw [bs_length, sec3_len _ _ _]) rfl (bs_one _) (by simp) ?_)
  refine L_nil (C_seq (C_region (LY rfl (y_assign rfl) (L_nil (C_seq (C_seq (C_region (LY rfl (y_fieldAddr rfl fl_54_0) (LY rfl (y_load rfl ag_3 (sees 2 0 rfl) rfl) (L_nil (C_block (C_seq (C_region (LY rfl (y_eqi rfl rfl) (LY rfl (y_assign rfl) (L_nil (C_cond_f rfl (C_seq (C_region (LY rfl (y_eqi rfl rfl) (LY rfl (y_assign rfl) (L_nil (C_cond_f rfl (C_seq (C_region (LY rfl (y_eqi rfl rfl) (LY rfl (y_assign rfl) (L_nil (C_cond_t rfl (C_region (LY rfl (y_move rfl) ?_)))))))))))))))))))))))))))))))
  refine L_op rfl (op_call rfl rfl (fun a w => Try.call32 a w) rfl ?_)
  refine (FnS.sub (hsub_pick [3, 3] rfl) (sync_r h good_at (by decide) (by decide) hK)).mono ?_
  rintro _ _ ⟨e4, D1, A1, m1, hS1, rfl⟩
  obtain rfl := e4
  refine ⟨_, rfl, ?_⟩
  refine LY rfl (y_move rfl) ?_
  refine L_op rfl (op_call rfl rfl (fun a w => Try.call68 a w) rfl ?_)
  refine (FnS.sub (hsub_pick [5, 5, 5, 5, 5] rfl) (rsync_s okr)).mono ?_
  rintro _ _ ⟨rfl, rfl⟩
  refine ⟨_, rfl, ?_⟩
  refine LY rfl (y_eqi rfl rfl) (LY rfl (y_assign rfl) (L_nil (C_seq (C_region (LY rfl (y_move rfl) ?_)))))
  refine L_op rfl (op_call rfl rfl (fun a w => Try.call21 a w) rfl ?_)
  refine (FnS.sub (hsub_pick [5, 5] rfl) (flush_r hS1)).mono ?_
  rintro _ _ ⟨e4, D2, A2, m2, hS2, rfl⟩
  obtain rfl := e4
  refine ⟨_, rfl, ?_⟩
  refine LY rfl (y_assign rfl) (L_nil (C_seq (C_region (LY rfl (y_move rfl) ?_))))
  refine L_op rfl (op_call rfl rfl (fun a w => Try.call35 a w) rfl ?_)
  refine (FnS.sub (hsub_pick [0] rfl) (stale_r hS2)).mono ?_
  rintro _ _ ⟨rfl, rfl⟩
  refine ⟨_, rfl, ?_⟩
  refine LY rfl (y_move rfl) (LY rfl (y_extract rfl rfl) (LY rfl (y_extract rfl rfl) (LY rfl (y_assign rfl) (LY rfl (y_assign rfl) (L_nil (C_seq (C_region (LY rfl (y_move rfl) (LY rfl (y_move rfl) ?_)))))))))
  refine L_case 194 rfl (fun hg30_2 => ?_) (fun hg30_2 => ?_)
  · skip
    refine LY rfl (y_move rfl) (LY rfl (y_eqi rfl rfl) (LY rfl (y_move rfl) (LY rfl (y_nilCheck rfl) (LY rfl (y_fieldAddr rfl fl_126_1) ?_))))
    refine LY rfl (y_indexA rfl rfl Try.underlying62 sz_4 (by omega) (by omega) (show _ = 2 from rfl)) ?_
    refine LY rfl (y_load rfl ag_4 (sees 2 0 rfl) rfl) (LY rfl (y_not rfl) (LY rfl (y_move rfl) ?_))
    refine L_case 203 rfl (fun hg30_11 => ?_) (fun hg30_11 => ?_)
    · skip
      refine L_skip rfl rfl (L_skip rfl rfl (L_skip rfl rfl (L_skip rfl rfl (L_skip rfl rfl (L_skip rfl rfl (LY rfl (y_pick_t rfl rfl) ?_))))))
      refine LY rfl (y_eqb rfl rfl Try.underlying4) ?_
      refine LY rfl (y_pick_t rfl rfl) (LY rfl (y_move rfl) ?_)
      refine L_case 213 rfl (fun hg30_21 => ?_) (fun hg30_21 => ?_)
      · skip
        refine LY rfl (y_move rfl) (LY rfl (y_move rfl) ?_)
        refine L_op rfl (op_call rfl rfl (fun a w => Try.call72 a w) rfl ?_)
        refine (FnS.sub (hsub_pick [2, 2, 2, 2, 2] rfl) (rcount0_s (hS2.rel.ok hK))).mono ?_
        rintro _ _ ⟨rfl, rfl⟩
        refine ⟨_, rfl, ?_⟩
        refine LY rfl (y_eqi rfl rfl) (LY rfl (y_pick_t rfl rfl) (LY rfl (y_move rfl) ?_))
        refine L_case 219 rfl (fun hg30_27 => ?_) (fun hg30_27 => ?_)
        · skip
          refine LY rfl (y_move rfl) (LY rfl (y_move rfl) ?_)
          refine L_op rfl (op_call rfl rfl (fun a w => Try.call72 a w) rfl ?_)
          refine (FnS.sub (hsub_pick [0, 0, 0, 0, 0] rfl) (rcount1_s (hS2.rel.ok hK))).mono ?_
          rintro _ _ ⟨rfl, rfl⟩
          refine ⟨_, rfl, ?_⟩
          refine LY rfl (y_eqi rfl rfl) (LY rfl (y_pick_t rfl rfl) (LY rfl (y_assign rfl) (L_nil (C_ret ?_))))
          refine B_ret (rv_tmp rfl rv_nil) ((hsub (.cons_cons _ (.cons_cons _ (.cons_cons _ (.cons_cons _ (.cons_cons _ (.cons_cons _ (.cons_cons _ (.cons _ (.cons _ (.cons _ (.refl _)))))))))))).trans (hsub_pick [5, 5, 0, 0, 0, 0, 0] rfl)) ?_
          exact ⟨ret_bool (by simp), _, _, _, hS2, rfl⟩
        · exact absurd hg30_27 (by simp)
      · exact absurd hg30_21 (by simp_all [Rm.put, Rm.sd])
    · skip
      refine LY rfl (y_move rfl) (LY rfl (y_nilCheck rfl) (LY rfl (y_fieldAddr rfl fl_126_1) ?_))
      refine LY rfl (y_indexA rfl rfl Try.underlying62 sz_4 (by omega) (by omega) (show _ = 3 from rfl)) ?_
      refine LY rfl (y_load rfl ag_4 (sees 2 0 rfl) rfl) (LY rfl (y_not rfl) (LY rfl (y_pick_f rfl rfl) ?_))
      refine LY rfl (y_eqb rfl rfl Try.underlying4) ?_
      refine LY rfl (y_pick_t rfl rfl) (LY rfl (y_move rfl) ?_)
      refine L_case 213 rfl (fun hg30_21 => ?_) (fun hg30_21 => ?_)
      · skip
        refine LY rfl (y_move rfl) (LY rfl (y_move rfl) ?_)
        refine L_op rfl (op_call rfl rfl (fun a w => Try.call72 a w) rfl ?_)
        refine (FnS.sub (hsub_pick [2, 2, 2, 2, 2] rfl) (rcount0_s (hS2.rel.ok hK))).mono ?_
        rintro _ _ ⟨rfl, rfl⟩
        refine ⟨_, rfl, ?_⟩
        refine LY rfl (y_eqi rfl rfl) (LY rfl (y_pick_t rfl rfl) (LY rfl (y_move rfl) ?_))
        refine L_case 219 rfl (fun hg30_27 => ?_) (fun hg30_27 => ?_)
        · skip
          refine LY rfl (y_move rfl) (LY rfl (y_move rfl) ?_)
          refine L_op rfl (op_call rfl rfl (fun a w => Try.call72 a w) rfl ?_)
          refine (FnS.sub (hsub_pick [0, 0, 0, 0, 0] rfl) (rcount1_s (hS2.rel.ok hK))).mono ?_
          rintro _ _ ⟨rfl, rfl⟩
          refine ⟨_, rfl, ?_⟩
          refine LY rfl (y_eqi rfl rfl) (LY rfl (y_pick_t rfl rfl) (LY rfl (y_assign rfl) (L_nil (C_ret ?_))))
          refine B_ret (rv_tmp rfl rv_nil) ((hsub (.cons_cons _ (.cons_cons _ (.cons_cons _ (.cons_cons _ (.cons_cons _ (.cons_cons _ (.cons_cons _ (.cons _ (.cons _ (.cons _ (.refl _)))))))))))).trans (hsub_pick [5, 5, 0, 0, 0, 0, 0] rfl)) ?_
          exact ⟨ret_bool (by simp), _, _, _, hS2, rfl⟩
        · exact absurd hg30_27 (by simp)
      · exact absurd hg30_21 (by simp_all [Rm.put, Rm.sd])
  · exact absurd hg30_2 (by simp)

set_option maxHeartbeats 1000000 in

theorem play_3 {w0 : World} {H : Hp} {o : Ro} {K : Nat} {r : Rm} {D : Duo} {A : Da} {m : Mi} {mb bx bys bp : Nat} (h : Mq dt (.func (.func 18) #[] ([] : List Value).toArray) D A m r K 0 0 mb bx bys bp) (hK : K ≤ 4096) (n : Int) (x y : UInt8) (on : Bool) : FnS Try.prog w0 38 #[.agg (acells ⟨3, n, x, y, on⟩).toArray, ptr mb, .agg [ptr bx, ptr bys].toArray, ptr o.b] (m.seg 110 :: D.seg dt :: (o.hp 126 32 4 K r H)) (fun e H' => e = .returned (.bool true) ∧ ∃ D' A' m', Mq dt (.func (.func 18) #[] ([] : List Value).toArray) D' A' m' (r.heal goodP n) K 0 0 mb bx bys bp ∧ H' = m'.seg 110 :: D'.seg dt :: (o.hp 126 32 4 K (r.heal goodP n) H)) := by
  have okr := h.rel.ok hK
  have hbx := x.toNat_lt
  refine FnS_intro (n := 225) (rs := [.tmp 8]) (vs := [.agg (acells ⟨3, n, x, y, on⟩).toArray, ptr mb, .agg [ptr bx, ptr bys].toArray, ptr o.b]) Try.func38 rfl Try.ntmps38 rfl rfl ?_
  refine C_seq (C_region ?_)
  refine L_op rfl (op_box rfl rfl rfl (fun B1 => ?_))
  refine L_op rfl (op_box rfl rfl rfl (fun B2 => ?_))
  refine LY rfl (y_assign rfl) (L_nil (C_seq (C_region (LY rfl (y_fieldAddr rfl fl_54_2) (LY rfl (y_load rfl ag_5 (sees 1 0 rfl) rfl) (LY rfl (y_fieldAddr rfl fl_54_3) (LY rfl (y_load rfl ag_5 (sees 1 0 rfl) rfl) ?_)))))))
  refine L_op rfl (op_call rfl rfl (fun a w => Try.call20 a w) rfl ?_)
  refine (sector3_s x y).mono ?_
  rintro _ _ ⟨rfl, e⟩
  obtain rfl := e.symm
  clear e
  refine ⟨_, rfl, ?_⟩
  refine L_op rfl (op_alloc zl_32 rfl (fun B3 => ?_))
  refine L_op rfl (op_storeA 0 0 rfl rfl rfl sz_32 (by rw [bs_length, sec3_len _ _ _]) rfl (bs_one _) (by simp) ?_)
  refine L_nil (C_seq (C_region (LY rfl (y_assign rfl) (L_nil (C_seq (C_seq (C_region (LY rfl (y_fieldAddr rfl fl_54_0) (LY rfl (y_load rfl ag_3 (sees 2 0 rfl) rfl) (L_nil (C_block (C_seq (C_region (LY rfl (y_eqi rfl rfl) (LY rfl (y_assign rfl) (L_nil (C_cond_f rfl (C_seq (C_region (LY rfl (y_eqi rfl rfl) (LY rfl (y_assign rfl) (L_nil (C_cond_f rfl (C_seq (C_region (LY rfl (y_eqi rfl rfl) (LY rfl (y_assign rfl) (L_nil (C_cond_f rfl (C_seq (C_region (LY rfl (y_eqi rfl rfl) (LY rfl (y_assign rfl) (L_nil (C_cond_t rfl (C_seq (C_region (LY rfl (y_move rfl) (LY rfl (y_fieldAddr rfl fl_54_1) (LY rfl (y_load rfl ag_3 (sees 2 0 rfl) rfl) ?_))))))))))))))))))))))))))))))))))))))))
  refine L_op rfl (op_call rfl rfl (fun a w => Try.call23 a w) rfl ?_)
  refine (FnS.sub (hsub_pick [3, 3] rfl) (heal_r h good_at n (by decide) (by decide))).mono ?_
  rintro _ _ ⟨e4, D1, A1, m1, hS1, rfl⟩
  obtain rfl := e4
  refine ⟨_, rfl, ?_⟩
  refine LY rfl (y_move rfl) (LY rfl (y_extract rfl rfl) (LY rfl (y_extract rfl rfl) (LY rfl (y_assign rfl) (LY rfl (y_assign rfl) (L_nil (C_seq (C_region (LY rfl (y_move rfl) (LY rfl (y_fieldAddr rfl fl_54_1) (LY rfl (y_load rfl ag_3 (sees 4 0 rfl) rfl) ?_))))))))))
  refine L_op rfl (op_call rfl rfl (fun a w => Try.call69 a w) rfl ?_)
  refine (FnS.sub (hsub_pick [5, 5, 5, 5, 5] rfl) (rheal_s okr n)).mono ?_
  rintro _ _ ⟨rfl, rfl⟩
  refine ⟨_, rfl, ?_⟩
  refine LY rfl (y_move rfl) (LY rfl (y_extract rfl rfl) (LY rfl (y_extract rfl rfl) (LY rfl (y_assign rfl) (LY rfl (y_assign rfl) (L_nil (C_region (LY rfl (y_move rfl) (LY rfl (y_move rfl) (LY rfl (y_eqi rfl rfl) (LY rfl (y_move rfl) ?_))))))))))
  refine L_case 92 rfl (fun hg15_4 => ?_) (fun hg15_4 => ?_)
  · skip
    refine LY rfl (y_move rfl) (LY rfl (y_move rfl) (LY rfl (y_eqi rfl rfl) (LY rfl (y_pick_t rfl rfl) (LY rfl (y_assign rfl) (L_nil (C_seq (C_region (LY rfl (y_move rfl) ?_))))))))
    refine L_op rfl (op_call rfl rfl (fun a w => Try.call21 a w) rfl ?_)
    refine (FnS.sub (hsub_pick [5, 5] rfl) (flush_r hS1)).mono ?_
    rintro _ _ ⟨e4, D2, A2, m2, hS2, rfl⟩
    obtain rfl := e4
    refine ⟨_, rfl, ?_⟩
    refine LY rfl (y_assign rfl) (L_nil (C_seq (C_region (LY rfl (y_move rfl) ?_))))
    refine L_op rfl (op_call rfl rfl (fun a w => Try.call35 a w) rfl ?_)
    refine (FnS.sub (hsub_pick [0] rfl) (stale_r hS2)).mono ?_
    rintro _ _ ⟨rfl, rfl⟩
    refine ⟨_, rfl, ?_⟩
    refine LY rfl (y_move rfl) (LY rfl (y_extract rfl rfl) (LY rfl (y_extract rfl rfl) (LY rfl (y_assign rfl) (LY rfl (y_assign rfl) (L_nil (C_seq (C_region (LY rfl (y_move rfl) (LY rfl (y_move rfl) ?_)))))))))
    refine L_case 194 rfl (fun hg30_2 => ?_) (fun hg30_2 => ?_)
    · skip
      refine LY rfl (y_move rfl) (LY rfl (y_eqi rfl rfl) (LY rfl (y_move rfl) (LY rfl (y_nilCheck rfl) (LY rfl (y_fieldAddr rfl fl_126_1) ?_))))
      refine LY rfl (y_indexA rfl rfl Try.underlying62 sz_4 (by omega) (by omega) (show _ = 2 from rfl)) ?_
      refine LY rfl (y_load rfl ag_4 (sees 2 0 rfl) rfl) (LY rfl (y_not rfl) (LY rfl (y_move rfl) ?_))
      refine L_case 203 rfl (fun hg30_11 => ?_) (fun hg30_11 => ?_)
      · skip
        refine L_skip rfl rfl (L_skip rfl rfl (L_skip rfl rfl (L_skip rfl rfl (L_skip rfl rfl (L_skip rfl rfl (LY rfl (y_pick_t rfl rfl) ?_))))))
        refine LY rfl (y_eqb rfl rfl Try.underlying4) ?_
        refine LY rfl (y_pick_t rfl rfl) (LY rfl (y_move rfl) ?_)
        refine L_case 213 rfl (fun hg30_21 => ?_) (fun hg30_21 => ?_)
        · skip
          refine LY rfl (y_move rfl) (LY rfl (y_move rfl) ?_)
          refine L_op rfl (op_call rfl rfl (fun a w => Try.call72 a w) rfl ?_)
          refine (FnS.sub (hsub_pick [2, 2, 2, 2, 2] rfl) (rcount0_s (hS2.rel.ok hK))).mono ?_
          rintro _ _ ⟨rfl, rfl⟩
          refine ⟨_, rfl, ?_⟩
          refine LY rfl (y_eqi rfl rfl) (LY rfl (y_pick_t rfl rfl) (LY rfl (y_move rfl) ?_))
          refine L_case 219 rfl (fun hg30_27 => ?_) (fun hg30_27 => ?_)
          · skip
            refine LY rfl (y_move rfl) (LY rfl (y_move rfl) ?_)
            refine L_op rfl (op_call rfl rfl (fun a w => Try.call72 a w) rfl ?_)
            refine (FnS.sub (hsub_pick [0, 0, 0, 0, 0] rfl) (rcount1_s (hS2.rel.ok hK))).mono ?_
            rintro _ _ ⟨rfl, rfl⟩
            refine ⟨_, rfl, ?_⟩
            refine LY rfl (y_eqi rfl rfl) (LY rfl (y_pick_t rfl rfl) (LY rfl (y_assign rfl) (L_nil (C_ret ?_))))
            refine B_ret (rv_tmp rfl rv_nil) ((hsub (.cons_cons _ (.cons_cons _ (.cons_cons _ (.cons_cons _ (.cons_cons _ (.cons_cons _ (.cons_cons _ (.cons _ (.cons _ (.cons _ (.refl _)))))))))))).trans (hsub_pick [5, 5, 0, 0, 0, 0, 0] rfl)) ?_
            exact ⟨ret_bool (by simp), _, _, _, hS2, rfl⟩
          · exact absurd hg30_27 (by simp)
        · exact absurd hg30_21 (by simp_all [Rm.put, Rm.sd])
      · skip
        refine LY rfl (y_move rfl) (LY rfl (y_nilCheck rfl) (LY rfl (y_fieldAddr rfl fl_126_1) ?_))
        refine LY rfl (y_indexA rfl rfl Try.underlying62 sz_4 (by omega) (by omega) (show _ = 3 from rfl)) ?_
        refine LY rfl (y_load rfl ag_4 (sees 2 0 rfl) rfl) (LY rfl (y_not rfl) (LY rfl (y_pick_f rfl rfl) ?_))
        refine LY rfl (y_eqb rfl rfl Try.underlying4) ?_
        refine LY rfl (y_pick_t rfl rfl) (LY rfl (y_move rfl) ?_)
        refine L_case 213 rfl (fun hg30_21 => ?_) (fun hg30_21 => ?_)
        · skip
          refine LY rfl (y_move rfl) (LY rfl (y_move rfl) ?_)
          refine L_op rfl (op_call rfl rfl (fun a w => Try.call72 a w) rfl ?_)
          refine (FnS.sub (hsub_pick [2, 2, 2, 2, 2] rfl) (rcount0_s (hS2.rel.ok hK))).mono ?_
          rintro _ _ ⟨rfl, rfl⟩
          refine ⟨_, rfl, ?_⟩
          refine LY rfl (y_eqi rfl rfl) (LY rfl (y_pick_t rfl rfl) (LY rfl (y_move rfl) ?_))
          refine L_case 219 rfl (fun hg30_27 => ?_) (fun hg30_27 => ?_)
          · skip
            refine LY rfl (y_move rfl) (LY rfl (y_move rfl) ?_)
            refine L_op rfl (op_call rfl rfl (fun a w => Try.call72 a w) rfl ?_)
            refine (FnS.sub (hsub_pick [0, 0, 0, 0, 0] rfl) (rcount1_s (hS2.rel.ok hK))).mono ?_
            rintro _ _ ⟨rfl, rfl⟩
            refine ⟨_, rfl, ?_⟩
            refine LY rfl (y_eqi rfl rfl) (LY rfl (y_pick_t rfl rfl) (LY rfl (y_assign rfl) (L_nil (C_ret ?_))))
            refine B_ret (rv_tmp rfl rv_nil) ((hsub (.cons_cons _ (.cons_cons _ (.cons_cons _ (.cons_cons _ (.cons_cons _ (.cons_cons _ (.cons_cons _ (.cons _ (.cons _ (.cons _ (.refl _)))))))))))).trans (hsub_pick [5, 5, 0, 0, 0, 0, 0] rfl)) ?_
            exact ⟨ret_bool (by simp), _, _, _, hS2, rfl⟩
          · exact absurd hg30_27 (by simp)
        · exact absurd hg30_21 (by simp_all [Rm.put, Rm.sd])
    · exact absurd hg30_2 (by simp)
  · exact absurd hg15_4 (by simp)

set_option maxHeartbeats 1000000 in

theorem play_4 {w0 : World} {H : Hp} {o : Ro} {K : Nat} {r : Rm} {D : Duo} {A : Da} {m : Mi} {mb bx bys bp : Nat} (h : Mq dt (.func (.func 18) #[] ([] : List Value).toArray) D A m r K 0 0 mb bx bys bp) (hK : K ≤ 4096) (n : Int) (x y : UInt8) (on : Bool) : FnS Try.prog w0 38 #[.agg (acells ⟨4, n, x, y, on⟩).toArray, ptr mb, .agg [ptr bx, ptr bys].toArray, ptr o.b] (m.seg 110 :: D.seg dt :: (o.hp 126 32 4 K r H)) (fun e H' => e = .returned (.bool true) ∧ ∃ D' A' m', Mq dt (.func (.func 18) #[] ([] : List Value).toArray) D' A' m' r K 0 0 mb bx bys bp ∧ H' = m'.seg 110 :: D'.seg dt :: (o.hp 126 32 4 K r H)) := by
  have okr := h.rel.ok hK
  have hbx := x.toNat_lt
  refine FnS_intro (n := 225) (rs := [.tmp 8]) (vs := [.agg (acells ⟨4, n, x, y, on⟩).toArray, ptr mb, .agg [ptr bx, ptr bys].toArray, ptr o.b]) Try.func38 rfl Try.ntmps38 rfl rfl ?_
  refine C_seq (C_region ?_)
  refine L_op rfl (op_box rfl rfl rfl (fun B1 => ?_))
  refine L_op rfl (op_box rfl rfl rfl (fun B2 => ?_))
  refine LY rfl (y_assign rfl) (L_nil (C_seq (C_region (LY rfl (y_fieldAddr rfl fl_54_2) (LY rfl (y_load rfl ag_5 (sees 1 0 rfl) rfl) (LY rfl (y_fieldAddr rfl fl_54_3) (LY rfl (y_load rfl ag_5 (sees 1 0 rfl) rfl) ?_)))))))
  refine L_op rfl (op_call rfl rfl (fun a w => Try.call20 a w) rfl ?_)
  refine (sector3_s x y).mono ?_
  rintro _ _ ⟨rfl, e⟩
  obtain rfl := e.symm
  clear e
  refine ⟨_, rfl, ?_⟩
  refine L_op rfl (op_alloc zl_32 rfl (fun B3 => ?_))
  refine L_op rfl (op_storeA 0 0 rfl rfl rfl sz_32 (by rw [bs_length, sec3_len _ _ _]) rfl (bs_one _) (by simp) ?_)
  refine L_nil (C_seq (C_region (LY rfl (y_assign rfl) (L_nil (C_seq (C_seq (C_region (LY rfl (y_fieldAddr rfl fl_54_0) (LY rfl (y_load rfl ag_3 (sees 2 0 rfl) rfl) (L_nil (C_block (C_seq (C_region (LY rfl (y_eqi rfl rfl) (LY rfl (y_assign rfl) (L_nil (C_cond_f rfl (C_seq (C_region (LY rfl (y_eqi rfl rfl) (LY rfl (y_assign rfl) (L_nil (C_cond_f rfl (C_seq (C_region (LY rfl (y_eqi rfl rfl) (LY rfl (y_assign rfl) (L_nil (C_cond_f rfl (C_seq (C_region (LY rfl (y_eqi rfl rfl) (LY rfl (y_assign rfl) (L_nil (C_cond_f rfl (C_seq (C_region (LY rfl (y_eqi rfl rfl) (LY rfl (y_assign rfl) (L_nil (C_cond_t rfl ?_)))))))))))))))))))))))))))))))))))))))))
  refine C_regionH ([(B1, .cells (acells ⟨4, n, x, y, on⟩).toArray 54)] :: H) (by kernel_rfl) ?_
  refine HY 0 rfl (((hsub (.cons_cons _ (.cons _ (.cons _ (.cons _ (.cons _ (.cons _ (.cons _ (.cons _ (.cons _ (.cons _ (.refl _)))))))))))).trans (hsub_pick [2] rfl))) rfl (y_move rfl) ?_
  refine HY 1 rfl (((hsub (.cons_cons _ (.cons _ (.cons _ (.cons _ (.cons _ (.cons _ (.cons _ (.cons _ (.cons _ (.cons _ (.refl _)))))))))))).trans (hsub_pick [2] rfl))) rfl (y_fieldAddr rfl fl_54_1) ?_
  refine HY 2 rfl (((hsub (.cons_cons _ (.cons _ (.cons _ (.cons _ (.cons _ (.cons _ (.cons _ (.cons _ (.cons _ (.cons _ (.refl _)))))))))))).trans (hsub_pick [2] rfl))) rfl (y_load rfl ag_3 (sees 0 0 rfl) rfl) ?_
  refine HY 4 rfl (((hsub (.cons_cons _ (.cons _ (.cons _ (.cons _ (.cons _ (.cons _ (.cons _ (.cons _ (.cons _ (.cons _ (.refl _)))))))))))).trans (hsub_pick [2] rfl))) rfl (y_move rfl) ?_
  refine HY 5 rfl (((hsub (.cons_cons _ (.cons _ (.cons _ (.cons _ (.cons _ (.cons _ (.cons _ (.cons _ (.cons _ (.cons _ (.refl _)))))))))))).trans (hsub_pick [2] rfl))) rfl (y_fieldAddr rfl fl_54_1) ?_
  refine HY 6 rfl (((hsub (.cons_cons _ (.cons _ (.cons _ (.cons _ (.cons _ (.cons _ (.cons _ (.cons _ (.cons _ (.cons _ (.refl _)))))))))))).trans (hsub_pick [2] rfl))) rfl (y_load rfl ag_3 (sees 0 0 rfl) rfl) ?_
  refine H_one 3 rfl (by kernel_rfl) rfl (op_call rfl rfl (fun a w => Try.call25 a w) rfl ?_)
  refine (FnS.sub (hsub_pick [3, 3] rfl) (both_r h good_at n)).mono ?_
  rintro _ _ ⟨gb0, hgb0, rfl, rfl⟩
  refine ⟨_, rfl, ?_⟩
  refine ⟨((hsub (.cons_cons _ (.cons _ (.cons _ (.cons _ (.cons _ (.cons _ (.cons _ (.cons _ (.cons _ (.cons _ (.cons _ (.refl _))))))))))))).trans (hsub_pick [5] rfl)), ?_⟩
  refine H_one 7 rfl (by kernel_rfl) rfl (op_call rfl rfl (fun a w => Try.call70 a w) rfl ?_)
  refine (FnS.sub (hsub_pick [6, 6, 6, 6, 6] rfl) (rboth_s okr n)).mono ?_
  rintro _ _ ⟨gb1, hgb1, rfl, rfl⟩
  refine ⟨_, rfl, ?_⟩
  refine ⟨((hsub (.cons_cons _ (.cons _ (.cons _ (.cons _ (.cons _ (.cons _ (.cons _ (.cons _ (.cons _ (.cons _ (.cons _ (.cons _ (.refl _)))))))))))))).trans (hsub_pick [11] rfl)), ?_⟩
  refine H_one 8 rfl (by kernel_rfl) rfl (op_call rfl rfl (fun a w => Try.call24 a w) rfl ?_)
  refine (sectors_v (sa := 6) (sb := 0) (Rm.both_ok (p := goodP) okr n).1 (Rm.both_ok (p := goodP) okr n).2 rfl rfl hgb0 hgb1).mono ?_
  rintro _ _ ⟨rfl, rfl⟩
  refine ⟨_, rfl, ?_⟩
  refine ⟨((hsub (.cons_cons _ (.cons _ (.cons _ (.cons _ (.cons _ (.cons _ (.cons _ (.cons _ (.cons _ (.cons _ (.cons _ (.cons _ (.refl _)))))))))))))).trans (hsub_pick [11] rfl)), ?_⟩
  refine HY 9 rfl (((hsub (.cons_cons _ (.cons _ (.cons _ (.cons _ (.cons _ (.cons _ (.cons _ (.cons _ (.cons _ (.cons _ (.cons _ (.cons _ (.refl _)))))))))))))).trans (hsub_pick [11] rfl))) rfl (y_assign rfl) ?_
  refine H_done (by kernel_rfl) ?_
  refine C_seq (C_region (LY rfl (y_move rfl) ?_))
  refine L_op rfl (op_call rfl rfl (fun a w => Try.call21 a w) rfl ?_)
  refine (FnS.sub (hsub_pick [7, 7] rfl) (flush_r h)).mono ?_
  rintro _ _ ⟨e4, D1, A1, m1, hS1, rfl⟩
  obtain rfl := e4
  refine ⟨_, rfl, ?_⟩
  refine LY rfl (y_assign rfl) (L_nil (C_seq (C_region (LY rfl (y_move rfl) ?_))))
  refine L_op rfl (op_call rfl rfl (fun a w => Try.call35 a w) rfl ?_)
  refine (FnS.sub (hsub_pick [0] rfl) (stale_r hS1)).mono ?_
  rintro _ _ ⟨rfl, rfl⟩
  refine ⟨_, rfl, ?_⟩
  refine LY rfl (y_move rfl) (LY rfl (y_extract rfl rfl) (LY rfl (y_extract rfl rfl) (LY rfl (y_assign rfl) (LY rfl (y_assign rfl) (L_nil (C_seq (C_region (LY rfl (y_move rfl) (LY rfl (y_move rfl) (LY rfl (y_move rfl) (LY rfl (y_eqi rfl rfl) (LY rfl (y_move rfl) (LY rfl (y_nilCheck rfl) (LY rfl (y_fieldAddr rfl fl_126_1) ?_))))))))))))))
  refine LY rfl (y_indexA rfl rfl Try.underlying62 sz_4 (by omega) (by omega) (show _ = 2 from rfl)) ?_
  refine LY rfl (y_load rfl ag_4 (sees 3 0 rfl) rfl) (LY rfl (y_not rfl) (LY rfl (y_move rfl) ?_))
  refine L_case 203 rfl (fun hg30_11 => ?_) (fun hg30_11 => ?_)
  · skip
    refine L_skip rfl rfl (L_skip rfl rfl (L_skip rfl rfl (L_skip rfl rfl (L_skip rfl rfl (L_skip rfl rfl (LY rfl (y_pick_t rfl rfl) ?_))))))
    refine LY rfl (y_eqb rfl rfl Try.underlying4) ?_
    refine LY rfl (y_pick_t rfl rfl) (LY rfl (y_move rfl) ?_)
    refine L_case 213 rfl (fun hg30_21 => ?_) (fun hg30_21 => ?_)
    · skip
      refine LY rfl (y_move rfl) (LY rfl (y_move rfl) ?_)
      refine L_op rfl (op_call rfl rfl (fun a w => Try.call72 a w) rfl ?_)
      refine (FnS.sub (hsub_pick [3, 3, 3, 3, 3] rfl) (rcount0_s (hS1.rel.ok hK))).mono ?_
      rintro _ _ ⟨rfl, rfl⟩
      refine ⟨_, rfl, ?_⟩
      refine LY rfl (y_eqi rfl rfl) (LY rfl (y_pick_t rfl rfl) (LY rfl (y_move rfl) ?_))
      refine L_case 219 rfl (fun hg30_27 => ?_) (fun hg30_27 => ?_)
      · skip
        refine LY rfl (y_move rfl) (LY rfl (y_move rfl) ?_)
        refine L_op rfl (op_call rfl rfl (fun a w => Try.call72 a w) rfl ?_)
        refine (FnS.sub (hsub_pick [0, 0, 0, 0, 0] rfl) (rcount1_s (hS1.rel.ok hK))).mono ?_
        rintro _ _ ⟨rfl, rfl⟩
        refine ⟨_, rfl, ?_⟩
        refine LY rfl (y_eqi rfl rfl) (LY rfl (y_pick_t rfl rfl) (LY rfl (y_assign rfl) (L_nil (C_ret ?_))))
        refine B_ret (rv_tmp rfl rv_nil) ((hsub (.cons_cons _ (.cons_cons _ (.cons_cons _ (.cons_cons _ (.cons_cons _ (.cons_cons _ (.cons_cons _ (.cons _ (.cons _ (.cons _ (.cons _ (.cons _ (.refl _)))))))))))))).trans (hsub_pick [5, 5, 0, 0, 0, 0, 0] rfl)) ?_
        exact ⟨ret_bool (by simp), _, _, _, hS1, rfl⟩
      · exact absurd hg30_27 (by simp)
    · exact absurd hg30_21 (by simp_all [Rm.put, Rm.sd])
  · skip
    refine LY rfl (y_move rfl) (LY rfl (y_nilCheck rfl) (LY rfl (y_fieldAddr rfl fl_126_1) ?_))
    refine LY rfl (y_indexA rfl rfl Try.underlying62 sz_4 (by omega) (by omega) (show _ = 3 from rfl)) ?_
    refine LY rfl (y_load rfl ag_4 (sees 3 0 rfl) rfl) (LY rfl (y_not rfl) (LY rfl (y_pick_f rfl rfl) ?_))
    refine LY rfl (y_eqb rfl rfl Try.underlying4) ?_
    refine LY rfl (y_pick_t rfl rfl) (LY rfl (y_move rfl) ?_)
    refine L_case 213 rfl (fun hg30_21 => ?_) (fun hg30_21 => ?_)
    · skip
      refine LY rfl (y_move rfl) (LY rfl (y_move rfl) ?_)
      refine L_op rfl (op_call rfl rfl (fun a w => Try.call72 a w) rfl ?_)
      refine (FnS.sub (hsub_pick [3, 3, 3, 3, 3] rfl) (rcount0_s (hS1.rel.ok hK))).mono ?_
      rintro _ _ ⟨rfl, rfl⟩
      refine ⟨_, rfl, ?_⟩
      refine LY rfl (y_eqi rfl rfl) (LY rfl (y_pick_t rfl rfl) (LY rfl (y_move rfl) ?_))
      refine L_case 219 rfl (fun hg30_27 => ?_) (fun hg30_27 => ?_)
      · skip
        refine LY rfl (y_move rfl) (LY rfl (y_move rfl) ?_)
        refine L_op rfl (op_call rfl rfl (fun a w => Try.call72 a w) rfl ?_)
        refine (FnS.sub (hsub_pick [0, 0, 0, 0, 0] rfl) (rcount1_s (hS1.rel.ok hK))).mono ?_
        rintro _ _ ⟨rfl, rfl⟩
        refine ⟨_, rfl, ?_⟩
        refine LY rfl (y_eqi rfl rfl) (LY rfl (y_pick_t rfl rfl) (LY rfl (y_assign rfl) (L_nil (C_ret ?_))))
        refine B_ret (rv_tmp rfl rv_nil) ((hsub (.cons_cons _ (.cons_cons _ (.cons_cons _ (.cons_cons _ (.cons_cons _ (.cons_cons _ (.cons_cons _ (.cons _ (.cons _ (.cons _ (.cons _ (.cons _ (.refl _)))))))))))))).trans (hsub_pick [5, 5, 0, 0, 0, 0, 0] rfl)) ?_
        exact ⟨ret_bool (by simp), _, _, _, hS1, rfl⟩
      · exact absurd hg30_27 (by simp)
    · exact absurd hg30_21 (by simp_all [Rm.put, Rm.sd])

set_option maxHeartbeats 1000000 in

theorem play_6 {w0 : World} {H : Hp} {o : Ro} {K : Nat} {r : Rm} {D : Duo} {A : Da} {m : Mi} {mb bx bys bp : Nat} (h : Mq dt (.func (.func 18) #[] ([] : List Value).toArray) D A m r K 0 0 mb bx bys bp) (hK : K ≤ 4096) (n : Int) (x y : UInt8) (on : Bool) : FnS Try.prog w0 38 #[.agg (acells ⟨6, n, x, y, on⟩).toArray, ptr mb, .agg [ptr bx, ptr bys].toArray, ptr o.b] (m.seg 110 :: D.seg dt :: (o.hp 126 32 4 K r H)) (fun e H' => e = .returned (.bool true) ∧ ∃ D' A' m', Mq dt (.func (.func 18) #[] ([] : List Value).toArray) D' A' m' (r.outs false on) K 0 0 mb bx bys bp ∧ H' = m'.seg 110 :: D'.seg dt :: (o.hp 126 32 4 K (r.outs false on) H)) := by
  have okr := h.rel.ok hK
  have hbx := x.toNat_lt
  refine FnS_intro (n := 225) (rs := [.tmp 8]) (vs := [.agg (acells ⟨6, n, x, y, on⟩).toArray, ptr mb, .agg [ptr bx, ptr bys].toArray, ptr o.b]) Try.func38 rfl Try.ntmps38 rfl rfl ?_
  refine C_seq (C_region ?_)
  refine L_op rfl (op_box rfl rfl rfl (fun B1 => ?_))
  refine L_op rfl (op_box rfl rfl rfl (fun B2 => ?_))
  refine LY rfl (y_assign rfl) (L_nil (C_seq (C_region (LY rfl (y_fieldAddr rfl fl_54_2) (LY rfl (y_load rfl ag_5 (sees 1 0 rfl) rfl) (LY rfl (y_fieldAddr rfl fl_54_3) (LY rfl (y_load rfl ag_5 (sees 1 0 rfl) rfl) ?_)))))))
  refine L_op rfl (op_call rfl rfl (fun a w => Try.call20 a w) rfl ?_)
  refine (sector3_s x y).mono ?_
  rintro _ _ ⟨rfl, e⟩
  obtain rfl := e.symm
  clear e
  refine ⟨_, rfl, ?_⟩
  refine L_op rfl (op_alloc zl_32 rfl (fun B3 => ?_))
  refine L_op rfl (op_storeA 0 0 rfl rfl rfl sz_32 (by rw [bs_length, sec3_len _ _ _]) rfl (bs_one _) (by simp) ?_)
  refine L_nil (C_seq (C_region (LY rfl (y_assign rfl) (L_nil (C_seq (C_seq (C_region (LY rfl (y_fieldAddr rfl fl_54_0) (LY rfl (y_load rfl ag_3 (sees 2 0 rfl) rfl) (L_nil (C_block (C_seq (C_region (LY rfl (y_eqi rfl rfl) (LY rfl (y_assign rfl) (L_nil (C_cond_f rfl (C_seq (C_region (LY rfl (y_eqi rfl rfl) (LY rfl (y_assign rfl) (L_nil (C_cond_f rfl (C_seq (C_region (LY rfl (y_eqi rfl rfl) (LY rfl (y_assign rfl) (L_nil (C_cond_f rfl (C_seq (C_region (LY rfl (y_eqi rfl rfl) (LY rfl (y_assign rfl) (L_nil (C_cond_f rfl (C_seq (C_region (LY rfl (y_eqi rfl rfl) (LY rfl (y_assign rfl) (L_nil (C_cond_f rfl (C_seq (C_region (LY rfl (y_eqi rfl rfl) (LY rfl (y_assign rfl) (L_nil (C_cond_f rfl (C_seq (C_seq (C_region (LY rfl (y_eqi rfl rfl) (LY rfl (y_assign rfl) (L_nil (C_cond_t rfl (C_skip (C_cond_t rfl (C_seq ?_)))))))))))))))))))))))))))))))))))))))))))))))))))))))))
  refine C_regionH ([(B1, .cells (acells ⟨6, n, x, y, on⟩).toArray 54)] :: [(B2, .cells [ptr bx, ptr bys].toArray 51)] :: H) (by kernel_rfl) ?_
  refine HY 0 rfl (((hsub (.cons_cons _ (.cons_cons _ (.cons _ (.cons _ (.cons _ (.cons _ (.cons _ (.cons _ (.cons _ (.cons _ (.refl _)))))))))))).trans (hsub_pick [2, 1] rfl))) rfl (y_fieldAddr rfl fl_54_0) ?_
  refine HY 1 rfl (((hsub (.cons_cons _ (.cons_cons _ (.cons _ (.cons _ (.cons _ (.cons _ (.cons _ (.cons _ (.cons _ (.cons _ (.refl _)))))))))))).trans (hsub_pick [2, 1] rfl))) rfl (y_load rfl ag_3 (sees 0 0 rfl) rfl) ?_
  refine HY 2 rfl (((hsub (.cons_cons _ (.cons_cons _ (.cons _ (.cons _ (.cons _ (.cons _ (.cons _ (.cons _ (.cons _ (.cons _ (.refl _)))))))))))).trans (hsub_pick [2, 1] rfl))) rfl (y_sub rfl rfl (show _ = (0 : Int) from rfl)) ?_
  refine HY 3 rfl (((hsub (.cons_cons _ (.cons_cons _ (.cons _ (.cons _ (.cons _ (.cons _ (.cons _ (.cons _ (.cons _ (.cons _ (.refl _)))))))))))).trans (hsub_pick [2, 1] rfl))) rfl (y_indexA rfl rfl Try.underlying51 sz_24 (by omega) (by omega) (show _ = 0 from rfl)) ?_
  refine HY 4 rfl (((hsub (.cons_cons _ (.cons_cons _ (.cons _ (.cons _ (.cons _ (.cons _ (.cons _ (.cons _ (.cons _ (.cons _ (.refl _)))))))))))).trans (hsub_pick [2, 1] rfl))) rfl (y_load rfl ag_24 (sees 1 0 rfl) rfl) ?_
  refine HY 5 rfl (((hsub (.cons_cons _ (.cons_cons _ (.cons _ (.cons _ (.cons _ (.cons _ (.cons _ (.cons _ (.cons _ (.cons _ (.refl _)))))))))))).trans (hsub_pick [2, 1] rfl))) rfl (y_fieldAddr rfl fl_54_4) ?_
  refine HY 6 rfl (((hsub (.cons_cons _ (.cons_cons _ (.cons _ (.cons _ (.cons _ (.cons _ (.cons _ (.cons _ (.cons _ (.cons _ (.refl _)))))))))))).trans (hsub_pick [2, 1] rfl))) rfl (y_load rfl ag_4 (sees 0 0 rfl) rfl) ?_
  refine H_one 7 rfl (by kernel_rfl) rfl (op_call rfl rfl (fun a w => Try.call33 a w) rfl ?_)
  refine (FnS.sub (hsub_pick [4] rfl) (out_r h false on)).mono ?_
  rintro _ _ ⟨rfl, D1, A1, hS1, rfl⟩
  refine ⟨_, rfl, ?_⟩
  refine ⟨((hsub (.cons_cons _ (.cons_cons _ (.cons _ (.cons _ (.cons _ (.cons _ (.cons _ (.cons _ (.cons _ (.cons _ (.refl _)))))))))))).trans (hsub_pick [3, 2] rfl)), ?_⟩
  refine H_done (by kernel_rfl) ?_
  refine C_regionH ([(B1, .cells (acells ⟨6, n, x, y, on⟩).toArray 54)] :: H) (by kernel_rfl) ?_
  refine HY 0 rfl (((hsub (.cons_cons _ (.cons _ (.cons _ (.cons _ (.cons _ (.cons _ (.cons _ (.cons _ (.cons _ (.cons _ (.refl _)))))))))))).trans (hsub_pick [3] rfl))) rfl (y_move rfl) ?_
  refine HY 1 rfl (((hsub (.cons_cons _ (.cons _ (.cons _ (.cons _ (.cons _ (.cons _ (.cons _ (.cons _ (.cons _ (.cons _ (.refl _)))))))))))).trans (hsub_pick [3] rfl))) rfl (y_fieldAddr rfl fl_54_0) ?_
  refine HY 2 rfl (((hsub (.cons_cons _ (.cons _ (.cons _ (.cons _ (.cons _ (.cons _ (.cons _ (.cons _ (.cons _ (.cons _ (.refl _)))))))))))).trans (hsub_pick [3] rfl))) rfl (y_load rfl ag_3 (sees 0 0 rfl) rfl) ?_
  refine HY 3 rfl (((hsub (.cons_cons _ (.cons _ (.cons _ (.cons _ (.cons _ (.cons _ (.cons _ (.cons _ (.cons _ (.cons _ (.refl _)))))))))))).trans (hsub_pick [3] rfl))) rfl (y_sub rfl rfl (show _ = (0 : Int) from rfl)) ?_
  refine HY 4 rfl (((hsub (.cons_cons _ (.cons _ (.cons _ (.cons _ (.cons _ (.cons _ (.cons _ (.cons _ (.cons _ (.cons _ (.refl _)))))))))))).trans (hsub_pick [3] rfl))) rfl (y_fieldAddr rfl fl_54_4) ?_
  refine HY 5 rfl (((hsub (.cons_cons _ (.cons _ (.cons _ (.cons _ (.cons _ (.cons _ (.cons _ (.cons _ (.cons _ (.cons _ (.refl _)))))))))))).trans (hsub_pick [3] rfl))) rfl (y_load rfl ag_4 (sees 0 0 rfl) rfl) ?_
  refine HY 6 rfl (((hsub (.cons_cons _ (.cons _ (.cons _ (.cons _ (.cons _ (.cons _ (.cons _ (.cons _ (.cons _ (.cons _ (.refl _)))))))))))).trans (hsub_pick [3] rfl))) rfl (y_nilCheck rfl) ?_
  refine HY 7 rfl (((hsub (.cons_cons _ (.cons _ (.cons _ (.cons _ (.cons _ (.cons _ (.cons _ (.cons _ (.cons _ (.cons _ (.refl _)))))))))))).trans (hsub_pick [3] rfl))) rfl (y_fieldAddr rfl fl_126_1) ?_
  refine HY 8 rfl (((hsub (.cons_cons _ (.cons _ (.cons _ (.cons _ (.cons _ (.cons _ (.cons _ (.cons _ (.cons _ (.cons _ (.refl _)))))))))))).trans (hsub_pick [3] rfl))) rfl (y_indexA rfl rfl Try.underlying62 sz_4 (by omega) (by omega) (show _ = 2 from rfl)) ?_
  refine H_one 9 rfl (by kernel_rfl) rfl (op_store1 5 0 rfl rfl rfl sz_4 rfl (Nat.le_of_ble_eq_true rfl) ?_)
  rw [show (o.cells K r).set 2 (.bool on) = o.cells K (r.outs false on) from rfl]
  refine ⟨((hsub (.cons_cons _ (.cons _ (.cons _ (.cons _ (.cons _ (.cons _ (.cons _ (.cons _ (.cons _ (.cons _ (.refl _)))))))))))).trans (hsub_pick [3] rfl)), ?_⟩
  refine H_done (by kernel_rfl) ?_
  refine C_seq (C_region (LY rfl (y_move rfl) ?_))
  refine L_op rfl (op_call rfl rfl (fun a w => Try.call21 a w) rfl ?_)
  refine (FnS.sub (hsub_pick [4, 0] rfl) (flush_r hS1)).mono ?_
  rintro _ _ ⟨e4, D2, A2, m2, hS2, rfl⟩
  obtain rfl := e4
  refine ⟨_, rfl, ?_⟩
  refine LY rfl (y_assign rfl) (L_nil (C_seq (C_region (LY rfl (y_move rfl) ?_))))
  refine L_op rfl (op_call rfl rfl (fun a w => Try.call35 a w) rfl ?_)
  refine (FnS.sub (hsub_pick [0] rfl) (stale_r hS2)).mono ?_
  rintro _ _ ⟨rfl, rfl⟩
  refine ⟨_, rfl, ?_⟩
  refine LY rfl (y_move rfl) (LY rfl (y_extract rfl rfl) (LY rfl (y_extract rfl rfl) (LY rfl (y_assign rfl) (LY rfl (y_assign rfl) (L_nil (C_seq (C_region (LY rfl (y_move rfl) (LY rfl (y_move rfl) (LY rfl (y_move rfl) (LY rfl (y_eqi rfl rfl) (LY rfl (y_move rfl) (LY rfl (y_nilCheck rfl) (LY rfl (y_fieldAddr rfl fl_126_1) ?_))))))))))))))
  refine LY rfl (y_indexA rfl rfl Try.underlying62 sz_4 (by omega) (by omega) (show _ = 2 from rfl)) ?_
  refine LY rfl (y_load rfl ag_4 (sees 5 0 rfl) rfl) (LY rfl (y_not rfl) (LY rfl (y_move rfl) ?_))
  refine L_case 203 rfl (fun hg30_11 => ?_) (fun hg30_11 => ?_)
  · skip
    refine L_skip rfl rfl (L_skip rfl rfl (L_skip rfl rfl (L_skip rfl rfl (L_skip rfl rfl (L_skip rfl rfl (LY rfl (y_pick_t rfl rfl) ?_))))))
    refine LY rfl (y_eqb rfl rfl Try.underlying4) ?_
    refine LY rfl (y_pick_t rfl rfl) (LY rfl (y_move rfl) ?_)
    refine L_case 213 rfl (fun hg30_21 => ?_) (fun hg30_21 => ?_)
    · skip
      refine LY rfl (y_move rfl) (LY rfl (y_move rfl) ?_)
      refine L_op rfl (op_call rfl rfl (fun a w => Try.call72 a w) rfl ?_)
      refine (FnS.sub (hsub_pick [5, 5, 5, 5, 5] rfl) (rcount0_s (hS2.rel.ok hK))).mono ?_
      rintro _ _ ⟨rfl, rfl⟩
      refine ⟨_, rfl, ?_⟩
      refine LY rfl (y_eqi rfl rfl) (LY rfl (y_pick_t rfl rfl) (LY rfl (y_move rfl) ?_))
      refine L_case 219 rfl (fun hg30_27 => ?_) (fun hg30_27 => ?_)
      · skip
        refine LY rfl (y_move rfl) (LY rfl (y_move rfl) ?_)
        refine L_op rfl (op_call rfl rfl (fun a w => Try.call72 a w) rfl ?_)
        refine (FnS.sub (hsub_pick [0, 0, 0, 0, 0] rfl) (rcount1_s (hS2.rel.ok hK))).mono ?_
        rintro _ _ ⟨rfl, rfl⟩
        refine ⟨_, rfl, ?_⟩
        refine LY rfl (y_eqi rfl rfl) (LY rfl (y_pick_t rfl rfl) (LY rfl (y_assign rfl) (L_nil (C_ret ?_))))
        refine B_ret (rv_tmp rfl rv_nil) ((hsub (.cons_cons _ (.cons_cons _ (.cons_cons _ (.cons_cons _ (.cons_cons _ (.cons_cons _ (.cons_cons _ (.cons _ (.cons _ (.cons _ (.refl _)))))))))))).trans (hsub_pick [5, 5, 0, 0, 0, 0, 0] rfl)) ?_
        exact ⟨ret_bool (by simp), _, _, _, hS2, rfl⟩
      · exact absurd hg30_27 (by simp)
    · exact absurd hg30_21 (by simp_all [Rm.put, Rm.sd])
  · skip
    refine LY rfl (y_move rfl) (LY rfl (y_nilCheck rfl) (LY rfl (y_fieldAddr rfl fl_126_1) ?_))
    refine LY rfl (y_indexA rfl rfl Try.underlying62 sz_4 (by omega) (by omega) (show _ = 3 from rfl)) ?_
    refine LY rfl (y_load rfl ag_4 (sees 5 0 rfl) rfl) (LY rfl (y_not rfl) (LY rfl (y_pick_f rfl rfl) ?_))
    refine LY rfl (y_eqb rfl rfl Try.underlying4) ?_
    refine LY rfl (y_pick_t rfl rfl) (LY rfl (y_move rfl) ?_)
    refine L_case 213 rfl (fun hg30_21 => ?_) (fun hg30_21 => ?_)
    · skip
      refine LY rfl (y_move rfl) (LY rfl (y_move rfl) ?_)
      refine L_op rfl (op_call rfl rfl (fun a w => Try.call72 a w) rfl ?_)
      refine (FnS.sub (hsub_pick [5, 5, 5, 5, 5] rfl) (rcount0_s (hS2.rel.ok hK))).mono ?_
      rintro _ _ ⟨rfl, rfl⟩
      refine ⟨_, rfl, ?_⟩
      refine LY rfl (y_eqi rfl rfl) (LY rfl (y_pick_t rfl rfl) (LY rfl (y_move rfl) ?_))
      refine L_case 219 rfl (fun hg30_27 => ?_) (fun hg30_27 => ?_)
      · skip
        refine LY rfl (y_move rfl) (LY rfl (y_move rfl) ?_)
        refine L_op rfl (op_call rfl rfl (fun a w => Try.call72 a w) rfl ?_)
        refine (FnS.sub (hsub_pick [0, 0, 0, 0, 0] rfl) (rcount1_s (hS2.rel.ok hK))).mono ?_
        rintro _ _ ⟨rfl, rfl⟩
        refine ⟨_, rfl, ?_⟩
        refine LY rfl (y_eqi rfl rfl) (LY rfl (y_pick_t rfl rfl) (LY rfl (y_assign rfl) (L_nil (C_ret ?_))))
        refine B_ret (rv_tmp rfl rv_nil) ((hsub (.cons_cons _ (.cons_cons _ (.cons_cons _ (.cons_cons _ (.cons_cons _ (.cons_cons _ (.cons_cons _ (.cons _ (.cons _ (.cons _ (.refl _)))))))))))).trans (hsub_pick [5, 5, 0, 0, 0, 0, 0] rfl)) ?_
        exact ⟨ret_bool (by simp), _, _, _, hS2, rfl⟩
      · exact absurd hg30_27 (by simp)
    · exact absurd hg30_21 (by simp_all [Rm.put, Rm.sd])

set_option maxHeartbeats 1000000 in

theorem play_7 {w0 : World} {H : Hp} {o : Ro} {K : Nat} {r : Rm} {D : Duo} {A : Da} {m : Mi} {mb bx bys bp : Nat} (h : Mq dt (.func (.func 18) #[] ([] : List Value).toArray) D A m r K 0 0 mb bx bys bp) (hK : K ≤ 4096) (n : Int) (x y : UInt8) (on : Bool) : FnS Try.prog w0 38 #[.agg (acells ⟨7, n, x, y, on⟩).toArray, ptr mb, .agg [ptr bx, ptr bys].toArray, ptr o.b] (m.seg 110 :: D.seg dt :: (o.hp 126 32 4 K r H)) (fun e H' => e = .returned (.bool true) ∧ ∃ D' A' m', Mq dt (.func (.func 18) #[] ([] : List Value).toArray) D' A' m' (r.outs true on) K 0 0 mb bx bys bp ∧ H' = m'.seg 110 :: D'.seg dt :: (o.hp 126 32 4 K (r.outs true on) H)) := by
  have okr := h.rel.ok hK
  have hbx := x.toNat_lt
  refine FnS_intro (n := 225) (rs := [.tmp 8]) (vs := [.agg (acells ⟨7, n, x, y, on⟩).toArray, ptr mb, .agg [ptr bx, ptr bys].toArray, ptr o.b]) Try.func38 rfl Try.ntmps38 rfl rfl ?_
  refine C_seq (C_region ?_)
  refine L_op rfl (op_box rfl rfl rfl (fun B1 => ?_))
  refine L_op rfl (op_box rfl rfl rfl (fun B2 => ?_))
  refine LY rfl (y_assign rfl) (L_nil (C_seq (C_region (LY rfl (y_fieldAddr rfl fl_54_2) (LY rfl (y_load rfl ag_5 (sees 1 0 rfl) rfl) (LY rfl (y_fieldAddr rfl fl_54_3) (LY rfl (y_load rfl ag_5 (sees 1 0 rfl) rfl) ?_)))))))
  refine L_op rfl (op_call rfl rfl (fun a w => Try.call20 a w) rfl ?_)
  refine (sector3_s x y).mono ?_
  rintro _ _ ⟨rfl, e⟩
  obtain rfl := e.symm
  clear e
  refine ⟨_, rfl, ?_⟩
  refine L_op rfl (op_alloc zl_32 rfl (fun B3 => ?_))
  refine L_op rfl (op_storeA 0 0 rfl rfl rfl sz_32 (by rw [bs_length, sec3_len _ _ _]) rfl (bs_one _) (by simp) ?_)
  refine L_nil (C_seq (C_region (LY rfl (y_assign rfl) (L_nil (C_seq (C_seq (C_region (LY rfl (y_fieldAddr rfl fl_54_0) (LY rfl (y_load rfl ag_3 (sees 2 0 rfl) rfl) (L_nil (C_block (C_seq (C_region (LY rfl (y_eqi rfl rfl) (LY rfl (y_assign rfl) (L_nil (C_cond_f rfl (C_seq (C_region (LY rfl (y_eqi rfl rfl) (LY rfl (y_assign rfl) (L_nil (C_cond_f rfl (C_seq (C_region (LY rfl (y_eqi rfl rfl) (LY rfl (y_assign rfl) (L_nil (C_cond_f rfl (C_seq (C_region (LY rfl (y_eqi rfl rfl) (LY rfl (y_assign rfl) (L_nil (C_cond_f rfl (C_seq (C_region (LY rfl (y_eqi rfl rfl) (LY rfl (y_assign rfl) (L_nil (C_cond_f rfl (C_seq (C_region (LY rfl (y_eqi rfl rfl) (LY rfl (y_assign rfl) (L_nil (C_cond_f rfl (C_seq (C_seq (C_region (LY rfl (y_eqi rfl rfl) (LY rfl (y_assign rfl) (L_nil (C_cond_f rfl (C_region (LY rfl (y_eqi rfl rfl) (LY rfl (y_assign rfl) (L_nil (C_cond_t rfl (C_seq ?_))))))))))))))))))))))))))))))))))))))))))))))))))))))))))))
  refine C_regionH ([(B1, .cells (acells ⟨7, n, x, y, on⟩).toArray 54)] :: [(B2, .cells [ptr bx, ptr bys].toArray 51)] :: H) (by kernel_rfl) ?_
  refine HY 0 rfl (((hsub (.cons_cons _ (.cons_cons _ (.cons _ (.cons _ (.cons _ (.cons _ (.cons _ (.cons _ (.cons _ (.cons _ (.refl _)))))))))))).trans (hsub_pick [2, 1] rfl))) rfl (y_fieldAddr rfl fl_54_0) ?_
  refine HY 1 rfl (((hsub (.cons_cons _ (.cons_cons _ (.cons _ (.cons _ (.cons _ (.cons _ (.cons _ (.cons _ (.cons _ (.cons _ (.refl _)))))))))))).trans (hsub_pick [2, 1] rfl))) rfl (y_load rfl ag_3 (sees 0 0 rfl) rfl) ?_
  refine HY 2 rfl (((hsub (.cons_cons _ (.cons_cons _ (.cons _ (.cons _ (.cons _ (.cons _ (.cons _ (.cons _ (.cons _ (.cons _ (.refl _)))))))))))).trans (hsub_pick [2, 1] rfl))) rfl (y_sub rfl rfl (show _ = (1 : Int) from rfl)) ?_
  refine HY 3 rfl (((hsub (.cons_cons _ (.cons_cons _ (.cons _ (.cons _ (.cons _ (.cons _ (.cons _ (.cons _ (.cons _ (.cons _ (.refl _)))))))))))).trans (hsub_pick [2, 1] rfl))) rfl (y_indexA rfl rfl Try.underlying51 sz_24 (by omega) (by omega) (show _ = 1 from rfl)) ?_
  refine HY 4 rfl (((hsub (.cons_cons _ (.cons_cons _ (.cons _ (.cons _ (.cons _ (.cons _ (.cons _ (.cons _ (.cons _ (.cons _ (.refl _)))))))))))).trans (hsub_pick [2, 1] rfl))) rfl (y_load rfl ag_24 (sees 1 0 rfl) rfl) ?_
  refine HY 5 rfl (((hsub (.cons_cons _ (.cons_cons _ (.cons _ (.cons _ (.cons _ (.cons _ (.cons _ (.cons _ (.cons _ (.cons _ (.refl _)))))))))))).trans (hsub_pick [2, 1] rfl))) rfl (y_fieldAddr rfl fl_54_4) ?_
  refine HY 6 rfl (((hsub (.cons_cons _ (.cons_cons _ (.cons _ (.cons _ (.cons _ (.cons _ (.cons _ (.cons _ (.cons _ (.cons _ (.refl _)))))))))))).trans (hsub_pick [2, 1] rfl))) rfl (y_load rfl ag_4 (sees 0 0 rfl) rfl) ?_
  refine H_one 7 rfl (by kernel_rfl) rfl (op_call rfl rfl (fun a w => Try.call33 a w) rfl ?_)
  refine (FnS.sub (hsub_pick [4] rfl) (out_r h true on)).mono ?_
  rintro _ _ ⟨rfl, D1, A1, hS1, rfl⟩
  refine ⟨_, rfl, ?_⟩
  refine ⟨((hsub (.cons_cons _ (.cons_cons _ (.cons _ (.cons _ (.cons _ (.cons _ (.cons _ (.cons _ (.cons _ (.cons _ (.refl _)))))))))))).trans (hsub_pick [3, 2] rfl)), ?_⟩
  refine H_done (by kernel_rfl) ?_
  refine C_regionH ([(B1, .cells (acells ⟨7, n, x, y, on⟩).toArray 54)] :: H) (by kernel_rfl) ?_
  refine HY 0 rfl (((hsub (.cons_cons _ (.cons _ (.cons _ (.cons _ (.cons _ (.cons _ (.cons _ (.cons _ (.cons _ (.cons _ (.refl _)))))))))))).trans (hsub_pick [3] rfl))) rfl (y_move rfl) ?_
  refine HY 1 rfl (((hsub (.cons_cons _ (.cons _ (.cons _ (.cons _ (.cons _ (.cons _ (.cons _ (.cons _ (.cons _ (.cons _ (.refl _)))))))))))).trans (hsub_pick [3] rfl))) rfl (y_fieldAddr rfl fl_54_0) ?_
  refine HY 2 rfl (((hsub (.cons_cons _ (.cons _ (.cons _ (.cons _ (.cons _ (.cons _ (.cons _ (.cons _ (.cons _ (.cons _ (.refl _)))))))))))).trans (hsub_pick [3] rfl))) rfl (y_load rfl ag_3 (sees 0 0 rfl) rfl) ?_
  refine HY 3 rfl (((hsub (.cons_cons _ (.cons _ (.cons _ (.cons _ (.cons _ (.cons _ (.cons _ (.cons _ (.cons _ (.cons _ (.refl _)))))))))))).trans (hsub_pick [3] rfl))) rfl (y_sub rfl rfl (show _ = (1 : Int) from rfl)) ?_
  refine HY 4 rfl (((hsub (.cons_cons _ (.cons _ (.cons _ (.cons _ (.cons _ (.cons _ (.cons _ (.cons _ (.cons _ (.cons _ (.refl _)))))))))))).trans (hsub_pick [3] rfl))) rfl (y_fieldAddr rfl fl_54_4) ?_
  refine HY 5 rfl (((hsub (.cons_cons _ (.cons _ (.cons _ (.cons _ (.cons _ (.cons _ (.cons _ (.cons _ (.cons _ (.cons _ (.refl _)))))))))))).trans (hsub_pick [3] rfl))) rfl (y_load rfl ag_4 (sees 0 0 rfl) rfl) ?_
  refine HY 6 rfl (((hsub (.cons_cons _ (.cons _ (.cons _ (.cons _ (.cons _ (.cons _ (.cons _ (.cons _ (.cons _ (.cons _ (.refl _)))))))))))).trans (hsub_pick [3] rfl))) rfl (y_nilCheck rfl) ?_
  refine HY 7 rfl (((hsub (.cons_cons _ (.cons _ (.cons _ (.cons _ (.cons _ (.cons _ (.cons _ (.cons _ (.cons _ (.cons _ (.refl _)))))))))))).trans (hsub_pick [3] rfl))) rfl (y_fieldAddr rfl fl_126_1) ?_
  refine HY 8 rfl (((hsub (.cons_cons _ (.cons _ (.cons _ (.cons _ (.cons _ (.cons _ (.cons _ (.cons _ (.cons _ (.cons _ (.refl _)))))))))))).trans (hsub_pick [3] rfl))) rfl (y_indexA rfl rfl Try.underlying62 sz_4 (by omega) (by omega) (show _ = 3 from rfl)) ?_
  refine H_one 9 rfl (by kernel_rfl) rfl (op_store1 5 0 rfl rfl rfl sz_4 rfl (Nat.le_of_ble_eq_true rfl) ?_)
  rw [show (o.cells K r).set 3 (.bool on) = o.cells K (r.outs true on) from rfl]
  refine ⟨((hsub (.cons_cons _ (.cons _ (.cons _ (.cons _ (.cons _ (.cons _ (.cons _ (.cons _ (.cons _ (.cons _ (.refl _)))))))))))).trans (hsub_pick [3] rfl)), ?_⟩
  refine H_done (by kernel_rfl) ?_
  refine C_seq (C_region (LY rfl (y_move rfl) ?_))
  refine L_op rfl (op_call rfl rfl (fun a w => Try.call21 a w) rfl ?_)
  refine (FnS.sub (hsub_pick [4, 0] rfl) (flush_r hS1)).mono ?_
  rintro _ _ ⟨e4, D2, A2, m2, hS2, rfl⟩
  obtain rfl := e4
  refine ⟨_, rfl, ?_⟩
  refine LY rfl (y_assign rfl) (L_nil (C_seq (C_region (LY rfl (y_move rfl) ?_))))
  refine L_op rfl (op_call rfl rfl (fun a w => Try.call35 a w) rfl ?_)
  refine (FnS.sub (hsub_pick [0] rfl) (stale_r hS2)).mono ?_
  rintro _ _ ⟨rfl, rfl⟩
  refine ⟨_, rfl, ?_⟩
  refine LY rfl (y_move rfl) (LY rfl (y_extract rfl rfl) (LY rfl (y_extract rfl rfl) (LY rfl (y_assign rfl) (LY rfl (y_assign rfl) (L_nil (C_seq (C_region (LY rfl (y_move rfl) (LY rfl (y_move rfl) (LY rfl (y_move rfl) (LY rfl (y_eqi rfl rfl) (LY rfl (y_move rfl) (LY rfl (y_nilCheck rfl) (LY rfl (y_fieldAddr rfl fl_126_1) ?_))))))))))))))
  refine LY rfl (y_indexA rfl rfl Try.underlying62 sz_4 (by omega) (by omega) (show _ = 2 from rfl)) ?_
  refine LY rfl (y_load rfl ag_4 (sees 5 0 rfl) rfl) (LY rfl (y_not rfl) (LY rfl (y_move rfl) ?_))
  refine L_case 203 rfl (fun hg30_11 => ?_) (fun hg30_11 => ?_)
  · skip
    refine L_skip rfl rfl (L_skip rfl rfl (L_skip rfl rfl (L_skip rfl rfl (L_skip rfl rfl (L_skip rfl rfl (LY rfl (y_pick_t rfl rfl) ?_))))))
    refine LY rfl (y_eqb rfl rfl Try.underlying4) ?_
    refine LY rfl (y_pick_t rfl rfl) (LY rfl (y_move rfl) ?_)
    refine L_case 213 rfl (fun hg30_21 => ?_) (fun hg30_21 => ?_)
    · skip
      refine LY rfl (y_move rfl) (LY rfl (y_move rfl) ?_)
      refine L_op rfl (op_call rfl rfl (fun a w => Try.call72 a w) rfl ?_)
      refine (FnS.sub (hsub_pick [5, 5, 5, 5, 5] rfl) (rcount0_s (hS2.rel.ok hK))).mono ?_
      rintro _ _ ⟨rfl, rfl⟩
      refine ⟨_, rfl, ?_⟩
      refine LY rfl (y_eqi rfl rfl) (LY rfl (y_pick_t rfl rfl) (LY rfl (y_move rfl) ?_))
      refine L_case 219 rfl (fun hg30_27 => ?_) (fun hg30_27 => ?_)
      · skip
        refine LY rfl (y_move rfl) (LY rfl (y_move rfl) ?_)
        refine L_op rfl (op_call rfl rfl (fun a w => Try.call72 a w) rfl ?_)
        refine (FnS.sub (hsub_pick [0, 0, 0, 0, 0] rfl) (rcount1_s (hS2.rel.ok hK))).mono ?_
        rintro _ _ ⟨rfl, rfl⟩
        refine ⟨_, rfl, ?_⟩
        refine LY rfl (y_eqi rfl rfl) (LY rfl (y_pick_t rfl rfl) (LY rfl (y_assign rfl) (L_nil (C_ret ?_))))
        refine B_ret (rv_tmp rfl rv_nil) ((hsub (.cons_cons _ (.cons_cons _ (.cons_cons _ (.cons_cons _ (.cons_cons _ (.cons_cons _ (.cons_cons _ (.cons _ (.cons _ (.cons _ (.refl _)))))))))))).trans (hsub_pick [5, 5, 0, 0, 0, 0, 0] rfl)) ?_
        exact ⟨ret_bool (by simp), _, _, _, hS2, rfl⟩
      · exact absurd hg30_27 (by simp)
    · exact absurd hg30_21 (by simp_all [Rm.put, Rm.sd])
  · skip
    refine LY rfl (y_move rfl) (LY rfl (y_nilCheck rfl) (LY rfl (y_fieldAddr rfl fl_126_1) ?_))
    refine LY rfl (y_indexA rfl rfl Try.underlying62 sz_4 (by omega) (by omega) (show _ = 3 from rfl)) ?_
    refine LY rfl (y_load rfl ag_4 (sees 5 0 rfl) rfl) (LY rfl (y_not rfl) (LY rfl (y_pick_f rfl rfl) ?_))
    refine LY rfl (y_eqb rfl rfl Try.underlying4) ?_
    refine LY rfl (y_pick_t rfl rfl) (LY rfl (y_move rfl) ?_)
    refine L_case 213 rfl (fun hg30_21 => ?_) (fun hg30_21 => ?_)
    · skip
      refine LY rfl (y_move rfl) (LY rfl (y_move rfl) ?_)
      refine L_op rfl (op_call rfl rfl (fun a w => Try.call72 a w) rfl ?_)
      refine (FnS.sub (hsub_pick [5, 5, 5, 5, 5] rfl) (rcount0_s (hS2.rel.ok hK))).mono ?_
      rintro _ _ ⟨rfl, rfl⟩
      refine ⟨_, rfl, ?_⟩
      refine LY rfl (y_eqi rfl rfl) (LY rfl (y_pick_t rfl rfl) (LY rfl (y_move rfl) ?_))
      refine L_case 219 rfl (fun hg30_27 => ?_) (fun hg30_27 => ?_)
      · skip
        refine LY rfl (y_move rfl) (LY rfl (y_move rfl) ?_)
        refine L_op rfl (op_call rfl rfl (fun a w => Try.call72 a w) rfl ?_)
        refine (FnS.sub (hsub_pick [0, 0, 0, 0, 0] rfl) (rcount1_s (hS2.rel.ok hK))).mono ?_
        rintro _ _ ⟨rfl, rfl⟩
        refine ⟨_, rfl, ?_⟩
        refine LY rfl (y_eqi rfl rfl) (LY rfl (y_pick_t rfl rfl) (LY rfl (y_assign rfl) (L_nil (C_ret ?_))))
        refine B_ret (rv_tmp rfl rv_nil) ((hsub (.cons_cons _ (.cons_cons _ (.cons_cons _ (.cons_cons _ (.cons_cons _ (.cons_cons _ (.cons_cons _ (.cons _ (.cons _ (.cons _ (.refl _)))))))))))).trans (hsub_pick [5, 5, 0, 0, 0, 0, 0] rfl)) ?_
        exact ⟨ret_bool (by simp), _, _, _, hS2, rfl⟩
      · exact absurd hg30_27 (by simp)
    · exact absurd hg30_21 (by simp_all [Rm.put, Rm.sd])

set_option maxHeartbeats 1000000 in

theorem play_8n {w0 : World} {H : Hp} {o : Ro} {K : Nat} {r : Rm} {D : Duo} {A : Da} {m : Mi} {mb bx bys bp : Nat} (h : Mq dt (.func (.func 18) #[] ([] : List Value).toArray) D A m r K 0 0 mb bx bys bp) (hK : K ≤ 4096) (n : Int) (x y : UInt8) (on : Bool) (hb : r.has n = false) : FnS Try.prog w0 38 #[.agg (acells ⟨8, n, x, y, on⟩).toArray, ptr mb, .agg [ptr bx, ptr bys].toArray, ptr o.b] (m.seg 110 :: D.seg dt :: (o.hp 126 32 4 K r H)) (fun e H' => e = .returned (.bool true) ∧ ∃ D' A' m', Mq dt (.func (.func 18) #[] ([] : List Value).toArray) D' A' m' (r.rot false n (x.toNat % 128) y) K 0 0 mb bx bys bp ∧ H' = m'.seg 110 :: D'.seg dt :: (o.hp 126 32 4 K (r.rot false n (x.toNat % 128) y) H)) := by
  have okr := h.rel.ok hK
  have hbx := x.toNat_lt
  refine FnS_intro (n := 225) (rs := [.tmp 8]) (vs := [.agg (acells ⟨8, n, x, y, on⟩).toArray, ptr mb, .agg [ptr bx, ptr bys].toArray, ptr o.b]) Try.func38 rfl Try.ntmps38 rfl rfl ?_
  refine C_seq (C_region ?_)
  refine L_op rfl (op_box rfl rfl rfl (fun B1 => ?_))
  refine L_op rfl (op_box rfl rfl rfl (fun B2 => ?_))
  refine LY rfl (y_assign rfl) (L_nil (C_seq (C_region (LY rfl (y_fieldAddr rfl fl_54_2) (LY rfl (y_load rfl ag_5 (sees 1 0 rfl) rfl) (LY rfl (y_fieldAddr rfl fl_54_3) (LY rfl (y_load rfl ag_5 (sees 1 0 rfl) rfl) ?_)))))))
  refine L_op rfl (op_call rfl rfl (fun a w => Try.call20 a w) rfl ?_)
  refine (sector3_s x y).mono ?_
  rintro _ _ ⟨rfl, e⟩
  obtain rfl := e.symm
  clear e
  refine ⟨_, rfl, ?_⟩
  refine L_op rfl (op_alloc zl_32 rfl (fun B3 => ?_))
  refine L_op rfl (op_storeA 0 0 rfl rfl rfl sz_32 (by rw [bs_length, sec3_len _ _ _]) rfl (bs_one _) (by simp) ?_)
  refine L_nil (C_seq (C_region (LY rfl (y_assign rfl) (L_nil (C_seq (C_seq (C_region (LY rfl (y_fieldAddr rfl fl_54_0) (LY rfl (y_load rfl ag_3 (sees 2 0 rfl) rfl) (L_nil (C_block (C_seq (C_region (LY rfl (y_eqi rfl rfl) (LY rfl (y_assign rfl) (L_nil (C_cond_f rfl (C_seq (C_region (LY rfl (y_eqi rfl rfl) (LY rfl (y_assign rfl) (L_nil (C_cond_f rfl (C_seq (C_region (LY rfl (y_eqi rfl rfl) (LY rfl (y_assign rfl) (L_nil (C_cond_f rfl (C_seq (C_region (LY rfl (y_eqi rfl rfl) (LY rfl (y_assign rfl) (L_nil (C_cond_f rfl (C_seq (C_region (LY rfl (y_eqi rfl rfl) (LY rfl (y_assign rfl) (L_nil (C_cond_f rfl (C_seq (C_region (LY rfl (y_eqi rfl rfl) (LY rfl (y_assign rfl) (L_nil (C_cond_f rfl (C_seq (C_seq (C_region (LY rfl (y_eqi rfl rfl) (LY rfl (y_assign rfl) (L_nil (C_cond_f rfl (C_region (LY rfl (y_eqi rfl rfl) (LY rfl (y_assign rfl) (L_nil (C_cond_f rfl (C_seq (C_seq (C_region (LY rfl (y_eqi rfl rfl) (LY rfl (y_assign rfl) (L_nil (C_cond_t rfl (C_skip (C_cond_t rfl (C_seq ?_)))))))))))))))))))))))))))))))))))))))))))))))))))))))))))))))))))))
  refine C_regionH ([(B1, .cells (acells ⟨8, n, x, y, on⟩).toArray 54)] :: [(B2, .cells [ptr bx, ptr bys].toArray 51)] :: H) (by kernel_rfl) ?_
  refine HY 0 rfl (((hsub (.cons_cons _ (.cons_cons _ (.cons _ (.cons _ (.cons _ (.cons _ (.cons _ (.cons _ (.cons _ (.cons _ (.refl _)))))))))))).trans (hsub_pick [2, 1] rfl))) rfl (y_move rfl) ?_
  refine HY 1 rfl (((hsub (.cons_cons _ (.cons_cons _ (.cons _ (.cons _ (.cons _ (.cons _ (.cons _ (.cons _ (.cons _ (.cons _ (.refl _)))))))))))).trans (hsub_pick [2, 1] rfl))) rfl (y_fieldAddr rfl fl_54_1) ?_
  refine HY 2 rfl (((hsub (.cons_cons _ (.cons_cons _ (.cons _ (.cons _ (.cons _ (.cons _ (.cons _ (.cons _ (.cons _ (.cons _ (.refl _)))))))))))).trans (hsub_pick [2, 1] rfl))) rfl (y_load rfl ag_3 (sees 0 0 rfl) rfl) ?_
  refine H_one 3 rfl (by kernel_rfl) rfl (op_call rfl rfl (fun a w => Try.call71 a w) rfl ?_)
  refine (FnS.sub (hsub_pick [5, 5, 5, 5, 5] rfl) (rthere_s okr _)).mono ?_
  rintro _ _ ⟨e4, rfl⟩
  rw [hb] at e4
  obtain rfl := e4
  refine ⟨_, rfl, ?_⟩
  refine ⟨((hsub (.cons_cons _ (.cons_cons _ (.cons _ (.cons _ (.cons _ (.cons _ (.cons _ (.cons _ (.cons _ (.cons _ (.refl _)))))))))))).trans (hsub_pick [7, 6] rfl)), ?_⟩
  refine HY 4 rfl (((hsub (.cons_cons _ (.cons_cons _ (.cons _ (.cons _ (.cons _ (.cons _ (.cons _ (.cons _ (.cons _ (.cons _ (.refl _)))))))))))).trans (hsub_pick [7, 6] rfl))) rfl (y_move rfl) ?_
  refine HK 5 rfl (((hsub (.cons_cons _ (.cons_cons _ (.cons _ (.cons _ (.cons _ (.cons _ (.cons _ (.cons _ (.cons _ (.cons _ (.refl _)))))))))))).trans (hsub_pick [7, 6] rfl))) rfl ?_
  refine HK 6 rfl (((hsub (.cons_cons _ (.cons_cons _ (.cons _ (.cons _ (.cons _ (.cons _ (.cons _ (.cons _ (.cons _ (.cons _ (.refl _)))))))))))).trans (hsub_pick [7, 6] rfl))) rfl ?_
  refine HK 7 rfl (((hsub (.cons_cons _ (.cons_cons _ (.cons _ (.cons _ (.cons _ (.cons _ (.cons _ (.cons _ (.cons _ (.cons _ (.refl _)))))))))))).trans (hsub_pick [7, 6] rfl))) rfl ?_
  refine HK 8 rfl (((hsub (.cons_cons _ (.cons_cons _ (.cons _ (.cons _ (.cons _ (.cons _ (.cons _ (.cons _ (.cons _ (.cons _ (.refl _)))))))))))).trans (hsub_pick [7, 6] rfl))) rfl ?_
  refine HK 9 rfl (((hsub (.cons_cons _ (.cons_cons _ (.cons _ (.cons _ (.cons _ (.cons _ (.cons _ (.cons _ (.cons _ (.cons _ (.refl _)))))))))))).trans (hsub_pick [7, 6] rfl))) rfl ?_
  refine HK 10 rfl (((hsub (.cons_cons _ (.cons_cons _ (.cons _ (.cons _ (.cons _ (.cons _ (.cons _ (.cons _ (.cons _ (.cons _ (.refl _)))))))))))).trans (hsub_pick [7, 6] rfl))) rfl ?_
  refine HK 11 rfl (((hsub (.cons_cons _ (.cons_cons _ (.cons _ (.cons _ (.cons _ (.cons _ (.cons _ (.cons _ (.cons _ (.cons _ (.refl _)))))))))))).trans (hsub_pick [7, 6] rfl))) rfl ?_
  refine HK 12 rfl (((hsub (.cons_cons _ (.cons_cons _ (.cons _ (.cons _ (.cons _ (.cons _ (.cons _ (.cons _ (.cons _ (.cons _ (.refl _)))))))))))).trans (hsub_pick [7, 6] rfl))) rfl ?_
  refine HK 13 rfl (((hsub (.cons_cons _ (.cons_cons _ (.cons _ (.cons _ (.cons _ (.cons _ (.cons _ (.cons _ (.cons _ (.cons _ (.refl _)))))))))))).trans (hsub_pick [7, 6] rfl))) rfl ?_
  refine HK 14 rfl (((hsub (.cons_cons _ (.cons_cons _ (.cons _ (.cons _ (.cons _ (.cons _ (.cons _ (.cons _ (.cons _ (.cons _ (.refl _)))))))))))).trans (hsub_pick [7, 6] rfl))) rfl ?_
  refine HK 15 rfl (((hsub (.cons_cons _ (.cons_cons _ (.cons _ (.cons _ (.cons _ (.cons _ (.cons _ (.cons _ (.cons _ (.cons _ (.refl _)))))))))))).trans (hsub_pick [7, 6] rfl))) rfl ?_
  refine HK 16 rfl (((hsub (.cons_cons _ (.cons_cons _ (.cons _ (.cons _ (.cons _ (.cons _ (.cons _ (.cons _ (.cons _ (.cons _ (.refl _)))))))))))).trans (hsub_pick [7, 6] rfl))) rfl ?_
  refine HK 17 rfl (((hsub (.cons_cons _ (.cons_cons _ (.cons _ (.cons _ (.cons _ (.cons _ (.cons _ (.cons _ (.cons _ (.cons _ (.refl _)))))))))))).trans (hsub_pick [7, 6] rfl))) rfl ?_
  refine HK 18 rfl (((hsub (.cons_cons _ (.cons_cons _ (.cons _ (.cons _ (.cons _ (.cons _ (.cons _ (.cons _ (.cons _ (.cons _ (.refl _)))))))))))).trans (hsub_pick [7, 6] rfl))) rfl ?_
  refine HY 19 rfl (((hsub (.cons_cons _ (.cons_cons _ (.cons _ (.cons _ (.cons _ (.cons _ (.cons _ (.cons _ (.cons _ (.cons _ (.refl _)))))))))))).trans (hsub_pick [7, 6] rfl))) rfl (y_pick_f rfl rfl) ?_
  refine H_done (by kernel_rfl) ?_
  refine C_cond_f rfl (C_skip (C_seq (C_region (LY rfl (y_move rfl) ?_))))
  refine L_op rfl (op_call rfl rfl (fun a w => Try.call21 a w) rfl ?_)
  refine (FnS.sub (hsub_pick [8, 8] rfl) (flush_r h)).mono ?_
  rintro _ _ ⟨e4, D1, A1, m1, hS1, rfl⟩
  obtain rfl := e4
  refine ⟨_, rfl, ?_⟩
  refine LY rfl (y_assign rfl) (L_nil (C_seq (C_region (LY rfl (y_move rfl) ?_))))
  refine L_op rfl (op_call rfl rfl (fun a w => Try.call35 a w) rfl ?_)
  refine (FnS.sub (hsub_pick [0] rfl) (stale_r hS1)).mono ?_
  rintro _ _ ⟨rfl, rfl⟩
  refine ⟨_, rfl, ?_⟩
  refine LY rfl (y_move rfl) (LY rfl (y_extract rfl rfl) (LY rfl (y_extract rfl rfl) (LY rfl (y_assign rfl) (LY rfl (y_assign rfl) (L_nil (C_seq (C_region (LY rfl (y_move rfl) (LY rfl (y_move rfl) (LY rfl (y_move rfl) (LY rfl (y_eqi rfl rfl) (LY rfl (y_move rfl) (LY rfl (y_nilCheck rfl) (LY rfl (y_fieldAddr rfl fl_126_1) ?_))))))))))))))
  refine LY rfl (y_indexA rfl rfl Try.underlying62 sz_4 (by omega) (by omega) (show _ = 2 from rfl)) ?_
  refine LY rfl (y_load rfl ag_4 (sees 2 0 rfl) rfl) (LY rfl (y_not rfl) (LY rfl (y_move rfl) ?_))
  refine L_case 203 rfl (fun hg30_11 => ?_) (fun hg30_11 => ?_)
  · skip
    refine L_skip rfl rfl (L_skip rfl rfl (L_skip rfl rfl (L_skip rfl rfl (L_skip rfl rfl (L_skip rfl rfl (LY rfl (y_pick_t rfl rfl) ?_))))))
    refine LY rfl (y_eqb rfl rfl Try.underlying4) ?_
    refine LY rfl (y_pick_t rfl rfl) (LY rfl (y_move rfl) ?_)
    refine L_case 213 rfl (fun hg30_21 => ?_) (fun hg30_21 => ?_)
    · skip
      refine LY rfl (y_move rfl) (LY rfl (y_move rfl) ?_)
      refine L_op rfl (op_call rfl rfl (fun a w => Try.call72 a w) rfl ?_)
      refine (FnS.sub (hsub_pick [2, 2, 2, 2, 2] rfl) (rcount0_s (hS1.rel.ok hK))).mono ?_
      rintro _ _ ⟨rfl, rfl⟩
      refine ⟨_, rfl, ?_⟩
      refine LY rfl (y_eqi rfl rfl) (LY rfl (y_pick_t rfl rfl) (LY rfl (y_move rfl) ?_))
      refine L_case 219 rfl (fun hg30_27 => ?_) (fun hg30_27 => ?_)
      · skip
        refine LY rfl (y_move rfl) (LY rfl (y_move rfl) ?_)
        refine L_op rfl (op_call rfl rfl (fun a w => Try.call72 a w) rfl ?_)
        refine (FnS.sub (hsub_pick [0, 0, 0, 0, 0] rfl) (rcount1_s (hS1.rel.ok hK))).mono ?_
        rintro _ _ ⟨rfl, rfl⟩
        refine ⟨_, rfl, ?_⟩
        refine LY rfl (y_eqi rfl rfl) (LY rfl (y_pick_t rfl rfl) (LY rfl (y_assign rfl) (L_nil (C_ret ?_))))
        refine B_ret (rv_tmp rfl rv_nil) ((hsub (.cons_cons _ (.cons_cons _ (.cons_cons _ (.cons_cons _ (.cons_cons _ (.cons_cons _ (.cons_cons _ (.cons _ (.cons _ (.cons _ (.refl _)))))))))))).trans (hsub_pick [5, 5, 0, 0, 0, 0, 0] rfl)) ?_
        rw [rot_no hb]
        exact ⟨ret_bool (by simp), _, _, _, hS1, rfl⟩
      · exact absurd hg30_27 (by simp)
    · exact absurd hg30_21 (by simp_all [Rm.put, Rm.sd])
  · skip
    refine LY rfl (y_move rfl) (LY rfl (y_nilCheck rfl) (LY rfl (y_fieldAddr rfl fl_126_1) ?_))
    refine LY rfl (y_indexA rfl rfl Try.underlying62 sz_4 (by omega) (by omega) (show _ = 3 from rfl)) ?_
    refine LY rfl (y_load rfl ag_4 (sees 2 0 rfl) rfl) (LY rfl (y_not rfl) (LY rfl (y_pick_f rfl rfl) ?_))
    refine LY rfl (y_eqb rfl rfl Try.underlying4) ?_
    refine LY rfl (y_pick_t rfl rfl) (LY rfl (y_move rfl) ?_)
    refine L_case 213 rfl (fun hg30_21 => ?_) (fun hg30_21 => ?_)
    · skip
      refine LY rfl (y_move rfl) (LY rfl (y_move rfl) ?_)
      refine L_op rfl (op_call rfl rfl (fun a w => Try.call72 a w) rfl ?_)
      refine (FnS.sub (hsub_pick [2, 2, 2, 2, 2] rfl) (rcount0_s (hS1.rel.ok hK))).mono ?_
      rintro _ _ ⟨rfl, rfl⟩
      refine ⟨_, rfl, ?_⟩
      refine LY rfl (y_eqi rfl rfl) (LY rfl (y_pick_t rfl rfl) (LY rfl (y_move rfl) ?_))
      refine L_case 219 rfl (fun hg30_27 => ?_) (fun hg30_27 => ?_)
      · skip
        refine LY rfl (y_move rfl) (LY rfl (y_move rfl) ?_)
        refine L_op rfl (op_call rfl rfl (fun a w => Try.call72 a w) rfl ?_)
        refine (FnS.sub (hsub_pick [0, 0, 0, 0, 0] rfl) (rcount1_s (hS1.rel.ok hK))).mono ?_
        rintro _ _ ⟨rfl, rfl⟩
        refine ⟨_, rfl, ?_⟩
        refine LY rfl (y_eqi rfl rfl) (LY rfl (y_pick_t rfl rfl) (LY rfl (y_assign rfl) (L_nil (C_ret ?_))))
        refine B_ret (rv_tmp rfl rv_nil) ((hsub (.cons_cons _ (.cons_cons _ (.cons_cons _ (.cons_cons _ (.cons_cons _ (.cons_cons _ (.cons_cons _ (.cons _ (.cons _ (.cons _ (.refl _)))))))))))).trans (hsub_pick [5, 5, 0, 0, 0, 0, 0] rfl)) ?_
        rw [rot_no hb]
        exact ⟨ret_bool (by simp), _, _, _, hS1, rfl⟩
      · exact absurd hg30_27 (by simp)
    · exact absurd hg30_21 (by simp_all [Rm.put, Rm.sd])

set_option maxHeartbeats 1000000 in

theorem play_8y {w0 : World} {H : Hp} {o : Ro} {K : Nat} {r : Rm} {D : Duo} {A : Da} {m : Mi} {mb bx bys bp : Nat} (h : Mq dt (.func (.func 18) #[] ([] : List Value).toArray) D A m r K 0 0 mb bx bys bp) (hK : K ≤ 4096) (n : Nat) (x y : UInt8) (on : Bool) (hb : r.has (n : Int) = true) (hn : n < K) : FnS Try.prog w0 38 #[.agg (acells ⟨8, (n : Int), x, y, on⟩).toArray, ptr mb, .agg [ptr bx, ptr bys].toArray, ptr o.b] (m.seg 110 :: D.seg dt :: (o.hp 126 32 4 K r H)) (fun e H' => e = .returned (.bool true) ∧ ∃ D' A' m', Mq dt (.func (.func 18) #[] ([] : List Value).toArray) D' A' m' (r.rot false (n : Int) (x.toNat % 128) y) K 0 0 mb bx bys bp ∧ H' = m'.seg 110 :: D'.seg dt :: (o.hp 126 32 4 K (r.rot false (n : Int) (x.toNat % 128) y) H)) := by
  have okr := h.rel.ok hK
  have hbx := x.toNat_lt
  refine FnS_intro (n := 225) (rs := [.tmp 8]) (vs := [.agg (acells ⟨8, (n : Int), x, y, on⟩).toArray, ptr mb, .agg [ptr bx, ptr bys].toArray, ptr o.b]) Try.func38 rfl Try.ntmps38 rfl rfl ?_
  refine C_seq (C_region ?_)
  refine L_op rfl (op_box rfl rfl rfl (fun B1 => ?_))
  refine L_op rfl (op_box rfl rfl rfl (fun B2 => ?_))
  refine LY rfl (y_assign rfl) (L_nil (C_seq (C_region (LY rfl (y_fieldAddr rfl fl_54_2) (LY rfl (y_load rfl ag_5 (sees 1 0 rfl) rfl) (LY rfl (y_fieldAddr rfl fl_54_3) (LY rfl (y_load rfl ag_5 (sees 1 0 rfl) rfl) ?_)))))))
  refine L_op rfl (op_call rfl rfl (fun a w => Try.call20 a w) rfl ?_)
  refine (sector3_s x y).mono ?_
  rintro _ _ ⟨rfl, e⟩
  obtain rfl := e.symm
  clear e
  refine ⟨_, rfl, ?_⟩
  refine L_op rfl (op_alloc zl_32 rfl (fun B3 => ?_))
  refine L_op rfl (op_storeA 0 0 rfl rfl rfl sz_32 (by rw [bs_length, sec3_len _ _ _]) rfl (bs_one _) (by simp) ?_)
  refine L_nil (C_seq (C_region (LY rfl (y_assign rfl) (L_nil (C_seq (C_seq (C_region (LY rfl (y_fieldAddr rfl fl_54_0) (LY rfl (y_load rfl ag_3 (sees 2 0 rfl) rfl) (L_nil (C_block (C_seq (C_region (LY rfl (y_eqi rfl rfl) (LY rfl (y_assign rfl) (L_nil (C_cond_f rfl (C_seq (C_region (LY rfl (y_eqi rfl rfl) (LY rfl (y_assign rfl) (L_nil (C_cond_f rfl (C_seq (C_region (LY rfl (y_eqi rfl rfl) (LY rfl (y_assign rfl) (L_nil (C_cond_f rfl (C_seq (C_region (LY rfl (y_eqi rfl rfl) (LY rfl (y_assign rfl) (L_nil (C_cond_f rfl (C_seq (C_region (LY rfl (y_eqi rfl rfl) (LY rfl (y_assign rfl) (L_nil (C_cond_f rfl (C_seq (C_region (LY rfl (y_eqi rfl rfl) (LY rfl (y_assign rfl) (L_nil (C_cond_f rfl (C_seq (C_seq (C_region (LY rfl (y_eqi rfl rfl) (LY rfl (y_assign rfl) (L_nil (C_cond_f rfl (C_region (LY rfl (y_eqi rfl rfl) (LY rfl (y_assign rfl) (L_nil (C_cond_f rfl (C_seq (C_seq (C_region (LY rfl (y_eqi rfl rfl) (LY rfl (y_assign rfl) (L_nil (C_cond_t rfl (C_skip (C_cond_t rfl (C_seq ?_)))))))))))))))))))))))))))))))))))))))))))))))))))))))))))))))))))))
  refine C_regionH ([(B1, .cells (acells ⟨8, (n : Int), x, y, on⟩).toArray 54)] :: [(B2, .cells [ptr bx, ptr bys].toArray 51)] :: H) (by kernel_rfl) ?_
  refine HY 0 rfl (((hsub (.cons_cons _ (.cons_cons _ (.cons _ (.cons _ (.cons _ (.cons _ (.cons _ (.cons _ (.cons _ (.cons _ (.refl _)))))))))))).trans (hsub_pick [2, 1] rfl))) rfl (y_move rfl) ?_
  refine HY 1 rfl (((hsub (.cons_cons _ (.cons_cons _ (.cons _ (.cons _ (.cons _ (.cons _ (.cons _ (.cons _ (.cons _ (.cons _ (.refl _)))))))))))).trans (hsub_pick [2, 1] rfl))) rfl (y_fieldAddr rfl fl_54_1) ?_
  refine HY 2 rfl (((hsub (.cons_cons _ (.cons_cons _ (.cons _ (.cons _ (.cons _ (.cons _ (.cons _ (.cons _ (.cons _ (.cons _ (.refl _)))))))))))).trans (hsub_pick [2, 1] rfl))) rfl (y_load rfl ag_3 (sees 0 0 rfl) rfl) ?_
  refine H_one 3 rfl (by kernel_rfl) rfl (op_call rfl rfl (fun a w => Try.call71 a w) rfl ?_)
  refine (FnS.sub (hsub_pick [5, 5, 5, 5, 5] rfl) (rthere_s okr _)).mono ?_
  rintro _ _ ⟨e4, rfl⟩
  rw [hb] at e4
  obtain rfl := e4
  refine ⟨_, rfl, ?_⟩
  refine ⟨((hsub (.cons_cons _ (.cons_cons _ (.cons _ (.cons _ (.cons _ (.cons _ (.cons _ (.cons _ (.cons _ (.cons _ (.refl _)))))))))))).trans (hsub_pick [7, 6] rfl)), ?_⟩
  refine HY 4 rfl (((hsub (.cons_cons _ (.cons_cons _ (.cons _ (.cons _ (.cons _ (.cons _ (.cons _ (.cons _ (.cons _ (.cons _ (.refl _)))))))))))).trans (hsub_pick [7, 6] rfl))) rfl (y_move rfl) ?_
  refine HY 5 rfl (((hsub (.cons_cons _ (.cons_cons _ (.cons _ (.cons _ (.cons _ (.cons _ (.cons _ (.cons _ (.cons _ (.cons _ (.refl _)))))))))))).trans (hsub_pick [7, 6] rfl))) rfl (y_fieldAddr rfl fl_54_0) ?_
  refine HY 6 rfl (((hsub (.cons_cons _ (.cons_cons _ (.cons _ (.cons _ (.cons _ (.cons _ (.cons _ (.cons _ (.cons _ (.cons _ (.refl _)))))))))))).trans (hsub_pick [7, 6] rfl))) rfl (y_load rfl ag_3 (sees 0 0 rfl) rfl) ?_
  refine HY 7 rfl (((hsub (.cons_cons _ (.cons_cons _ (.cons _ (.cons _ (.cons _ (.cons _ (.cons _ (.cons _ (.cons _ (.cons _ (.refl _)))))))))))).trans (hsub_pick [7, 6] rfl))) rfl (y_sub rfl rfl (show _ = (0 : Int) from rfl)) ?_
  refine HY 8 rfl (((hsub (.cons_cons _ (.cons_cons _ (.cons _ (.cons _ (.cons _ (.cons _ (.cons _ (.cons _ (.cons _ (.cons _ (.refl _)))))))))))).trans (hsub_pick [7, 6] rfl))) rfl (y_indexA rfl rfl Try.underlying51 sz_24 (by omega) (by omega) (show _ = 0 from rfl)) ?_
  refine HY 9 rfl (((hsub (.cons_cons _ (.cons_cons _ (.cons _ (.cons _ (.cons _ (.cons _ (.cons _ (.cons _ (.cons _ (.cons _ (.refl _)))))))))))).trans (hsub_pick [7, 6] rfl))) rfl (y_load rfl ag_24 (sees 1 0 rfl) rfl) ?_
  refine HY 10 rfl (((hsub (.cons_cons _ (.cons_cons _ (.cons _ (.cons _ (.cons _ (.cons _ (.cons _ (.cons _ (.cons _ (.cons _ (.refl _)))))))))))).trans (hsub_pick [7, 6] rfl))) rfl (y_fieldAddr rfl fl_54_1) ?_
  refine HY 11 rfl (((hsub (.cons_cons _ (.cons_cons _ (.cons _ (.cons _ (.cons _ (.cons _ (.cons _ (.cons _ (.cons _ (.cons _ (.refl _)))))))))))).trans (hsub_pick [7, 6] rfl))) rfl (y_load rfl ag_3 (sees 0 0 rfl) rfl) ?_
  refine HY 12 rfl (((hsub (.cons_cons _ (.cons_cons _ (.cons _ (.cons _ (.cons _ (.cons _ (.cons _ (.cons _ (.cons _ (.cons _ (.refl _)))))))))))).trans (hsub_pick [7, 6] rfl))) rfl (y_fieldAddr rfl fl_54_2) ?_
  refine HY 13 rfl (((hsub (.cons_cons _ (.cons_cons _ (.cons _ (.cons _ (.cons _ (.cons _ (.cons _ (.cons _ (.cons _ (.cons _ (.refl _)))))))))))).trans (hsub_pick [7, 6] rfl))) rfl (y_load rfl ag_5 (sees 0 0 rfl) rfl) ?_
  refine HY 14 rfl (((hsub (.cons_cons _ (.cons_cons _ (.cons _ (.cons _ (.cons _ (.cons _ (.cons _ (.cons _ (.cons _ (.cons _ (.refl _)))))))))))).trans (hsub_pick [7, 6] rfl))) rfl (y_conv rfl us_5 Try.underlying3 (show _ = (x.toNat : Int) from wi64 (m := (x.toNat : Int)) (by omega) (by omega))) ?_
  refine HY 15 rfl (((hsub (.cons_cons _ (.cons_cons _ (.cons _ (.cons _ (.cons _ (.cons _ (.cons _ (.cons _ (.cons _ (.cons _ (.refl _)))))))))))).trans (hsub_pick [7, 6] rfl))) rfl (y_rem rfl rfl (by decide) (show _ = ((x.toNat % 128 : Nat) : Int) from rfl)) ?_
  refine HY 16 rfl (((hsub (.cons_cons _ (.cons_cons _ (.cons _ (.cons _ (.cons _ (.cons _ (.cons _ (.cons _ (.cons _ (.cons _ (.refl _)))))))))))).trans (hsub_pick [7, 6] rfl))) rfl (y_fieldAddr rfl fl_54_3) ?_
  refine HY 17 rfl (((hsub (.cons_cons _ (.cons_cons _ (.cons _ (.cons _ (.cons _ (.cons _ (.cons _ (.cons _ (.cons _ (.cons _ (.refl _)))))))))))).trans (hsub_pick [7, 6] rfl))) rfl (y_load rfl ag_5 (sees 0 0 rfl) rfl) ?_
  refine H_one 18 rfl (by kernel_rfl) rfl (op_call rfl rfl (fun a w => Try.call34 a w) rfl ?_)
  refine (FnS.sub (hsub_pick [9] rfl) (rot_r h false (n : Int) (j := x.toNat % 128) (c := y) (by omega))).mono ?_
  rintro _ _ ⟨e4, D1, A1, hS1, rfl⟩
  rw [hb] at e4
  obtain rfl := e4
  rw [rot_is hb] at hS1
  refine ⟨_, rfl, ?_⟩
  refine ⟨((hsub (.cons_cons _ (.cons_cons _ (.cons _ (.cons _ (.cons _ (.cons _ (.cons _ (.cons _ (.cons _ (.cons _ (.refl _)))))))))))).trans (hsub_pick [8, 7] rfl)), ?_⟩
  refine HY 19 rfl (((hsub (.cons_cons _ (.cons_cons _ (.cons _ (.cons _ (.cons _ (.cons _ (.cons _ (.cons _ (.cons _ (.cons _ (.refl _)))))))))))).trans (hsub_pick [8, 7] rfl))) rfl (y_pick_t rfl rfl) ?_
  refine H_done (by kernel_rfl) ?_
  refine C_cond_t rfl ?_
  refine C_regionT 22 (by kernel_rfl) (by kernel_rfl) ?_
  refine S_y rfl (y_move rfl) rfl ?_
  refine S_y rfl (y_fieldAddr rfl fl_54_0) rfl ?_
  refine S_y rfl (y_load rfl ag_3 (sees 8 0 rfl) rfl) rfl ?_
  refine S_y rfl (y_sub rfl rfl (show _ = (0 : Int) from rfl)) rfl ?_
  refine S_y rfl (y_nilCheck rfl) rfl ?_
  refine S_y rfl (y_fieldAddr rfl fl_126_0) rfl ?_
  refine S_y rfl (y_indexA rfl rfl Try.underlying122 sz_40 (by omega) (by omega) (show _ = 0 from rfl)) rfl ?_
  refine S_y rfl (y_load rfl ag_40 (sees 1 0 rfl) rfl) rfl ?_
  refine S_y rfl (y_fieldAddr rfl fl_54_1) rfl ?_
  refine S_y rfl (y_load rfl ag_3 (sees 8 0 rfl) rfl) rfl ?_
  refine S_y rfl (y_fieldAddr rfl fl_54_2) rfl ?_
  refine S_y rfl (y_load rfl ag_5 (sees 8 0 rfl) rfl) rfl ?_
  refine S_y rfl (y_conv rfl us_5 Try.underlying3 (show _ = (x.toNat : Int) from wi64 (m := (x.toNat : Int)) (by omega) (by omega))) rfl ?_
  refine S_y rfl (y_rem rfl rfl (by decide) (show _ = ((x.toNat % 128 : Nat) : Int) from rfl)) rfl ?_
  refine S_y rfl (y_indexS rfl rfl Try.underlying40 sz_32 (by dsimp only; omega) (by dsimp only; omega) (show _ = n * 128 from by simp)) rfl ?_
  refine S_y rfl (y_indexA rfl rfl Try.underlying32 sz_5 (by omega) (by omega) (show _ = n * 128 + x.toNat % 128 from by simp only [Int.toNat_natCast, Nat.mul_one])) rfl ?_
  refine S_y rfl (y_load rfl ag_5 (sees 2 0 rfl) (show _ = some (Value.int .u8 ((((r.sd false).l.getD n []).getD (x.toNat % 128) 0).toNat : Int)) from rot_get okr.l0 hn okr.ok0 (by omega))) rfl ?_
  refine S_y rfl (y_fieldAddr rfl fl_54_3) rfl ?_
  refine S_y rfl (y_load rfl ag_5 (sees 8 0 rfl) rfl) rfl ?_
  refine S_y rfl (y_xor rfl rfl (bits_xor8 _ y)) rfl ?_
  refine S_y rfl (y_indexS rfl rfl Try.underlying40 sz_32 (by dsimp only; omega) (by dsimp only; omega) (show _ = n * 128 from by simp)) rfl ?_
  refine S_y rfl (y_indexA rfl rfl Try.underlying32 sz_5 (by omega) (by omega) (show _ = n * 128 + x.toNat % 128 from by simp only [Int.toNat_natCast, Nat.mul_one])) rfl ?_
  refine S_nil ?_
  refine L_op rfl (op_store1 2 0 rfl rfl rfl sz_5 rfl (by rw [bs_length, flat_len okr.ok0, okr.l0]; omega) ?_)
  rw [show (Value.int .u8 (((((r.sd false).l.getD n []).getD (x.toNat % 128) 0) ^^^ y).toNat : Int)) = u8 (((r.sd false).l.getD n []).getD (x.toNat % 128) 0 ^^^ y) from rfl, show (r.sd false).l = r.x.l from rfl, rot_set okr.l0 hn okr.ok0 (by omega)]
  refine L_nil (C_seq (C_region (LY rfl (y_move rfl) ?_)))
  refine L_op rfl (op_call rfl rfl (fun a w => Try.call21 a w) rfl ?_)
  refine (FnS.sub (hsub_pick [9, 0] rfl) (flush_r hS1)).mono ?_
  rintro _ _ ⟨e4, D2, A2, m2, hS2, rfl⟩
  obtain rfl := e4
  refine ⟨_, rfl, ?_⟩
  refine LY rfl (y_assign rfl) (L_nil (C_seq (C_region (LY rfl (y_move rfl) ?_))))
  refine L_op rfl (op_call rfl rfl (fun a w => Try.call35 a w) rfl ?_)
  refine (FnS.sub (hsub_pick [0] rfl) (stale_r hS2)).mono ?_
  rintro _ _ ⟨rfl, rfl⟩
  refine ⟨_, rfl, ?_⟩
  refine LY rfl (y_move rfl) (LY rfl (y_extract rfl rfl) (LY rfl (y_extract rfl rfl) (LY rfl (y_assign rfl) (LY rfl (y_assign rfl) (L_nil (C_seq (C_region (LY rfl (y_move rfl) (LY rfl (y_move rfl) (LY rfl (y_move rfl) (LY rfl (y_eqi rfl rfl) (LY rfl (y_move rfl) (LY rfl (y_nilCheck rfl) (LY rfl (y_fieldAddr rfl fl_126_1) ?_))))))))))))))
  refine LY rfl (y_indexA rfl rfl Try.underlying62 sz_4 (by omega) (by omega) (show _ = 2 from rfl)) ?_
  refine LY rfl (y_load rfl ag_4 (sees 2 0 rfl) rfl) (LY rfl (y_not rfl) (LY rfl (y_move rfl) ?_))
  refine L_case 203 rfl (fun hg30_11 => ?_) (fun hg30_11 => ?_)
  · skip
    refine L_skip rfl rfl (L_skip rfl rfl (L_skip rfl rfl (L_skip rfl rfl (L_skip rfl rfl (L_skip rfl rfl (LY rfl (y_pick_t rfl rfl) ?_))))))
    refine LY rfl (y_eqb rfl rfl Try.underlying4) ?_
    refine LY rfl (y_pick_t rfl rfl) (LY rfl (y_move rfl) ?_)
    refine L_case 213 rfl (fun hg30_21 => ?_) (fun hg30_21 => ?_)
    · skip
      refine LY rfl (y_move rfl) (LY rfl (y_move rfl) ?_)
      refine L_op rfl (op_call rfl rfl (fun a w => Try.call72 a w) rfl ?_)
      refine (FnS.sub (hsub_pick [2, 2, 2, 2, 2] rfl) (rcount0_s (hS2.rel.ok hK))).mono ?_
      rintro _ _ ⟨rfl, rfl⟩
      refine ⟨_, rfl, ?_⟩
      refine LY rfl (y_eqi rfl rfl) (LY rfl (y_pick_t rfl rfl) (LY rfl (y_move rfl) ?_))
      refine L_case 219 rfl (fun hg30_27 => ?_) (fun hg30_27 => ?_)
      · skip
        refine LY rfl (y_move rfl) (LY rfl (y_move rfl) ?_)
        refine L_op rfl (op_call rfl rfl (fun a w => Try.call72 a w) rfl ?_)
        refine (FnS.sub (hsub_pick [0, 0, 0, 0, 0] rfl) (rcount1_s (hS2.rel.ok hK))).mono ?_
        rintro _ _ ⟨rfl, rfl⟩
        refine ⟨_, rfl, ?_⟩
        refine LY rfl (y_eqi rfl rfl) (LY rfl (y_pick_t rfl rfl) (LY rfl (y_assign rfl) (L_nil (C_ret ?_))))
        refine B_ret (rv_tmp rfl rv_nil) ((hsub (.cons_cons _ (.cons_cons _ (.cons_cons _ (.cons_cons _ (.cons_cons _ (.cons_cons _ (.cons_cons _ (.cons _ (.cons _ (.cons _ (.refl _)))))))))))).trans (hsub_pick [5, 5, 0, 0, 0, 0, 0] rfl)) ?_
        rw [rot_is hb]
        exact ⟨ret_bool (by simp), _, _, _, hS2, rfl⟩
      · exact absurd hg30_27 (by simp)
    · exact absurd hg30_21 (by simp_all [Rm.put, Rm.sd])
  · skip
    refine LY rfl (y_move rfl) (LY rfl (y_nilCheck rfl) (LY rfl (y_fieldAddr rfl fl_126_1) ?_))
    refine LY rfl (y_indexA rfl rfl Try.underlying62 sz_4 (by omega) (by omega) (show _ = 3 from rfl)) ?_
    refine LY rfl (y_load rfl ag_4 (sees 2 0 rfl) rfl) (LY rfl (y_not rfl) (LY rfl (y_pick_f rfl rfl) ?_))
    refine LY rfl (y_eqb rfl rfl Try.underlying4) ?_
    refine LY rfl (y_pick_t rfl rfl) (LY rfl (y_move rfl) ?_)
    refine L_case 213 rfl (fun hg30_21 => ?_) (fun hg30_21 => ?_)
    · skip
      refine LY rfl (y_move rfl) (LY rfl (y_move rfl) ?_)
      refine L_op rfl (op_call rfl rfl (fun a w => Try.call72 a w) rfl ?_)
      refine (FnS.sub (hsub_pick [2, 2, 2, 2, 2] rfl) (rcount0_s (hS2.rel.ok hK))).mono ?_
      rintro _ _ ⟨rfl, rfl⟩
      refine ⟨_, rfl, ?_⟩
      refine LY rfl (y_eqi rfl rfl) (LY rfl (y_pick_t rfl rfl) (LY rfl (y_move rfl) ?_))
      refine L_case 219 rfl (fun hg30_27 => ?_) (fun hg30_27 => ?_)
      · skip
        refine LY rfl (y_move rfl) (LY rfl (y_move rfl) ?_)
        refine L_op rfl (op_call rfl rfl (fun a w => Try.call72 a w) rfl ?_)
        refine (FnS.sub (hsub_pick [0, 0, 0, 0, 0] rfl) (rcount1_s (hS2.rel.ok hK))).mono ?_
        rintro _ _ ⟨rfl, rfl⟩
        refine ⟨_, rfl, ?_⟩
        refine LY rfl (y_eqi rfl rfl) (LY rfl (y_pick_t rfl rfl) (LY rfl (y_assign rfl) (L_nil (C_ret ?_))))
        refine B_ret (rv_tmp rfl rv_nil) ((hsub (.cons_cons _ (.cons_cons _ (.cons_cons _ (.cons_cons _ (.cons_cons _ (.cons_cons _ (.cons_cons _ (.cons _ (.cons _ (.cons _ (.refl _)))))))))))).trans (hsub_pick [5, 5, 0, 0, 0, 0, 0] rfl)) ?_
        rw [rot_is hb]
        exact ⟨ret_bool (by simp), _, _, _, hS2, rfl⟩
      · exact absurd hg30_27 (by simp)
    · exact absurd hg30_21 (by simp_all [Rm.put, Rm.sd])

set_option maxHeartbeats 1000000 in

theorem play_9n {w0 : World} {H : Hp} {o : Ro} {K : Nat} {r : Rm} {D : Duo} {A : Da} {m : Mi} {mb bx bys bp : Nat} (h : Mq dt (.func (.func 18) #[] ([] : List Value).toArray) D A m r K 0 0 mb bx bys bp) (hK : K ≤ 4096) (n : Int) (x y : UInt8) (on : Bool) (hb : r.has n = false) : FnS Try.prog w0 38 #[.agg (acells ⟨9, n, x, y, on⟩).toArray, ptr mb, .agg [ptr bx, ptr bys].toArray, ptr o.b] (m.seg 110 :: D.seg dt :: (o.hp 126 32 4 K r H)) (fun e H' => e = .returned (.bool true) ∧ ∃ D' A' m', Mq dt (.func (.func 18) #[] ([] : List Value).toArray) D' A' m' (r.rot true n (x.toNat % 128) y) K 0 0 mb bx bys bp ∧ H' = m'.seg 110 :: D'.seg dt :: (o.hp 126 32 4 K (r.rot true n (x.toNat % 128) y) H)) := by
  have okr := h.rel.ok hK
  have hbx := x.toNat_lt
  refine FnS_intro (n := 225) (rs := [.tmp 8]) (vs := [.agg (acells ⟨9, n, x, y, on⟩).toArray, ptr mb, .agg [ptr bx, ptr bys].toArray, ptr o.b]) Try.func38 rfl Try.ntmps38 rfl rfl ?_
  refine C_seq (C_region ?_)
  refine L_op rfl (op_box rfl rfl rfl (fun B1 => ?_))
  refine L_op rfl (op_box rfl rfl rfl (fun B2 => ?_))
  refine LY rfl (y_assign rfl) (L_nil (C_seq (C_region (LY rfl (y_fieldAddr rfl fl_54_2) (LY rfl (y_load rfl ag_5 (sees 1 0 rfl) rfl) (LY rfl (y_fieldAddr rfl fl_54_3) (LY rfl (y_load rfl ag_5 (sees 1 0 rfl) rfl) ?_)))))))
  refine L_op rfl (op_call rfl rfl (fun a w => Try.call20 a w) rfl ?_)
  refine (sector3_s x y).mono ?_
  rintro _ _ ⟨rfl, e⟩
  obtain rfl := e.symm
  clear e
  refine ⟨_, rfl, ?_⟩
  refine L_op rfl (op_alloc zl_32 rfl (fun B3 => ?_))
  refine L_op rfl (op_storeA 0 0 rfl rfl rfl sz_32 (by rw [bs_length, sec3_len _ _ _]) rfl (bs_one _) (by simp) ?_)
  refine L_nil (C_seq (C_region (LY rfl (y_assign rfl) (L_nil (C_seq (C_seq (C_region (LY rfl (y_fieldAddr rfl fl_54_0) (LY rfl (y_load rfl ag_3 (sees 2 0 rfl) rfl) (L_nil (C_block (C_seq (C_region (LY rfl (y_eqi rfl rfl) (LY rfl (y_assign rfl) (L_nil (C_cond_f rfl (C_seq (C_region (LY rfl (y_eqi rfl rfl) (LY rfl (y_assign rfl) (L_nil (C_cond_f rfl (C_seq (C_region (LY rfl (y_eqi rfl rfl) (LY rfl (y_assign rfl) (L_nil (C_cond_f rfl (C_seq (C_region (LY rfl (y_eqi rfl rfl) (LY rfl (y_assign rfl) (L_nil (C_cond_f rfl (C_seq (C_region (LY rfl (y_eqi rfl rfl) (LY rfl (y_assign rfl) (L_nil (C_cond_f rfl (C_seq (C_region (LY rfl (y_eqi rfl rfl) (LY rfl (y_assign rfl) (L_nil (C_cond_f rfl (C_seq (C_seq (C_region (LY rfl (y_eqi rfl rfl) (LY rfl (y_assign rfl) (L_nil (C_cond_f rfl (C_region (LY rfl (y_eqi rfl rfl) (LY rfl (y_assign rfl) (L_nil (C_cond_f rfl (C_seq (C_seq (C_region (LY rfl (y_eqi rfl rfl) (LY rfl (y_assign rfl) (L_nil (C_cond_f rfl (C_region (LY rfl (y_eqi rfl rfl) (LY rfl (y_assign rfl) (L_nil (C_cond_t rfl (C_seq ?_))))))))))))))))))))))))))))))))))))))))))))))))))))))))))))))))))))))))
  refine C_regionH ([(B1, .cells (acells ⟨9, n, x, y, on⟩).toArray 54)] :: [(B2, .cells [ptr bx, ptr bys].toArray 51)] :: H) (by kernel_rfl) ?_
  refine HY 0 rfl (((hsub (.cons_cons _ (.cons_cons _ (.cons _ (.cons _ (.cons _ (.cons _ (.cons _ (.cons _ (.cons _ (.cons _ (.refl _)))))))))))).trans (hsub_pick [2, 1] rfl))) rfl (y_move rfl) ?_
  refine HY 1 rfl (((hsub (.cons_cons _ (.cons_cons _ (.cons _ (.cons _ (.cons _ (.cons _ (.cons _ (.cons _ (.cons _ (.cons _ (.refl _)))))))))))).trans (hsub_pick [2, 1] rfl))) rfl (y_fieldAddr rfl fl_54_1) ?_
  refine HY 2 rfl (((hsub (.cons_cons _ (.cons_cons _ (.cons _ (.cons _ (.cons _ (.cons _ (.cons _ (.cons _ (.cons _ (.cons _ (.refl _)))))))))))).trans (hsub_pick [2, 1] rfl))) rfl (y_load rfl ag_3 (sees 0 0 rfl) rfl) ?_
  refine H_one 3 rfl (by kernel_rfl) rfl (op_call rfl rfl (fun a w => Try.call71 a w) rfl ?_)
  refine (FnS.sub (hsub_pick [5, 5, 5, 5, 5] rfl) (rthere_s okr _)).mono ?_
  rintro _ _ ⟨e4, rfl⟩
  rw [hb] at e4
  obtain rfl := e4
  refine ⟨_, rfl, ?_⟩
  refine ⟨((hsub (.cons_cons _ (.cons_cons _ (.cons _ (.cons _ (.cons _ (.cons _ (.cons _ (.cons _ (.cons _ (.cons _ (.refl _)))))))))))).trans (hsub_pick [7, 6] rfl)), ?_⟩
  refine HY 4 rfl (((hsub (.cons_cons _ (.cons_cons _ (.cons _ (.cons _ (.cons _ (.cons _ (.cons _ (.cons _ (.cons _ (.cons _ (.refl _)))))))))))).trans (hsub_pick [7, 6] rfl))) rfl (y_move rfl) ?_
  refine HK 5 rfl (((hsub (.cons_cons _ (.cons_cons _ (.cons _ (.cons _ (.cons _ (.cons _ (.cons _ (.cons _ (.cons _ (.cons _ (.refl _)))))))))))).trans (hsub_pick [7, 6] rfl))) rfl ?_
  refine HK 6 rfl (((hsub (.cons_cons _ (.cons_cons _ (.cons _ (.cons _ (.cons _ (.cons _ (.cons _ (.cons _ (.cons _ (.cons _ (.refl _)))))))))))).trans (hsub_pick [7, 6] rfl))) rfl ?_
  refine HK 7 rfl (((hsub (.cons_cons _ (.cons_cons _ (.cons _ (.cons _ (.cons _ (.cons _ (.cons _ (.cons _ (.cons _ (.cons _ (.refl _)))))))))))).trans (hsub_pick [7, 6] rfl))) rfl ?_
  refine HK 8 rfl (((hsub (.cons_cons _ (.cons_cons _ (.cons _ (.cons _ (.cons _ (.cons _ (.cons _ (.cons _ (.cons _ (.cons _ (.refl _)))))))))))).trans (hsub_pick [7, 6] rfl))) rfl ?_
  refine HK 9 rfl (((hsub (.cons_cons _ (.cons_cons _ (.cons _ (.cons _ (.cons _ (.cons _ (.cons _ (.cons _ (.cons _ (.cons _ (.refl _)))))))))))).trans (hsub_pick [7, 6] rfl))) rfl ?_
  refine HK 10 rfl (((hsub (.cons_cons _ (.cons_cons _ (.cons _ (.cons _ (.cons _ (.cons _ (.cons _ (.cons _ (.cons _ (.cons _ (.refl _)))))))))))).trans (hsub_pick [7, 6] rfl))) rfl ?_
  refine HK 11 rfl (((hsub (.cons_cons _ (.cons_cons _ (.cons _ (.cons _ (.cons _ (.cons _ (.cons _ (.cons _ (.cons _ (.cons _ (.refl _)))))))))))).trans (hsub_pick [7, 6] rfl))) rfl ?_
  refine HK 12 rfl (((hsub (.cons_cons _ (.cons_cons _ (.cons _ (.cons _ (.cons _ (.cons _ (.cons _ (.cons _ (.cons _ (.cons _ (.refl _)))))))))))).trans (hsub_pick [7, 6] rfl))) rfl ?_
  refine HK 13 rfl (((hsub (.cons_cons _ (.cons_cons _ (.cons _ (.cons _ (.cons _ (.cons _ (.cons _ (.cons _ (.cons _ (.cons _ (.refl _)))))))))))).trans (hsub_pick [7, 6] rfl))) rfl ?_
  refine HK 14 rfl (((hsub (.cons_cons _ (.cons_cons _ (.cons _ (.cons _ (.cons _ (.cons _ (.cons _ (.cons _ (.cons _ (.cons _ (.refl _)))))))))))).trans (hsub_pick [7, 6] rfl))) rfl ?_
  refine HK 15 rfl (((hsub (.cons_cons _ (.cons_cons _ (.cons _ (.cons _ (.cons _ (.cons _ (.cons _ (.cons _ (.cons _ (.cons _ (.refl _)))))))))))).trans (hsub_pick [7, 6] rfl))) rfl ?_
  refine HK 16 rfl (((hsub (.cons_cons _ (.cons_cons _ (.cons _ (.cons _ (.cons _ (.cons _ (.cons _ (.cons _ (.cons _ (.cons _ (.refl _)))))))))))).trans (hsub_pick [7, 6] rfl))) rfl ?_
  refine HK 17 rfl (((hsub (.cons_cons _ (.cons_cons _ (.cons _ (.cons _ (.cons _ (.cons _ (.cons _ (.cons _ (.cons _ (.cons _ (.refl _)))))))))))).trans (hsub_pick [7, 6] rfl))) rfl ?_
  refine HK 18 rfl (((hsub (.cons_cons _ (.cons_cons _ (.cons _ (.cons _ (.cons _ (.cons _ (.cons _ (.cons _ (.cons _ (.cons _ (.refl _)))))))))))).trans (hsub_pick [7, 6] rfl))) rfl ?_
  refine HY 19 rfl (((hsub (.cons_cons _ (.cons_cons _ (.cons _ (.cons _ (.cons _ (.cons _ (.cons _ (.cons _ (.cons _ (.cons _ (.refl _)))))))))))).trans (hsub_pick [7, 6] rfl))) rfl (y_pick_f rfl rfl) ?_
  refine H_done (by kernel_rfl) ?_
  refine C_cond_f rfl (C_skip (C_seq (C_region (LY rfl (y_move rfl) ?_))))
  refine L_op rfl (op_call rfl rfl (fun a w => Try.call21 a w) rfl ?_)
  refine (FnS.sub (hsub_pick [8, 8] rfl) (flush_r h)).mono ?_
  rintro _ _ ⟨e4, D1, A1, m1, hS1, rfl⟩
  obtain rfl := e4
  refine ⟨_, rfl, ?_⟩
  refine LY rfl (y_assign rfl) (L_nil (C_seq (C_region (LY rfl (y_move rfl) ?_))))
  refine L_op rfl (op_call rfl rfl (fun a w => Try.call35 a w) rfl ?_)
  refine (FnS.sub (hsub_pick [0] rfl) (stale_r hS1)).mono ?_
  rintro _ _ ⟨rfl, rfl⟩
  refine ⟨_, rfl, ?_⟩
  refine LY rfl (y_move rfl) (LY rfl (y_extract rfl rfl) (LY rfl (y_extract rfl rfl) (LY rfl (y_assign rfl) (LY rfl (y_assign rfl) (L_nil (C_seq (C_region (LY rfl (y_move rfl) (LY rfl (y_move rfl) (LY rfl (y_move rfl) (LY rfl (y_eqi rfl rfl) (LY rfl (y_move rfl) (LY rfl (y_nilCheck rfl) (LY rfl (y_fieldAddr rfl fl_126_1) ?_))))))))))))))
  refine LY rfl (y_indexA rfl rfl Try.underlying62 sz_4 (by omega) (by omega) (show _ = 2 from rfl)) ?_
  refine LY rfl (y_load rfl ag_4 (sees 2 0 rfl) rfl) (LY rfl (y_not rfl) (LY rfl (y_move rfl) ?_))
  refine L_case 203 rfl (fun hg30_11 => ?_) (fun hg30_11 => ?_)
  · skip
    refine L_skip rfl rfl (L_skip rfl rfl (L_skip rfl rfl (L_skip rfl rfl (L_skip rfl rfl (L_skip rfl rfl (LY rfl (y_pick_t rfl rfl) ?_))))))
    refine LY rfl (y_eqb rfl rfl Try.underlying4) ?_
    refine LY rfl (y_pick_t rfl rfl) (LY rfl (y_move rfl) ?_)
    refine L_case 213 rfl (fun hg30_21 => ?_) (fun hg30_21 => ?_)
    · skip
      refine LY rfl (y_move rfl) (LY rfl (y_move rfl) ?_)
      refine L_op rfl (op_call rfl rfl (fun a w => Try.call72 a w) rfl ?_)
      refine (FnS.sub (hsub_pick [2, 2, 2, 2, 2] rfl) (rcount0_s (hS1.rel.ok hK))).mono ?_
      rintro _ _ ⟨rfl, rfl⟩
      refine ⟨_, rfl, ?_⟩
      refine LY rfl (y_eqi rfl rfl) (LY rfl (y_pick_t rfl rfl) (LY rfl (y_move rfl) ?_))
      refine L_case 219 rfl (fun hg30_27 => ?_) (fun hg30_27 => ?_)
      · skip
        refine LY rfl (y_move rfl) (LY rfl (y_move rfl) ?_)
        refine L_op rfl (op_call rfl rfl (fun a w => Try.call72 a w) rfl ?_)
        refine (FnS.sub (hsub_pick [0, 0, 0, 0, 0] rfl) (rcount1_s (hS1.rel.ok hK))).mono ?_
        rintro _ _ ⟨rfl, rfl⟩
        refine ⟨_, rfl, ?_⟩
        refine LY rfl (y_eqi rfl rfl) (LY rfl (y_pick_t rfl rfl) (LY rfl (y_assign rfl) (L_nil (C_ret ?_))))
        refine B_ret (rv_tmp rfl rv_nil) ((hsub (.cons_cons _ (.cons_cons _ (.cons_cons _ (.cons_cons _ (.cons_cons _ (.cons_cons _ (.cons_cons _ (.cons _ (.cons _ (.cons _ (.refl _)))))))))))).trans (hsub_pick [5, 5, 0, 0, 0, 0, 0] rfl)) ?_
        rw [rot_no hb]
        exact ⟨ret_bool (by simp), _, _, _, hS1, rfl⟩
      · exact absurd hg30_27 (by simp)
    · exact absurd hg30_21 (by simp_all [Rm.put, Rm.sd])
  · skip
    refine LY rfl (y_move rfl) (LY rfl (y_nilCheck rfl) (LY rfl (y_fieldAddr rfl fl_126_1) ?_))
    refine LY rfl (y_indexA rfl rfl Try.underlying62 sz_4 (by omega) (by omega) (show _ = 3 from rfl)) ?_
    refine LY rfl (y_load rfl ag_4 (sees 2 0 rfl) rfl) (LY rfl (y_not rfl) (LY rfl (y_pick_f rfl rfl) ?_))
    refine LY rfl (y_eqb rfl rfl Try.underlying4) ?_
    refine LY rfl (y_pick_t rfl rfl) (LY rfl (y_move rfl) ?_)
    refine L_case 213 rfl (fun hg30_21 => ?_) (fun hg30_21 => ?_)
    · skip
      refine LY rfl (y_move rfl) (LY rfl (y_move rfl) ?_)
      refine L_op rfl (op_call rfl rfl (fun a w => Try.call72 a w) rfl ?_)
      refine (FnS.sub (hsub_pick [2, 2, 2, 2, 2] rfl) (rcount0_s (hS1.rel.ok hK))).mono ?_
      rintro _ _ ⟨rfl, rfl⟩
      refine ⟨_, rfl, ?_⟩
      refine LY rfl (y_eqi rfl rfl) (LY rfl (y_pick_t rfl rfl) (LY rfl (y_move rfl) ?_))
      refine L_case 219 rfl (fun hg30_27 => ?_) (fun hg30_27 => ?_)
      · skip
        refine LY rfl (y_move rfl) (LY rfl (y_move rfl) ?_)
        refine L_op rfl (op_call rfl rfl (fun a w => Try.call72 a w) rfl ?_)
        refine (FnS.sub (hsub_pick [0, 0, 0, 0, 0] rfl) (rcount1_s (hS1.rel.ok hK))).mono ?_
        rintro _ _ ⟨rfl, rfl⟩
        refine ⟨_, rfl, ?_⟩
        refine LY rfl (y_eqi rfl rfl) (LY rfl (y_pick_t rfl rfl) (LY rfl (y_assign rfl) (L_nil (C_ret ?_))))
        refine B_ret (rv_tmp rfl rv_nil) ((hsub (.cons_cons _ (.cons_cons _ (.cons_cons _ (.cons_cons _ (.cons_cons _ (.cons_cons _ (.cons_cons _ (.cons _ (.cons _ (.cons _ (.refl _)))))))))))).trans (hsub_pick [5, 5, 0, 0, 0, 0, 0] rfl)) ?_
        rw [rot_no hb]
        exact ⟨ret_bool (by simp), _, _, _, hS1, rfl⟩
      · exact absurd hg30_27 (by simp)
    · exact absurd hg30_21 (by simp_all [Rm.put, Rm.sd])

set_option maxHeartbeats 1000000 in

theorem play_9y {w0 : World} {H : Hp} {o : Ro} {K : Nat} {r : Rm} {D : Duo} {A : Da} {m : Mi} {mb bx bys bp : Nat} (h : Mq dt (.func (.func 18) #[] ([] : List Value).toArray) D A m r K 0 0 mb bx bys bp) (hK : K ≤ 4096) (n : Nat) (x y : UInt8) (on : Bool) (hb : r.has (n : Int) = true) (hn : n < K) : FnS Try.prog w0 38 #[.agg (acells ⟨9, (n : Int), x, y, on⟩).toArray, ptr mb, .agg [ptr bx, ptr bys].toArray, ptr o.b] (m.seg 110 :: D.seg dt :: (o.hp 126 32 4 K r H)) (fun e H' => e = .returned (.bool true) ∧ ∃ D' A' m', Mq dt (.func (.func 18) #[] ([] : List Value).toArray) D' A' m' (r.rot true (n : Int) (x.toNat % 128) y) K 0 0 mb bx bys bp ∧ H' = m'.seg 110 :: D'.seg dt :: (o.hp 126 32 4 K (r.rot true (n : Int) (x.toNat % 128) y) H)) := by
  have okr := h.rel.ok hK
  have hbx := x.toNat_lt
  refine FnS_intro (n := 225) (rs := [.tmp 8]) (vs := [.agg (acells ⟨9, (n : Int), x, y, on⟩).toArray, ptr mb, .agg [ptr bx, ptr bys].toArray, ptr o.b]) Try.func38 rfl Try.ntmps38 rfl rfl ?_
  refine C_seq (C_region ?_)
  refine L_op rfl (op_box rfl rfl rfl (fun B1 => ?_))
  refine L_op rfl (op_box rfl rfl rfl (fun B2 => ?_))
  refine LY rfl (y_assign rfl) (L_nil (C_seq (C_region (LY rfl (y_fieldAddr rfl fl_54_2) (LY rfl (y_load rfl ag_5 (sees 1 0 rfl) rfl) (LY rfl (y_fieldAddr rfl fl_54_3) (LY rfl (y_load rfl ag_5 (sees 1 0 rfl) rfl) ?_)))))))
  refine L_op rfl (op_call rfl rfl (fun a w => Try.call20 a w) rfl ?_)
  refine (sector3_s x y).mono ?_
  rintro _ _ ⟨rfl, e⟩
  obtain rfl := e.symm
  clear e
  refine ⟨_, rfl, ?_⟩
  refine L_op rfl (op_alloc zl_32 rfl (fun B3 => ?_))
  refine L_op rfl (op_storeA 0 0 rfl rfl rfl sz_32 (by rw [bs_length, sec3_len _ _ _]) rfl (bs_one _) (by simp) ?_)
  refine L_nil (C_seq (C_region (LY rfl (y_assign rfl) (L_nil (C_seq (C_seq (C_region (LY rfl (y_fieldAddr rfl fl_54_0) (LY rfl (y_load rfl ag_3 (sees 2 0 rfl) rfl) (L_nil (C_block (C_seq (C_region (LY rfl (y_eqi rfl rfl) (LY rfl (y_assign rfl) (L_nil (C_cond_f rfl (C_seq (C_region (LY rfl (y_eqi rfl rfl) (LY rfl (y_assign rfl) (L_nil (C_cond_f rfl (C_seq (C_region (LY rfl (y_eqi rfl rfl) (LY rfl (y_assign rfl) (L_nil (C_cond_f rfl (C_seq (C_region (LY rfl (y_eqi rfl rfl) (LY rfl (y_assign rfl) (L_nil (C_cond_f rfl (C_seq (C_region (LY rfl (y_eqi rfl rfl) (LY rfl (y_assign rfl) (L_nil (C_cond_f rfl (C_seq (C_region (LY rfl (y_eqi rfl rfl) (LY rfl (y_assign rfl) (L_nil (C_cond_f rfl (C_seq (C_seq (C_region (LY rfl (y_eqi rfl rfl) (LY rfl (y_assign rfl) (L_nil (C_cond_f rfl (C_region (LY rfl (y_eqi rfl rfl) (LY rfl (y_assign rfl) (L_nil (C_cond_f rfl (C_seq (C_seq (C_region (LY rfl (y_eqi rfl rfl) (LY rfl (y_assign rfl) (L_nil (C_cond_f rfl (C_region (LY rfl (y_eqi rfl rfl) (LY rfl (y_assign rfl) (L_nil (C_cond_t rfl (C_seq ?_))))))))))))))))))))))))))))))))))))))))))))))))))))))))))))))))))))))))
  refine C_regionH ([(B1, .cells (acells ⟨9, (n : Int), x, y, on⟩).toArray 54)] :: [(B2, .cells [ptr bx, ptr bys].toArray 51)] :: H) (by kernel_rfl) ?_
  refine HY 0 rfl (((hsub (.cons_cons _ (.cons_cons _ (.cons _ (.cons _ (.cons _ (.cons _ (.cons _ (.cons _ (.cons _ (.cons _ (.refl _)))))))))))).trans (hsub_pick [2, 1] rfl))) rfl (y_move rfl) ?_
  refine HY 1 rfl (((hsub (.cons_cons _ (.cons_cons _ (.cons _ (.cons _ (.cons _ (.cons _ (.cons _ (.cons _ (.cons _ (.cons _ (.refl _)))))))))))).trans (hsub_pick [2, 1] rfl))) rfl (y_fieldAddr rfl fl_54_1) ?_
  refine HY 2 rfl (((hsub (.cons_cons _ (.cons_cons _ (.cons _ (.cons _ (.cons _ (.cons _ (.cons _ (.cons _ (.cons _ (.cons _ (.refl _)))))))))))).trans (hsub_pick [2, 1] rfl))) rfl (y_load rfl ag_3 (sees 0 0 rfl) rfl) ?_
  refine H_one 3 rfl (by kernel_rfl) rfl (op_call rfl rfl (fun a w => Try.call71 a w) rfl ?_)
  refine (FnS.sub (hsub_pick [5, 5, 5, 5, 5] rfl) (rthere_s okr _)).mono ?_
  rintro _ _ ⟨e4, rfl⟩
  rw [hb] at e4
  obtain rfl := e4
  refine ⟨_, rfl, ?_⟩
  refine ⟨((hsub (.cons_cons _ (.cons_cons _ (.cons _ (.cons _ (.cons _ (.cons _ (.cons _ (.cons _ (.cons _ (.cons _ (.refl _)))))))))))).trans (hsub_pick [7, 6] rfl)), ?_⟩
  refine HY 4 rfl (((hsub (.cons_cons _ (.cons_cons _ (.cons _ (.cons _ (.cons _ (.cons _ (.cons _ (.cons _ (.cons _ (.cons _ (.refl _)))))))))))).trans (hsub_pick [7, 6] rfl))) rfl (y_move rfl) ?_
  refine HY 5 rfl (((hsub (.cons_cons _ (.cons_cons _ (.cons _ (.cons _ (.cons _ (.cons _ (.cons _ (.cons _ (.cons _ (.cons _ (.refl _)))))))))))).trans (hsub_pick [7, 6] rfl))) rfl (y_fieldAddr rfl fl_54_0) ?_
  refine HY 6 rfl (((hsub (.cons_cons _ (.cons_cons _ (.cons _ (.cons _ (.cons _ (.cons _ (.cons _ (.cons _ (.cons _ (.cons _ (.refl _)))))))))))).trans (hsub_pick [7, 6] rfl))) rfl (y_load rfl ag_3 (sees 0 0 rfl) rfl) ?_
  refine HY 7 rfl (((hsub (.cons_cons _ (.cons_cons _ (.cons _ (.cons _ (.cons _ (.cons _ (.cons _ (.cons _ (.cons _ (.cons _ (.refl _)))))))))))).trans (hsub_pick [7, 6] rfl))) rfl (y_sub rfl rfl (show _ = (1 : Int) from rfl)) ?_
  refine HY 8 rfl (((hsub (.cons_cons _ (.cons_cons _ (.cons _ (.cons _ (.cons _ (.cons _ (.cons _ (.cons _ (.cons _ (.cons _ (.refl _)))))))))))).trans (hsub_pick [7, 6] rfl))) rfl (y_indexA rfl rfl Try.underlying51 sz_24 (by omega) (by omega) (show _ = 1 from rfl)) ?_
  refine HY 9 rfl (((hsub (.cons_cons _ (.cons_cons _ (.cons _ (.cons _ (.cons _ (.cons _ (.cons _ (.cons _ (.cons _ (.cons _ (.refl _)))))))))))).trans (hsub_pick [7, 6] rfl))) rfl (y_load rfl ag_24 (sees 1 0 rfl) rfl) ?_
  refine HY 10 rfl (((hsub (.cons_cons _ (.cons_cons _ (.cons _ (.cons _ (.cons _ (.cons _ (.cons _ (.cons _ (.cons _ (.cons _ (.refl _)))))))))))).trans (hsub_pick [7, 6] rfl))) rfl (y_fieldAddr rfl fl_54_1) ?_
  refine HY 11 rfl (((hsub (.cons_cons _ (.cons_cons _ (.cons _ (.cons _ (.cons _ (.cons _ (.cons _ (.cons _ (.cons _ (.cons _ (.refl _)))))))))))).trans (hsub_pick [7, 6] rfl))) rfl (y_load rfl ag_3 (sees 0 0 rfl) rfl) ?_
  refine HY 12 rfl (((hsub (.cons_cons _ (.cons_cons _ (.cons _ (.cons _ (.cons _ (.cons _ (.cons _ (.cons _ (.cons _ (.cons _ (.refl _)))))))))))).trans (hsub_pick [7, 6] rfl))) rfl (y_fieldAddr rfl fl_54_2) ?_
  refine HY 13 rfl (((hsub (.cons_cons _ (.cons_cons _ (.cons _ (.cons _ (.cons _ (.cons _ (.cons _ (.cons _ (.cons _ (.cons _ (.refl _)))))))))))).trans (hsub_pick [7, 6] rfl))) rfl (y_load rfl ag_5 (sees 0 0 rfl) rfl) ?_
  refine HY 14 rfl (((hsub (.cons_cons _ (.cons_cons _ (.cons _ (.cons _ (.cons _ (.cons _ (.cons _ (.cons _ (.cons _ (.cons _ (.refl _)))))))))))).trans (hsub_pick [7, 6] rfl))) rfl (y_conv rfl us_5 Try.underlying3 (show _ = (x.toNat : Int) from wi64 (m := (x.toNat : Int)) (by omega) (by omega))) ?_
  refine HY 15 rfl (((hsub (.cons_cons _ (.cons_cons _ (.cons _ (.cons _ (.cons _ (.cons _ (.cons _ (.cons _ (.cons _ (.cons _ (.refl _)))))))))))).trans (hsub_pick [7, 6] rfl))) rfl (y_rem rfl rfl (by decide) (show _ = ((x.toNat % 128 : Nat) : Int) from rfl)) ?_
  refine HY 16 rfl (((hsub (.cons_cons _ (.cons_cons _ (.cons _ (.cons _ (.cons _ (.cons _ (.cons _ (.cons _ (.cons _ (.cons _ (.refl _)))))))))))).trans (hsub_pick [7, 6] rfl))) rfl (y_fieldAddr rfl fl_54_3) ?_
  refine HY 17 rfl (((hsub (.cons_cons _ (.cons_cons _ (.cons _ (.cons _ (.cons _ (.cons _ (.cons _ (.cons _ (.cons _ (.cons _ (.refl _)))))))))))).trans (hsub_pick [7, 6] rfl))) rfl (y_load rfl ag_5 (sees 0 0 rfl) rfl) ?_
  refine H_one 18 rfl (by kernel_rfl) rfl (op_call rfl rfl (fun a w => Try.call34 a w) rfl ?_)
  refine (FnS.sub (hsub_pick [9] rfl) (rot_r h true (n : Int) (j := x.toNat % 128) (c := y) (by omega))).mono ?_
  rintro _ _ ⟨e4, D1, A1, hS1, rfl⟩
  rw [hb] at e4
  obtain rfl := e4
  rw [rot_is hb] at hS1
  refine ⟨_, rfl, ?_⟩
  refine ⟨((hsub (.cons_cons _ (.cons_cons _ (.cons _ (.cons _ (.cons _ (.cons _ (.cons _ (.cons _ (.cons _ (.cons _ (.refl _)))))))))))).trans (hsub_pick [8, 7] rfl)), ?_⟩
  refine HY 19 rfl (((hsub (.cons_cons _ (.cons_cons _ (.cons _ (.cons _ (.cons _ (.cons _ (.cons _ (.cons _ (.cons _ (.cons _ (.refl _)))))))))))).trans (hsub_pick [8, 7] rfl))) rfl (y_pick_t rfl rfl) ?_
  refine H_done (by kernel_rfl) ?_
  refine C_cond_t rfl ?_
  refine C_regionT 22 (by kernel_rfl) (by kernel_rfl) ?_
  refine S_y rfl (y_move rfl) rfl ?_
  refine S_y rfl (y_fieldAddr rfl fl_54_0) rfl ?_
  refine S_y rfl (y_load rfl ag_3 (sees 8 0 rfl) rfl) rfl ?_
  refine S_y rfl (y_sub rfl rfl (show _ = (1 : Int) from rfl)) rfl ?_
  refine S_y rfl (y_nilCheck rfl) rfl ?_
  refine S_y rfl (y_fieldAddr rfl fl_126_0) rfl ?_
  refine S_y rfl (y_indexA rfl rfl Try.underlying122 sz_40 (by omega) (by omega) (show _ = 1 from rfl)) rfl ?_
  refine S_y rfl (y_load rfl ag_40 (sees 1 0 rfl) rfl) rfl ?_
  refine S_y rfl (y_fieldAddr rfl fl_54_1) rfl ?_
  refine S_y rfl (y_load rfl ag_3 (sees 8 0 rfl) rfl) rfl ?_
  refine S_y rfl (y_fieldAddr rfl fl_54_2) rfl ?_
  refine S_y rfl (y_load rfl ag_5 (sees 8 0 rfl) rfl) rfl ?_
  refine S_y rfl (y_conv rfl us_5 Try.underlying3 (show _ = (x.toNat : Int) from wi64 (m := (x.toNat : Int)) (by omega) (by omega))) rfl ?_
  refine S_y rfl (y_rem rfl rfl (by decide) (show _ = ((x.toNat % 128 : Nat) : Int) from rfl)) rfl ?_
  refine S_y rfl (y_indexS rfl rfl Try.underlying40 sz_32 (by dsimp only; omega) (by dsimp only; omega) (show _ = n * 128 from by simp)) rfl ?_
  refine S_y rfl (y_indexA rfl rfl Try.underlying32 sz_5 (by omega) (by omega) (show _ = n * 128 + x.toNat % 128 from by simp only [Int.toNat_natCast, Nat.mul_one])) rfl ?_
  refine S_y rfl (y_load rfl ag_5 (sees 3 0 rfl) (show _ = some (Value.int .u8 ((((r.sd true).l.getD n []).getD (x.toNat % 128) 0).toNat : Int)) from rot_get okr.l1 hn okr.ok1 (by omega))) rfl ?_
  refine S_y rfl (y_fieldAddr rfl fl_54_3) rfl ?_
  refine S_y rfl (y_load rfl ag_5 (sees 8 0 rfl) rfl) rfl ?_
  refine S_y rfl (y_xor rfl rfl (bits_xor8 _ y)) rfl ?_
  refine S_y rfl (y_indexS rfl rfl Try.underlying40 sz_32 (by dsimp only; omega) (by dsimp only; omega) (show _ = n * 128 from by simp)) rfl ?_
  refine S_y rfl (y_indexA rfl rfl Try.underlying32 sz_5 (by omega) (by omega) (show _ = n * 128 + x.toNat % 128 from by simp only [Int.toNat_natCast, Nat.mul_one])) rfl ?_
  refine S_nil ?_
  refine L_op rfl (op_store1 3 0 rfl rfl rfl sz_5 rfl (by rw [bs_length, flat_len okr.ok1, okr.l1]; omega) ?_)
  rw [show (Value.int .u8 (((((r.sd true).l.getD n []).getD (x.toNat % 128) 0) ^^^ y).toNat : Int)) = u8 (((r.sd true).l.getD n []).getD (x.toNat % 128) 0 ^^^ y) from rfl, show (r.sd true).l = r.y.l from rfl, rot_set okr.l1 hn okr.ok1 (by omega)]
  refine L_nil (C_seq (C_region (LY rfl (y_move rfl) ?_)))
  refine L_op rfl (op_call rfl rfl (fun a w => Try.call21 a w) rfl ?_)
  refine (FnS.sub (hsub_pick [9, 0] rfl) (flush_r hS1)).mono ?_
  rintro _ _ ⟨e4, D2, A2, m2, hS2, rfl⟩
  obtain rfl := e4
  refine ⟨_, rfl, ?_⟩
  refine LY rfl (y_assign rfl) (L_nil (C_seq (C_region (LY rfl (y_move rfl) ?_))))
  refine L_op rfl (op_call rfl rfl (fun a w => Try.call35 a w) rfl ?_)
  refine (FnS.sub (hsub_pick [0] rfl) (stale_r hS2)).mono ?_
  rintro _ _ ⟨rfl, rfl⟩
  refine ⟨_, rfl, ?_⟩
  refine LY rfl (y_move rfl) (LY rfl (y_extract rfl rfl) (LY rfl (y_extract rfl rfl) (LY rfl (y_assign rfl) (LY rfl (y_assign rfl) (L_nil (C_seq (C_region (LY rfl (y_move rfl) (LY rfl (y_move rfl) (LY rfl (y_move rfl) (LY rfl (y_eqi rfl rfl) (LY rfl (y_move rfl) (LY rfl (y_nilCheck rfl) (LY rfl (y_fieldAddr rfl fl_126_1) ?_))))))))))))))
  refine LY rfl (y_indexA rfl rfl Try.underlying62 sz_4 (by omega) (by omega) (show _ = 2 from rfl)) ?_
  refine LY rfl (y_load rfl ag_4 (sees 2 0 rfl) rfl) (LY rfl (y_not rfl) (LY rfl (y_move rfl) ?_))
  refine L_case 203 rfl (fun hg30_11 => ?_) (fun hg30_11 => ?_)
  · skip
    refine L_skip rfl rfl (L_skip rfl rfl (L_skip rfl rfl (L_skip rfl rfl (L_skip rfl rfl (L_skip rfl rfl (LY rfl (y_pick_t rfl rfl) ?_))))))
    refine LY rfl (y_eqb rfl rfl Try.underlying4) ?_
    refine LY rfl (y_pick_t rfl rfl) (LY rfl (y_move rfl) ?_)
    refine L_case 213 rfl (fun hg30_21 => ?_) (fun hg30_21 => ?_)
    · skip
      refine LY rfl (y_move rfl) (LY rfl (y_move rfl) ?_)
      refine L_op rfl (op_call rfl rfl (fun a w => Try.call72 a w) rfl ?_)
      refine (FnS.sub (hsub_pick [2, 2, 2, 2, 2] rfl) (rcount0_s (hS2.rel.ok hK))).mono ?_
      rintro _ _ ⟨rfl, rfl⟩
      refine ⟨_, rfl, ?_⟩
      refine LY rfl (y_eqi rfl rfl) (LY rfl (y_pick_t rfl rfl) (LY rfl (y_move rfl) ?_))
      refine L_case 219 rfl (fun hg30_27 => ?_) (fun hg30_27 => ?_)
      · skip
        refine LY rfl (y_move rfl) (LY rfl (y_move rfl) ?_)
        refine L_op rfl (op_call rfl rfl (fun a w => Try.call72 a w) rfl ?_)
        refine (FnS.sub (hsub_pick [0, 0, 0, 0, 0] rfl) (rcount1_s (hS2.rel.ok hK))).mono ?_
        rintro _ _ ⟨rfl, rfl⟩
        refine ⟨_, rfl, ?_⟩
        refine LY rfl (y_eqi rfl rfl) (LY rfl (y_pick_t rfl rfl) (LY rfl (y_assign rfl) (L_nil (C_ret ?_))))
        refine B_ret (rv_tmp rfl rv_nil) ((hsub (.cons_cons _ (.cons_cons _ (.cons_cons _ (.cons_cons _ (.cons_cons _ (.cons_cons _ (.cons_cons _ (.cons _ (.cons _ (.cons _ (.refl _)))))))))))).trans (hsub_pick [5, 5, 0, 0, 0, 0, 0] rfl)) ?_
        rw [rot_is hb]
        exact ⟨ret_bool (by simp), _, _, _, hS2, rfl⟩
      · exact absurd hg30_27 (by simp)
    · exact absurd hg30_21 (by simp_all [Rm.put, Rm.sd])
  · skip
    refine LY rfl (y_move rfl) (LY rfl (y_nilCheck rfl) (LY rfl (y_fieldAddr rfl fl_126_1) ?_))
    refine LY rfl (y_indexA rfl rfl Try.underlying62 sz_4 (by omega) (by omega) (show _ = 3 from rfl)) ?_
    refine LY rfl (y_load rfl ag_4 (sees 2 0 rfl) rfl) (LY rfl (y_not rfl) (LY rfl (y_pick_f rfl rfl) ?_))
    refine LY rfl (y_eqb rfl rfl Try.underlying4) ?_
    refine LY rfl (y_pick_t rfl rfl) (LY rfl (y_move rfl) ?_)
    refine L_case 213 rfl (fun hg30_21 => ?_) (fun hg30_21 => ?_)
    · skip
      refine LY rfl (y_move rfl) (LY rfl (y_move rfl) ?_)
      refine L_op rfl (op_call rfl rfl (fun a w => Try.call72 a w) rfl ?_)
      refine (FnS.sub (hsub_pick [2, 2, 2, 2, 2] rfl) (rcount0_s (hS2.rel.ok hK))).mono ?_
      rintro _ _ ⟨rfl, rfl⟩
      refine ⟨_, rfl, ?_⟩
      refine LY rfl (y_eqi rfl rfl) (LY rfl (y_pick_t rfl rfl) (LY rfl (y_move rfl) ?_))
      refine L_case 219 rfl (fun hg30_27 => ?_) (fun hg30_27 => ?_)
      · skip
        refine LY rfl (y_move rfl) (LY rfl (y_move rfl) ?_)
        refine L_op rfl (op_call rfl rfl (fun a w => Try.call72 a w) rfl ?_)
        refine (FnS.sub (hsub_pick [0, 0, 0, 0, 0] rfl) (rcount1_s (hS2.rel.ok hK))).mono ?_
        rintro _ _ ⟨rfl, rfl⟩
        refine ⟨_, rfl, ?_⟩
        refine LY rfl (y_eqi rfl rfl) (LY rfl (y_pick_t rfl rfl) (LY rfl (y_assign rfl) (L_nil (C_ret ?_))))
        refine B_ret (rv_tmp rfl rv_nil) ((hsub (.cons_cons _ (.cons_cons _ (.cons_cons _ (.cons_cons _ (.cons_cons _ (.cons_cons _ (.cons_cons _ (.cons _ (.cons _ (.cons _ (.refl _)))))))))))).trans (hsub_pick [5, 5, 0, 0, 0, 0, 0] rfl)) ?_
        rw [rot_is hb]
        exact ⟨ret_bool (by simp), _, _, _, hS2, rfl⟩
      · exact absurd hg30_27 (by simp)
    · exact absurd hg30_21 (by simp_all [Rm.put, Rm.sd])

set_option maxHeartbeats 1000000 in

theorem play_x {w0 : World} {H : Hp} {o : Ro} {K : Nat} {r : Rm} {D : Duo} {A : Da} {m : Mi} {mb bx bys bp : Nat} (h : Mq dt (.func (.func 18) #[] ([] : List Value).toArray) D A m r K 0 0 mb bx bys bp) (hK : K ≤ 4096) (kind : Int) (n : Int) (x y : UInt8) (on : Bool) (h0 : kind ≠ 0) (h1 : kind ≠ 1) (h2 : kind ≠ 2) (h3 : kind ≠ 3) (h4 : kind ≠ 4) (h5 : kind ≠ 5) (h6 : kind ≠ 6) (h7 : kind ≠ 7) (h8 : kind ≠ 8) (h9 : kind ≠ 9) : FnS Try.prog w0 38 #[.agg (acells ⟨kind, n, x, y, on⟩).toArray, ptr mb, .agg [ptr bx, ptr bys].toArray, ptr o.b] (m.seg 110 :: D.seg dt :: (o.hp 126 32 4 K r H)) (fun e H' => e = .returned (.bool true) ∧ ∃ D' A' m', Mq dt (.func (.func 18) #[] ([] : List Value).toArray) D' A' m' r K 0 0 mb bx bys bp ∧ H' = m'.seg 110 :: D'.seg dt :: (o.hp 126 32 4 K r H)) := by
  have okr := h.rel.ok hK
  have hbx := x.toNat_lt
  refine FnS_intro (n := 225) (rs := [.tmp 8]) (vs := [.agg (acells ⟨kind, n, x, y, on⟩).toArray, ptr mb, .agg [ptr bx, ptr bys].toArray, ptr o.b]) Try.func38 rfl Try.ntmps38 rfl rfl ?_
  refine C_seq (C_region ?_)
  refine L_op rfl (op_box rfl rfl rfl (fun B1 => ?_))
  refine L_op rfl (op_box rfl rfl rfl (fun B2 => ?_))
  refine LY rfl (y_assign rfl) (L_nil (C_seq (C_region (LY rfl (y_fieldAddr rfl fl_54_2) (LY rfl (y_load rfl ag_5 (sees 1 0 rfl) rfl) (LY rfl (y_fieldAddr rfl fl_54_3) (LY rfl (y_load rfl ag_5 (sees 1 0 rfl) rfl) ?_)))))))
  refine L_op rfl (op_call rfl rfl (fun a w => Try.call20 a w) rfl ?_)
  refine (sector3_s x y).mono ?_
  rintro _ _ ⟨rfl, e⟩
  obtain rfl := e.symm
  clear e
  refine ⟨_, rfl, ?_⟩
  refine L_op rfl (op_alloc zl_32 rfl (fun B3 => ?_))
  refine L_op rfl (op_storeA 0 0 rfl rfl rfl sz_32 (by rw [bs_length, sec3_len _ _ _]) rfl (bs_one _) (by simp) ?_)
  refine L_nil (C_seq (C_region (LY rfl (y_assign rfl) (L_nil (C_seq (C_seq (C_region (LY rfl (y_fieldAddr rfl fl_54_0) (LY rfl (y_load rfl ag_3 (sees 2 0 rfl) rfl) (L_nil (C_block (C_seq (C_region (LY rfl (y_eqi rfl rfl) (LY rfl (y_assign rfl) (L_nil ?_))))))))))))))))
  refine C_cond rfl (fun hc0 => absurd (of_decide_eq_true hc0) h0) (fun hc0 => ?_)
  refine C_seq (C_region (LY rfl (y_eqi rfl rfl) (LY rfl (y_assign rfl) (L_nil ?_))))
  refine C_cond rfl (fun hc1 => absurd (of_decide_eq_true hc1) h1) (fun hc1 => ?_)
  refine C_seq (C_region (LY rfl (y_eqi rfl rfl) (LY rfl (y_assign rfl) (L_nil ?_))))
  refine C_cond rfl (fun hc2 => absurd (of_decide_eq_true hc2) h2) (fun hc2 => ?_)
  refine C_seq (C_region (LY rfl (y_eqi rfl rfl) (LY rfl (y_assign rfl) (L_nil ?_))))
  refine C_cond rfl (fun hc3 => absurd (of_decide_eq_true hc3) h3) (fun hc3 => ?_)
  refine C_seq (C_region (LY rfl (y_eqi rfl rfl) (LY rfl (y_assign rfl) (L_nil ?_))))
  refine C_cond rfl (fun hc4 => absurd (of_decide_eq_true hc4) h4) (fun hc4 => ?_)
  refine C_seq (C_region (LY rfl (y_eqi rfl rfl) (LY rfl (y_assign rfl) (L_nil ?_))))
  refine C_cond rfl (fun hc5 => absurd (of_decide_eq_true hc5) h5) (fun hc5 => ?_)
  refine C_seq (C_seq (C_region (LY rfl (y_eqi rfl rfl) (LY rfl (y_assign rfl) (L_nil ?_)))))
  refine C_cond rfl (fun hc6 => absurd (of_decide_eq_true hc6) h6) (fun hc6 => ?_)
  refine C_region (LY rfl (y_eqi rfl rfl) (LY rfl (y_assign rfl) (L_nil ?_)))
  refine C_cond rfl (fun hc7 => absurd (of_decide_eq_true hc7) (by first | exact h7 | exact h6)) (fun hc7 => ?_)
  refine C_seq (C_seq (C_region (LY rfl (y_eqi rfl rfl) (LY rfl (y_assign rfl) (L_nil ?_)))))
  refine C_cond rfl (fun hc8 => absurd (of_decide_eq_true hc8) h8) (fun hc8 => ?_)
  refine C_region (LY rfl (y_eqi rfl rfl) (LY rfl (y_assign rfl) (L_nil ?_)))
  refine C_cond rfl (fun hc9 => absurd (of_decide_eq_true hc9) (by first | exact h9 | exact h8)) (fun hc9 => ?_)
  refine C_skip (C_seq (C_region (LY rfl (y_move rfl) ?_)))
  refine L_op rfl (op_call rfl rfl (fun a w => Try.call21 a w) rfl ?_)
  refine (FnS.sub (hsub_pick [3, 3] rfl) (flush_r h)).mono ?_
  rintro _ _ ⟨e4, D1, A1, m1, hS1, rfl⟩
  obtain rfl := e4
  refine ⟨_, rfl, ?_⟩
  refine LY rfl (y_assign rfl) (L_nil (C_seq (C_region (LY rfl (y_move rfl) ?_))))
  refine L_op rfl (op_call rfl rfl (fun a w => Try.call35 a w) rfl ?_)
  refine (FnS.sub (hsub_pick [0] rfl) (stale_r hS1)).mono ?_
  rintro _ _ ⟨rfl, rfl⟩
  refine ⟨_, rfl, ?_⟩
  refine LY rfl (y_move rfl) (LY rfl (y_extract rfl rfl) (LY rfl (y_extract rfl rfl) (LY rfl (y_assign rfl) (LY rfl (y_assign rfl) (L_nil (C_seq (C_region (LY rfl (y_move rfl) (LY rfl (y_move rfl) (LY rfl (y_move rfl) (LY rfl (y_eqi rfl rfl) (LY rfl (y_move rfl) (LY rfl (y_nilCheck rfl) (LY rfl (y_fieldAddr rfl fl_126_1) ?_))))))))))))))
  refine LY rfl (y_indexA rfl rfl Try.underlying62 sz_4 (by omega) (by omega) (show _ = 2 from rfl)) ?_
  refine LY rfl (y_load rfl ag_4 (sees 5 0 rfl) rfl) (LY rfl (y_not rfl) (LY rfl (y_move rfl) ?_))
  refine L_case 203 rfl (fun hg30_11 => ?_) (fun hg30_11 => ?_)
  · skip
    refine L_skip rfl rfl (L_skip rfl rfl (L_skip rfl rfl (L_skip rfl rfl (L_skip rfl rfl (L_skip rfl rfl (LY rfl (y_pick_t rfl rfl) ?_))))))
    refine LY rfl (y_eqb rfl rfl Try.underlying4) ?_
    refine LY rfl (y_pick_t rfl rfl) (LY rfl (y_move rfl) ?_)
    refine L_case 213 rfl (fun hg30_21 => ?_) (fun hg30_21 => ?_)
    · skip
      refine LY rfl (y_move rfl) (LY rfl (y_move rfl) ?_)
      refine L_op rfl (op_call rfl rfl (fun a w => Try.call72 a w) rfl ?_)
      refine (FnS.sub (hsub_pick [5, 5, 5, 5, 5] rfl) (rcount0_s (hS1.rel.ok hK))).mono ?_
      rintro _ _ ⟨rfl, rfl⟩
      refine ⟨_, rfl, ?_⟩
      refine LY rfl (y_eqi rfl rfl) (LY rfl (y_pick_t rfl rfl) (LY rfl (y_move rfl) ?_))
      refine L_case 219 rfl (fun hg30_27 => ?_) (fun hg30_27 => ?_)
      · skip
        refine LY rfl (y_move rfl) (LY rfl (y_move rfl) ?_)
        refine L_op rfl (op_call rfl rfl (fun a w => Try.call72 a w) rfl ?_)
        refine (FnS.sub (hsub_pick [0, 0, 0, 0, 0] rfl) (rcount1_s (hS1.rel.ok hK))).mono ?_
        rintro _ _ ⟨rfl, rfl⟩
        refine ⟨_, rfl, ?_⟩
        refine LY rfl (y_eqi rfl rfl) (LY rfl (y_pick_t rfl rfl) (LY rfl (y_assign rfl) (L_nil (C_ret ?_))))
        refine B_ret (rv_tmp rfl rv_nil) ((hsub (.cons_cons _ (.cons_cons _ (.cons_cons _ (.cons_cons _ (.cons_cons _ (.cons_cons _ (.cons_cons _ (.cons _ (.cons _ (.cons _ (.refl _)))))))))))).trans (hsub_pick [5, 5, 0, 0, 0, 0, 0] rfl)) ?_
        exact ⟨ret_bool (by simp), _, _, _, hS1, rfl⟩
      · exact absurd hg30_27 (by simp)
    · exact absurd hg30_21 (by simp_all [Rm.put, Rm.sd])
  · skip
    refine LY rfl (y_move rfl) (LY rfl (y_nilCheck rfl) (LY rfl (y_fieldAddr rfl fl_126_1) ?_))
    refine LY rfl (y_indexA rfl rfl Try.underlying62 sz_4 (by omega) (by omega) (show _ = 3 from rfl)) ?_
    refine LY rfl (y_load rfl ag_4 (sees 5 0 rfl) rfl) (LY rfl (y_not rfl) (LY rfl (y_pick_f rfl rfl) ?_))
    refine LY rfl (y_eqb rfl rfl Try.underlying4) ?_
    refine LY rfl (y_pick_t rfl rfl) (LY rfl (y_move rfl) ?_)
    refine L_case 213 rfl (fun hg30_21 => ?_) (fun hg30_21 => ?_)
    · skip
      refine LY rfl (y_move rfl) (LY rfl (y_move rfl) ?_)
      refine L_op rfl (op_call rfl rfl (fun a w => Try.call72 a w) rfl ?_)
      refine (FnS.sub (hsub_pick [5, 5, 5, 5, 5] rfl) (rcount0_s (hS1.rel.ok hK))).mono ?_
      rintro _ _ ⟨rfl, rfl⟩
      refine ⟨_, rfl, ?_⟩
      refine LY rfl (y_eqi rfl rfl) (LY rfl (y_pick_t rfl rfl) (LY rfl (y_move rfl) ?_))
      refine L_case 219 rfl (fun hg30_27 => ?_) (fun hg30_27 => ?_)
      · skip
        refine LY rfl (y_move rfl) (LY rfl (y_move rfl) ?_)
        refine L_op rfl (op_call rfl rfl (fun a w => Try.call72 a w) rfl ?_)
        refine (FnS.sub (hsub_pick [0, 0, 0, 0, 0] rfl) (rcount1_s (hS1.rel.ok hK))).mono ?_
        rintro _ _ ⟨rfl, rfl⟩
        refine ⟨_, rfl, ?_⟩
        refine LY rfl (y_eqi rfl rfl) (LY rfl (y_pick_t rfl rfl) (LY rfl (y_assign rfl) (L_nil (C_ret ?_))))
        refine B_ret (rv_tmp rfl rv_nil) ((hsub (.cons_cons _ (.cons_cons _ (.cons_cons _ (.cons_cons _ (.cons_cons _ (.cons_cons _ (.cons_cons _ (.cons _ (.cons _ (.cons _ (.refl _)))))))))))).trans (hsub_pick [5, 5, 0, 0, 0, 0, 0] rfl)) ?_
        exact ⟨ret_bool (by simp), _, _, _, hS1, rfl⟩
      · exact absurd hg30_27 (by simp)
    · exact absurd hg30_21 (by simp_all [Rm.put, Rm.sd])

theorem play_s {w0 : World} {H : Hp} {o : Ro} {K : Nat} {r : Rm} {D : Duo} {A : Da} {m : Mi} {mb bx bys bp : Nat} (h : Mq dt (.func (.func 18) #[] ([] : List Value).toArray) D A m r K 0 0 mb bx bys bp) (hK : K ≤ 4096) (a : ActM) : FnS Try.prog w0 38 #[.agg (acells a).toArray, ptr mb, .agg [ptr bx, ptr bys].toArray, ptr o.b] (m.seg 110 :: D.seg dt :: (o.hp 126 32 4 K r H)) (fun e H' => e = .returned (.bool true) ∧ ∃ D' A' m', Mq dt (.func (.func 18) #[] ([] : List Value).toArray) D' A' m' (r.act goodP (fun x y => sec3 x y 9) a) K 0 0 mb bx bys bp ∧ H' = m'.seg 110 :: D'.seg dt :: (o.hp 126 32 4 K (r.act goodP (fun x y => sec3 x y 9) a) H)) := by
  obtain ⟨kind, n, x, y, on⟩ := a
  by_cases h0 : kind = 0
  · subst h0
    rw [show r.act goodP (fun x y => sec3 x y 9) ⟨0, n, x, y, on⟩ = r.write n (sec3 x y 9) from by simp [Rm.act]]
    exact play_0 h hK n x y on
  by_cases h1 : kind = 1
  · subst h1
    rw [show r.act goodP (fun x y => sec3 x y 9) ⟨1, n, x, y, on⟩ = r from by simp [Rm.act]]
    exact play_1 h hK n x y on
  by_cases h2 : kind = 2
  · subst h2
    rw [show r.act goodP (fun x y => sec3 x y 9) ⟨2, n, x, y, on⟩ = r.sync goodP from by simp [Rm.act]]
    exact play_2 h hK n x y on
  by_cases h3 : kind = 3
  · subst h3
    rw [show r.act goodP (fun x y => sec3 x y 9) ⟨3, n, x, y, on⟩ = r.heal goodP n from by simp [Rm.act]]
    exact play_3 h hK n x y on
  by_cases h4 : kind = 4
  · subst h4
    rw [show r.act goodP (fun x y => sec3 x y 9) ⟨4, n, x, y, on⟩ = r from by simp [Rm.act]]
    exact play_4 h hK n x y on
  by_cases h5 : kind = 5
  · subst h5
    rw [show r.act goodP (fun x y => sec3 x y 9) ⟨5, n, x, y, on⟩ = r.write n (sec3 x y 9) from by simp [Rm.act]]
    exact play_5 h hK n x y on
  by_cases h6 : kind = 6
  · subst h6
    rw [show r.act goodP (fun x y => sec3 x y 9) ⟨6, n, x, y, on⟩ = r.outs false on from by simp [Rm.act]]
    exact play_6 h hK n x y on
  by_cases h7 : kind = 7
  · subst h7
    rw [show r.act goodP (fun x y => sec3 x y 9) ⟨7, n, x, y, on⟩ = r.outs true on from by simp [Rm.act]]
    exact play_7 h hK n x y on
  by_cases h8 : kind = 8
  · subst h8
    rw [show r.act goodP (fun x y => sec3 x y 9) ⟨8, n, x, y, on⟩ = r.rot false n (x.toNat % 128) y from by simp [Rm.act]]
    rcases tf (r.has n) with hb | hb
    · exact play_8n h hK n x y on hb
    · obtain ⟨n, rfl⟩ : ∃ k : Nat, n = k := ⟨n.toNat, by unfold Rm.has at hb; simp at hb; omega⟩
      exact play_8y h hK n x y on hb (by rw [h.rel.hasK] at hb; simp at hb; omega)
  by_cases h9 : kind = 9
  · subst h9
    rw [show r.act goodP (fun x y => sec3 x y 9) ⟨9, n, x, y, on⟩ = r.rot true n (x.toNat % 128) y from by simp [Rm.act]]
    rcases tf (r.has n) with hb | hb
    · exact play_9n h hK n x y on hb
    · obtain ⟨n, rfl⟩ : ∃ k : Nat, n = k := ⟨n.toNat, by unfold Rm.has at hb; simp at hb; omega⟩
      exact play_9y h hK n x y on hb (by rw [h.rel.hasK] at hb; simp at hb; omega)
  rw [show r.act goodP (fun x y => sec3 x y 9) ⟨kind, n, x, y, on⟩ = r from by simp [Rm.act, *]]
  exact play_x h hK kind n x y on h0 h1 h2 h3 h4 h5 h6 h7 h8 h9

end Go.Proofs.Ytjjiclgbdenkkaa

/- walks (own work; the walks' lines by a program of this repo). -/
set_option linter.unusedVariables false
set_option linter.unusedSimpArgs false
set_option maxRecDepth 20000
namespace Go.Proofs.Ytjjiclgbdenkkaa
open Go.Sl
attribute [local irreducible] BodyQ WpC WpL WpS WpH OpW FnS


theorem rnew_ff {w0 : World} {H : Hp} {K : Nat} (hK : K ≤ 4096) : FnS Try.prog w0 37 #[.int .i64 (K : Int), .bool false, .bool false] H (fun e H' => ∃ o : Ro, e = .returned (ptr o.b) ∧ H' = (o.hp 126 32 4 K (Rm.new K false false) H)) := by
  refine FnS_intro (n := 53) (rs := [.tmp 6]) (vs := [.int .i64 (K : Int), .bool false, .bool false]) Try.func37 rfl Try.ntmps37 rfl rfl ?_
  refine C_seq (C_region (LY rfl (y_assign rfl) (L_nil (C_seq (C_region (LY rfl (y_move rfl) (LY rfl (y_move rfl) ?_)))))))
  refine LY rfl (y_buildA (vs := [(0, _), (1, _)]) rfl Try.underlying62 sz_4 zl_62 rfl) ?_
  refine LY rfl (y_build (vs := [(1, _)]) (l := [.slice none 0 0, .slice none 0 0, .bool false, .bool false, .slice none 0 0, .slice none 0 0]) rfl pl_126 zl_126 (fill_cons (off := 2) (m := 2) (vs := [_, _]) rfl rfl rfl (Nat.le_of_ble_eq_true rfl) rfl)) ?_
  refine L_op rfl (op_box rfl rfl rfl (fun B1 => ?_))
  refine LY rfl (y_assign rfl) (L_nil (C_seq (C_seq (C_region (LY rfl (y_assign rfl) (L_nil (C_block ?_)))))))
  refine C_loopIn (In_round ?_)
  refine C_seq (C_seq (C_region (LY rfl (y_move rfl) (LY rfl (y_lss rfl rfl) (L_nil (C_cond_t rfl (C_skip (C_seq (C_block (C_seq ?_))))))))))
  refine C_regionH H (by kernel_rfl) ?_
  refine HY 0 rfl (hsub (.cons _ (.refl _))) rfl (y_move rfl) ?_
  refine HY 1 rfl (hsub (.cons _ (.refl _))) rfl (y_move rfl) ?_
  refine HY 2 rfl (hsub (.cons _ (.refl _))) rfl (y_move rfl) ?_
  refine HY 4 rfl (hsub (.cons _ (.refl _))) rfl (y_nilCheck rfl) ?_
  refine HY 5 rfl (hsub (.cons _ (.refl _))) rfl (y_fieldAddr rfl fl_126_0) ?_
  refine H_one 3 rfl (by kernel_rfl) rfl (op_makeSlice rfl Try.underlying40 by_32 sz_32 zl_32 rfl (by omega) (by omega) (by omega) rfl (fun B2 => ?_))
  simp only [Int.toNat_natCast]
  rw [zsecs]
  refine ⟨hsub (.cons _ (.cons _ (.refl _))), ?_⟩
  refine HY 6 rfl (hsub (.cons _ (.cons _ (.refl _)))) rfl (y_indexA rfl rfl Try.underlying122 sz_40 (by omega) (by omega) (show _ = 0 from rfl)) ?_
  refine H_one 7 rfl (by kernel_rfl) rfl (op_store1 1 0 rfl rfl rfl sz_40 rfl (Nat.le_of_ble_eq_true rfl) ?_)
  refine ⟨hsub (.cons _ (.cons _ (.refl _))), ?_⟩
  refine H_done (by kernel_rfl) ?_
  refine C_seq ?_
  refine C_regionH H (by kernel_rfl) ?_
  refine HY 0 rfl (hsub (.cons _ (.cons _ (.refl _)))) rfl (y_move rfl) ?_
  refine HY 1 rfl (hsub (.cons _ (.cons _ (.refl _)))) rfl (y_move rfl) ?_
  refine HY 2 rfl (hsub (.cons _ (.cons _ (.refl _)))) rfl (y_move rfl) ?_
  refine HY 4 rfl (hsub (.cons _ (.cons _ (.refl _)))) rfl (y_nilCheck rfl) ?_
  refine HY 5 rfl (hsub (.cons _ (.cons _ (.refl _)))) rfl (y_fieldAddr rfl fl_126_2) ?_
  refine H_one 3 rfl (by kernel_rfl) rfl (op_makeSlice rfl Try.underlying123 by_4 sz_4 zl_4 rfl (by omega) (by omega) (by omega) rfl (fun B3 => ?_))
  simp only [Int.toNat_natCast]
  rw [zbls]
  refine ⟨hsub (.cons _ (.cons _ (.cons _ (.refl _)))), ?_⟩
  refine HY 6 rfl (hsub (.cons _ (.cons _ (.cons _ (.refl _))))) rfl (y_indexA rfl rfl Try.underlying124 sz_123 (by omega) (by omega) (show _ = 4 from rfl)) ?_
  refine H_one 7 rfl (by kernel_rfl) rfl (op_store1 2 0 rfl rfl rfl sz_123 rfl (Nat.le_of_ble_eq_true rfl) ?_)
  refine ⟨hsub (.cons _ (.cons _ (.cons _ (.refl _)))), ?_⟩
  refine H_done (by kernel_rfl) ?_
  refine C_seq (C_region (LY rfl (y_assign rfl) (L_nil (C_block ?_))))
  refine C_loop (ι := Nat) (fun j => [(0, .int .i64 (K : Int)), (7, ptr B1), (8, .int .i64 0), (9, .int .i64 (j : Int))]) (fun j => [(B1, .cells [slB B2 K, (.slice none 0 0), .bool false, .bool false, slB B3 K, (.slice none 0 0)].toArray 126)] :: lseg 32 B2 (List.replicate K (secOf 0)) :: sseg 4 B3 (mix false j K) :: H) (fun j => j ≤ K) (fun j => K - j) 0 (Nat.zero_le _) ⟨rfl, rfl, rfl, rfl, trivial⟩ (by rw [mix_0]; exact ((hsub (.cons_cons _ (.cons_cons _ (.cons_cons _ (.refl _))))).trans (hsub_pick [2, 1, 0] rfl))) (fun j hj => ?_)
  skip
  refine C_seq (C_seq (C_region (LY rfl (y_move rfl) (LY rfl (y_move rfl) (LY rfl (y_lss rfl rfl) (L_nil ?_))))))
  refine C_cond rfl (fun hc1 => ?_) (fun hc1 => ?_)
  · replace hc1 : j < K := by have := of_decide_eq_true hc1; omega
    refine C_skip (C_seq (C_block ?_))
    refine C_regionH ([(B1, .cells [slB B2 K, (.slice none 0 0), .bool false, .bool false, slB B3 K, (.slice none 0 0)].toArray 126)] :: H) (by kernel_rfl) ?_
    refine HY 0 rfl (((hsub (.cons_cons _ (.cons _ (.cons _ (.refl _))))).trans (hsub_pick [0] rfl))) rfl (y_move rfl) ?_
    refine HY 1 rfl (((hsub (.cons_cons _ (.cons _ (.cons _ (.refl _))))).trans (hsub_pick [0] rfl))) rfl (y_move rfl) ?_
    refine HY 2 rfl (((hsub (.cons_cons _ (.cons _ (.cons _ (.refl _))))).trans (hsub_pick [0] rfl))) rfl (y_nilCheck rfl) ?_
    refine HY 3 rfl (((hsub (.cons_cons _ (.cons _ (.cons _ (.refl _))))).trans (hsub_pick [0] rfl))) rfl (y_fieldAddr rfl fl_126_2) ?_
    refine HY 4 rfl (((hsub (.cons_cons _ (.cons _ (.cons _ (.refl _))))).trans (hsub_pick [0] rfl))) rfl (y_indexA rfl rfl Try.underlying124 sz_123 (by omega) (by omega) (show _ = 4 from rfl)) ?_
    refine HY 5 rfl (((hsub (.cons_cons _ (.cons _ (.cons _ (.refl _))))).trans (hsub_pick [0] rfl))) rfl (y_load rfl ag_123 (sees 0 0 rfl) rfl) ?_
    refine HY 6 rfl (((hsub (.cons_cons _ (.cons _ (.cons _ (.refl _))))).trans (hsub_pick [0] rfl))) rfl (y_move rfl) ?_
    refine HY 7 rfl (((hsub (.cons_cons _ (.cons _ (.cons _ (.refl _))))).trans (hsub_pick [0] rfl))) rfl (y_move rfl) ?_
    refine HY 8 rfl (((hsub (.cons_cons _ (.cons _ (.cons _ (.refl _))))).trans (hsub_pick [0] rfl))) rfl (y_move rfl) ?_
    refine HY 9 rfl (((hsub (.cons_cons _ (.cons _ (.cons _ (.refl _))))).trans (hsub_pick [0] rfl))) rfl (y_nilCheck rfl) ?_
    refine HY 10 rfl (((hsub (.cons_cons _ (.cons _ (.cons _ (.refl _))))).trans (hsub_pick [0] rfl))) rfl (y_fieldAddr rfl fl_126_1) ?_
    refine HY 11 rfl (((hsub (.cons_cons _ (.cons _ (.cons _ (.refl _))))).trans (hsub_pick [0] rfl))) rfl (y_indexA rfl rfl Try.underlying62 sz_4 (by omega) (by omega) (show _ = 2 from rfl)) ?_
    refine HY 12 rfl (((hsub (.cons_cons _ (.cons _ (.cons _ (.refl _))))).trans (hsub_pick [0] rfl))) rfl (y_load rfl ag_4 (sees 0 0 rfl) rfl) ?_
    refine HY 13 rfl (((hsub (.cons_cons _ (.cons _ (.cons _ (.refl _))))).trans (hsub_pick [0] rfl))) rfl (y_indexS rfl rfl Try.underlying123 sz_4 (by omega) (by omega) (show _ = j from by simp)) ?_
    refine H_one 14 rfl (by kernel_rfl) rfl (op_store1 2 0 rfl rfl rfl sz_4 rfl (by rw [bls_len, mix_len (by omega)]; omega) ?_)
    rw [bls_set, mix_set hc1]
    refine ⟨((hsub (.cons_cons _ (.cons _ (.cons _ (.refl _))))).trans (hsub_pick [0] rfl)), ?_⟩
    refine H_done (by kernel_rfl) ?_
    refine C_region (LY rfl (y_move rfl) ?_)
    refine LY rfl (y_add rfl rfl (wi64 (by omega) (by omega))) ?_
    refine LY rfl (y_assign rfl) (L_nil ?_)
    exact ⟨j + 1, by omega, by omega, ⟨rfl, rfl, rfl, rfl, trivial⟩, ((hsub (.cons_cons _ (.cons_cons _ (.cons_cons _ (.refl _))))).trans (hsub_pick [0, 0, 0] rfl))⟩
  · rw [show j = K from by have := of_decide_eq_false hc1; omega, mix_all]
    refine C_exit (C_region (LY rfl (y_move rfl) ?_))
    refine LY rfl (y_add rfl rfl (show _ = (1 : Int) from rfl)) ?_
    refine LY rfl (y_assign rfl) (L_nil ?_)
    refine In_round ?_
    refine C_seq (C_seq (C_region (LY rfl (y_move rfl) (LY rfl (y_lss rfl rfl) (L_nil (C_cond_t rfl (C_skip (C_seq (C_block (C_seq ?_))))))))))
    refine C_regionH H (by kernel_rfl) ?_
    refine HY 0 rfl (hsub (.cons _ (.cons _ (.cons _ (.refl _))))) rfl (y_move rfl) ?_
    refine HY 1 rfl (hsub (.cons _ (.cons _ (.cons _ (.refl _))))) rfl (y_move rfl) ?_
    refine HY 2 rfl (hsub (.cons _ (.cons _ (.cons _ (.refl _))))) rfl (y_move rfl) ?_
    refine HY 4 rfl (hsub (.cons _ (.cons _ (.cons _ (.refl _))))) rfl (y_nilCheck rfl) ?_
    refine HY 5 rfl (hsub (.cons _ (.cons _ (.cons _ (.refl _))))) rfl (y_fieldAddr rfl fl_126_0) ?_
    refine H_one 3 rfl (by kernel_rfl) rfl (op_makeSlice rfl Try.underlying40 by_32 sz_32 zl_32 rfl (by omega) (by omega) (by omega) rfl (fun B4 => ?_))
    simp only [Int.toNat_natCast]
    rw [zsecs]
    refine ⟨hsub (.cons _ (.cons _ (.cons _ (.cons _ (.refl _))))), ?_⟩
    refine HY 6 rfl (hsub (.cons _ (.cons _ (.cons _ (.cons _ (.refl _)))))) rfl (y_indexA rfl rfl Try.underlying122 sz_40 (by omega) (by omega) (show _ = 1 from rfl)) ?_
    refine H_one 7 rfl (by kernel_rfl) rfl (op_store1 1 0 rfl rfl rfl sz_40 rfl (Nat.le_of_ble_eq_true rfl) ?_)
    refine ⟨hsub (.cons _ (.cons _ (.cons _ (.cons _ (.refl _))))), ?_⟩
    refine H_done (by kernel_rfl) ?_
    refine C_seq ?_
    refine C_regionH H (by kernel_rfl) ?_
    refine HY 0 rfl (hsub (.cons _ (.cons _ (.cons _ (.cons _ (.refl _)))))) rfl (y_move rfl) ?_
    refine HY 1 rfl (hsub (.cons _ (.cons _ (.cons _ (.cons _ (.refl _)))))) rfl (y_move rfl) ?_
    refine HY 2 rfl (hsub (.cons _ (.cons _ (.cons _ (.cons _ (.refl _)))))) rfl (y_move rfl) ?_
    refine HY 4 rfl (hsub (.cons _ (.cons _ (.cons _ (.cons _ (.refl _)))))) rfl (y_nilCheck rfl) ?_
    refine HY 5 rfl (hsub (.cons _ (.cons _ (.cons _ (.cons _ (.refl _)))))) rfl (y_fieldAddr rfl fl_126_2) ?_
    refine H_one 3 rfl (by kernel_rfl) rfl (op_makeSlice rfl Try.underlying123 by_4 sz_4 zl_4 rfl (by omega) (by omega) (by omega) rfl (fun B5 => ?_))
    simp only [Int.toNat_natCast]
    rw [zbls]
    refine ⟨hsub (.cons _ (.cons _ (.cons _ (.cons _ (.cons _ (.refl _)))))), ?_⟩
    refine HY 6 rfl (hsub (.cons _ (.cons _ (.cons _ (.cons _ (.cons _ (.refl _))))))) rfl (y_indexA rfl rfl Try.underlying124 sz_123 (by omega) (by omega) (show _ = 5 from rfl)) ?_
    refine H_one 7 rfl (by kernel_rfl) rfl (op_store1 2 0 rfl rfl rfl sz_123 rfl (Nat.le_of_ble_eq_true rfl) ?_)
    refine ⟨hsub (.cons _ (.cons _ (.cons _ (.cons _ (.cons _ (.refl _)))))), ?_⟩
    refine H_done (by kernel_rfl) ?_
    refine C_seq (C_region (LY rfl (y_assign rfl) (L_nil (C_block ?_))))
    refine C_loop (ι := Nat) (fun j => [(0, .int .i64 (K : Int)), (7, ptr B1), (8, .int .i64 1), (9, .int .i64 (j : Int))]) (fun j => [(B1, .cells [slB B2 K, slB B4 K, .bool false, .bool false, slB B3 K, slB B5 K].toArray 126)] :: lseg 32 B2 (List.replicate K (secOf 0)) :: lseg 32 B4 (List.replicate K (secOf 0)) :: sseg 4 B3 (List.replicate K false) :: sseg 4 B5 (mix false j K) :: H) (fun j => j ≤ K) (fun j => K - j) 0 (Nat.zero_le _) ⟨rfl, rfl, rfl, rfl, trivial⟩ (by rw [mix_0]; exact ((hsub (.cons_cons _ (.cons_cons _ (.cons_cons _ (.cons_cons _ (.cons_cons _ (.refl _))))))).trans (hsub_pick [2, 2, 1, 1, 0] rfl))) (fun j hj => ?_)
    skip
    refine C_seq (C_seq (C_region (LY rfl (y_move rfl) (LY rfl (y_move rfl) (LY rfl (y_lss rfl rfl) (L_nil ?_))))))
    refine C_cond rfl (fun hc1 => ?_) (fun hc1 => ?_)
    · replace hc1 : j < K := by have := of_decide_eq_true hc1; omega
      refine C_skip (C_seq (C_block ?_))
      refine C_regionH ([(B1, .cells [slB B2 K, slB B4 K, .bool false, .bool false, slB B3 K, slB B5 K].toArray 126)] :: H) (by kernel_rfl) ?_
      refine HY 0 rfl (((hsub (.cons_cons _ (.cons _ (.cons _ (.cons _ (.cons _ (.refl _))))))).trans (hsub_pick [0] rfl))) rfl (y_move rfl) ?_
      refine HY 1 rfl (((hsub (.cons_cons _ (.cons _ (.cons _ (.cons _ (.cons _ (.refl _))))))).trans (hsub_pick [0] rfl))) rfl (y_move rfl) ?_
      refine HY 2 rfl (((hsub (.cons_cons _ (.cons _ (.cons _ (.cons _ (.cons _ (.refl _))))))).trans (hsub_pick [0] rfl))) rfl (y_nilCheck rfl) ?_
      refine HY 3 rfl (((hsub (.cons_cons _ (.cons _ (.cons _ (.cons _ (.cons _ (.refl _))))))).trans (hsub_pick [0] rfl))) rfl (y_fieldAddr rfl fl_126_2) ?_
      refine HY 4 rfl (((hsub (.cons_cons _ (.cons _ (.cons _ (.cons _ (.cons _ (.refl _))))))).trans (hsub_pick [0] rfl))) rfl (y_indexA rfl rfl Try.underlying124 sz_123 (by omega) (by omega) (show _ = 5 from rfl)) ?_
      refine HY 5 rfl (((hsub (.cons_cons _ (.cons _ (.cons _ (.cons _ (.cons _ (.refl _))))))).trans (hsub_pick [0] rfl))) rfl (y_load rfl ag_123 (sees 0 0 rfl) rfl) ?_
      refine HY 6 rfl (((hsub (.cons_cons _ (.cons _ (.cons _ (.cons _ (.cons _ (.refl _))))))).trans (hsub_pick [0] rfl))) rfl (y_move rfl) ?_
      refine HY 7 rfl (((hsub (.cons_cons _ (.cons _ (.cons _ (.cons _ (.cons _ (.refl _))))))).trans (hsub_pick [0] rfl))) rfl (y_move rfl) ?_
      refine HY 8 rfl (((hsub (.cons_cons _ (.cons _ (.cons _ (.cons _ (.cons _ (.refl _))))))).trans (hsub_pick [0] rfl))) rfl (y_move rfl) ?_
      refine HY 9 rfl (((hsub (.cons_cons _ (.cons _ (.cons _ (.cons _ (.cons _ (.refl _))))))).trans (hsub_pick [0] rfl))) rfl (y_nilCheck rfl) ?_
      refine HY 10 rfl (((hsub (.cons_cons _ (.cons _ (.cons _ (.cons _ (.cons _ (.refl _))))))).trans (hsub_pick [0] rfl))) rfl (y_fieldAddr rfl fl_126_1) ?_
      refine HY 11 rfl (((hsub (.cons_cons _ (.cons _ (.cons _ (.cons _ (.cons _ (.refl _))))))).trans (hsub_pick [0] rfl))) rfl (y_indexA rfl rfl Try.underlying62 sz_4 (by omega) (by omega) (show _ = 3 from rfl)) ?_
      refine HY 12 rfl (((hsub (.cons_cons _ (.cons _ (.cons _ (.cons _ (.cons _ (.refl _))))))).trans (hsub_pick [0] rfl))) rfl (y_load rfl ag_4 (sees 0 0 rfl) rfl) ?_
      refine HY 13 rfl (((hsub (.cons_cons _ (.cons _ (.cons _ (.cons _ (.cons _ (.refl _))))))).trans (hsub_pick [0] rfl))) rfl (y_indexS rfl rfl Try.underlying123 sz_4 (by omega) (by omega) (show _ = j from by simp)) ?_
      refine H_one 14 rfl (by kernel_rfl) rfl (op_store1 4 0 rfl rfl rfl sz_4 rfl (by rw [bls_len, mix_len (by omega)]; omega) ?_)
      rw [bls_set, mix_set hc1]
      refine ⟨((hsub (.cons_cons _ (.cons _ (.cons _ (.cons _ (.cons _ (.refl _))))))).trans (hsub_pick [0] rfl)), ?_⟩
      refine H_done (by kernel_rfl) ?_
      refine C_region (LY rfl (y_move rfl) ?_)
      refine LY rfl (y_add rfl rfl (wi64 (by omega) (by omega))) ?_
      refine LY rfl (y_assign rfl) (L_nil ?_)
      exact ⟨j + 1, by omega, by omega, ⟨rfl, rfl, rfl, rfl, trivial⟩, ((hsub (.cons_cons _ (.cons_cons _ (.cons_cons _ (.cons_cons _ (.cons_cons _ (.refl _))))))).trans (hsub_pick [0, 0, 0, 0, 0] rfl))⟩
    · rw [show j = K from by have := of_decide_eq_false hc1; omega, mix_all]
      refine C_exit (C_region (LY rfl (y_move rfl) ?_))
      refine LY rfl (y_add rfl rfl (show _ = (2 : Int) from rfl)) ?_
      refine LY rfl (y_assign rfl) (L_nil ?_)
      refine In_round ?_
      refine C_seq (C_seq (C_region (LY rfl (y_move rfl) (LY rfl (y_lss rfl rfl) (L_nil (C_cond_f rfl (C_exit (C_seq (C_region (LY rfl (y_move rfl) (LY rfl (y_assign rfl) (L_nil (C_ret ?_)))))))))))))
      refine B_ret (rv_tmp rfl rv_nil) ((hsub (.cons_cons _ (.cons_cons _ (.cons_cons _ (.cons_cons _ (.cons_cons _ (.refl _))))))).trans (hsub_pick [0, 0, 0, 0, 0] rfl)) ?_
      exact ⟨⟨B1, B2, B4, B3, B5⟩, rfl, rfl⟩

theorem rnew_ft {w0 : World} {H : Hp} {K : Nat} (hK : K ≤ 4096) : FnS Try.prog w0 37 #[.int .i64 (K : Int), .bool false, .bool true] H (fun e H' => ∃ o : Ro, e = .returned (ptr o.b) ∧ H' = (o.hp 126 32 4 K (Rm.new K false true) H)) := by
  refine FnS_intro (n := 53) (rs := [.tmp 6]) (vs := [.int .i64 (K : Int), .bool false, .bool true]) Try.func37 rfl Try.ntmps37 rfl rfl ?_
  refine C_seq (C_region (LY rfl (y_assign rfl) (L_nil (C_seq (C_region (LY rfl (y_move rfl) (LY rfl (y_move rfl) ?_)))))))
  refine LY rfl (y_buildA (vs := [(0, _), (1, _)]) rfl Try.underlying62 sz_4 zl_62 rfl) ?_
  refine LY rfl (y_build (vs := [(1, _)]) (l := [.slice none 0 0, .slice none 0 0, .bool false, .bool true, .slice none 0 0, .slice none 0 0]) rfl pl_126 zl_126 (fill_cons (off := 2) (m := 2) (vs := [_, _]) rfl rfl rfl (Nat.le_of_ble_eq_true rfl) rfl)) ?_
  refine L_op rfl (op_box rfl rfl rfl (fun B1 => ?_))
  refine LY rfl (y_assign rfl) (L_nil (C_seq (C_seq (C_region (LY rfl (y_assign rfl) (L_nil (C_block ?_)))))))
  refine C_loopIn (In_round ?_)
  refine C_seq (C_seq (C_region (LY rfl (y_move rfl) (LY rfl (y_lss rfl rfl) (L_nil (C_cond_t rfl (C_skip (C_seq (C_block (C_seq ?_))))))))))
  refine C_regionH H (by kernel_rfl) ?_
  refine HY 0 rfl (hsub (.cons _ (.refl _))) rfl (y_move rfl) ?_
  refine HY 1 rfl (hsub (.cons _ (.refl _))) rfl (y_move rfl) ?_
  refine HY 2 rfl (hsub (.cons _ (.refl _))) rfl (y_move rfl) ?_
  refine HY 4 rfl (hsub (.cons _ (.refl _))) rfl (y_nilCheck rfl) ?_
  refine HY 5 rfl (hsub (.cons _ (.refl _))) rfl (y_fieldAddr rfl fl_126_0) ?_
  refine H_one 3 rfl (by kernel_rfl) rfl (op_makeSlice rfl Try.underlying40 by_32 sz_32 zl_32 rfl (by omega) (by omega) (by omega) rfl (fun B2 => ?_))
  simp only [Int.toNat_natCast]
  rw [zsecs]
  refine ⟨hsub (.cons _ (.cons _ (.refl _))), ?_⟩
  refine HY 6 rfl (hsub (.cons _ (.cons _ (.refl _)))) rfl (y_indexA rfl rfl Try.underlying122 sz_40 (by omega) (by omega) (show _ = 0 from rfl)) ?_
  refine H_one 7 rfl (by kernel_rfl) rfl (op_store1 1 0 rfl rfl rfl sz_40 rfl (Nat.le_of_ble_eq_true rfl) ?_)
  refine ⟨hsub (.cons _ (.cons _ (.refl _))), ?_⟩
  refine H_done (by kernel_rfl) ?_
  refine C_seq ?_
  refine C_regionH H (by kernel_rfl) ?_
  refine HY 0 rfl (hsub (.cons _ (.cons _ (.refl _)))) rfl (y_move rfl) ?_
  refine HY 1 rfl (hsub (.cons _ (.cons _ (.refl _)))) rfl (y_move rfl) ?_
  refine HY 2 rfl (hsub (.cons _ (.cons _ (.refl _)))) rfl (y_move rfl) ?_
  refine HY 4 rfl (hsub (.cons _ (.cons _ (.refl _)))) rfl (y_nilCheck rfl) ?_
  refine HY 5 rfl (hsub (.cons _ (.cons _ (.refl _)))) rfl (y_fieldAddr rfl fl_126_2) ?_
  refine H_one 3 rfl (by kernel_rfl) rfl (op_makeSlice rfl Try.underlying123 by_4 sz_4 zl_4 rfl (by omega) (by omega) (by omega) rfl (fun B3 => ?_))
  simp only [Int.toNat_natCast]
  rw [zbls]
  refine ⟨hsub (.cons _ (.cons _ (.cons _ (.refl _)))), ?_⟩
  refine HY 6 rfl (hsub (.cons _ (.cons _ (.cons _ (.refl _))))) rfl (y_indexA rfl rfl Try.underlying124 sz_123 (by omega) (by omega) (show _ = 4 from rfl)) ?_
  refine H_one 7 rfl (by kernel_rfl) rfl (op_store1 2 0 rfl rfl rfl sz_123 rfl (Nat.le_of_ble_eq_true rfl) ?_)
  refine ⟨hsub (.cons _ (.cons _ (.cons _ (.refl _)))), ?_⟩
  refine H_done (by kernel_rfl) ?_
  refine C_seq (C_region (LY rfl (y_assign rfl) (L_nil (C_block ?_))))
  refine C_loop (ι := Nat) (fun j => [(0, .int .i64 (K : Int)), (7, ptr B1), (8, .int .i64 0), (9, .int .i64 (j : Int))]) (fun j => [(B1, .cells [slB B2 K, (.slice none 0 0), .bool false, .bool true, slB B3 K, (.slice none 0 0)].toArray 126)] :: lseg 32 B2 (List.replicate K (secOf 0)) :: sseg 4 B3 (mix false j K) :: H) (fun j => j ≤ K) (fun j => K - j) 0 (Nat.zero_le _) ⟨rfl, rfl, rfl, rfl, trivial⟩ (by rw [mix_0]; exact ((hsub (.cons_cons _ (.cons_cons _ (.cons_cons _ (.refl _))))).trans (hsub_pick [2, 1, 0] rfl))) (fun j hj => ?_)
  skip
  refine C_seq (C_seq (C_region (LY rfl (y_move rfl) (LY rfl (y_move rfl) (LY rfl (y_lss rfl rfl) (L_nil ?_))))))
  refine C_cond rfl (fun hc1 => ?_) (fun hc1 => ?_)
  · replace hc1 : j < K := by have := of_decide_eq_true hc1; omega
    refine C_skip (C_seq (C_block ?_))
    refine C_regionH ([(B1, .cells [slB B2 K, (.slice none 0 0), .bool false, .bool true, slB B3 K, (.slice none 0 0)].toArray 126)] :: H) (by kernel_rfl) ?_
    refine HY 0 rfl (((hsub (.cons_cons _ (.cons _ (.cons _ (.refl _))))).trans (hsub_pick [0] rfl))) rfl (y_move rfl) ?_
    refine HY 1 rfl (((hsub (.cons_cons _ (.cons _ (.cons _ (.refl _))))).trans (hsub_pick [0] rfl))) rfl (y_move rfl) ?_
    refine HY 2 rfl (((hsub (.cons_cons _ (.cons _ (.cons _ (.refl _))))).trans (hsub_pick [0] rfl))) rfl (y_nilCheck rfl) ?_
    refine HY 3 rfl (((hsub (.cons_cons _ (.cons _ (.cons _ (.refl _))))).trans (hsub_pick [0] rfl))) rfl (y_fieldAddr rfl fl_126_2) ?_
    refine HY 4 rfl (((hsub (.cons_cons _ (.cons _ (.cons _ (.refl _))))).trans (hsub_pick [0] rfl))) rfl (y_indexA rfl rfl Try.underlying124 sz_123 (by omega) (by omega) (show _ = 4 from rfl)) ?_
    refine HY 5 rfl (((hsub (.cons_cons _ (.cons _ (.cons _ (.refl _))))).trans (hsub_pick [0] rfl))) rfl (y_load rfl ag_123 (sees 0 0 rfl) rfl) ?_
    refine HY 6 rfl (((hsub (.cons_cons _ (.cons _ (.cons _ (.refl _))))).trans (hsub_pick [0] rfl))) rfl (y_move rfl) ?_
    refine HY 7 rfl (((hsub (.cons_cons _ (.cons _ (.cons _ (.refl _))))).trans (hsub_pick [0] rfl))) rfl (y_move rfl) ?_
    refine HY 8 rfl (((hsub (.cons_cons _ (.cons _ (.cons _ (.refl _))))).trans (hsub_pick [0] rfl))) rfl (y_move rfl) ?_
    refine HY 9 rfl (((hsub (.cons_cons _ (.cons _ (.cons _ (.refl _))))).trans (hsub_pick [0] rfl))) rfl (y_nilCheck rfl) ?_
    refine HY 10 rfl (((hsub (.cons_cons _ (.cons _ (.cons _ (.refl _))))).trans (hsub_pick [0] rfl))) rfl (y_fieldAddr rfl fl_126_1) ?_
    refine HY 11 rfl (((hsub (.cons_cons _ (.cons _ (.cons _ (.refl _))))).trans (hsub_pick [0] rfl))) rfl (y_indexA rfl rfl Try.underlying62 sz_4 (by omega) (by omega) (show _ = 2 from rfl)) ?_
    refine HY 12 rfl (((hsub (.cons_cons _ (.cons _ (.cons _ (.refl _))))).trans (hsub_pick [0] rfl))) rfl (y_load rfl ag_4 (sees 0 0 rfl) rfl) ?_
    refine HY 13 rfl (((hsub (.cons_cons _ (.cons _ (.cons _ (.refl _))))).trans (hsub_pick [0] rfl))) rfl (y_indexS rfl rfl Try.underlying123 sz_4 (by omega) (by omega) (show _ = j from by simp)) ?_
    refine H_one 14 rfl (by kernel_rfl) rfl (op_store1 2 0 rfl rfl rfl sz_4 rfl (by rw [bls_len, mix_len (by omega)]; omega) ?_)
    rw [bls_set, mix_set hc1]
    refine ⟨((hsub (.cons_cons _ (.cons _ (.cons _ (.refl _))))).trans (hsub_pick [0] rfl)), ?_⟩
    refine H_done (by kernel_rfl) ?_
    refine C_region (LY rfl (y_move rfl) ?_)
    refine LY rfl (y_add rfl rfl (wi64 (by omega) (by omega))) ?_
    refine LY rfl (y_assign rfl) (L_nil ?_)
    exact ⟨j + 1, by omega, by omega, ⟨rfl, rfl, rfl, rfl, trivial⟩, ((hsub (.cons_cons _ (.cons_cons _ (.cons_cons _ (.refl _))))).trans (hsub_pick [0, 0, 0] rfl))⟩
  · rw [show j = K from by have := of_decide_eq_false hc1; omega, mix_all]
    refine C_exit (C_region (LY rfl (y_move rfl) ?_))
    refine LY rfl (y_add rfl rfl (show _ = (1 : Int) from rfl)) ?_
    refine LY rfl (y_assign rfl) (L_nil ?_)
    refine In_round ?_
    refine C_seq (C_seq (C_region (LY rfl (y_move rfl) (LY rfl (y_lss rfl rfl) (L_nil (C_cond_t rfl (C_skip (C_seq (C_block (C_seq ?_))))))))))
    refine C_regionH H (by kernel_rfl) ?_
    refine HY 0 rfl (hsub (.cons _ (.cons _ (.cons _ (.refl _))))) rfl (y_move rfl) ?_
    refine HY 1 rfl (hsub (.cons _ (.cons _ (.cons _ (.refl _))))) rfl (y_move rfl) ?_
    refine HY 2 rfl (hsub (.cons _ (.cons _ (.cons _ (.refl _))))) rfl (y_move rfl) ?_
    refine HY 4 rfl (hsub (.cons _ (.cons _ (.cons _ (.refl _))))) rfl (y_nilCheck rfl) ?_
    refine HY 5 rfl (hsub (.cons _ (.cons _ (.cons _ (.refl _))))) rfl (y_fieldAddr rfl fl_126_0) ?_
    refine H_one 3 rfl (by kernel_rfl) rfl (op_makeSlice rfl Try.underlying40 by_32 sz_32 zl_32 rfl (by omega) (by omega) (by omega) rfl (fun B4 => ?_))
    simp only [Int.toNat_natCast]
    rw [zsecs]
    refine ⟨hsub (.cons _ (.cons _ (.cons _ (.cons _ (.refl _))))), ?_⟩
    refine HY 6 rfl (hsub (.cons _ (.cons _ (.cons _ (.cons _ (.refl _)))))) rfl (y_indexA rfl rfl Try.underlying122 sz_40 (by omega) (by omega) (show _ = 1 from rfl)) ?_
    refine H_one 7 rfl (by kernel_rfl) rfl (op_store1 1 0 rfl rfl rfl sz_40 rfl (Nat.le_of_ble_eq_true rfl) ?_)
    refine ⟨hsub (.cons _ (.cons _ (.cons _ (.cons _ (.refl _))))), ?_⟩
    refine H_done (by kernel_rfl) ?_
    refine C_seq ?_
    refine C_regionH H (by kernel_rfl) ?_
    refine HY 0 rfl (hsub (.cons _ (.cons _ (.cons _ (.cons _ (.refl _)))))) rfl (y_move rfl) ?_
    refine HY 1 rfl (hsub (.cons _ (.cons _ (.cons _ (.cons _ (.refl _)))))) rfl (y_move rfl) ?_
    refine HY 2 rfl (hsub (.cons _ (.cons _ (.cons _ (.cons _ (.refl _)))))) rfl (y_move rfl) ?_
    refine HY 4 rfl (hsub (.cons _ (.cons _ (.cons _ (.cons _ (.refl _)))))) rfl (y_nilCheck rfl) ?_
    refine HY 5 rfl (hsub (.cons _ (.cons _ (.cons _ (.cons _ (.refl _)))))) rfl (y_fieldAddr rfl fl_126_2) ?_
    refine H_one 3 rfl (by kernel_rfl) rfl (op_makeSlice rfl Try.underlying123 by_4 sz_4 zl_4 rfl (by omega) (by omega) (by omega) rfl (fun B5 => ?_))
    simp only [Int.toNat_natCast]
    rw [zbls]
    refine ⟨hsub (.cons _ (.cons _ (.cons _ (.cons _ (.cons _ (.refl _)))))), ?_⟩
    refine HY 6 rfl (hsub (.cons _ (.cons _ (.cons _ (.cons _ (.cons _ (.refl _))))))) rfl (y_indexA rfl rfl Try.underlying124 sz_123 (by omega) (by omega) (show _ = 5 from rfl)) ?_
    refine H_one 7 rfl (by kernel_rfl) rfl (op_store1 2 0 rfl rfl rfl sz_123 rfl (Nat.le_of_ble_eq_true rfl) ?_)
    refine ⟨hsub (.cons _ (.cons _ (.cons _ (.cons _ (.cons _ (.refl _)))))), ?_⟩
    refine H_done (by kernel_rfl) ?_
    refine C_seq (C_region (LY rfl (y_assign rfl) (L_nil (C_block ?_))))
    refine C_loop (ι := Nat) (fun j => [(0, .int .i64 (K : Int)), (7, ptr B1), (8, .int .i64 1), (9, .int .i64 (j : Int))]) (fun j => [(B1, .cells [slB B2 K, slB B4 K, .bool false, .bool true, slB B3 K, slB B5 K].toArray 126)] :: lseg 32 B2 (List.replicate K (secOf 0)) :: lseg 32 B4 (List.replicate K (secOf 0)) :: sseg 4 B3 (List.replicate K false) :: sseg 4 B5 (mix true j K) :: H) (fun j => j ≤ K) (fun j => K - j) 0 (Nat.zero_le _) ⟨rfl, rfl, rfl, rfl, trivial⟩ (by rw [mix_0]; exact ((hsub (.cons_cons _ (.cons_cons _ (.cons_cons _ (.cons_cons _ (.cons_cons _ (.refl _))))))).trans (hsub_pick [2, 2, 1, 1, 0] rfl))) (fun j hj => ?_)
    skip
    refine C_seq (C_seq (C_region (LY rfl (y_move rfl) (LY rfl (y_move rfl) (LY rfl (y_lss rfl rfl) (L_nil ?_))))))
    refine C_cond rfl (fun hc1 => ?_) (fun hc1 => ?_)
    · replace hc1 : j < K := by have := of_decide_eq_true hc1; omega
      refine C_skip (C_seq (C_block ?_))
      refine C_regionH ([(B1, .cells [slB B2 K, slB B4 K, .bool false, .bool true, slB B3 K, slB B5 K].toArray 126)] :: H) (by kernel_rfl) ?_
      refine HY 0 rfl (((hsub (.cons_cons _ (.cons _ (.cons _ (.cons _ (.cons _ (.refl _))))))).trans (hsub_pick [0] rfl))) rfl (y_move rfl) ?_
      refine HY 1 rfl (((hsub (.cons_cons _ (.cons _ (.cons _ (.cons _ (.cons _ (.refl _))))))).trans (hsub_pick [0] rfl))) rfl (y_move rfl) ?_
      refine HY 2 rfl (((hsub (.cons_cons _ (.cons _ (.cons _ (.cons _ (.cons _ (.refl _))))))).trans (hsub_pick [0] rfl))) rfl (y_nilCheck rfl) ?_
      refine HY 3 rfl (((hsub (.cons_cons _ (.cons _ (.cons _ (.cons _ (.cons _ (.refl _))))))).trans (hsub_pick [0] rfl))) rfl (y_fieldAddr rfl fl_126_2) ?_
      refine HY 4 rfl (((hsub (.cons_cons _ (.cons _ (.cons _ (.cons _ (.cons _ (.refl _))))))).trans (hsub_pick [0] rfl))) rfl (y_indexA rfl rfl Try.underlying124 sz_123 (by omega) (by omega) (show _ = 5 from rfl)) ?_
      refine HY 5 rfl (((hsub (.cons_cons _ (.cons _ (.cons _ (.cons _ (.cons _ (.refl _))))))).trans (hsub_pick [0] rfl))) rfl (y_load rfl ag_123 (sees 0 0 rfl) rfl) ?_
      refine HY 6 rfl (((hsub (.cons_cons _ (.cons _ (.cons _ (.cons _ (.cons _ (.refl _))))))).trans (hsub_pick [0] rfl))) rfl (y_move rfl) ?_
      refine HY 7 rfl (((hsub (.cons_cons _ (.cons _ (.cons _ (.cons _ (.cons _ (.refl _))))))).trans (hsub_pick [0] rfl))) rfl (y_move rfl) ?_
      refine HY 8 rfl (((hsub (.cons_cons _ (.cons _ (.cons _ (.cons _ (.cons _ (.refl _))))))).trans (hsub_pick [0] rfl))) rfl (y_move rfl) ?_
      refine HY 9 rfl (((hsub (.cons_cons _ (.cons _ (.cons _ (.cons _ (.cons _ (.refl _))))))).trans (hsub_pick [0] rfl))) rfl (y_nilCheck rfl) ?_
      refine HY 10 rfl (((hsub (.cons_cons _ (.cons _ (.cons _ (.cons _ (.cons _ (.refl _))))))).trans (hsub_pick [0] rfl))) rfl (y_fieldAddr rfl fl_126_1) ?_
      refine HY 11 rfl (((hsub (.cons_cons _ (.cons _ (.cons _ (.cons _ (.cons _ (.refl _))))))).trans (hsub_pick [0] rfl))) rfl (y_indexA rfl rfl Try.underlying62 sz_4 (by omega) (by omega) (show _ = 3 from rfl)) ?_
      refine HY 12 rfl (((hsub (.cons_cons _ (.cons _ (.cons _ (.cons _ (.cons _ (.refl _))))))).trans (hsub_pick [0] rfl))) rfl (y_load rfl ag_4 (sees 0 0 rfl) rfl) ?_
      refine HY 13 rfl (((hsub (.cons_cons _ (.cons _ (.cons _ (.cons _ (.cons _ (.refl _))))))).trans (hsub_pick [0] rfl))) rfl (y_indexS rfl rfl Try.underlying123 sz_4 (by omega) (by omega) (show _ = j from by simp)) ?_
      refine H_one 14 rfl (by kernel_rfl) rfl (op_store1 4 0 rfl rfl rfl sz_4 rfl (by rw [bls_len, mix_len (by omega)]; omega) ?_)
      rw [bls_set, mix_set hc1]
      refine ⟨((hsub (.cons_cons _ (.cons _ (.cons _ (.cons _ (.cons _ (.refl _))))))).trans (hsub_pick [0] rfl)), ?_⟩
      refine H_done (by kernel_rfl) ?_
      refine C_region (LY rfl (y_move rfl) ?_)
      refine LY rfl (y_add rfl rfl (wi64 (by omega) (by omega))) ?_
      refine LY rfl (y_assign rfl) (L_nil ?_)
      exact ⟨j + 1, by omega, by omega, ⟨rfl, rfl, rfl, rfl, trivial⟩, ((hsub (.cons_cons _ (.cons_cons _ (.cons_cons _ (.cons_cons _ (.cons_cons _ (.refl _))))))).trans (hsub_pick [0, 0, 0, 0, 0] rfl))⟩
    · rw [show j = K from by have := of_decide_eq_false hc1; omega, mix_all]
      refine C_exit (C_region (LY rfl (y_move rfl) ?_))
      refine LY rfl (y_add rfl rfl (show _ = (2 : Int) from rfl)) ?_
      refine LY rfl (y_assign rfl) (L_nil ?_)
      refine In_round ?_
      refine C_seq (C_seq (C_region (LY rfl (y_move rfl) (LY rfl (y_lss rfl rfl) (L_nil (C_cond_f rfl (C_exit (C_seq (C_region (LY rfl (y_move rfl) (LY rfl (y_assign rfl) (L_nil (C_ret ?_)))))))))))))
      refine B_ret (rv_tmp rfl rv_nil) ((hsub (.cons_cons _ (.cons_cons _ (.cons_cons _ (.cons_cons _ (.cons_cons _ (.refl _))))))).trans (hsub_pick [0, 0, 0, 0, 0] rfl)) ?_
      exact ⟨⟨B1, B2, B4, B3, B5⟩, rfl, rfl⟩

theorem rnew_tf {w0 : World} {H : Hp} {K : Nat} (hK : K ≤ 4096) : FnS Try.prog w0 37 #[.int .i64 (K : Int), .bool true, .bool false] H (fun e H' => ∃ o : Ro, e = .returned (ptr o.b) ∧ H' = (o.hp 126 32 4 K (Rm.new K true false) H)) := by
  refine FnS_intro (n := 53) (rs := [.tmp 6]) (vs := [.int .i64 (K : Int), .bool true, .bool false]) Try.func37 rfl Try.ntmps37 rfl rfl ?_
  refine C_seq (C_region (LY rfl (y_assign rfl) (L_nil (C_seq (C_region (LY rfl (y_move rfl) (LY rfl (y_move rfl) ?_)))))))
  refine LY rfl (y_buildA (vs := [(0, _), (1, _)]) rfl Try.underlying62 sz_4 zl_62 rfl) ?_
  refine LY rfl (y_build (vs := [(1, _)]) (l := [.slice none 0 0, .slice none 0 0, .bool true, .bool false, .slice none 0 0, .slice none 0 0]) rfl pl_126 zl_126 (fill_cons (off := 2) (m := 2) (vs := [_, _]) rfl rfl rfl (Nat.le_of_ble_eq_true rfl) rfl)) ?_
  refine L_op rfl (op_box rfl rfl rfl (fun B1 => ?_))
  refine LY rfl (y_assign rfl) (L_nil (C_seq (C_seq (C_region (LY rfl (y_assign rfl) (L_nil (C_block ?_)))))))
  refine C_loopIn (In_round ?_)
  refine C_seq (C_seq (C_region (LY rfl (y_move rfl) (LY rfl (y_lss rfl rfl) (L_nil (C_cond_t rfl (C_skip (C_seq (C_block (C_seq ?_))))))))))
  refine C_regionH H (by kernel_rfl) ?_
  refine HY 0 rfl (hsub (.cons _ (.refl _))) rfl (y_move rfl) ?_
  refine HY 1 rfl (hsub (.cons _ (.refl _))) rfl (y_move rfl) ?_
  refine HY 2 rfl (hsub (.cons _ (.refl _))) rfl (y_move rfl) ?_
  refine HY 4 rfl (hsub (.cons _ (.refl _))) rfl (y_nilCheck rfl) ?_
  refine HY 5 rfl (hsub (.cons _ (.refl _))) rfl (y_fieldAddr rfl fl_126_0) ?_
  refine H_one 3 rfl (by kernel_rfl) rfl (op_makeSlice rfl Try.underlying40 by_32 sz_32 zl_32 rfl (by omega) (by omega) (by omega) rfl (fun B2 => ?_))
  simp only [Int.toNat_natCast]
  rw [zsecs]
  refine ⟨hsub (.cons _ (.cons _ (.refl _))), ?_⟩
  refine HY 6 rfl (hsub (.cons _ (.cons _ (.refl _)))) rfl (y_indexA rfl rfl Try.underlying122 sz_40 (by omega) (by omega) (show _ = 0 from rfl)) ?_
  refine H_one 7 rfl (by kernel_rfl) rfl (op_store1 1 0 rfl rfl rfl sz_40 rfl (Nat.le_of_ble_eq_true rfl) ?_)
  refine ⟨hsub (.cons _ (.cons _ (.refl _))), ?_⟩
  refine H_done (by kernel_rfl) ?_
  refine C_seq ?_
  refine C_regionH H (by kernel_rfl) ?_
  refine HY 0 rfl (hsub (.cons _ (.cons _ (.refl _)))) rfl (y_move rfl) ?_
  refine HY 1 rfl (hsub (.cons _ (.cons _ (.refl _)))) rfl (y_move rfl) ?_
  refine HY 2 rfl (hsub (.cons _ (.cons _ (.refl _)))) rfl (y_move rfl) ?_
  refine HY 4 rfl (hsub (.cons _ (.cons _ (.refl _)))) rfl (y_nilCheck rfl) ?_
  refine HY 5 rfl (hsub (.cons _ (.cons _ (.refl _)))) rfl (y_fieldAddr rfl fl_126_2) ?_
  refine H_one 3 rfl (by kernel_rfl) rfl (op_makeSlice rfl Try.underlying123 by_4 sz_4 zl_4 rfl (by omega) (by omega) (by omega) rfl (fun B3 => ?_))
  simp only [Int.toNat_natCast]
  rw [zbls]
  refine ⟨hsub (.cons _ (.cons _ (.cons _ (.refl _)))), ?_⟩
  refine HY 6 rfl (hsub (.cons _ (.cons _ (.cons _ (.refl _))))) rfl (y_indexA rfl rfl Try.underlying124 sz_123 (by omega) (by omega) (show _ = 4 from rfl)) ?_
  refine H_one 7 rfl (by kernel_rfl) rfl (op_store1 2 0 rfl rfl rfl sz_123 rfl (Nat.le_of_ble_eq_true rfl) ?_)
  refine ⟨hsub (.cons _ (.cons _ (.cons _ (.refl _)))), ?_⟩
  refine H_done (by kernel_rfl) ?_
  refine C_seq (C_region (LY rfl (y_assign rfl) (L_nil (C_block ?_))))
  refine C_loop (ι := Nat) (fun j => [(0, .int .i64 (K : Int)), (7, ptr B1), (8, .int .i64 0), (9, .int .i64 (j : Int))]) (fun j => [(B1, .cells [slB B2 K, (.slice none 0 0), .bool true, .bool false, slB B3 K, (.slice none 0 0)].toArray 126)] :: lseg 32 B2 (List.replicate K (secOf 0)) :: sseg 4 B3 (mix true j K) :: H) (fun j => j ≤ K) (fun j => K - j) 0 (Nat.zero_le _) ⟨rfl, rfl, rfl, rfl, trivial⟩ (by rw [mix_0]; exact ((hsub (.cons_cons _ (.cons_cons _ (.cons_cons _ (.refl _))))).trans (hsub_pick [2, 1, 0] rfl))) (fun j hj => ?_)
  skip
  refine C_seq (C_seq (C_region (LY rfl (y_move rfl) (LY rfl (y_move rfl) (LY rfl (y_lss rfl rfl) (L_nil ?_))))))
  refine C_cond rfl (fun hc1 => ?_) (fun hc1 => ?_)
  · replace hc1 : j < K := by have := of_decide_eq_true hc1; omega
    refine C_skip (C_seq (C_block ?_))
    refine C_regionH ([(B1, .cells [slB B2 K, (.slice none 0 0), .bool true, .bool false, slB B3 K, (.slice none 0 0)].toArray 126)] :: H) (by kernel_rfl) ?_
    refine HY 0 rfl (((hsub (.cons_cons _ (.cons _ (.cons _ (.refl _))))).trans (hsub_pick [0] rfl))) rfl (y_move rfl) ?_
    refine HY 1 rfl (((hsub (.cons_cons _ (.cons _ (.cons _ (.refl _))))).trans (hsub_pick [0] rfl))) rfl (y_move rfl) ?_
    refine HY 2 rfl (((hsub (.cons_cons _ (.cons _ (.cons _ (.refl _))))).trans (hsub_pick [0] rfl))) rfl (y_nilCheck rfl) ?_
    refine HY 3 rfl (((hsub (.cons_cons _ (.cons _ (.cons _ (.refl _))))).trans (hsub_pick [0] rfl))) rfl (y_fieldAddr rfl fl_126_2) ?_
    refine HY 4 rfl (((hsub (.cons_cons _ (.cons _ (.cons _ (.refl _))))).trans (hsub_pick [0] rfl))) rfl (y_indexA rfl rfl Try.underlying124 sz_123 (by omega) (by omega) (show _ = 4 from rfl)) ?_
    refine HY 5 rfl (((hsub (.cons_cons _ (.cons _ (.cons _ (.refl _))))).trans (hsub_pick [0] rfl))) rfl (y_load rfl ag_123 (sees 0 0 rfl) rfl) ?_
    refine HY 6 rfl (((hsub (.cons_cons _ (.cons _ (.cons _ (.refl _))))).trans (hsub_pick [0] rfl))) rfl (y_move rfl) ?_
    refine HY 7 rfl (((hsub (.cons_cons _ (.cons _ (.cons _ (.refl _))))).trans (hsub_pick [0] rfl))) rfl (y_move rfl) ?_
    refine HY 8 rfl (((hsub (.cons_cons _ (.cons _ (.cons _ (.refl _))))).trans (hsub_pick [0] rfl))) rfl (y_move rfl) ?_
    refine HY 9 rfl (((hsub (.cons_cons _ (.cons _ (.cons _ (.refl _))))).trans (hsub_pick [0] rfl))) rfl (y_nilCheck rfl) ?_
    refine HY 10 rfl (((hsub (.cons_cons _ (.cons _ (.cons _ (.refl _))))).trans (hsub_pick [0] rfl))) rfl (y_fieldAddr rfl fl_126_1) ?_
    refine HY 11 rfl (((hsub (.cons_cons _ (.cons _ (.cons _ (.refl _))))).trans (hsub_pick [0] rfl))) rfl (y_indexA rfl rfl Try.underlying62 sz_4 (by omega) (by omega) (show _ = 2 from rfl)) ?_
    refine HY 12 rfl (((hsub (.cons_cons _ (.cons _ (.cons _ (.refl _))))).trans (hsub_pick [0] rfl))) rfl (y_load rfl ag_4 (sees 0 0 rfl) rfl) ?_
    refine HY 13 rfl (((hsub (.cons_cons _ (.cons _ (.cons _ (.refl _))))).trans (hsub_pick [0] rfl))) rfl (y_indexS rfl rfl Try.underlying123 sz_4 (by omega) (by omega) (show _ = j from by simp)) ?_
    refine H_one 14 rfl (by kernel_rfl) rfl (op_store1 2 0 rfl rfl rfl sz_4 rfl (by rw [bls_len, mix_len (by omega)]; omega) ?_)
    rw [bls_set, mix_set hc1]
    refine ⟨((hsub (.cons_cons _ (.cons _ (.cons _ (.refl _))))).trans (hsub_pick [0] rfl)), ?_⟩
    refine H_done (by kernel_rfl) ?_
    refine C_region (LY rfl (y_move rfl) ?_)
    refine LY rfl (y_add rfl rfl (wi64 (by omega) (by omega))) ?_
    refine LY rfl (y_assign rfl) (L_nil ?_)
    exact ⟨j + 1, by omega, by omega, ⟨rfl, rfl, rfl, rfl, trivial⟩, ((hsub (.cons_cons _ (.cons_cons _ (.cons_cons _ (.refl _))))).trans (hsub_pick [0, 0, 0] rfl))⟩
  · rw [show j = K from by have := of_decide_eq_false hc1; omega, mix_all]
    refine C_exit (C_region (LY rfl (y_move rfl) ?_))
    refine LY rfl (y_add rfl rfl (show _ = (1 : Int) from rfl)) ?_
    refine LY rfl (y_assign rfl) (L_nil ?_)
    refine In_round ?_
    refine C_seq (C_seq (C_region (LY rfl (y_move rfl) (LY rfl (y_lss rfl rfl) (L_nil (C_cond_t rfl (C_skip (C_seq (C_block (C_seq ?_))))))))))
    refine C_regionH H (by kernel_rfl) ?_
    refine HY 0 rfl (hsub (.cons _ (.cons _ (.cons _ (.refl _))))) rfl (y_move rfl) ?_
    refine HY 1 rfl (hsub (.cons _ (.cons _ (.cons _ (.refl _))))) rfl (y_move rfl) ?_
    refine HY 2 rfl (hsub (.cons _ (.cons _ (.cons _ (.refl _))))) rfl (y_move rfl) ?_
    refine HY 4 rfl (hsub (.cons _ (.cons _ (.cons _ (.refl _))))) rfl (y_nilCheck rfl) ?_
    refine HY 5 rfl (hsub (.cons _ (.cons _ (.cons _ (.refl _))))) rfl (y_fieldAddr rfl fl_126_0) ?_
    refine H_one 3 rfl (by kernel_rfl) rfl (op_makeSlice rfl Try.underlying40 by_32 sz_32 zl_32 rfl (by omega) (by omega) (by omega) rfl (fun B4 => ?_))
    simp only [Int.toNat_natCast]
    rw [zsecs]
    refine ⟨hsub (.cons _ (.cons _ (.cons _ (.cons _ (.refl _))))), ?_⟩
    refine HY 6 rfl (hsub (.cons _ (.cons _ (.cons _ (.cons _ (.refl _)))))) rfl (y_indexA rfl rfl Try.underlying122 sz_40 (by omega) (by omega) (show _ = 1 from rfl)) ?_
    refine H_one 7 rfl (by kernel_rfl) rfl (op_store1 1 0 rfl rfl rfl sz_40 rfl (Nat.le_of_ble_eq_true rfl) ?_)
    refine ⟨hsub (.cons _ (.cons _ (.cons _ (.cons _ (.refl _))))), ?_⟩
    refine H_done (by kernel_rfl) ?_
    refine C_seq ?_
    refine C_regionH H (by kernel_rfl) ?_
    refine HY 0 rfl (hsub (.cons _ (.cons _ (.cons _ (.cons _ (.refl _)))))) rfl (y_move rfl) ?_
    refine HY 1 rfl (hsub (.cons _ (.cons _ (.cons _ (.cons _ (.refl _)))))) rfl (y_move rfl) ?_
    refine HY 2 rfl (hsub (.cons _ (.cons _ (.cons _ (.cons _ (.refl _)))))) rfl (y_move rfl) ?_
    refine HY 4 rfl (hsub (.cons _ (.cons _ (.cons _ (.cons _ (.refl _)))))) rfl (y_nilCheck rfl) ?_
    refine HY 5 rfl (hsub (.cons _ (.cons _ (.cons _ (.cons _ (.refl _)))))) rfl (y_fieldAddr rfl fl_126_2) ?_
    refine H_one 3 rfl (by kernel_rfl) rfl (op_makeSlice rfl Try.underlying123 by_4 sz_4 zl_4 rfl (by omega) (by omega) (by omega) rfl (fun B5 => ?_))
    simp only [Int.toNat_natCast]
    rw [zbls]
    refine ⟨hsub (.cons _ (.cons _ (.cons _ (.cons _ (.cons _ (.refl _)))))), ?_⟩
    refine HY 6 rfl (hsub (.cons _ (.cons _ (.cons _ (.cons _ (.cons _ (.refl _))))))) rfl (y_indexA rfl rfl Try.underlying124 sz_123 (by omega) (by omega) (show _ = 5 from rfl)) ?_
    refine H_one 7 rfl (by kernel_rfl) rfl (op_store1 2 0 rfl rfl rfl sz_123 rfl (Nat.le_of_ble_eq_true rfl) ?_)
    refine ⟨hsub (.cons _ (.cons _ (.cons _ (.cons _ (.cons _ (.refl _)))))), ?_⟩
    refine H_done (by kernel_rfl) ?_
    refine C_seq (C_region (LY rfl (y_assign rfl) (L_nil (C_block ?_))))
    refine C_loop (ι := Nat) (fun j => [(0, .int .i64 (K : Int)), (7, ptr B1), (8, .int .i64 1), (9, .int .i64 (j : Int))]) (fun j => [(B1, .cells [slB B2 K, slB B4 K, .bool true, .bool false, slB B3 K, slB B5 K].toArray 126)] :: lseg 32 B2 (List.replicate K (secOf 0)) :: lseg 32 B4 (List.replicate K (secOf 0)) :: sseg 4 B3 (List.replicate K true) :: sseg 4 B5 (mix false j K) :: H) (fun j => j ≤ K) (fun j => K - j) 0 (Nat.zero_le _) ⟨rfl, rfl, rfl, rfl, trivial⟩ (by rw [mix_0]; exact ((hsub (.cons_cons _ (.cons_cons _ (.cons_cons _ (.cons_cons _ (.cons_cons _ (.refl _))))))).trans (hsub_pick [2, 2, 1, 1, 0] rfl))) (fun j hj => ?_)
    skip
    refine C_seq (C_seq (C_region (LY rfl (y_move rfl) (LY rfl (y_move rfl) (LY rfl (y_lss rfl rfl) (L_nil ?_))))))
    refine C_cond rfl (fun hc1 => ?_) (fun hc1 => ?_)
    · replace hc1 : j < K := by have := of_decide_eq_true hc1; omega
      refine C_skip (C_seq (C_block ?_))
      refine C_regionH ([(B1, .cells [slB B2 K, slB B4 K, .bool true, .bool false, slB B3 K, slB B5 K].toArray 126)] :: H) (by kernel_rfl) ?_
      refine HY 0 rfl (((hsub (.cons_cons _ (.cons _ (.cons _ (.cons _ (.cons _ (.refl _))))))).trans (hsub_pick [0] rfl))) rfl (y_move rfl) ?_
      refine HY 1 rfl (((hsub (.cons_cons _ (.cons _ (.cons _ (.cons _ (.cons _ (.refl _))))))).trans (hsub_pick [0] rfl))) rfl (y_move rfl) ?_
      refine HY 2 rfl (((hsub (.cons_cons _ (.cons _ (.cons _ (.cons _ (.cons _ (.refl _))))))).trans (hsub_pick [0] rfl))) rfl (y_nilCheck rfl) ?_
      refine HY 3 rfl (((hsub (.cons_cons _ (.cons _ (.cons _ (.cons _ (.cons _ (.refl _))))))).trans (hsub_pick [0] rfl))) rfl (y_fieldAddr rfl fl_126_2) ?_
      refine HY 4 rfl (((hsub (.cons_cons _ (.cons _ (.cons _ (.cons _ (.cons _ (.refl _))))))).trans (hsub_pick [0] rfl))) rfl (y_indexA rfl rfl Try.underlying124 sz_123 (by omega) (by omega) (show _ = 5 from rfl)) ?_
      refine HY 5 rfl (((hsub (.cons_cons _ (.cons _ (.cons _ (.cons _ (.cons _ (.refl _))))))).trans (hsub_pick [0] rfl))) rfl (y_load rfl ag_123 (sees 0 0 rfl) rfl) ?_
      refine HY 6 rfl (((hsub (.cons_cons _ (.cons _ (.cons _ (.cons _ (.cons _ (.refl _))))))).trans (hsub_pick [0] rfl))) rfl (y_move rfl) ?_
      refine HY 7 rfl (((hsub (.cons_cons _ (.cons _ (.cons _ (.cons _ (.cons _ (.refl _))))))).trans (hsub_pick [0] rfl))) rfl (y_move rfl) ?_
      refine HY 8 rfl (((hsub (.cons_cons _ (.cons _ (.cons _ (.cons _ (.cons _ (.refl _))))))).trans (hsub_pick [0] rfl))) rfl (y_move rfl) ?_
      refine HY 9 rfl (((hsub (.cons_cons _ (.cons _ (.cons _ (.cons _ (.cons _ (.refl _))))))).trans (hsub_pick [0] rfl))) rfl (y_nilCheck rfl) ?_
      refine HY 10 rfl (((hsub (.cons_cons _ (.cons _ (.cons _ (.cons _ (.cons _ (.refl _))))))).trans (hsub_pick [0] rfl))) rfl (y_fieldAddr rfl fl_126_1) ?_
      refine HY 11 rfl (((hsub (.cons_cons _ (.cons _ (.cons _ (.cons _ (.cons _ (.refl _))))))).trans (hsub_pick [0] rfl))) rfl (y_indexA rfl rfl Try.underlying62 sz_4 (by omega) (by omega) (show _ = 3 from rfl)) ?_
      refine HY 12 rfl (((hsub (.cons_cons _ (.cons _ (.cons _ (.cons _ (.cons _ (.refl _))))))).trans (hsub_pick [0] rfl))) rfl (y_load rfl ag_4 (sees 0 0 rfl) rfl) ?_
      refine HY 13 rfl (((hsub (.cons_cons _ (.cons _ (.cons _ (.cons _ (.cons _ (.refl _))))))).trans (hsub_pick [0] rfl))) rfl (y_indexS rfl rfl Try.underlying123 sz_4 (by omega) (by omega) (show _ = j from by simp)) ?_
      refine H_one 14 rfl (by kernel_rfl) rfl (op_store1 4 0 rfl rfl rfl sz_4 rfl (by rw [bls_len, mix_len (by omega)]; omega) ?_)
      rw [bls_set, mix_set hc1]
      refine ⟨((hsub (.cons_cons _ (.cons _ (.cons _ (.cons _ (.cons _ (.refl _))))))).trans (hsub_pick [0] rfl)), ?_⟩
      refine H_done (by kernel_rfl) ?_
      refine C_region (LY rfl (y_move rfl) ?_)
      refine LY rfl (y_add rfl rfl (wi64 (by omega) (by omega))) ?_
      refine LY rfl (y_assign rfl) (L_nil ?_)
      exact ⟨j + 1, by omega, by omega, ⟨rfl, rfl, rfl, rfl, trivial⟩, ((hsub (.cons_cons _ (.cons_cons _ (.cons_cons _ (.cons_cons _ (.cons_cons _ (.refl _))))))).trans (hsub_pick [0, 0, 0, 0, 0] rfl))⟩
    · rw [show j = K from by have := of_decide_eq_false hc1; omega, mix_all]
      refine C_exit (C_region (LY rfl (y_move rfl) ?_))
      refine LY rfl (y_add rfl rfl (show _ = (2 : Int) from rfl)) ?_
      refine LY rfl (y_assign rfl) (L_nil ?_)
      refine In_round ?_
      refine C_seq (C_seq (C_region (LY rfl (y_move rfl) (LY rfl (y_lss rfl rfl) (L_nil (C_cond_f rfl (C_exit (C_seq (C_region (LY rfl (y_move rfl) (LY rfl (y_assign rfl) (L_nil (C_ret ?_)))))))))))))
      refine B_ret (rv_tmp rfl rv_nil) ((hsub (.cons_cons _ (.cons_cons _ (.cons_cons _ (.cons_cons _ (.cons_cons _ (.refl _))))))).trans (hsub_pick [0, 0, 0, 0, 0] rfl)) ?_
      exact ⟨⟨B1, B2, B4, B3, B5⟩, rfl, rfl⟩

theorem rnew_tt {w0 : World} {H : Hp} {K : Nat} (hK : K ≤ 4096) : FnS Try.prog w0 37 #[.int .i64 (K : Int), .bool true, .bool true] H (fun e H' => ∃ o : Ro, e = .returned (ptr o.b) ∧ H' = (o.hp 126 32 4 K (Rm.new K true true) H)) := by
  refine FnS_intro (n := 53) (rs := [.tmp 6]) (vs := [.int .i64 (K : Int), .bool true, .bool true]) Try.func37 rfl Try.ntmps37 rfl rfl ?_
  refine C_seq (C_region (LY rfl (y_assign rfl) (L_nil (C_seq (C_region (LY rfl (y_move rfl) (LY rfl (y_move rfl) ?_)))))))
  refine LY rfl (y_buildA (vs := [(0, _), (1, _)]) rfl Try.underlying62 sz_4 zl_62 rfl) ?_
  refine LY rfl (y_build (vs := [(1, _)]) (l := [.slice none 0 0, .slice none 0 0, .bool true, .bool true, .slice none 0 0, .slice none 0 0]) rfl pl_126 zl_126 (fill_cons (off := 2) (m := 2) (vs := [_, _]) rfl rfl rfl (Nat.le_of_ble_eq_true rfl) rfl)) ?_
  refine L_op rfl (op_box rfl rfl rfl (fun B1 => ?_))
  refine LY rfl (y_assign rfl) (L_nil (C_seq (C_seq (C_region (LY rfl (y_assign rfl) (L_nil (C_block ?_)))))))
  refine C_loopIn (In_round ?_)
  refine C_seq (C_seq (C_region (LY rfl (y_move rfl) (LY rfl (y_lss rfl rfl) (L_nil (C_cond_t rfl (C_skip (C_seq (C_block (C_seq ?_))))))))))
  refine C_regionH H (by kernel_rfl) ?_
  refine HY 0 rfl (hsub (.cons _ (.refl _))) rfl (y_move rfl) ?_
  refine HY 1 rfl (hsub (.cons _ (.refl _))) rfl (y_move rfl) ?_
  refine HY 2 rfl (hsub (.cons _ (.refl _))) rfl (y_move rfl) ?_
  refine HY 4 rfl (hsub (.cons _ (.refl _))) rfl (y_nilCheck rfl) ?_
  refine HY 5 rfl (hsub (.cons _ (.refl _))) rfl (y_fieldAddr rfl fl_126_0) ?_
  refine H_one 3 rfl (by kernel_rfl) rfl (op_makeSlice rfl Try.underlying40 by_32 sz_32 zl_32 rfl (by omega) (by omega) (by omega) rfl (fun B2 => ?_))
  simp only [Int.toNat_natCast]
  rw [zsecs]
  refine ⟨hsub (.cons _ (.cons _ (.refl _))), ?_⟩
  refine HY 6 rfl (hsub (.cons _ (.cons _ (.refl _)))) rfl (y_indexA rfl rfl Try.underlying122 sz_40 (by omega) (by omega) (show _ = 0 from rfl)) ?_
  refine H_one 7 rfl (by kernel_rfl) rfl (op_store1 1 0 rfl rfl rfl sz_40 rfl (Nat.le_of_ble_eq_true rfl) ?_)
  refine ⟨hsub (.cons _ (.cons _ (.refl _))), ?_⟩
  refine H_done (by kernel_rfl) ?_
  refine C_seq ?_
  refine C_regionH H (by kernel_rfl) ?_
  refine HY 0 rfl (hsub (.cons _ (.cons _ (.refl _)))) rfl (y_move rfl) ?_
  refine HY 1 rfl (hsub (.cons _ (.cons _ (.refl _)))) rfl (y_move rfl) ?_
  refine HY 2 rfl (hsub (.cons _ (.cons _ (.refl _)))) rfl (y_move rfl) ?_
  refine HY 4 rfl (hsub (.cons _ (.cons _ (.refl _)))) rfl (y_nilCheck rfl) ?_
  refine HY 5 rfl (hsub (.cons _ (.cons _ (.refl _)))) rfl (y_fieldAddr rfl fl_126_2) ?_
  refine H_one 3 rfl (by kernel_rfl) rfl (op_makeSlice rfl Try.underlying123 by_4 sz_4 zl_4 rfl (by omega) (by omega) (by omega) rfl (fun B3 => ?_))
  simp only [Int.toNat_natCast]
  rw [zbls]
  refine ⟨hsub (.cons _ (.cons _ (.cons _ (.refl _)))), ?_⟩
  refine HY 6 rfl (hsub (.cons _ (.cons _ (.cons _ (.refl _))))) rfl (y_indexA rfl rfl Try.underlying124 sz_123 (by omega) (by omega) (show _ = 4 from rfl)) ?_
  refine H_one 7 rfl (by kernel_rfl) rfl (op_store1 2 0 rfl rfl rfl sz_123 rfl (Nat.le_of_ble_eq_true rfl) ?_)
  refine ⟨hsub (.cons _ (.cons _ (.cons _ (.refl _)))), ?_⟩
  refine H_done (by kernel_rfl) ?_
  refine C_seq (C_region (LY rfl (y_assign rfl) (L_nil (C_block ?_))))
  refine C_loop (ι := Nat) (fun j => [(0, .int .i64 (K : Int)), (7, ptr B1), (8, .int .i64 0), (9, .int .i64 (j : Int))]) (fun j => [(B1, .cells [slB B2 K, (.slice none 0 0), .bool true, .bool true, slB B3 K, (.slice none 0 0)].toArray 126)] :: lseg 32 B2 (List.replicate K (secOf 0)) :: sseg 4 B3 (mix true j K) :: H) (fun j => j ≤ K) (fun j => K - j) 0 (Nat.zero_le _) ⟨rfl, rfl, rfl, rfl, trivial⟩ (by rw [mix_0]; exact ((hsub (.cons_cons _ (.cons_cons _ (.cons_cons _ (.refl _))))).trans (hsub_pick [2, 1, 0] rfl))) (fun j hj => ?_)
  skip
  refine C_seq (C_seq (C_region (LY rfl (y_move rfl) (LY rfl (y_move rfl) (LY rfl (y_lss rfl rfl) (L_nil ?_))))))
  refine C_cond rfl (fun hc1 => ?_) (fun hc1 => ?_)
  · replace hc1 : j < K := by have := of_decide_eq_true hc1; omega
    refine C_skip (C_seq (C_block ?_))
    refine C_regionH ([(B1, .cells [slB B2 K, (.slice none 0 0), .bool true, .bool true, slB B3 K, (.slice none 0 0)].toArray 126)] :: H) (by kernel_rfl) ?_
    refine HY 0 rfl (((hsub (.cons_cons _ (.cons _ (.cons _ (.refl _))))).trans (hsub_pick [0] rfl))) rfl (y_move rfl) ?_
    refine HY 1 rfl (((hsub (.cons_cons _ (.cons _ (.cons _ (.refl _))))).trans (hsub_pick [0] rfl))) rfl (y_move rfl) ?_
    refine HY 2 rfl (((hsub (.cons_cons _ (.cons _ (.cons _ (.refl _))))).trans (hsub_pick [0] rfl))) rfl (y_nilCheck rfl) ?_
    refine HY 3 rfl (((hsub (.cons_cons _ (.cons _ (.cons _ (.refl _))))).trans (hsub_pick [0] rfl))) rfl (y_fieldAddr rfl fl_126_2) ?_
    refine HY 4 rfl (((hsub (.cons_cons _ (.cons _ (.cons _ (.refl _))))).trans (hsub_pick [0] rfl))) rfl (y_indexA rfl rfl Try.underlying124 sz_123 (by omega) (by omega) (show _ = 4 from rfl)) ?_
    refine HY 5 rfl (((hsub (.cons_cons _ (.cons _ (.cons _ (.refl _))))).trans (hsub_pick [0] rfl))) rfl (y_load rfl ag_123 (sees 0 0 rfl) rfl) ?_
    refine HY 6 rfl (((hsub (.cons_cons _ (.cons _ (.cons _ (.refl _))))).trans (hsub_pick [0] rfl))) rfl (y_move rfl) ?_
    refine HY 7 rfl (((hsub (.cons_cons _ (.cons _ (.cons _ (.refl _))))).trans (hsub_pick [0] rfl))) rfl (y_move rfl) ?_
    refine HY 8 rfl (((hsub (.cons_cons _ (.cons _ (.cons _ (.refl _))))).trans (hsub_pick [0] rfl))) rfl (y_move rfl) ?_
    refine HY 9 rfl (((hsub (.cons_cons _ (.cons _ (.cons _ (.refl _))))).trans (hsub_pick [0] rfl))) rfl (y_nilCheck rfl) ?_
    refine HY 10 rfl (((hsub (.cons_cons _ (.cons _ (.cons _ (.refl _))))).trans (hsub_pick [0] rfl))) rfl (y_fieldAddr rfl fl_126_1) ?_
    refine HY 11 rfl (((hsub (.cons_cons _ (.cons _ (.cons _ (.refl _))))).trans (hsub_pick [0] rfl))) rfl (y_indexA rfl rfl Try.underlying62 sz_4 (by omega) (by omega) (show _ = 2 from rfl)) ?_
    refine HY 12 rfl (((hsub (.cons_cons _ (.cons _ (.cons _ (.refl _))))).trans (hsub_pick [0] rfl))) rfl (y_load rfl ag_4 (sees 0 0 rfl) rfl) ?_
    refine HY 13 rfl (((hsub (.cons_cons _ (.cons _ (.cons _ (.refl _))))).trans (hsub_pick [0] rfl))) rfl (y_indexS rfl rfl Try.underlying123 sz_4 (by omega) (by omega) (show _ = j from by simp)) ?_
    refine H_one 14 rfl (by kernel_rfl) rfl (op_store1 2 0 rfl rfl rfl sz_4 rfl (by rw [bls_len, mix_len (by omega)]; omega) ?_)
    rw [bls_set, mix_set hc1]
    refine ⟨((hsub (.cons_cons _ (.cons _ (.cons _ (.refl _))))).trans (hsub_pick [0] rfl)), ?_⟩
    refine H_done (by kernel_rfl) ?_
    refine C_region (LY rfl (y_move rfl) ?_)
    refine LY rfl (y_add rfl rfl (wi64 (by omega) (by omega))) ?_
    refine LY rfl (y_assign rfl) (L_nil ?_)
    exact ⟨j + 1, by omega, by omega, ⟨rfl, rfl, rfl, rfl, trivial⟩, ((hsub (.cons_cons _ (.cons_cons _ (.cons_cons _ (.refl _))))).trans (hsub_pick [0, 0, 0] rfl))⟩
  · rw [show j = K from by have := of_decide_eq_false hc1; omega, mix_all]
    refine C_exit (C_region (LY rfl (y_move rfl) ?_))
    refine LY rfl (y_add rfl rfl (show _ = (1 : Int) from rfl)) ?_
    refine LY rfl (y_assign rfl) (L_nil ?_)
    refine In_round ?_
    refine C_seq (C_seq (C_region (LY rfl (y_move rfl) (LY rfl (y_lss rfl rfl) (L_nil (C_cond_t rfl (C_skip (C_seq (C_block (C_seq ?_))))))))))
    refine C_regionH H (by kernel_rfl) ?_
    refine HY 0 rfl (hsub (.cons _ (.cons _ (.cons _ (.refl _))))) rfl (y_move rfl) ?_
    refine HY 1 rfl (hsub (.cons _ (.cons _ (.cons _ (.refl _))))) rfl (y_move rfl) ?_
    refine HY 2 rfl (hsub (.cons _ (.cons _ (.cons _ (.refl _))))) rfl (y_move rfl) ?_
    refine HY 4 rfl (hsub (.cons _ (.cons _ (.cons _ (.refl _))))) rfl (y_nilCheck rfl) ?_
    refine HY 5 rfl (hsub (.cons _ (.cons _ (.cons _ (.refl _))))) rfl (y_fieldAddr rfl fl_126_0) ?_
    refine H_one 3 rfl (by kernel_rfl) rfl (op_makeSlice rfl Try.underlying40 by_32 sz_32 zl_32 rfl (by omega) (by omega) (by omega) rfl (fun B4 => ?_))
    simp only [Int.toNat_natCast]
    rw [zsecs]
    refine ⟨hsub (.cons _ (.cons _ (.cons _ (.cons _ (.refl _))))), ?_⟩
    refine HY 6 rfl (hsub (.cons _ (.cons _ (.cons _ (.cons _ (.refl _)))))) rfl (y_indexA rfl rfl Try.underlying122 sz_40 (by omega) (by omega) (show _ = 1 from rfl)) ?_
    refine H_one 7 rfl (by kernel_rfl) rfl (op_store1 1 0 rfl rfl rfl sz_40 rfl (Nat.le_of_ble_eq_true rfl) ?_)
    refine ⟨hsub (.cons _ (.cons _ (.cons _ (.cons _ (.refl _))))), ?_⟩
    refine H_done (by kernel_rfl) ?_
    refine C_seq ?_
    refine C_regionH H (by kernel_rfl) ?_
    refine HY 0 rfl (hsub (.cons _ (.cons _ (.cons _ (.cons _ (.refl _)))))) rfl (y_move rfl) ?_
    refine HY 1 rfl (hsub (.cons _ (.cons _ (.cons _ (.cons _ (.refl _)))))) rfl (y_move rfl) ?_
    refine HY 2 rfl (hsub (.cons _ (.cons _ (.cons _ (.cons _ (.refl _)))))) rfl (y_move rfl) ?_
    refine HY 4 rfl (hsub (.cons _ (.cons _ (.cons _ (.cons _ (.refl _)))))) rfl (y_nilCheck rfl) ?_
    refine HY 5 rfl (hsub (.cons _ (.cons _ (.cons _ (.cons _ (.refl _)))))) rfl (y_fieldAddr rfl fl_126_2) ?_
    refine H_one 3 rfl (by kernel_rfl) rfl (op_makeSlice rfl Try.underlying123 by_4 sz_4 zl_4 rfl (by omega) (by omega) (by omega) rfl (fun B5 => ?_))
    simp only [Int.toNat_natCast]
    rw [zbls]
    refine ⟨hsub (.cons _ (.cons _ (.cons _ (.cons _ (.cons _ (.refl _)))))), ?_⟩
    refine HY 6 rfl (hsub (.cons _ (.cons _ (.cons _ (.cons _ (.cons _ (.refl _))))))) rfl (y_indexA rfl rfl Try.underlying124 sz_123 (by omega) (by omega) (show _ = 5 from rfl)) ?_
    refine H_one 7 rfl (by kernel_rfl) rfl (op_store1 2 0 rfl rfl rfl sz_123 rfl (Nat.le_of_ble_eq_true rfl) ?_)
    refine ⟨hsub (.cons _ (.cons _ (.cons _ (.cons _ (.cons _ (.refl _)))))), ?_⟩
    refine H_done (by kernel_rfl) ?_
    refine C_seq (C_region (LY rfl (y_assign rfl) (L_nil (C_block ?_))))
    refine C_loop (ι := Nat) (fun j => [(0, .int .i64 (K : Int)), (7, ptr B1), (8, .int .i64 1), (9, .int .i64 (j : Int))]) (fun j => [(B1, .cells [slB B2 K, slB B4 K, .bool true, .bool true, slB B3 K, slB B5 K].toArray 126)] :: lseg 32 B2 (List.replicate K (secOf 0)) :: lseg 32 B4 (List.replicate K (secOf 0)) :: sseg 4 B3 (List.replicate K true) :: sseg 4 B5 (mix true j K) :: H) (fun j => j ≤ K) (fun j => K - j) 0 (Nat.zero_le _) ⟨rfl, rfl, rfl, rfl, trivial⟩ (by rw [mix_0]; exact ((hsub (.cons_cons _ (.cons_cons _ (.cons_cons _ (.cons_cons _ (.cons_cons _ (.refl _))))))).trans (hsub_pick [2, 2, 1, 1, 0] rfl))) (fun j hj => ?_)
    skip
    refine C_seq (C_seq (C_region (LY rfl (y_move rfl) (LY rfl (y_move rfl) (LY rfl (y_lss rfl rfl) (L_nil ?_))))))
    refine C_cond rfl (fun hc1 => ?_) (fun hc1 => ?_)
    · replace hc1 : j < K := by have := of_decide_eq_true hc1; omega
      refine C_skip (C_seq (C_block ?_))
      refine C_regionH ([(B1, .cells [slB B2 K, slB B4 K, .bool true, .bool true, slB B3 K, slB B5 K].toArray 126)] :: H) (by kernel_rfl) ?_
      refine HY 0 rfl (((hsub (.cons_cons _ (.cons _ (.cons _ (.cons _ (.cons _ (.refl _))))))).trans (hsub_pick [0] rfl))) rfl (y_move rfl) ?_
      refine HY 1 rfl (((hsub (.cons_cons _ (.cons _ (.cons _ (.cons _ (.cons _ (.refl _))))))).trans (hsub_pick [0] rfl))) rfl (y_move rfl) ?_
      refine HY 2 rfl (((hsub (.cons_cons _ (.cons _ (.cons _ (.cons _ (.cons _ (.refl _))))))).trans (hsub_pick [0] rfl))) rfl (y_nilCheck rfl) ?_
      refine HY 3 rfl (((hsub (.cons_cons _ (.cons _ (.cons _ (.cons _ (.cons _ (.refl _))))))).trans (hsub_pick [0] rfl))) rfl (y_fieldAddr rfl fl_126_2) ?_
      refine HY 4 rfl (((hsub (.cons_cons _ (.cons _ (.cons _ (.cons _ (.cons _ (.refl _))))))).trans (hsub_pick [0] rfl))) rfl (y_indexA rfl rfl Try.underlying124 sz_123 (by omega) (by omega) (show _ = 5 from rfl)) ?_
      refine HY 5 rfl (((hsub (.cons_cons _ (.cons _ (.cons _ (.cons _ (.cons _ (.refl _))))))).trans (hsub_pick [0] rfl))) rfl (y_load rfl ag_123 (sees 0 0 rfl) rfl) ?_
      refine HY 6 rfl (((hsub (.cons_cons _ (.cons _ (.cons _ (.cons _ (.cons _ (.refl _))))))).trans (hsub_pick [0] rfl))) rfl (y_move rfl) ?_
      refine HY 7 rfl (((hsub (.cons_cons _ (.cons _ (.cons _ (.cons _ (.cons _ (.refl _))))))).trans (hsub_pick [0] rfl))) rfl (y_move rfl) ?_
      refine HY 8 rfl (((hsub (.cons_cons _ (.cons _ (.cons _ (.cons _ (.cons _ (.refl _))))))).trans (hsub_pick [0] rfl))) rfl (y_move rfl) ?_
      refine HY 9 rfl (((hsub (.cons_cons _ (.cons _ (.cons _ (.cons _ (.cons _ (.refl _))))))).trans (hsub_pick [0] rfl))) rfl (y_nilCheck rfl) ?_
      refine HY 10 rfl (((hsub (.cons_cons _ (.cons _ (.cons _ (.cons _ (.cons _ (.refl _))))))).trans (hsub_pick [0] rfl))) rfl (y_fieldAddr rfl fl_126_1) ?_
      refine HY 11 rfl (((hsub (.cons_cons _ (.cons _ (.cons _ (.cons _ (.cons _ (.refl _))))))).trans (hsub_pick [0] rfl))) rfl (y_indexA rfl rfl Try.underlying62 sz_4 (by omega) (by omega) (show _ = 3 from rfl)) ?_
      refine HY 12 rfl (((hsub (.cons_cons _ (.cons _ (.cons _ (.cons _ (.cons _ (.refl _))))))).trans (hsub_pick [0] rfl))) rfl (y_load rfl ag_4 (sees 0 0 rfl) rfl) ?_
      refine HY 13 rfl (((hsub (.cons_cons _ (.cons _ (.cons _ (.cons _ (.cons _ (.refl _))))))).trans (hsub_pick [0] rfl))) rfl (y_indexS rfl rfl Try.underlying123 sz_4 (by omega) (by omega) (show _ = j from by simp)) ?_
      refine H_one 14 rfl (by kernel_rfl) rfl (op_store1 4 0 rfl rfl rfl sz_4 rfl (by rw [bls_len, mix_len (by omega)]; omega) ?_)
      rw [bls_set, mix_set hc1]
      refine ⟨((hsub (.cons_cons _ (.cons _ (.cons _ (.cons _ (.cons _ (.refl _))))))).trans (hsub_pick [0] rfl)), ?_⟩
      refine H_done (by kernel_rfl) ?_
      refine C_region (LY rfl (y_move rfl) ?_)
      refine LY rfl (y_add rfl rfl (wi64 (by omega) (by omega))) ?_
      refine LY rfl (y_assign rfl) (L_nil ?_)
      exact ⟨j + 1, by omega, by omega, ⟨rfl, rfl, rfl, rfl, trivial⟩, ((hsub (.cons_cons _ (.cons_cons _ (.cons_cons _ (.cons_cons _ (.cons_cons _ (.refl _))))))).trans (hsub_pick [0, 0, 0, 0, 0] rfl))⟩
    · rw [show j = K from by have := of_decide_eq_false hc1; omega, mix_all]
      refine C_exit (C_region (LY rfl (y_move rfl) ?_))
      refine LY rfl (y_add rfl rfl (show _ = (2 : Int) from rfl)) ?_
      refine LY rfl (y_assign rfl) (L_nil ?_)
      refine In_round ?_
      refine C_seq (C_seq (C_region (LY rfl (y_move rfl) (LY rfl (y_lss rfl rfl) (L_nil (C_cond_f rfl (C_exit (C_seq (C_region (LY rfl (y_move rfl) (LY rfl (y_assign rfl) (L_nil (C_ret ?_)))))))))))))
      refine B_ret (rv_tmp rfl rv_nil) ((hsub (.cons_cons _ (.cons_cons _ (.cons_cons _ (.cons_cons _ (.cons_cons _ (.refl _))))))).trans (hsub_pick [0, 0, 0, 0, 0] rfl)) ?_
      exact ⟨⟨B1, B2, B4, B3, B5⟩, rfl, rfl⟩

theorem rnew_s {w0 : World} {H : Hp} {K : Nat} (hK : K ≤ 4096) (a b : Bool) : FnS Try.prog w0 37 #[.int .i64 (K : Int), .bool a, .bool b] H (fun e H' => ∃ o : Ro, e = .returned (ptr o.b) ∧ H' = (o.hp 126 32 4 K (Rm.new K a b) H)) := by
  cases a <;> cases b
  · exact rnew_ff hK
  · exact rnew_ft hK
  · exact rnew_tf hK
  · exact rnew_tt hK

end Go.Proofs.Ytjjiclgbdenkkaa

/- walks (own work; the walks' lines by a program of this repo). -/
set_option linter.unusedVariables false
set_option linter.unusedSimpArgs false
set_option maxRecDepth 20000
namespace Go.Proofs.Ytjjiclgbdenkkaa
open Go.Sl
attribute [local irreducible] BodyQ WpC WpL WpS WpH OpW FnS



set_option maxHeartbeats 4000000 in

theorem plays_s {w0 : World} {H : Hp} {pa : Option Addr} {ca : Nat} {ll : List ActM} (hA : Holds w0 H pa (acts ll)) (n : Nat) (hn : n < 256) (a b : Bool) : FnS Try.prog w0 7 #[.int .u8 (n : Int), .agg [Value.bool a, .bool b].toArray, .slice pa ll.length ca] H (fun e H' => e = .returned (.bool true)) := by
  refine FnS_intro (n := 65) (rs := [.tmp 6]) (vs := [.int .u8 (n : Int), .agg [Value.bool a, .bool b].toArray, .slice pa ll.length ca]) Try.func7 rfl Try.ntmps7 rfl rfl ?_
  refine C_seq (C_region ?_)
  refine L_op rfl (op_box rfl rfl rfl (fun B1 => ?_))
  refine LY rfl (y_assign rfl) (L_nil (C_seq (C_seq (C_region ?_))))
  refine L_op rfl (op_call rfl rfl (fun a w => Try.call15 a w) rfl ?_)
  refine awake09_s.mono ?_
  rintro _ _ ⟨rfl, e⟩
  obtain rfl := e.symm
  clear e
  refine ⟨_, rfl, ?_⟩
  refine LY rfl (y_not rfl) (L_nil (C_cond_f rfl (C_skip (C_seq (C_seq (C_region (LY rfl (y_move rfl) ?_)))))))
  refine LY rfl (y_lenS rfl rfl Try.underlying50) ?_
  refine LY rfl (y_gtr rfl rfl) ?_
  refine L_nil ?_
  refine C_cond rfl (fun hc1 => ?_) (fun hc1 => ?_)
  · replace hc1 := of_decide_eq_true hc1
    refine C_seq (C_region (LY rfl (y_assign rfl) (L_nil (C_ret ?_))))
    refine B_ret (rv_tmp rfl rv_nil) (HSub.refl _) ?_
    first | rfl | exact ret_bool (by simp)
  · replace hc1 := of_decide_eq_false hc1
    refine C_skip (C_seq ?_)
    obtain ⟨k, hk⟩ : ∃ k, n % 13 = k := ⟨_, rfl⟩
    have hk13 : k < 13 := by omega
    have hK : k ≤ 4096 := by omega
    refine C_region (LY rfl (y_move rfl) ?_)
    refine LY rfl (y_conv rfl us_5 Try.underlying3 (wi64 (by omega) (by omega))) ?_
    refine LY rfl (y_rem rfl rfl (by decide) (show _ = ((k : Nat) : Int) from by rw [← hk]; rfl)) ?_
    refine LY rfl (y_assign rfl) (L_nil (C_seq (C_region (LY rfl (y_move rfl) ?_))))
    refine L_op rfl (op_call rfl rfl (fun a w => Try.call16 a w) rfl ?_)
    refine (new_ln (k : Int)).mono ?_
    rintro _ _ ⟨d91, p91, hG91, ha91, hP91, rfl, rfl⟩
    have hA91 : d91.a = Ab.new k := by rw [ha91] <;> (rw [szOf_nat (by omega)])
    have hb91 : d91.b = d91.b := rfl
    refine ⟨_, rfl, ?_⟩
    refine LY rfl (y_move rfl) ?_
    refine L_op rfl (op_call rfl rfl (fun a w => Try.call16 a w) rfl ?_)
    refine ((newnil_d hG91 rfl (k : Int)).sub (hsub_pick [0, 0, 0, 0, 0] rfl)).mono ?_
    rintro _ _ ⟨by81, D81, h81, rfl, rfl⟩
    replace h81 := h81.to (B := ⟨Ab.new k, Ab.new k, q0, some q0⟩) (by rw [hA91, hP91] <;> (rw [szOf_nat (by omega)]))
    have hv1 : Vw ⟨Ab.new k, Ab.new k, q0, some q0⟩ k (List.replicate k (secOf 0)) (List.replicate k (secOf 0)) 0 0 := Vw.new (by omega) (some q0) (.inr rfl)
    refine ⟨_, rfl, ?_⟩
    refine LY rfl (y_buildA (vs := [(0, _), (1, _)]) rfl Try.underlying51 sz_24 zl_51 rfl) ?_
    refine L_op rfl (op_alloc zl_51 rfl (fun B2 => ?_))
    refine L_op rfl (op_store 0 0 rfl rfl rfl sz_51 rfl rfl (ones rfl) (by decide) ?_)
    skip
    refine L_nil (C_seq (C_region ?_))
    refine LY rfl (y_indexA rfl rfl Try.underlying51 sz_24 (by omega) (by omega) (show _ = 0 from rfl)) ?_
    refine LY rfl (y_load rfl ag_24 (sees 0 0 rfl) rfl) ?_
    refine LY rfl (y_indexA rfl rfl Try.underlying62 sz_4 (by omega) (by omega) (show _ = 0 from rfl)) ?_
    refine LY rfl (y_load rfl ag_4 (sees 2 0 rfl) rfl) ?_
    refine L_op rfl (op_call rfl rfl (fun a w => Try.call33 a w) rfl ?_)
    refine (FnS.sub (hsub_pick [1] rfl) (out_d h81 false a)).mono ?_
    rintro _ _ ⟨rfl, DhTa, hTa, rfl⟩
    refine ⟨_, rfl, ?_⟩
    refine L_nil (C_seq (C_region ?_))
    refine LY rfl (y_indexA rfl rfl Try.underlying51 sz_24 (by omega) (by omega) (show _ = 1 from rfl)) ?_
    refine LY rfl (y_load rfl ag_24 (sees 1 0 rfl) rfl) ?_
    refine LY rfl (y_indexA rfl rfl Try.underlying62 sz_4 (by omega) (by omega) (show _ = 1 from rfl)) ?_
    refine LY rfl (y_load rfl ag_4 (sees 2 0 rfl) rfl) ?_
    refine L_op rfl (op_call rfl rfl (fun a w => Try.call33 a w) rfl ?_)
    refine (FnS.sub (hsub_pick [0] rfl) (out_d hTa true b)).mono ?_
    rintro _ _ ⟨rfl, DhTb, hTb, rfl⟩
    refine ⟨_, rfl, ?_⟩
    refine L_nil (C_seq (C_region ?_))
    refine LY rfl (y_indexA rfl rfl Try.underlying51 sz_24 (by omega) (by omega) (show _ = 0 from rfl)) ?_
    refine LY rfl (y_load rfl ag_24 (sees 1 0 rfl) rfl) ?_
    refine LY rfl (y_indexA rfl rfl Try.underlying51 sz_24 (by omega) (by omega) (show _ = 1 from rfl)) ?_
    refine LY rfl (y_load rfl ag_24 (sees 1 0 rfl) rfl) ?_
    refine L_op rfl (op_call rfl rfl (fun a w => Try.call17 a w) rfl ?_)
    refine (FnS.sub (hsub_pick [0] rfl) (new_r (f := 18) (cap := []) (a := a) (b := b) (K := k) hTb hK ⟨rfl, rfl, fun q hq => by obtain rfl := (Option.some.inj hq); exact ⟨rfl, rfl⟩⟩ rfl rfl)).mono ?_
    rintro _ _ ⟨mb, m, hS, rfl, rfl⟩
    refine ⟨_, rfl, ?_⟩
    refine LY rfl (y_assign rfl) (L_nil (C_seq (C_region (LY rfl (y_move rfl) ?_))))
    refine LY rfl (y_indexA rfl rfl Try.underlying62 sz_4 (by omega) (by omega) (show _ = 0 from rfl)) ?_
    refine LY rfl (y_load rfl ag_4 (sees 3 0 rfl) rfl) ?_
    refine LY rfl (y_indexA rfl rfl Try.underlying62 sz_4 (by omega) (by omega) (show _ = 1 from rfl)) ?_
    refine LY rfl (y_load rfl ag_4 (sees 3 0 rfl) rfl) ?_
    refine L_op rfl (op_call rfl rfl (fun a w => Try.call37 a w) rfl ?_)
    refine (rnew_s hK a b).mono ?_
    rintro _ _ ⟨ro, rfl, rfl⟩
    refine ⟨_, rfl, ?_⟩
    refine LY rfl (y_assign rfl) (L_nil (C_seq (C_seq (C_region (LY rfl (y_move rfl) ?_)))))
    refine L_op rfl (op_call rfl rfl (fun a w => Try.call36 a w) rfl ?_)
    refine (FnS.sub (hsub_pick [5] rfl) (len_r hS)).mono ?_
    rintro _ _ ⟨rfl, rfl⟩
    refine ⟨_, rfl, ?_⟩
    refine LY rfl (y_move rfl) ?_
    refine LY rfl (y_nei rfl rfl) ?_
    refine L_nil ?_
    refine C_cond rfl (fun hc2 => absurd hc2 (by simp)) (fun hc2 => ?_)
    refine C_skip (C_seq (C_seq (C_region (LY rfl (y_assign rfl) (L_nil (C_block ?_))))))
    refine C_loop (ι := Duo × Da × Mi × Rm × Nat) (fun i => [(2, .slice pa ll.length ca), (8, ptr B2), (9, ptr mb), (10, ptr ro.b), (11, .int .i64 (i.2.2.2.2 : Int))]) (fun i => i.2.2.1.seg 110 :: i.1.seg dt :: (ro.hp 126 32 4 k i.2.2.2.1 ([(B2, .cells [ptr d91.b, ptr by81].toArray 51)] :: H))) (fun i => Mq dt (.func (.func 18) #[] ([] : List Value).toArray) i.1 i.2.1 i.2.2.1 i.2.2.2.1 k 0 0 mb d91.b by81 p91.b ∧ i.2.2.2.2 ≤ ll.length) (fun i => ll.length - i.2.2.2.2) (_, _, _, _, 0) ⟨hS, Nat.zero_le _⟩ ⟨rfl, rfl, rfl, rfl, rfl, trivial⟩ ((hsub (.cons_cons _ (.cons_cons _ (.cons_cons _ (.cons_cons _ (.cons_cons _ (.cons_cons _ (.cons_cons _ (.cons_cons _ (.cons _ (.refl _))))))))))).trans (hsub_pick [0, 5, 0, 0, 0, 0, 0, 0] rfl)) (fun i hi => ?_)
    obtain ⟨D, A, m, r, i⟩ := i
    obtain ⟨hS, hi⟩ := hi
    simp only at hS hi
    dsimp only
    refine C_seq (C_seq (C_region (LY rfl (y_move rfl) (LY rfl (y_move rfl) ?_))))
    refine LY rfl (y_lenS rfl rfl Try.underlying50) ?_
    refine LY rfl (y_lss rfl rfl) (L_nil ?_)
    refine C_cond rfl (fun hc3 => ?_) (fun hc3 => ?_)
    · replace hc3 : i < ll.length := by have := of_decide_eq_true hc3; omega
      obtain ⟨ac, hx⟩ : ∃ a, ll[i]? = some a := ⟨_, List.getElem?_eq_getElem hc3⟩
      obtain ⟨b1, o1, l1, T1, fr1, rfl, hs1, hle1, hv1⟩ := hA (by rw [acts_len]; omega)
      rw [acts_len] at hle1
      refine C_skip (C_seq (C_block (C_seq ?_)))
      refine C_regionH ([(B2, .cells [ptr d91.b, ptr by81].toArray 51)] :: H) (by kernel_rfl) ?_
      refine HY 0 rfl (((hsub (.cons_cons _ (.cons _ (.cons _ (.cons _ (.cons _ (.cons _ (.cons _ (.cons _ (.refl _)))))))))).trans (hsub_pick [7] rfl))) rfl (y_move rfl) ?_
      refine HY 1 rfl (((hsub (.cons_cons _ (.cons _ (.cons _ (.cons _ (.cons _ (.cons _ (.cons _ (.cons _ (.refl _)))))))))).trans (hsub_pick [7] rfl))) rfl (y_move rfl) ?_
      refine HY 2 rfl (((hsub (.cons_cons _ (.cons _ (.cons _ (.cons _ (.cons _ (.cons _ (.cons _ (.cons _ (.refl _)))))))))).trans (hsub_pick [7] rfl))) rfl (y_indexS rfl rfl Try.underlying50 sz_54 (by omega) (by omega) (show _ = o1 + i * 5 from by simp)) ?_
      refine HY 3 rfl (((hsub (.cons_cons _ (.cons _ (.cons _ (.cons _ (.cons _ (.cons _ (.cons _ (.cons _ (.refl _)))))))))).trans (hsub_pick [7] rfl))) rfl (y_loadA rfl ag_54 sz_54 (hs1.up) (by omega) (act_at hv1 hx)) ?_
      refine HY 4 rfl (((hsub (.cons_cons _ (.cons _ (.cons _ (.cons _ (.cons _ (.cons _ (.cons _ (.cons _ (.refl _)))))))))).trans (hsub_pick [7] rfl))) rfl (y_move rfl) ?_
      refine HY 5 rfl (((hsub (.cons_cons _ (.cons _ (.cons _ (.cons _ (.cons _ (.cons _ (.cons _ (.cons _ (.refl _)))))))))).trans (hsub_pick [7] rfl))) rfl (y_loadA rfl ag_51 sz_51 (sees 0 0 rfl) (Nat.le_of_ble_eq_true rfl) rfl) ?_
      refine HY 6 rfl (((hsub (.cons_cons _ (.cons _ (.cons _ (.cons _ (.cons _ (.cons _ (.cons _ (.cons _ (.refl _)))))))))).trans (hsub_pick [7] rfl))) rfl (y_move rfl) ?_
      refine H_one 7 rfl (by kernel_rfl) rfl (op_call rfl rfl (fun a w => Try.call38 a w) rfl ?_)
      refine (FnS.sub (hsub_pick [0, 0, 0, 0, 0, 0, 0] rfl) (play_s hS hK ac)).mono ?_
      rintro _ _ ⟨rfl, D2, A2, m2, hS2, rfl⟩
      refine ⟨_, rfl, ?_⟩
      refine ⟨((hsub (.cons_cons _ (.cons _ (.cons _ (.cons _ (.cons _ (.cons _ (.cons _ (.cons _ (.refl _)))))))))).trans (hsub_pick [7] rfl)), ?_⟩
      refine HY 8 rfl (((hsub (.cons_cons _ (.cons _ (.cons _ (.cons _ (.cons _ (.cons _ (.cons _ (.cons _ (.refl _)))))))))).trans (hsub_pick [7] rfl))) rfl (y_not rfl) ?_
      refine H_done (by kernel_rfl) ?_
      refine C_cond_f rfl (C_skip (C_region (LY rfl (y_move rfl) ?_)))
      refine LY rfl (y_add rfl rfl (wi64 (by omega) (by omega))) ?_
      refine LY rfl (y_assign rfl) (L_nil ?_)
      exact ⟨(_, _, _, _, i + 1), ⟨hS2, by simp only; omega⟩, by simp only; omega, ⟨rfl, rfl, rfl, rfl, rfl, trivial⟩, ((hsub (.cons_cons _ (.cons_cons _ (.cons_cons _ (.cons_cons _ (.cons_cons _ (.cons_cons _ (.cons_cons _ (.cons_cons _ (.refl _)))))))))).trans (hsub_pick [0, 0, 0, 0, 0, 0, 0, 0] rfl))⟩
    · replace hc3 := of_decide_eq_false hc3
      refine C_exit (C_seq (C_region (LY rfl (y_assign rfl) (L_nil (C_ret ?_)))))
      refine B_ret (rv_tmp rfl rv_nil) (HSub.refl _) ?_
      first | rfl | exact ret_bool (by simp)

end Go.Proofs.Ytjjiclgbdenkkaa

/- From a row's reading of a slice of bytes to what a walk asks (own work). -/
set_option linter.unusedVariables false
namespace Go.Sl
open Go.RowKit
end Go.Sl

/- What a row tells of its arguments, for flat types (integers, bools, structs and arrays of these) and slices of them (own work). -/
set_option linter.unusedVariables false
set_option linter.unusedSimpArgs false
namespace Go.Sl
open Go.RowKit
inductive Sc where
  | int (k : IntKind)
  | bool
def Sc.fit : Sc → Value → Prop
  | .int k, v => ∃ n, v = .int k n ∧ (Lit.int k n).wf = true
  | .bool, v => ∃ b, v = .bool b
/-- A row of cells fits a row of scalars. -/
def Fits : List Sc → List Value → Prop
  | [], [] => True
  | s :: ss, v :: vs => s.fit v ∧ Fits ss vs
  | _, _ => False
theorem Fits.length : ∀ {ss : List Sc} {vs : List Value}, Fits ss vs → vs.length = ss.length
  | [], [], _ => rfl
  | _ :: _, _ :: _, h => by simp [Fits.length h.2]
  | [], _ :: _, h => h.elim
  | _ :: _, [], h => h.elim
theorem Fits.append : ∀ {ss tt : List Sc} {vs us : List Value}, Fits ss vs → Fits tt us → Fits (ss ++ tt) (vs ++ us)
  | [], _, [], _, _, h => h
  | _ :: _, _, _ :: _, _, h, k => ⟨h.1, Fits.append h.2 k⟩
  | [], _, _ :: _, _, h, _ => h.elim
  | _ :: _, _, [], _, h, _ => h.elim
theorem Fits.cons_iff {s : Sc} {ss : List Sc} {vs : List Value} : Fits (s :: ss) vs ↔ ∃ v us, vs = v :: us ∧ s.fit v ∧ Fits ss us := by
  cases vs with
  | nil => simp [Fits]
  | cons v us =>
    refine ⟨fun h => ⟨v, us, rfl, h⟩, fun ⟨v', us', e, h⟩ => ?_⟩
    obtain ⟨rfl, rfl⟩ := List.cons.inj e
    exact h
theorem Fits.nil_iff {vs : List Value} : Fits [] vs ↔ vs = [] := by cases vs <;> simp [Fits]
theorem Fits.split : ∀ {ss tt : List Sc} {vs : List Value}, Fits (ss ++ tt) vs → ∃ a b, vs = a ++ b ∧ Fits ss a ∧ Fits tt b
  | [], _, vs, h => ⟨[], vs, rfl, trivial, h⟩
  | s :: ss, tt, vs, h => by
    obtain ⟨v, us, rfl, h1, h2⟩ := Fits.cons_iff.1 h
    obtain ⟨a, b, rfl, h3, h4⟩ := Fits.split (ss := ss) h2
    exact ⟨v :: a, b, rfl, ⟨h1, h3⟩, h4⟩
/-- A row of bytes. -/
theorem Fits.bytes : ∀ {n : Nat} {vs : List Value}, Fits (List.replicate n (.int .u8)) vs → ∃ u : List UInt8, vs = bs u ∧ u.length = n
  | 0, vs, h => ⟨[], by rw [Fits.nil_iff.1 h]; rfl, rfl⟩
  | n + 1, vs, h => by
    rw [List.replicate_succ] at h
    obtain ⟨v, us, rfl, ⟨m, rfl, hm⟩, h2⟩ := Fits.cons_iff.1 h
    obtain ⟨u, rfl, rfl⟩ := Fits.bytes h2
    have hb := bounds_u8 hm
    refine ⟨UInt8.ofNat m.toNat :: u, ?_, rfl⟩
    rw [u8_of_int (by omega) (by omega)]; rfl
def flatF (P : Program) (g : TypeId → Option (List Sc)) : List Field → Nat → Option (List Sc)
  | [], _ => some []
  | f :: fs, off => if f.offset = off then (g f.type).bind fun l => if P.cellsOf f.type = l.length then (flatF P g fs (off + l.length)).map (l ++ ·) else none else none
def flatT (P : Program) : Nat → TypeId → Option (List Sc)
  | 0, _ => none
  | d + 1, t => match P.underlying t with
    | some (.int k) => some [.int k]
    | some .bool => some [.bool]
    | some (.struct fs) => (flatF P (flatT P d) fs.toList 0).bind fun l => if P.cellsOf t = l.length then some l else none
    | some (.array n e) => (flatT P d e).bind fun l => if P.cellsOf e = l.length ∧ P.cellsOf t = n * l.length then some (List.replicate n l).flatten else none
    | _ => none
theorem flatF_fits {P : Program} {g : TypeId → Option (List Sc)} {cs : List Value} : ∀ {fs : List Field} {off : Nat} {sh : List Sc}, flatF P g fs off = some sh →
    (∀ f ∈ fs, ∀ l, g f.type = some l → Fits l ((cs.drop f.offset).take (P.cellsOf f.type))) → Fits sh ((cs.drop off).take sh.length)
  | [], off, sh, h, _ => by
    simp only [flatF, Option.some.injEq] at h
    subst h; simp [Fits]
  | f :: fs, off, sh, h, hf => by
    unfold flatF at h
    split at h
    · rename_i ho
      cases hg : g f.type with
      | none => simp [hg] at h
      | some l =>
        rw [hg] at h; simp only [Option.bind_some] at h
        split at h
        · rename_i hc
          cases hr : flatF P g fs (off + l.length) with
          | none => simp [hr] at h
          | some l2 =>
            simp only [hr, Option.map_some, Option.some.injEq] at h
            subst h
            have h1 := hf f (by simp) l hg
            have h2 := flatF_fits hr (fun f' hf' => hf f' (by simp [hf']))
            rw [ho, hc] at h1
            have h3 := Fits.append h1 h2
            rw [List.length_append, List.take_add, List.drop_drop]
            exact h3
        · cases h
    · cases h
section
variable {H : Type} {enc : TypeId × Value → H} {P : Program} {w : World} {base : Nat} {spare : Nat → Bool} {held : Bool}
theorem arr_fits {l : List Sc} : ∀ {n : Nat} {cs : List Value}, cs.length = n * l.length → (∀ i, i < n → Fits l ((cs.drop (i * l.length)).take l.length)) → Fits (List.replicate n l).flatten cs
  | 0, cs, h, _ => by simp at h; subst h; simp [Fits]
  | n + 1, cs, h, hi => by
    rw [Nat.add_mul, Nat.one_mul] at h
    have h0 := hi 0 (by omega)
    rw [Nat.zero_mul, List.drop_zero] at h0
    have h1 := arr_fits (l := l) (n := n) (cs := cs.drop l.length) (by simp; omega) (fun i hi' => by
      have := hi (i + 1) (by omega)
      rw [List.drop_drop, show l.length + i * l.length = (i + 1) * l.length from by rw [Nat.add_mul, Nat.one_mul, Nat.add_comm]]
      exact this)
    have h2 := Fits.append h0 h1
    rw [List.take_append_drop] at h2
    rw [List.replicate_succ, List.flatten_cons]
    exact h2
theorem flat_trod : ∀ {d : Nat} {t : TypeId} {sh : List Sc}, flatT P d t = some sh → ∀ {fuel : Nat} {cs : List Value} {x : DataW H × List MemPlace}, DataW.trod enc P w base spare held fuel t cs = some x → Fits sh cs
  | 0, _, _, h, _, _, _, _ => by simp [flatT] at h
  | d + 1, t, sh, h, fuel, cs, x, hx => by
    unfold flatT at h
    split at h
    · rename_i k hu
      obtain ⟨n, rfl, _, hw⟩ := DataW.trod_int hu hx
      simp only [Option.some.injEq] at h; subst h
      exact ⟨⟨n, rfl, hw⟩, trivial⟩
    · rename_i hu
      obtain ⟨b, rfl, _⟩ := DataW.trod_bool hu hx
      simp only [Option.some.injEq] at h; subst h
      exact ⟨⟨b, rfl⟩, trivial⟩
    · rename_i fs hu
      obtain ⟨xs, n, _, _, hl, hlen, hf⟩ := DataW.trod_struct hu hx
      cases hF : flatF P (flatT P d) fs.toList 0 with
      | none => simp [hF] at h
      | some l =>
        simp only [hF, Option.bind_some] at h
        split at h
        · rename_i hc
          simp only [Option.some.injEq] at h; subst h
          have := flatF_fits (cs := cs) hF (fun f hfm l' hl' => by
            obtain ⟨i, hi, rfl⟩ := List.getElem_of_mem hfm
            have h1 := hf i _ (by rw [← Array.getElem?_toList]; exact List.getElem?_eq_getElem hi)
            have h2 : i < xs.length := by rw [hlen]; simpa using hi
            rw [List.getElem?_eq_getElem h2] at h1
            exact flat_trod hl' h1)
          rw [List.drop_zero, List.take_of_length_le (by omega)] at this
          exact this
        · cases h
    · rename_i n e hu
      obtain ⟨xs, m, _, _, hl, hlen, hf⟩ := DataW.trod_array hu hx
      cases hF : flatT P d e with
      | none => simp [hF] at h
      | some l =>
        simp only [hF, Option.bind_some] at h
        split at h
        · rename_i hc
          simp only [Option.some.injEq] at h; subst h
          refine arr_fits (by rw [hl, hc.2]) (fun i hi => ?_)
          have h1 := hf i hi
          have h2 : i < xs.length := by omega
          rw [List.getElem?_eq_getElem h2, hc.1] at h1
          exact flat_trod hF h1
        · cases h
    · cases h
/-- A flat struct or array as an argument. -/
theorem flat_agg {d : Nat} {t : TypeId} {sh : List Sc} {v : Value} {D : DataW H} {ps : List MemPlace} (h : flatT P d t = some sh) (hv : ∃ cs, v = .agg cs) (hT : DataW.Trod enc P w base spare held t v D ps) : ∃ cs, v = .agg cs.toArray ∧ Fits sh cs := by
  obtain ⟨cs, rfl⟩ := hv
  obtain ⟨fuel, hf⟩ := hT
  exact ⟨cs.toList, by simp, flat_trod h hf⟩
theorem okWide_agg {r : Reach} {b0 : Nat} {t : TypeId} {v : Value} (ht : isAggT P t = true) (h : Value.okWide P w r b0 t v) : ∃ cs, v = .agg cs := by
  unfold Value.okWide at h
  unfold isAggT at ht
  split at h
  · obtain ⟨cs, rfl, _⟩ := h; exact ⟨cs, rfl⟩
  · obtain ⟨cs, rfl, _⟩ := h; exact ⟨cs, rfl⟩
  · rename_i h1 h2
    cases hu : P.underlying t with
    | none => simp [hu] at ht
    | some dd =>
      cases dd with
      | struct fs => exact absurd hu (h1 fs)
      | array n e => exact absurd hu (h2 n e)
      | _ => simp [hu] at ht
/-- What is told of a slice that came in. -/
def InS (w : World) (sh : List Sc) (a : Option Addr) (len cap : Nat) : Prop :=
  (a = none ∧ len = 0 ∧ cap = 0) ∨ ∃ (x : Addr), a = some x ∧ len ≤ cap ∧ cap ≤ maxLen ∧
    (0 < len → ∃ (b off : Nat) (l : List Value) (T : TypeId) (fr : Nat × Nat), x = ⟨b, off, none⟩ ∧ w.heap[b]? = some (.cells l.toArray T fr) ∧ off + len * sh.length ≤ l.length ∧
      ∀ i, i < len → Fits sh ((l.drop (off + i * sh.length)).take sh.length))
theorem cell_block {w : World} {b off : Nat} {spot : Option Nat} {v : Value} (h : w.cell? ⟨b, off, spot⟩ = some v) : spot = none ∧ ∃ (l : List Value) (T : TypeId) (fr : Nat × Nat), w.heap[b]? = some (.cells l.toArray T fr) := by
  have hs : spot = none := by
    unfold World.cell? at h
    cases spot with
    | none => rfl
    | some s => split at h <;> simp at h
  subst hs
  refine ⟨rfl, ?_⟩
  cases hb : w.heap[b]? with
  | none => simp [World.cell?, hb] at h
  | some o =>
    cases o with
    | cells c T fr => exact ⟨c.toList, T, fr, by simp⟩
    | _ => simp [World.cell?, hb] at h
theorem flat_slice {d : Nat} {t e : TypeId} {sh : List Sc} {a : Option Addr} {len cap : Nat} {D : DataW H} {ps : List MemPlace} (ht : P.underlying t = some (.slice e)) (h : flatT P d e = some sh) (hc : P.cellsOf e = sh.length) (hp : 0 < sh.length)
    (hT : DataW.Trod enc P w base (fun _ => true) held t (.slice a len cap) D ps) : InS w sh a len cap := by
  obtain ⟨fuel, hf⟩ := hT
  rcases Go.Deep.open_slice ht hf with ⟨hcs, _⟩ | ⟨x, len', cap', m, n, DD, Pl, hcs, _, hl, hm, hmm, _, hx⟩
  · simp [Value.cells] at hcs
    exact .inl hcs
  · simp [Value.cells] at hcs
    obtain ⟨rfl, rfl, rfl⟩ := hcs
    refine .inr ⟨x, rfl, hl, hm, fun hpos => ?_⟩
    simp only [if_true] at hmm
    subst hmm
    rw [hc] at hx
    obtain ⟨b, off, spot⟩ := x
    obtain ⟨cs1, f1, f2⟩ := hx 0 (by omega)
    obtain ⟨_, f3, f4⟩ := World.cells?_some f1
    have f5 := f4 0 hp
    rw [List.getElem?_eq_getElem (by omega), show (Addr.add (Addr.add ⟨b, off, spot⟩ (0 * sh.length)) 0) = ⟨b, off, spot⟩ from by simp [Addr.add]] at f5
    obtain ⟨rfl, l, T, fr, hb⟩ := cell_block f5
    have hcell : ∀ i, i < len → ∃ cs', cs'.length = sh.length ∧ Fits sh cs' ∧ ∀ j, j < sh.length → w.cell? ⟨b, off + (i * sh.length + j), none⟩ = cs'[j]? := fun i hi => by
      obtain ⟨cs', h1, h2⟩ := hx i (by omega)
      obtain ⟨_, h3, h4⟩ := World.cells?_some h1
      exact ⟨cs', h3, flat_trod h h2, fun j hj => by have := h4 j hj; rw [addr_add, addr_add] at this; simpa [Nat.add_assoc] using this⟩
    have hget : ∀ i, i < len → ∀ j, j < sh.length → ∃ v, l[off + (i * sh.length + j)]? = some v ∧ w.cell? ⟨b, off + (i * sh.length + j), none⟩ = some v := fun i hi j hj => by
      obtain ⟨cs', h1, h2, h3⟩ := hcell i hi
      have h4 := h3 j hj
      rw [List.getElem?_eq_getElem (by omega)] at h4
      refine ⟨_, ?_, h4⟩
      simpa [World.cell?, hb] using h4
    have hle : off + len * sh.length ≤ l.length := by
      obtain ⟨v, h1, _⟩ := hget (len - 1) (by omega) (sh.length - 1) (by omega)
      have h2 := (List.getElem?_eq_some_iff.1 h1).1
      have h3 : (len - 1) * sh.length + sh.length = len * sh.length := by
        rw [← Nat.succ_mul]; congr 1; omega
      omega
    refine ⟨b, off, l, T, fr, rfl, hb, hle, fun i hi => ?_⟩
    obtain ⟨cs', h1, h2, h3⟩ := hcell i hi
    have : (l.drop (off + i * sh.length)).take sh.length = cs' := by
      apply List.ext_getElem?
      intro j
      by_cases hj : j < sh.length
      · rw [List.getElem?_take_of_lt hj, List.getElem?_drop, ← h3 j hj]
        obtain ⟨v, k1, k2⟩ := hget i hi j hj
        rw [k2, Nat.add_assoc, k1]
      · have hc : i * sh.length + sh.length ≤ len * sh.length := by
          rw [← Nat.succ_mul]; exact Nat.mul_le_mul_right _ hi
        rw [List.getElem?_eq_none (by simp; omega), List.getElem?_eq_none (by omega)]
    rw [this]; exact h2
/-- The same, told as one row of elements. -/
theorem inS_rows {w : World} {sh : List Sc} {α : Type} {f : α → List Value} (hf : ∀ cs, Fits sh cs → ∃ x, cs = f x) : ∀ {len : Nat} {l : List Value} {off : Nat}, off + len * sh.length ≤ l.length →
    (∀ i, i < len → Fits sh ((l.drop (off + i * sh.length)).take sh.length)) → ∃ xs : List α, xs.length = len ∧ (l.drop off).take (len * sh.length) = (xs.map f).flatten
  | 0, l, off, _, _ => ⟨[], rfl, by simp⟩
  | len + 1, l, off, hl, h => by
    have h0 := h 0 (by omega)
    rw [Nat.zero_mul, Nat.add_zero] at h0
    obtain ⟨x, hx⟩ := hf _ h0
    rw [Nat.succ_mul] at hl
    obtain ⟨xs, h1, h2⟩ := inS_rows (w := w) hf (len := len) (l := l) (off := off + sh.length) (by omega) (fun i hi => by
      have := h (i + 1) (by omega)
      rw [Nat.succ_mul] at this
      rw [show off + sh.length + i * sh.length = off + (i * sh.length + sh.length) from by omega]
      exact this)
    refine ⟨x :: xs, by simp [h1], ?_⟩
    rw [Nat.succ_mul, Nat.add_comm (len * sh.length), List.take_add, List.drop_drop, hx, h2]
    rfl
end
end Go.Sl

/- Rows over a slice of acts (own work). -/
set_option linter.unusedVariables false
namespace Go.Sl
open Go.RowKit
theorem fits_act {cs : List Value} (h : Fits [.int .i64, .int .i64, .int .u8, .int .u8, .bool] cs) : ∃ x, cs = acells x := by
  obtain ⟨_, _, rfl, ⟨a, rfl, _⟩, g1⟩ := Fits.cons_iff.1 h
  obtain ⟨_, _, rfl, ⟨b, rfl, _⟩, g2⟩ := Fits.cons_iff.1 g1
  obtain ⟨_, _, rfl, ⟨c, rfl, hc⟩, g3⟩ := Fits.cons_iff.1 g2
  obtain ⟨_, _, rfl, ⟨d, rfl, hd⟩, g4⟩ := Fits.cons_iff.1 g3
  obtain ⟨_, _, rfl, ⟨e, rfl⟩, g5⟩ := Fits.cons_iff.1 g4
  obtain rfl := Fits.nil_iff.1 g5
  have hb := bounds_u8 hc
  have hb2 := bounds_u8 hd
  refine ⟨⟨a, b, UInt8.ofNat c.toNat, UInt8.ofNat d.toNat, e⟩, ?_⟩
  simp
  omega
theorem in_acts {w : World} {a : Option Addr} {len cap : Nat} (h : InS w [.int .i64, .int .i64, .int .u8, .int .u8, .bool] a len cap) : ∃ ds : List ActM, len = ds.length ∧ Holds w [] a (acts ds) := by
  rcases h with ⟨rfl, rfl, rfl⟩ | ⟨x, rfl, h1, h2, h3⟩
  · exact ⟨[], rfl, fun hp => by simp [acts] at hp⟩
  · rcases Nat.eq_zero_or_pos len with rfl | hp
    · exact ⟨[], rfl, fun hp => by simp [acts] at hp⟩
    · obtain ⟨b, off, l, T, fr, rfl, hb, hl, hf⟩ := h3 hp
      obtain ⟨ds, hd, ht⟩ := inS_rows (w := w) (f := acells) (fun cs hc => fits_act hc) hl hf
      refine ⟨ds, hd.symm, fun _ => ⟨b, off, l, T, fr, rfl, sees_old hb, ?_, ?_⟩⟩
      · rw [acts_len, hd]; exact hl
      · rw [acts_len, hd]; exact ht
end Go.Sl

