/- Own work: texts MpW, MfW, VwW, MnW, VnW, Sc, put together. -/
import Derived.Test.YtighbhplfjjgpaaMCompactCarriedb
/- walks (own work; the walks' lines by a program of this repo). -/
set_option linter.unusedVariables false
set_option linter.unusedSimpArgs false
set_option maxRecDepth 20000
namespace Go.Proofs.Ytighbhplfjjgpaa
open Go.Sl
attribute [local irreducible] BodyQ WpC WpL WpS WpH OpW FnS


theorem put_no {w0 : World} {H : Hp} {D : Duo} {A : Da} {bp : Nat} {m : Mi} (h : Two dt D A m.bx m.bys bp) (n : Int) (s : Sec) (hs : s.length = 128) {fa : Nat} {cap : List Value} {ask : Da → Bool → Bool} (hask : AskAt Try.prog dt 111 w0 H m bp fa cap ask) (hQ : ∀ i, (A.dev i).Q.length < 99990) (hn : m.has n = false) : FnS Try.prog w0 70 #[ptr m.b, .int .i64 n, .agg (bs s).toArray, .func (.func fa) #[] cap.toArray] (m.seg 111 :: D.seg dt :: H) (fun e H' => e = .returned (.int .i64 (putE m A ask n s)) ∧ ∃ D', Two dt D' (putDa m A ask n s) m.bx m.bys bp ∧ H' = (putm m A ask n s).seg 111 :: D'.seg dt :: H) := by
  refine FnS_intro (n := 77) (rs := [.tmp 8]) (vs := [ptr m.b, .int .i64 n, .agg (bs s).toArray, .func (.func fa) #[] cap.toArray]) Try.func70 rfl Try.ntmps70 rfl rfl ?_
  refine C_seq (C_region ?_)
  refine L_op rfl (op_box rfl rfl rfl (fun B1 => ?_))
  refine LY rfl (y_assign rfl) (L_nil (C_seq (C_seq (C_region (LY rfl (y_move rfl) (LY rfl (y_move rfl) ?_))))))
  refine L_op rfl (op_call rfl rfl (fun a w => Try.call74 a w) rfl ?_)
  refine (has_m _ (sees 1 0 rfl)).mono ?_
  rintro _ _ ⟨rfl, rfl⟩
  rw [hn]
  refine ⟨_, rfl, ?_⟩
  refine LY rfl (y_not rfl) (L_nil (C_cond_t rfl (C_seq (C_region (LY rfl (y_assign rfl) (L_nil (C_ret ?_)))))))
  refine B_ret (rv_tmp rfl rv_nil) (hsub (.cons _ (.refl _))) ?_
  exact ⟨ret_int (by simp [putE, hn]), D, h.to (by simp [putDa, hn]), by rw [show putm m A ask n s = m from by simp [putm, hn]]⟩

set_option maxHeartbeats 4000000 in

theorem put_yes {w0 : World} {H : Hp} {D : Duo} {A : Da} {bp : Nat} {m : Mi} (h : Two dt D A m.bx m.bys bp) (n : Int) (s : Sec) (hs : s.length = 128) {fa : Nat} {cap : List Value} {ask : Da → Bool → Bool} (hask : AskAt Try.prog dt 111 w0 H m bp fa cap ask) (hQ : ∀ i, (A.dev i).Q.length < 99990) (hn : m.has n = true) : FnS Try.prog w0 70 #[ptr m.b, .int .i64 n, .agg (bs s).toArray, .func (.func fa) #[] cap.toArray] (m.seg 111 :: D.seg dt :: H) (fun e H' => e = .returned (.int .i64 (putE m A ask n s)) ∧ ∃ D', Two dt D' (putDa m A ask n s) m.bx m.bys bp ∧ H' = (putm m A ask n s).seg 111 :: D'.seg dt :: H) := by
  refine FnS_intro (n := 77) (rs := [.tmp 8]) (vs := [ptr m.b, .int .i64 n, .agg (bs s).toArray, .func (.func fa) #[] cap.toArray]) Try.func70 rfl Try.ntmps70 rfl rfl ?_
  refine C_seq (C_region ?_)
  refine L_op rfl (op_box rfl rfl rfl (fun B1 => ?_))
  refine LY rfl (y_assign rfl) (L_nil (C_seq (C_seq (C_region (LY rfl (y_move rfl) (LY rfl (y_move rfl) ?_))))))
  refine L_op rfl (op_call rfl rfl (fun a w => Try.call74 a w) rfl ?_)
  refine (has_m _ (sees 1 0 rfl)).mono ?_
  rintro _ _ ⟨rfl, rfl⟩
  rw [hn]
  refine ⟨_, rfl, ?_⟩
  refine LY rfl (y_not rfl) (L_nil (C_cond_f rfl (C_skip (C_seq (C_region ?_)))))
  refine L_op rfl (op_alloc zl_155 rfl (fun B2 => ?_))
  refine L_nil (C_seq (C_seq (C_region (LY rfl (y_move rfl) (L_nil (C_block ?_))))))
  refine C_loopIn (In_round ?_)
  refine C_seq (C_region (LY rfl (y_lss rfl rfl) (L_nil (C_seq (C_cond_t rfl (C_skip (C_seq (C_block (C_seq (C_region (LY rfl (y_move rfl) (LY rfl (y_assign rfl) (L_nil (C_seq (C_region (LY rfl (y_move rfl) (LY rfl (y_move rfl) (LY rfl (y_nilCheck rfl) (LY rfl (y_fieldAddr rfl fl_111_0) ?_)))))))))))))))))))
  refine LY rfl (y_indexA rfl rfl Try.underlying109 sz_108 (by omega) (by omega) (show _ = 0 from rfl)) ?_
  refine LY rfl (y_assign rfl) (L_nil (C_seq (C_region (LY rfl (y_move rfl) (LY rfl (y_nilCheck rfl) ?_)))))
  refine LY rfl (y_loadA rfl ag_108 sz_108 (sees 2 0 rfl) (Nat.le_of_ble_eq_true rfl) rfl) ?_
  refine L_op rfl (op_call rfl rfl (fun a w => Try.call51 a w) rfl ?_)
  refine ((there_d h false).sub (hsub_pick [3] rfl)).mono ?_
  rintro _ _ ⟨rfl, rfl⟩
  refine ⟨_, rfl, ?_⟩
  refine L_nil ?_
  refine C_cond rfl (fun hc2 => ?_) (fun hc2 => ?_)
  · skip
    refine C_regionH H (by kernel_rfl) ?_
    refine HY 0 rfl (hsub (.cons _ (.cons _ (.cons _ (.cons _ (.refl _)))))) rfl (y_move rfl) ?_
    refine HY 1 rfl (hsub (.cons _ (.cons _ (.cons _ (.cons _ (.refl _)))))) rfl (y_move rfl) ?_
    refine HY 2 rfl (hsub (.cons _ (.cons _ (.cons _ (.cons _ (.refl _)))))) rfl (y_move rfl) ?_
    refine H_one 3 rfl (by kernel_rfl) rfl (op_call (f := fa) (first := []) (cap := cap) rfl rfl hask.1 rfl ?_)
    refine FnS.mono (FnS.sub (hsub_pick [3, 0] rfl) (hask.2 false _ _ _ h (hsub (.cons _ (.cons _ (.refl _)))))) ?_
    rintro _ _ ⟨rfl, rfl⟩
    refine ⟨_, rfl, ?_⟩
    refine ⟨hsub (.cons _ (.cons _ (.cons _ (.cons _ (.refl _))))), ?_⟩
    refine HY 4 rfl (hsub (.cons _ (.cons _ (.cons _ (.cons _ (.refl _)))))) rfl (y_not rfl) ?_
    refine HY 5 rfl (hsub (.cons _ (.cons _ (.cons _ (.cons _ (.refl _)))))) rfl (y_move rfl) ?_
    refine H_case 34 rfl (fun hg9_6 => ?_) (fun hg9_6 => ?_)
    · skip
      refine HK 6 rfl (hsub (.cons _ (.cons _ (.cons _ (.cons _ (.refl _)))))) rfl ?_
      refine HK 7 rfl (hsub (.cons _ (.cons _ (.cons _ (.cons _ (.refl _)))))) rfl ?_
      refine HK 8 rfl (hsub (.cons _ (.cons _ (.cons _ (.cons _ (.refl _)))))) rfl ?_
      refine HK 9 rfl (hsub (.cons _ (.cons _ (.cons _ (.cons _ (.refl _)))))) rfl ?_
      refine HK 10 rfl (hsub (.cons _ (.cons _ (.cons _ (.cons _ (.refl _)))))) rfl ?_
      refine HK 11 rfl (hsub (.cons _ (.cons _ (.cons _ (.cons _ (.refl _)))))) rfl ?_
      refine HK 12 rfl (hsub (.cons _ (.cons _ (.cons _ (.cons _ (.refl _)))))) rfl ?_
      refine HK 13 rfl (hsub (.cons _ (.cons _ (.cons _ (.cons _ (.refl _)))))) rfl ?_
      refine HY 14 rfl (hsub (.cons _ (.cons _ (.cons _ (.cons _ (.refl _)))))) rfl (y_pick_t rfl rfl) ?_
      refine HY 15 rfl (hsub (.cons _ (.cons _ (.cons _ (.cons _ (.refl _)))))) rfl (y_indexA rfl rfl Try.underlying155 sz_4 (by omega) (by omega) (show _ = 0 from rfl)) ?_
      refine H_one 16 rfl (by kernel_rfl) rfl (op_store1 2 0 rfl rfl rfl sz_4 rfl (Nat.le_of_ble_eq_true rfl) ?_)
      refine ⟨hsub (.cons _ (.cons _ (.cons _ (.cons _ (.refl _))))), ?_⟩
      refine H_done (by kernel_rfl) ?_
      refine C_region ?_
      refine LY rfl (y_add rfl rfl (show _ = (1 : Int) from rfl)) ?_
      refine LY rfl (y_move rfl) (L_nil ?_)
      refine In_round ?_
      refine C_seq (C_region (LY rfl (y_lss rfl rfl) (L_nil (C_seq (C_cond_t rfl (C_skip (C_seq (C_block (C_seq (C_region (LY rfl (y_move rfl) (LY rfl (y_assign rfl) (L_nil (C_seq (C_region (LY rfl (y_move rfl) (LY rfl (y_move rfl) (LY rfl (y_nilCheck rfl) (LY rfl (y_fieldAddr rfl fl_111_0) ?_)))))))))))))))))))
      refine LY rfl (y_indexA rfl rfl Try.underlying109 sz_108 (by omega) (by omega) (show _ = 2 from rfl)) ?_
      refine LY rfl (y_assign rfl) (L_nil (C_seq (C_region (LY rfl (y_move rfl) (LY rfl (y_nilCheck rfl) ?_)))))
      refine LY rfl (y_loadA rfl ag_108 sz_108 (sees 0 0 rfl) (Nat.le_of_ble_eq_true rfl) rfl) ?_
      refine L_op rfl (op_call rfl rfl (fun a w => Try.call51 a w) rfl ?_)
      refine ((there_d h true).sub (hsub_pick [1] rfl)).mono ?_
      rintro _ _ ⟨rfl, rfl⟩
      refine ⟨_, rfl, ?_⟩
      refine L_nil ?_
      refine C_cond rfl (fun hc2 => ?_) (fun hc2 => ?_)
      · skip
        refine C_regionH H (by kernel_rfl) ?_
        refine HY 0 rfl (hsub (.cons _ (.cons _ (.cons _ (.cons _ (.refl _)))))) rfl (y_move rfl) ?_
        refine HY 1 rfl (hsub (.cons _ (.cons _ (.cons _ (.cons _ (.refl _)))))) rfl (y_move rfl) ?_
        refine HY 2 rfl (hsub (.cons _ (.cons _ (.cons _ (.cons _ (.refl _)))))) rfl (y_move rfl) ?_
        refine H_one 3 rfl (by kernel_rfl) rfl (op_call (f := fa) (first := []) (cap := cap) rfl rfl hask.1 rfl ?_)
        refine FnS.mono (FnS.sub (hsub_pick [1, 0] rfl) (hask.2 true _ _ _ h (hsub (.cons _ (.cons _ (.refl _)))))) ?_
        rintro _ _ ⟨rfl, rfl⟩
        refine ⟨_, rfl, ?_⟩
        refine ⟨hsub (.cons _ (.cons _ (.cons _ (.cons _ (.refl _))))), ?_⟩
        refine HY 4 rfl (hsub (.cons _ (.cons _ (.cons _ (.cons _ (.refl _)))))) rfl (y_not rfl) ?_
        refine HY 5 rfl (hsub (.cons _ (.cons _ (.cons _ (.cons _ (.refl _)))))) rfl (y_move rfl) ?_
        refine H_case 34 rfl (fun hg9_6 => ?_) (fun hg9_6 => ?_)
        · skip
          refine HK 6 rfl (hsub (.cons _ (.cons _ (.cons _ (.cons _ (.refl _)))))) rfl ?_
          refine HK 7 rfl (hsub (.cons _ (.cons _ (.cons _ (.cons _ (.refl _)))))) rfl ?_
          refine HK 8 rfl (hsub (.cons _ (.cons _ (.cons _ (.cons _ (.refl _)))))) rfl ?_
          refine HK 9 rfl (hsub (.cons _ (.cons _ (.cons _ (.cons _ (.refl _)))))) rfl ?_
          refine HK 10 rfl (hsub (.cons _ (.cons _ (.cons _ (.cons _ (.refl _)))))) rfl ?_
          refine HK 11 rfl (hsub (.cons _ (.cons _ (.cons _ (.cons _ (.refl _)))))) rfl ?_
          refine HK 12 rfl (hsub (.cons _ (.cons _ (.cons _ (.cons _ (.refl _)))))) rfl ?_
          refine HK 13 rfl (hsub (.cons _ (.cons _ (.cons _ (.cons _ (.refl _)))))) rfl ?_
          refine HY 14 rfl (hsub (.cons _ (.cons _ (.cons _ (.cons _ (.refl _)))))) rfl (y_pick_t rfl rfl) ?_
          refine HY 15 rfl (hsub (.cons _ (.cons _ (.cons _ (.cons _ (.refl _)))))) rfl (y_indexA rfl rfl Try.underlying155 sz_4 (by omega) (by omega) (show _ = 1 from rfl)) ?_
          refine H_one 16 rfl (by kernel_rfl) rfl (op_store1 2 0 rfl rfl rfl sz_4 rfl (Nat.le_of_ble_eq_true rfl) ?_)
          refine ⟨hsub (.cons _ (.cons _ (.cons _ (.cons _ (.refl _))))), ?_⟩
          refine H_done (by kernel_rfl) ?_
          refine C_region ?_
          refine LY rfl (y_add rfl rfl (show _ = (2 : Int) from rfl)) ?_
          refine LY rfl (y_move rfl) (L_nil ?_)
          refine In_round ?_
          refine C_seq (C_region (LY rfl (y_lss rfl rfl) (L_nil (C_seq (C_cond_f rfl (C_exit (C_seq (C_seq (C_region ?_)))))))))
          refine LY rfl (y_indexA rfl rfl Try.underlying155 sz_4 (by omega) (by omega) (show _ = 0 from rfl)) ?_
          refine LY rfl (y_load rfl ag_4 (sees 2 0 rfl) rfl) (LY rfl (y_not rfl) (LY rfl (y_move rfl) (L_skip rfl rfl (L_skip rfl rfl (L_skip rfl rfl (LY rfl (y_pick_f rfl rfl) (L_nil (C_cond_f rfl (C_skip (C_seq (C_seq (C_region (LY rfl (y_move rfl) (L_nil (C_block ?_)))))))))))))))
          refine C_loopIn (In_round ?_)
          refine C_seq (C_region (LY rfl (y_lss rfl rfl) (L_nil (C_seq (C_cond_t rfl (C_skip (C_seq (C_block (C_seq (C_region (LY rfl (y_move rfl) (LY rfl (y_assign rfl) (L_nil (C_seq (C_region (LY rfl (y_move rfl) ?_))))))))))))))))
          refine LY rfl (y_indexA rfl rfl Try.underlying155 sz_4 (by omega) (by omega) (show _ = 0 from rfl)) ?_
          refine LY rfl (y_load rfl ag_4 (sees 2 0 rfl) rfl) (L_nil (C_cond_t rfl (C_region (LY rfl (y_move rfl) (LY rfl (y_move rfl) (LY rfl (y_nilCheck rfl) (LY rfl (y_fieldAddr rfl fl_111_0) ?_)))))))
          refine LY rfl (y_indexA rfl rfl Try.underlying109 sz_108 (by omega) (by omega) (show _ = 0 from rfl)) ?_
          refine LY rfl (y_fieldAddr rfl fl_108_1) (LY rfl (y_load rfl ag_106 (sees 0 0 rfl) rfl) (LY rfl (y_move rfl) ?_))
          refine L_op rfl (op_delete 0 1 rfl rfl rfl Try.underlying106 Try.underlying3 rfl rfl ?_)
          refine L_nil (C_region ?_)
          refine LY rfl (y_add rfl rfl (show _ = (1 : Int) from rfl)) ?_
          refine LY rfl (y_move rfl) (L_nil ?_)
          refine In_round ?_
          refine C_seq (C_region (LY rfl (y_lss rfl rfl) (L_nil (C_seq (C_cond_t rfl (C_skip (C_seq (C_block (C_seq (C_region (LY rfl (y_move rfl) (LY rfl (y_assign rfl) (L_nil (C_seq (C_region (LY rfl (y_move rfl) ?_))))))))))))))))
          refine LY rfl (y_indexA rfl rfl Try.underlying155 sz_4 (by omega) (by omega) (show _ = 1 from rfl)) ?_
          refine LY rfl (y_load rfl ag_4 (sees 2 0 rfl) rfl) (L_nil (C_cond_t rfl (C_region (LY rfl (y_move rfl) (LY rfl (y_move rfl) (LY rfl (y_nilCheck rfl) (LY rfl (y_fieldAddr rfl fl_111_0) ?_)))))))
          refine LY rfl (y_indexA rfl rfl Try.underlying109 sz_108 (by omega) (by omega) (show _ = 2 from rfl)) ?_
          refine LY rfl (y_fieldAddr rfl fl_108_1) (LY rfl (y_load rfl ag_106 (sees 0 0 rfl) rfl) (LY rfl (y_move rfl) ?_))
          refine L_op rfl (op_delete 0 2 rfl rfl rfl Try.underlying106 Try.underlying3 rfl rfl ?_)
          refine L_nil (C_region ?_)
          refine LY rfl (y_add rfl rfl (show _ = (2 : Int) from rfl)) ?_
          refine LY rfl (y_move rfl) (L_nil ?_)
          refine In_round ?_
          refine C_seq (C_region (LY rfl (y_lss rfl rfl) (L_nil (C_seq (C_cond_f rfl (C_exit (C_seq (C_region (LY rfl (y_assign rfl) (L_nil (C_ret ?_)))))))))))
          refine B_ret (rv_tmp rfl rv_nil) ((hsub (.cons_cons _ (.cons_cons _ (.cons _ (.cons _ (.refl _)))))).trans (hsub_pick [0, 0] rfl)) ?_
          have e0 : putD A ask n s false = true := by simp_all [putD, pd]
          have e1 : putD A ask n s true = true := by simp_all [putD, pd, pA]
          have ea : putA A ask n s = A := by simp_all [putA, pA]
          have em : putm m A ask n s = m.mark n true true := by simp [putm, hn, e0, e1]
          exact ⟨ret_int (by simp [putE, hn, e0, e1]), D, h.to (by simp [putDa, hn, ea]), by rw [em]; rfl⟩
        · skip
          refine HY 6 rfl (hsub (.cons _ (.cons _ (.cons _ (.cons _ (.refl _)))))) rfl (y_move rfl) ?_
          refine HY 7 rfl (hsub (.cons _ (.cons _ (.cons _ (.cons _ (.refl _)))))) rfl (y_nilCheck rfl) ?_
          refine HY 8 rfl (hsub (.cons _ (.cons _ (.cons _ (.cons _ (.refl _)))))) rfl (y_fieldAddr rfl fl_108_0) ?_
          refine HY 10 rfl (hsub (.cons _ (.cons _ (.cons _ (.cons _ (.refl _)))))) rfl (y_move rfl) ?_
          refine H_two 9 11 rfl rfl (by kernel_rfl) rfl rfl ?_ ?_
          · refine op_y (y_load rfl ag_54 (sees 0 0 rfl) rfl) rfl ?_
            refine ⟨hsub (.cons _ (.cons _ (.cons _ (.cons _ (.refl _))))), ?_⟩
            refine H_one 11 rfl (by kernel_rfl) rfl (op_y (y_loadA rfl ag_114 sz_114 (sees 3 0 rfl) (by rw [bs_length, hs]; decide) (bs_whole0 _ hs)) rfl ?_)
            refine ⟨hsub (.cons _ (.cons _ (.cons _ (.cons _ (.refl _))))), ?_⟩
            refine H_one 12 rfl (by kernel_rfl) rfl (op_call rfl rfl (fun a w => Try.call82 a w) rfl ?_)
            refine ((write_d h true n s hs (by have := hQ true; omega)).sub (hsub_pick [1] rfl)).mono ?_
            rintro _ _ ⟨rfl, D1, h1, rfl⟩
            refine ⟨_, rfl, ?_⟩
            refine ⟨hsub (.cons _ (.cons _ (.cons _ (.cons _ (.refl _))))), ?_⟩
            refine HY 13 rfl (hsub (.cons _ (.cons _ (.cons _ (.cons _ (.refl _)))))) rfl (y_eqi rfl rfl) ?_
            refine H_case 42 rfl (fun hg9_14 => ?_) (fun hg9_14 => ?_)
            · skip
              refine HY 14 rfl (hsub (.cons _ (.cons _ (.cons _ (.cons _ (.refl _)))))) rfl (y_pick_f rfl rfl) ?_
              refine HY 15 rfl (hsub (.cons _ (.cons _ (.cons _ (.cons _ (.refl _)))))) rfl (y_indexA rfl rfl Try.underlying155 sz_4 (by omega) (by omega) (show _ = 1 from rfl)) ?_
              refine H_one 16 rfl (by kernel_rfl) rfl (op_store1 2 0 rfl rfl rfl sz_4 rfl (Nat.le_of_ble_eq_true rfl) ?_)
              refine ⟨hsub (.cons _ (.cons _ (.cons _ (.cons _ (.refl _))))), ?_⟩
              refine H_done (by kernel_rfl) ?_
              refine C_region ?_
              refine LY rfl (y_add rfl rfl (show _ = (2 : Int) from rfl)) ?_
              refine LY rfl (y_move rfl) (L_nil ?_)
              refine In_round ?_
              refine C_seq (C_region (LY rfl (y_lss rfl rfl) (L_nil (C_seq (C_cond_f rfl (C_exit (C_seq (C_seq (C_region ?_)))))))))
              refine LY rfl (y_indexA rfl rfl Try.underlying155 sz_4 (by omega) (by omega) (show _ = 0 from rfl)) ?_
              refine LY rfl (y_load rfl ag_4 (sees 2 0 rfl) rfl) (LY rfl (y_not rfl) (LY rfl (y_move rfl) (L_skip rfl rfl (L_skip rfl rfl (L_skip rfl rfl (LY rfl (y_pick_f rfl rfl) (L_nil (C_cond_f rfl (C_skip (C_seq (C_seq (C_region (LY rfl (y_move rfl) (L_nil (C_block ?_)))))))))))))))
              refine C_loopIn (In_round ?_)
              refine C_seq (C_region (LY rfl (y_lss rfl rfl) (L_nil (C_seq (C_cond_t rfl (C_skip (C_seq (C_block (C_seq (C_region (LY rfl (y_move rfl) (LY rfl (y_assign rfl) (L_nil (C_seq (C_region (LY rfl (y_move rfl) ?_))))))))))))))))
              refine LY rfl (y_indexA rfl rfl Try.underlying155 sz_4 (by omega) (by omega) (show _ = 0 from rfl)) ?_
              refine LY rfl (y_load rfl ag_4 (sees 2 0 rfl) rfl) (L_nil (C_cond_t rfl (C_region (LY rfl (y_move rfl) (LY rfl (y_move rfl) (LY rfl (y_nilCheck rfl) (LY rfl (y_fieldAddr rfl fl_111_0) ?_)))))))
              refine LY rfl (y_indexA rfl rfl Try.underlying109 sz_108 (by omega) (by omega) (show _ = 0 from rfl)) ?_
              refine LY rfl (y_fieldAddr rfl fl_108_1) (LY rfl (y_load rfl ag_106 (sees 1 0 rfl) rfl) (LY rfl (y_move rfl) ?_))
              refine L_op rfl (op_delete 1 1 rfl rfl rfl Try.underlying106 Try.underlying3 rfl rfl ?_)
              refine L_nil (C_region ?_)
              refine LY rfl (y_add rfl rfl (show _ = (1 : Int) from rfl)) ?_
              refine LY rfl (y_move rfl) (L_nil ?_)
              refine In_round ?_
              refine C_seq (C_region (LY rfl (y_lss rfl rfl) (L_nil (C_seq (C_cond_t rfl (C_skip (C_seq (C_block (C_seq (C_region (LY rfl (y_move rfl) (LY rfl (y_assign rfl) (L_nil (C_seq (C_region (LY rfl (y_move rfl) ?_))))))))))))))))
              refine LY rfl (y_indexA rfl rfl Try.underlying155 sz_4 (by omega) (by omega) (show _ = 1 from rfl)) ?_
              refine LY rfl (y_load rfl ag_4 (sees 2 0 rfl) rfl) (L_nil (C_cond_t rfl (C_region (LY rfl (y_move rfl) (LY rfl (y_move rfl) (LY rfl (y_nilCheck rfl) (LY rfl (y_fieldAddr rfl fl_111_0) ?_)))))))
              refine LY rfl (y_indexA rfl rfl Try.underlying109 sz_108 (by omega) (by omega) (show _ = 2 from rfl)) ?_
              refine LY rfl (y_fieldAddr rfl fl_108_1) (LY rfl (y_load rfl ag_106 (sees 1 0 rfl) rfl) (LY rfl (y_move rfl) ?_))
              refine L_op rfl (op_delete 1 2 rfl rfl rfl Try.underlying106 Try.underlying3 rfl rfl ?_)
              refine L_nil (C_region ?_)
              refine LY rfl (y_add rfl rfl (show _ = (2 : Int) from rfl)) ?_
              refine LY rfl (y_move rfl) (L_nil ?_)
              refine In_round ?_
              refine C_seq (C_region (LY rfl (y_lss rfl rfl) (L_nil (C_seq (C_cond_f rfl (C_exit (C_seq (C_region (LY rfl (y_assign rfl) (L_nil (C_ret ?_)))))))))))
              refine B_ret (rv_tmp rfl rv_nil) ((hsub (.cons_cons _ (.cons_cons _ (.cons _ (.cons _ (.refl _)))))).trans (hsub_pick [1, 0] rfl)) ?_
              have e0 : putD A ask n s false = true := by simp_all [putD, pd]
              have e1 : putD A ask n s true = true := by simp_all [putD, pd, pA]
              have ea : putA A ask n s = (A.write true n s) := by simp_all [putA, pA]
              have em : putm m A ask n s = m.mark n true true := by simp [putm, hn, e0, e1]
              exact ⟨ret_int (by simp [putE, hn, e0, e1]), D1, h1.to (by simp [putDa, hn, ea]), by rw [em]; rfl⟩
            · skip
              refine HY 14 rfl (hsub (.cons _ (.cons _ (.cons _ (.cons _ (.refl _)))))) rfl (y_pick_f rfl rfl) ?_
              refine HY 15 rfl (hsub (.cons _ (.cons _ (.cons _ (.cons _ (.refl _)))))) rfl (y_indexA rfl rfl Try.underlying155 sz_4 (by omega) (by omega) (show _ = 1 from rfl)) ?_
              refine H_one 16 rfl (by kernel_rfl) rfl (op_store1 2 0 rfl rfl rfl sz_4 rfl (Nat.le_of_ble_eq_true rfl) ?_)
              refine ⟨hsub (.cons _ (.cons _ (.cons _ (.cons _ (.refl _))))), ?_⟩
              refine H_done (by kernel_rfl) ?_
              refine C_region ?_
              refine LY rfl (y_add rfl rfl (show _ = (2 : Int) from rfl)) ?_
              refine LY rfl (y_move rfl) (L_nil ?_)
              refine In_round ?_
              refine C_seq (C_region (LY rfl (y_lss rfl rfl) (L_nil (C_seq (C_cond_f rfl (C_exit (C_seq (C_seq (C_region ?_)))))))))
              refine LY rfl (y_indexA rfl rfl Try.underlying155 sz_4 (by omega) (by omega) (show _ = 0 from rfl)) ?_
              refine LY rfl (y_load rfl ag_4 (sees 2 0 rfl) rfl) (LY rfl (y_not rfl) (LY rfl (y_move rfl) (L_skip rfl rfl (L_skip rfl rfl (L_skip rfl rfl (LY rfl (y_pick_f rfl rfl) (L_nil (C_cond_f rfl (C_skip (C_seq (C_seq (C_region (LY rfl (y_move rfl) (L_nil (C_block ?_)))))))))))))))
              refine C_loopIn (In_round ?_)
              refine C_seq (C_region (LY rfl (y_lss rfl rfl) (L_nil (C_seq (C_cond_t rfl (C_skip (C_seq (C_block (C_seq (C_region (LY rfl (y_move rfl) (LY rfl (y_assign rfl) (L_nil (C_seq (C_region (LY rfl (y_move rfl) ?_))))))))))))))))
              refine LY rfl (y_indexA rfl rfl Try.underlying155 sz_4 (by omega) (by omega) (show _ = 0 from rfl)) ?_
              refine LY rfl (y_load rfl ag_4 (sees 2 0 rfl) rfl) (L_nil (C_cond_t rfl (C_region (LY rfl (y_move rfl) (LY rfl (y_move rfl) (LY rfl (y_nilCheck rfl) (LY rfl (y_fieldAddr rfl fl_111_0) ?_)))))))
              refine LY rfl (y_indexA rfl rfl Try.underlying109 sz_108 (by omega) (by omega) (show _ = 0 from rfl)) ?_
              refine LY rfl (y_fieldAddr rfl fl_108_1) (LY rfl (y_load rfl ag_106 (sees 1 0 rfl) rfl) (LY rfl (y_move rfl) ?_))
              refine L_op rfl (op_delete 1 1 rfl rfl rfl Try.underlying106 Try.underlying3 rfl rfl ?_)
              refine L_nil (C_region ?_)
              refine LY rfl (y_add rfl rfl (show _ = (1 : Int) from rfl)) ?_
              refine LY rfl (y_move rfl) (L_nil ?_)
              refine In_round ?_
              refine C_seq (C_region (LY rfl (y_lss rfl rfl) (L_nil (C_seq (C_cond_t rfl (C_skip (C_seq (C_block (C_seq (C_region (LY rfl (y_move rfl) (LY rfl (y_assign rfl) (L_nil (C_seq (C_region (LY rfl (y_move rfl) ?_))))))))))))))))
              refine LY rfl (y_indexA rfl rfl Try.underlying155 sz_4 (by omega) (by omega) (show _ = 1 from rfl)) ?_
              refine LY rfl (y_load rfl ag_4 (sees 2 0 rfl) rfl) (L_nil (C_cond_f rfl (C_region (LY rfl (y_move rfl) (LY rfl (y_move rfl) (LY rfl (y_nilCheck rfl) (LY rfl (y_fieldAddr rfl fl_111_0) ?_)))))))
              refine LY rfl (y_indexA rfl rfl Try.underlying109 sz_108 (by omega) (by omega) (show _ = 2 from rfl)) ?_
              refine LY rfl (y_fieldAddr rfl fl_108_1) (LY rfl (y_load rfl ag_106 (sees 1 0 rfl) rfl) (LY rfl (y_move rfl) ?_))
              refine L_op rfl (op_mapUpdate 1 2 rfl rfl rfl Try.underlying106 Try.underlying3 rfl rfl ?_)
              refine L_nil (C_region ?_)
              refine LY rfl (y_add rfl rfl (show _ = (2 : Int) from rfl)) ?_
              refine LY rfl (y_move rfl) (L_nil ?_)
              refine In_round ?_
              refine C_seq (C_region (LY rfl (y_lss rfl rfl) (L_nil (C_seq (C_cond_f rfl (C_exit (C_seq (C_region (LY rfl (y_assign rfl) (L_nil (C_ret ?_)))))))))))
              refine B_ret (rv_tmp rfl rv_nil) ((hsub (.cons_cons _ (.cons_cons _ (.cons _ (.cons _ (.refl _)))))).trans (hsub_pick [1, 0] rfl)) ?_
              have e0 : putD A ask n s false = true := by simp_all [putD, pd]
              have e1 : putD A ask n s true = false := by simp_all [putD, pd, pA]
              have ea : putA A ask n s = (A.write true n s) := by simp_all [putA, pA]
              have em : putm m A ask n s = m.mark n true false := by simp [putm, hn, e0, e1]
              exact ⟨ret_int (by simp [putE, hn, e0, e1]), D1, h1.to (by simp [putDa, hn, ea]), by rw [em]; rfl⟩
          · refine op_y (y_loadA rfl ag_114 sz_114 (sees 3 0 rfl) (by rw [bs_length, hs]; decide) (bs_whole0 _ hs)) rfl ?_
            refine ⟨hsub (.cons _ (.cons _ (.cons _ (.cons _ (.refl _))))), ?_⟩
            refine H_one 9 rfl (by kernel_rfl) rfl (op_y (y_load rfl ag_54 (sees 0 0 rfl) rfl) rfl ?_)
            refine ⟨hsub (.cons _ (.cons _ (.cons _ (.cons _ (.refl _))))), ?_⟩
            refine H_one 12 rfl (by kernel_rfl) rfl (op_call rfl rfl (fun a w => Try.call82 a w) rfl ?_)
            refine ((write_d h true n s hs (by have := hQ true; omega)).sub (hsub_pick [1] rfl)).mono ?_
            rintro _ _ ⟨rfl, D2, h2, rfl⟩
            refine ⟨_, rfl, ?_⟩
            refine ⟨hsub (.cons _ (.cons _ (.cons _ (.cons _ (.refl _))))), ?_⟩
            refine HY 13 rfl (hsub (.cons _ (.cons _ (.cons _ (.cons _ (.refl _)))))) rfl (y_eqi rfl rfl) ?_
            refine H_case 42 rfl (fun hg9_14 => ?_) (fun hg9_14 => ?_)
            · skip
              refine HY 14 rfl (hsub (.cons _ (.cons _ (.cons _ (.cons _ (.refl _)))))) rfl (y_pick_f rfl rfl) ?_
              refine HY 15 rfl (hsub (.cons _ (.cons _ (.cons _ (.cons _ (.refl _)))))) rfl (y_indexA rfl rfl Try.underlying155 sz_4 (by omega) (by omega) (show _ = 1 from rfl)) ?_
              refine H_one 16 rfl (by kernel_rfl) rfl (op_store1 2 0 rfl rfl rfl sz_4 rfl (Nat.le_of_ble_eq_true rfl) ?_)
              refine ⟨hsub (.cons _ (.cons _ (.cons _ (.cons _ (.refl _))))), ?_⟩
              refine H_done (by kernel_rfl) ?_
              refine C_region ?_
              refine LY rfl (y_add rfl rfl (show _ = (2 : Int) from rfl)) ?_
              refine LY rfl (y_move rfl) (L_nil ?_)
              refine In_round ?_
              refine C_seq (C_region (LY rfl (y_lss rfl rfl) (L_nil (C_seq (C_cond_f rfl (C_exit (C_seq (C_seq (C_region ?_)))))))))
              refine LY rfl (y_indexA rfl rfl Try.underlying155 sz_4 (by omega) (by omega) (show _ = 0 from rfl)) ?_
              refine LY rfl (y_load rfl ag_4 (sees 2 0 rfl) rfl) (LY rfl (y_not rfl) (LY rfl (y_move rfl) (L_skip rfl rfl (L_skip rfl rfl (L_skip rfl rfl (LY rfl (y_pick_f rfl rfl) (L_nil (C_cond_f rfl (C_skip (C_seq (C_seq (C_region (LY rfl (y_move rfl) (L_nil (C_block ?_)))))))))))))))
              refine C_loopIn (In_round ?_)
              refine C_seq (C_region (LY rfl (y_lss rfl rfl) (L_nil (C_seq (C_cond_t rfl (C_skip (C_seq (C_block (C_seq (C_region (LY rfl (y_move rfl) (LY rfl (y_assign rfl) (L_nil (C_seq (C_region (LY rfl (y_move rfl) ?_))))))))))))))))
              refine LY rfl (y_indexA rfl rfl Try.underlying155 sz_4 (by omega) (by omega) (show _ = 0 from rfl)) ?_
              refine LY rfl (y_load rfl ag_4 (sees 2 0 rfl) rfl) (L_nil (C_cond_t rfl (C_region (LY rfl (y_move rfl) (LY rfl (y_move rfl) (LY rfl (y_nilCheck rfl) (LY rfl (y_fieldAddr rfl fl_111_0) ?_)))))))
              refine LY rfl (y_indexA rfl rfl Try.underlying109 sz_108 (by omega) (by omega) (show _ = 0 from rfl)) ?_
              refine LY rfl (y_fieldAddr rfl fl_108_1) (LY rfl (y_load rfl ag_106 (sees 1 0 rfl) rfl) (LY rfl (y_move rfl) ?_))
              refine L_op rfl (op_delete 1 1 rfl rfl rfl Try.underlying106 Try.underlying3 rfl rfl ?_)
              refine L_nil (C_region ?_)
              refine LY rfl (y_add rfl rfl (show _ = (1 : Int) from rfl)) ?_
              refine LY rfl (y_move rfl) (L_nil ?_)
              refine In_round ?_
              refine C_seq (C_region (LY rfl (y_lss rfl rfl) (L_nil (C_seq (C_cond_t rfl (C_skip (C_seq (C_block (C_seq (C_region (LY rfl (y_move rfl) (LY rfl (y_assign rfl) (L_nil (C_seq (C_region (LY rfl (y_move rfl) ?_))))))))))))))))
              refine LY rfl (y_indexA rfl rfl Try.underlying155 sz_4 (by omega) (by omega) (show _ = 1 from rfl)) ?_
              refine LY rfl (y_load rfl ag_4 (sees 2 0 rfl) rfl) (L_nil (C_cond_t rfl (C_region (LY rfl (y_move rfl) (LY rfl (y_move rfl) (LY rfl (y_nilCheck rfl) (LY rfl (y_fieldAddr rfl fl_111_0) ?_)))))))
              refine LY rfl (y_indexA rfl rfl Try.underlying109 sz_108 (by omega) (by omega) (show _ = 2 from rfl)) ?_
              refine LY rfl (y_fieldAddr rfl fl_108_1) (LY rfl (y_load rfl ag_106 (sees 1 0 rfl) rfl) (LY rfl (y_move rfl) ?_))
              refine L_op rfl (op_delete 1 2 rfl rfl rfl Try.underlying106 Try.underlying3 rfl rfl ?_)
              refine L_nil (C_region ?_)
              refine LY rfl (y_add rfl rfl (show _ = (2 : Int) from rfl)) ?_
              refine LY rfl (y_move rfl) (L_nil ?_)
              refine In_round ?_
              refine C_seq (C_region (LY rfl (y_lss rfl rfl) (L_nil (C_seq (C_cond_f rfl (C_exit (C_seq (C_region (LY rfl (y_assign rfl) (L_nil (C_ret ?_)))))))))))
              refine B_ret (rv_tmp rfl rv_nil) ((hsub (.cons_cons _ (.cons_cons _ (.cons _ (.cons _ (.refl _)))))).trans (hsub_pick [1, 0] rfl)) ?_
              have e0 : putD A ask n s false = true := by simp_all [putD, pd]
              have e1 : putD A ask n s true = true := by simp_all [putD, pd, pA]
              have ea : putA A ask n s = (A.write true n s) := by simp_all [putA, pA]
              have em : putm m A ask n s = m.mark n true true := by simp [putm, hn, e0, e1]
              exact ⟨ret_int (by simp [putE, hn, e0, e1]), D2, h2.to (by simp [putDa, hn, ea]), by rw [em]; rfl⟩
            · skip
              refine HY 14 rfl (hsub (.cons _ (.cons _ (.cons _ (.cons _ (.refl _)))))) rfl (y_pick_f rfl rfl) ?_
              refine HY 15 rfl (hsub (.cons _ (.cons _ (.cons _ (.cons _ (.refl _)))))) rfl (y_indexA rfl rfl Try.underlying155 sz_4 (by omega) (by omega) (show _ = 1 from rfl)) ?_
              refine H_one 16 rfl (by kernel_rfl) rfl (op_store1 2 0 rfl rfl rfl sz_4 rfl (Nat.le_of_ble_eq_true rfl) ?_)
              refine ⟨hsub (.cons _ (.cons _ (.cons _ (.cons _ (.refl _))))), ?_⟩
              refine H_done (by kernel_rfl) ?_
              refine C_region ?_
              refine LY rfl (y_add rfl rfl (show _ = (2 : Int) from rfl)) ?_
              refine LY rfl (y_move rfl) (L_nil ?_)
              refine In_round ?_
              refine C_seq (C_region (LY rfl (y_lss rfl rfl) (L_nil (C_seq (C_cond_f rfl (C_exit (C_seq (C_seq (C_region ?_)))))))))
              refine LY rfl (y_indexA rfl rfl Try.underlying155 sz_4 (by omega) (by omega) (show _ = 0 from rfl)) ?_
              refine LY rfl (y_load rfl ag_4 (sees 2 0 rfl) rfl) (LY rfl (y_not rfl) (LY rfl (y_move rfl) (L_skip rfl rfl (L_skip rfl rfl (L_skip rfl rfl (LY rfl (y_pick_f rfl rfl) (L_nil (C_cond_f rfl (C_skip (C_seq (C_seq (C_region (LY rfl (y_move rfl) (L_nil (C_block ?_)))))))))))))))
              refine C_loopIn (In_round ?_)
              refine C_seq (C_region (LY rfl (y_lss rfl rfl) (L_nil (C_seq (C_cond_t rfl (C_skip (C_seq (C_block (C_seq (C_region (LY rfl (y_move rfl) (LY rfl (y_assign rfl) (L_nil (C_seq (C_region (LY rfl (y_move rfl) ?_))))))))))))))))
              refine LY rfl (y_indexA rfl rfl Try.underlying155 sz_4 (by omega) (by omega) (show _ = 0 from rfl)) ?_
              refine LY rfl (y_load rfl ag_4 (sees 2 0 rfl) rfl) (L_nil (C_cond_t rfl (C_region (LY rfl (y_move rfl) (LY rfl (y_move rfl) (LY rfl (y_nilCheck rfl) (LY rfl (y_fieldAddr rfl fl_111_0) ?_)))))))
              refine LY rfl (y_indexA rfl rfl Try.underlying109 sz_108 (by omega) (by omega) (show _ = 0 from rfl)) ?_
              refine LY rfl (y_fieldAddr rfl fl_108_1) (LY rfl (y_load rfl ag_106 (sees 1 0 rfl) rfl) (LY rfl (y_move rfl) ?_))
              refine L_op rfl (op_delete 1 1 rfl rfl rfl Try.underlying106 Try.underlying3 rfl rfl ?_)
              refine L_nil (C_region ?_)
              refine LY rfl (y_add rfl rfl (show _ = (1 : Int) from rfl)) ?_
              refine LY rfl (y_move rfl) (L_nil ?_)
              refine In_round ?_
              refine C_seq (C_region (LY rfl (y_lss rfl rfl) (L_nil (C_seq (C_cond_t rfl (C_skip (C_seq (C_block (C_seq (C_region (LY rfl (y_move rfl) (LY rfl (y_assign rfl) (L_nil (C_seq (C_region (LY rfl (y_move rfl) ?_))))))))))))))))
              refine LY rfl (y_indexA rfl rfl Try.underlying155 sz_4 (by omega) (by omega) (show _ = 1 from rfl)) ?_
              refine LY rfl (y_load rfl ag_4 (sees 2 0 rfl) rfl) (L_nil (C_cond_f rfl (C_region (LY rfl (y_move rfl) (LY rfl (y_move rfl) (LY rfl (y_nilCheck rfl) (LY rfl (y_fieldAddr rfl fl_111_0) ?_)))))))
              refine LY rfl (y_indexA rfl rfl Try.underlying109 sz_108 (by omega) (by omega) (show _ = 2 from rfl)) ?_
              refine LY rfl (y_fieldAddr rfl fl_108_1) (LY rfl (y_load rfl ag_106 (sees 1 0 rfl) rfl) (LY rfl (y_move rfl) ?_))
              refine L_op rfl (op_mapUpdate 1 2 rfl rfl rfl Try.underlying106 Try.underlying3 rfl rfl ?_)
              refine L_nil (C_region ?_)
              refine LY rfl (y_add rfl rfl (show _ = (2 : Int) from rfl)) ?_
              refine LY rfl (y_move rfl) (L_nil ?_)
              refine In_round ?_
              refine C_seq (C_region (LY rfl (y_lss rfl rfl) (L_nil (C_seq (C_cond_f rfl (C_exit (C_seq (C_region (LY rfl (y_assign rfl) (L_nil (C_ret ?_)))))))))))
              refine B_ret (rv_tmp rfl rv_nil) ((hsub (.cons_cons _ (.cons_cons _ (.cons _ (.cons _ (.refl _)))))).trans (hsub_pick [1, 0] rfl)) ?_
              have e0 : putD A ask n s false = true := by simp_all [putD, pd]
              have e1 : putD A ask n s true = false := by simp_all [putD, pd, pA]
              have ea : putA A ask n s = (A.write true n s) := by simp_all [putA, pA]
              have em : putm m A ask n s = m.mark n true false := by simp [putm, hn, e0, e1]
              exact ⟨ret_int (by simp [putE, hn, e0, e1]), D2, h2.to (by simp [putDa, hn, ea]), by rw [em]; rfl⟩
      · skip
        refine C_skip (C_region ?_)
        refine LY rfl (y_add rfl rfl (show _ = (2 : Int) from rfl)) ?_
        refine LY rfl (y_move rfl) (L_nil ?_)
        refine In_round ?_
        refine C_seq (C_region (LY rfl (y_lss rfl rfl) (L_nil (C_seq (C_cond_f rfl (C_exit (C_seq (C_seq (C_region ?_)))))))))
        refine LY rfl (y_indexA rfl rfl Try.underlying155 sz_4 (by omega) (by omega) (show _ = 0 from rfl)) ?_
        refine LY rfl (y_load rfl ag_4 (sees 2 0 rfl) rfl) (LY rfl (y_not rfl) (LY rfl (y_move rfl) (L_skip rfl rfl (L_skip rfl rfl (L_skip rfl rfl (LY rfl (y_pick_f rfl rfl) (L_nil (C_cond_f rfl (C_skip (C_seq (C_seq (C_region (LY rfl (y_move rfl) (L_nil (C_block ?_)))))))))))))))
        refine C_loopIn (In_round ?_)
        refine C_seq (C_region (LY rfl (y_lss rfl rfl) (L_nil (C_seq (C_cond_t rfl (C_skip (C_seq (C_block (C_seq (C_region (LY rfl (y_move rfl) (LY rfl (y_assign rfl) (L_nil (C_seq (C_region (LY rfl (y_move rfl) ?_))))))))))))))))
        refine LY rfl (y_indexA rfl rfl Try.underlying155 sz_4 (by omega) (by omega) (show _ = 0 from rfl)) ?_
        refine LY rfl (y_load rfl ag_4 (sees 2 0 rfl) rfl) (L_nil (C_cond_t rfl (C_region (LY rfl (y_move rfl) (LY rfl (y_move rfl) (LY rfl (y_nilCheck rfl) (LY rfl (y_fieldAddr rfl fl_111_0) ?_)))))))
        refine LY rfl (y_indexA rfl rfl Try.underlying109 sz_108 (by omega) (by omega) (show _ = 0 from rfl)) ?_
        refine LY rfl (y_fieldAddr rfl fl_108_1) (LY rfl (y_load rfl ag_106 (sees 1 0 rfl) rfl) (LY rfl (y_move rfl) ?_))
        refine L_op rfl (op_delete 1 1 rfl rfl rfl Try.underlying106 Try.underlying3 rfl rfl ?_)
        refine L_nil (C_region ?_)
        refine LY rfl (y_add rfl rfl (show _ = (1 : Int) from rfl)) ?_
        refine LY rfl (y_move rfl) (L_nil ?_)
        refine In_round ?_
        refine C_seq (C_region (LY rfl (y_lss rfl rfl) (L_nil (C_seq (C_cond_t rfl (C_skip (C_seq (C_block (C_seq (C_region (LY rfl (y_move rfl) (LY rfl (y_assign rfl) (L_nil (C_seq (C_region (LY rfl (y_move rfl) ?_))))))))))))))))
        refine LY rfl (y_indexA rfl rfl Try.underlying155 sz_4 (by omega) (by omega) (show _ = 1 from rfl)) ?_
        refine LY rfl (y_load rfl ag_4 (sees 2 0 rfl) rfl) (L_nil (C_cond_f rfl (C_region (LY rfl (y_move rfl) (LY rfl (y_move rfl) (LY rfl (y_nilCheck rfl) (LY rfl (y_fieldAddr rfl fl_111_0) ?_)))))))
        refine LY rfl (y_indexA rfl rfl Try.underlying109 sz_108 (by omega) (by omega) (show _ = 2 from rfl)) ?_
        refine LY rfl (y_fieldAddr rfl fl_108_1) (LY rfl (y_load rfl ag_106 (sees 1 0 rfl) rfl) (LY rfl (y_move rfl) ?_))
        refine L_op rfl (op_mapUpdate 1 2 rfl rfl rfl Try.underlying106 Try.underlying3 rfl rfl ?_)
        refine L_nil (C_region ?_)
        refine LY rfl (y_add rfl rfl (show _ = (2 : Int) from rfl)) ?_
        refine LY rfl (y_move rfl) (L_nil ?_)
        refine In_round ?_
        refine C_seq (C_region (LY rfl (y_lss rfl rfl) (L_nil (C_seq (C_cond_f rfl (C_exit (C_seq (C_region (LY rfl (y_assign rfl) (L_nil (C_ret ?_)))))))))))
        refine B_ret (rv_tmp rfl rv_nil) ((hsub (.cons_cons _ (.cons_cons _ (.cons _ (.cons _ (.refl _)))))).trans (hsub_pick [1, 0] rfl)) ?_
        have e0 : putD A ask n s false = true := by simp_all [putD, pd]
        have e1 : putD A ask n s true = false := by simp_all [putD, pd, pA]
        have ea : putA A ask n s = A := by simp_all [putA, pA]
        have em : putm m A ask n s = m.mark n true false := by simp [putm, hn, e0, e1]
        exact ⟨ret_int (by simp [putE, hn, e0, e1]), D, h.to (by simp [putDa, hn, ea]), by rw [em]; rfl⟩
    · skip
      refine HY 6 rfl (hsub (.cons _ (.cons _ (.cons _ (.cons _ (.refl _)))))) rfl (y_move rfl) ?_
      refine HY 7 rfl (hsub (.cons _ (.cons _ (.cons _ (.cons _ (.refl _)))))) rfl (y_nilCheck rfl) ?_
      refine HY 8 rfl (hsub (.cons _ (.cons _ (.cons _ (.cons _ (.refl _)))))) rfl (y_fieldAddr rfl fl_108_0) ?_
      refine HY 10 rfl (hsub (.cons _ (.cons _ (.cons _ (.cons _ (.refl _)))))) rfl (y_move rfl) ?_
      refine H_two 9 11 rfl rfl (by kernel_rfl) rfl rfl ?_ ?_
      · refine op_y (y_load rfl ag_54 (sees 0 0 rfl) rfl) rfl ?_
        refine ⟨hsub (.cons _ (.cons _ (.cons _ (.cons _ (.refl _))))), ?_⟩
        refine H_one 11 rfl (by kernel_rfl) rfl (op_y (y_loadA rfl ag_114 sz_114 (sees 3 0 rfl) (by rw [bs_length, hs]; decide) (bs_whole0 _ hs)) rfl ?_)
        refine ⟨hsub (.cons _ (.cons _ (.cons _ (.cons _ (.refl _))))), ?_⟩
        refine H_one 12 rfl (by kernel_rfl) rfl (op_call rfl rfl (fun a w => Try.call82 a w) rfl ?_)
        refine ((write_d h false n s hs (by have := hQ false; omega)).sub (hsub_pick [1] rfl)).mono ?_
        rintro _ _ ⟨rfl, D3, h3, rfl⟩
        refine ⟨_, rfl, ?_⟩
        refine ⟨hsub (.cons _ (.cons _ (.cons _ (.cons _ (.refl _))))), ?_⟩
        refine HY 13 rfl (hsub (.cons _ (.cons _ (.cons _ (.cons _ (.refl _)))))) rfl (y_eqi rfl rfl) ?_
        refine H_case 42 rfl (fun hg9_14 => ?_) (fun hg9_14 => ?_)
        · skip
          refine HY 14 rfl (hsub (.cons _ (.cons _ (.cons _ (.cons _ (.refl _)))))) rfl (y_pick_f rfl rfl) ?_
          refine HY 15 rfl (hsub (.cons _ (.cons _ (.cons _ (.cons _ (.refl _)))))) rfl (y_indexA rfl rfl Try.underlying155 sz_4 (by omega) (by omega) (show _ = 0 from rfl)) ?_
          refine H_one 16 rfl (by kernel_rfl) rfl (op_store1 2 0 rfl rfl rfl sz_4 rfl (Nat.le_of_ble_eq_true rfl) ?_)
          refine ⟨hsub (.cons _ (.cons _ (.cons _ (.cons _ (.refl _))))), ?_⟩
          refine H_done (by kernel_rfl) ?_
          refine C_region ?_
          refine LY rfl (y_add rfl rfl (show _ = (1 : Int) from rfl)) ?_
          refine LY rfl (y_move rfl) (L_nil ?_)
          refine In_round ?_
          refine C_seq (C_region (LY rfl (y_lss rfl rfl) (L_nil (C_seq (C_cond_t rfl (C_skip (C_seq (C_block (C_seq (C_region (LY rfl (y_move rfl) (LY rfl (y_assign rfl) (L_nil (C_seq (C_region (LY rfl (y_move rfl) (LY rfl (y_move rfl) (LY rfl (y_nilCheck rfl) (LY rfl (y_fieldAddr rfl fl_111_0) ?_)))))))))))))))))))
          refine LY rfl (y_indexA rfl rfl Try.underlying109 sz_108 (by omega) (by omega) (show _ = 2 from rfl)) ?_
          refine LY rfl (y_assign rfl) (L_nil (C_seq (C_region (LY rfl (y_move rfl) (LY rfl (y_nilCheck rfl) ?_)))))
          refine LY rfl (y_loadA rfl ag_108 sz_108 (sees 1 0 rfl) (Nat.le_of_ble_eq_true rfl) rfl) ?_
          refine L_op rfl (op_call rfl rfl (fun a w => Try.call51 a w) rfl ?_)
          refine ((there_d h3 true).sub (hsub_pick [0] rfl)).mono ?_
          rintro _ _ ⟨rfl, rfl⟩
          refine ⟨_, rfl, ?_⟩
          refine L_nil ?_
          refine C_cond rfl (fun hc2 => ?_) (fun hc2 => ?_)
          · skip
            refine C_regionH H (by kernel_rfl) ?_
            refine HY 0 rfl (hsub (.cons _ (.cons _ (.cons _ (.cons _ (.refl _)))))) rfl (y_move rfl) ?_
            refine HY 1 rfl (hsub (.cons _ (.cons _ (.cons _ (.cons _ (.refl _)))))) rfl (y_move rfl) ?_
            refine HY 2 rfl (hsub (.cons _ (.cons _ (.cons _ (.cons _ (.refl _)))))) rfl (y_move rfl) ?_
            refine H_one 3 rfl (by kernel_rfl) rfl (op_call (f := fa) (first := []) (cap := cap) rfl rfl hask.1 rfl ?_)
            refine FnS.mono (FnS.sub (hsub_pick [1, 0] rfl) (hask.2 true _ _ _ h3 (hsub (.cons _ (.cons _ (.refl _)))))) ?_
            rintro _ _ ⟨rfl, rfl⟩
            refine ⟨_, rfl, ?_⟩
            refine ⟨hsub (.cons _ (.cons _ (.cons _ (.cons _ (.refl _))))), ?_⟩
            refine HY 4 rfl (hsub (.cons _ (.cons _ (.cons _ (.cons _ (.refl _)))))) rfl (y_not rfl) ?_
            refine HY 5 rfl (hsub (.cons _ (.cons _ (.cons _ (.cons _ (.refl _)))))) rfl (y_move rfl) ?_
            refine H_case 34 rfl (fun hg9_6 => ?_) (fun hg9_6 => ?_)
            · skip
              refine HK 6 rfl (hsub (.cons _ (.cons _ (.cons _ (.cons _ (.refl _)))))) rfl ?_
              refine HK 7 rfl (hsub (.cons _ (.cons _ (.cons _ (.cons _ (.refl _)))))) rfl ?_
              refine HK 8 rfl (hsub (.cons _ (.cons _ (.cons _ (.cons _ (.refl _)))))) rfl ?_
              refine HK 9 rfl (hsub (.cons _ (.cons _ (.cons _ (.cons _ (.refl _)))))) rfl ?_
              refine HK 10 rfl (hsub (.cons _ (.cons _ (.cons _ (.cons _ (.refl _)))))) rfl ?_
              refine HK 11 rfl (hsub (.cons _ (.cons _ (.cons _ (.cons _ (.refl _)))))) rfl ?_
              refine HK 12 rfl (hsub (.cons _ (.cons _ (.cons _ (.cons _ (.refl _)))))) rfl ?_
              refine HK 13 rfl (hsub (.cons _ (.cons _ (.cons _ (.cons _ (.refl _)))))) rfl ?_
              refine HY 14 rfl (hsub (.cons _ (.cons _ (.cons _ (.cons _ (.refl _)))))) rfl (y_pick_t rfl rfl) ?_
              refine HY 15 rfl (hsub (.cons _ (.cons _ (.cons _ (.cons _ (.refl _)))))) rfl (y_indexA rfl rfl Try.underlying155 sz_4 (by omega) (by omega) (show _ = 1 from rfl)) ?_
              refine H_one 16 rfl (by kernel_rfl) rfl (op_store1 2 0 rfl rfl rfl sz_4 rfl (Nat.le_of_ble_eq_true rfl) ?_)
              refine ⟨hsub (.cons _ (.cons _ (.cons _ (.cons _ (.refl _))))), ?_⟩
              refine H_done (by kernel_rfl) ?_
              refine C_region ?_
              refine LY rfl (y_add rfl rfl (show _ = (2 : Int) from rfl)) ?_
              refine LY rfl (y_move rfl) (L_nil ?_)
              refine In_round ?_
              refine C_seq (C_region (LY rfl (y_lss rfl rfl) (L_nil (C_seq (C_cond_f rfl (C_exit (C_seq (C_seq (C_region ?_)))))))))
              refine LY rfl (y_indexA rfl rfl Try.underlying155 sz_4 (by omega) (by omega) (show _ = 0 from rfl)) ?_
              refine LY rfl (y_load rfl ag_4 (sees 2 0 rfl) rfl) (LY rfl (y_not rfl) (LY rfl (y_move rfl) (L_skip rfl rfl (L_skip rfl rfl (L_skip rfl rfl (LY rfl (y_pick_f rfl rfl) (L_nil (C_cond_f rfl (C_skip (C_seq (C_seq (C_region (LY rfl (y_move rfl) (L_nil (C_block ?_)))))))))))))))
              refine C_loopIn (In_round ?_)
              refine C_seq (C_region (LY rfl (y_lss rfl rfl) (L_nil (C_seq (C_cond_t rfl (C_skip (C_seq (C_block (C_seq (C_region (LY rfl (y_move rfl) (LY rfl (y_assign rfl) (L_nil (C_seq (C_region (LY rfl (y_move rfl) ?_))))))))))))))))
              refine LY rfl (y_indexA rfl rfl Try.underlying155 sz_4 (by omega) (by omega) (show _ = 0 from rfl)) ?_
              refine LY rfl (y_load rfl ag_4 (sees 2 0 rfl) rfl) (L_nil (C_cond_t rfl (C_region (LY rfl (y_move rfl) (LY rfl (y_move rfl) (LY rfl (y_nilCheck rfl) (LY rfl (y_fieldAddr rfl fl_111_0) ?_)))))))
              refine LY rfl (y_indexA rfl rfl Try.underlying109 sz_108 (by omega) (by omega) (show _ = 0 from rfl)) ?_
              refine LY rfl (y_fieldAddr rfl fl_108_1) (LY rfl (y_load rfl ag_106 (sees 0 0 rfl) rfl) (LY rfl (y_move rfl) ?_))
              refine L_op rfl (op_delete 0 1 rfl rfl rfl Try.underlying106 Try.underlying3 rfl rfl ?_)
              refine L_nil (C_region ?_)
              refine LY rfl (y_add rfl rfl (show _ = (1 : Int) from rfl)) ?_
              refine LY rfl (y_move rfl) (L_nil ?_)
              refine In_round ?_
              refine C_seq (C_region (LY rfl (y_lss rfl rfl) (L_nil (C_seq (C_cond_t rfl (C_skip (C_seq (C_block (C_seq (C_region (LY rfl (y_move rfl) (LY rfl (y_assign rfl) (L_nil (C_seq (C_region (LY rfl (y_move rfl) ?_))))))))))))))))
              refine LY rfl (y_indexA rfl rfl Try.underlying155 sz_4 (by omega) (by omega) (show _ = 1 from rfl)) ?_
              refine LY rfl (y_load rfl ag_4 (sees 2 0 rfl) rfl) (L_nil (C_cond_t rfl (C_region (LY rfl (y_move rfl) (LY rfl (y_move rfl) (LY rfl (y_nilCheck rfl) (LY rfl (y_fieldAddr rfl fl_111_0) ?_)))))))
              refine LY rfl (y_indexA rfl rfl Try.underlying109 sz_108 (by omega) (by omega) (show _ = 2 from rfl)) ?_
              refine LY rfl (y_fieldAddr rfl fl_108_1) (LY rfl (y_load rfl ag_106 (sees 0 0 rfl) rfl) (LY rfl (y_move rfl) ?_))
              refine L_op rfl (op_delete 0 2 rfl rfl rfl Try.underlying106 Try.underlying3 rfl rfl ?_)
              refine L_nil (C_region ?_)
              refine LY rfl (y_add rfl rfl (show _ = (2 : Int) from rfl)) ?_
              refine LY rfl (y_move rfl) (L_nil ?_)
              refine In_round ?_
              refine C_seq (C_region (LY rfl (y_lss rfl rfl) (L_nil (C_seq (C_cond_f rfl (C_exit (C_seq (C_region (LY rfl (y_assign rfl) (L_nil (C_ret ?_)))))))))))
              refine B_ret (rv_tmp rfl rv_nil) ((hsub (.cons_cons _ (.cons_cons _ (.cons _ (.cons _ (.refl _)))))).trans (hsub_pick [0, 0] rfl)) ?_
              have e0 : putD A ask n s false = true := by simp_all [putD, pd]
              have e1 : putD A ask n s true = true := by simp_all [putD, pd, pA]
              have ea : putA A ask n s = (A.write false n s) := by simp_all [putA, pA]
              have em : putm m A ask n s = m.mark n true true := by simp [putm, hn, e0, e1]
              exact ⟨ret_int (by simp [putE, hn, e0, e1]), D3, h3.to (by simp [putDa, hn, ea]), by rw [em]; rfl⟩
            · skip
              refine HY 6 rfl (hsub (.cons _ (.cons _ (.cons _ (.cons _ (.refl _)))))) rfl (y_move rfl) ?_
              refine HY 7 rfl (hsub (.cons _ (.cons _ (.cons _ (.cons _ (.refl _)))))) rfl (y_nilCheck rfl) ?_
              refine HY 8 rfl (hsub (.cons _ (.cons _ (.cons _ (.cons _ (.refl _)))))) rfl (y_fieldAddr rfl fl_108_0) ?_
              refine HY 10 rfl (hsub (.cons _ (.cons _ (.cons _ (.cons _ (.refl _)))))) rfl (y_move rfl) ?_
              refine H_two 9 11 rfl rfl (by kernel_rfl) rfl rfl ?_ ?_
              · refine op_y (y_load rfl ag_54 (sees 0 0 rfl) rfl) rfl ?_
                refine ⟨hsub (.cons _ (.cons _ (.cons _ (.cons _ (.refl _))))), ?_⟩
                refine H_one 11 rfl (by kernel_rfl) rfl (op_y (y_loadA rfl ag_114 sz_114 (sees 3 0 rfl) (by rw [bs_length, hs]; decide) (bs_whole0 _ hs)) rfl ?_)
                refine ⟨hsub (.cons _ (.cons _ (.cons _ (.cons _ (.refl _))))), ?_⟩
                refine H_one 12 rfl (by kernel_rfl) rfl (op_call rfl rfl (fun a w => Try.call82 a w) rfl ?_)
                refine ((write_d h3 true n s hs (by have := hQ true; have q2 := Da.write_many A false n s true; omega)).sub (hsub_pick [1] rfl)).mono ?_
                rintro _ _ ⟨rfl, D4, h4, rfl⟩
                refine ⟨_, rfl, ?_⟩
                refine ⟨hsub (.cons _ (.cons _ (.cons _ (.cons _ (.refl _))))), ?_⟩
                refine HY 13 rfl (hsub (.cons _ (.cons _ (.cons _ (.cons _ (.refl _)))))) rfl (y_eqi rfl rfl) ?_
                refine H_case 42 rfl (fun hg9_14 => ?_) (fun hg9_14 => ?_)
                · skip
                  refine HY 14 rfl (hsub (.cons _ (.cons _ (.cons _ (.cons _ (.refl _)))))) rfl (y_pick_f rfl rfl) ?_
                  refine HY 15 rfl (hsub (.cons _ (.cons _ (.cons _ (.cons _ (.refl _)))))) rfl (y_indexA rfl rfl Try.underlying155 sz_4 (by omega) (by omega) (show _ = 1 from rfl)) ?_
                  refine H_one 16 rfl (by kernel_rfl) rfl (op_store1 2 0 rfl rfl rfl sz_4 rfl (Nat.le_of_ble_eq_true rfl) ?_)
                  refine ⟨hsub (.cons _ (.cons _ (.cons _ (.cons _ (.refl _))))), ?_⟩
                  refine H_done (by kernel_rfl) ?_
                  refine C_region ?_
                  refine LY rfl (y_add rfl rfl (show _ = (2 : Int) from rfl)) ?_
                  refine LY rfl (y_move rfl) (L_nil ?_)
                  refine In_round ?_
                  refine C_seq (C_region (LY rfl (y_lss rfl rfl) (L_nil (C_seq (C_cond_f rfl (C_exit (C_seq (C_seq (C_region ?_)))))))))
                  refine LY rfl (y_indexA rfl rfl Try.underlying155 sz_4 (by omega) (by omega) (show _ = 0 from rfl)) ?_
                  refine LY rfl (y_load rfl ag_4 (sees 2 0 rfl) rfl) (LY rfl (y_not rfl) (LY rfl (y_move rfl) (L_skip rfl rfl (L_skip rfl rfl (L_skip rfl rfl (LY rfl (y_pick_f rfl rfl) (L_nil (C_cond_f rfl (C_skip (C_seq (C_seq (C_region (LY rfl (y_move rfl) (L_nil (C_block ?_)))))))))))))))
                  refine C_loopIn (In_round ?_)
                  refine C_seq (C_region (LY rfl (y_lss rfl rfl) (L_nil (C_seq (C_cond_t rfl (C_skip (C_seq (C_block (C_seq (C_region (LY rfl (y_move rfl) (LY rfl (y_assign rfl) (L_nil (C_seq (C_region (LY rfl (y_move rfl) ?_))))))))))))))))
                  refine LY rfl (y_indexA rfl rfl Try.underlying155 sz_4 (by omega) (by omega) (show _ = 0 from rfl)) ?_
                  refine LY rfl (y_load rfl ag_4 (sees 2 0 rfl) rfl) (L_nil (C_cond_t rfl (C_region (LY rfl (y_move rfl) (LY rfl (y_move rfl) (LY rfl (y_nilCheck rfl) (LY rfl (y_fieldAddr rfl fl_111_0) ?_)))))))
                  refine LY rfl (y_indexA rfl rfl Try.underlying109 sz_108 (by omega) (by omega) (show _ = 0 from rfl)) ?_
                  refine LY rfl (y_fieldAddr rfl fl_108_1) (LY rfl (y_load rfl ag_106 (sees 1 0 rfl) rfl) (LY rfl (y_move rfl) ?_))
                  refine L_op rfl (op_delete 1 1 rfl rfl rfl Try.underlying106 Try.underlying3 rfl rfl ?_)
                  refine L_nil (C_region ?_)
                  refine LY rfl (y_add rfl rfl (show _ = (1 : Int) from rfl)) ?_
                  refine LY rfl (y_move rfl) (L_nil ?_)
                  refine In_round ?_
                  refine C_seq (C_region (LY rfl (y_lss rfl rfl) (L_nil (C_seq (C_cond_t rfl (C_skip (C_seq (C_block (C_seq (C_region (LY rfl (y_move rfl) (LY rfl (y_assign rfl) (L_nil (C_seq (C_region (LY rfl (y_move rfl) ?_))))))))))))))))
                  refine LY rfl (y_indexA rfl rfl Try.underlying155 sz_4 (by omega) (by omega) (show _ = 1 from rfl)) ?_
                  refine LY rfl (y_load rfl ag_4 (sees 2 0 rfl) rfl) (L_nil (C_cond_t rfl (C_region (LY rfl (y_move rfl) (LY rfl (y_move rfl) (LY rfl (y_nilCheck rfl) (LY rfl (y_fieldAddr rfl fl_111_0) ?_)))))))
                  refine LY rfl (y_indexA rfl rfl Try.underlying109 sz_108 (by omega) (by omega) (show _ = 2 from rfl)) ?_
                  refine LY rfl (y_fieldAddr rfl fl_108_1) (LY rfl (y_load rfl ag_106 (sees 1 0 rfl) rfl) (LY rfl (y_move rfl) ?_))
                  refine L_op rfl (op_delete 1 2 rfl rfl rfl Try.underlying106 Try.underlying3 rfl rfl ?_)
                  refine L_nil (C_region ?_)
                  refine LY rfl (y_add rfl rfl (show _ = (2 : Int) from rfl)) ?_
                  refine LY rfl (y_move rfl) (L_nil ?_)
                  refine In_round ?_
                  refine C_seq (C_region (LY rfl (y_lss rfl rfl) (L_nil (C_seq (C_cond_f rfl (C_exit (C_seq (C_region (LY rfl (y_assign rfl) (L_nil (C_ret ?_)))))))))))
                  refine B_ret (rv_tmp rfl rv_nil) ((hsub (.cons_cons _ (.cons_cons _ (.cons _ (.cons _ (.refl _)))))).trans (hsub_pick [1, 0] rfl)) ?_
                  have e0 : putD A ask n s false = true := by simp_all [putD, pd]
                  have e1 : putD A ask n s true = true := by simp_all [putD, pd, pA]
                  have ea : putA A ask n s = ((A.write false n s).write true n s) := by simp_all [putA, pA]
                  have em : putm m A ask n s = m.mark n true true := by simp [putm, hn, e0, e1]
                  exact ⟨ret_int (by simp [putE, hn, e0, e1]), D4, h4.to (by simp [putDa, hn, ea]), by rw [em]; rfl⟩
                · skip
                  refine HY 14 rfl (hsub (.cons _ (.cons _ (.cons _ (.cons _ (.refl _)))))) rfl (y_pick_f rfl rfl) ?_
                  refine HY 15 rfl (hsub (.cons _ (.cons _ (.cons _ (.cons _ (.refl _)))))) rfl (y_indexA rfl rfl Try.underlying155 sz_4 (by omega) (by omega) (show _ = 1 from rfl)) ?_
                  refine H_one 16 rfl (by kernel_rfl) rfl (op_store1 2 0 rfl rfl rfl sz_4 rfl (Nat.le_of_ble_eq_true rfl) ?_)
                  refine ⟨hsub (.cons _ (.cons _ (.cons _ (.cons _ (.refl _))))), ?_⟩
                  refine H_done (by kernel_rfl) ?_
                  refine C_region ?_
                  refine LY rfl (y_add rfl rfl (show _ = (2 : Int) from rfl)) ?_
                  refine LY rfl (y_move rfl) (L_nil ?_)
                  refine In_round ?_
                  refine C_seq (C_region (LY rfl (y_lss rfl rfl) (L_nil (C_seq (C_cond_f rfl (C_exit (C_seq (C_seq (C_region ?_)))))))))
                  refine LY rfl (y_indexA rfl rfl Try.underlying155 sz_4 (by omega) (by omega) (show _ = 0 from rfl)) ?_
                  refine LY rfl (y_load rfl ag_4 (sees 2 0 rfl) rfl) (LY rfl (y_not rfl) (LY rfl (y_move rfl) (L_skip rfl rfl (L_skip rfl rfl (L_skip rfl rfl (LY rfl (y_pick_f rfl rfl) (L_nil (C_cond_f rfl (C_skip (C_seq (C_seq (C_region (LY rfl (y_move rfl) (L_nil (C_block ?_)))))))))))))))
                  refine C_loopIn (In_round ?_)
                  refine C_seq (C_region (LY rfl (y_lss rfl rfl) (L_nil (C_seq (C_cond_t rfl (C_skip (C_seq (C_block (C_seq (C_region (LY rfl (y_move rfl) (LY rfl (y_assign rfl) (L_nil (C_seq (C_region (LY rfl (y_move rfl) ?_))))))))))))))))
                  refine LY rfl (y_indexA rfl rfl Try.underlying155 sz_4 (by omega) (by omega) (show _ = 0 from rfl)) ?_
                  refine LY rfl (y_load rfl ag_4 (sees 2 0 rfl) rfl) (L_nil (C_cond_t rfl (C_region (LY rfl (y_move rfl) (LY rfl (y_move rfl) (LY rfl (y_nilCheck rfl) (LY rfl (y_fieldAddr rfl fl_111_0) ?_)))))))
                  refine LY rfl (y_indexA rfl rfl Try.underlying109 sz_108 (by omega) (by omega) (show _ = 0 from rfl)) ?_
                  refine LY rfl (y_fieldAddr rfl fl_108_1) (LY rfl (y_load rfl ag_106 (sees 1 0 rfl) rfl) (LY rfl (y_move rfl) ?_))
                  refine L_op rfl (op_delete 1 1 rfl rfl rfl Try.underlying106 Try.underlying3 rfl rfl ?_)
                  refine L_nil (C_region ?_)
                  refine LY rfl (y_add rfl rfl (show _ = (1 : Int) from rfl)) ?_
                  refine LY rfl (y_move rfl) (L_nil ?_)
                  refine In_round ?_
                  refine C_seq (C_region (LY rfl (y_lss rfl rfl) (L_nil (C_seq (C_cond_t rfl (C_skip (C_seq (C_block (C_seq (C_region (LY rfl (y_move rfl) (LY rfl (y_assign rfl) (L_nil (C_seq (C_region (LY rfl (y_move rfl) ?_))))))))))))))))
                  refine LY rfl (y_indexA rfl rfl Try.underlying155 sz_4 (by omega) (by omega) (show _ = 1 from rfl)) ?_
                  refine LY rfl (y_load rfl ag_4 (sees 2 0 rfl) rfl) (L_nil (C_cond_f rfl (C_region (LY rfl (y_move rfl) (LY rfl (y_move rfl) (LY rfl (y_nilCheck rfl) (LY rfl (y_fieldAddr rfl fl_111_0) ?_)))))))
                  refine LY rfl (y_indexA rfl rfl Try.underlying109 sz_108 (by omega) (by omega) (show _ = 2 from rfl)) ?_
                  refine LY rfl (y_fieldAddr rfl fl_108_1) (LY rfl (y_load rfl ag_106 (sees 1 0 rfl) rfl) (LY rfl (y_move rfl) ?_))
                  refine L_op rfl (op_mapUpdate 1 2 rfl rfl rfl Try.underlying106 Try.underlying3 rfl rfl ?_)
                  refine L_nil (C_region ?_)
                  refine LY rfl (y_add rfl rfl (show _ = (2 : Int) from rfl)) ?_
                  refine LY rfl (y_move rfl) (L_nil ?_)
                  refine In_round ?_
                  refine C_seq (C_region (LY rfl (y_lss rfl rfl) (L_nil (C_seq (C_cond_f rfl (C_exit (C_seq (C_region (LY rfl (y_assign rfl) (L_nil (C_ret ?_)))))))))))
                  refine B_ret (rv_tmp rfl rv_nil) ((hsub (.cons_cons _ (.cons_cons _ (.cons _ (.cons _ (.refl _)))))).trans (hsub_pick [1, 0] rfl)) ?_
                  have e0 : putD A ask n s false = true := by simp_all [putD, pd]
                  have e1 : putD A ask n s true = false := by simp_all [putD, pd, pA]
                  have ea : putA A ask n s = ((A.write false n s).write true n s) := by simp_all [putA, pA]
                  have em : putm m A ask n s = m.mark n true false := by simp [putm, hn, e0, e1]
                  exact ⟨ret_int (by simp [putE, hn, e0, e1]), D4, h4.to (by simp [putDa, hn, ea]), by rw [em]; rfl⟩
              · refine op_y (y_loadA rfl ag_114 sz_114 (sees 3 0 rfl) (by rw [bs_length, hs]; decide) (bs_whole0 _ hs)) rfl ?_
                refine ⟨hsub (.cons _ (.cons _ (.cons _ (.cons _ (.refl _))))), ?_⟩
                refine H_one 9 rfl (by kernel_rfl) rfl (op_y (y_load rfl ag_54 (sees 0 0 rfl) rfl) rfl ?_)
                refine ⟨hsub (.cons _ (.cons _ (.cons _ (.cons _ (.refl _))))), ?_⟩
                refine H_one 12 rfl (by kernel_rfl) rfl (op_call rfl rfl (fun a w => Try.call82 a w) rfl ?_)
                refine ((write_d h3 true n s hs (by have := hQ true; have q2 := Da.write_many A false n s true; omega)).sub (hsub_pick [1] rfl)).mono ?_
                rintro _ _ ⟨rfl, D5, h5, rfl⟩
                refine ⟨_, rfl, ?_⟩
                refine ⟨hsub (.cons _ (.cons _ (.cons _ (.cons _ (.refl _))))), ?_⟩
                refine HY 13 rfl (hsub (.cons _ (.cons _ (.cons _ (.cons _ (.refl _)))))) rfl (y_eqi rfl rfl) ?_
                refine H_case 42 rfl (fun hg9_14 => ?_) (fun hg9_14 => ?_)
                · skip
                  refine HY 14 rfl (hsub (.cons _ (.cons _ (.cons _ (.cons _ (.refl _)))))) rfl (y_pick_f rfl rfl) ?_
                  refine HY 15 rfl (hsub (.cons _ (.cons _ (.cons _ (.cons _ (.refl _)))))) rfl (y_indexA rfl rfl Try.underlying155 sz_4 (by omega) (by omega) (show _ = 1 from rfl)) ?_
                  refine H_one 16 rfl (by kernel_rfl) rfl (op_store1 2 0 rfl rfl rfl sz_4 rfl (Nat.le_of_ble_eq_true rfl) ?_)
                  refine ⟨hsub (.cons _ (.cons _ (.cons _ (.cons _ (.refl _))))), ?_⟩
                  refine H_done (by kernel_rfl) ?_
                  refine C_region ?_
                  refine LY rfl (y_add rfl rfl (show _ = (2 : Int) from rfl)) ?_
                  refine LY rfl (y_move rfl) (L_nil ?_)
                  refine In_round ?_
                  refine C_seq (C_region (LY rfl (y_lss rfl rfl) (L_nil (C_seq (C_cond_f rfl (C_exit (C_seq (C_seq (C_region ?_)))))))))
                  refine LY rfl (y_indexA rfl rfl Try.underlying155 sz_4 (by omega) (by omega) (show _ = 0 from rfl)) ?_
                  refine LY rfl (y_load rfl ag_4 (sees 2 0 rfl) rfl) (LY rfl (y_not rfl) (LY rfl (y_move rfl) (L_skip rfl rfl (L_skip rfl rfl (L_skip rfl rfl (LY rfl (y_pick_f rfl rfl) (L_nil (C_cond_f rfl (C_skip (C_seq (C_seq (C_region (LY rfl (y_move rfl) (L_nil (C_block ?_)))))))))))))))
                  refine C_loopIn (In_round ?_)
                  refine C_seq (C_region (LY rfl (y_lss rfl rfl) (L_nil (C_seq (C_cond_t rfl (C_skip (C_seq (C_block (C_seq (C_region (LY rfl (y_move rfl) (LY rfl (y_assign rfl) (L_nil (C_seq (C_region (LY rfl (y_move rfl) ?_))))))))))))))))
                  refine LY rfl (y_indexA rfl rfl Try.underlying155 sz_4 (by omega) (by omega) (show _ = 0 from rfl)) ?_
                  refine LY rfl (y_load rfl ag_4 (sees 2 0 rfl) rfl) (L_nil (C_cond_t rfl (C_region (LY rfl (y_move rfl) (LY rfl (y_move rfl) (LY rfl (y_nilCheck rfl) (LY rfl (y_fieldAddr rfl fl_111_0) ?_)))))))
                  refine LY rfl (y_indexA rfl rfl Try.underlying109 sz_108 (by omega) (by omega) (show _ = 0 from rfl)) ?_
                  refine LY rfl (y_fieldAddr rfl fl_108_1) (LY rfl (y_load rfl ag_106 (sees 1 0 rfl) rfl) (LY rfl (y_move rfl) ?_))
                  refine L_op rfl (op_delete 1 1 rfl rfl rfl Try.underlying106 Try.underlying3 rfl rfl ?_)
                  refine L_nil (C_region ?_)
                  refine LY rfl (y_add rfl rfl (show _ = (1 : Int) from rfl)) ?_
                  refine LY rfl (y_move rfl) (L_nil ?_)
                  refine In_round ?_
                  refine C_seq (C_region (LY rfl (y_lss rfl rfl) (L_nil (C_seq (C_cond_t rfl (C_skip (C_seq (C_block (C_seq (C_region (LY rfl (y_move rfl) (LY rfl (y_assign rfl) (L_nil (C_seq (C_region (LY rfl (y_move rfl) ?_))))))))))))))))
                  refine LY rfl (y_indexA rfl rfl Try.underlying155 sz_4 (by omega) (by omega) (show _ = 1 from rfl)) ?_
                  refine LY rfl (y_load rfl ag_4 (sees 2 0 rfl) rfl) (L_nil (C_cond_t rfl (C_region (LY rfl (y_move rfl) (LY rfl (y_move rfl) (LY rfl (y_nilCheck rfl) (LY rfl (y_fieldAddr rfl fl_111_0) ?_)))))))
                  refine LY rfl (y_indexA rfl rfl Try.underlying109 sz_108 (by omega) (by omega) (show _ = 2 from rfl)) ?_
                  refine LY rfl (y_fieldAddr rfl fl_108_1) (LY rfl (y_load rfl ag_106 (sees 1 0 rfl) rfl) (LY rfl (y_move rfl) ?_))
                  refine L_op rfl (op_delete 1 2 rfl rfl rfl Try.underlying106 Try.underlying3 rfl rfl ?_)
                  refine L_nil (C_region ?_)
                  refine LY rfl (y_add rfl rfl (show _ = (2 : Int) from rfl)) ?_
                  refine LY rfl (y_move rfl) (L_nil ?_)
                  refine In_round ?_
                  refine C_seq (C_region (LY rfl (y_lss rfl rfl) (L_nil (C_seq (C_cond_f rfl (C_exit (C_seq (C_region (LY rfl (y_assign rfl) (L_nil (C_ret ?_)))))))))))
                  refine B_ret (rv_tmp rfl rv_nil) ((hsub (.cons_cons _ (.cons_cons _ (.cons _ (.cons _ (.refl _)))))).trans (hsub_pick [1, 0] rfl)) ?_
                  have e0 : putD A ask n s false = true := by simp_all [putD, pd]
                  have e1 : putD A ask n s true = true := by simp_all [putD, pd, pA]
                  have ea : putA A ask n s = ((A.write false n s).write true n s) := by simp_all [putA, pA]
                  have em : putm m A ask n s = m.mark n true true := by simp [putm, hn, e0, e1]
                  exact ⟨ret_int (by simp [putE, hn, e0, e1]), D5, h5.to (by simp [putDa, hn, ea]), by rw [em]; rfl⟩
                · skip
                  refine HY 14 rfl (hsub (.cons _ (.cons _ (.cons _ (.cons _ (.refl _)))))) rfl (y_pick_f rfl rfl) ?_
                  refine HY 15 rfl (hsub (.cons _ (.cons _ (.cons _ (.cons _ (.refl _)))))) rfl (y_indexA rfl rfl Try.underlying155 sz_4 (by omega) (by omega) (show _ = 1 from rfl)) ?_
                  refine H_one 16 rfl (by kernel_rfl) rfl (op_store1 2 0 rfl rfl rfl sz_4 rfl (Nat.le_of_ble_eq_true rfl) ?_)
                  refine ⟨hsub (.cons _ (.cons _ (.cons _ (.cons _ (.refl _))))), ?_⟩
                  refine H_done (by kernel_rfl) ?_
                  refine C_region ?_
                  refine LY rfl (y_add rfl rfl (show _ = (2 : Int) from rfl)) ?_
                  refine LY rfl (y_move rfl) (L_nil ?_)
                  refine In_round ?_
                  refine C_seq (C_region (LY rfl (y_lss rfl rfl) (L_nil (C_seq (C_cond_f rfl (C_exit (C_seq (C_seq (C_region ?_)))))))))
                  refine LY rfl (y_indexA rfl rfl Try.underlying155 sz_4 (by omega) (by omega) (show _ = 0 from rfl)) ?_
                  refine LY rfl (y_load rfl ag_4 (sees 2 0 rfl) rfl) (LY rfl (y_not rfl) (LY rfl (y_move rfl) (L_skip rfl rfl (L_skip rfl rfl (L_skip rfl rfl (LY rfl (y_pick_f rfl rfl) (L_nil (C_cond_f rfl (C_skip (C_seq (C_seq (C_region (LY rfl (y_move rfl) (L_nil (C_block ?_)))))))))))))))
                  refine C_loopIn (In_round ?_)
                  refine C_seq (C_region (LY rfl (y_lss rfl rfl) (L_nil (C_seq (C_cond_t rfl (C_skip (C_seq (C_block (C_seq (C_region (LY rfl (y_move rfl) (LY rfl (y_assign rfl) (L_nil (C_seq (C_region (LY rfl (y_move rfl) ?_))))))))))))))))
                  refine LY rfl (y_indexA rfl rfl Try.underlying155 sz_4 (by omega) (by omega) (show _ = 0 from rfl)) ?_
                  refine LY rfl (y_load rfl ag_4 (sees 2 0 rfl) rfl) (L_nil (C_cond_t rfl (C_region (LY rfl (y_move rfl) (LY rfl (y_move rfl) (LY rfl (y_nilCheck rfl) (LY rfl (y_fieldAddr rfl fl_111_0) ?_)))))))
                  refine LY rfl (y_indexA rfl rfl Try.underlying109 sz_108 (by omega) (by omega) (show _ = 0 from rfl)) ?_
                  refine LY rfl (y_fieldAddr rfl fl_108_1) (LY rfl (y_load rfl ag_106 (sees 1 0 rfl) rfl) (LY rfl (y_move rfl) ?_))
                  refine L_op rfl (op_delete 1 1 rfl rfl rfl Try.underlying106 Try.underlying3 rfl rfl ?_)
                  refine L_nil (C_region ?_)
                  refine LY rfl (y_add rfl rfl (show _ = (1 : Int) from rfl)) ?_
                  refine LY rfl (y_move rfl) (L_nil ?_)
                  refine In_round ?_
                  refine C_seq (C_region (LY rfl (y_lss rfl rfl) (L_nil (C_seq (C_cond_t rfl (C_skip (C_seq (C_block (C_seq (C_region (LY rfl (y_move rfl) (LY rfl (y_assign rfl) (L_nil (C_seq (C_region (LY rfl (y_move rfl) ?_))))))))))))))))
                  refine LY rfl (y_indexA rfl rfl Try.underlying155 sz_4 (by omega) (by omega) (show _ = 1 from rfl)) ?_
                  refine LY rfl (y_load rfl ag_4 (sees 2 0 rfl) rfl) (L_nil (C_cond_f rfl (C_region (LY rfl (y_move rfl) (LY rfl (y_move rfl) (LY rfl (y_nilCheck rfl) (LY rfl (y_fieldAddr rfl fl_111_0) ?_)))))))
                  refine LY rfl (y_indexA rfl rfl Try.underlying109 sz_108 (by omega) (by omega) (show _ = 2 from rfl)) ?_
                  refine LY rfl (y_fieldAddr rfl fl_108_1) (LY rfl (y_load rfl ag_106 (sees 1 0 rfl) rfl) (LY rfl (y_move rfl) ?_))
                  refine L_op rfl (op_mapUpdate 1 2 rfl rfl rfl Try.underlying106 Try.underlying3 rfl rfl ?_)
                  refine L_nil (C_region ?_)
                  refine LY rfl (y_add rfl rfl (show _ = (2 : Int) from rfl)) ?_
                  refine LY rfl (y_move rfl) (L_nil ?_)
                  refine In_round ?_
                  refine C_seq (C_region (LY rfl (y_lss rfl rfl) (L_nil (C_seq (C_cond_f rfl (C_exit (C_seq (C_region (LY rfl (y_assign rfl) (L_nil (C_ret ?_)))))))))))
                  refine B_ret (rv_tmp rfl rv_nil) ((hsub (.cons_cons _ (.cons_cons _ (.cons _ (.cons _ (.refl _)))))).trans (hsub_pick [1, 0] rfl)) ?_
                  have e0 : putD A ask n s false = true := by simp_all [putD, pd]
                  have e1 : putD A ask n s true = false := by simp_all [putD, pd, pA]
                  have ea : putA A ask n s = ((A.write false n s).write true n s) := by simp_all [putA, pA]
                  have em : putm m A ask n s = m.mark n true false := by simp [putm, hn, e0, e1]
                  exact ⟨ret_int (by simp [putE, hn, e0, e1]), D5, h5.to (by simp [putDa, hn, ea]), by rw [em]; rfl⟩
          · skip
            refine C_skip (C_region ?_)
            refine LY rfl (y_add rfl rfl (show _ = (2 : Int) from rfl)) ?_
            refine LY rfl (y_move rfl) (L_nil ?_)
            refine In_round ?_
            refine C_seq (C_region (LY rfl (y_lss rfl rfl) (L_nil (C_seq (C_cond_f rfl (C_exit (C_seq (C_seq (C_region ?_)))))))))
            refine LY rfl (y_indexA rfl rfl Try.underlying155 sz_4 (by omega) (by omega) (show _ = 0 from rfl)) ?_
            refine LY rfl (y_load rfl ag_4 (sees 2 0 rfl) rfl) (LY rfl (y_not rfl) (LY rfl (y_move rfl) (L_skip rfl rfl (L_skip rfl rfl (L_skip rfl rfl (LY rfl (y_pick_f rfl rfl) (L_nil (C_cond_f rfl (C_skip (C_seq (C_seq (C_region (LY rfl (y_move rfl) (L_nil (C_block ?_)))))))))))))))
            refine C_loopIn (In_round ?_)
            refine C_seq (C_region (LY rfl (y_lss rfl rfl) (L_nil (C_seq (C_cond_t rfl (C_skip (C_seq (C_block (C_seq (C_region (LY rfl (y_move rfl) (LY rfl (y_assign rfl) (L_nil (C_seq (C_region (LY rfl (y_move rfl) ?_))))))))))))))))
            refine LY rfl (y_indexA rfl rfl Try.underlying155 sz_4 (by omega) (by omega) (show _ = 0 from rfl)) ?_
            refine LY rfl (y_load rfl ag_4 (sees 2 0 rfl) rfl) (L_nil (C_cond_t rfl (C_region (LY rfl (y_move rfl) (LY rfl (y_move rfl) (LY rfl (y_nilCheck rfl) (LY rfl (y_fieldAddr rfl fl_111_0) ?_)))))))
            refine LY rfl (y_indexA rfl rfl Try.underlying109 sz_108 (by omega) (by omega) (show _ = 0 from rfl)) ?_
            refine LY rfl (y_fieldAddr rfl fl_108_1) (LY rfl (y_load rfl ag_106 (sees 1 0 rfl) rfl) (LY rfl (y_move rfl) ?_))
            refine L_op rfl (op_delete 1 1 rfl rfl rfl Try.underlying106 Try.underlying3 rfl rfl ?_)
            refine L_nil (C_region ?_)
            refine LY rfl (y_add rfl rfl (show _ = (1 : Int) from rfl)) ?_
            refine LY rfl (y_move rfl) (L_nil ?_)
            refine In_round ?_
            refine C_seq (C_region (LY rfl (y_lss rfl rfl) (L_nil (C_seq (C_cond_t rfl (C_skip (C_seq (C_block (C_seq (C_region (LY rfl (y_move rfl) (LY rfl (y_assign rfl) (L_nil (C_seq (C_region (LY rfl (y_move rfl) ?_))))))))))))))))
            refine LY rfl (y_indexA rfl rfl Try.underlying155 sz_4 (by omega) (by omega) (show _ = 1 from rfl)) ?_
            refine LY rfl (y_load rfl ag_4 (sees 2 0 rfl) rfl) (L_nil (C_cond_f rfl (C_region (LY rfl (y_move rfl) (LY rfl (y_move rfl) (LY rfl (y_nilCheck rfl) (LY rfl (y_fieldAddr rfl fl_111_0) ?_)))))))
            refine LY rfl (y_indexA rfl rfl Try.underlying109 sz_108 (by omega) (by omega) (show _ = 2 from rfl)) ?_
            refine LY rfl (y_fieldAddr rfl fl_108_1) (LY rfl (y_load rfl ag_106 (sees 1 0 rfl) rfl) (LY rfl (y_move rfl) ?_))
            refine L_op rfl (op_mapUpdate 1 2 rfl rfl rfl Try.underlying106 Try.underlying3 rfl rfl ?_)
            refine L_nil (C_region ?_)
            refine LY rfl (y_add rfl rfl (show _ = (2 : Int) from rfl)) ?_
            refine LY rfl (y_move rfl) (L_nil ?_)
            refine In_round ?_
            refine C_seq (C_region (LY rfl (y_lss rfl rfl) (L_nil (C_seq (C_cond_f rfl (C_exit (C_seq (C_region (LY rfl (y_assign rfl) (L_nil (C_ret ?_)))))))))))
            refine B_ret (rv_tmp rfl rv_nil) ((hsub (.cons_cons _ (.cons_cons _ (.cons _ (.cons _ (.refl _)))))).trans (hsub_pick [1, 0] rfl)) ?_
            have e0 : putD A ask n s false = true := by simp_all [putD, pd]
            have e1 : putD A ask n s true = false := by simp_all [putD, pd, pA]
            have ea : putA A ask n s = (A.write false n s) := by simp_all [putA, pA]
            have em : putm m A ask n s = m.mark n true false := by simp [putm, hn, e0, e1]
            exact ⟨ret_int (by simp [putE, hn, e0, e1]), D3, h3.to (by simp [putDa, hn, ea]), by rw [em]; rfl⟩
        · skip
          refine HY 14 rfl (hsub (.cons _ (.cons _ (.cons _ (.cons _ (.refl _)))))) rfl (y_pick_f rfl rfl) ?_
          refine HY 15 rfl (hsub (.cons _ (.cons _ (.cons _ (.cons _ (.refl _)))))) rfl (y_indexA rfl rfl Try.underlying155 sz_4 (by omega) (by omega) (show _ = 0 from rfl)) ?_
          refine H_one 16 rfl (by kernel_rfl) rfl (op_store1 2 0 rfl rfl rfl sz_4 rfl (Nat.le_of_ble_eq_true rfl) ?_)
          refine ⟨hsub (.cons _ (.cons _ (.cons _ (.cons _ (.refl _))))), ?_⟩
          refine H_done (by kernel_rfl) ?_
          refine C_region ?_
          refine LY rfl (y_add rfl rfl (show _ = (1 : Int) from rfl)) ?_
          refine LY rfl (y_move rfl) (L_nil ?_)
          refine In_round ?_
          refine C_seq (C_region (LY rfl (y_lss rfl rfl) (L_nil (C_seq (C_cond_t rfl (C_skip (C_seq (C_block (C_seq (C_region (LY rfl (y_move rfl) (LY rfl (y_assign rfl) (L_nil (C_seq (C_region (LY rfl (y_move rfl) (LY rfl (y_move rfl) (LY rfl (y_nilCheck rfl) (LY rfl (y_fieldAddr rfl fl_111_0) ?_)))))))))))))))))))
          refine LY rfl (y_indexA rfl rfl Try.underlying109 sz_108 (by omega) (by omega) (show _ = 2 from rfl)) ?_
          refine LY rfl (y_assign rfl) (L_nil (C_seq (C_region (LY rfl (y_move rfl) (LY rfl (y_nilCheck rfl) ?_)))))
          refine LY rfl (y_loadA rfl ag_108 sz_108 (sees 1 0 rfl) (Nat.le_of_ble_eq_true rfl) rfl) ?_
          refine L_op rfl (op_call rfl rfl (fun a w => Try.call51 a w) rfl ?_)
          refine ((there_d h3 true).sub (hsub_pick [0] rfl)).mono ?_
          rintro _ _ ⟨rfl, rfl⟩
          refine ⟨_, rfl, ?_⟩
          refine L_nil ?_
          refine C_cond rfl (fun hc2 => ?_) (fun hc2 => ?_)
          · skip
            refine C_regionH H (by kernel_rfl) ?_
            refine HY 0 rfl (hsub (.cons _ (.cons _ (.cons _ (.cons _ (.refl _)))))) rfl (y_move rfl) ?_
            refine HY 1 rfl (hsub (.cons _ (.cons _ (.cons _ (.cons _ (.refl _)))))) rfl (y_move rfl) ?_
            refine HY 2 rfl (hsub (.cons _ (.cons _ (.cons _ (.cons _ (.refl _)))))) rfl (y_move rfl) ?_
            refine H_one 3 rfl (by kernel_rfl) rfl (op_call (f := fa) (first := []) (cap := cap) rfl rfl hask.1 rfl ?_)
            refine FnS.mono (FnS.sub (hsub_pick [1, 0] rfl) (hask.2 true _ _ _ h3 (hsub (.cons _ (.cons _ (.refl _)))))) ?_
            rintro _ _ ⟨rfl, rfl⟩
            refine ⟨_, rfl, ?_⟩
            refine ⟨hsub (.cons _ (.cons _ (.cons _ (.cons _ (.refl _))))), ?_⟩
            refine HY 4 rfl (hsub (.cons _ (.cons _ (.cons _ (.cons _ (.refl _)))))) rfl (y_not rfl) ?_
            refine HY 5 rfl (hsub (.cons _ (.cons _ (.cons _ (.cons _ (.refl _)))))) rfl (y_move rfl) ?_
            refine H_case 34 rfl (fun hg9_6 => ?_) (fun hg9_6 => ?_)
            · skip
              refine HK 6 rfl (hsub (.cons _ (.cons _ (.cons _ (.cons _ (.refl _)))))) rfl ?_
              refine HK 7 rfl (hsub (.cons _ (.cons _ (.cons _ (.cons _ (.refl _)))))) rfl ?_
              refine HK 8 rfl (hsub (.cons _ (.cons _ (.cons _ (.cons _ (.refl _)))))) rfl ?_
              refine HK 9 rfl (hsub (.cons _ (.cons _ (.cons _ (.cons _ (.refl _)))))) rfl ?_
              refine HK 10 rfl (hsub (.cons _ (.cons _ (.cons _ (.cons _ (.refl _)))))) rfl ?_
              refine HK 11 rfl (hsub (.cons _ (.cons _ (.cons _ (.cons _ (.refl _)))))) rfl ?_
              refine HK 12 rfl (hsub (.cons _ (.cons _ (.cons _ (.cons _ (.refl _)))))) rfl ?_
              refine HK 13 rfl (hsub (.cons _ (.cons _ (.cons _ (.cons _ (.refl _)))))) rfl ?_
              refine HY 14 rfl (hsub (.cons _ (.cons _ (.cons _ (.cons _ (.refl _)))))) rfl (y_pick_t rfl rfl) ?_
              refine HY 15 rfl (hsub (.cons _ (.cons _ (.cons _ (.cons _ (.refl _)))))) rfl (y_indexA rfl rfl Try.underlying155 sz_4 (by omega) (by omega) (show _ = 1 from rfl)) ?_
              refine H_one 16 rfl (by kernel_rfl) rfl (op_store1 2 0 rfl rfl rfl sz_4 rfl (Nat.le_of_ble_eq_true rfl) ?_)
              refine ⟨hsub (.cons _ (.cons _ (.cons _ (.cons _ (.refl _))))), ?_⟩
              refine H_done (by kernel_rfl) ?_
              refine C_region ?_
              refine LY rfl (y_add rfl rfl (show _ = (2 : Int) from rfl)) ?_
              refine LY rfl (y_move rfl) (L_nil ?_)
              refine In_round ?_
              refine C_seq (C_region (LY rfl (y_lss rfl rfl) (L_nil (C_seq (C_cond_f rfl (C_exit (C_seq (C_seq (C_region ?_)))))))))
              refine LY rfl (y_indexA rfl rfl Try.underlying155 sz_4 (by omega) (by omega) (show _ = 0 from rfl)) ?_
              refine LY rfl (y_load rfl ag_4 (sees 2 0 rfl) rfl) (LY rfl (y_not rfl) (LY rfl (y_move rfl) ?_))
              refine LY rfl (y_indexA rfl rfl Try.underlying155 sz_4 (by omega) (by omega) (show _ = 1 from rfl)) ?_
              refine LY rfl (y_load rfl ag_4 (sees 2 0 rfl) rfl) (LY rfl (y_not rfl) (LY rfl (y_pick_t rfl rfl) (L_nil (C_cond_f rfl (C_skip (C_seq (C_seq (C_region (LY rfl (y_move rfl) (L_nil (C_block ?_)))))))))))
              refine C_loopIn (In_round ?_)
              refine C_seq (C_region (LY rfl (y_lss rfl rfl) (L_nil (C_seq (C_cond_t rfl (C_skip (C_seq (C_block (C_seq (C_region (LY rfl (y_move rfl) (LY rfl (y_assign rfl) (L_nil (C_seq (C_region (LY rfl (y_move rfl) ?_))))))))))))))))
              refine LY rfl (y_indexA rfl rfl Try.underlying155 sz_4 (by omega) (by omega) (show _ = 0 from rfl)) ?_
              refine LY rfl (y_load rfl ag_4 (sees 2 0 rfl) rfl) (L_nil (C_cond_f rfl (C_region (LY rfl (y_move rfl) (LY rfl (y_move rfl) (LY rfl (y_nilCheck rfl) (LY rfl (y_fieldAddr rfl fl_111_0) ?_)))))))
              refine LY rfl (y_indexA rfl rfl Try.underlying109 sz_108 (by omega) (by omega) (show _ = 0 from rfl)) ?_
              refine LY rfl (y_fieldAddr rfl fl_108_1) (LY rfl (y_load rfl ag_106 (sees 0 0 rfl) rfl) (LY rfl (y_move rfl) ?_))
              refine L_op rfl (op_mapUpdate 0 1 rfl rfl rfl Try.underlying106 Try.underlying3 rfl rfl ?_)
              refine L_nil (C_region ?_)
              refine LY rfl (y_add rfl rfl (show _ = (1 : Int) from rfl)) ?_
              refine LY rfl (y_move rfl) (L_nil ?_)
              refine In_round ?_
              refine C_seq (C_region (LY rfl (y_lss rfl rfl) (L_nil (C_seq (C_cond_t rfl (C_skip (C_seq (C_block (C_seq (C_region (LY rfl (y_move rfl) (LY rfl (y_assign rfl) (L_nil (C_seq (C_region (LY rfl (y_move rfl) ?_))))))))))))))))
              refine LY rfl (y_indexA rfl rfl Try.underlying155 sz_4 (by omega) (by omega) (show _ = 1 from rfl)) ?_
              refine LY rfl (y_load rfl ag_4 (sees 2 0 rfl) rfl) (L_nil (C_cond_t rfl (C_region (LY rfl (y_move rfl) (LY rfl (y_move rfl) (LY rfl (y_nilCheck rfl) (LY rfl (y_fieldAddr rfl fl_111_0) ?_)))))))
              refine LY rfl (y_indexA rfl rfl Try.underlying109 sz_108 (by omega) (by omega) (show _ = 2 from rfl)) ?_
              refine LY rfl (y_fieldAddr rfl fl_108_1) (LY rfl (y_load rfl ag_106 (sees 0 0 rfl) rfl) (LY rfl (y_move rfl) ?_))
              refine L_op rfl (op_delete 0 2 rfl rfl rfl Try.underlying106 Try.underlying3 rfl rfl ?_)
              refine L_nil (C_region ?_)
              refine LY rfl (y_add rfl rfl (show _ = (2 : Int) from rfl)) ?_
              refine LY rfl (y_move rfl) (L_nil ?_)
              refine In_round ?_
              refine C_seq (C_region (LY rfl (y_lss rfl rfl) (L_nil (C_seq (C_cond_f rfl (C_exit (C_seq (C_region (LY rfl (y_assign rfl) (L_nil (C_ret ?_)))))))))))
              refine B_ret (rv_tmp rfl rv_nil) ((hsub (.cons_cons _ (.cons_cons _ (.cons _ (.cons _ (.refl _)))))).trans (hsub_pick [0, 0] rfl)) ?_
              have e0 : putD A ask n s false = false := by simp_all [putD, pd]
              have e1 : putD A ask n s true = true := by simp_all [putD, pd, pA]
              have ea : putA A ask n s = (A.write false n s) := by simp_all [putA, pA]
              have em : putm m A ask n s = m.mark n false true := by simp [putm, hn, e0, e1]
              exact ⟨ret_int (by simp [putE, hn, e0, e1]), D3, h3.to (by simp [putDa, hn, ea]), by rw [em]; rfl⟩
            · skip
              refine HY 6 rfl (hsub (.cons _ (.cons _ (.cons _ (.cons _ (.refl _)))))) rfl (y_move rfl) ?_
              refine HY 7 rfl (hsub (.cons _ (.cons _ (.cons _ (.cons _ (.refl _)))))) rfl (y_nilCheck rfl) ?_
              refine HY 8 rfl (hsub (.cons _ (.cons _ (.cons _ (.cons _ (.refl _)))))) rfl (y_fieldAddr rfl fl_108_0) ?_
              refine HY 10 rfl (hsub (.cons _ (.cons _ (.cons _ (.cons _ (.refl _)))))) rfl (y_move rfl) ?_
              refine H_two 9 11 rfl rfl (by kernel_rfl) rfl rfl ?_ ?_
              · refine op_y (y_load rfl ag_54 (sees 0 0 rfl) rfl) rfl ?_
                refine ⟨hsub (.cons _ (.cons _ (.cons _ (.cons _ (.refl _))))), ?_⟩
                refine H_one 11 rfl (by kernel_rfl) rfl (op_y (y_loadA rfl ag_114 sz_114 (sees 3 0 rfl) (by rw [bs_length, hs]; decide) (bs_whole0 _ hs)) rfl ?_)
                refine ⟨hsub (.cons _ (.cons _ (.cons _ (.cons _ (.refl _))))), ?_⟩
                refine H_one 12 rfl (by kernel_rfl) rfl (op_call rfl rfl (fun a w => Try.call82 a w) rfl ?_)
                refine ((write_d h3 true n s hs (by have := hQ true; have q2 := Da.write_many A false n s true; omega)).sub (hsub_pick [1] rfl)).mono ?_
                rintro _ _ ⟨rfl, D6, h6, rfl⟩
                refine ⟨_, rfl, ?_⟩
                refine ⟨hsub (.cons _ (.cons _ (.cons _ (.cons _ (.refl _))))), ?_⟩
                refine HY 13 rfl (hsub (.cons _ (.cons _ (.cons _ (.cons _ (.refl _)))))) rfl (y_eqi rfl rfl) ?_
                refine H_case 42 rfl (fun hg9_14 => ?_) (fun hg9_14 => ?_)
                · skip
                  refine HY 14 rfl (hsub (.cons _ (.cons _ (.cons _ (.cons _ (.refl _)))))) rfl (y_pick_f rfl rfl) ?_
                  refine HY 15 rfl (hsub (.cons _ (.cons _ (.cons _ (.cons _ (.refl _)))))) rfl (y_indexA rfl rfl Try.underlying155 sz_4 (by omega) (by omega) (show _ = 1 from rfl)) ?_
                  refine H_one 16 rfl (by kernel_rfl) rfl (op_store1 2 0 rfl rfl rfl sz_4 rfl (Nat.le_of_ble_eq_true rfl) ?_)
                  refine ⟨hsub (.cons _ (.cons _ (.cons _ (.cons _ (.refl _))))), ?_⟩
                  refine H_done (by kernel_rfl) ?_
                  refine C_region ?_
                  refine LY rfl (y_add rfl rfl (show _ = (2 : Int) from rfl)) ?_
                  refine LY rfl (y_move rfl) (L_nil ?_)
                  refine In_round ?_
                  refine C_seq (C_region (LY rfl (y_lss rfl rfl) (L_nil (C_seq (C_cond_f rfl (C_exit (C_seq (C_seq (C_region ?_)))))))))
                  refine LY rfl (y_indexA rfl rfl Try.underlying155 sz_4 (by omega) (by omega) (show _ = 0 from rfl)) ?_
                  refine LY rfl (y_load rfl ag_4 (sees 2 0 rfl) rfl) (LY rfl (y_not rfl) (LY rfl (y_move rfl) ?_))
                  refine LY rfl (y_indexA rfl rfl Try.underlying155 sz_4 (by omega) (by omega) (show _ = 1 from rfl)) ?_
                  refine LY rfl (y_load rfl ag_4 (sees 2 0 rfl) rfl) (LY rfl (y_not rfl) (LY rfl (y_pick_t rfl rfl) (L_nil (C_cond_f rfl (C_skip (C_seq (C_seq (C_region (LY rfl (y_move rfl) (L_nil (C_block ?_)))))))))))
                  refine C_loopIn (In_round ?_)
                  refine C_seq (C_region (LY rfl (y_lss rfl rfl) (L_nil (C_seq (C_cond_t rfl (C_skip (C_seq (C_block (C_seq (C_region (LY rfl (y_move rfl) (LY rfl (y_assign rfl) (L_nil (C_seq (C_region (LY rfl (y_move rfl) ?_))))))))))))))))
                  refine LY rfl (y_indexA rfl rfl Try.underlying155 sz_4 (by omega) (by omega) (show _ = 0 from rfl)) ?_
                  refine LY rfl (y_load rfl ag_4 (sees 2 0 rfl) rfl) (L_nil (C_cond_f rfl (C_region (LY rfl (y_move rfl) (LY rfl (y_move rfl) (LY rfl (y_nilCheck rfl) (LY rfl (y_fieldAddr rfl fl_111_0) ?_)))))))
                  refine LY rfl (y_indexA rfl rfl Try.underlying109 sz_108 (by omega) (by omega) (show _ = 0 from rfl)) ?_
                  refine LY rfl (y_fieldAddr rfl fl_108_1) (LY rfl (y_load rfl ag_106 (sees 1 0 rfl) rfl) (LY rfl (y_move rfl) ?_))
                  refine L_op rfl (op_mapUpdate 1 1 rfl rfl rfl Try.underlying106 Try.underlying3 rfl rfl ?_)
                  refine L_nil (C_region ?_)
                  refine LY rfl (y_add rfl rfl (show _ = (1 : Int) from rfl)) ?_
                  refine LY rfl (y_move rfl) (L_nil ?_)
                  refine In_round ?_
                  refine C_seq (C_region (LY rfl (y_lss rfl rfl) (L_nil (C_seq (C_cond_t rfl (C_skip (C_seq (C_block (C_seq (C_region (LY rfl (y_move rfl) (LY rfl (y_assign rfl) (L_nil (C_seq (C_region (LY rfl (y_move rfl) ?_))))))))))))))))
                  refine LY rfl (y_indexA rfl rfl Try.underlying155 sz_4 (by omega) (by omega) (show _ = 1 from rfl)) ?_
                  refine LY rfl (y_load rfl ag_4 (sees 2 0 rfl) rfl) (L_nil (C_cond_t rfl (C_region (LY rfl (y_move rfl) (LY rfl (y_move rfl) (LY rfl (y_nilCheck rfl) (LY rfl (y_fieldAddr rfl fl_111_0) ?_)))))))
                  refine LY rfl (y_indexA rfl rfl Try.underlying109 sz_108 (by omega) (by omega) (show _ = 2 from rfl)) ?_
                  refine LY rfl (y_fieldAddr rfl fl_108_1) (LY rfl (y_load rfl ag_106 (sees 1 0 rfl) rfl) (LY rfl (y_move rfl) ?_))
                  refine L_op rfl (op_delete 1 2 rfl rfl rfl Try.underlying106 Try.underlying3 rfl rfl ?_)
                  refine L_nil (C_region ?_)
                  refine LY rfl (y_add rfl rfl (show _ = (2 : Int) from rfl)) ?_
                  refine LY rfl (y_move rfl) (L_nil ?_)
                  refine In_round ?_
                  refine C_seq (C_region (LY rfl (y_lss rfl rfl) (L_nil (C_seq (C_cond_f rfl (C_exit (C_seq (C_region (LY rfl (y_assign rfl) (L_nil (C_ret ?_)))))))))))
                  refine B_ret (rv_tmp rfl rv_nil) ((hsub (.cons_cons _ (.cons_cons _ (.cons _ (.cons _ (.refl _)))))).trans (hsub_pick [1, 0] rfl)) ?_
                  have e0 : putD A ask n s false = false := by simp_all [putD, pd]
                  have e1 : putD A ask n s true = true := by simp_all [putD, pd, pA]
                  have ea : putA A ask n s = ((A.write false n s).write true n s) := by simp_all [putA, pA]
                  have em : putm m A ask n s = m.mark n false true := by simp [putm, hn, e0, e1]
                  exact ⟨ret_int (by simp [putE, hn, e0, e1]), D6, h6.to (by simp [putDa, hn, ea]), by rw [em]; rfl⟩
                · skip
                  refine HY 14 rfl (hsub (.cons _ (.cons _ (.cons _ (.cons _ (.refl _)))))) rfl (y_pick_f rfl rfl) ?_
                  refine HY 15 rfl (hsub (.cons _ (.cons _ (.cons _ (.cons _ (.refl _)))))) rfl (y_indexA rfl rfl Try.underlying155 sz_4 (by omega) (by omega) (show _ = 1 from rfl)) ?_
                  refine H_one 16 rfl (by kernel_rfl) rfl (op_store1 2 0 rfl rfl rfl sz_4 rfl (Nat.le_of_ble_eq_true rfl) ?_)
                  refine ⟨hsub (.cons _ (.cons _ (.cons _ (.cons _ (.refl _))))), ?_⟩
                  refine H_done (by kernel_rfl) ?_
                  refine C_region ?_
                  refine LY rfl (y_add rfl rfl (show _ = (2 : Int) from rfl)) ?_
                  refine LY rfl (y_move rfl) (L_nil ?_)
                  refine In_round ?_
                  refine C_seq (C_region (LY rfl (y_lss rfl rfl) (L_nil (C_seq (C_cond_f rfl (C_exit (C_seq (C_seq (C_region ?_)))))))))
                  refine LY rfl (y_indexA rfl rfl Try.underlying155 sz_4 (by omega) (by omega) (show _ = 0 from rfl)) ?_
                  refine LY rfl (y_load rfl ag_4 (sees 2 0 rfl) rfl) (LY rfl (y_not rfl) (LY rfl (y_move rfl) ?_))
                  refine LY rfl (y_indexA rfl rfl Try.underlying155 sz_4 (by omega) (by omega) (show _ = 1 from rfl)) ?_
                  refine LY rfl (y_load rfl ag_4 (sees 2 0 rfl) rfl) (LY rfl (y_not rfl) (LY rfl (y_pick_t rfl rfl) (L_nil (C_cond_t rfl (C_seq (C_region (LY rfl (y_assign rfl) (L_nil (C_ret ?_)))))))))
                  refine B_ret (rv_tmp rfl rv_nil) ((hsub (.cons_cons _ (.cons_cons _ (.cons _ (.cons _ (.refl _)))))).trans (hsub_pick [1, 0] rfl)) ?_
                  have e0 : putD A ask n s false = false := by simp_all [putD, pd]
                  have e1 : putD A ask n s true = false := by simp_all [putD, pd, pA]
                  have ea : putA A ask n s = ((A.write false n s).write true n s) := by simp_all [putA, pA]
                  have em : putm m A ask n s = m := by simp [putm, hn, e0, e1]
                  exact ⟨ret_int (by simp [putE, hn, e0, e1]), D6, h6.to (by simp [putDa, hn, ea]), by rw [em]; rfl⟩
              · refine op_y (y_loadA rfl ag_114 sz_114 (sees 3 0 rfl) (by rw [bs_length, hs]; decide) (bs_whole0 _ hs)) rfl ?_
                refine ⟨hsub (.cons _ (.cons _ (.cons _ (.cons _ (.refl _))))), ?_⟩
                refine H_one 9 rfl (by kernel_rfl) rfl (op_y (y_load rfl ag_54 (sees 0 0 rfl) rfl) rfl ?_)
                refine ⟨hsub (.cons _ (.cons _ (.cons _ (.cons _ (.refl _))))), ?_⟩
                refine H_one 12 rfl (by kernel_rfl) rfl (op_call rfl rfl (fun a w => Try.call82 a w) rfl ?_)
                refine ((write_d h3 true n s hs (by have := hQ true; have q2 := Da.write_many A false n s true; omega)).sub (hsub_pick [1] rfl)).mono ?_
                rintro _ _ ⟨rfl, D7, h7, rfl⟩
                refine ⟨_, rfl, ?_⟩
                refine ⟨hsub (.cons _ (.cons _ (.cons _ (.cons _ (.refl _))))), ?_⟩
                refine HY 13 rfl (hsub (.cons _ (.cons _ (.cons _ (.cons _ (.refl _)))))) rfl (y_eqi rfl rfl) ?_
                refine H_case 42 rfl (fun hg9_14 => ?_) (fun hg9_14 => ?_)
                · skip
                  refine HY 14 rfl (hsub (.cons _ (.cons _ (.cons _ (.cons _ (.refl _)))))) rfl (y_pick_f rfl rfl) ?_
                  refine HY 15 rfl (hsub (.cons _ (.cons _ (.cons _ (.cons _ (.refl _)))))) rfl (y_indexA rfl rfl Try.underlying155 sz_4 (by omega) (by omega) (show _ = 1 from rfl)) ?_
                  refine H_one 16 rfl (by kernel_rfl) rfl (op_store1 2 0 rfl rfl rfl sz_4 rfl (Nat.le_of_ble_eq_true rfl) ?_)
                  refine ⟨hsub (.cons _ (.cons _ (.cons _ (.cons _ (.refl _))))), ?_⟩
                  refine H_done (by kernel_rfl) ?_
                  refine C_region ?_
                  refine LY rfl (y_add rfl rfl (show _ = (2 : Int) from rfl)) ?_
                  refine LY rfl (y_move rfl) (L_nil ?_)
                  refine In_round ?_
                  refine C_seq (C_region (LY rfl (y_lss rfl rfl) (L_nil (C_seq (C_cond_f rfl (C_exit (C_seq (C_seq (C_region ?_)))))))))
                  refine LY rfl (y_indexA rfl rfl Try.underlying155 sz_4 (by omega) (by omega) (show _ = 0 from rfl)) ?_
                  refine LY rfl (y_load rfl ag_4 (sees 2 0 rfl) rfl) (LY rfl (y_not rfl) (LY rfl (y_move rfl) ?_))
                  refine LY rfl (y_indexA rfl rfl Try.underlying155 sz_4 (by omega) (by omega) (show _ = 1 from rfl)) ?_
                  refine LY rfl (y_load rfl ag_4 (sees 2 0 rfl) rfl) (LY rfl (y_not rfl) (LY rfl (y_pick_t rfl rfl) (L_nil (C_cond_f rfl (C_skip (C_seq (C_seq (C_region (LY rfl (y_move rfl) (L_nil (C_block ?_)))))))))))
                  refine C_loopIn (In_round ?_)
                  refine C_seq (C_region (LY rfl (y_lss rfl rfl) (L_nil (C_seq (C_cond_t rfl (C_skip (C_seq (C_block (C_seq (C_region (LY rfl (y_move rfl) (LY rfl (y_assign rfl) (L_nil (C_seq (C_region (LY rfl (y_move rfl) ?_))))))))))))))))
                  refine LY rfl (y_indexA rfl rfl Try.underlying155 sz_4 (by omega) (by omega) (show _ = 0 from rfl)) ?_
                  refine LY rfl (y_load rfl ag_4 (sees 2 0 rfl) rfl) (L_nil (C_cond_f rfl (C_region (LY rfl (y_move rfl) (LY rfl (y_move rfl) (LY rfl (y_nilCheck rfl) (LY rfl (y_fieldAddr rfl fl_111_0) ?_)))))))
                  refine LY rfl (y_indexA rfl rfl Try.underlying109 sz_108 (by omega) (by omega) (show _ = 0 from rfl)) ?_
                  refine LY rfl (y_fieldAddr rfl fl_108_1) (LY rfl (y_load rfl ag_106 (sees 1 0 rfl) rfl) (LY rfl (y_move rfl) ?_))
                  refine L_op rfl (op_mapUpdate 1 1 rfl rfl rfl Try.underlying106 Try.underlying3 rfl rfl ?_)
                  refine L_nil (C_region ?_)
                  refine LY rfl (y_add rfl rfl (show _ = (1 : Int) from rfl)) ?_
                  refine LY rfl (y_move rfl) (L_nil ?_)
                  refine In_round ?_
                  refine C_seq (C_region (LY rfl (y_lss rfl rfl) (L_nil (C_seq (C_cond_t rfl (C_skip (C_seq (C_block (C_seq (C_region (LY rfl (y_move rfl) (LY rfl (y_assign rfl) (L_nil (C_seq (C_region (LY rfl (y_move rfl) ?_))))))))))))))))
                  refine LY rfl (y_indexA rfl rfl Try.underlying155 sz_4 (by omega) (by omega) (show _ = 1 from rfl)) ?_
                  refine LY rfl (y_load rfl ag_4 (sees 2 0 rfl) rfl) (L_nil (C_cond_t rfl (C_region (LY rfl (y_move rfl) (LY rfl (y_move rfl) (LY rfl (y_nilCheck rfl) (LY rfl (y_fieldAddr rfl fl_111_0) ?_)))))))
                  refine LY rfl (y_indexA rfl rfl Try.underlying109 sz_108 (by omega) (by omega) (show _ = 2 from rfl)) ?_
                  refine LY rfl (y_fieldAddr rfl fl_108_1) (LY rfl (y_load rfl ag_106 (sees 1 0 rfl) rfl) (LY rfl (y_move rfl) ?_))
                  refine L_op rfl (op_delete 1 2 rfl rfl rfl Try.underlying106 Try.underlying3 rfl rfl ?_)
                  refine L_nil (C_region ?_)
                  refine LY rfl (y_add rfl rfl (show _ = (2 : Int) from rfl)) ?_
                  refine LY rfl (y_move rfl) (L_nil ?_)
                  refine In_round ?_
                  refine C_seq (C_region (LY rfl (y_lss rfl rfl) (L_nil (C_seq (C_cond_f rfl (C_exit (C_seq (C_region (LY rfl (y_assign rfl) (L_nil (C_ret ?_)))))))))))
                  refine B_ret (rv_tmp rfl rv_nil) ((hsub (.cons_cons _ (.cons_cons _ (.cons _ (.cons _ (.refl _)))))).trans (hsub_pick [1, 0] rfl)) ?_
                  have e0 : putD A ask n s false = false := by simp_all [putD, pd]
                  have e1 : putD A ask n s true = true := by simp_all [putD, pd, pA]
                  have ea : putA A ask n s = ((A.write false n s).write true n s) := by simp_all [putA, pA]
                  have em : putm m A ask n s = m.mark n false true := by simp [putm, hn, e0, e1]
                  exact ⟨ret_int (by simp [putE, hn, e0, e1]), D7, h7.to (by simp [putDa, hn, ea]), by rw [em]; rfl⟩
                · skip
                  refine HY 14 rfl (hsub (.cons _ (.cons _ (.cons _ (.cons _ (.refl _)))))) rfl (y_pick_f rfl rfl) ?_
                  refine HY 15 rfl (hsub (.cons _ (.cons _ (.cons _ (.cons _ (.refl _)))))) rfl (y_indexA rfl rfl Try.underlying155 sz_4 (by omega) (by omega) (show _ = 1 from rfl)) ?_
                  refine H_one 16 rfl (by kernel_rfl) rfl (op_store1 2 0 rfl rfl rfl sz_4 rfl (Nat.le_of_ble_eq_true rfl) ?_)
                  refine ⟨hsub (.cons _ (.cons _ (.cons _ (.cons _ (.refl _))))), ?_⟩
                  refine H_done (by kernel_rfl) ?_
                  refine C_region ?_
                  refine LY rfl (y_add rfl rfl (show _ = (2 : Int) from rfl)) ?_
                  refine LY rfl (y_move rfl) (L_nil ?_)
                  refine In_round ?_
                  refine C_seq (C_region (LY rfl (y_lss rfl rfl) (L_nil (C_seq (C_cond_f rfl (C_exit (C_seq (C_seq (C_region ?_)))))))))
                  refine LY rfl (y_indexA rfl rfl Try.underlying155 sz_4 (by omega) (by omega) (show _ = 0 from rfl)) ?_
                  refine LY rfl (y_load rfl ag_4 (sees 2 0 rfl) rfl) (LY rfl (y_not rfl) (LY rfl (y_move rfl) ?_))
                  refine LY rfl (y_indexA rfl rfl Try.underlying155 sz_4 (by omega) (by omega) (show _ = 1 from rfl)) ?_
                  refine LY rfl (y_load rfl ag_4 (sees 2 0 rfl) rfl) (LY rfl (y_not rfl) (LY rfl (y_pick_t rfl rfl) (L_nil (C_cond_t rfl (C_seq (C_region (LY rfl (y_assign rfl) (L_nil (C_ret ?_)))))))))
                  refine B_ret (rv_tmp rfl rv_nil) ((hsub (.cons_cons _ (.cons_cons _ (.cons _ (.cons _ (.refl _)))))).trans (hsub_pick [1, 0] rfl)) ?_
                  have e0 : putD A ask n s false = false := by simp_all [putD, pd]
                  have e1 : putD A ask n s true = false := by simp_all [putD, pd, pA]
                  have ea : putA A ask n s = ((A.write false n s).write true n s) := by simp_all [putA, pA]
                  have em : putm m A ask n s = m := by simp [putm, hn, e0, e1]
                  exact ⟨ret_int (by simp [putE, hn, e0, e1]), D7, h7.to (by simp [putDa, hn, ea]), by rw [em]; rfl⟩
          · skip
            refine C_skip (C_region ?_)
            refine LY rfl (y_add rfl rfl (show _ = (2 : Int) from rfl)) ?_
            refine LY rfl (y_move rfl) (L_nil ?_)
            refine In_round ?_
            refine C_seq (C_region (LY rfl (y_lss rfl rfl) (L_nil (C_seq (C_cond_f rfl (C_exit (C_seq (C_seq (C_region ?_)))))))))
            refine LY rfl (y_indexA rfl rfl Try.underlying155 sz_4 (by omega) (by omega) (show _ = 0 from rfl)) ?_
            refine LY rfl (y_load rfl ag_4 (sees 2 0 rfl) rfl) (LY rfl (y_not rfl) (LY rfl (y_move rfl) ?_))
            refine LY rfl (y_indexA rfl rfl Try.underlying155 sz_4 (by omega) (by omega) (show _ = 1 from rfl)) ?_
            refine LY rfl (y_load rfl ag_4 (sees 2 0 rfl) rfl) (LY rfl (y_not rfl) (LY rfl (y_pick_t rfl rfl) (L_nil (C_cond_t rfl (C_seq (C_region (LY rfl (y_assign rfl) (L_nil (C_ret ?_)))))))))
            refine B_ret (rv_tmp rfl rv_nil) ((hsub (.cons_cons _ (.cons_cons _ (.cons _ (.cons _ (.refl _)))))).trans (hsub_pick [1, 0] rfl)) ?_
            have e0 : putD A ask n s false = false := by simp_all [putD, pd]
            have e1 : putD A ask n s true = false := by simp_all [putD, pd, pA]
            have ea : putA A ask n s = (A.write false n s) := by simp_all [putA, pA]
            have em : putm m A ask n s = m := by simp [putm, hn, e0, e1]
            exact ⟨ret_int (by simp [putE, hn, e0, e1]), D3, h3.to (by simp [putDa, hn, ea]), by rw [em]; rfl⟩
      · refine op_y (y_loadA rfl ag_114 sz_114 (sees 3 0 rfl) (by rw [bs_length, hs]; decide) (bs_whole0 _ hs)) rfl ?_
        refine ⟨hsub (.cons _ (.cons _ (.cons _ (.cons _ (.refl _))))), ?_⟩
        refine H_one 9 rfl (by kernel_rfl) rfl (op_y (y_load rfl ag_54 (sees 0 0 rfl) rfl) rfl ?_)
        refine ⟨hsub (.cons _ (.cons _ (.cons _ (.cons _ (.refl _))))), ?_⟩
        refine H_one 12 rfl (by kernel_rfl) rfl (op_call rfl rfl (fun a w => Try.call82 a w) rfl ?_)
        refine ((write_d h false n s hs (by have := hQ false; omega)).sub (hsub_pick [1] rfl)).mono ?_
        rintro _ _ ⟨rfl, D8, h8, rfl⟩
        refine ⟨_, rfl, ?_⟩
        refine ⟨hsub (.cons _ (.cons _ (.cons _ (.cons _ (.refl _))))), ?_⟩
        refine HY 13 rfl (hsub (.cons _ (.cons _ (.cons _ (.cons _ (.refl _)))))) rfl (y_eqi rfl rfl) ?_
        refine H_case 42 rfl (fun hg9_14 => ?_) (fun hg9_14 => ?_)
        · skip
          refine HY 14 rfl (hsub (.cons _ (.cons _ (.cons _ (.cons _ (.refl _)))))) rfl (y_pick_f rfl rfl) ?_
          refine HY 15 rfl (hsub (.cons _ (.cons _ (.cons _ (.cons _ (.refl _)))))) rfl (y_indexA rfl rfl Try.underlying155 sz_4 (by omega) (by omega) (show _ = 0 from rfl)) ?_
          refine H_one 16 rfl (by kernel_rfl) rfl (op_store1 2 0 rfl rfl rfl sz_4 rfl (Nat.le_of_ble_eq_true rfl) ?_)
          refine ⟨hsub (.cons _ (.cons _ (.cons _ (.cons _ (.refl _))))), ?_⟩
          refine H_done (by kernel_rfl) ?_
          refine C_region ?_
          refine LY rfl (y_add rfl rfl (show _ = (1 : Int) from rfl)) ?_
          refine LY rfl (y_move rfl) (L_nil ?_)
          refine In_round ?_
          refine C_seq (C_region (LY rfl (y_lss rfl rfl) (L_nil (C_seq (C_cond_t rfl (C_skip (C_seq (C_block (C_seq (C_region (LY rfl (y_move rfl) (LY rfl (y_assign rfl) (L_nil (C_seq (C_region (LY rfl (y_move rfl) (LY rfl (y_move rfl) (LY rfl (y_nilCheck rfl) (LY rfl (y_fieldAddr rfl fl_111_0) ?_)))))))))))))))))))
          refine LY rfl (y_indexA rfl rfl Try.underlying109 sz_108 (by omega) (by omega) (show _ = 2 from rfl)) ?_
          refine LY rfl (y_assign rfl) (L_nil (C_seq (C_region (LY rfl (y_move rfl) (LY rfl (y_nilCheck rfl) ?_)))))
          refine LY rfl (y_loadA rfl ag_108 sz_108 (sees 1 0 rfl) (Nat.le_of_ble_eq_true rfl) rfl) ?_
          refine L_op rfl (op_call rfl rfl (fun a w => Try.call51 a w) rfl ?_)
          refine ((there_d h8 true).sub (hsub_pick [0] rfl)).mono ?_
          rintro _ _ ⟨rfl, rfl⟩
          refine ⟨_, rfl, ?_⟩
          refine L_nil ?_
          refine C_cond rfl (fun hc2 => ?_) (fun hc2 => ?_)
          · skip
            refine C_regionH H (by kernel_rfl) ?_
            refine HY 0 rfl (hsub (.cons _ (.cons _ (.cons _ (.cons _ (.refl _)))))) rfl (y_move rfl) ?_
            refine HY 1 rfl (hsub (.cons _ (.cons _ (.cons _ (.cons _ (.refl _)))))) rfl (y_move rfl) ?_
            refine HY 2 rfl (hsub (.cons _ (.cons _ (.cons _ (.cons _ (.refl _)))))) rfl (y_move rfl) ?_
            refine H_one 3 rfl (by kernel_rfl) rfl (op_call (f := fa) (first := []) (cap := cap) rfl rfl hask.1 rfl ?_)
            refine FnS.mono (FnS.sub (hsub_pick [1, 0] rfl) (hask.2 true _ _ _ h8 (hsub (.cons _ (.cons _ (.refl _)))))) ?_
            rintro _ _ ⟨rfl, rfl⟩
            refine ⟨_, rfl, ?_⟩
            refine ⟨hsub (.cons _ (.cons _ (.cons _ (.cons _ (.refl _))))), ?_⟩
            refine HY 4 rfl (hsub (.cons _ (.cons _ (.cons _ (.cons _ (.refl _)))))) rfl (y_not rfl) ?_
            refine HY 5 rfl (hsub (.cons _ (.cons _ (.cons _ (.cons _ (.refl _)))))) rfl (y_move rfl) ?_
            refine H_case 34 rfl (fun hg9_6 => ?_) (fun hg9_6 => ?_)
            · skip
              refine HK 6 rfl (hsub (.cons _ (.cons _ (.cons _ (.cons _ (.refl _)))))) rfl ?_
              refine HK 7 rfl (hsub (.cons _ (.cons _ (.cons _ (.cons _ (.refl _)))))) rfl ?_
              refine HK 8 rfl (hsub (.cons _ (.cons _ (.cons _ (.cons _ (.refl _)))))) rfl ?_
              refine HK 9 rfl (hsub (.cons _ (.cons _ (.cons _ (.cons _ (.refl _)))))) rfl ?_
              refine HK 10 rfl (hsub (.cons _ (.cons _ (.cons _ (.cons _ (.refl _)))))) rfl ?_
              refine HK 11 rfl (hsub (.cons _ (.cons _ (.cons _ (.cons _ (.refl _)))))) rfl ?_
              refine HK 12 rfl (hsub (.cons _ (.cons _ (.cons _ (.cons _ (.refl _)))))) rfl ?_
              refine HK 13 rfl (hsub (.cons _ (.cons _ (.cons _ (.cons _ (.refl _)))))) rfl ?_
              refine HY 14 rfl (hsub (.cons _ (.cons _ (.cons _ (.cons _ (.refl _)))))) rfl (y_pick_t rfl rfl) ?_
              refine HY 15 rfl (hsub (.cons _ (.cons _ (.cons _ (.cons _ (.refl _)))))) rfl (y_indexA rfl rfl Try.underlying155 sz_4 (by omega) (by omega) (show _ = 1 from rfl)) ?_
              refine H_one 16 rfl (by kernel_rfl) rfl (op_store1 2 0 rfl rfl rfl sz_4 rfl (Nat.le_of_ble_eq_true rfl) ?_)
              refine ⟨hsub (.cons _ (.cons _ (.cons _ (.cons _ (.refl _))))), ?_⟩
              refine H_done (by kernel_rfl) ?_
              refine C_region ?_
              refine LY rfl (y_add rfl rfl (show _ = (2 : Int) from rfl)) ?_
              refine LY rfl (y_move rfl) (L_nil ?_)
              refine In_round ?_
              refine C_seq (C_region (LY rfl (y_lss rfl rfl) (L_nil (C_seq (C_cond_f rfl (C_exit (C_seq (C_seq (C_region ?_)))))))))
              refine LY rfl (y_indexA rfl rfl Try.underlying155 sz_4 (by omega) (by omega) (show _ = 0 from rfl)) ?_
              refine LY rfl (y_load rfl ag_4 (sees 2 0 rfl) rfl) (LY rfl (y_not rfl) (LY rfl (y_move rfl) (L_skip rfl rfl (L_skip rfl rfl (L_skip rfl rfl (LY rfl (y_pick_f rfl rfl) (L_nil (C_cond_f rfl (C_skip (C_seq (C_seq (C_region (LY rfl (y_move rfl) (L_nil (C_block ?_)))))))))))))))
              refine C_loopIn (In_round ?_)
              refine C_seq (C_region (LY rfl (y_lss rfl rfl) (L_nil (C_seq (C_cond_t rfl (C_skip (C_seq (C_block (C_seq (C_region (LY rfl (y_move rfl) (LY rfl (y_assign rfl) (L_nil (C_seq (C_region (LY rfl (y_move rfl) ?_))))))))))))))))
              refine LY rfl (y_indexA rfl rfl Try.underlying155 sz_4 (by omega) (by omega) (show _ = 0 from rfl)) ?_
              refine LY rfl (y_load rfl ag_4 (sees 2 0 rfl) rfl) (L_nil (C_cond_t rfl (C_region (LY rfl (y_move rfl) (LY rfl (y_move rfl) (LY rfl (y_nilCheck rfl) (LY rfl (y_fieldAddr rfl fl_111_0) ?_)))))))
              refine LY rfl (y_indexA rfl rfl Try.underlying109 sz_108 (by omega) (by omega) (show _ = 0 from rfl)) ?_
              refine LY rfl (y_fieldAddr rfl fl_108_1) (LY rfl (y_load rfl ag_106 (sees 0 0 rfl) rfl) (LY rfl (y_move rfl) ?_))
              refine L_op rfl (op_delete 0 1 rfl rfl rfl Try.underlying106 Try.underlying3 rfl rfl ?_)
              refine L_nil (C_region ?_)
              refine LY rfl (y_add rfl rfl (show _ = (1 : Int) from rfl)) ?_
              refine LY rfl (y_move rfl) (L_nil ?_)
              refine In_round ?_
              refine C_seq (C_region (LY rfl (y_lss rfl rfl) (L_nil (C_seq (C_cond_t rfl (C_skip (C_seq (C_block (C_seq (C_region (LY rfl (y_move rfl) (LY rfl (y_assign rfl) (L_nil (C_seq (C_region (LY rfl (y_move rfl) ?_))))))))))))))))
              refine LY rfl (y_indexA rfl rfl Try.underlying155 sz_4 (by omega) (by omega) (show _ = 1 from rfl)) ?_
              refine LY rfl (y_load rfl ag_4 (sees 2 0 rfl) rfl) (L_nil (C_cond_t rfl (C_region (LY rfl (y_move rfl) (LY rfl (y_move rfl) (LY rfl (y_nilCheck rfl) (LY rfl (y_fieldAddr rfl fl_111_0) ?_)))))))
              refine LY rfl (y_indexA rfl rfl Try.underlying109 sz_108 (by omega) (by omega) (show _ = 2 from rfl)) ?_
              refine LY rfl (y_fieldAddr rfl fl_108_1) (LY rfl (y_load rfl ag_106 (sees 0 0 rfl) rfl) (LY rfl (y_move rfl) ?_))
              refine L_op rfl (op_delete 0 2 rfl rfl rfl Try.underlying106 Try.underlying3 rfl rfl ?_)
              refine L_nil (C_region ?_)
              refine LY rfl (y_add rfl rfl (show _ = (2 : Int) from rfl)) ?_
              refine LY rfl (y_move rfl) (L_nil ?_)
              refine In_round ?_
              refine C_seq (C_region (LY rfl (y_lss rfl rfl) (L_nil (C_seq (C_cond_f rfl (C_exit (C_seq (C_region (LY rfl (y_assign rfl) (L_nil (C_ret ?_)))))))))))
              refine B_ret (rv_tmp rfl rv_nil) ((hsub (.cons_cons _ (.cons_cons _ (.cons _ (.cons _ (.refl _)))))).trans (hsub_pick [0, 0] rfl)) ?_
              have e0 : putD A ask n s false = true := by simp_all [putD, pd]
              have e1 : putD A ask n s true = true := by simp_all [putD, pd, pA]
              have ea : putA A ask n s = (A.write false n s) := by simp_all [putA, pA]
              have em : putm m A ask n s = m.mark n true true := by simp [putm, hn, e0, e1]
              exact ⟨ret_int (by simp [putE, hn, e0, e1]), D8, h8.to (by simp [putDa, hn, ea]), by rw [em]; rfl⟩
            · skip
              refine HY 6 rfl (hsub (.cons _ (.cons _ (.cons _ (.cons _ (.refl _)))))) rfl (y_move rfl) ?_
              refine HY 7 rfl (hsub (.cons _ (.cons _ (.cons _ (.cons _ (.refl _)))))) rfl (y_nilCheck rfl) ?_
              refine HY 8 rfl (hsub (.cons _ (.cons _ (.cons _ (.cons _ (.refl _)))))) rfl (y_fieldAddr rfl fl_108_0) ?_
              refine HY 10 rfl (hsub (.cons _ (.cons _ (.cons _ (.cons _ (.refl _)))))) rfl (y_move rfl) ?_
              refine H_two 9 11 rfl rfl (by kernel_rfl) rfl rfl ?_ ?_
              · refine op_y (y_load rfl ag_54 (sees 0 0 rfl) rfl) rfl ?_
                refine ⟨hsub (.cons _ (.cons _ (.cons _ (.cons _ (.refl _))))), ?_⟩
                refine H_one 11 rfl (by kernel_rfl) rfl (op_y (y_loadA rfl ag_114 sz_114 (sees 3 0 rfl) (by rw [bs_length, hs]; decide) (bs_whole0 _ hs)) rfl ?_)
                refine ⟨hsub (.cons _ (.cons _ (.cons _ (.cons _ (.refl _))))), ?_⟩
                refine H_one 12 rfl (by kernel_rfl) rfl (op_call rfl rfl (fun a w => Try.call82 a w) rfl ?_)
                refine ((write_d h8 true n s hs (by have := hQ true; have q2 := Da.write_many A false n s true; omega)).sub (hsub_pick [1] rfl)).mono ?_
                rintro _ _ ⟨rfl, D9, h9, rfl⟩
                refine ⟨_, rfl, ?_⟩
                refine ⟨hsub (.cons _ (.cons _ (.cons _ (.cons _ (.refl _))))), ?_⟩
                refine HY 13 rfl (hsub (.cons _ (.cons _ (.cons _ (.cons _ (.refl _)))))) rfl (y_eqi rfl rfl) ?_
                refine H_case 42 rfl (fun hg9_14 => ?_) (fun hg9_14 => ?_)
                · skip
                  refine HY 14 rfl (hsub (.cons _ (.cons _ (.cons _ (.cons _ (.refl _)))))) rfl (y_pick_f rfl rfl) ?_
                  refine HY 15 rfl (hsub (.cons _ (.cons _ (.cons _ (.cons _ (.refl _)))))) rfl (y_indexA rfl rfl Try.underlying155 sz_4 (by omega) (by omega) (show _ = 1 from rfl)) ?_
                  refine H_one 16 rfl (by kernel_rfl) rfl (op_store1 2 0 rfl rfl rfl sz_4 rfl (Nat.le_of_ble_eq_true rfl) ?_)
                  refine ⟨hsub (.cons _ (.cons _ (.cons _ (.cons _ (.refl _))))), ?_⟩
                  refine H_done (by kernel_rfl) ?_
                  refine C_region ?_
                  refine LY rfl (y_add rfl rfl (show _ = (2 : Int) from rfl)) ?_
                  refine LY rfl (y_move rfl) (L_nil ?_)
                  refine In_round ?_
                  refine C_seq (C_region (LY rfl (y_lss rfl rfl) (L_nil (C_seq (C_cond_f rfl (C_exit (C_seq (C_seq (C_region ?_)))))))))
                  refine LY rfl (y_indexA rfl rfl Try.underlying155 sz_4 (by omega) (by omega) (show _ = 0 from rfl)) ?_
                  refine LY rfl (y_load rfl ag_4 (sees 2 0 rfl) rfl) (LY rfl (y_not rfl) (LY rfl (y_move rfl) (L_skip rfl rfl (L_skip rfl rfl (L_skip rfl rfl (LY rfl (y_pick_f rfl rfl) (L_nil (C_cond_f rfl (C_skip (C_seq (C_seq (C_region (LY rfl (y_move rfl) (L_nil (C_block ?_)))))))))))))))
                  refine C_loopIn (In_round ?_)
                  refine C_seq (C_region (LY rfl (y_lss rfl rfl) (L_nil (C_seq (C_cond_t rfl (C_skip (C_seq (C_block (C_seq (C_region (LY rfl (y_move rfl) (LY rfl (y_assign rfl) (L_nil (C_seq (C_region (LY rfl (y_move rfl) ?_))))))))))))))))
                  refine LY rfl (y_indexA rfl rfl Try.underlying155 sz_4 (by omega) (by omega) (show _ = 0 from rfl)) ?_
                  refine LY rfl (y_load rfl ag_4 (sees 2 0 rfl) rfl) (L_nil (C_cond_t rfl (C_region (LY rfl (y_move rfl) (LY rfl (y_move rfl) (LY rfl (y_nilCheck rfl) (LY rfl (y_fieldAddr rfl fl_111_0) ?_)))))))
                  refine LY rfl (y_indexA rfl rfl Try.underlying109 sz_108 (by omega) (by omega) (show _ = 0 from rfl)) ?_
                  refine LY rfl (y_fieldAddr rfl fl_108_1) (LY rfl (y_load rfl ag_106 (sees 1 0 rfl) rfl) (LY rfl (y_move rfl) ?_))
                  refine L_op rfl (op_delete 1 1 rfl rfl rfl Try.underlying106 Try.underlying3 rfl rfl ?_)
                  refine L_nil (C_region ?_)
                  refine LY rfl (y_add rfl rfl (show _ = (1 : Int) from rfl)) ?_
                  refine LY rfl (y_move rfl) (L_nil ?_)
                  refine In_round ?_
                  refine C_seq (C_region (LY rfl (y_lss rfl rfl) (L_nil (C_seq (C_cond_t rfl (C_skip (C_seq (C_block (C_seq (C_region (LY rfl (y_move rfl) (LY rfl (y_assign rfl) (L_nil (C_seq (C_region (LY rfl (y_move rfl) ?_))))))))))))))))
                  refine LY rfl (y_indexA rfl rfl Try.underlying155 sz_4 (by omega) (by omega) (show _ = 1 from rfl)) ?_
                  refine LY rfl (y_load rfl ag_4 (sees 2 0 rfl) rfl) (L_nil (C_cond_t rfl (C_region (LY rfl (y_move rfl) (LY rfl (y_move rfl) (LY rfl (y_nilCheck rfl) (LY rfl (y_fieldAddr rfl fl_111_0) ?_)))))))
                  refine LY rfl (y_indexA rfl rfl Try.underlying109 sz_108 (by omega) (by omega) (show _ = 2 from rfl)) ?_
                  refine LY rfl (y_fieldAddr rfl fl_108_1) (LY rfl (y_load rfl ag_106 (sees 1 0 rfl) rfl) (LY rfl (y_move rfl) ?_))
                  refine L_op rfl (op_delete 1 2 rfl rfl rfl Try.underlying106 Try.underlying3 rfl rfl ?_)
                  refine L_nil (C_region ?_)
                  refine LY rfl (y_add rfl rfl (show _ = (2 : Int) from rfl)) ?_
                  refine LY rfl (y_move rfl) (L_nil ?_)
                  refine In_round ?_
                  refine C_seq (C_region (LY rfl (y_lss rfl rfl) (L_nil (C_seq (C_cond_f rfl (C_exit (C_seq (C_region (LY rfl (y_assign rfl) (L_nil (C_ret ?_)))))))))))
                  refine B_ret (rv_tmp rfl rv_nil) ((hsub (.cons_cons _ (.cons_cons _ (.cons _ (.cons _ (.refl _)))))).trans (hsub_pick [1, 0] rfl)) ?_
                  have e0 : putD A ask n s false = true := by simp_all [putD, pd]
                  have e1 : putD A ask n s true = true := by simp_all [putD, pd, pA]
                  have ea : putA A ask n s = ((A.write false n s).write true n s) := by simp_all [putA, pA]
                  have em : putm m A ask n s = m.mark n true true := by simp [putm, hn, e0, e1]
                  exact ⟨ret_int (by simp [putE, hn, e0, e1]), D9, h9.to (by simp [putDa, hn, ea]), by rw [em]; rfl⟩
                · skip
                  refine HY 14 rfl (hsub (.cons _ (.cons _ (.cons _ (.cons _ (.refl _)))))) rfl (y_pick_f rfl rfl) ?_
                  refine HY 15 rfl (hsub (.cons _ (.cons _ (.cons _ (.cons _ (.refl _)))))) rfl (y_indexA rfl rfl Try.underlying155 sz_4 (by omega) (by omega) (show _ = 1 from rfl)) ?_
                  refine H_one 16 rfl (by kernel_rfl) rfl (op_store1 2 0 rfl rfl rfl sz_4 rfl (Nat.le_of_ble_eq_true rfl) ?_)
                  refine ⟨hsub (.cons _ (.cons _ (.cons _ (.cons _ (.refl _))))), ?_⟩
                  refine H_done (by kernel_rfl) ?_
                  refine C_region ?_
                  refine LY rfl (y_add rfl rfl (show _ = (2 : Int) from rfl)) ?_
                  refine LY rfl (y_move rfl) (L_nil ?_)
                  refine In_round ?_
                  refine C_seq (C_region (LY rfl (y_lss rfl rfl) (L_nil (C_seq (C_cond_f rfl (C_exit (C_seq (C_seq (C_region ?_)))))))))
                  refine LY rfl (y_indexA rfl rfl Try.underlying155 sz_4 (by omega) (by omega) (show _ = 0 from rfl)) ?_
                  refine LY rfl (y_load rfl ag_4 (sees 2 0 rfl) rfl) (LY rfl (y_not rfl) (LY rfl (y_move rfl) (L_skip rfl rfl (L_skip rfl rfl (L_skip rfl rfl (LY rfl (y_pick_f rfl rfl) (L_nil (C_cond_f rfl (C_skip (C_seq (C_seq (C_region (LY rfl (y_move rfl) (L_nil (C_block ?_)))))))))))))))
                  refine C_loopIn (In_round ?_)
                  refine C_seq (C_region (LY rfl (y_lss rfl rfl) (L_nil (C_seq (C_cond_t rfl (C_skip (C_seq (C_block (C_seq (C_region (LY rfl (y_move rfl) (LY rfl (y_assign rfl) (L_nil (C_seq (C_region (LY rfl (y_move rfl) ?_))))))))))))))))
                  refine LY rfl (y_indexA rfl rfl Try.underlying155 sz_4 (by omega) (by omega) (show _ = 0 from rfl)) ?_
                  refine LY rfl (y_load rfl ag_4 (sees 2 0 rfl) rfl) (L_nil (C_cond_t rfl (C_region (LY rfl (y_move rfl) (LY rfl (y_move rfl) (LY rfl (y_nilCheck rfl) (LY rfl (y_fieldAddr rfl fl_111_0) ?_)))))))
                  refine LY rfl (y_indexA rfl rfl Try.underlying109 sz_108 (by omega) (by omega) (show _ = 0 from rfl)) ?_
                  refine LY rfl (y_fieldAddr rfl fl_108_1) (LY rfl (y_load rfl ag_106 (sees 1 0 rfl) rfl) (LY rfl (y_move rfl) ?_))
                  refine L_op rfl (op_delete 1 1 rfl rfl rfl Try.underlying106 Try.underlying3 rfl rfl ?_)
                  refine L_nil (C_region ?_)
                  refine LY rfl (y_add rfl rfl (show _ = (1 : Int) from rfl)) ?_
                  refine LY rfl (y_move rfl) (L_nil ?_)
                  refine In_round ?_
                  refine C_seq (C_region (LY rfl (y_lss rfl rfl) (L_nil (C_seq (C_cond_t rfl (C_skip (C_seq (C_block (C_seq (C_region (LY rfl (y_move rfl) (LY rfl (y_assign rfl) (L_nil (C_seq (C_region (LY rfl (y_move rfl) ?_))))))))))))))))
                  refine LY rfl (y_indexA rfl rfl Try.underlying155 sz_4 (by omega) (by omega) (show _ = 1 from rfl)) ?_
                  refine LY rfl (y_load rfl ag_4 (sees 2 0 rfl) rfl) (L_nil (C_cond_f rfl (C_region (LY rfl (y_move rfl) (LY rfl (y_move rfl) (LY rfl (y_nilCheck rfl) (LY rfl (y_fieldAddr rfl fl_111_0) ?_)))))))
                  refine LY rfl (y_indexA rfl rfl Try.underlying109 sz_108 (by omega) (by omega) (show _ = 2 from rfl)) ?_
                  refine LY rfl (y_fieldAddr rfl fl_108_1) (LY rfl (y_load rfl ag_106 (sees 1 0 rfl) rfl) (LY rfl (y_move rfl) ?_))
                  refine L_op rfl (op_mapUpdate 1 2 rfl rfl rfl Try.underlying106 Try.underlying3 rfl rfl ?_)
                  refine L_nil (C_region ?_)
                  refine LY rfl (y_add rfl rfl (show _ = (2 : Int) from rfl)) ?_
                  refine LY rfl (y_move rfl) (L_nil ?_)
                  refine In_round ?_
                  refine C_seq (C_region (LY rfl (y_lss rfl rfl) (L_nil (C_seq (C_cond_f rfl (C_exit (C_seq (C_region (LY rfl (y_assign rfl) (L_nil (C_ret ?_)))))))))))
                  refine B_ret (rv_tmp rfl rv_nil) ((hsub (.cons_cons _ (.cons_cons _ (.cons _ (.cons _ (.refl _)))))).trans (hsub_pick [1, 0] rfl)) ?_
                  have e0 : putD A ask n s false = true := by simp_all [putD, pd]
                  have e1 : putD A ask n s true = false := by simp_all [putD, pd, pA]
                  have ea : putA A ask n s = ((A.write false n s).write true n s) := by simp_all [putA, pA]
                  have em : putm m A ask n s = m.mark n true false := by simp [putm, hn, e0, e1]
                  exact ⟨ret_int (by simp [putE, hn, e0, e1]), D9, h9.to (by simp [putDa, hn, ea]), by rw [em]; rfl⟩
              · refine op_y (y_loadA rfl ag_114 sz_114 (sees 3 0 rfl) (by rw [bs_length, hs]; decide) (bs_whole0 _ hs)) rfl ?_
                refine ⟨hsub (.cons _ (.cons _ (.cons _ (.cons _ (.refl _))))), ?_⟩
                refine H_one 9 rfl (by kernel_rfl) rfl (op_y (y_load rfl ag_54 (sees 0 0 rfl) rfl) rfl ?_)
                refine ⟨hsub (.cons _ (.cons _ (.cons _ (.cons _ (.refl _))))), ?_⟩
                refine H_one 12 rfl (by kernel_rfl) rfl (op_call rfl rfl (fun a w => Try.call82 a w) rfl ?_)
                refine ((write_d h8 true n s hs (by have := hQ true; have q2 := Da.write_many A false n s true; omega)).sub (hsub_pick [1] rfl)).mono ?_
                rintro _ _ ⟨rfl, D10, h10, rfl⟩
                refine ⟨_, rfl, ?_⟩
                refine ⟨hsub (.cons _ (.cons _ (.cons _ (.cons _ (.refl _))))), ?_⟩
                refine HY 13 rfl (hsub (.cons _ (.cons _ (.cons _ (.cons _ (.refl _)))))) rfl (y_eqi rfl rfl) ?_
                refine H_case 42 rfl (fun hg9_14 => ?_) (fun hg9_14 => ?_)
                · skip
                  refine HY 14 rfl (hsub (.cons _ (.cons _ (.cons _ (.cons _ (.refl _)))))) rfl (y_pick_f rfl rfl) ?_
                  refine HY 15 rfl (hsub (.cons _ (.cons _ (.cons _ (.cons _ (.refl _)))))) rfl (y_indexA rfl rfl Try.underlying155 sz_4 (by omega) (by omega) (show _ = 1 from rfl)) ?_
                  refine H_one 16 rfl (by kernel_rfl) rfl (op_store1 2 0 rfl rfl rfl sz_4 rfl (Nat.le_of_ble_eq_true rfl) ?_)
                  refine ⟨hsub (.cons _ (.cons _ (.cons _ (.cons _ (.refl _))))), ?_⟩
                  refine H_done (by kernel_rfl) ?_
                  refine C_region ?_
                  refine LY rfl (y_add rfl rfl (show _ = (2 : Int) from rfl)) ?_
                  refine LY rfl (y_move rfl) (L_nil ?_)
                  refine In_round ?_
                  refine C_seq (C_region (LY rfl (y_lss rfl rfl) (L_nil (C_seq (C_cond_f rfl (C_exit (C_seq (C_seq (C_region ?_)))))))))
                  refine LY rfl (y_indexA rfl rfl Try.underlying155 sz_4 (by omega) (by omega) (show _ = 0 from rfl)) ?_
                  refine LY rfl (y_load rfl ag_4 (sees 2 0 rfl) rfl) (LY rfl (y_not rfl) (LY rfl (y_move rfl) (L_skip rfl rfl (L_skip rfl rfl (L_skip rfl rfl (LY rfl (y_pick_f rfl rfl) (L_nil (C_cond_f rfl (C_skip (C_seq (C_seq (C_region (LY rfl (y_move rfl) (L_nil (C_block ?_)))))))))))))))
                  refine C_loopIn (In_round ?_)
                  refine C_seq (C_region (LY rfl (y_lss rfl rfl) (L_nil (C_seq (C_cond_t rfl (C_skip (C_seq (C_block (C_seq (C_region (LY rfl (y_move rfl) (LY rfl (y_assign rfl) (L_nil (C_seq (C_region (LY rfl (y_move rfl) ?_))))))))))))))))
                  refine LY rfl (y_indexA rfl rfl Try.underlying155 sz_4 (by omega) (by omega) (show _ = 0 from rfl)) ?_
                  refine LY rfl (y_load rfl ag_4 (sees 2 0 rfl) rfl) (L_nil (C_cond_t rfl (C_region (LY rfl (y_move rfl) (LY rfl (y_move rfl) (LY rfl (y_nilCheck rfl) (LY rfl (y_fieldAddr rfl fl_111_0) ?_)))))))
                  refine LY rfl (y_indexA rfl rfl Try.underlying109 sz_108 (by omega) (by omega) (show _ = 0 from rfl)) ?_
                  refine LY rfl (y_fieldAddr rfl fl_108_1) (LY rfl (y_load rfl ag_106 (sees 1 0 rfl) rfl) (LY rfl (y_move rfl) ?_))
                  refine L_op rfl (op_delete 1 1 rfl rfl rfl Try.underlying106 Try.underlying3 rfl rfl ?_)
                  refine L_nil (C_region ?_)
                  refine LY rfl (y_add rfl rfl (show _ = (1 : Int) from rfl)) ?_
                  refine LY rfl (y_move rfl) (L_nil ?_)
                  refine In_round ?_
                  refine C_seq (C_region (LY rfl (y_lss rfl rfl) (L_nil (C_seq (C_cond_t rfl (C_skip (C_seq (C_block (C_seq (C_region (LY rfl (y_move rfl) (LY rfl (y_assign rfl) (L_nil (C_seq (C_region (LY rfl (y_move rfl) ?_))))))))))))))))
                  refine LY rfl (y_indexA rfl rfl Try.underlying155 sz_4 (by omega) (by omega) (show _ = 1 from rfl)) ?_
                  refine LY rfl (y_load rfl ag_4 (sees 2 0 rfl) rfl) (L_nil (C_cond_t rfl (C_region (LY rfl (y_move rfl) (LY rfl (y_move rfl) (LY rfl (y_nilCheck rfl) (LY rfl (y_fieldAddr rfl fl_111_0) ?_)))))))
                  refine LY rfl (y_indexA rfl rfl Try.underlying109 sz_108 (by omega) (by omega) (show _ = 2 from rfl)) ?_
                  refine LY rfl (y_fieldAddr rfl fl_108_1) (LY rfl (y_load rfl ag_106 (sees 1 0 rfl) rfl) (LY rfl (y_move rfl) ?_))
                  refine L_op rfl (op_delete 1 2 rfl rfl rfl Try.underlying106 Try.underlying3 rfl rfl ?_)
                  refine L_nil (C_region ?_)
                  refine LY rfl (y_add rfl rfl (show _ = (2 : Int) from rfl)) ?_
                  refine LY rfl (y_move rfl) (L_nil ?_)
                  refine In_round ?_
                  refine C_seq (C_region (LY rfl (y_lss rfl rfl) (L_nil (C_seq (C_cond_f rfl (C_exit (C_seq (C_region (LY rfl (y_assign rfl) (L_nil (C_ret ?_)))))))))))
                  refine B_ret (rv_tmp rfl rv_nil) ((hsub (.cons_cons _ (.cons_cons _ (.cons _ (.cons _ (.refl _)))))).trans (hsub_pick [1, 0] rfl)) ?_
                  have e0 : putD A ask n s false = true := by simp_all [putD, pd]
                  have e1 : putD A ask n s true = true := by simp_all [putD, pd, pA]
                  have ea : putA A ask n s = ((A.write false n s).write true n s) := by simp_all [putA, pA]
                  have em : putm m A ask n s = m.mark n true true := by simp [putm, hn, e0, e1]
                  exact ⟨ret_int (by simp [putE, hn, e0, e1]), D10, h10.to (by simp [putDa, hn, ea]), by rw [em]; rfl⟩
                · skip
                  refine HY 14 rfl (hsub (.cons _ (.cons _ (.cons _ (.cons _ (.refl _)))))) rfl (y_pick_f rfl rfl) ?_
                  refine HY 15 rfl (hsub (.cons _ (.cons _ (.cons _ (.cons _ (.refl _)))))) rfl (y_indexA rfl rfl Try.underlying155 sz_4 (by omega) (by omega) (show _ = 1 from rfl)) ?_
                  refine H_one 16 rfl (by kernel_rfl) rfl (op_store1 2 0 rfl rfl rfl sz_4 rfl (Nat.le_of_ble_eq_true rfl) ?_)
                  refine ⟨hsub (.cons _ (.cons _ (.cons _ (.cons _ (.refl _))))), ?_⟩
                  refine H_done (by kernel_rfl) ?_
                  refine C_region ?_
                  refine LY rfl (y_add rfl rfl (show _ = (2 : Int) from rfl)) ?_
                  refine LY rfl (y_move rfl) (L_nil ?_)
                  refine In_round ?_
                  refine C_seq (C_region (LY rfl (y_lss rfl rfl) (L_nil (C_seq (C_cond_f rfl (C_exit (C_seq (C_seq (C_region ?_)))))))))
                  refine LY rfl (y_indexA rfl rfl Try.underlying155 sz_4 (by omega) (by omega) (show _ = 0 from rfl)) ?_
                  refine LY rfl (y_load rfl ag_4 (sees 2 0 rfl) rfl) (LY rfl (y_not rfl) (LY rfl (y_move rfl) (L_skip rfl rfl (L_skip rfl rfl (L_skip rfl rfl (LY rfl (y_pick_f rfl rfl) (L_nil (C_cond_f rfl (C_skip (C_seq (C_seq (C_region (LY rfl (y_move rfl) (L_nil (C_block ?_)))))))))))))))
                  refine C_loopIn (In_round ?_)
                  refine C_seq (C_region (LY rfl (y_lss rfl rfl) (L_nil (C_seq (C_cond_t rfl (C_skip (C_seq (C_block (C_seq (C_region (LY rfl (y_move rfl) (LY rfl (y_assign rfl) (L_nil (C_seq (C_region (LY rfl (y_move rfl) ?_))))))))))))))))
                  refine LY rfl (y_indexA rfl rfl Try.underlying155 sz_4 (by omega) (by omega) (show _ = 0 from rfl)) ?_
                  refine LY rfl (y_load rfl ag_4 (sees 2 0 rfl) rfl) (L_nil (C_cond_t rfl (C_region (LY rfl (y_move rfl) (LY rfl (y_move rfl) (LY rfl (y_nilCheck rfl) (LY rfl (y_fieldAddr rfl fl_111_0) ?_)))))))
                  refine LY rfl (y_indexA rfl rfl Try.underlying109 sz_108 (by omega) (by omega) (show _ = 0 from rfl)) ?_
                  refine LY rfl (y_fieldAddr rfl fl_108_1) (LY rfl (y_load rfl ag_106 (sees 1 0 rfl) rfl) (LY rfl (y_move rfl) ?_))
                  refine L_op rfl (op_delete 1 1 rfl rfl rfl Try.underlying106 Try.underlying3 rfl rfl ?_)
                  refine L_nil (C_region ?_)
                  refine LY rfl (y_add rfl rfl (show _ = (1 : Int) from rfl)) ?_
                  refine LY rfl (y_move rfl) (L_nil ?_)
                  refine In_round ?_
                  refine C_seq (C_region (LY rfl (y_lss rfl rfl) (L_nil (C_seq (C_cond_t rfl (C_skip (C_seq (C_block (C_seq (C_region (LY rfl (y_move rfl) (LY rfl (y_assign rfl) (L_nil (C_seq (C_region (LY rfl (y_move rfl) ?_))))))))))))))))
                  refine LY rfl (y_indexA rfl rfl Try.underlying155 sz_4 (by omega) (by omega) (show _ = 1 from rfl)) ?_
                  refine LY rfl (y_load rfl ag_4 (sees 2 0 rfl) rfl) (L_nil (C_cond_f rfl (C_region (LY rfl (y_move rfl) (LY rfl (y_move rfl) (LY rfl (y_nilCheck rfl) (LY rfl (y_fieldAddr rfl fl_111_0) ?_)))))))
                  refine LY rfl (y_indexA rfl rfl Try.underlying109 sz_108 (by omega) (by omega) (show _ = 2 from rfl)) ?_
                  refine LY rfl (y_fieldAddr rfl fl_108_1) (LY rfl (y_load rfl ag_106 (sees 1 0 rfl) rfl) (LY rfl (y_move rfl) ?_))
                  refine L_op rfl (op_mapUpdate 1 2 rfl rfl rfl Try.underlying106 Try.underlying3 rfl rfl ?_)
                  refine L_nil (C_region ?_)
                  refine LY rfl (y_add rfl rfl (show _ = (2 : Int) from rfl)) ?_
                  refine LY rfl (y_move rfl) (L_nil ?_)
                  refine In_round ?_
                  refine C_seq (C_region (LY rfl (y_lss rfl rfl) (L_nil (C_seq (C_cond_f rfl (C_exit (C_seq (C_region (LY rfl (y_assign rfl) (L_nil (C_ret ?_)))))))))))
                  refine B_ret (rv_tmp rfl rv_nil) ((hsub (.cons_cons _ (.cons_cons _ (.cons _ (.cons _ (.refl _)))))).trans (hsub_pick [1, 0] rfl)) ?_
                  have e0 : putD A ask n s false = true := by simp_all [putD, pd]
                  have e1 : putD A ask n s true = false := by simp_all [putD, pd, pA]
                  have ea : putA A ask n s = ((A.write false n s).write true n s) := by simp_all [putA, pA]
                  have em : putm m A ask n s = m.mark n true false := by simp [putm, hn, e0, e1]
                  exact ⟨ret_int (by simp [putE, hn, e0, e1]), D10, h10.to (by simp [putDa, hn, ea]), by rw [em]; rfl⟩
          · skip
            refine C_skip (C_region ?_)
            refine LY rfl (y_add rfl rfl (show _ = (2 : Int) from rfl)) ?_
            refine LY rfl (y_move rfl) (L_nil ?_)
            refine In_round ?_
            refine C_seq (C_region (LY rfl (y_lss rfl rfl) (L_nil (C_seq (C_cond_f rfl (C_exit (C_seq (C_seq (C_region ?_)))))))))
            refine LY rfl (y_indexA rfl rfl Try.underlying155 sz_4 (by omega) (by omega) (show _ = 0 from rfl)) ?_
            refine LY rfl (y_load rfl ag_4 (sees 2 0 rfl) rfl) (LY rfl (y_not rfl) (LY rfl (y_move rfl) (L_skip rfl rfl (L_skip rfl rfl (L_skip rfl rfl (LY rfl (y_pick_f rfl rfl) (L_nil (C_cond_f rfl (C_skip (C_seq (C_seq (C_region (LY rfl (y_move rfl) (L_nil (C_block ?_)))))))))))))))
            refine C_loopIn (In_round ?_)
            refine C_seq (C_region (LY rfl (y_lss rfl rfl) (L_nil (C_seq (C_cond_t rfl (C_skip (C_seq (C_block (C_seq (C_region (LY rfl (y_move rfl) (LY rfl (y_assign rfl) (L_nil (C_seq (C_region (LY rfl (y_move rfl) ?_))))))))))))))))
            refine LY rfl (y_indexA rfl rfl Try.underlying155 sz_4 (by omega) (by omega) (show _ = 0 from rfl)) ?_
            refine LY rfl (y_load rfl ag_4 (sees 2 0 rfl) rfl) (L_nil (C_cond_t rfl (C_region (LY rfl (y_move rfl) (LY rfl (y_move rfl) (LY rfl (y_nilCheck rfl) (LY rfl (y_fieldAddr rfl fl_111_0) ?_)))))))
            refine LY rfl (y_indexA rfl rfl Try.underlying109 sz_108 (by omega) (by omega) (show _ = 0 from rfl)) ?_
            refine LY rfl (y_fieldAddr rfl fl_108_1) (LY rfl (y_load rfl ag_106 (sees 1 0 rfl) rfl) (LY rfl (y_move rfl) ?_))
            refine L_op rfl (op_delete 1 1 rfl rfl rfl Try.underlying106 Try.underlying3 rfl rfl ?_)
            refine L_nil (C_region ?_)
            refine LY rfl (y_add rfl rfl (show _ = (1 : Int) from rfl)) ?_
            refine LY rfl (y_move rfl) (L_nil ?_)
            refine In_round ?_
            refine C_seq (C_region (LY rfl (y_lss rfl rfl) (L_nil (C_seq (C_cond_t rfl (C_skip (C_seq (C_block (C_seq (C_region (LY rfl (y_move rfl) (LY rfl (y_assign rfl) (L_nil (C_seq (C_region (LY rfl (y_move rfl) ?_))))))))))))))))
            refine LY rfl (y_indexA rfl rfl Try.underlying155 sz_4 (by omega) (by omega) (show _ = 1 from rfl)) ?_
            refine LY rfl (y_load rfl ag_4 (sees 2 0 rfl) rfl) (L_nil (C_cond_f rfl (C_region (LY rfl (y_move rfl) (LY rfl (y_move rfl) (LY rfl (y_nilCheck rfl) (LY rfl (y_fieldAddr rfl fl_111_0) ?_)))))))
            refine LY rfl (y_indexA rfl rfl Try.underlying109 sz_108 (by omega) (by omega) (show _ = 2 from rfl)) ?_
            refine LY rfl (y_fieldAddr rfl fl_108_1) (LY rfl (y_load rfl ag_106 (sees 1 0 rfl) rfl) (LY rfl (y_move rfl) ?_))
            refine L_op rfl (op_mapUpdate 1 2 rfl rfl rfl Try.underlying106 Try.underlying3 rfl rfl ?_)
            refine L_nil (C_region ?_)
            refine LY rfl (y_add rfl rfl (show _ = (2 : Int) from rfl)) ?_
            refine LY rfl (y_move rfl) (L_nil ?_)
            refine In_round ?_
            refine C_seq (C_region (LY rfl (y_lss rfl rfl) (L_nil (C_seq (C_cond_f rfl (C_exit (C_seq (C_region (LY rfl (y_assign rfl) (L_nil (C_ret ?_)))))))))))
            refine B_ret (rv_tmp rfl rv_nil) ((hsub (.cons_cons _ (.cons_cons _ (.cons _ (.cons _ (.refl _)))))).trans (hsub_pick [1, 0] rfl)) ?_
            have e0 : putD A ask n s false = true := by simp_all [putD, pd]
            have e1 : putD A ask n s true = false := by simp_all [putD, pd, pA]
            have ea : putA A ask n s = (A.write false n s) := by simp_all [putA, pA]
            have em : putm m A ask n s = m.mark n true false := by simp [putm, hn, e0, e1]
            exact ⟨ret_int (by simp [putE, hn, e0, e1]), D8, h8.to (by simp [putDa, hn, ea]), by rw [em]; rfl⟩
        · skip
          refine HY 14 rfl (hsub (.cons _ (.cons _ (.cons _ (.cons _ (.refl _)))))) rfl (y_pick_f rfl rfl) ?_
          refine HY 15 rfl (hsub (.cons _ (.cons _ (.cons _ (.cons _ (.refl _)))))) rfl (y_indexA rfl rfl Try.underlying155 sz_4 (by omega) (by omega) (show _ = 0 from rfl)) ?_
          refine H_one 16 rfl (by kernel_rfl) rfl (op_store1 2 0 rfl rfl rfl sz_4 rfl (Nat.le_of_ble_eq_true rfl) ?_)
          refine ⟨hsub (.cons _ (.cons _ (.cons _ (.cons _ (.refl _))))), ?_⟩
          refine H_done (by kernel_rfl) ?_
          refine C_region ?_
          refine LY rfl (y_add rfl rfl (show _ = (1 : Int) from rfl)) ?_
          refine LY rfl (y_move rfl) (L_nil ?_)
          refine In_round ?_
          refine C_seq (C_region (LY rfl (y_lss rfl rfl) (L_nil (C_seq (C_cond_t rfl (C_skip (C_seq (C_block (C_seq (C_region (LY rfl (y_move rfl) (LY rfl (y_assign rfl) (L_nil (C_seq (C_region (LY rfl (y_move rfl) (LY rfl (y_move rfl) (LY rfl (y_nilCheck rfl) (LY rfl (y_fieldAddr rfl fl_111_0) ?_)))))))))))))))))))
          refine LY rfl (y_indexA rfl rfl Try.underlying109 sz_108 (by omega) (by omega) (show _ = 2 from rfl)) ?_
          refine LY rfl (y_assign rfl) (L_nil (C_seq (C_region (LY rfl (y_move rfl) (LY rfl (y_nilCheck rfl) ?_)))))
          refine LY rfl (y_loadA rfl ag_108 sz_108 (sees 1 0 rfl) (Nat.le_of_ble_eq_true rfl) rfl) ?_
          refine L_op rfl (op_call rfl rfl (fun a w => Try.call51 a w) rfl ?_)
          refine ((there_d h8 true).sub (hsub_pick [0] rfl)).mono ?_
          rintro _ _ ⟨rfl, rfl⟩
          refine ⟨_, rfl, ?_⟩
          refine L_nil ?_
          refine C_cond rfl (fun hc2 => ?_) (fun hc2 => ?_)
          · skip
            refine C_regionH H (by kernel_rfl) ?_
            refine HY 0 rfl (hsub (.cons _ (.cons _ (.cons _ (.cons _ (.refl _)))))) rfl (y_move rfl) ?_
            refine HY 1 rfl (hsub (.cons _ (.cons _ (.cons _ (.cons _ (.refl _)))))) rfl (y_move rfl) ?_
            refine HY 2 rfl (hsub (.cons _ (.cons _ (.cons _ (.cons _ (.refl _)))))) rfl (y_move rfl) ?_
            refine H_one 3 rfl (by kernel_rfl) rfl (op_call (f := fa) (first := []) (cap := cap) rfl rfl hask.1 rfl ?_)
            refine FnS.mono (FnS.sub (hsub_pick [1, 0] rfl) (hask.2 true _ _ _ h8 (hsub (.cons _ (.cons _ (.refl _)))))) ?_
            rintro _ _ ⟨rfl, rfl⟩
            refine ⟨_, rfl, ?_⟩
            refine ⟨hsub (.cons _ (.cons _ (.cons _ (.cons _ (.refl _))))), ?_⟩
            refine HY 4 rfl (hsub (.cons _ (.cons _ (.cons _ (.cons _ (.refl _)))))) rfl (y_not rfl) ?_
            refine HY 5 rfl (hsub (.cons _ (.cons _ (.cons _ (.cons _ (.refl _)))))) rfl (y_move rfl) ?_
            refine H_case 34 rfl (fun hg9_6 => ?_) (fun hg9_6 => ?_)
            · skip
              refine HK 6 rfl (hsub (.cons _ (.cons _ (.cons _ (.cons _ (.refl _)))))) rfl ?_
              refine HK 7 rfl (hsub (.cons _ (.cons _ (.cons _ (.cons _ (.refl _)))))) rfl ?_
              refine HK 8 rfl (hsub (.cons _ (.cons _ (.cons _ (.cons _ (.refl _)))))) rfl ?_
              refine HK 9 rfl (hsub (.cons _ (.cons _ (.cons _ (.cons _ (.refl _)))))) rfl ?_
              refine HK 10 rfl (hsub (.cons _ (.cons _ (.cons _ (.cons _ (.refl _)))))) rfl ?_
              refine HK 11 rfl (hsub (.cons _ (.cons _ (.cons _ (.cons _ (.refl _)))))) rfl ?_
              refine HK 12 rfl (hsub (.cons _ (.cons _ (.cons _ (.cons _ (.refl _)))))) rfl ?_
              refine HK 13 rfl (hsub (.cons _ (.cons _ (.cons _ (.cons _ (.refl _)))))) rfl ?_
              refine HY 14 rfl (hsub (.cons _ (.cons _ (.cons _ (.cons _ (.refl _)))))) rfl (y_pick_t rfl rfl) ?_
              refine HY 15 rfl (hsub (.cons _ (.cons _ (.cons _ (.cons _ (.refl _)))))) rfl (y_indexA rfl rfl Try.underlying155 sz_4 (by omega) (by omega) (show _ = 1 from rfl)) ?_
              refine H_one 16 rfl (by kernel_rfl) rfl (op_store1 2 0 rfl rfl rfl sz_4 rfl (Nat.le_of_ble_eq_true rfl) ?_)
              refine ⟨hsub (.cons _ (.cons _ (.cons _ (.cons _ (.refl _))))), ?_⟩
              refine H_done (by kernel_rfl) ?_
              refine C_region ?_
              refine LY rfl (y_add rfl rfl (show _ = (2 : Int) from rfl)) ?_
              refine LY rfl (y_move rfl) (L_nil ?_)
              refine In_round ?_
              refine C_seq (C_region (LY rfl (y_lss rfl rfl) (L_nil (C_seq (C_cond_f rfl (C_exit (C_seq (C_seq (C_region ?_)))))))))
              refine LY rfl (y_indexA rfl rfl Try.underlying155 sz_4 (by omega) (by omega) (show _ = 0 from rfl)) ?_
              refine LY rfl (y_load rfl ag_4 (sees 2 0 rfl) rfl) (LY rfl (y_not rfl) (LY rfl (y_move rfl) ?_))
              refine LY rfl (y_indexA rfl rfl Try.underlying155 sz_4 (by omega) (by omega) (show _ = 1 from rfl)) ?_
              refine LY rfl (y_load rfl ag_4 (sees 2 0 rfl) rfl) (LY rfl (y_not rfl) (LY rfl (y_pick_t rfl rfl) (L_nil (C_cond_f rfl (C_skip (C_seq (C_seq (C_region (LY rfl (y_move rfl) (L_nil (C_block ?_)))))))))))
              refine C_loopIn (In_round ?_)
              refine C_seq (C_region (LY rfl (y_lss rfl rfl) (L_nil (C_seq (C_cond_t rfl (C_skip (C_seq (C_block (C_seq (C_region (LY rfl (y_move rfl) (LY rfl (y_assign rfl) (L_nil (C_seq (C_region (LY rfl (y_move rfl) ?_))))))))))))))))
              refine LY rfl (y_indexA rfl rfl Try.underlying155 sz_4 (by omega) (by omega) (show _ = 0 from rfl)) ?_
              refine LY rfl (y_load rfl ag_4 (sees 2 0 rfl) rfl) (L_nil (C_cond_f rfl (C_region (LY rfl (y_move rfl) (LY rfl (y_move rfl) (LY rfl (y_nilCheck rfl) (LY rfl (y_fieldAddr rfl fl_111_0) ?_)))))))
              refine LY rfl (y_indexA rfl rfl Try.underlying109 sz_108 (by omega) (by omega) (show _ = 0 from rfl)) ?_
              refine LY rfl (y_fieldAddr rfl fl_108_1) (LY rfl (y_load rfl ag_106 (sees 0 0 rfl) rfl) (LY rfl (y_move rfl) ?_))
              refine L_op rfl (op_mapUpdate 0 1 rfl rfl rfl Try.underlying106 Try.underlying3 rfl rfl ?_)
              refine L_nil (C_region ?_)
              refine LY rfl (y_add rfl rfl (show _ = (1 : Int) from rfl)) ?_
              refine LY rfl (y_move rfl) (L_nil ?_)
              refine In_round ?_
              refine C_seq (C_region (LY rfl (y_lss rfl rfl) (L_nil (C_seq (C_cond_t rfl (C_skip (C_seq (C_block (C_seq (C_region (LY rfl (y_move rfl) (LY rfl (y_assign rfl) (L_nil (C_seq (C_region (LY rfl (y_move rfl) ?_))))))))))))))))
              refine LY rfl (y_indexA rfl rfl Try.underlying155 sz_4 (by omega) (by omega) (show _ = 1 from rfl)) ?_
              refine LY rfl (y_load rfl ag_4 (sees 2 0 rfl) rfl) (L_nil (C_cond_t rfl (C_region (LY rfl (y_move rfl) (LY rfl (y_move rfl) (LY rfl (y_nilCheck rfl) (LY rfl (y_fieldAddr rfl fl_111_0) ?_)))))))
              refine LY rfl (y_indexA rfl rfl Try.underlying109 sz_108 (by omega) (by omega) (show _ = 2 from rfl)) ?_
              refine LY rfl (y_fieldAddr rfl fl_108_1) (LY rfl (y_load rfl ag_106 (sees 0 0 rfl) rfl) (LY rfl (y_move rfl) ?_))
              refine L_op rfl (op_delete 0 2 rfl rfl rfl Try.underlying106 Try.underlying3 rfl rfl ?_)
              refine L_nil (C_region ?_)
              refine LY rfl (y_add rfl rfl (show _ = (2 : Int) from rfl)) ?_
              refine LY rfl (y_move rfl) (L_nil ?_)
              refine In_round ?_
              refine C_seq (C_region (LY rfl (y_lss rfl rfl) (L_nil (C_seq (C_cond_f rfl (C_exit (C_seq (C_region (LY rfl (y_assign rfl) (L_nil (C_ret ?_)))))))))))
              refine B_ret (rv_tmp rfl rv_nil) ((hsub (.cons_cons _ (.cons_cons _ (.cons _ (.cons _ (.refl _)))))).trans (hsub_pick [0, 0] rfl)) ?_
              have e0 : putD A ask n s false = false := by simp_all [putD, pd]
              have e1 : putD A ask n s true = true := by simp_all [putD, pd, pA]
              have ea : putA A ask n s = (A.write false n s) := by simp_all [putA, pA]
              have em : putm m A ask n s = m.mark n false true := by simp [putm, hn, e0, e1]
              exact ⟨ret_int (by simp [putE, hn, e0, e1]), D8, h8.to (by simp [putDa, hn, ea]), by rw [em]; rfl⟩
            · skip
              refine HY 6 rfl (hsub (.cons _ (.cons _ (.cons _ (.cons _ (.refl _)))))) rfl (y_move rfl) ?_
              refine HY 7 rfl (hsub (.cons _ (.cons _ (.cons _ (.cons _ (.refl _)))))) rfl (y_nilCheck rfl) ?_
              refine HY 8 rfl (hsub (.cons _ (.cons _ (.cons _ (.cons _ (.refl _)))))) rfl (y_fieldAddr rfl fl_108_0) ?_
              refine HY 10 rfl (hsub (.cons _ (.cons _ (.cons _ (.cons _ (.refl _)))))) rfl (y_move rfl) ?_
              refine H_two 9 11 rfl rfl (by kernel_rfl) rfl rfl ?_ ?_
              · refine op_y (y_load rfl ag_54 (sees 0 0 rfl) rfl) rfl ?_
                refine ⟨hsub (.cons _ (.cons _ (.cons _ (.cons _ (.refl _))))), ?_⟩
                refine H_one 11 rfl (by kernel_rfl) rfl (op_y (y_loadA rfl ag_114 sz_114 (sees 3 0 rfl) (by rw [bs_length, hs]; decide) (bs_whole0 _ hs)) rfl ?_)
                refine ⟨hsub (.cons _ (.cons _ (.cons _ (.cons _ (.refl _))))), ?_⟩
                refine H_one 12 rfl (by kernel_rfl) rfl (op_call rfl rfl (fun a w => Try.call82 a w) rfl ?_)
                refine ((write_d h8 true n s hs (by have := hQ true; have q2 := Da.write_many A false n s true; omega)).sub (hsub_pick [1] rfl)).mono ?_
                rintro _ _ ⟨rfl, D11, h11, rfl⟩
                refine ⟨_, rfl, ?_⟩
                refine ⟨hsub (.cons _ (.cons _ (.cons _ (.cons _ (.refl _))))), ?_⟩
                refine HY 13 rfl (hsub (.cons _ (.cons _ (.cons _ (.cons _ (.refl _)))))) rfl (y_eqi rfl rfl) ?_
                refine H_case 42 rfl (fun hg9_14 => ?_) (fun hg9_14 => ?_)
                · skip
                  refine HY 14 rfl (hsub (.cons _ (.cons _ (.cons _ (.cons _ (.refl _)))))) rfl (y_pick_f rfl rfl) ?_
                  refine HY 15 rfl (hsub (.cons _ (.cons _ (.cons _ (.cons _ (.refl _)))))) rfl (y_indexA rfl rfl Try.underlying155 sz_4 (by omega) (by omega) (show _ = 1 from rfl)) ?_
                  refine H_one 16 rfl (by kernel_rfl) rfl (op_store1 2 0 rfl rfl rfl sz_4 rfl (Nat.le_of_ble_eq_true rfl) ?_)
                  refine ⟨hsub (.cons _ (.cons _ (.cons _ (.cons _ (.refl _))))), ?_⟩
                  refine H_done (by kernel_rfl) ?_
                  refine C_region ?_
                  refine LY rfl (y_add rfl rfl (show _ = (2 : Int) from rfl)) ?_
                  refine LY rfl (y_move rfl) (L_nil ?_)
                  refine In_round ?_
                  refine C_seq (C_region (LY rfl (y_lss rfl rfl) (L_nil (C_seq (C_cond_f rfl (C_exit (C_seq (C_seq (C_region ?_)))))))))
                  refine LY rfl (y_indexA rfl rfl Try.underlying155 sz_4 (by omega) (by omega) (show _ = 0 from rfl)) ?_
                  refine LY rfl (y_load rfl ag_4 (sees 2 0 rfl) rfl) (LY rfl (y_not rfl) (LY rfl (y_move rfl) ?_))
                  refine LY rfl (y_indexA rfl rfl Try.underlying155 sz_4 (by omega) (by omega) (show _ = 1 from rfl)) ?_
                  refine LY rfl (y_load rfl ag_4 (sees 2 0 rfl) rfl) (LY rfl (y_not rfl) (LY rfl (y_pick_t rfl rfl) (L_nil (C_cond_f rfl (C_skip (C_seq (C_seq (C_region (LY rfl (y_move rfl) (L_nil (C_block ?_)))))))))))
                  refine C_loopIn (In_round ?_)
                  refine C_seq (C_region (LY rfl (y_lss rfl rfl) (L_nil (C_seq (C_cond_t rfl (C_skip (C_seq (C_block (C_seq (C_region (LY rfl (y_move rfl) (LY rfl (y_assign rfl) (L_nil (C_seq (C_region (LY rfl (y_move rfl) ?_))))))))))))))))
                  refine LY rfl (y_indexA rfl rfl Try.underlying155 sz_4 (by omega) (by omega) (show _ = 0 from rfl)) ?_
                  refine LY rfl (y_load rfl ag_4 (sees 2 0 rfl) rfl) (L_nil (C_cond_f rfl (C_region (LY rfl (y_move rfl) (LY rfl (y_move rfl) (LY rfl (y_nilCheck rfl) (LY rfl (y_fieldAddr rfl fl_111_0) ?_)))))))
                  refine LY rfl (y_indexA rfl rfl Try.underlying109 sz_108 (by omega) (by omega) (show _ = 0 from rfl)) ?_
                  refine LY rfl (y_fieldAddr rfl fl_108_1) (LY rfl (y_load rfl ag_106 (sees 1 0 rfl) rfl) (LY rfl (y_move rfl) ?_))
                  refine L_op rfl (op_mapUpdate 1 1 rfl rfl rfl Try.underlying106 Try.underlying3 rfl rfl ?_)
                  refine L_nil (C_region ?_)
                  refine LY rfl (y_add rfl rfl (show _ = (1 : Int) from rfl)) ?_
                  refine LY rfl (y_move rfl) (L_nil ?_)
                  refine In_round ?_
                  refine C_seq (C_region (LY rfl (y_lss rfl rfl) (L_nil (C_seq (C_cond_t rfl (C_skip (C_seq (C_block (C_seq (C_region (LY rfl (y_move rfl) (LY rfl (y_assign rfl) (L_nil (C_seq (C_region (LY rfl (y_move rfl) ?_))))))))))))))))
                  refine LY rfl (y_indexA rfl rfl Try.underlying155 sz_4 (by omega) (by omega) (show _ = 1 from rfl)) ?_
                  refine LY rfl (y_load rfl ag_4 (sees 2 0 rfl) rfl) (L_nil (C_cond_t rfl (C_region (LY rfl (y_move rfl) (LY rfl (y_move rfl) (LY rfl (y_nilCheck rfl) (LY rfl (y_fieldAddr rfl fl_111_0) ?_)))))))
                  refine LY rfl (y_indexA rfl rfl Try.underlying109 sz_108 (by omega) (by omega) (show _ = 2 from rfl)) ?_
                  refine LY rfl (y_fieldAddr rfl fl_108_1) (LY rfl (y_load rfl ag_106 (sees 1 0 rfl) rfl) (LY rfl (y_move rfl) ?_))
                  refine L_op rfl (op_delete 1 2 rfl rfl rfl Try.underlying106 Try.underlying3 rfl rfl ?_)
                  refine L_nil (C_region ?_)
                  refine LY rfl (y_add rfl rfl (show _ = (2 : Int) from rfl)) ?_
                  refine LY rfl (y_move rfl) (L_nil ?_)
                  refine In_round ?_
                  refine C_seq (C_region (LY rfl (y_lss rfl rfl) (L_nil (C_seq (C_cond_f rfl (C_exit (C_seq (C_region (LY rfl (y_assign rfl) (L_nil (C_ret ?_)))))))))))
                  refine B_ret (rv_tmp rfl rv_nil) ((hsub (.cons_cons _ (.cons_cons _ (.cons _ (.cons _ (.refl _)))))).trans (hsub_pick [1, 0] rfl)) ?_
                  have e0 : putD A ask n s false = false := by simp_all [putD, pd]
                  have e1 : putD A ask n s true = true := by simp_all [putD, pd, pA]
                  have ea : putA A ask n s = ((A.write false n s).write true n s) := by simp_all [putA, pA]
                  have em : putm m A ask n s = m.mark n false true := by simp [putm, hn, e0, e1]
                  exact ⟨ret_int (by simp [putE, hn, e0, e1]), D11, h11.to (by simp [putDa, hn, ea]), by rw [em]; rfl⟩
                · skip
                  refine HY 14 rfl (hsub (.cons _ (.cons _ (.cons _ (.cons _ (.refl _)))))) rfl (y_pick_f rfl rfl) ?_
                  refine HY 15 rfl (hsub (.cons _ (.cons _ (.cons _ (.cons _ (.refl _)))))) rfl (y_indexA rfl rfl Try.underlying155 sz_4 (by omega) (by omega) (show _ = 1 from rfl)) ?_
                  refine H_one 16 rfl (by kernel_rfl) rfl (op_store1 2 0 rfl rfl rfl sz_4 rfl (Nat.le_of_ble_eq_true rfl) ?_)
                  refine ⟨hsub (.cons _ (.cons _ (.cons _ (.cons _ (.refl _))))), ?_⟩
                  refine H_done (by kernel_rfl) ?_
                  refine C_region ?_
                  refine LY rfl (y_add rfl rfl (show _ = (2 : Int) from rfl)) ?_
                  refine LY rfl (y_move rfl) (L_nil ?_)
                  refine In_round ?_
                  refine C_seq (C_region (LY rfl (y_lss rfl rfl) (L_nil (C_seq (C_cond_f rfl (C_exit (C_seq (C_seq (C_region ?_)))))))))
                  refine LY rfl (y_indexA rfl rfl Try.underlying155 sz_4 (by omega) (by omega) (show _ = 0 from rfl)) ?_
                  refine LY rfl (y_load rfl ag_4 (sees 2 0 rfl) rfl) (LY rfl (y_not rfl) (LY rfl (y_move rfl) ?_))
                  refine LY rfl (y_indexA rfl rfl Try.underlying155 sz_4 (by omega) (by omega) (show _ = 1 from rfl)) ?_
                  refine LY rfl (y_load rfl ag_4 (sees 2 0 rfl) rfl) (LY rfl (y_not rfl) (LY rfl (y_pick_t rfl rfl) (L_nil (C_cond_t rfl (C_seq (C_region (LY rfl (y_assign rfl) (L_nil (C_ret ?_)))))))))
                  refine B_ret (rv_tmp rfl rv_nil) ((hsub (.cons_cons _ (.cons_cons _ (.cons _ (.cons _ (.refl _)))))).trans (hsub_pick [1, 0] rfl)) ?_
                  have e0 : putD A ask n s false = false := by simp_all [putD, pd]
                  have e1 : putD A ask n s true = false := by simp_all [putD, pd, pA]
                  have ea : putA A ask n s = ((A.write false n s).write true n s) := by simp_all [putA, pA]
                  have em : putm m A ask n s = m := by simp [putm, hn, e0, e1]
                  exact ⟨ret_int (by simp [putE, hn, e0, e1]), D11, h11.to (by simp [putDa, hn, ea]), by rw [em]; rfl⟩
              · refine op_y (y_loadA rfl ag_114 sz_114 (sees 3 0 rfl) (by rw [bs_length, hs]; decide) (bs_whole0 _ hs)) rfl ?_
                refine ⟨hsub (.cons _ (.cons _ (.cons _ (.cons _ (.refl _))))), ?_⟩
                refine H_one 9 rfl (by kernel_rfl) rfl (op_y (y_load rfl ag_54 (sees 0 0 rfl) rfl) rfl ?_)
                refine ⟨hsub (.cons _ (.cons _ (.cons _ (.cons _ (.refl _))))), ?_⟩
                refine H_one 12 rfl (by kernel_rfl) rfl (op_call rfl rfl (fun a w => Try.call82 a w) rfl ?_)
                refine ((write_d h8 true n s hs (by have := hQ true; have q2 := Da.write_many A false n s true; omega)).sub (hsub_pick [1] rfl)).mono ?_
                rintro _ _ ⟨rfl, D12, h12, rfl⟩
                refine ⟨_, rfl, ?_⟩
                refine ⟨hsub (.cons _ (.cons _ (.cons _ (.cons _ (.refl _))))), ?_⟩
                refine HY 13 rfl (hsub (.cons _ (.cons _ (.cons _ (.cons _ (.refl _)))))) rfl (y_eqi rfl rfl) ?_
                refine H_case 42 rfl (fun hg9_14 => ?_) (fun hg9_14 => ?_)
                · skip
                  refine HY 14 rfl (hsub (.cons _ (.cons _ (.cons _ (.cons _ (.refl _)))))) rfl (y_pick_f rfl rfl) ?_
                  refine HY 15 rfl (hsub (.cons _ (.cons _ (.cons _ (.cons _ (.refl _)))))) rfl (y_indexA rfl rfl Try.underlying155 sz_4 (by omega) (by omega) (show _ = 1 from rfl)) ?_
                  refine H_one 16 rfl (by kernel_rfl) rfl (op_store1 2 0 rfl rfl rfl sz_4 rfl (Nat.le_of_ble_eq_true rfl) ?_)
                  refine ⟨hsub (.cons _ (.cons _ (.cons _ (.cons _ (.refl _))))), ?_⟩
                  refine H_done (by kernel_rfl) ?_
                  refine C_region ?_
                  refine LY rfl (y_add rfl rfl (show _ = (2 : Int) from rfl)) ?_
                  refine LY rfl (y_move rfl) (L_nil ?_)
                  refine In_round ?_
                  refine C_seq (C_region (LY rfl (y_lss rfl rfl) (L_nil (C_seq (C_cond_f rfl (C_exit (C_seq (C_seq (C_region ?_)))))))))
                  refine LY rfl (y_indexA rfl rfl Try.underlying155 sz_4 (by omega) (by omega) (show _ = 0 from rfl)) ?_
                  refine LY rfl (y_load rfl ag_4 (sees 2 0 rfl) rfl) (LY rfl (y_not rfl) (LY rfl (y_move rfl) ?_))
                  refine LY rfl (y_indexA rfl rfl Try.underlying155 sz_4 (by omega) (by omega) (show _ = 1 from rfl)) ?_
                  refine LY rfl (y_load rfl ag_4 (sees 2 0 rfl) rfl) (LY rfl (y_not rfl) (LY rfl (y_pick_t rfl rfl) (L_nil (C_cond_f rfl (C_skip (C_seq (C_seq (C_region (LY rfl (y_move rfl) (L_nil (C_block ?_)))))))))))
                  refine C_loopIn (In_round ?_)
                  refine C_seq (C_region (LY rfl (y_lss rfl rfl) (L_nil (C_seq (C_cond_t rfl (C_skip (C_seq (C_block (C_seq (C_region (LY rfl (y_move rfl) (LY rfl (y_assign rfl) (L_nil (C_seq (C_region (LY rfl (y_move rfl) ?_))))))))))))))))
                  refine LY rfl (y_indexA rfl rfl Try.underlying155 sz_4 (by omega) (by omega) (show _ = 0 from rfl)) ?_
                  refine LY rfl (y_load rfl ag_4 (sees 2 0 rfl) rfl) (L_nil (C_cond_f rfl (C_region (LY rfl (y_move rfl) (LY rfl (y_move rfl) (LY rfl (y_nilCheck rfl) (LY rfl (y_fieldAddr rfl fl_111_0) ?_)))))))
                  refine LY rfl (y_indexA rfl rfl Try.underlying109 sz_108 (by omega) (by omega) (show _ = 0 from rfl)) ?_
                  refine LY rfl (y_fieldAddr rfl fl_108_1) (LY rfl (y_load rfl ag_106 (sees 1 0 rfl) rfl) (LY rfl (y_move rfl) ?_))
                  refine L_op rfl (op_mapUpdate 1 1 rfl rfl rfl Try.underlying106 Try.underlying3 rfl rfl ?_)
                  refine L_nil (C_region ?_)
                  refine LY rfl (y_add rfl rfl (show _ = (1 : Int) from rfl)) ?_
                  refine LY rfl (y_move rfl) (L_nil ?_)
                  refine In_round ?_
                  refine C_seq (C_region (LY rfl (y_lss rfl rfl) (L_nil (C_seq (C_cond_t rfl (C_skip (C_seq (C_block (C_seq (C_region (LY rfl (y_move rfl) (LY rfl (y_assign rfl) (L_nil (C_seq (C_region (LY rfl (y_move rfl) ?_))))))))))))))))
                  refine LY rfl (y_indexA rfl rfl Try.underlying155 sz_4 (by omega) (by omega) (show _ = 1 from rfl)) ?_
                  refine LY rfl (y_load rfl ag_4 (sees 2 0 rfl) rfl) (L_nil (C_cond_t rfl (C_region (LY rfl (y_move rfl) (LY rfl (y_move rfl) (LY rfl (y_nilCheck rfl) (LY rfl (y_fieldAddr rfl fl_111_0) ?_)))))))
                  refine LY rfl (y_indexA rfl rfl Try.underlying109 sz_108 (by omega) (by omega) (show _ = 2 from rfl)) ?_
                  refine LY rfl (y_fieldAddr rfl fl_108_1) (LY rfl (y_load rfl ag_106 (sees 1 0 rfl) rfl) (LY rfl (y_move rfl) ?_))
                  refine L_op rfl (op_delete 1 2 rfl rfl rfl Try.underlying106 Try.underlying3 rfl rfl ?_)
                  refine L_nil (C_region ?_)
                  refine LY rfl (y_add rfl rfl (show _ = (2 : Int) from rfl)) ?_
                  refine LY rfl (y_move rfl) (L_nil ?_)
                  refine In_round ?_
                  refine C_seq (C_region (LY rfl (y_lss rfl rfl) (L_nil (C_seq (C_cond_f rfl (C_exit (C_seq (C_region (LY rfl (y_assign rfl) (L_nil (C_ret ?_)))))))))))
                  refine B_ret (rv_tmp rfl rv_nil) ((hsub (.cons_cons _ (.cons_cons _ (.cons _ (.cons _ (.refl _)))))).trans (hsub_pick [1, 0] rfl)) ?_
                  have e0 : putD A ask n s false = false := by simp_all [putD, pd]
                  have e1 : putD A ask n s true = true := by simp_all [putD, pd, pA]
                  have ea : putA A ask n s = ((A.write false n s).write true n s) := by simp_all [putA, pA]
                  have em : putm m A ask n s = m.mark n false true := by simp [putm, hn, e0, e1]
                  exact ⟨ret_int (by simp [putE, hn, e0, e1]), D12, h12.to (by simp [putDa, hn, ea]), by rw [em]; rfl⟩
                · skip
                  refine HY 14 rfl (hsub (.cons _ (.cons _ (.cons _ (.cons _ (.refl _)))))) rfl (y_pick_f rfl rfl) ?_
                  refine HY 15 rfl (hsub (.cons _ (.cons _ (.cons _ (.cons _ (.refl _)))))) rfl (y_indexA rfl rfl Try.underlying155 sz_4 (by omega) (by omega) (show _ = 1 from rfl)) ?_
                  refine H_one 16 rfl (by kernel_rfl) rfl (op_store1 2 0 rfl rfl rfl sz_4 rfl (Nat.le_of_ble_eq_true rfl) ?_)
                  refine ⟨hsub (.cons _ (.cons _ (.cons _ (.cons _ (.refl _))))), ?_⟩
                  refine H_done (by kernel_rfl) ?_
                  refine C_region ?_
                  refine LY rfl (y_add rfl rfl (show _ = (2 : Int) from rfl)) ?_
                  refine LY rfl (y_move rfl) (L_nil ?_)
                  refine In_round ?_
                  refine C_seq (C_region (LY rfl (y_lss rfl rfl) (L_nil (C_seq (C_cond_f rfl (C_exit (C_seq (C_seq (C_region ?_)))))))))
                  refine LY rfl (y_indexA rfl rfl Try.underlying155 sz_4 (by omega) (by omega) (show _ = 0 from rfl)) ?_
                  refine LY rfl (y_load rfl ag_4 (sees 2 0 rfl) rfl) (LY rfl (y_not rfl) (LY rfl (y_move rfl) ?_))
                  refine LY rfl (y_indexA rfl rfl Try.underlying155 sz_4 (by omega) (by omega) (show _ = 1 from rfl)) ?_
                  refine LY rfl (y_load rfl ag_4 (sees 2 0 rfl) rfl) (LY rfl (y_not rfl) (LY rfl (y_pick_t rfl rfl) (L_nil (C_cond_t rfl (C_seq (C_region (LY rfl (y_assign rfl) (L_nil (C_ret ?_)))))))))
                  refine B_ret (rv_tmp rfl rv_nil) ((hsub (.cons_cons _ (.cons_cons _ (.cons _ (.cons _ (.refl _)))))).trans (hsub_pick [1, 0] rfl)) ?_
                  have e0 : putD A ask n s false = false := by simp_all [putD, pd]
                  have e1 : putD A ask n s true = false := by simp_all [putD, pd, pA]
                  have ea : putA A ask n s = ((A.write false n s).write true n s) := by simp_all [putA, pA]
                  have em : putm m A ask n s = m := by simp [putm, hn, e0, e1]
                  exact ⟨ret_int (by simp [putE, hn, e0, e1]), D12, h12.to (by simp [putDa, hn, ea]), by rw [em]; rfl⟩
          · skip
            refine C_skip (C_region ?_)
            refine LY rfl (y_add rfl rfl (show _ = (2 : Int) from rfl)) ?_
            refine LY rfl (y_move rfl) (L_nil ?_)
            refine In_round ?_
            refine C_seq (C_region (LY rfl (y_lss rfl rfl) (L_nil (C_seq (C_cond_f rfl (C_exit (C_seq (C_seq (C_region ?_)))))))))
            refine LY rfl (y_indexA rfl rfl Try.underlying155 sz_4 (by omega) (by omega) (show _ = 0 from rfl)) ?_
            refine LY rfl (y_load rfl ag_4 (sees 2 0 rfl) rfl) (LY rfl (y_not rfl) (LY rfl (y_move rfl) ?_))
            refine LY rfl (y_indexA rfl rfl Try.underlying155 sz_4 (by omega) (by omega) (show _ = 1 from rfl)) ?_
            refine LY rfl (y_load rfl ag_4 (sees 2 0 rfl) rfl) (LY rfl (y_not rfl) (LY rfl (y_pick_t rfl rfl) (L_nil (C_cond_t rfl (C_seq (C_region (LY rfl (y_assign rfl) (L_nil (C_ret ?_)))))))))
            refine B_ret (rv_tmp rfl rv_nil) ((hsub (.cons_cons _ (.cons_cons _ (.cons _ (.cons _ (.refl _)))))).trans (hsub_pick [1, 0] rfl)) ?_
            have e0 : putD A ask n s false = false := by simp_all [putD, pd]
            have e1 : putD A ask n s true = false := by simp_all [putD, pd, pA]
            have ea : putA A ask n s = (A.write false n s) := by simp_all [putA, pA]
            have em : putm m A ask n s = m := by simp [putm, hn, e0, e1]
            exact ⟨ret_int (by simp [putE, hn, e0, e1]), D8, h8.to (by simp [putDa, hn, ea]), by rw [em]; rfl⟩
  · skip
    refine C_skip (C_region ?_)
    refine LY rfl (y_add rfl rfl (show _ = (1 : Int) from rfl)) ?_
    refine LY rfl (y_move rfl) (L_nil ?_)
    refine In_round ?_
    refine C_seq (C_region (LY rfl (y_lss rfl rfl) (L_nil (C_seq (C_cond_t rfl (C_skip (C_seq (C_block (C_seq (C_region (LY rfl (y_move rfl) (LY rfl (y_assign rfl) (L_nil (C_seq (C_region (LY rfl (y_move rfl) (LY rfl (y_move rfl) (LY rfl (y_nilCheck rfl) (LY rfl (y_fieldAddr rfl fl_111_0) ?_)))))))))))))))))))
    refine LY rfl (y_indexA rfl rfl Try.underlying109 sz_108 (by omega) (by omega) (show _ = 2 from rfl)) ?_
    refine LY rfl (y_assign rfl) (L_nil (C_seq (C_region (LY rfl (y_move rfl) (LY rfl (y_nilCheck rfl) ?_)))))
    refine LY rfl (y_loadA rfl ag_108 sz_108 (sees 3 0 rfl) (Nat.le_of_ble_eq_true rfl) rfl) ?_
    refine L_op rfl (op_call rfl rfl (fun a w => Try.call51 a w) rfl ?_)
    refine ((there_d h true).sub (hsub_pick [0] rfl)).mono ?_
    rintro _ _ ⟨rfl, rfl⟩
    refine ⟨_, rfl, ?_⟩
    refine L_nil ?_
    refine C_cond rfl (fun hc2 => ?_) (fun hc2 => ?_)
    · skip
      refine C_regionH H (by kernel_rfl) ?_
      refine HY 0 rfl (hsub (.cons _ (.cons _ (.cons _ (.cons _ (.refl _)))))) rfl (y_move rfl) ?_
      refine HY 1 rfl (hsub (.cons _ (.cons _ (.cons _ (.cons _ (.refl _)))))) rfl (y_move rfl) ?_
      refine HY 2 rfl (hsub (.cons _ (.cons _ (.cons _ (.cons _ (.refl _)))))) rfl (y_move rfl) ?_
      refine H_one 3 rfl (by kernel_rfl) rfl (op_call (f := fa) (first := []) (cap := cap) rfl rfl hask.1 rfl ?_)
      refine FnS.mono (FnS.sub (hsub_pick [3, 0] rfl) (hask.2 true _ _ _ h (hsub (.cons _ (.cons _ (.refl _)))))) ?_
      rintro _ _ ⟨rfl, rfl⟩
      refine ⟨_, rfl, ?_⟩
      refine ⟨hsub (.cons _ (.cons _ (.cons _ (.cons _ (.refl _))))), ?_⟩
      refine HY 4 rfl (hsub (.cons _ (.cons _ (.cons _ (.cons _ (.refl _)))))) rfl (y_not rfl) ?_
      refine HY 5 rfl (hsub (.cons _ (.cons _ (.cons _ (.cons _ (.refl _)))))) rfl (y_move rfl) ?_
      refine H_case 34 rfl (fun hg9_6 => ?_) (fun hg9_6 => ?_)
      · skip
        refine HK 6 rfl (hsub (.cons _ (.cons _ (.cons _ (.cons _ (.refl _)))))) rfl ?_
        refine HK 7 rfl (hsub (.cons _ (.cons _ (.cons _ (.cons _ (.refl _)))))) rfl ?_
        refine HK 8 rfl (hsub (.cons _ (.cons _ (.cons _ (.cons _ (.refl _)))))) rfl ?_
        refine HK 9 rfl (hsub (.cons _ (.cons _ (.cons _ (.cons _ (.refl _)))))) rfl ?_
        refine HK 10 rfl (hsub (.cons _ (.cons _ (.cons _ (.cons _ (.refl _)))))) rfl ?_
        refine HK 11 rfl (hsub (.cons _ (.cons _ (.cons _ (.cons _ (.refl _)))))) rfl ?_
        refine HK 12 rfl (hsub (.cons _ (.cons _ (.cons _ (.cons _ (.refl _)))))) rfl ?_
        refine HK 13 rfl (hsub (.cons _ (.cons _ (.cons _ (.cons _ (.refl _)))))) rfl ?_
        refine HY 14 rfl (hsub (.cons _ (.cons _ (.cons _ (.cons _ (.refl _)))))) rfl (y_pick_t rfl rfl) ?_
        refine HY 15 rfl (hsub (.cons _ (.cons _ (.cons _ (.cons _ (.refl _)))))) rfl (y_indexA rfl rfl Try.underlying155 sz_4 (by omega) (by omega) (show _ = 1 from rfl)) ?_
        refine H_one 16 rfl (by kernel_rfl) rfl (op_store1 2 0 rfl rfl rfl sz_4 rfl (Nat.le_of_ble_eq_true rfl) ?_)
        refine ⟨hsub (.cons _ (.cons _ (.cons _ (.cons _ (.refl _))))), ?_⟩
        refine H_done (by kernel_rfl) ?_
        refine C_region ?_
        refine LY rfl (y_add rfl rfl (show _ = (2 : Int) from rfl)) ?_
        refine LY rfl (y_move rfl) (L_nil ?_)
        refine In_round ?_
        refine C_seq (C_region (LY rfl (y_lss rfl rfl) (L_nil (C_seq (C_cond_f rfl (C_exit (C_seq (C_seq (C_region ?_)))))))))
        refine LY rfl (y_indexA rfl rfl Try.underlying155 sz_4 (by omega) (by omega) (show _ = 0 from rfl)) ?_
        refine LY rfl (y_load rfl ag_4 (sees 2 0 rfl) rfl) (LY rfl (y_not rfl) (LY rfl (y_move rfl) ?_))
        refine LY rfl (y_indexA rfl rfl Try.underlying155 sz_4 (by omega) (by omega) (show _ = 1 from rfl)) ?_
        refine LY rfl (y_load rfl ag_4 (sees 2 0 rfl) rfl) (LY rfl (y_not rfl) (LY rfl (y_pick_t rfl rfl) (L_nil (C_cond_f rfl (C_skip (C_seq (C_seq (C_region (LY rfl (y_move rfl) (L_nil (C_block ?_)))))))))))
        refine C_loopIn (In_round ?_)
        refine C_seq (C_region (LY rfl (y_lss rfl rfl) (L_nil (C_seq (C_cond_t rfl (C_skip (C_seq (C_block (C_seq (C_region (LY rfl (y_move rfl) (LY rfl (y_assign rfl) (L_nil (C_seq (C_region (LY rfl (y_move rfl) ?_))))))))))))))))
        refine LY rfl (y_indexA rfl rfl Try.underlying155 sz_4 (by omega) (by omega) (show _ = 0 from rfl)) ?_
        refine LY rfl (y_load rfl ag_4 (sees 2 0 rfl) rfl) (L_nil (C_cond_f rfl (C_region (LY rfl (y_move rfl) (LY rfl (y_move rfl) (LY rfl (y_nilCheck rfl) (LY rfl (y_fieldAddr rfl fl_111_0) ?_)))))))
        refine LY rfl (y_indexA rfl rfl Try.underlying109 sz_108 (by omega) (by omega) (show _ = 0 from rfl)) ?_
        refine LY rfl (y_fieldAddr rfl fl_108_1) (LY rfl (y_load rfl ag_106 (sees 0 0 rfl) rfl) (LY rfl (y_move rfl) ?_))
        refine L_op rfl (op_mapUpdate 0 1 rfl rfl rfl Try.underlying106 Try.underlying3 rfl rfl ?_)
        refine L_nil (C_region ?_)
        refine LY rfl (y_add rfl rfl (show _ = (1 : Int) from rfl)) ?_
        refine LY rfl (y_move rfl) (L_nil ?_)
        refine In_round ?_
        refine C_seq (C_region (LY rfl (y_lss rfl rfl) (L_nil (C_seq (C_cond_t rfl (C_skip (C_seq (C_block (C_seq (C_region (LY rfl (y_move rfl) (LY rfl (y_assign rfl) (L_nil (C_seq (C_region (LY rfl (y_move rfl) ?_))))))))))))))))
        refine LY rfl (y_indexA rfl rfl Try.underlying155 sz_4 (by omega) (by omega) (show _ = 1 from rfl)) ?_
        refine LY rfl (y_load rfl ag_4 (sees 2 0 rfl) rfl) (L_nil (C_cond_t rfl (C_region (LY rfl (y_move rfl) (LY rfl (y_move rfl) (LY rfl (y_nilCheck rfl) (LY rfl (y_fieldAddr rfl fl_111_0) ?_)))))))
        refine LY rfl (y_indexA rfl rfl Try.underlying109 sz_108 (by omega) (by omega) (show _ = 2 from rfl)) ?_
        refine LY rfl (y_fieldAddr rfl fl_108_1) (LY rfl (y_load rfl ag_106 (sees 0 0 rfl) rfl) (LY rfl (y_move rfl) ?_))
        refine L_op rfl (op_delete 0 2 rfl rfl rfl Try.underlying106 Try.underlying3 rfl rfl ?_)
        refine L_nil (C_region ?_)
        refine LY rfl (y_add rfl rfl (show _ = (2 : Int) from rfl)) ?_
        refine LY rfl (y_move rfl) (L_nil ?_)
        refine In_round ?_
        refine C_seq (C_region (LY rfl (y_lss rfl rfl) (L_nil (C_seq (C_cond_f rfl (C_exit (C_seq (C_region (LY rfl (y_assign rfl) (L_nil (C_ret ?_)))))))))))
        refine B_ret (rv_tmp rfl rv_nil) ((hsub (.cons_cons _ (.cons_cons _ (.cons _ (.cons _ (.refl _)))))).trans (hsub_pick [0, 0] rfl)) ?_
        have e0 : putD A ask n s false = false := by simp_all [putD, pd]
        have e1 : putD A ask n s true = true := by simp_all [putD, pd, pA]
        have ea : putA A ask n s = A := by simp_all [putA, pA]
        have em : putm m A ask n s = m.mark n false true := by simp [putm, hn, e0, e1]
        exact ⟨ret_int (by simp [putE, hn, e0, e1]), D, h.to (by simp [putDa, hn, ea]), by rw [em]; rfl⟩
      · skip
        refine HY 6 rfl (hsub (.cons _ (.cons _ (.cons _ (.cons _ (.refl _)))))) rfl (y_move rfl) ?_
        refine HY 7 rfl (hsub (.cons _ (.cons _ (.cons _ (.cons _ (.refl _)))))) rfl (y_nilCheck rfl) ?_
        refine HY 8 rfl (hsub (.cons _ (.cons _ (.cons _ (.cons _ (.refl _)))))) rfl (y_fieldAddr rfl fl_108_0) ?_
        refine HY 10 rfl (hsub (.cons _ (.cons _ (.cons _ (.cons _ (.refl _)))))) rfl (y_move rfl) ?_
        refine H_two 9 11 rfl rfl (by kernel_rfl) rfl rfl ?_ ?_
        · refine op_y (y_load rfl ag_54 (sees 0 0 rfl) rfl) rfl ?_
          refine ⟨hsub (.cons _ (.cons _ (.cons _ (.cons _ (.refl _))))), ?_⟩
          refine H_one 11 rfl (by kernel_rfl) rfl (op_y (y_loadA rfl ag_114 sz_114 (sees 3 0 rfl) (by rw [bs_length, hs]; decide) (bs_whole0 _ hs)) rfl ?_)
          refine ⟨hsub (.cons _ (.cons _ (.cons _ (.cons _ (.refl _))))), ?_⟩
          refine H_one 12 rfl (by kernel_rfl) rfl (op_call rfl rfl (fun a w => Try.call82 a w) rfl ?_)
          refine ((write_d h true n s hs (by have := hQ true; omega)).sub (hsub_pick [1] rfl)).mono ?_
          rintro _ _ ⟨rfl, D13, h13, rfl⟩
          refine ⟨_, rfl, ?_⟩
          refine ⟨hsub (.cons _ (.cons _ (.cons _ (.cons _ (.refl _))))), ?_⟩
          refine HY 13 rfl (hsub (.cons _ (.cons _ (.cons _ (.cons _ (.refl _)))))) rfl (y_eqi rfl rfl) ?_
          refine H_case 42 rfl (fun hg9_14 => ?_) (fun hg9_14 => ?_)
          · skip
            refine HY 14 rfl (hsub (.cons _ (.cons _ (.cons _ (.cons _ (.refl _)))))) rfl (y_pick_f rfl rfl) ?_
            refine HY 15 rfl (hsub (.cons _ (.cons _ (.cons _ (.cons _ (.refl _)))))) rfl (y_indexA rfl rfl Try.underlying155 sz_4 (by omega) (by omega) (show _ = 1 from rfl)) ?_
            refine H_one 16 rfl (by kernel_rfl) rfl (op_store1 2 0 rfl rfl rfl sz_4 rfl (Nat.le_of_ble_eq_true rfl) ?_)
            refine ⟨hsub (.cons _ (.cons _ (.cons _ (.cons _ (.refl _))))), ?_⟩
            refine H_done (by kernel_rfl) ?_
            refine C_region ?_
            refine LY rfl (y_add rfl rfl (show _ = (2 : Int) from rfl)) ?_
            refine LY rfl (y_move rfl) (L_nil ?_)
            refine In_round ?_
            refine C_seq (C_region (LY rfl (y_lss rfl rfl) (L_nil (C_seq (C_cond_f rfl (C_exit (C_seq (C_seq (C_region ?_)))))))))
            refine LY rfl (y_indexA rfl rfl Try.underlying155 sz_4 (by omega) (by omega) (show _ = 0 from rfl)) ?_
            refine LY rfl (y_load rfl ag_4 (sees 2 0 rfl) rfl) (LY rfl (y_not rfl) (LY rfl (y_move rfl) ?_))
            refine LY rfl (y_indexA rfl rfl Try.underlying155 sz_4 (by omega) (by omega) (show _ = 1 from rfl)) ?_
            refine LY rfl (y_load rfl ag_4 (sees 2 0 rfl) rfl) (LY rfl (y_not rfl) (LY rfl (y_pick_t rfl rfl) (L_nil (C_cond_f rfl (C_skip (C_seq (C_seq (C_region (LY rfl (y_move rfl) (L_nil (C_block ?_)))))))))))
            refine C_loopIn (In_round ?_)
            refine C_seq (C_region (LY rfl (y_lss rfl rfl) (L_nil (C_seq (C_cond_t rfl (C_skip (C_seq (C_block (C_seq (C_region (LY rfl (y_move rfl) (LY rfl (y_assign rfl) (L_nil (C_seq (C_region (LY rfl (y_move rfl) ?_))))))))))))))))
            refine LY rfl (y_indexA rfl rfl Try.underlying155 sz_4 (by omega) (by omega) (show _ = 0 from rfl)) ?_
            refine LY rfl (y_load rfl ag_4 (sees 2 0 rfl) rfl) (L_nil (C_cond_f rfl (C_region (LY rfl (y_move rfl) (LY rfl (y_move rfl) (LY rfl (y_nilCheck rfl) (LY rfl (y_fieldAddr rfl fl_111_0) ?_)))))))
            refine LY rfl (y_indexA rfl rfl Try.underlying109 sz_108 (by omega) (by omega) (show _ = 0 from rfl)) ?_
            refine LY rfl (y_fieldAddr rfl fl_108_1) (LY rfl (y_load rfl ag_106 (sees 1 0 rfl) rfl) (LY rfl (y_move rfl) ?_))
            refine L_op rfl (op_mapUpdate 1 1 rfl rfl rfl Try.underlying106 Try.underlying3 rfl rfl ?_)
            refine L_nil (C_region ?_)
            refine LY rfl (y_add rfl rfl (show _ = (1 : Int) from rfl)) ?_
            refine LY rfl (y_move rfl) (L_nil ?_)
            refine In_round ?_
            refine C_seq (C_region (LY rfl (y_lss rfl rfl) (L_nil (C_seq (C_cond_t rfl (C_skip (C_seq (C_block (C_seq (C_region (LY rfl (y_move rfl) (LY rfl (y_assign rfl) (L_nil (C_seq (C_region (LY rfl (y_move rfl) ?_))))))))))))))))
            refine LY rfl (y_indexA rfl rfl Try.underlying155 sz_4 (by omega) (by omega) (show _ = 1 from rfl)) ?_
            refine LY rfl (y_load rfl ag_4 (sees 2 0 rfl) rfl) (L_nil (C_cond_t rfl (C_region (LY rfl (y_move rfl) (LY rfl (y_move rfl) (LY rfl (y_nilCheck rfl) (LY rfl (y_fieldAddr rfl fl_111_0) ?_)))))))
            refine LY rfl (y_indexA rfl rfl Try.underlying109 sz_108 (by omega) (by omega) (show _ = 2 from rfl)) ?_
            refine LY rfl (y_fieldAddr rfl fl_108_1) (LY rfl (y_load rfl ag_106 (sees 1 0 rfl) rfl) (LY rfl (y_move rfl) ?_))
            refine L_op rfl (op_delete 1 2 rfl rfl rfl Try.underlying106 Try.underlying3 rfl rfl ?_)
            refine L_nil (C_region ?_)
            refine LY rfl (y_add rfl rfl (show _ = (2 : Int) from rfl)) ?_
            refine LY rfl (y_move rfl) (L_nil ?_)
            refine In_round ?_
            refine C_seq (C_region (LY rfl (y_lss rfl rfl) (L_nil (C_seq (C_cond_f rfl (C_exit (C_seq (C_region (LY rfl (y_assign rfl) (L_nil (C_ret ?_)))))))))))
            refine B_ret (rv_tmp rfl rv_nil) ((hsub (.cons_cons _ (.cons_cons _ (.cons _ (.cons _ (.refl _)))))).trans (hsub_pick [1, 0] rfl)) ?_
            have e0 : putD A ask n s false = false := by simp_all [putD, pd]
            have e1 : putD A ask n s true = true := by simp_all [putD, pd, pA]
            have ea : putA A ask n s = (A.write true n s) := by simp_all [putA, pA]
            have em : putm m A ask n s = m.mark n false true := by simp [putm, hn, e0, e1]
            exact ⟨ret_int (by simp [putE, hn, e0, e1]), D13, h13.to (by simp [putDa, hn, ea]), by rw [em]; rfl⟩
          · skip
            refine HY 14 rfl (hsub (.cons _ (.cons _ (.cons _ (.cons _ (.refl _)))))) rfl (y_pick_f rfl rfl) ?_
            refine HY 15 rfl (hsub (.cons _ (.cons _ (.cons _ (.cons _ (.refl _)))))) rfl (y_indexA rfl rfl Try.underlying155 sz_4 (by omega) (by omega) (show _ = 1 from rfl)) ?_
            refine H_one 16 rfl (by kernel_rfl) rfl (op_store1 2 0 rfl rfl rfl sz_4 rfl (Nat.le_of_ble_eq_true rfl) ?_)
            refine ⟨hsub (.cons _ (.cons _ (.cons _ (.cons _ (.refl _))))), ?_⟩
            refine H_done (by kernel_rfl) ?_
            refine C_region ?_
            refine LY rfl (y_add rfl rfl (show _ = (2 : Int) from rfl)) ?_
            refine LY rfl (y_move rfl) (L_nil ?_)
            refine In_round ?_
            refine C_seq (C_region (LY rfl (y_lss rfl rfl) (L_nil (C_seq (C_cond_f rfl (C_exit (C_seq (C_seq (C_region ?_)))))))))
            refine LY rfl (y_indexA rfl rfl Try.underlying155 sz_4 (by omega) (by omega) (show _ = 0 from rfl)) ?_
            refine LY rfl (y_load rfl ag_4 (sees 2 0 rfl) rfl) (LY rfl (y_not rfl) (LY rfl (y_move rfl) ?_))
            refine LY rfl (y_indexA rfl rfl Try.underlying155 sz_4 (by omega) (by omega) (show _ = 1 from rfl)) ?_
            refine LY rfl (y_load rfl ag_4 (sees 2 0 rfl) rfl) (LY rfl (y_not rfl) (LY rfl (y_pick_t rfl rfl) (L_nil (C_cond_t rfl (C_seq (C_region (LY rfl (y_assign rfl) (L_nil (C_ret ?_)))))))))
            refine B_ret (rv_tmp rfl rv_nil) ((hsub (.cons_cons _ (.cons_cons _ (.cons _ (.cons _ (.refl _)))))).trans (hsub_pick [1, 0] rfl)) ?_
            have e0 : putD A ask n s false = false := by simp_all [putD, pd]
            have e1 : putD A ask n s true = false := by simp_all [putD, pd, pA]
            have ea : putA A ask n s = (A.write true n s) := by simp_all [putA, pA]
            have em : putm m A ask n s = m := by simp [putm, hn, e0, e1]
            exact ⟨ret_int (by simp [putE, hn, e0, e1]), D13, h13.to (by simp [putDa, hn, ea]), by rw [em]; rfl⟩
        · refine op_y (y_loadA rfl ag_114 sz_114 (sees 3 0 rfl) (by rw [bs_length, hs]; decide) (bs_whole0 _ hs)) rfl ?_
          refine ⟨hsub (.cons _ (.cons _ (.cons _ (.cons _ (.refl _))))), ?_⟩
          refine H_one 9 rfl (by kernel_rfl) rfl (op_y (y_load rfl ag_54 (sees 0 0 rfl) rfl) rfl ?_)
          refine ⟨hsub (.cons _ (.cons _ (.cons _ (.cons _ (.refl _))))), ?_⟩
          refine H_one 12 rfl (by kernel_rfl) rfl (op_call rfl rfl (fun a w => Try.call82 a w) rfl ?_)
          refine ((write_d h true n s hs (by have := hQ true; omega)).sub (hsub_pick [1] rfl)).mono ?_
          rintro _ _ ⟨rfl, D14, h14, rfl⟩
          refine ⟨_, rfl, ?_⟩
          refine ⟨hsub (.cons _ (.cons _ (.cons _ (.cons _ (.refl _))))), ?_⟩
          refine HY 13 rfl (hsub (.cons _ (.cons _ (.cons _ (.cons _ (.refl _)))))) rfl (y_eqi rfl rfl) ?_
          refine H_case 42 rfl (fun hg9_14 => ?_) (fun hg9_14 => ?_)
          · skip
            refine HY 14 rfl (hsub (.cons _ (.cons _ (.cons _ (.cons _ (.refl _)))))) rfl (y_pick_f rfl rfl) ?_
            refine HY 15 rfl (hsub (.cons _ (.cons _ (.cons _ (.cons _ (.refl _)))))) rfl (y_indexA rfl rfl Try.underlying155 sz_4 (by omega) (by omega) (show _ = 1 from rfl)) ?_
            refine H_one 16 rfl (by kernel_rfl) rfl (op_store1 2 0 rfl rfl rfl sz_4 rfl (Nat.le_of_ble_eq_true rfl) ?_)
            refine ⟨hsub (.cons _ (.cons _ (.cons _ (.cons _ (.refl _))))), ?_⟩
            refine H_done (by kernel_rfl) ?_
            refine C_region ?_
            refine LY rfl (y_add rfl rfl (show _ = (2 : Int) from rfl)) ?_
            refine LY rfl (y_move rfl) (L_nil ?_)
            refine In_round ?_
            refine C_seq (C_region (LY rfl (y_lss rfl rfl) (L_nil (C_seq (C_cond_f rfl (C_exit (C_seq (C_seq (C_region ?_)))))))))
            refine LY rfl (y_indexA rfl rfl Try.underlying155 sz_4 (by omega) (by omega) (show _ = 0 from rfl)) ?_
            refine LY rfl (y_load rfl ag_4 (sees 2 0 rfl) rfl) (LY rfl (y_not rfl) (LY rfl (y_move rfl) ?_))
            refine LY rfl (y_indexA rfl rfl Try.underlying155 sz_4 (by omega) (by omega) (show _ = 1 from rfl)) ?_
            refine LY rfl (y_load rfl ag_4 (sees 2 0 rfl) rfl) (LY rfl (y_not rfl) (LY rfl (y_pick_t rfl rfl) (L_nil (C_cond_f rfl (C_skip (C_seq (C_seq (C_region (LY rfl (y_move rfl) (L_nil (C_block ?_)))))))))))
            refine C_loopIn (In_round ?_)
            refine C_seq (C_region (LY rfl (y_lss rfl rfl) (L_nil (C_seq (C_cond_t rfl (C_skip (C_seq (C_block (C_seq (C_region (LY rfl (y_move rfl) (LY rfl (y_assign rfl) (L_nil (C_seq (C_region (LY rfl (y_move rfl) ?_))))))))))))))))
            refine LY rfl (y_indexA rfl rfl Try.underlying155 sz_4 (by omega) (by omega) (show _ = 0 from rfl)) ?_
            refine LY rfl (y_load rfl ag_4 (sees 2 0 rfl) rfl) (L_nil (C_cond_f rfl (C_region (LY rfl (y_move rfl) (LY rfl (y_move rfl) (LY rfl (y_nilCheck rfl) (LY rfl (y_fieldAddr rfl fl_111_0) ?_)))))))
            refine LY rfl (y_indexA rfl rfl Try.underlying109 sz_108 (by omega) (by omega) (show _ = 0 from rfl)) ?_
            refine LY rfl (y_fieldAddr rfl fl_108_1) (LY rfl (y_load rfl ag_106 (sees 1 0 rfl) rfl) (LY rfl (y_move rfl) ?_))
            refine L_op rfl (op_mapUpdate 1 1 rfl rfl rfl Try.underlying106 Try.underlying3 rfl rfl ?_)
            refine L_nil (C_region ?_)
            refine LY rfl (y_add rfl rfl (show _ = (1 : Int) from rfl)) ?_
            refine LY rfl (y_move rfl) (L_nil ?_)
            refine In_round ?_
            refine C_seq (C_region (LY rfl (y_lss rfl rfl) (L_nil (C_seq (C_cond_t rfl (C_skip (C_seq (C_block (C_seq (C_region (LY rfl (y_move rfl) (LY rfl (y_assign rfl) (L_nil (C_seq (C_region (LY rfl (y_move rfl) ?_))))))))))))))))
            refine LY rfl (y_indexA rfl rfl Try.underlying155 sz_4 (by omega) (by omega) (show _ = 1 from rfl)) ?_
            refine LY rfl (y_load rfl ag_4 (sees 2 0 rfl) rfl) (L_nil (C_cond_t rfl (C_region (LY rfl (y_move rfl) (LY rfl (y_move rfl) (LY rfl (y_nilCheck rfl) (LY rfl (y_fieldAddr rfl fl_111_0) ?_)))))))
            refine LY rfl (y_indexA rfl rfl Try.underlying109 sz_108 (by omega) (by omega) (show _ = 2 from rfl)) ?_
            refine LY rfl (y_fieldAddr rfl fl_108_1) (LY rfl (y_load rfl ag_106 (sees 1 0 rfl) rfl) (LY rfl (y_move rfl) ?_))
            refine L_op rfl (op_delete 1 2 rfl rfl rfl Try.underlying106 Try.underlying3 rfl rfl ?_)
            refine L_nil (C_region ?_)
            refine LY rfl (y_add rfl rfl (show _ = (2 : Int) from rfl)) ?_
            refine LY rfl (y_move rfl) (L_nil ?_)
            refine In_round ?_
            refine C_seq (C_region (LY rfl (y_lss rfl rfl) (L_nil (C_seq (C_cond_f rfl (C_exit (C_seq (C_region (LY rfl (y_assign rfl) (L_nil (C_ret ?_)))))))))))
            refine B_ret (rv_tmp rfl rv_nil) ((hsub (.cons_cons _ (.cons_cons _ (.cons _ (.cons _ (.refl _)))))).trans (hsub_pick [1, 0] rfl)) ?_
            have e0 : putD A ask n s false = false := by simp_all [putD, pd]
            have e1 : putD A ask n s true = true := by simp_all [putD, pd, pA]
            have ea : putA A ask n s = (A.write true n s) := by simp_all [putA, pA]
            have em : putm m A ask n s = m.mark n false true := by simp [putm, hn, e0, e1]
            exact ⟨ret_int (by simp [putE, hn, e0, e1]), D14, h14.to (by simp [putDa, hn, ea]), by rw [em]; rfl⟩
          · skip
            refine HY 14 rfl (hsub (.cons _ (.cons _ (.cons _ (.cons _ (.refl _)))))) rfl (y_pick_f rfl rfl) ?_
            refine HY 15 rfl (hsub (.cons _ (.cons _ (.cons _ (.cons _ (.refl _)))))) rfl (y_indexA rfl rfl Try.underlying155 sz_4 (by omega) (by omega) (show _ = 1 from rfl)) ?_
            refine H_one 16 rfl (by kernel_rfl) rfl (op_store1 2 0 rfl rfl rfl sz_4 rfl (Nat.le_of_ble_eq_true rfl) ?_)
            refine ⟨hsub (.cons _ (.cons _ (.cons _ (.cons _ (.refl _))))), ?_⟩
            refine H_done (by kernel_rfl) ?_
            refine C_region ?_
            refine LY rfl (y_add rfl rfl (show _ = (2 : Int) from rfl)) ?_
            refine LY rfl (y_move rfl) (L_nil ?_)
            refine In_round ?_
            refine C_seq (C_region (LY rfl (y_lss rfl rfl) (L_nil (C_seq (C_cond_f rfl (C_exit (C_seq (C_seq (C_region ?_)))))))))
            refine LY rfl (y_indexA rfl rfl Try.underlying155 sz_4 (by omega) (by omega) (show _ = 0 from rfl)) ?_
            refine LY rfl (y_load rfl ag_4 (sees 2 0 rfl) rfl) (LY rfl (y_not rfl) (LY rfl (y_move rfl) ?_))
            refine LY rfl (y_indexA rfl rfl Try.underlying155 sz_4 (by omega) (by omega) (show _ = 1 from rfl)) ?_
            refine LY rfl (y_load rfl ag_4 (sees 2 0 rfl) rfl) (LY rfl (y_not rfl) (LY rfl (y_pick_t rfl rfl) (L_nil (C_cond_t rfl (C_seq (C_region (LY rfl (y_assign rfl) (L_nil (C_ret ?_)))))))))
            refine B_ret (rv_tmp rfl rv_nil) ((hsub (.cons_cons _ (.cons_cons _ (.cons _ (.cons _ (.refl _)))))).trans (hsub_pick [1, 0] rfl)) ?_
            have e0 : putD A ask n s false = false := by simp_all [putD, pd]
            have e1 : putD A ask n s true = false := by simp_all [putD, pd, pA]
            have ea : putA A ask n s = (A.write true n s) := by simp_all [putA, pA]
            have em : putm m A ask n s = m := by simp [putm, hn, e0, e1]
            exact ⟨ret_int (by simp [putE, hn, e0, e1]), D14, h14.to (by simp [putDa, hn, ea]), by rw [em]; rfl⟩
    · skip
      refine C_skip (C_region ?_)
      refine LY rfl (y_add rfl rfl (show _ = (2 : Int) from rfl)) ?_
      refine LY rfl (y_move rfl) (L_nil ?_)
      refine In_round ?_
      refine C_seq (C_region (LY rfl (y_lss rfl rfl) (L_nil (C_seq (C_cond_f rfl (C_exit (C_seq (C_seq (C_region ?_)))))))))
      refine LY rfl (y_indexA rfl rfl Try.underlying155 sz_4 (by omega) (by omega) (show _ = 0 from rfl)) ?_
      refine LY rfl (y_load rfl ag_4 (sees 1 0 rfl) rfl) (LY rfl (y_not rfl) (LY rfl (y_move rfl) ?_))
      refine LY rfl (y_indexA rfl rfl Try.underlying155 sz_4 (by omega) (by omega) (show _ = 1 from rfl)) ?_
      refine LY rfl (y_load rfl ag_4 (sees 1 0 rfl) rfl) (LY rfl (y_not rfl) (LY rfl (y_pick_t rfl rfl) (L_nil (C_cond_t rfl (C_seq (C_region (LY rfl (y_assign rfl) (L_nil (C_ret ?_)))))))))
      refine B_ret (rv_tmp rfl rv_nil) ((hsub (.cons_cons _ (.cons_cons _ (.cons _ (.cons _ (.refl _)))))).trans (hsub_pick [3, 0] rfl)) ?_
      have e0 : putD A ask n s false = false := by simp_all [putD, pd]
      have e1 : putD A ask n s true = false := by simp_all [putD, pd, pA]
      have ea : putA A ask n s = A := by simp_all [putA, pA]
      have em : putm m A ask n s = m := by simp [putm, hn, e0, e1]
      exact ⟨ret_int (by simp [putE, hn, e0, e1]), D, h.to (by simp [putDa, hn, ea]), by rw [em]; rfl⟩

theorem put_m {w0 : World} {H : Hp} {D : Duo} {A : Da} {bp : Nat} {m : Mi} (h : Two dt D A m.bx m.bys bp) (n : Int) (s : Sec) (hs : s.length = 128) {fa : Nat} {cap : List Value} {ask : Da → Bool → Bool} (hask : AskAt Try.prog dt 111 w0 H m bp fa cap ask) (hQ : ∀ i, (A.dev i).Q.length < 99990) : FnS Try.prog w0 70 #[ptr m.b, .int .i64 n, .agg (bs s).toArray, .func (.func fa) #[] cap.toArray] (m.seg 111 :: D.seg dt :: H) (fun e H' => e = .returned (.int .i64 (putE m A ask n s)) ∧ ∃ D', Two dt D' (putDa m A ask n s) m.bx m.bys bp ∧ H' = (putm m A ask n s).seg 111 :: D'.seg dt :: H) := by
  cases hn : m.has n
  · exact put_no h n s hs hask hQ hn
  · exact put_yes h n s hs hask hQ hn

end Go.Proofs.Ytighbhplfjjgpaa

/- walks (own work; the walks' lines by a program of this repo). -/
set_option linter.unusedVariables false
set_option linter.unusedSimpArgs false
set_option maxRecDepth 20000
namespace Go.Proofs.Ytighbhplfjjgpaa
open Go.Sl
attribute [local irreducible] BodyQ WpC WpL WpS WpH OpW FnS


theorem ask_all {w0 : World} {H : Hp} {v : Value} : FnS Try.prog w0 71 #[v] H (fun e H' => e = .returned (.bool true) ∧ H' = H) := by
  refine FnS_intro (n := 3) (rs := [.tmp 2]) (vs := [v]) Try.func71 rfl Try.ntmps71 rfl rfl ?_
  refine C_seq (C_region (LY rfl (y_assign rfl) (L_nil (C_seq (C_region (LY rfl (y_assign rfl) (L_nil (C_ret ?_))))))))
  refine B_ret (rv_tmp rfl rv_nil) (HSub.refl _) ?_
  exact ⟨rfl, rfl⟩

theorem mwrite_m {w0 : World} {H : Hp} {D : Duo} {A : Da} {bp : Nat} {m : Mi} (h : Two dt D A m.bx m.bys bp) (n : Int) (s : Sec) (hs : s.length = 128) (hQ : ∀ i, (A.dev i).Q.length < 99990) : FnS Try.prog w0 56 #[ptr m.b, .int .i64 n, .agg (bs s).toArray] (m.seg 111 :: D.seg dt :: H) (fun e H' => e = .returned (.int .i64 (putE m A askAll n s)) ∧ ∃ D', Two dt D' (putDa m A askAll n s) m.bx m.bys bp ∧ H' = (putm m A askAll n s).seg 111 :: D'.seg dt :: H) := by
  refine FnS_intro (n := 11) (rs := [.tmp 6]) (vs := [ptr m.b, .int .i64 n, .agg (bs s).toArray]) Try.func56 rfl Try.ntmps56 rfl rfl ?_
  refine C_seq (C_region ?_)
  refine L_op rfl (op_box rfl rfl rfl (fun B1 => ?_))
  refine LY rfl (y_assign rfl) (L_nil (C_seq (C_region (LY rfl (y_move rfl) (LY rfl (y_move rfl) ?_)))))
  refine LY rfl (y_loadA rfl ag_114 sz_114 (sees 0 0 rfl) (by rw [bs_length, hs]; decide) (bs_whole0 _ hs)) ?_
  refine L_op rfl (op_call rfl rfl (fun a w => Try.call70 a w) rfl ?_)
  refine (FnS.sub (hsub_pick [1, 1] rfl) (put_m h n s hs (cap := []) ⟨fun a w => Try.call71 a w, fun i D A X _ _ => ask_all⟩ hQ)).mono ?_
  rintro _ _ ⟨rfl, D1, h1, rfl⟩
  refine ⟨_, rfl, ?_⟩
  refine LY rfl (y_assign rfl) (L_nil (C_ret ?_))
  refine B_ret (rv_tmp rfl rv_nil) (hsub (.cons_cons _ (.cons_cons _ (.cons _ (.refl _))))) ?_
  exact ⟨rfl, D1, h1, rfl⟩

end Go.Proofs.Ytighbhplfjjgpaa

/- walks (own work; the walks' lines by a program of this repo). -/
set_option linter.unusedVariables false
set_option linter.unusedSimpArgs false
set_option maxRecDepth 20000
namespace Go.Proofs.Ytighbhplfjjgpaa
open Go.Sl
attribute [local irreducible] BodyQ WpC WpL WpS WpH OpW FnS


theorem write_v {w0 : World} {H : Hp} {gv : Value} {D : Duo} {A : Da} {m : Mi} {K : Nat} {X Y : List Sec} {k0 k1 mb bx bys bp : Nat} (h : Ms dt gv D A m K X Y k0 k1 mb bx bys bp) {n : Nat} {s : Sec} (hn : n < K) (hs : s.length = 128) (h0 : k0 < 99990) (h1 : k1 < 99990) : FnS Try.prog w0 56 #[ptr mb, .int .i64 (n : Int), .agg (bs s).toArray] (m.seg 111 :: D.seg dt :: H) (fun e H' => e = .returned (.int .i64 0) ∧ ∃ D' A', Ms dt gv D' A' m K (X.set n s) (Y.set n s) (k0 + 1) (k1 + 1) mb bx bys bp ∧ H' = m.seg 111 :: D'.seg dt :: H) := by
  have hT : Two dt D A m.bx m.bys bp := by rw [h.bx, h.bys]; exact h.two
  obtain ⟨e0, e1, v⟩ := h.vw.put (m := m) h.n h.s0 h.s1 hn hs (askok_all K n s)
  have hq : ∀ i, (A.dev i).Q.length < 99990 := fun i => by cases i; exact Nat.lt_of_le_of_lt (h.vw.dev false).many h0; exact Nat.lt_of_le_of_lt (h.vw.dev true).many h1
  have := mwrite_m (w0 := w0) (H := H) hT (n : Int) s hs hq
  rw [e0, e1, h.mb, h.bx, h.bys] at this
  refine this.mono ?_
  rintro _ _ ⟨rfl, D', hT', rfl⟩
  exact ⟨rfl, D', _, h.with hT' v (set_ok2 h.okX hs) (set_ok2 h.okY hs), rfl⟩

end Go.Proofs.Ytighbhplfjjgpaa

/- walks (own work; the walks' lines by a program of this repo). -/
set_option linter.unusedVariables false
set_option linter.unusedSimpArgs false
set_option maxRecDepth 20000
namespace Go.Proofs.Ytighbhplfjjgpaa
open Go.Sl
attribute [local irreducible] BodyQ WpC WpL WpS WpH OpW FnS



set_option maxHeartbeats 4000000 in

theorem new_fn_tt {w0 : World} {H : Hp} {f : Nat} {cap : List Value} {D : Duo} {A : Da} {bx bys bp : Nat} (h : Two dt D A bx bys bp) (hp : thr A false = true) (hq : thr A true = true) : FnS Try.prog w0 26 #[ptr bx, ptr bys, .func (.func f) #[] cap.toArray] (D.seg dt :: H) (fun e H' => ∃ b r0 r1, e = .returned (ptr b) ∧ H' = (mnew A bx bys (.func (.func f) #[] cap.toArray) b r0 r1).seg 111 :: D.seg dt :: H) := by
  have hlen : A.a.S.length ≤ 4096 := (h.oks false).2.1
  refine FnS_intro (n := 64) (rs := [.tmp 6]) (vs := [ptr bx, ptr bys, .func (.func f) #[] cap.toArray]) Try.func26 rfl Try.ntmps26 rfl rfl ?_
  refine C_seq (C_region (LY rfl (y_assign rfl) (L_nil (C_seq (C_region (LY rfl (y_move rfl) ?_))))))
  refine L_op rfl (op_call rfl rfl (fun a w => Try.call50 a w) rfl ?_)
  refine ((len_d h false).sub (hsub_pick [0] rfl)).mono ?_
  rintro _ _ ⟨rfl, rfl⟩
  refine ⟨_, rfl, ?_⟩
  refine LY rfl (y_move rfl) ?_
  refine L_op rfl (op_call rfl rfl (fun a w => Try.call50 a w) rfl ?_)
  refine ((len_d h true).sub (hsub_pick [0] rfl)).mono ?_
  rintro _ _ ⟨rfl, rfl⟩
  refine ⟨_, rfl, ?_⟩
  refine LY rfl (y_minN rfl rfl) ?_
  refine LY rfl (y_move rfl) ?_
  refine LY rfl (y_build (vs := [(1, _), (2, _)]) (l := [.pointer none, .map none, .pointer none, .map none, .int .i64 (((min A.a.S.length A.b.S.length) : Nat) : Int), .func (.func f) #[] cap.toArray]) rfl pl_111 zl_111 (fill_cons (off := 4) (m := 1) (vs := [_]) rfl rfl rfl (Nat.le_of_ble_eq_true rfl) (fill_cons (off := 5) (m := 1) (vs := [_]) rfl rfl rfl (Nat.le_of_ble_eq_true rfl) rfl))) ?_
  refine L_op rfl (op_box rfl rfl rfl (fun B1 => ?_))
  refine LY rfl (y_assign rfl) (L_nil (C_seq (C_seq (C_region (LY rfl (y_move rfl) (LY rfl (y_move rfl) ?_))))))
  refine L_op rfl (op_buildSlice (vs := [(0, _), (1, _)]) rfl Try.underlying112 sz_54 zl_54 rfl (by decide) rfl rfl (fun B2 => ?_))
  refine LY rfl (y_lenS rfl rfl Try.underlying112) ?_
  refine LY rfl (y_move rfl) (L_nil (C_block ?_))
  refine C_loopIn (In_round ?_)
  refine C_seq (C_region (LY rfl (y_lss rfl rfl) (L_nil (C_seq (C_cond_t rfl (C_skip (C_seq (C_block (C_seq (C_region (LY rfl (y_move rfl) ?_)))))))))))
  refine LY rfl (y_indexS rfl rfl Try.underlying112 sz_54 (by omega) (by omega) (show _ = 0 from rfl)) ?_
  refine LY rfl (y_load rfl ag_54 (sees 0 0 rfl) rfl) (LY rfl (y_assign rfl) (LY rfl (y_assign rfl) (L_nil (C_seq (C_region (LY rfl (y_move rfl) (LY rfl (y_move rfl) (LY rfl (y_move rfl) ?_))))))))
  refine L_op rfl (op_makeMap rfl (fun B3 => ?_))
  refine LY rfl (y_build (vs := [(0, _), (1, _)]) (l := [ptr bx, .map (some B3)]) rfl pl_108 zl_108 (fill_cons (off := 0) (m := 1) (vs := [_]) rfl rfl rfl (Nat.le_of_ble_eq_true rfl) (fill_cons (off := 1) (m := 1) (vs := [_]) rfl rfl rfl (Nat.le_of_ble_eq_true rfl) rfl))) ?_
  refine LY rfl (y_nilCheck rfl) (LY rfl (y_fieldAddr rfl fl_111_0) ?_)
  refine LY rfl (y_indexA rfl rfl Try.underlying109 sz_108 (by omega) (by omega) (show _ = 0 from rfl)) ?_
  refine L_op rfl (op_store (vs := [ptr bx, .map (some B3)]) 2 0 rfl rfl rfl sz_108 rfl rfl (ones rfl) (Nat.le_of_ble_eq_true rfl) ?_)
  rw [show spl [.pointer none, .map none, .pointer none, .map none, .int .i64 (((min A.a.S.length A.b.S.length) : Nat) : Int), .func (.func f) #[] cap.toArray] 0 [ptr bx, .map (some B3)] = [ptr bx, .map (some B3), .pointer none, .map none, .int .i64 (((min A.a.S.length A.b.S.length) : Nat) : Int), .func (.func f) #[] cap.toArray] from rfl]
  refine L_nil (C_seq (C_region (LY rfl (y_assign rfl) (L_nil (C_block ?_)))))
  refine C_loopIn (In_round ?_)
  refine C_seq (C_seq (C_region (LY rfl (y_move rfl) (LY rfl (y_move rfl) (LY rfl (y_nilCheck rfl) (LY rfl (y_fieldAddr rfl fl_111_1) (LY rfl (y_load rfl ag_3 (sees 2 0 rfl) rfl) (LY rfl (y_lss rfl rfl) (LY rfl (y_move rfl) ?_)))))))))
  refine L_case 42 rfl (fun hg7_7 => ?_) (fun hg7_7 => ?_)
  · have hj := of_decide_eq_true hg7_7
    refine LY rfl (y_move rfl) (LY rfl (y_move rfl) (LY rfl (y_nilCheck rfl) (LY rfl (y_fieldAddr rfl fl_111_0) ?_)))
    refine LY rfl (y_indexA rfl rfl Try.underlying109 sz_108 (by omega) (by omega) (show _ = 0 from rfl)) ?_
    refine LY rfl (y_loadA rfl ag_108 sz_108 (sees 2 0 rfl) (Nat.le_of_ble_eq_true rfl) rfl) ?_
    refine L_op rfl (op_call rfl rfl (fun a w => Try.call51 a w) rfl ?_)
    refine ((there_d h false).sub (hsub_pick [3] rfl)).mono ?_
    rintro _ _ ⟨rfl, rfl⟩
    rw [hp]
    refine ⟨_, rfl, ?_⟩
    refine LY rfl (y_not rfl) (LY rfl (y_pick_t rfl rfl) (L_nil (C_cond_f rfl (C_exit (C_region ?_)))))
    refine LY rfl (y_add rfl rfl (show _ = (1 : Int) from rfl)) ?_
    refine LY rfl (y_move rfl) (L_nil ?_)
    refine In_round ?_
    refine C_seq (C_region (LY rfl (y_lss rfl rfl) (L_nil (C_seq (C_cond_t rfl (C_skip (C_seq (C_block (C_seq (C_region (LY rfl (y_move rfl) ?_)))))))))))
    refine LY rfl (y_indexS rfl rfl Try.underlying112 sz_54 (by omega) (by omega) (show _ = 1 from rfl)) ?_
    refine LY rfl (y_load rfl ag_54 (sees 2 0 rfl) rfl) (LY rfl (y_assign rfl) (LY rfl (y_assign rfl) (L_nil (C_seq (C_region (LY rfl (y_move rfl) (LY rfl (y_move rfl) (LY rfl (y_move rfl) ?_))))))))
    refine L_op rfl (op_makeMap rfl (fun B4 => ?_))
    refine LY rfl (y_build (vs := [(0, _), (1, _)]) (l := [ptr bys, .map (some B4)]) rfl pl_108 zl_108 (fill_cons (off := 0) (m := 1) (vs := [_]) rfl rfl rfl (Nat.le_of_ble_eq_true rfl) (fill_cons (off := 1) (m := 1) (vs := [_]) rfl rfl rfl (Nat.le_of_ble_eq_true rfl) rfl))) ?_
    refine LY rfl (y_nilCheck rfl) (LY rfl (y_fieldAddr rfl fl_111_0) ?_)
    refine LY rfl (y_indexA rfl rfl Try.underlying109 sz_108 (by omega) (by omega) (show _ = 2 from rfl)) ?_
    refine L_op rfl (op_store (vs := [ptr bys, .map (some B4)]) 4 0 rfl rfl rfl sz_108 rfl rfl (ones rfl) (Nat.le_of_ble_eq_true rfl) ?_)
    rw [show spl [ptr bx, .map (some B3), .pointer none, .map none, .int .i64 (((min A.a.S.length A.b.S.length) : Nat) : Int), .func (.func f) #[] cap.toArray] 2 [ptr bys, .map (some B4)] = [ptr bx, .map (some B3), ptr bys, .map (some B4), .int .i64 (((min A.a.S.length A.b.S.length) : Nat) : Int), .func (.func f) #[] cap.toArray] from rfl]
    refine L_nil (C_seq (C_region (LY rfl (y_assign rfl) (L_nil (C_block ?_)))))
    refine C_loopIn (In_round ?_)
    refine C_seq (C_seq (C_region (LY rfl (y_move rfl) (LY rfl (y_move rfl) (LY rfl (y_nilCheck rfl) (LY rfl (y_fieldAddr rfl fl_111_1) (LY rfl (y_load rfl ag_3 (sees 4 0 rfl) rfl) (LY rfl (y_lss rfl rfl) (LY rfl (y_move rfl) ?_)))))))))
    refine L_case 42 rfl (fun hg7_7 => ?_) (fun hg7_7 => ?_)
    · have hj := of_decide_eq_true hg7_7
      refine LY rfl (y_move rfl) (LY rfl (y_move rfl) (LY rfl (y_nilCheck rfl) (LY rfl (y_fieldAddr rfl fl_111_0) ?_)))
      refine LY rfl (y_indexA rfl rfl Try.underlying109 sz_108 (by omega) (by omega) (show _ = 2 from rfl)) ?_
      refine LY rfl (y_loadA rfl ag_108 sz_108 (sees 4 0 rfl) (Nat.le_of_ble_eq_true rfl) rfl) ?_
      refine L_op rfl (op_call rfl rfl (fun a w => Try.call51 a w) rfl ?_)
      refine ((there_d h true).sub (hsub_pick [1] rfl)).mono ?_
      rintro _ _ ⟨rfl, rfl⟩
      rw [hq]
      refine ⟨_, rfl, ?_⟩
      refine LY rfl (y_not rfl) (LY rfl (y_pick_t rfl rfl) (L_nil (C_cond_f rfl (C_exit (C_region ?_)))))
      refine LY rfl (y_add rfl rfl (show _ = (2 : Int) from rfl)) ?_
      refine LY rfl (y_move rfl) (L_nil ?_)
      refine In_round ?_
      refine C_seq (C_region (LY rfl (y_lss rfl rfl) (L_nil (C_seq (C_cond_f rfl (C_exit (C_seq (C_region (LY rfl (y_move rfl) (LY rfl (y_assign rfl) (L_nil (C_ret ?_))))))))))))
      refine B_ret (rv_tmp rfl rv_nil) ((hsub_flat (H := [_] :: [_] :: [_] :: D.seg dt :: H) (H' := Mi.seg 111 ⟨B1, B3, B4, bx, bys, (min A.a.S.length A.b.S.length), .func (.func f) #[] cap.toArray, stale0 true (min A.a.S.length A.b.S.length), (if true then 0 else (min A.a.S.length A.b.S.length)), stale0 true (min A.a.S.length A.b.S.length), (if true then 0 else (min A.a.S.length A.b.S.length))⟩ :: D.seg dt :: H) rfl).trans ((hsub (.cons_cons _ (.cons_cons _ (.cons_cons _ (.cons_cons _ (.cons _ (.refl _))))))).trans (hsub_pick [4, 2, 1, 0] rfl))) ?_
      exact ⟨B1, B3, B4, rfl, by simp only [mnew, stale0, hp, hq] <;> rfl⟩
    · have hj := of_decide_eq_false hg7_7
      refine L_skip rfl rfl (L_skip rfl rfl (L_skip rfl rfl (L_skip rfl rfl (L_skip rfl rfl (L_skip rfl rfl (L_skip rfl rfl (L_skip rfl rfl (LY rfl (y_pick_f rfl rfl) (L_nil (C_cond_f rfl (C_exit (C_region ?_))))))))))))
      refine LY rfl (y_add rfl rfl (show _ = (2 : Int) from rfl)) ?_
      refine LY rfl (y_move rfl) (L_nil ?_)
      refine In_round ?_
      refine C_seq (C_region (LY rfl (y_lss rfl rfl) (L_nil (C_seq (C_cond_f rfl (C_exit (C_seq (C_region (LY rfl (y_move rfl) (LY rfl (y_assign rfl) (L_nil (C_ret ?_))))))))))))
      refine B_ret (rv_tmp rfl rv_nil) ((hsub_flat (H := [_] :: [_] :: [_] :: D.seg dt :: H) (H' := Mi.seg 111 ⟨B1, B3, B4, bx, bys, (min A.a.S.length A.b.S.length), .func (.func f) #[] cap.toArray, stale0 true (min A.a.S.length A.b.S.length), (if true then 0 else (min A.a.S.length A.b.S.length)), stale0 true (min A.a.S.length A.b.S.length), (if true then 0 else (min A.a.S.length A.b.S.length))⟩ :: D.seg dt :: H) rfl).trans ((hsub (.cons_cons _ (.cons_cons _ (.cons_cons _ (.cons_cons _ (.cons _ (.refl _))))))).trans (hsub_pick [4, 2, 0, 0] rfl))) ?_
      exact ⟨B1, B3, B4, rfl, by simp only [mnew, stale0, hp, hq] <;> rfl⟩
  · have hj := of_decide_eq_false hg7_7
    refine L_skip rfl rfl (L_skip rfl rfl (L_skip rfl rfl (L_skip rfl rfl (L_skip rfl rfl (L_skip rfl rfl (L_skip rfl rfl (L_skip rfl rfl (LY rfl (y_pick_f rfl rfl) (L_nil (C_cond_f rfl (C_exit (C_region ?_))))))))))))
    refine LY rfl (y_add rfl rfl (show _ = (1 : Int) from rfl)) ?_
    refine LY rfl (y_move rfl) (L_nil ?_)
    refine In_round ?_
    refine C_seq (C_region (LY rfl (y_lss rfl rfl) (L_nil (C_seq (C_cond_t rfl (C_skip (C_seq (C_block (C_seq (C_region (LY rfl (y_move rfl) ?_)))))))))))
    refine LY rfl (y_indexS rfl rfl Try.underlying112 sz_54 (by omega) (by omega) (show _ = 1 from rfl)) ?_
    refine LY rfl (y_load rfl ag_54 (sees 1 0 rfl) rfl) (LY rfl (y_assign rfl) (LY rfl (y_assign rfl) (L_nil (C_seq (C_region (LY rfl (y_move rfl) (LY rfl (y_move rfl) (LY rfl (y_move rfl) ?_))))))))
    refine L_op rfl (op_makeMap rfl (fun B5 => ?_))
    refine LY rfl (y_build (vs := [(0, _), (1, _)]) (l := [ptr bys, .map (some B5)]) rfl pl_108 zl_108 (fill_cons (off := 0) (m := 1) (vs := [_]) rfl rfl rfl (Nat.le_of_ble_eq_true rfl) (fill_cons (off := 1) (m := 1) (vs := [_]) rfl rfl rfl (Nat.le_of_ble_eq_true rfl) rfl))) ?_
    refine LY rfl (y_nilCheck rfl) (LY rfl (y_fieldAddr rfl fl_111_0) ?_)
    refine LY rfl (y_indexA rfl rfl Try.underlying109 sz_108 (by omega) (by omega) (show _ = 2 from rfl)) ?_
    refine L_op rfl (op_store (vs := [ptr bys, .map (some B5)]) 3 0 rfl rfl rfl sz_108 rfl rfl (ones rfl) (Nat.le_of_ble_eq_true rfl) ?_)
    rw [show spl [ptr bx, .map (some B3), .pointer none, .map none, .int .i64 (((min A.a.S.length A.b.S.length) : Nat) : Int), .func (.func f) #[] cap.toArray] 2 [ptr bys, .map (some B5)] = [ptr bx, .map (some B3), ptr bys, .map (some B5), .int .i64 (((min A.a.S.length A.b.S.length) : Nat) : Int), .func (.func f) #[] cap.toArray] from rfl]
    refine L_nil (C_seq (C_region (LY rfl (y_assign rfl) (L_nil (C_block ?_)))))
    refine C_loopIn (In_round ?_)
    refine C_seq (C_seq (C_region (LY rfl (y_move rfl) (LY rfl (y_move rfl) (LY rfl (y_nilCheck rfl) (LY rfl (y_fieldAddr rfl fl_111_1) (LY rfl (y_load rfl ag_3 (sees 3 0 rfl) rfl) (LY rfl (y_lss rfl rfl) (LY rfl (y_move rfl) ?_)))))))))
    refine L_case 42 rfl (fun hg7_7 => ?_) (fun hg7_7 => ?_)
    · have hj := of_decide_eq_true hg7_7
      refine LY rfl (y_move rfl) (LY rfl (y_move rfl) (LY rfl (y_nilCheck rfl) (LY rfl (y_fieldAddr rfl fl_111_0) ?_)))
      refine LY rfl (y_indexA rfl rfl Try.underlying109 sz_108 (by omega) (by omega) (show _ = 2 from rfl)) ?_
      refine LY rfl (y_loadA rfl ag_108 sz_108 (sees 3 0 rfl) (Nat.le_of_ble_eq_true rfl) rfl) ?_
      refine L_op rfl (op_call rfl rfl (fun a w => Try.call51 a w) rfl ?_)
      refine ((there_d h true).sub (hsub_pick [4] rfl)).mono ?_
      rintro _ _ ⟨rfl, rfl⟩
      rw [hq]
      refine ⟨_, rfl, ?_⟩
      refine LY rfl (y_not rfl) (LY rfl (y_pick_t rfl rfl) (L_nil (C_cond_f rfl (C_exit (C_region ?_)))))
      refine LY rfl (y_add rfl rfl (show _ = (2 : Int) from rfl)) ?_
      refine LY rfl (y_move rfl) (L_nil ?_)
      refine In_round ?_
      refine C_seq (C_region (LY rfl (y_lss rfl rfl) (L_nil (C_seq (C_cond_f rfl (C_exit (C_seq (C_region (LY rfl (y_move rfl) (LY rfl (y_assign rfl) (L_nil (C_ret ?_))))))))))))
      refine B_ret (rv_tmp rfl rv_nil) ((hsub_flat (H := [_] :: [_] :: [_] :: D.seg dt :: H) (H' := Mi.seg 111 ⟨B1, B3, B5, bx, bys, (min A.a.S.length A.b.S.length), .func (.func f) #[] cap.toArray, stale0 true (min A.a.S.length A.b.S.length), (if true then 0 else (min A.a.S.length A.b.S.length)), stale0 true (min A.a.S.length A.b.S.length), (if true then 0 else (min A.a.S.length A.b.S.length))⟩ :: D.seg dt :: H) rfl).trans ((hsub (.cons_cons _ (.cons_cons _ (.cons_cons _ (.cons_cons _ (.cons _ (.refl _))))))).trans (hsub_pick [4, 2, 1, 0] rfl))) ?_
      exact ⟨B1, B3, B5, rfl, by simp only [mnew, stale0, hp, hq] <;> rfl⟩
    · have hj := of_decide_eq_false hg7_7
      refine L_skip rfl rfl (L_skip rfl rfl (L_skip rfl rfl (L_skip rfl rfl (L_skip rfl rfl (L_skip rfl rfl (L_skip rfl rfl (L_skip rfl rfl (LY rfl (y_pick_f rfl rfl) (L_nil (C_cond_f rfl (C_exit (C_region ?_))))))))))))
      refine LY rfl (y_add rfl rfl (show _ = (2 : Int) from rfl)) ?_
      refine LY rfl (y_move rfl) (L_nil ?_)
      refine In_round ?_
      refine C_seq (C_region (LY rfl (y_lss rfl rfl) (L_nil (C_seq (C_cond_f rfl (C_exit (C_seq (C_region (LY rfl (y_move rfl) (LY rfl (y_assign rfl) (L_nil (C_ret ?_))))))))))))
      refine B_ret (rv_tmp rfl rv_nil) ((hsub_flat (H := [_] :: [_] :: [_] :: D.seg dt :: H) (H' := Mi.seg 111 ⟨B1, B3, B5, bx, bys, (min A.a.S.length A.b.S.length), .func (.func f) #[] cap.toArray, stale0 true (min A.a.S.length A.b.S.length), (if true then 0 else (min A.a.S.length A.b.S.length)), stale0 true (min A.a.S.length A.b.S.length), (if true then 0 else (min A.a.S.length A.b.S.length))⟩ :: D.seg dt :: H) rfl).trans ((hsub (.cons_cons _ (.cons_cons _ (.cons_cons _ (.cons_cons _ (.cons _ (.refl _))))))).trans (hsub_pick [3, 1, 0, 1] rfl))) ?_
      exact ⟨B1, B3, B5, rfl, by simp only [mnew, stale0, hp, hq] <;> rfl⟩

set_option maxHeartbeats 4000000 in

theorem new_fn_tf {w0 : World} {H : Hp} {f : Nat} {cap : List Value} {D : Duo} {A : Da} {bx bys bp : Nat} (h : Two dt D A bx bys bp) (hp : thr A false = true) (hq : thr A true = false) : FnS Try.prog w0 26 #[ptr bx, ptr bys, .func (.func f) #[] cap.toArray] (D.seg dt :: H) (fun e H' => ∃ b r0 r1, e = .returned (ptr b) ∧ H' = (mnew A bx bys (.func (.func f) #[] cap.toArray) b r0 r1).seg 111 :: D.seg dt :: H) := by
  have hlen : A.a.S.length ≤ 4096 := (h.oks false).2.1
  refine FnS_intro (n := 64) (rs := [.tmp 6]) (vs := [ptr bx, ptr bys, .func (.func f) #[] cap.toArray]) Try.func26 rfl Try.ntmps26 rfl rfl ?_
  refine C_seq (C_region (LY rfl (y_assign rfl) (L_nil (C_seq (C_region (LY rfl (y_move rfl) ?_))))))
  refine L_op rfl (op_call rfl rfl (fun a w => Try.call50 a w) rfl ?_)
  refine ((len_d h false).sub (hsub_pick [0] rfl)).mono ?_
  rintro _ _ ⟨rfl, rfl⟩
  refine ⟨_, rfl, ?_⟩
  refine LY rfl (y_move rfl) ?_
  refine L_op rfl (op_call rfl rfl (fun a w => Try.call50 a w) rfl ?_)
  refine ((len_d h true).sub (hsub_pick [0] rfl)).mono ?_
  rintro _ _ ⟨rfl, rfl⟩
  refine ⟨_, rfl, ?_⟩
  refine LY rfl (y_minN rfl rfl) ?_
  refine LY rfl (y_move rfl) ?_
  refine LY rfl (y_build (vs := [(1, _), (2, _)]) (l := [.pointer none, .map none, .pointer none, .map none, .int .i64 (((min A.a.S.length A.b.S.length) : Nat) : Int), .func (.func f) #[] cap.toArray]) rfl pl_111 zl_111 (fill_cons (off := 4) (m := 1) (vs := [_]) rfl rfl rfl (Nat.le_of_ble_eq_true rfl) (fill_cons (off := 5) (m := 1) (vs := [_]) rfl rfl rfl (Nat.le_of_ble_eq_true rfl) rfl))) ?_
  refine L_op rfl (op_box rfl rfl rfl (fun B1 => ?_))
  refine LY rfl (y_assign rfl) (L_nil (C_seq (C_seq (C_region (LY rfl (y_move rfl) (LY rfl (y_move rfl) ?_))))))
  refine L_op rfl (op_buildSlice (vs := [(0, _), (1, _)]) rfl Try.underlying112 sz_54 zl_54 rfl (by decide) rfl rfl (fun B2 => ?_))
  refine LY rfl (y_lenS rfl rfl Try.underlying112) ?_
  refine LY rfl (y_move rfl) (L_nil (C_block ?_))
  refine C_loopIn (In_round ?_)
  refine C_seq (C_region (LY rfl (y_lss rfl rfl) (L_nil (C_seq (C_cond_t rfl (C_skip (C_seq (C_block (C_seq (C_region (LY rfl (y_move rfl) ?_)))))))))))
  refine LY rfl (y_indexS rfl rfl Try.underlying112 sz_54 (by omega) (by omega) (show _ = 0 from rfl)) ?_
  refine LY rfl (y_load rfl ag_54 (sees 0 0 rfl) rfl) (LY rfl (y_assign rfl) (LY rfl (y_assign rfl) (L_nil (C_seq (C_region (LY rfl (y_move rfl) (LY rfl (y_move rfl) (LY rfl (y_move rfl) ?_))))))))
  refine L_op rfl (op_makeMap rfl (fun B3 => ?_))
  refine LY rfl (y_build (vs := [(0, _), (1, _)]) (l := [ptr bx, .map (some B3)]) rfl pl_108 zl_108 (fill_cons (off := 0) (m := 1) (vs := [_]) rfl rfl rfl (Nat.le_of_ble_eq_true rfl) (fill_cons (off := 1) (m := 1) (vs := [_]) rfl rfl rfl (Nat.le_of_ble_eq_true rfl) rfl))) ?_
  refine LY rfl (y_nilCheck rfl) (LY rfl (y_fieldAddr rfl fl_111_0) ?_)
  refine LY rfl (y_indexA rfl rfl Try.underlying109 sz_108 (by omega) (by omega) (show _ = 0 from rfl)) ?_
  refine L_op rfl (op_store (vs := [ptr bx, .map (some B3)]) 2 0 rfl rfl rfl sz_108 rfl rfl (ones rfl) (Nat.le_of_ble_eq_true rfl) ?_)
  rw [show spl [.pointer none, .map none, .pointer none, .map none, .int .i64 (((min A.a.S.length A.b.S.length) : Nat) : Int), .func (.func f) #[] cap.toArray] 0 [ptr bx, .map (some B3)] = [ptr bx, .map (some B3), .pointer none, .map none, .int .i64 (((min A.a.S.length A.b.S.length) : Nat) : Int), .func (.func f) #[] cap.toArray] from rfl]
  refine L_nil (C_seq (C_region (LY rfl (y_assign rfl) (L_nil (C_block ?_)))))
  refine C_loopIn (In_round ?_)
  refine C_seq (C_seq (C_region (LY rfl (y_move rfl) (LY rfl (y_move rfl) (LY rfl (y_nilCheck rfl) (LY rfl (y_fieldAddr rfl fl_111_1) (LY rfl (y_load rfl ag_3 (sees 2 0 rfl) rfl) (LY rfl (y_lss rfl rfl) (LY rfl (y_move rfl) ?_)))))))))
  refine L_case 42 rfl (fun hg7_7 => ?_) (fun hg7_7 => ?_)
  · have hj := of_decide_eq_true hg7_7
    refine LY rfl (y_move rfl) (LY rfl (y_move rfl) (LY rfl (y_nilCheck rfl) (LY rfl (y_fieldAddr rfl fl_111_0) ?_)))
    refine LY rfl (y_indexA rfl rfl Try.underlying109 sz_108 (by omega) (by omega) (show _ = 0 from rfl)) ?_
    refine LY rfl (y_loadA rfl ag_108 sz_108 (sees 2 0 rfl) (Nat.le_of_ble_eq_true rfl) rfl) ?_
    refine L_op rfl (op_call rfl rfl (fun a w => Try.call51 a w) rfl ?_)
    refine ((there_d h false).sub (hsub_pick [3] rfl)).mono ?_
    rintro _ _ ⟨rfl, rfl⟩
    rw [hp]
    refine ⟨_, rfl, ?_⟩
    refine LY rfl (y_not rfl) (LY rfl (y_pick_t rfl rfl) (L_nil (C_cond_f rfl (C_exit (C_region ?_)))))
    refine LY rfl (y_add rfl rfl (show _ = (1 : Int) from rfl)) ?_
    refine LY rfl (y_move rfl) (L_nil ?_)
    refine In_round ?_
    refine C_seq (C_region (LY rfl (y_lss rfl rfl) (L_nil (C_seq (C_cond_t rfl (C_skip (C_seq (C_block (C_seq (C_region (LY rfl (y_move rfl) ?_)))))))))))
    refine LY rfl (y_indexS rfl rfl Try.underlying112 sz_54 (by omega) (by omega) (show _ = 1 from rfl)) ?_
    refine LY rfl (y_load rfl ag_54 (sees 2 0 rfl) rfl) (LY rfl (y_assign rfl) (LY rfl (y_assign rfl) (L_nil (C_seq (C_region (LY rfl (y_move rfl) (LY rfl (y_move rfl) (LY rfl (y_move rfl) ?_))))))))
    refine L_op rfl (op_makeMap rfl (fun B4 => ?_))
    refine LY rfl (y_build (vs := [(0, _), (1, _)]) (l := [ptr bys, .map (some B4)]) rfl pl_108 zl_108 (fill_cons (off := 0) (m := 1) (vs := [_]) rfl rfl rfl (Nat.le_of_ble_eq_true rfl) (fill_cons (off := 1) (m := 1) (vs := [_]) rfl rfl rfl (Nat.le_of_ble_eq_true rfl) rfl))) ?_
    refine LY rfl (y_nilCheck rfl) (LY rfl (y_fieldAddr rfl fl_111_0) ?_)
    refine LY rfl (y_indexA rfl rfl Try.underlying109 sz_108 (by omega) (by omega) (show _ = 2 from rfl)) ?_
    refine L_op rfl (op_store (vs := [ptr bys, .map (some B4)]) 4 0 rfl rfl rfl sz_108 rfl rfl (ones rfl) (Nat.le_of_ble_eq_true rfl) ?_)
    rw [show spl [ptr bx, .map (some B3), .pointer none, .map none, .int .i64 (((min A.a.S.length A.b.S.length) : Nat) : Int), .func (.func f) #[] cap.toArray] 2 [ptr bys, .map (some B4)] = [ptr bx, .map (some B3), ptr bys, .map (some B4), .int .i64 (((min A.a.S.length A.b.S.length) : Nat) : Int), .func (.func f) #[] cap.toArray] from rfl]
    refine L_nil (C_seq (C_region (LY rfl (y_assign rfl) (L_nil (C_block ?_)))))
    refine C_loop (ι := Nat) (fun j => [(7, ptr B1), (8, .int .i64 1), (10, .int .i64 (j : Int)), (21, .slice (some ⟨B2, 0, none⟩) 2 2), (22, .int .i64 2), (23, .int .i64 1)]) (fun j => [(B4, mapO (stN j) j)] :: [(B1, .cells [ptr bx, .map (some B3), ptr bys, .map (some B4), .int .i64 (((min A.a.S.length A.b.S.length) : Nat) : Int), .func (.func f) #[] cap.toArray].toArray 111)] :: [(B2, .cells [ptr bx, ptr bys].toArray 54)] :: D.seg dt :: [(B3, mapO (stale0 true (min A.a.S.length A.b.S.length)) (if true then 0 else (min A.a.S.length A.b.S.length)))] :: H) (fun j => j ≤ (min A.a.S.length A.b.S.length)) (fun j => (min A.a.S.length A.b.S.length) - j) 0 (Nat.zero_le _) ⟨rfl, rfl, rfl, rfl, rfl, rfl, trivial⟩ (hsub_pick [0, 3, 2, 0, 0] rfl) (fun j hj => ?_)
    skip
    refine C_seq (C_seq (C_region (LY rfl (y_move rfl) (LY rfl (y_move rfl) (LY rfl (y_nilCheck rfl) (LY rfl (y_fieldAddr rfl fl_111_1) (LY rfl (y_load rfl ag_3 (sees 1 0 rfl) rfl) (LY rfl (y_lss rfl rfl) (LY rfl (y_move rfl) ?_)))))))))
    refine L_case 42 rfl (fun hg7_7 => ?_) (fun hg7_7 => ?_)
    · have hj := of_decide_eq_true hg7_7
      refine LY rfl (y_move rfl) (LY rfl (y_move rfl) (LY rfl (y_nilCheck rfl) (LY rfl (y_fieldAddr rfl fl_111_0) ?_)))
      refine LY rfl (y_indexA rfl rfl Try.underlying109 sz_108 (by omega) (by omega) (show _ = 2 from rfl)) ?_
      refine LY rfl (y_loadA rfl ag_108 sz_108 (sees 1 0 rfl) (Nat.le_of_ble_eq_true rfl) rfl) ?_
      refine L_op rfl (op_call rfl rfl (fun a w => Try.call51 a w) rfl ?_)
      refine ((there_d h true).sub (hsub_pick [3] rfl)).mono ?_
      rintro _ _ ⟨rfl, rfl⟩
      rw [hq]
      refine ⟨_, rfl, ?_⟩
      refine LY rfl (y_not rfl) (LY rfl (y_pick_t rfl rfl) (L_nil (C_cond_t rfl (C_skip (C_seq (C_block (C_region (LY rfl (y_move rfl) (LY rfl (y_move rfl) (LY rfl (y_nilCheck rfl) (LY rfl (y_fieldAddr rfl fl_111_0) ?_)))))))))))
      refine LY rfl (y_indexA rfl rfl Try.underlying109 sz_108 (by omega) (by omega) (show _ = 2 from rfl)) ?_
      refine LY rfl (y_fieldAddr rfl fl_108_1) (LY rfl (y_load rfl ag_106 (sees 2 0 rfl) rfl) (LY rfl (y_move rfl) ?_))
      refine L_op rfl (op_mapUpdate 1 0 rfl rfl rfl Try.underlying106 Try.underlying3 rfl rfl ?_)
      refine L_nil (C_region (LY rfl (y_move rfl) ?_))
      refine LY rfl (y_add rfl rfl (wi64 (by omega) (by omega))) ?_
      refine LY rfl (y_assign rfl) (L_nil ?_)
      refine ⟨j + 1, by omega, by omega, ⟨rfl, rfl, rfl, rfl, rfl, rfl, trivial⟩, ?_⟩
      rw [← (stN_put j).1, show mapO (kPut (stN j) j (j : Int)) (j + 1) = mapO (kPut (stN j) j (j : Int)) (kClk (stN j) j (j : Int)) from by rw [(stN_put j).2]]
      exact ((hsub (.cons_cons _ (.cons_cons _ (.cons_cons _ (.cons_cons _ (.cons_cons _ (.refl _))))))).trans (hsub_pick [1, 1, 1, 0, 0] rfl))
    · have hj := of_decide_eq_false hg7_7
      refine L_skip rfl rfl (L_skip rfl rfl (L_skip rfl rfl (L_skip rfl rfl (L_skip rfl rfl (L_skip rfl rfl (L_skip rfl rfl (L_skip rfl rfl (LY rfl (y_pick_f rfl rfl) (L_nil (C_cond_f rfl (C_exit ?_)))))))))))
      obtain rfl : j = (min A.a.S.length A.b.S.length) := by omega
      refine C_region ?_
      refine LY rfl (y_add rfl rfl (show _ = (2 : Int) from rfl)) ?_
      refine LY rfl (y_move rfl) (L_nil ?_)
      refine In_round ?_
      refine C_seq (C_region (LY rfl (y_lss rfl rfl) (L_nil (C_seq (C_cond_f rfl (C_exit (C_seq (C_region (LY rfl (y_move rfl) (LY rfl (y_assign rfl) (L_nil (C_ret ?_))))))))))))
      refine B_ret (rv_tmp rfl rv_nil) ((hsub_flat (H := [_] :: [_] :: [_] :: D.seg dt :: H) (H' := Mi.seg 111 ⟨B1, B3, B4, bx, bys, (min A.a.S.length A.b.S.length), .func (.func f) #[] cap.toArray, stale0 true (min A.a.S.length A.b.S.length), (if true then 0 else (min A.a.S.length A.b.S.length)), stale0 false (min A.a.S.length A.b.S.length), (if false then 0 else (min A.a.S.length A.b.S.length))⟩ :: D.seg dt :: H) rfl).trans ((hsub (.cons_cons _ (.cons_cons _ (.cons_cons _ (.cons_cons _ (.cons _ (.refl _))))))).trans (hsub_pick [1, 3, 0, 1] rfl))) ?_
      exact ⟨B1, B3, B4, rfl, by simp only [mnew, stale0, hp, hq] <;> rfl⟩
  · have hj := of_decide_eq_false hg7_7
    refine L_skip rfl rfl (L_skip rfl rfl (L_skip rfl rfl (L_skip rfl rfl (L_skip rfl rfl (L_skip rfl rfl (L_skip rfl rfl (L_skip rfl rfl (LY rfl (y_pick_f rfl rfl) (L_nil (C_cond_f rfl (C_exit (C_region ?_))))))))))))
    refine LY rfl (y_add rfl rfl (show _ = (1 : Int) from rfl)) ?_
    refine LY rfl (y_move rfl) (L_nil ?_)
    refine In_round ?_
    refine C_seq (C_region (LY rfl (y_lss rfl rfl) (L_nil (C_seq (C_cond_t rfl (C_skip (C_seq (C_block (C_seq (C_region (LY rfl (y_move rfl) ?_)))))))))))
    refine LY rfl (y_indexS rfl rfl Try.underlying112 sz_54 (by omega) (by omega) (show _ = 1 from rfl)) ?_
    refine LY rfl (y_load rfl ag_54 (sees 1 0 rfl) rfl) (LY rfl (y_assign rfl) (LY rfl (y_assign rfl) (L_nil (C_seq (C_region (LY rfl (y_move rfl) (LY rfl (y_move rfl) (LY rfl (y_move rfl) ?_))))))))
    refine L_op rfl (op_makeMap rfl (fun B5 => ?_))
    refine LY rfl (y_build (vs := [(0, _), (1, _)]) (l := [ptr bys, .map (some B5)]) rfl pl_108 zl_108 (fill_cons (off := 0) (m := 1) (vs := [_]) rfl rfl rfl (Nat.le_of_ble_eq_true rfl) (fill_cons (off := 1) (m := 1) (vs := [_]) rfl rfl rfl (Nat.le_of_ble_eq_true rfl) rfl))) ?_
    refine LY rfl (y_nilCheck rfl) (LY rfl (y_fieldAddr rfl fl_111_0) ?_)
    refine LY rfl (y_indexA rfl rfl Try.underlying109 sz_108 (by omega) (by omega) (show _ = 2 from rfl)) ?_
    refine L_op rfl (op_store (vs := [ptr bys, .map (some B5)]) 3 0 rfl rfl rfl sz_108 rfl rfl (ones rfl) (Nat.le_of_ble_eq_true rfl) ?_)
    rw [show spl [ptr bx, .map (some B3), .pointer none, .map none, .int .i64 (((min A.a.S.length A.b.S.length) : Nat) : Int), .func (.func f) #[] cap.toArray] 2 [ptr bys, .map (some B5)] = [ptr bx, .map (some B3), ptr bys, .map (some B5), .int .i64 (((min A.a.S.length A.b.S.length) : Nat) : Int), .func (.func f) #[] cap.toArray] from rfl]
    refine L_nil (C_seq (C_region (LY rfl (y_assign rfl) (L_nil (C_block ?_)))))
    refine C_loop (ι := Nat) (fun j => [(7, ptr B1), (8, .int .i64 1), (10, .int .i64 (j : Int)), (21, .slice (some ⟨B2, 0, none⟩) 2 2), (22, .int .i64 2), (23, .int .i64 1)]) (fun j => [(B5, mapO (stN j) j)] :: [(B1, .cells [ptr bx, .map (some B3), ptr bys, .map (some B5), .int .i64 (((min A.a.S.length A.b.S.length) : Nat) : Int), .func (.func f) #[] cap.toArray].toArray 111)] :: [(B2, .cells [ptr bx, ptr bys].toArray 54)] :: D.seg dt :: [(B3, mapO (stale0 true (min A.a.S.length A.b.S.length)) (if true then 0 else (min A.a.S.length A.b.S.length)))] :: H) (fun j => j ≤ (min A.a.S.length A.b.S.length)) (fun j => (min A.a.S.length A.b.S.length) - j) 0 (Nat.zero_le _) ⟨rfl, rfl, rfl, rfl, rfl, rfl, trivial⟩ (hsub_pick [0, 2, 1, 1, 0] rfl) (fun j hj => ?_)
    skip
    refine C_seq (C_seq (C_region (LY rfl (y_move rfl) (LY rfl (y_move rfl) (LY rfl (y_nilCheck rfl) (LY rfl (y_fieldAddr rfl fl_111_1) (LY rfl (y_load rfl ag_3 (sees 1 0 rfl) rfl) (LY rfl (y_lss rfl rfl) (LY rfl (y_move rfl) ?_)))))))))
    refine L_case 42 rfl (fun hg7_7 => ?_) (fun hg7_7 => ?_)
    · have hj := of_decide_eq_true hg7_7
      refine LY rfl (y_move rfl) (LY rfl (y_move rfl) (LY rfl (y_nilCheck rfl) (LY rfl (y_fieldAddr rfl fl_111_0) ?_)))
      refine LY rfl (y_indexA rfl rfl Try.underlying109 sz_108 (by omega) (by omega) (show _ = 2 from rfl)) ?_
      refine LY rfl (y_loadA rfl ag_108 sz_108 (sees 1 0 rfl) (Nat.le_of_ble_eq_true rfl) rfl) ?_
      refine L_op rfl (op_call rfl rfl (fun a w => Try.call51 a w) rfl ?_)
      refine ((there_d h true).sub (hsub_pick [3] rfl)).mono ?_
      rintro _ _ ⟨rfl, rfl⟩
      rw [hq]
      refine ⟨_, rfl, ?_⟩
      refine LY rfl (y_not rfl) (LY rfl (y_pick_t rfl rfl) (L_nil (C_cond_t rfl (C_skip (C_seq (C_block (C_region (LY rfl (y_move rfl) (LY rfl (y_move rfl) (LY rfl (y_nilCheck rfl) (LY rfl (y_fieldAddr rfl fl_111_0) ?_)))))))))))
      refine LY rfl (y_indexA rfl rfl Try.underlying109 sz_108 (by omega) (by omega) (show _ = 2 from rfl)) ?_
      refine LY rfl (y_fieldAddr rfl fl_108_1) (LY rfl (y_load rfl ag_106 (sees 2 0 rfl) rfl) (LY rfl (y_move rfl) ?_))
      refine L_op rfl (op_mapUpdate 1 0 rfl rfl rfl Try.underlying106 Try.underlying3 rfl rfl ?_)
      refine L_nil (C_region (LY rfl (y_move rfl) ?_))
      refine LY rfl (y_add rfl rfl (wi64 (by omega) (by omega))) ?_
      refine LY rfl (y_assign rfl) (L_nil ?_)
      refine ⟨j + 1, by omega, by omega, ⟨rfl, rfl, rfl, rfl, rfl, rfl, trivial⟩, ?_⟩
      rw [← (stN_put j).1, show mapO (kPut (stN j) j (j : Int)) (j + 1) = mapO (kPut (stN j) j (j : Int)) (kClk (stN j) j (j : Int)) from by rw [(stN_put j).2]]
      exact ((hsub (.cons_cons _ (.cons_cons _ (.cons_cons _ (.cons_cons _ (.cons_cons _ (.refl _))))))).trans (hsub_pick [1, 1, 1, 0, 0] rfl))
    · have hj := of_decide_eq_false hg7_7
      refine L_skip rfl rfl (L_skip rfl rfl (L_skip rfl rfl (L_skip rfl rfl (L_skip rfl rfl (L_skip rfl rfl (L_skip rfl rfl (L_skip rfl rfl (LY rfl (y_pick_f rfl rfl) (L_nil (C_cond_f rfl (C_exit ?_)))))))))))
      obtain rfl : j = (min A.a.S.length A.b.S.length) := by omega
      refine C_region ?_
      refine LY rfl (y_add rfl rfl (show _ = (2 : Int) from rfl)) ?_
      refine LY rfl (y_move rfl) (L_nil ?_)
      refine In_round ?_
      refine C_seq (C_region (LY rfl (y_lss rfl rfl) (L_nil (C_seq (C_cond_f rfl (C_exit (C_seq (C_region (LY rfl (y_move rfl) (LY rfl (y_assign rfl) (L_nil (C_ret ?_))))))))))))
      refine B_ret (rv_tmp rfl rv_nil) ((hsub_flat (H := [_] :: [_] :: [_] :: D.seg dt :: H) (H' := Mi.seg 111 ⟨B1, B3, B5, bx, bys, (min A.a.S.length A.b.S.length), .func (.func f) #[] cap.toArray, stale0 true (min A.a.S.length A.b.S.length), (if true then 0 else (min A.a.S.length A.b.S.length)), stale0 false (min A.a.S.length A.b.S.length), (if false then 0 else (min A.a.S.length A.b.S.length))⟩ :: D.seg dt :: H) rfl).trans ((hsub (.cons_cons _ (.cons_cons _ (.cons_cons _ (.cons_cons _ (.cons _ (.refl _))))))).trans (hsub_pick [1, 3, 0, 1] rfl))) ?_
      exact ⟨B1, B3, B5, rfl, by simp only [mnew, stale0, hp, hq] <;> rfl⟩

set_option maxHeartbeats 4000000 in

theorem new_fn_ft {w0 : World} {H : Hp} {f : Nat} {cap : List Value} {D : Duo} {A : Da} {bx bys bp : Nat} (h : Two dt D A bx bys bp) (hp : thr A false = false) (hq : thr A true = true) : FnS Try.prog w0 26 #[ptr bx, ptr bys, .func (.func f) #[] cap.toArray] (D.seg dt :: H) (fun e H' => ∃ b r0 r1, e = .returned (ptr b) ∧ H' = (mnew A bx bys (.func (.func f) #[] cap.toArray) b r0 r1).seg 111 :: D.seg dt :: H) := by
  have hlen : A.a.S.length ≤ 4096 := (h.oks false).2.1
  refine FnS_intro (n := 64) (rs := [.tmp 6]) (vs := [ptr bx, ptr bys, .func (.func f) #[] cap.toArray]) Try.func26 rfl Try.ntmps26 rfl rfl ?_
  refine C_seq (C_region (LY rfl (y_assign rfl) (L_nil (C_seq (C_region (LY rfl (y_move rfl) ?_))))))
  refine L_op rfl (op_call rfl rfl (fun a w => Try.call50 a w) rfl ?_)
  refine ((len_d h false).sub (hsub_pick [0] rfl)).mono ?_
  rintro _ _ ⟨rfl, rfl⟩
  refine ⟨_, rfl, ?_⟩
  refine LY rfl (y_move rfl) ?_
  refine L_op rfl (op_call rfl rfl (fun a w => Try.call50 a w) rfl ?_)
  refine ((len_d h true).sub (hsub_pick [0] rfl)).mono ?_
  rintro _ _ ⟨rfl, rfl⟩
  refine ⟨_, rfl, ?_⟩
  refine LY rfl (y_minN rfl rfl) ?_
  refine LY rfl (y_move rfl) ?_
  refine LY rfl (y_build (vs := [(1, _), (2, _)]) (l := [.pointer none, .map none, .pointer none, .map none, .int .i64 (((min A.a.S.length A.b.S.length) : Nat) : Int), .func (.func f) #[] cap.toArray]) rfl pl_111 zl_111 (fill_cons (off := 4) (m := 1) (vs := [_]) rfl rfl rfl (Nat.le_of_ble_eq_true rfl) (fill_cons (off := 5) (m := 1) (vs := [_]) rfl rfl rfl (Nat.le_of_ble_eq_true rfl) rfl))) ?_
  refine L_op rfl (op_box rfl rfl rfl (fun B1 => ?_))
  refine LY rfl (y_assign rfl) (L_nil (C_seq (C_seq (C_region (LY rfl (y_move rfl) (LY rfl (y_move rfl) ?_))))))
  refine L_op rfl (op_buildSlice (vs := [(0, _), (1, _)]) rfl Try.underlying112 sz_54 zl_54 rfl (by decide) rfl rfl (fun B2 => ?_))
  refine LY rfl (y_lenS rfl rfl Try.underlying112) ?_
  refine LY rfl (y_move rfl) (L_nil (C_block ?_))
  refine C_loopIn (In_round ?_)
  refine C_seq (C_region (LY rfl (y_lss rfl rfl) (L_nil (C_seq (C_cond_t rfl (C_skip (C_seq (C_block (C_seq (C_region (LY rfl (y_move rfl) ?_)))))))))))
  refine LY rfl (y_indexS rfl rfl Try.underlying112 sz_54 (by omega) (by omega) (show _ = 0 from rfl)) ?_
  refine LY rfl (y_load rfl ag_54 (sees 0 0 rfl) rfl) (LY rfl (y_assign rfl) (LY rfl (y_assign rfl) (L_nil (C_seq (C_region (LY rfl (y_move rfl) (LY rfl (y_move rfl) (LY rfl (y_move rfl) ?_))))))))
  refine L_op rfl (op_makeMap rfl (fun B3 => ?_))
  refine LY rfl (y_build (vs := [(0, _), (1, _)]) (l := [ptr bx, .map (some B3)]) rfl pl_108 zl_108 (fill_cons (off := 0) (m := 1) (vs := [_]) rfl rfl rfl (Nat.le_of_ble_eq_true rfl) (fill_cons (off := 1) (m := 1) (vs := [_]) rfl rfl rfl (Nat.le_of_ble_eq_true rfl) rfl))) ?_
  refine LY rfl (y_nilCheck rfl) (LY rfl (y_fieldAddr rfl fl_111_0) ?_)
  refine LY rfl (y_indexA rfl rfl Try.underlying109 sz_108 (by omega) (by omega) (show _ = 0 from rfl)) ?_
  refine L_op rfl (op_store (vs := [ptr bx, .map (some B3)]) 2 0 rfl rfl rfl sz_108 rfl rfl (ones rfl) (Nat.le_of_ble_eq_true rfl) ?_)
  rw [show spl [.pointer none, .map none, .pointer none, .map none, .int .i64 (((min A.a.S.length A.b.S.length) : Nat) : Int), .func (.func f) #[] cap.toArray] 0 [ptr bx, .map (some B3)] = [ptr bx, .map (some B3), .pointer none, .map none, .int .i64 (((min A.a.S.length A.b.S.length) : Nat) : Int), .func (.func f) #[] cap.toArray] from rfl]
  refine L_nil (C_seq (C_region (LY rfl (y_assign rfl) (L_nil (C_block ?_)))))
  refine C_loop (ι := Nat) (fun j => [(7, ptr B1), (8, .int .i64 0), (10, .int .i64 (j : Int)), (21, .slice (some ⟨B2, 0, none⟩) 2 2), (22, .int .i64 2), (23, .int .i64 0)]) (fun j => [(B3, mapO (stN j) j)] :: [(B1, .cells [ptr bx, .map (some B3), .pointer none, .map none, .int .i64 (((min A.a.S.length A.b.S.length) : Nat) : Int), .func (.func f) #[] cap.toArray].toArray 111)] :: [(B2, .cells [ptr bx, ptr bys].toArray 54)] :: D.seg dt :: H) (fun j => j ≤ (min A.a.S.length A.b.S.length)) (fun j => (min A.a.S.length A.b.S.length) - j) 0 (Nat.zero_le _) ⟨rfl, rfl, rfl, rfl, rfl, rfl, trivial⟩ (hsub_pick [0, 1, 0, 0] rfl) (fun j hj => ?_)
  skip
  refine C_seq (C_seq (C_region (LY rfl (y_move rfl) (LY rfl (y_move rfl) (LY rfl (y_nilCheck rfl) (LY rfl (y_fieldAddr rfl fl_111_1) (LY rfl (y_load rfl ag_3 (sees 1 0 rfl) rfl) (LY rfl (y_lss rfl rfl) (LY rfl (y_move rfl) ?_)))))))))
  refine L_case 42 rfl (fun hg7_7 => ?_) (fun hg7_7 => ?_)
  · have hj := of_decide_eq_true hg7_7
    refine LY rfl (y_move rfl) (LY rfl (y_move rfl) (LY rfl (y_nilCheck rfl) (LY rfl (y_fieldAddr rfl fl_111_0) ?_)))
    refine LY rfl (y_indexA rfl rfl Try.underlying109 sz_108 (by omega) (by omega) (show _ = 0 from rfl)) ?_
    refine LY rfl (y_loadA rfl ag_108 sz_108 (sees 1 0 rfl) (Nat.le_of_ble_eq_true rfl) rfl) ?_
    refine L_op rfl (op_call rfl rfl (fun a w => Try.call51 a w) rfl ?_)
    refine ((there_d h false).sub (hsub_pick [3] rfl)).mono ?_
    rintro _ _ ⟨rfl, rfl⟩
    rw [hp]
    refine ⟨_, rfl, ?_⟩
    refine LY rfl (y_not rfl) (LY rfl (y_pick_t rfl rfl) (L_nil (C_cond_t rfl (C_skip (C_seq (C_block (C_region (LY rfl (y_move rfl) (LY rfl (y_move rfl) (LY rfl (y_nilCheck rfl) (LY rfl (y_fieldAddr rfl fl_111_0) ?_)))))))))))
    refine LY rfl (y_indexA rfl rfl Try.underlying109 sz_108 (by omega) (by omega) (show _ = 0 from rfl)) ?_
    refine LY rfl (y_fieldAddr rfl fl_108_1) (LY rfl (y_load rfl ag_106 (sees 2 0 rfl) rfl) (LY rfl (y_move rfl) ?_))
    refine L_op rfl (op_mapUpdate 1 0 rfl rfl rfl Try.underlying106 Try.underlying3 rfl rfl ?_)
    refine L_nil (C_region (LY rfl (y_move rfl) ?_))
    refine LY rfl (y_add rfl rfl (wi64 (by omega) (by omega))) ?_
    refine LY rfl (y_assign rfl) (L_nil ?_)
    refine ⟨j + 1, by omega, by omega, ⟨rfl, rfl, rfl, rfl, rfl, rfl, trivial⟩, ?_⟩
    rw [← (stN_put j).1, show mapO (kPut (stN j) j (j : Int)) (j + 1) = mapO (kPut (stN j) j (j : Int)) (kClk (stN j) j (j : Int)) from by rw [(stN_put j).2]]
    exact ((hsub (.cons_cons _ (.cons_cons _ (.cons_cons _ (.cons_cons _ (.refl _)))))).trans (hsub_pick [1, 1, 1, 0] rfl))
  · have hj := of_decide_eq_false hg7_7
    refine L_skip rfl rfl (L_skip rfl rfl (L_skip rfl rfl (L_skip rfl rfl (L_skip rfl rfl (L_skip rfl rfl (L_skip rfl rfl (L_skip rfl rfl (LY rfl (y_pick_f rfl rfl) (L_nil (C_cond_f rfl (C_exit ?_)))))))))))
    obtain rfl : j = (min A.a.S.length A.b.S.length) := by omega
    refine C_region ?_
    refine LY rfl (y_add rfl rfl (show _ = (1 : Int) from rfl)) ?_
    refine LY rfl (y_move rfl) (L_nil ?_)
    refine In_round ?_
    refine C_seq (C_region (LY rfl (y_lss rfl rfl) (L_nil (C_seq (C_cond_t rfl (C_skip (C_seq (C_block (C_seq (C_region (LY rfl (y_move rfl) ?_)))))))))))
    refine LY rfl (y_indexS rfl rfl Try.underlying112 sz_54 (by omega) (by omega) (show _ = 1 from rfl)) ?_
    refine LY rfl (y_load rfl ag_54 (sees 2 0 rfl) rfl) (LY rfl (y_assign rfl) (LY rfl (y_assign rfl) (L_nil (C_seq (C_region (LY rfl (y_move rfl) (LY rfl (y_move rfl) (LY rfl (y_move rfl) ?_))))))))
    refine L_op rfl (op_makeMap rfl (fun B4 => ?_))
    refine LY rfl (y_build (vs := [(0, _), (1, _)]) (l := [ptr bys, .map (some B4)]) rfl pl_108 zl_108 (fill_cons (off := 0) (m := 1) (vs := [_]) rfl rfl rfl (Nat.le_of_ble_eq_true rfl) (fill_cons (off := 1) (m := 1) (vs := [_]) rfl rfl rfl (Nat.le_of_ble_eq_true rfl) rfl))) ?_
    refine LY rfl (y_nilCheck rfl) (LY rfl (y_fieldAddr rfl fl_111_0) ?_)
    refine LY rfl (y_indexA rfl rfl Try.underlying109 sz_108 (by omega) (by omega) (show _ = 2 from rfl)) ?_
    refine L_op rfl (op_store (vs := [ptr bys, .map (some B4)]) 2 0 rfl rfl rfl sz_108 rfl rfl (ones rfl) (Nat.le_of_ble_eq_true rfl) ?_)
    rw [show spl [ptr bx, .map (some B3), .pointer none, .map none, .int .i64 (((min A.a.S.length A.b.S.length) : Nat) : Int), .func (.func f) #[] cap.toArray] 2 [ptr bys, .map (some B4)] = [ptr bx, .map (some B3), ptr bys, .map (some B4), .int .i64 (((min A.a.S.length A.b.S.length) : Nat) : Int), .func (.func f) #[] cap.toArray] from rfl]
    refine L_nil (C_seq (C_region (LY rfl (y_assign rfl) (L_nil (C_block ?_)))))
    refine C_loopIn (In_round ?_)
    refine C_seq (C_seq (C_region (LY rfl (y_move rfl) (LY rfl (y_move rfl) (LY rfl (y_nilCheck rfl) (LY rfl (y_fieldAddr rfl fl_111_1) (LY rfl (y_load rfl ag_3 (sees 2 0 rfl) rfl) (LY rfl (y_lss rfl rfl) (LY rfl (y_move rfl) ?_)))))))))
    refine L_case 42 rfl (fun hg7_7 => ?_) (fun hg7_7 => ?_)
    · have hj := of_decide_eq_true hg7_7
      refine LY rfl (y_move rfl) (LY rfl (y_move rfl) (LY rfl (y_nilCheck rfl) (LY rfl (y_fieldAddr rfl fl_111_0) ?_)))
      refine LY rfl (y_indexA rfl rfl Try.underlying109 sz_108 (by omega) (by omega) (show _ = 2 from rfl)) ?_
      refine LY rfl (y_loadA rfl ag_108 sz_108 (sees 2 0 rfl) (Nat.le_of_ble_eq_true rfl) rfl) ?_
      refine L_op rfl (op_call rfl rfl (fun a w => Try.call51 a w) rfl ?_)
      refine ((there_d h true).sub (hsub_pick [4] rfl)).mono ?_
      rintro _ _ ⟨rfl, rfl⟩
      rw [hq]
      refine ⟨_, rfl, ?_⟩
      refine LY rfl (y_not rfl) (LY rfl (y_pick_t rfl rfl) (L_nil (C_cond_f rfl (C_exit (C_region ?_)))))
      refine LY rfl (y_add rfl rfl (show _ = (2 : Int) from rfl)) ?_
      refine LY rfl (y_move rfl) (L_nil ?_)
      refine In_round ?_
      refine C_seq (C_region (LY rfl (y_lss rfl rfl) (L_nil (C_seq (C_cond_f rfl (C_exit (C_seq (C_region (LY rfl (y_move rfl) (LY rfl (y_assign rfl) (L_nil (C_ret ?_))))))))))))
      refine B_ret (rv_tmp rfl rv_nil) ((hsub_flat (H := [_] :: [_] :: [_] :: D.seg dt :: H) (H' := Mi.seg 111 ⟨B1, B3, B4, bx, bys, (min A.a.S.length A.b.S.length), .func (.func f) #[] cap.toArray, stale0 false (min A.a.S.length A.b.S.length), (if false then 0 else (min A.a.S.length A.b.S.length)), stale0 true (min A.a.S.length A.b.S.length), (if true then 0 else (min A.a.S.length A.b.S.length))⟩ :: D.seg dt :: H) rfl).trans ((hsub (.cons_cons _ (.cons_cons _ (.cons_cons _ (.cons_cons _ (.cons _ (.refl _))))))).trans (hsub_pick [3, 2, 1, 0] rfl))) ?_
      exact ⟨B1, B3, B4, rfl, by simp only [mnew, stale0, hp, hq] <;> rfl⟩
    · have hj := of_decide_eq_false hg7_7
      refine L_skip rfl rfl (L_skip rfl rfl (L_skip rfl rfl (L_skip rfl rfl (L_skip rfl rfl (L_skip rfl rfl (L_skip rfl rfl (L_skip rfl rfl (LY rfl (y_pick_f rfl rfl) (L_nil (C_cond_f rfl (C_exit (C_region ?_))))))))))))
      refine LY rfl (y_add rfl rfl (show _ = (2 : Int) from rfl)) ?_
      refine LY rfl (y_move rfl) (L_nil ?_)
      refine In_round ?_
      refine C_seq (C_region (LY rfl (y_lss rfl rfl) (L_nil (C_seq (C_cond_f rfl (C_exit (C_seq (C_region (LY rfl (y_move rfl) (LY rfl (y_assign rfl) (L_nil (C_ret ?_))))))))))))
      refine B_ret (rv_tmp rfl rv_nil) ((hsub_flat (H := [_] :: [_] :: [_] :: D.seg dt :: H) (H' := Mi.seg 111 ⟨B1, B3, B4, bx, bys, (min A.a.S.length A.b.S.length), .func (.func f) #[] cap.toArray, stale0 false (min A.a.S.length A.b.S.length), (if false then 0 else (min A.a.S.length A.b.S.length)), stale0 true (min A.a.S.length A.b.S.length), (if true then 0 else (min A.a.S.length A.b.S.length))⟩ :: D.seg dt :: H) rfl).trans ((hsub (.cons_cons _ (.cons_cons _ (.cons_cons _ (.cons_cons _ (.cons _ (.refl _))))))).trans (hsub_pick [2, 1, 0, 1] rfl))) ?_
      exact ⟨B1, B3, B4, rfl, by simp only [mnew, stale0, hp, hq] <;> rfl⟩

set_option maxHeartbeats 4000000 in

theorem new_fn_ff {w0 : World} {H : Hp} {f : Nat} {cap : List Value} {D : Duo} {A : Da} {bx bys bp : Nat} (h : Two dt D A bx bys bp) (hp : thr A false = false) (hq : thr A true = false) : FnS Try.prog w0 26 #[ptr bx, ptr bys, .func (.func f) #[] cap.toArray] (D.seg dt :: H) (fun e H' => ∃ b r0 r1, e = .returned (ptr b) ∧ H' = (mnew A bx bys (.func (.func f) #[] cap.toArray) b r0 r1).seg 111 :: D.seg dt :: H) := by
  have hlen : A.a.S.length ≤ 4096 := (h.oks false).2.1
  refine FnS_intro (n := 64) (rs := [.tmp 6]) (vs := [ptr bx, ptr bys, .func (.func f) #[] cap.toArray]) Try.func26 rfl Try.ntmps26 rfl rfl ?_
  refine C_seq (C_region (LY rfl (y_assign rfl) (L_nil (C_seq (C_region (LY rfl (y_move rfl) ?_))))))
  refine L_op rfl (op_call rfl rfl (fun a w => Try.call50 a w) rfl ?_)
  refine ((len_d h false).sub (hsub_pick [0] rfl)).mono ?_
  rintro _ _ ⟨rfl, rfl⟩
  refine ⟨_, rfl, ?_⟩
  refine LY rfl (y_move rfl) ?_
  refine L_op rfl (op_call rfl rfl (fun a w => Try.call50 a w) rfl ?_)
  refine ((len_d h true).sub (hsub_pick [0] rfl)).mono ?_
  rintro _ _ ⟨rfl, rfl⟩
  refine ⟨_, rfl, ?_⟩
  refine LY rfl (y_minN rfl rfl) ?_
  refine LY rfl (y_move rfl) ?_
  refine LY rfl (y_build (vs := [(1, _), (2, _)]) (l := [.pointer none, .map none, .pointer none, .map none, .int .i64 (((min A.a.S.length A.b.S.length) : Nat) : Int), .func (.func f) #[] cap.toArray]) rfl pl_111 zl_111 (fill_cons (off := 4) (m := 1) (vs := [_]) rfl rfl rfl (Nat.le_of_ble_eq_true rfl) (fill_cons (off := 5) (m := 1) (vs := [_]) rfl rfl rfl (Nat.le_of_ble_eq_true rfl) rfl))) ?_
  refine L_op rfl (op_box rfl rfl rfl (fun B1 => ?_))
  refine LY rfl (y_assign rfl) (L_nil (C_seq (C_seq (C_region (LY rfl (y_move rfl) (LY rfl (y_move rfl) ?_))))))
  refine L_op rfl (op_buildSlice (vs := [(0, _), (1, _)]) rfl Try.underlying112 sz_54 zl_54 rfl (by decide) rfl rfl (fun B2 => ?_))
  refine LY rfl (y_lenS rfl rfl Try.underlying112) ?_
  refine LY rfl (y_move rfl) (L_nil (C_block ?_))
  refine C_loopIn (In_round ?_)
  refine C_seq (C_region (LY rfl (y_lss rfl rfl) (L_nil (C_seq (C_cond_t rfl (C_skip (C_seq (C_block (C_seq (C_region (LY rfl (y_move rfl) ?_)))))))))))
  refine LY rfl (y_indexS rfl rfl Try.underlying112 sz_54 (by omega) (by omega) (show _ = 0 from rfl)) ?_
  refine LY rfl (y_load rfl ag_54 (sees 0 0 rfl) rfl) (LY rfl (y_assign rfl) (LY rfl (y_assign rfl) (L_nil (C_seq (C_region (LY rfl (y_move rfl) (LY rfl (y_move rfl) (LY rfl (y_move rfl) ?_))))))))
  refine L_op rfl (op_makeMap rfl (fun B3 => ?_))
  refine LY rfl (y_build (vs := [(0, _), (1, _)]) (l := [ptr bx, .map (some B3)]) rfl pl_108 zl_108 (fill_cons (off := 0) (m := 1) (vs := [_]) rfl rfl rfl (Nat.le_of_ble_eq_true rfl) (fill_cons (off := 1) (m := 1) (vs := [_]) rfl rfl rfl (Nat.le_of_ble_eq_true rfl) rfl))) ?_
  refine LY rfl (y_nilCheck rfl) (LY rfl (y_fieldAddr rfl fl_111_0) ?_)
  refine LY rfl (y_indexA rfl rfl Try.underlying109 sz_108 (by omega) (by omega) (show _ = 0 from rfl)) ?_
  refine L_op rfl (op_store (vs := [ptr bx, .map (some B3)]) 2 0 rfl rfl rfl sz_108 rfl rfl (ones rfl) (Nat.le_of_ble_eq_true rfl) ?_)
  rw [show spl [.pointer none, .map none, .pointer none, .map none, .int .i64 (((min A.a.S.length A.b.S.length) : Nat) : Int), .func (.func f) #[] cap.toArray] 0 [ptr bx, .map (some B3)] = [ptr bx, .map (some B3), .pointer none, .map none, .int .i64 (((min A.a.S.length A.b.S.length) : Nat) : Int), .func (.func f) #[] cap.toArray] from rfl]
  refine L_nil (C_seq (C_region (LY rfl (y_assign rfl) (L_nil (C_block ?_)))))
  refine C_loop (ι := Nat) (fun j => [(7, ptr B1), (8, .int .i64 0), (10, .int .i64 (j : Int)), (21, .slice (some ⟨B2, 0, none⟩) 2 2), (22, .int .i64 2), (23, .int .i64 0)]) (fun j => [(B3, mapO (stN j) j)] :: [(B1, .cells [ptr bx, .map (some B3), .pointer none, .map none, .int .i64 (((min A.a.S.length A.b.S.length) : Nat) : Int), .func (.func f) #[] cap.toArray].toArray 111)] :: [(B2, .cells [ptr bx, ptr bys].toArray 54)] :: D.seg dt :: H) (fun j => j ≤ (min A.a.S.length A.b.S.length)) (fun j => (min A.a.S.length A.b.S.length) - j) 0 (Nat.zero_le _) ⟨rfl, rfl, rfl, rfl, rfl, rfl, trivial⟩ (hsub_pick [0, 1, 0, 0] rfl) (fun j hj => ?_)
  skip
  refine C_seq (C_seq (C_region (LY rfl (y_move rfl) (LY rfl (y_move rfl) (LY rfl (y_nilCheck rfl) (LY rfl (y_fieldAddr rfl fl_111_1) (LY rfl (y_load rfl ag_3 (sees 1 0 rfl) rfl) (LY rfl (y_lss rfl rfl) (LY rfl (y_move rfl) ?_)))))))))
  refine L_case 42 rfl (fun hg7_7 => ?_) (fun hg7_7 => ?_)
  · have hj := of_decide_eq_true hg7_7
    refine LY rfl (y_move rfl) (LY rfl (y_move rfl) (LY rfl (y_nilCheck rfl) (LY rfl (y_fieldAddr rfl fl_111_0) ?_)))
    refine LY rfl (y_indexA rfl rfl Try.underlying109 sz_108 (by omega) (by omega) (show _ = 0 from rfl)) ?_
    refine LY rfl (y_loadA rfl ag_108 sz_108 (sees 1 0 rfl) (Nat.le_of_ble_eq_true rfl) rfl) ?_
    refine L_op rfl (op_call rfl rfl (fun a w => Try.call51 a w) rfl ?_)
    refine ((there_d h false).sub (hsub_pick [3] rfl)).mono ?_
    rintro _ _ ⟨rfl, rfl⟩
    rw [hp]
    refine ⟨_, rfl, ?_⟩
    refine LY rfl (y_not rfl) (LY rfl (y_pick_t rfl rfl) (L_nil (C_cond_t rfl (C_skip (C_seq (C_block (C_region (LY rfl (y_move rfl) (LY rfl (y_move rfl) (LY rfl (y_nilCheck rfl) (LY rfl (y_fieldAddr rfl fl_111_0) ?_)))))))))))
    refine LY rfl (y_indexA rfl rfl Try.underlying109 sz_108 (by omega) (by omega) (show _ = 0 from rfl)) ?_
    refine LY rfl (y_fieldAddr rfl fl_108_1) (LY rfl (y_load rfl ag_106 (sees 2 0 rfl) rfl) (LY rfl (y_move rfl) ?_))
    refine L_op rfl (op_mapUpdate 1 0 rfl rfl rfl Try.underlying106 Try.underlying3 rfl rfl ?_)
    refine L_nil (C_region (LY rfl (y_move rfl) ?_))
    refine LY rfl (y_add rfl rfl (wi64 (by omega) (by omega))) ?_
    refine LY rfl (y_assign rfl) (L_nil ?_)
    refine ⟨j + 1, by omega, by omega, ⟨rfl, rfl, rfl, rfl, rfl, rfl, trivial⟩, ?_⟩
    rw [← (stN_put j).1, show mapO (kPut (stN j) j (j : Int)) (j + 1) = mapO (kPut (stN j) j (j : Int)) (kClk (stN j) j (j : Int)) from by rw [(stN_put j).2]]
    exact ((hsub (.cons_cons _ (.cons_cons _ (.cons_cons _ (.cons_cons _ (.refl _)))))).trans (hsub_pick [1, 1, 1, 0] rfl))
  · have hj := of_decide_eq_false hg7_7
    refine L_skip rfl rfl (L_skip rfl rfl (L_skip rfl rfl (L_skip rfl rfl (L_skip rfl rfl (L_skip rfl rfl (L_skip rfl rfl (L_skip rfl rfl (LY rfl (y_pick_f rfl rfl) (L_nil (C_cond_f rfl (C_exit ?_)))))))))))
    obtain rfl : j = (min A.a.S.length A.b.S.length) := by omega
    refine C_region ?_
    refine LY rfl (y_add rfl rfl (show _ = (1 : Int) from rfl)) ?_
    refine LY rfl (y_move rfl) (L_nil ?_)
    refine In_round ?_
    refine C_seq (C_region (LY rfl (y_lss rfl rfl) (L_nil (C_seq (C_cond_t rfl (C_skip (C_seq (C_block (C_seq (C_region (LY rfl (y_move rfl) ?_)))))))))))
    refine LY rfl (y_indexS rfl rfl Try.underlying112 sz_54 (by omega) (by omega) (show _ = 1 from rfl)) ?_
    refine LY rfl (y_load rfl ag_54 (sees 2 0 rfl) rfl) (LY rfl (y_assign rfl) (LY rfl (y_assign rfl) (L_nil (C_seq (C_region (LY rfl (y_move rfl) (LY rfl (y_move rfl) (LY rfl (y_move rfl) ?_))))))))
    refine L_op rfl (op_makeMap rfl (fun B4 => ?_))
    refine LY rfl (y_build (vs := [(0, _), (1, _)]) (l := [ptr bys, .map (some B4)]) rfl pl_108 zl_108 (fill_cons (off := 0) (m := 1) (vs := [_]) rfl rfl rfl (Nat.le_of_ble_eq_true rfl) (fill_cons (off := 1) (m := 1) (vs := [_]) rfl rfl rfl (Nat.le_of_ble_eq_true rfl) rfl))) ?_
    refine LY rfl (y_nilCheck rfl) (LY rfl (y_fieldAddr rfl fl_111_0) ?_)
    refine LY rfl (y_indexA rfl rfl Try.underlying109 sz_108 (by omega) (by omega) (show _ = 2 from rfl)) ?_
    refine L_op rfl (op_store (vs := [ptr bys, .map (some B4)]) 2 0 rfl rfl rfl sz_108 rfl rfl (ones rfl) (Nat.le_of_ble_eq_true rfl) ?_)
    rw [show spl [ptr bx, .map (some B3), .pointer none, .map none, .int .i64 (((min A.a.S.length A.b.S.length) : Nat) : Int), .func (.func f) #[] cap.toArray] 2 [ptr bys, .map (some B4)] = [ptr bx, .map (some B3), ptr bys, .map (some B4), .int .i64 (((min A.a.S.length A.b.S.length) : Nat) : Int), .func (.func f) #[] cap.toArray] from rfl]
    refine L_nil (C_seq (C_region (LY rfl (y_assign rfl) (L_nil (C_block ?_)))))
    refine C_loop (ι := Nat) (fun j => [(7, ptr B1), (8, .int .i64 1), (10, .int .i64 (j : Int)), (21, .slice (some ⟨B2, 0, none⟩) 2 2), (22, .int .i64 2), (23, .int .i64 1)]) (fun j => [(B4, mapO (stN j) j)] :: [(B1, .cells [ptr bx, .map (some B3), ptr bys, .map (some B4), .int .i64 (((min A.a.S.length A.b.S.length) : Nat) : Int), .func (.func f) #[] cap.toArray].toArray 111)] :: [(B2, .cells [ptr bx, ptr bys].toArray 54)] :: D.seg dt :: [(B3, mapO (stale0 false (min A.a.S.length A.b.S.length)) (if false then 0 else (min A.a.S.length A.b.S.length)))] :: H) (fun j => j ≤ (min A.a.S.length A.b.S.length)) (fun j => (min A.a.S.length A.b.S.length) - j) 0 (Nat.zero_le _) ⟨rfl, rfl, rfl, rfl, rfl, rfl, trivial⟩ (hsub_pick [0, 1, 1, 1, 0] rfl) (fun j hj => ?_)
    skip
    refine C_seq (C_seq (C_region (LY rfl (y_move rfl) (LY rfl (y_move rfl) (LY rfl (y_nilCheck rfl) (LY rfl (y_fieldAddr rfl fl_111_1) (LY rfl (y_load rfl ag_3 (sees 1 0 rfl) rfl) (LY rfl (y_lss rfl rfl) (LY rfl (y_move rfl) ?_)))))))))
    refine L_case 42 rfl (fun hg7_7 => ?_) (fun hg7_7 => ?_)
    · have hj := of_decide_eq_true hg7_7
      refine LY rfl (y_move rfl) (LY rfl (y_move rfl) (LY rfl (y_nilCheck rfl) (LY rfl (y_fieldAddr rfl fl_111_0) ?_)))
      refine LY rfl (y_indexA rfl rfl Try.underlying109 sz_108 (by omega) (by omega) (show _ = 2 from rfl)) ?_
      refine LY rfl (y_loadA rfl ag_108 sz_108 (sees 1 0 rfl) (Nat.le_of_ble_eq_true rfl) rfl) ?_
      refine L_op rfl (op_call rfl rfl (fun a w => Try.call51 a w) rfl ?_)
      refine ((there_d h true).sub (hsub_pick [3] rfl)).mono ?_
      rintro _ _ ⟨rfl, rfl⟩
      rw [hq]
      refine ⟨_, rfl, ?_⟩
      refine LY rfl (y_not rfl) (LY rfl (y_pick_t rfl rfl) (L_nil (C_cond_t rfl (C_skip (C_seq (C_block (C_region (LY rfl (y_move rfl) (LY rfl (y_move rfl) (LY rfl (y_nilCheck rfl) (LY rfl (y_fieldAddr rfl fl_111_0) ?_)))))))))))
      refine LY rfl (y_indexA rfl rfl Try.underlying109 sz_108 (by omega) (by omega) (show _ = 2 from rfl)) ?_
      refine LY rfl (y_fieldAddr rfl fl_108_1) (LY rfl (y_load rfl ag_106 (sees 2 0 rfl) rfl) (LY rfl (y_move rfl) ?_))
      refine L_op rfl (op_mapUpdate 1 0 rfl rfl rfl Try.underlying106 Try.underlying3 rfl rfl ?_)
      refine L_nil (C_region (LY rfl (y_move rfl) ?_))
      refine LY rfl (y_add rfl rfl (wi64 (by omega) (by omega))) ?_
      refine LY rfl (y_assign rfl) (L_nil ?_)
      refine ⟨j + 1, by omega, by omega, ⟨rfl, rfl, rfl, rfl, rfl, rfl, trivial⟩, ?_⟩
      rw [← (stN_put j).1, show mapO (kPut (stN j) j (j : Int)) (j + 1) = mapO (kPut (stN j) j (j : Int)) (kClk (stN j) j (j : Int)) from by rw [(stN_put j).2]]
      exact ((hsub (.cons_cons _ (.cons_cons _ (.cons_cons _ (.cons_cons _ (.cons_cons _ (.refl _))))))).trans (hsub_pick [1, 1, 1, 0, 0] rfl))
    · have hj := of_decide_eq_false hg7_7
      refine L_skip rfl rfl (L_skip rfl rfl (L_skip rfl rfl (L_skip rfl rfl (L_skip rfl rfl (L_skip rfl rfl (L_skip rfl rfl (L_skip rfl rfl (LY rfl (y_pick_f rfl rfl) (L_nil (C_cond_f rfl (C_exit ?_)))))))))))
      obtain rfl : j = (min A.a.S.length A.b.S.length) := by omega
      refine C_region ?_
      refine LY rfl (y_add rfl rfl (show _ = (2 : Int) from rfl)) ?_
      refine LY rfl (y_move rfl) (L_nil ?_)
      refine In_round ?_
      refine C_seq (C_region (LY rfl (y_lss rfl rfl) (L_nil (C_seq (C_cond_f rfl (C_exit (C_seq (C_region (LY rfl (y_move rfl) (LY rfl (y_assign rfl) (L_nil (C_ret ?_))))))))))))
      refine B_ret (rv_tmp rfl rv_nil) ((hsub_flat (H := [_] :: [_] :: [_] :: D.seg dt :: H) (H' := Mi.seg 111 ⟨B1, B3, B4, bx, bys, (min A.a.S.length A.b.S.length), .func (.func f) #[] cap.toArray, stale0 false (min A.a.S.length A.b.S.length), (if false then 0 else (min A.a.S.length A.b.S.length)), stale0 false (min A.a.S.length A.b.S.length), (if false then 0 else (min A.a.S.length A.b.S.length))⟩ :: D.seg dt :: H) rfl).trans ((hsub (.cons_cons _ (.cons_cons _ (.cons_cons _ (.cons_cons _ (.cons _ (.refl _))))))).trans (hsub_pick [1, 3, 0, 1] rfl))) ?_
      exact ⟨B1, B3, B4, rfl, by simp only [mnew, stale0, hp, hq] <;> rfl⟩

theorem mnew_fn {w0 : World} {H : Hp} {f : Nat} {cap : List Value} {D : Duo} {A : Da} {bx bys bp : Nat} (h : Two dt D A bx bys bp) : FnS Try.prog w0 26 #[ptr bx, ptr bys, .func (.func f) #[] cap.toArray] (D.seg dt :: H) (fun e H' => ∃ b r0 r1, e = .returned (ptr b) ∧ H' = (mnew A bx bys (.func (.func f) #[] cap.toArray) b r0 r1).seg 111 :: D.seg dt :: H) := by
  cases hp : thr A false <;> cases hq : thr A true
  · exact new_fn_ff h hp hq
  · exact new_fn_ft h hp hq
  · exact new_fn_tf h hp hq
  · exact new_fn_tt h hp hq

end Go.Proofs.Ytighbhplfjjgpaa

/- walks (own work; the walks' lines by a program of this repo). -/
set_option linter.unusedVariables false
set_option linter.unusedSimpArgs false
set_option maxRecDepth 20000
namespace Go.Proofs.Ytighbhplfjjgpaa
open Go.Sl
attribute [local irreducible] BodyQ WpC WpL WpS WpH OpW FnS


theorem new_v {w0 : World} {H : Hp} {f : Nat} {cap : List Value} {D : Duo} {A : Da} {K : Nat} {X Y : List Sec} {k0 k1 bx bys bp : Nat} (hT : Two dt D A bx bys bp) (hv : Vw A K X Y k0 k1) (hX : ∀ s ∈ X, s.length = 128) (hY : ∀ s ∈ Y, s.length = 128) : FnS Try.prog w0 26 #[ptr bx, ptr bys, .func (.func f) #[] cap.toArray] (D.seg dt :: H) (fun e H' => ∃ mb m, Ms dt (.func (.func f) #[] cap.toArray) D A m K X Y k0 k1 mb bx bys bp ∧ e = .returned (ptr mb) ∧ H' = m.seg 111 :: D.seg dt :: H) := by
  refine (mnew_fn hT).mono ?_
  rintro _ _ ⟨b, r0, r1, rfl, rfl⟩
  exact ⟨b, _, Ms.new hT hv b r0 r1 hX hY, rfl, rfl⟩

end Go.Proofs.Ytighbhplfjjgpaa

/- Scrubbing: what the laws say of it (own work). -/
set_option linter.unusedVariables false
set_option linter.unusedSimpArgs false
namespace Go.Sl
section
variable {p : Int → Sec → Bool} {n : Nat} {a b s t : Sec}
def rdv (p : Int → Sec → Bool) (n : Int) (s t : Sec) : Sec := if p n s then s else if p n t then t else secOf 0
def rde (p : Int → Sec → Bool) (n : Int) (s t : Sec) : Int := if p n s || p n t then 0 else 9
/-- What both tell. -/
def gl (p : Int → Sec → Bool) (n : Int) (s t : Sec) : List Sec := (if p n s then [s] else []) ++ (if p n t then [t] else [])
end
section
variable {t : DT} {gv : Value} {D : Duo} {A : Da} {m : Mi} {K : Nat} {X Y : List Sec} {k0 k1 mb bx bys bp : Nat} {p : Int → Sec → Bool} {n : Nat} {u v : Sec}
theorem Ms.has (h : Ms t gv D A m K X Y k0 k1 mb bx bys bp) (hn : n < K) : m.has (n : Int) = true := by
  have := h.n
  simp [Mi.has]; omega
theorem Ms.rd (h : Ms t gv D A m K X Y k0 k1 mb bx bys bp) (hu : X[n]? = some u) (hv : Y[n]? = some v) : mrS m A p n = rdv p n u v ∧ mrE m A p n = rde p n u v := by
  have hn : n < K := by have := (List.getElem?_eq_some_iff.1 hu).1; have := h.vw.a.wlen; omega
  obtain ⟨r0, e0⟩ := h.vw.reads false (s := u) hu
  obtain ⟨r1, e1⟩ := h.vw.reads true (s := v) hv
  have z0 : kHas m.k0 (n : Int) = false := by rw [h.s0]; rfl
  have z1 : kHas m.k1 (n : Int) = false := by rw [h.s1]; rfl
  have o0 : okAt A false m.k0 p n = p n u := by simp [okAt, e0, z0, r0]
  have o1 : okAt A true m.k1 p n = p n v := by simp [okAt, e1, z1, r1]
  unfold mrS mrE rdv rde
  rw [h.has hn, h.vw.thr false, h.vw.thr true, o0, o1, r0, r1]
  cases p n u <;> cases p n v <;> simp
theorem Ms.both (h : Ms t gv D A m K X Y k0 k1 mb bx bys bp) (hu : X[n]? = some u) (hv : Y[n]? = some v) : bothS m A p n = gl p n u v := by
  have hn : n < K := by have := (List.getElem?_eq_some_iff.1 hu).1; have := h.vw.a.wlen; omega
  obtain ⟨r0, e0⟩ := h.vw.reads false (s := u) hu
  obtain ⟨r1, e1⟩ := h.vw.reads true (s := v) hv
  unfold bothS gl
  rw [h.has hn, h.vw.thr false, h.vw.thr true, e0, e1, r0, r1]
  simp
end
end Go.Sl
namespace Go.Sl
/-- What is read, place by place. -/
def rvs (p : Int → Sec → Bool) (X Y : List Sec) (k : Nat) : List Sec := (List.range k).map fun (j : Nat) => rdv p (j : Int) (gt X j) (gt Y j)
def res (p : Int → Sec → Bool) (X Y : List Sec) (k : Nat) : List Int := (List.range k).map fun (j : Nat) => rde p (j : Int) (gt X j) (gt Y j)
section
variable {p : Int → Sec → Bool} {X Y : List Sec} {k n : Nat} {s t : Sec}
end
end Go.Sl

