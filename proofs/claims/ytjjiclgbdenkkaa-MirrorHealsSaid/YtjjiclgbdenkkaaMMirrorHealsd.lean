/- Own work: texts MpW, MfW, MyW, put together. -/
import Derived.Test.YtjjiclgbdenkkaaMMirrorHealsc
/- walks (own work; the walks' lines by a program of this repo). -/
set_option linter.unusedVariables false
set_option linter.unusedSimpArgs false
set_option maxRecDepth 20000
namespace Go.Proofs.Ytjjiclgbdenkkaa
open Go.Sl
attribute [local irreducible] BodyQ WpC WpL WpS WpH OpW FnS


theorem put_no {w0 : World} {H : Hp} {D : Duo} {A : Da} {bp : Nat} {m : Mi} (h : Two dt D A m.bx m.bys bp) (n : Int) (s : Sec) (hs : s.length = 128) {fa : Nat} {cap : List Value} {ask : Da → Bool → Bool} (hask : AskAt Try.prog dt 110 w0 H m bp fa cap ask) (hQ : ∀ i, (A.dev i).Q.length < 99990) (hn : m.has n = false) : FnS Try.prog w0 54 #[ptr m.b, .int .i64 n, .agg (bs s).toArray, .func (.func fa) #[] cap.toArray] (m.seg 110 :: D.seg dt :: H) (fun e H' => e = .returned (.int .i64 (putE m A ask n s)) ∧ ∃ D', Two dt D' (putDa m A ask n s) m.bx m.bys bp ∧ H' = (putm m A ask n s).seg 110 :: D'.seg dt :: H) := by
  refine FnS_intro (n := 77) (rs := [.tmp 8]) (vs := [ptr m.b, .int .i64 n, .agg (bs s).toArray, .func (.func fa) #[] cap.toArray]) Try.func54 rfl Try.ntmps54 rfl rfl ?_
  refine C_seq (C_region ?_)
  refine L_op rfl (op_box rfl rfl rfl (fun B1 => ?_))
  refine LY rfl (y_assign rfl) (L_nil (C_seq (C_seq (C_region (LY rfl (y_move rfl) (LY rfl (y_move rfl) ?_))))))
  refine L_op rfl (op_call rfl rfl (fun a w => Try.call58 a w) rfl ?_)
  refine (has_m _ (sees 1 0 rfl)).mono ?_
  rintro _ _ ⟨rfl, rfl⟩
  rw [hn]
  refine ⟨_, rfl, ?_⟩
  refine LY rfl (y_not rfl) (L_nil (C_cond_t rfl (C_seq (C_region (LY rfl (y_assign rfl) (L_nil (C_ret ?_)))))))
  refine B_ret (rv_tmp rfl rv_nil) (hsub (.cons _ (.refl _))) ?_
  exact ⟨ret_int (by simp [putE, hn]), D, h.to (by simp [putDa, hn]), by rw [show putm m A ask n s = m from by simp [putm, hn]]⟩

set_option maxHeartbeats 4000000 in

theorem put_yes {w0 : World} {H : Hp} {D : Duo} {A : Da} {bp : Nat} {m : Mi} (h : Two dt D A m.bx m.bys bp) (n : Int) (s : Sec) (hs : s.length = 128) {fa : Nat} {cap : List Value} {ask : Da → Bool → Bool} (hask : AskAt Try.prog dt 110 w0 H m bp fa cap ask) (hQ : ∀ i, (A.dev i).Q.length < 99990) (hn : m.has n = true) : FnS Try.prog w0 54 #[ptr m.b, .int .i64 n, .agg (bs s).toArray, .func (.func fa) #[] cap.toArray] (m.seg 110 :: D.seg dt :: H) (fun e H' => e = .returned (.int .i64 (putE m A ask n s)) ∧ ∃ D', Two dt D' (putDa m A ask n s) m.bx m.bys bp ∧ H' = (putm m A ask n s).seg 110 :: D'.seg dt :: H) := by
  refine FnS_intro (n := 77) (rs := [.tmp 8]) (vs := [ptr m.b, .int .i64 n, .agg (bs s).toArray, .func (.func fa) #[] cap.toArray]) Try.func54 rfl Try.ntmps54 rfl rfl ?_
  refine C_seq (C_region ?_)
  refine L_op rfl (op_box rfl rfl rfl (fun B1 => ?_))
  refine LY rfl (y_assign rfl) (L_nil (C_seq (C_seq (C_region (LY rfl (y_move rfl) (LY rfl (y_move rfl) ?_))))))
  refine L_op rfl (op_call rfl rfl (fun a w => Try.call58 a w) rfl ?_)
  refine (has_m _ (sees 1 0 rfl)).mono ?_
  rintro _ _ ⟨rfl, rfl⟩
  rw [hn]
  refine ⟨_, rfl, ?_⟩
  refine LY rfl (y_not rfl) (L_nil (C_cond_f rfl (C_skip (C_seq (C_region ?_)))))
  refine L_op rfl (op_alloc zl_62 rfl (fun B2 => ?_))
  refine L_nil (C_seq (C_seq (C_region (LY rfl (y_move rfl) (L_nil (C_block ?_))))))
  refine C_loopIn (In_round ?_)
  refine C_seq (C_region (LY rfl (y_lss rfl rfl) (L_nil (C_seq (C_cond_t rfl (C_skip (C_seq (C_block (C_seq (C_region (LY rfl (y_move rfl) (LY rfl (y_assign rfl) (L_nil (C_seq (C_region (LY rfl (y_move rfl) (LY rfl (y_move rfl) (LY rfl (y_nilCheck rfl) (LY rfl (y_fieldAddr rfl fl_110_0) ?_)))))))))))))))))))
  refine LY rfl (y_indexA rfl rfl Try.underlying108 sz_107 (by omega) (by omega) (show _ = 0 from rfl)) ?_
  refine LY rfl (y_assign rfl) (L_nil (C_seq (C_region (LY rfl (y_move rfl) (LY rfl (y_nilCheck rfl) ?_)))))
  refine LY rfl (y_loadA rfl ag_107 sz_107 (sees 2 0 rfl) (Nat.le_of_ble_eq_true rfl) rfl) ?_
  refine L_op rfl (op_call rfl rfl (fun a w => Try.call53 a w) rfl ?_)
  refine ((there_d h false).sub (hsub_pick [3] rfl)).mono ?_
  rintro _ _ ⟨rfl, rfl⟩
  refine ⟨_, rfl, ?_⟩
  refine L_nil ?_
  refine C_cond rfl (fun hc2 => ?_) (fun hc2 => ?_)
  · skip
    refine C_regionH H (by kernel_rfl) ?_
    refine HY 0 rfl (hsub (.cons _ (.cons _ (.cons _ (.cons _ (.refl _)))))) rfl (y_move rfl) ?_
    refine HY 1 rfl (hsub (.cons _ (.cons _ (.cons _ (.cons _ (.refl _)))))) rfl (y_move rfl) ?_
    refine HY 2 rfl (hsub (.cons _ (.cons _ (.cons _ (.cons _ (.refl _)))))) rfl (y_move rfl) ?_
    refine H_one 3 rfl (by kernel_rfl) rfl (op_call (f := fa) (first := []) (cap := cap) rfl rfl hask.1 rfl ?_)
    refine FnS.mono (FnS.sub (hsub_pick [3, 0] rfl) (hask.2 false _ _ _ h (hsub (.cons _ (.cons _ (.refl _)))))) ?_
    rintro _ _ ⟨rfl, rfl⟩
    refine ⟨_, rfl, ?_⟩
    refine ⟨hsub (.cons _ (.cons _ (.cons _ (.cons _ (.refl _))))), ?_⟩
    refine HY 4 rfl (hsub (.cons _ (.cons _ (.cons _ (.cons _ (.refl _)))))) rfl (y_not rfl) ?_
    refine HY 5 rfl (hsub (.cons _ (.cons _ (.cons _ (.cons _ (.refl _)))))) rfl (y_move rfl) ?_
    refine H_case 34 rfl (fun hg9_6 => ?_) (fun hg9_6 => ?_)
    · skip
      refine HK 6 rfl (hsub (.cons _ (.cons _ (.cons _ (.cons _ (.refl _)))))) rfl ?_
      refine HK 7 rfl (hsub (.cons _ (.cons _ (.cons _ (.cons _ (.refl _)))))) rfl ?_
      refine HK 8 rfl (hsub (.cons _ (.cons _ (.cons _ (.cons _ (.refl _)))))) rfl ?_
      refine HK 9 rfl (hsub (.cons _ (.cons _ (.cons _ (.cons _ (.refl _)))))) rfl ?_
      refine HK 10 rfl (hsub (.cons _ (.cons _ (.cons _ (.cons _ (.refl _)))))) rfl ?_
      refine HK 11 rfl (hsub (.cons _ (.cons _ (.cons _ (.cons _ (.refl _)))))) rfl ?_
      refine HK 12 rfl (hsub (.cons _ (.cons _ (.cons _ (.cons _ (.refl _)))))) rfl ?_
      refine HK 13 rfl (hsub (.cons _ (.cons _ (.cons _ (.cons _ (.refl _)))))) rfl ?_
      refine HY 14 rfl (hsub (.cons _ (.cons _ (.cons _ (.cons _ (.refl _)))))) rfl (y_pick_t rfl rfl) ?_
      refine HY 15 rfl (hsub (.cons _ (.cons _ (.cons _ (.cons _ (.refl _)))))) rfl (y_indexA rfl rfl Try.underlying62 sz_4 (by omega) (by omega) (show _ = 0 from rfl)) ?_
      refine H_one 16 rfl (by kernel_rfl) rfl (op_store1 2 0 rfl rfl rfl sz_4 rfl (Nat.le_of_ble_eq_true rfl) ?_)
      refine ⟨hsub (.cons _ (.cons _ (.cons _ (.cons _ (.refl _))))), ?_⟩
      refine H_done (by kernel_rfl) ?_
      refine C_region ?_
      refine LY rfl (y_add rfl rfl (show _ = (1 : Int) from rfl)) ?_
      refine LY rfl (y_move rfl) (L_nil ?_)
      refine In_round ?_
      refine C_seq (C_region (LY rfl (y_lss rfl rfl) (L_nil (C_seq (C_cond_t rfl (C_skip (C_seq (C_block (C_seq (C_region (LY rfl (y_move rfl) (LY rfl (y_assign rfl) (L_nil (C_seq (C_region (LY rfl (y_move rfl) (LY rfl (y_move rfl) (LY rfl (y_nilCheck rfl) (LY rfl (y_fieldAddr rfl fl_110_0) ?_)))))))))))))))))))
      refine LY rfl (y_indexA rfl rfl Try.underlying108 sz_107 (by omega) (by omega) (show _ = 2 from rfl)) ?_
      refine LY rfl (y_assign rfl) (L_nil (C_seq (C_region (LY rfl (y_move rfl) (LY rfl (y_nilCheck rfl) ?_)))))
      refine LY rfl (y_loadA rfl ag_107 sz_107 (sees 0 0 rfl) (Nat.le_of_ble_eq_true rfl) rfl) ?_
      refine L_op rfl (op_call rfl rfl (fun a w => Try.call53 a w) rfl ?_)
      refine ((there_d h true).sub (hsub_pick [1] rfl)).mono ?_
      rintro _ _ ⟨rfl, rfl⟩
      refine ⟨_, rfl, ?_⟩
      refine L_nil ?_
      refine C_cond rfl (fun hc2 => ?_) (fun hc2 => ?_)
      · skip
        refine C_regionH H (by kernel_rfl) ?_
        refine HY 0 rfl (hsub (.cons _ (.cons _ (.cons _ (.cons _ (.refl _)))))) rfl (y_move rfl) ?_
        refine HY 1 rfl (hsub (.cons _ (.cons _ (.cons _ (.cons _ (.refl _)))))) rfl (y_move rfl) ?_
        refine HY 2 rfl (hsub (.cons _ (.cons _ (.cons _ (.cons _ (.refl _)))))) rfl (y_move rfl) ?_
        refine H_one 3 rfl (by kernel_rfl) rfl (op_call (f := fa) (first := []) (cap := cap) rfl rfl hask.1 rfl ?_)
        refine FnS.mono (FnS.sub (hsub_pick [1, 0] rfl) (hask.2 true _ _ _ h (hsub (.cons _ (.cons _ (.refl _)))))) ?_
        rintro _ _ ⟨rfl, rfl⟩
        refine ⟨_, rfl, ?_⟩
        refine ⟨hsub (.cons _ (.cons _ (.cons _ (.cons _ (.refl _))))), ?_⟩
        refine HY 4 rfl (hsub (.cons _ (.cons _ (.cons _ (.cons _ (.refl _)))))) rfl (y_not rfl) ?_
        refine HY 5 rfl (hsub (.cons _ (.cons _ (.cons _ (.cons _ (.refl _)))))) rfl (y_move rfl) ?_
        refine H_case 34 rfl (fun hg9_6 => ?_) (fun hg9_6 => ?_)
        · skip
          refine HK 6 rfl (hsub (.cons _ (.cons _ (.cons _ (.cons _ (.refl _)))))) rfl ?_
          refine HK 7 rfl (hsub (.cons _ (.cons _ (.cons _ (.cons _ (.refl _)))))) rfl ?_
          refine HK 8 rfl (hsub (.cons _ (.cons _ (.cons _ (.cons _ (.refl _)))))) rfl ?_
          refine HK 9 rfl (hsub (.cons _ (.cons _ (.cons _ (.cons _ (.refl _)))))) rfl ?_
          refine HK 10 rfl (hsub (.cons _ (.cons _ (.cons _ (.cons _ (.refl _)))))) rfl ?_
          refine HK 11 rfl (hsub (.cons _ (.cons _ (.cons _ (.cons _ (.refl _)))))) rfl ?_
          refine HK 12 rfl (hsub (.cons _ (.cons _ (.cons _ (.cons _ (.refl _)))))) rfl ?_
          refine HK 13 rfl (hsub (.cons _ (.cons _ (.cons _ (.cons _ (.refl _)))))) rfl ?_
          refine HY 14 rfl (hsub (.cons _ (.cons _ (.cons _ (.cons _ (.refl _)))))) rfl (y_pick_t rfl rfl) ?_
          refine HY 15 rfl (hsub (.cons _ (.cons _ (.cons _ (.cons _ (.refl _)))))) rfl (y_indexA rfl rfl Try.underlying62 sz_4 (by omega) (by omega) (show _ = 1 from rfl)) ?_
          refine H_one 16 rfl (by kernel_rfl) rfl (op_store1 2 0 rfl rfl rfl sz_4 rfl (Nat.le_of_ble_eq_true rfl) ?_)
          refine ⟨hsub (.cons _ (.cons _ (.cons _ (.cons _ (.refl _))))), ?_⟩
          refine H_done (by kernel_rfl) ?_
          refine C_region ?_
          refine LY rfl (y_add rfl rfl (show _ = (2 : Int) from rfl)) ?_
          refine LY rfl (y_move rfl) (L_nil ?_)
          refine In_round ?_
          refine C_seq (C_region (LY rfl (y_lss rfl rfl) (L_nil (C_seq (C_cond_f rfl (C_exit (C_seq (C_seq (C_region ?_)))))))))
          refine LY rfl (y_indexA rfl rfl Try.underlying62 sz_4 (by omega) (by omega) (show _ = 0 from rfl)) ?_
          refine LY rfl (y_load rfl ag_4 (sees 2 0 rfl) rfl) (LY rfl (y_not rfl) (LY rfl (y_move rfl) (L_skip rfl rfl (L_skip rfl rfl (L_skip rfl rfl (LY rfl (y_pick_f rfl rfl) (L_nil (C_cond_f rfl (C_skip (C_seq (C_seq (C_region (LY rfl (y_move rfl) (L_nil (C_block ?_)))))))))))))))
          refine C_loopIn (In_round ?_)
          refine C_seq (C_region (LY rfl (y_lss rfl rfl) (L_nil (C_seq (C_cond_t rfl (C_skip (C_seq (C_block (C_seq (C_region (LY rfl (y_move rfl) (LY rfl (y_assign rfl) (L_nil (C_seq (C_region (LY rfl (y_move rfl) ?_))))))))))))))))
          refine LY rfl (y_indexA rfl rfl Try.underlying62 sz_4 (by omega) (by omega) (show _ = 0 from rfl)) ?_
          refine LY rfl (y_load rfl ag_4 (sees 2 0 rfl) rfl) (L_nil (C_cond_t rfl (C_region (LY rfl (y_move rfl) (LY rfl (y_move rfl) (LY rfl (y_nilCheck rfl) (LY rfl (y_fieldAddr rfl fl_110_0) ?_)))))))
          refine LY rfl (y_indexA rfl rfl Try.underlying108 sz_107 (by omega) (by omega) (show _ = 0 from rfl)) ?_
          refine LY rfl (y_fieldAddr rfl fl_107_1) (LY rfl (y_load rfl ag_105 (sees 0 0 rfl) rfl) (LY rfl (y_move rfl) ?_))
          refine L_op rfl (op_delete 0 1 rfl rfl rfl Try.underlying105 Try.underlying3 rfl rfl ?_)
          refine L_nil (C_region ?_)
          refine LY rfl (y_add rfl rfl (show _ = (1 : Int) from rfl)) ?_
          refine LY rfl (y_move rfl) (L_nil ?_)
          refine In_round ?_
          refine C_seq (C_region (LY rfl (y_lss rfl rfl) (L_nil (C_seq (C_cond_t rfl (C_skip (C_seq (C_block (C_seq (C_region (LY rfl (y_move rfl) (LY rfl (y_assign rfl) (L_nil (C_seq (C_region (LY rfl (y_move rfl) ?_))))))))))))))))
          refine LY rfl (y_indexA rfl rfl Try.underlying62 sz_4 (by omega) (by omega) (show _ = 1 from rfl)) ?_
          refine LY rfl (y_load rfl ag_4 (sees 2 0 rfl) rfl) (L_nil (C_cond_t rfl (C_region (LY rfl (y_move rfl) (LY rfl (y_move rfl) (LY rfl (y_nilCheck rfl) (LY rfl (y_fieldAddr rfl fl_110_0) ?_)))))))
          refine LY rfl (y_indexA rfl rfl Try.underlying108 sz_107 (by omega) (by omega) (show _ = 2 from rfl)) ?_
          refine LY rfl (y_fieldAddr rfl fl_107_1) (LY rfl (y_load rfl ag_105 (sees 0 0 rfl) rfl) (LY rfl (y_move rfl) ?_))
          refine L_op rfl (op_delete 0 2 rfl rfl rfl Try.underlying105 Try.underlying3 rfl rfl ?_)
          refine L_nil (C_region ?_)
          refine LY rfl (y_add rfl rfl (show _ = (2 : Int) from rfl)) ?_
          refine LY rfl (y_move rfl) (L_nil ?_)
          refine In_round ?_
          refine C_seq (C_region (LY rfl (y_lss rfl rfl) (L_nil (C_seq (C_cond_f rfl (C_exit (C_seq (C_region (LY rfl (y_assign rfl) (L_nil (C_ret ?_)))))))))))
          refine B_ret (rv_tmp rfl rv_nil) ((hsub (.cons_cons _ (.cons_cons _ (.cons _ (.cons _ (.refl _)))))).trans (hsub_pick [0, 0] rfl)) ?_
          have e0 : putD A ask n s false = true := by simp_all [putD, pd]
          have e1 : putD A ask n s true = true := by simp_all [putD, pd, pA]
          have ea : putA A ask n s = A := by simp_all [putA, pA]
          have em : putm m A ask n s = m.mark n true true := by simp [putm, hn, e0, e1]
          exact ⟨ret_int (by simp [putE, hn, e0, e1]), D, h.to (by simp [putDa, hn, ea]), by rw [em]; rfl⟩
        · skip
          refine HY 6 rfl (hsub (.cons _ (.cons _ (.cons _ (.cons _ (.refl _)))))) rfl (y_move rfl) ?_
          refine HY 7 rfl (hsub (.cons _ (.cons _ (.cons _ (.cons _ (.refl _)))))) rfl (y_nilCheck rfl) ?_
          refine HY 8 rfl (hsub (.cons _ (.cons _ (.cons _ (.cons _ (.refl _)))))) rfl (y_fieldAddr rfl fl_107_0) ?_
          refine HY 10 rfl (hsub (.cons _ (.cons _ (.cons _ (.cons _ (.refl _)))))) rfl (y_move rfl) ?_
          refine H_two 9 11 rfl rfl (by kernel_rfl) rfl rfl ?_ ?_
          · refine op_y (y_load rfl ag_24 (sees 0 0 rfl) rfl) rfl ?_
            refine ⟨hsub (.cons _ (.cons _ (.cons _ (.cons _ (.refl _))))), ?_⟩
            refine H_one 11 rfl (by kernel_rfl) rfl (op_y (y_loadA rfl ag_32 sz_32 (sees 3 0 rfl) (by rw [bs_length, hs]; decide) (bs_whole0 _ hs)) rfl ?_)
            refine ⟨hsub (.cons _ (.cons _ (.cons _ (.cons _ (.refl _))))), ?_⟩
            refine H_one 12 rfl (by kernel_rfl) rfl (op_call rfl rfl (fun a w => Try.call62 a w) rfl ?_)
            refine ((write_d h true n s hs (by have := hQ true; omega)).sub (hsub_pick [1] rfl)).mono ?_
            rintro _ _ ⟨rfl, D1, h1, rfl⟩
            refine ⟨_, rfl, ?_⟩
            refine ⟨hsub (.cons _ (.cons _ (.cons _ (.cons _ (.refl _))))), ?_⟩
            refine HY 13 rfl (hsub (.cons _ (.cons _ (.cons _ (.cons _ (.refl _)))))) rfl (y_eqi rfl rfl) ?_
            refine H_case 42 rfl (fun hg9_14 => ?_) (fun hg9_14 => ?_)
            · skip
              refine HY 14 rfl (hsub (.cons _ (.cons _ (.cons _ (.cons _ (.refl _)))))) rfl (y_pick_f rfl rfl) ?_
              refine HY 15 rfl (hsub (.cons _ (.cons _ (.cons _ (.cons _ (.refl _)))))) rfl (y_indexA rfl rfl Try.underlying62 sz_4 (by omega) (by omega) (show _ = 1 from rfl)) ?_
              refine H_one 16 rfl (by kernel_rfl) rfl (op_store1 2 0 rfl rfl rfl sz_4 rfl (Nat.le_of_ble_eq_true rfl) ?_)
              refine ⟨hsub (.cons _ (.cons _ (.cons _ (.cons _ (.refl _))))), ?_⟩
              refine H_done (by kernel_rfl) ?_
              refine C_region ?_
              refine LY rfl (y_add rfl rfl (show _ = (2 : Int) from rfl)) ?_
              refine LY rfl (y_move rfl) (L_nil ?_)
              refine In_round ?_
              refine C_seq (C_region (LY rfl (y_lss rfl rfl) (L_nil (C_seq (C_cond_f rfl (C_exit (C_seq (C_seq (C_region ?_)))))))))
              refine LY rfl (y_indexA rfl rfl Try.underlying62 sz_4 (by omega) (by omega) (show _ = 0 from rfl)) ?_
              refine LY rfl (y_load rfl ag_4 (sees 2 0 rfl) rfl) (LY rfl (y_not rfl) (LY rfl (y_move rfl) (L_skip rfl rfl (L_skip rfl rfl (L_skip rfl rfl (LY rfl (y_pick_f rfl rfl) (L_nil (C_cond_f rfl (C_skip (C_seq (C_seq (C_region (LY rfl (y_move rfl) (L_nil (C_block ?_)))))))))))))))
              refine C_loopIn (In_round ?_)
              refine C_seq (C_region (LY rfl (y_lss rfl rfl) (L_nil (C_seq (C_cond_t rfl (C_skip (C_seq (C_block (C_seq (C_region (LY rfl (y_move rfl) (LY rfl (y_assign rfl) (L_nil (C_seq (C_region (LY rfl (y_move rfl) ?_))))))))))))))))
              refine LY rfl (y_indexA rfl rfl Try.underlying62 sz_4 (by omega) (by omega) (show _ = 0 from rfl)) ?_
              refine LY rfl (y_load rfl ag_4 (sees 2 0 rfl) rfl) (L_nil (C_cond_t rfl (C_region (LY rfl (y_move rfl) (LY rfl (y_move rfl) (LY rfl (y_nilCheck rfl) (LY rfl (y_fieldAddr rfl fl_110_0) ?_)))))))
              refine LY rfl (y_indexA rfl rfl Try.underlying108 sz_107 (by omega) (by omega) (show _ = 0 from rfl)) ?_
              refine LY rfl (y_fieldAddr rfl fl_107_1) (LY rfl (y_load rfl ag_105 (sees 1 0 rfl) rfl) (LY rfl (y_move rfl) ?_))
              refine L_op rfl (op_delete 1 1 rfl rfl rfl Try.underlying105 Try.underlying3 rfl rfl ?_)
              refine L_nil (C_region ?_)
              refine LY rfl (y_add rfl rfl (show _ = (1 : Int) from rfl)) ?_
              refine LY rfl (y_move rfl) (L_nil ?_)
              refine In_round ?_
              refine C_seq (C_region (LY rfl (y_lss rfl rfl) (L_nil (C_seq (C_cond_t rfl (C_skip (C_seq (C_block (C_seq (C_region (LY rfl (y_move rfl) (LY rfl (y_assign rfl) (L_nil (C_seq (C_region (LY rfl (y_move rfl) ?_))))))))))))))))
              refine LY rfl (y_indexA rfl rfl Try.underlying62 sz_4 (by omega) (by omega) (show _ = 1 from rfl)) ?_
              refine LY rfl (y_load rfl ag_4 (sees 2 0 rfl) rfl) (L_nil (C_cond_t rfl (C_region (LY rfl (y_move rfl) (LY rfl (y_move rfl) (LY rfl (y_nilCheck rfl) (LY rfl (y_fieldAddr rfl fl_110_0) ?_)))))))
              refine LY rfl (y_indexA rfl rfl Try.underlying108 sz_107 (by omega) (by omega) (show _ = 2 from rfl)) ?_
              refine LY rfl (y_fieldAddr rfl fl_107_1) (LY rfl (y_load rfl ag_105 (sees 1 0 rfl) rfl) (LY rfl (y_move rfl) ?_))
              refine L_op rfl (op_delete 1 2 rfl rfl rfl Try.underlying105 Try.underlying3 rfl rfl ?_)
              refine L_nil (C_region ?_)
              refine LY rfl (y_add rfl rfl (show _ = (2 : Int) from rfl)) ?_
              refine LY rfl (y_move rfl) (L_nil ?_)
              refine In_round ?_
              refine C_seq (C_region (LY rfl (y_lss rfl rfl) (L_nil (C_seq (C_cond_f rfl (C_exit (C_seq (C_region (LY rfl (y_assign rfl) (L_nil (C_ret ?_)))))))))))
              refine B_ret (rv_tmp rfl rv_nil) ((hsub (.cons_cons _ (.cons_cons _ (.cons _ (.cons _ (.refl _)))))).trans (hsub_pick [1, 0] rfl)) ?_
              have e0 : putD A ask n s false = true := by simp_all [putD, pd]
              have e1 : putD A ask n s true = true := by simp_all [putD, pd, pA]
              have ea : putA A ask n s = (A.write true n s) := by simp_all [putA, pA]
              have em : putm m A ask n s = m.mark n true true := by simp [putm, hn, e0, e1]
              exact ⟨ret_int (by simp [putE, hn, e0, e1]), D1, h1.to (by simp [putDa, hn, ea]), by rw [em]; rfl⟩
            · skip
              refine HY 14 rfl (hsub (.cons _ (.cons _ (.cons _ (.cons _ (.refl _)))))) rfl (y_pick_f rfl rfl) ?_
              refine HY 15 rfl (hsub (.cons _ (.cons _ (.cons _ (.cons _ (.refl _)))))) rfl (y_indexA rfl rfl Try.underlying62 sz_4 (by omega) (by omega) (show _ = 1 from rfl)) ?_
              refine H_one 16 rfl (by kernel_rfl) rfl (op_store1 2 0 rfl rfl rfl sz_4 rfl (Nat.le_of_ble_eq_true rfl) ?_)
              refine ⟨hsub (.cons _ (.cons _ (.cons _ (.cons _ (.refl _))))), ?_⟩
              refine H_done (by kernel_rfl) ?_
              refine C_region ?_
              refine LY rfl (y_add rfl rfl (show _ = (2 : Int) from rfl)) ?_
              refine LY rfl (y_move rfl) (L_nil ?_)
              refine In_round ?_
              refine C_seq (C_region (LY rfl (y_lss rfl rfl) (L_nil (C_seq (C_cond_f rfl (C_exit (C_seq (C_seq (C_region ?_)))))))))
              refine LY rfl (y_indexA rfl rfl Try.underlying62 sz_4 (by omega) (by omega) (show _ = 0 from rfl)) ?_
              refine LY rfl (y_load rfl ag_4 (sees 2 0 rfl) rfl) (LY rfl (y_not rfl) (LY rfl (y_move rfl) (L_skip rfl rfl (L_skip rfl rfl (L_skip rfl rfl (LY rfl (y_pick_f rfl rfl) (L_nil (C_cond_f rfl (C_skip (C_seq (C_seq (C_region (LY rfl (y_move rfl) (L_nil (C_block ?_)))))))))))))))
              refine C_loopIn (In_round ?_)
              refine C_seq (C_region (LY rfl (y_lss rfl rfl) (L_nil (C_seq (C_cond_t rfl (C_skip (C_seq (C_block (C_seq (C_region (LY rfl (y_move rfl) (LY rfl (y_assign rfl) (L_nil (C_seq (C_region (LY rfl (y_move rfl) ?_))))))))))))))))
              refine LY rfl (y_indexA rfl rfl Try.underlying62 sz_4 (by omega) (by omega) (show _ = 0 from rfl)) ?_
              refine LY rfl (y_load rfl ag_4 (sees 2 0 rfl) rfl) (L_nil (C_cond_t rfl (C_region (LY rfl (y_move rfl) (LY rfl (y_move rfl) (LY rfl (y_nilCheck rfl) (LY rfl (y_fieldAddr rfl fl_110_0) ?_)))))))
              refine LY rfl (y_indexA rfl rfl Try.underlying108 sz_107 (by omega) (by omega) (show _ = 0 from rfl)) ?_
              refine LY rfl (y_fieldAddr rfl fl_107_1) (LY rfl (y_load rfl ag_105 (sees 1 0 rfl) rfl) (LY rfl (y_move rfl) ?_))
              refine L_op rfl (op_delete 1 1 rfl rfl rfl Try.underlying105 Try.underlying3 rfl rfl ?_)
              refine L_nil (C_region ?_)
              refine LY rfl (y_add rfl rfl (show _ = (1 : Int) from rfl)) ?_
              refine LY rfl (y_move rfl) (L_nil ?_)
              refine In_round ?_
              refine C_seq (C_region (LY rfl (y_lss rfl rfl) (L_nil (C_seq (C_cond_t rfl (C_skip (C_seq (C_block (C_seq (C_region (LY rfl (y_move rfl) (LY rfl (y_assign rfl) (L_nil (C_seq (C_region (LY rfl (y_move rfl) ?_))))))))))))))))
              refine LY rfl (y_indexA rfl rfl Try.underlying62 sz_4 (by omega) (by omega) (show _ = 1 from rfl)) ?_
              refine LY rfl (y_load rfl ag_4 (sees 2 0 rfl) rfl) (L_nil (C_cond_f rfl (C_region (LY rfl (y_move rfl) (LY rfl (y_move rfl) (LY rfl (y_nilCheck rfl) (LY rfl (y_fieldAddr rfl fl_110_0) ?_)))))))
              refine LY rfl (y_indexA rfl rfl Try.underlying108 sz_107 (by omega) (by omega) (show _ = 2 from rfl)) ?_
              refine LY rfl (y_fieldAddr rfl fl_107_1) (LY rfl (y_load rfl ag_105 (sees 1 0 rfl) rfl) (LY rfl (y_move rfl) ?_))
              refine L_op rfl (op_mapUpdate 1 2 rfl rfl rfl Try.underlying105 Try.underlying3 rfl rfl ?_)
              refine L_nil (C_region ?_)
              refine LY rfl (y_add rfl rfl (show _ = (2 : Int) from rfl)) ?_
              refine LY rfl (y_move rfl) (L_nil ?_)
              refine In_round ?_
              refine C_seq (C_region (LY rfl (y_lss rfl rfl) (L_nil (C_seq (C_cond_f rfl (C_exit (C_seq (C_region (LY rfl (y_assign rfl) (L_nil (C_ret ?_)))))))))))
              refine B_ret (rv_tmp rfl rv_nil) ((hsub (.cons_cons _ (.cons_cons _ (.cons _ (.cons _ (.refl _)))))).trans (hsub_pick [1, 0] rfl)) ?_
              have e0 : putD A ask n s false = true := by simp_all [putD, pd]
              have e1 : putD A ask n s true = false := by simp_all [putD, pd, pA]
              have ea : putA A ask n s = (A.write true n s) := by simp_all [putA, pA]
              have em : putm m A ask n s = m.mark n true false := by simp [putm, hn, e0, e1]
              exact ⟨ret_int (by simp [putE, hn, e0, e1]), D1, h1.to (by simp [putDa, hn, ea]), by rw [em]; rfl⟩
          · refine op_y (y_loadA rfl ag_32 sz_32 (sees 3 0 rfl) (by rw [bs_length, hs]; decide) (bs_whole0 _ hs)) rfl ?_
            refine ⟨hsub (.cons _ (.cons _ (.cons _ (.cons _ (.refl _))))), ?_⟩
            refine H_one 9 rfl (by kernel_rfl) rfl (op_y (y_load rfl ag_24 (sees 0 0 rfl) rfl) rfl ?_)
            refine ⟨hsub (.cons _ (.cons _ (.cons _ (.cons _ (.refl _))))), ?_⟩
            refine H_one 12 rfl (by kernel_rfl) rfl (op_call rfl rfl (fun a w => Try.call62 a w) rfl ?_)
            refine ((write_d h true n s hs (by have := hQ true; omega)).sub (hsub_pick [1] rfl)).mono ?_
            rintro _ _ ⟨rfl, D2, h2, rfl⟩
            refine ⟨_, rfl, ?_⟩
            refine ⟨hsub (.cons _ (.cons _ (.cons _ (.cons _ (.refl _))))), ?_⟩
            refine HY 13 rfl (hsub (.cons _ (.cons _ (.cons _ (.cons _ (.refl _)))))) rfl (y_eqi rfl rfl) ?_
            refine H_case 42 rfl (fun hg9_14 => ?_) (fun hg9_14 => ?_)
            · skip
              refine HY 14 rfl (hsub (.cons _ (.cons _ (.cons _ (.cons _ (.refl _)))))) rfl (y_pick_f rfl rfl) ?_
              refine HY 15 rfl (hsub (.cons _ (.cons _ (.cons _ (.cons _ (.refl _)))))) rfl (y_indexA rfl rfl Try.underlying62 sz_4 (by omega) (by omega) (show _ = 1 from rfl)) ?_
              refine H_one 16 rfl (by kernel_rfl) rfl (op_store1 2 0 rfl rfl rfl sz_4 rfl (Nat.le_of_ble_eq_true rfl) ?_)
              refine ⟨hsub (.cons _ (.cons _ (.cons _ (.cons _ (.refl _))))), ?_⟩
              refine H_done (by kernel_rfl) ?_
              refine C_region ?_
              refine LY rfl (y_add rfl rfl (show _ = (2 : Int) from rfl)) ?_
              refine LY rfl (y_move rfl) (L_nil ?_)
              refine In_round ?_
              refine C_seq (C_region (LY rfl (y_lss rfl rfl) (L_nil (C_seq (C_cond_f rfl (C_exit (C_seq (C_seq (C_region ?_)))))))))
              refine LY rfl (y_indexA rfl rfl Try.underlying62 sz_4 (by omega) (by omega) (show _ = 0 from rfl)) ?_
              refine LY rfl (y_load rfl ag_4 (sees 2 0 rfl) rfl) (LY rfl (y_not rfl) (LY rfl (y_move rfl) (L_skip rfl rfl (L_skip rfl rfl (L_skip rfl rfl (LY rfl (y_pick_f rfl rfl) (L_nil (C_cond_f rfl (C_skip (C_seq (C_seq (C_region (LY rfl (y_move rfl) (L_nil (C_block ?_)))))))))))))))
              refine C_loopIn (In_round ?_)
              refine C_seq (C_region (LY rfl (y_lss rfl rfl) (L_nil (C_seq (C_cond_t rfl (C_skip (C_seq (C_block (C_seq (C_region (LY rfl (y_move rfl) (LY rfl (y_assign rfl) (L_nil (C_seq (C_region (LY rfl (y_move rfl) ?_))))))))))))))))
              refine LY rfl (y_indexA rfl rfl Try.underlying62 sz_4 (by omega) (by omega) (show _ = 0 from rfl)) ?_
              refine LY rfl (y_load rfl ag_4 (sees 2 0 rfl) rfl) (L_nil (C_cond_t rfl (C_region (LY rfl (y_move rfl) (LY rfl (y_move rfl) (LY rfl (y_nilCheck rfl) (LY rfl (y_fieldAddr rfl fl_110_0) ?_)))))))
              refine LY rfl (y_indexA rfl rfl Try.underlying108 sz_107 (by omega) (by omega) (show _ = 0 from rfl)) ?_
              refine LY rfl (y_fieldAddr rfl fl_107_1) (LY rfl (y_load rfl ag_105 (sees 1 0 rfl) rfl) (LY rfl (y_move rfl) ?_))
              refine L_op rfl (op_delete 1 1 rfl rfl rfl Try.underlying105 Try.underlying3 rfl rfl ?_)
              refine L_nil (C_region ?_)
              refine LY rfl (y_add rfl rfl (show _ = (1 : Int) from rfl)) ?_
              refine LY rfl (y_move rfl) (L_nil ?_)
              refine In_round ?_
              refine C_seq (C_region (LY rfl (y_lss rfl rfl) (L_nil (C_seq (C_cond_t rfl (C_skip (C_seq (C_block (C_seq (C_region (LY rfl (y_move rfl) (LY rfl (y_assign rfl) (L_nil (C_seq (C_region (LY rfl (y_move rfl) ?_))))))))))))))))
              refine LY rfl (y_indexA rfl rfl Try.underlying62 sz_4 (by omega) (by omega) (show _ = 1 from rfl)) ?_
              refine LY rfl (y_load rfl ag_4 (sees 2 0 rfl) rfl) (L_nil (C_cond_t rfl (C_region (LY rfl (y_move rfl) (LY rfl (y_move rfl) (LY rfl (y_nilCheck rfl) (LY rfl (y_fieldAddr rfl fl_110_0) ?_)))))))
              refine LY rfl (y_indexA rfl rfl Try.underlying108 sz_107 (by omega) (by omega) (show _ = 2 from rfl)) ?_
              refine LY rfl (y_fieldAddr rfl fl_107_1) (LY rfl (y_load rfl ag_105 (sees 1 0 rfl) rfl) (LY rfl (y_move rfl) ?_))
              refine L_op rfl (op_delete 1 2 rfl rfl rfl Try.underlying105 Try.underlying3 rfl rfl ?_)
              refine L_nil (C_region ?_)
              refine LY rfl (y_add rfl rfl (show _ = (2 : Int) from rfl)) ?_
              refine LY rfl (y_move rfl) (L_nil ?_)
              refine In_round ?_
              refine C_seq (C_region (LY rfl (y_lss rfl rfl) (L_nil (C_seq (C_cond_f rfl (C_exit (C_seq (C_region (LY rfl (y_assign rfl) (L_nil (C_ret ?_)))))))))))
              refine B_ret (rv_tmp rfl rv_nil) ((hsub (.cons_cons _ (.cons_cons _ (.cons _ (.cons _ (.refl _)))))).trans (hsub_pick [1, 0] rfl)) ?_
              have e0 : putD A ask n s false = true := by simp_all [putD, pd]
              have e1 : putD A ask n s true = true := by simp_all [putD, pd, pA]
              have ea : putA A ask n s = (A.write true n s) := by simp_all [putA, pA]
              have em : putm m A ask n s = m.mark n true true := by simp [putm, hn, e0, e1]
              exact ⟨ret_int (by simp [putE, hn, e0, e1]), D2, h2.to (by simp [putDa, hn, ea]), by rw [em]; rfl⟩
            · skip
              refine HY 14 rfl (hsub (.cons _ (.cons _ (.cons _ (.cons _ (.refl _)))))) rfl (y_pick_f rfl rfl) ?_
              refine HY 15 rfl (hsub (.cons _ (.cons _ (.cons _ (.cons _ (.refl _)))))) rfl (y_indexA rfl rfl Try.underlying62 sz_4 (by omega) (by omega) (show _ = 1 from rfl)) ?_
              refine H_one 16 rfl (by kernel_rfl) rfl (op_store1 2 0 rfl rfl rfl sz_4 rfl (Nat.le_of_ble_eq_true rfl) ?_)
              refine ⟨hsub (.cons _ (.cons _ (.cons _ (.cons _ (.refl _))))), ?_⟩
              refine H_done (by kernel_rfl) ?_
              refine C_region ?_
              refine LY rfl (y_add rfl rfl (show _ = (2 : Int) from rfl)) ?_
              refine LY rfl (y_move rfl) (L_nil ?_)
              refine In_round ?_
              refine C_seq (C_region (LY rfl (y_lss rfl rfl) (L_nil (C_seq (C_cond_f rfl (C_exit (C_seq (C_seq (C_region ?_)))))))))
              refine LY rfl (y_indexA rfl rfl Try.underlying62 sz_4 (by omega) (by omega) (show _ = 0 from rfl)) ?_
              refine LY rfl (y_load rfl ag_4 (sees 2 0 rfl) rfl) (LY rfl (y_not rfl) (LY rfl (y_move rfl) (L_skip rfl rfl (L_skip rfl rfl (L_skip rfl rfl (LY rfl (y_pick_f rfl rfl) (L_nil (C_cond_f rfl (C_skip (C_seq (C_seq (C_region (LY rfl (y_move rfl) (L_nil (C_block ?_)))))))))))))))
              refine C_loopIn (In_round ?_)
              refine C_seq (C_region (LY rfl (y_lss rfl rfl) (L_nil (C_seq (C_cond_t rfl (C_skip (C_seq (C_block (C_seq (C_region (LY rfl (y_move rfl) (LY rfl (y_assign rfl) (L_nil (C_seq (C_region (LY rfl (y_move rfl) ?_))))))))))))))))
              refine LY rfl (y_indexA rfl rfl Try.underlying62 sz_4 (by omega) (by omega) (show _ = 0 from rfl)) ?_
              refine LY rfl (y_load rfl ag_4 (sees 2 0 rfl) rfl) (L_nil (C_cond_t rfl (C_region (LY rfl (y_move rfl) (LY rfl (y_move rfl) (LY rfl (y_nilCheck rfl) (LY rfl (y_fieldAddr rfl fl_110_0) ?_)))))))
              refine LY rfl (y_indexA rfl rfl Try.underlying108 sz_107 (by omega) (by omega) (show _ = 0 from rfl)) ?_
              refine LY rfl (y_fieldAddr rfl fl_107_1) (LY rfl (y_load rfl ag_105 (sees 1 0 rfl) rfl) (LY rfl (y_move rfl) ?_))
              refine L_op rfl (op_delete 1 1 rfl rfl rfl Try.underlying105 Try.underlying3 rfl rfl ?_)
              refine L_nil (C_region ?_)
              refine LY rfl (y_add rfl rfl (show _ = (1 : Int) from rfl)) ?_
              refine LY rfl (y_move rfl) (L_nil ?_)
              refine In_round ?_
              refine C_seq (C_region (LY rfl (y_lss rfl rfl) (L_nil (C_seq (C_cond_t rfl (C_skip (C_seq (C_block (C_seq (C_region (LY rfl (y_move rfl) (LY rfl (y_assign rfl) (L_nil (C_seq (C_region (LY rfl (y_move rfl) ?_))))))))))))))))
              refine LY rfl (y_indexA rfl rfl Try.underlying62 sz_4 (by omega) (by omega) (show _ = 1 from rfl)) ?_
              refine LY rfl (y_load rfl ag_4 (sees 2 0 rfl) rfl) (L_nil (C_cond_f rfl (C_region (LY rfl (y_move rfl) (LY rfl (y_move rfl) (LY rfl (y_nilCheck rfl) (LY rfl (y_fieldAddr rfl fl_110_0) ?_)))))))
              refine LY rfl (y_indexA rfl rfl Try.underlying108 sz_107 (by omega) (by omega) (show _ = 2 from rfl)) ?_
              refine LY rfl (y_fieldAddr rfl fl_107_1) (LY rfl (y_load rfl ag_105 (sees 1 0 rfl) rfl) (LY rfl (y_move rfl) ?_))
              refine L_op rfl (op_mapUpdate 1 2 rfl rfl rfl Try.underlying105 Try.underlying3 rfl rfl ?_)
              refine L_nil (C_region ?_)
              refine LY rfl (y_add rfl rfl (show _ = (2 : Int) from rfl)) ?_
              refine LY rfl (y_move rfl) (L_nil ?_)
              refine In_round ?_
              refine C_seq (C_region (LY rfl (y_lss rfl rfl) (L_nil (C_seq (C_cond_f rfl (C_exit (C_seq (C_region (LY rfl (y_assign rfl) (L_nil (C_ret ?_)))))))))))
              refine B_ret (rv_tmp rfl rv_nil) ((hsub (.cons_cons _ (.cons_cons _ (.cons _ (.cons _ (.refl _)))))).trans (hsub_pick [1, 0] rfl)) ?_
              have e0 : putD A ask n s false = true := by simp_all [putD, pd]
              have e1 : putD A ask n s true = false := by simp_all [putD, pd, pA]
              have ea : putA A ask n s = (A.write true n s) := by simp_all [putA, pA]
              have em : putm m A ask n s = m.mark n true false := by simp [putm, hn, e0, e1]
              exact ⟨ret_int (by simp [putE, hn, e0, e1]), D2, h2.to (by simp [putDa, hn, ea]), by rw [em]; rfl⟩
      · skip
        refine C_skip (C_region ?_)
        refine LY rfl (y_add rfl rfl (show _ = (2 : Int) from rfl)) ?_
        refine LY rfl (y_move rfl) (L_nil ?_)
        refine In_round ?_
        refine C_seq (C_region (LY rfl (y_lss rfl rfl) (L_nil (C_seq (C_cond_f rfl (C_exit (C_seq (C_seq (C_region ?_)))))))))
        refine LY rfl (y_indexA rfl rfl Try.underlying62 sz_4 (by omega) (by omega) (show _ = 0 from rfl)) ?_
        refine LY rfl (y_load rfl ag_4 (sees 2 0 rfl) rfl) (LY rfl (y_not rfl) (LY rfl (y_move rfl) (L_skip rfl rfl (L_skip rfl rfl (L_skip rfl rfl (LY rfl (y_pick_f rfl rfl) (L_nil (C_cond_f rfl (C_skip (C_seq (C_seq (C_region (LY rfl (y_move rfl) (L_nil (C_block ?_)))))))))))))))
        refine C_loopIn (In_round ?_)
        refine C_seq (C_region (LY rfl (y_lss rfl rfl) (L_nil (C_seq (C_cond_t rfl (C_skip (C_seq (C_block (C_seq (C_region (LY rfl (y_move rfl) (LY rfl (y_assign rfl) (L_nil (C_seq (C_region (LY rfl (y_move rfl) ?_))))))))))))))))
        refine LY rfl (y_indexA rfl rfl Try.underlying62 sz_4 (by omega) (by omega) (show _ = 0 from rfl)) ?_
        refine LY rfl (y_load rfl ag_4 (sees 2 0 rfl) rfl) (L_nil (C_cond_t rfl (C_region (LY rfl (y_move rfl) (LY rfl (y_move rfl) (LY rfl (y_nilCheck rfl) (LY rfl (y_fieldAddr rfl fl_110_0) ?_)))))))
        refine LY rfl (y_indexA rfl rfl Try.underlying108 sz_107 (by omega) (by omega) (show _ = 0 from rfl)) ?_
        refine LY rfl (y_fieldAddr rfl fl_107_1) (LY rfl (y_load rfl ag_105 (sees 1 0 rfl) rfl) (LY rfl (y_move rfl) ?_))
        refine L_op rfl (op_delete 1 1 rfl rfl rfl Try.underlying105 Try.underlying3 rfl rfl ?_)
        refine L_nil (C_region ?_)
        refine LY rfl (y_add rfl rfl (show _ = (1 : Int) from rfl)) ?_
        refine LY rfl (y_move rfl) (L_nil ?_)
        refine In_round ?_
        refine C_seq (C_region (LY rfl (y_lss rfl rfl) (L_nil (C_seq (C_cond_t rfl (C_skip (C_seq (C_block (C_seq (C_region (LY rfl (y_move rfl) (LY rfl (y_assign rfl) (L_nil (C_seq (C_region (LY rfl (y_move rfl) ?_))))))))))))))))
        refine LY rfl (y_indexA rfl rfl Try.underlying62 sz_4 (by omega) (by omega) (show _ = 1 from rfl)) ?_
        refine LY rfl (y_load rfl ag_4 (sees 2 0 rfl) rfl) (L_nil (C_cond_f rfl (C_region (LY rfl (y_move rfl) (LY rfl (y_move rfl) (LY rfl (y_nilCheck rfl) (LY rfl (y_fieldAddr rfl fl_110_0) ?_)))))))
        refine LY rfl (y_indexA rfl rfl Try.underlying108 sz_107 (by omega) (by omega) (show _ = 2 from rfl)) ?_
        refine LY rfl (y_fieldAddr rfl fl_107_1) (LY rfl (y_load rfl ag_105 (sees 1 0 rfl) rfl) (LY rfl (y_move rfl) ?_))
        refine L_op rfl (op_mapUpdate 1 2 rfl rfl rfl Try.underlying105 Try.underlying3 rfl rfl ?_)
        refine L_nil (C_region ?_)
        refine LY rfl (y_add rfl rfl (show _ = (2 : Int) from rfl)) ?_
        refine LY rfl (y_move rfl) (L_nil ?_)
        refine In_round ?_
        refine C_seq (C_region (LY rfl (y_lss rfl rfl) (L_nil (C_seq (C_cond_f rfl (C_exit (C_seq (C_region (LY rfl (y_assign rfl) (L_nil (C_ret ?_)))))))))))
        refine B_ret (rv_tmp rfl rv_nil) ((hsub (.cons_cons _ (.cons_cons _ (.cons _ (.cons _ (.refl _)))))).trans (hsub_pick [1, 0] rfl)) ?_
        have e0 : putD A ask n s false = true := by simp_all [putD, pd]
        have e1 : putD A ask n s true = false := by simp_all [putD, pd, pA]
        have ea : putA A ask n s = A := by simp_all [putA, pA]
        have em : putm m A ask n s = m.mark n true false := by simp [putm, hn, e0, e1]
        exact ⟨ret_int (by simp [putE, hn, e0, e1]), D, h.to (by simp [putDa, hn, ea]), by rw [em]; rfl⟩
    · skip
      refine HY 6 rfl (hsub (.cons _ (.cons _ (.cons _ (.cons _ (.refl _)))))) rfl (y_move rfl) ?_
      refine HY 7 rfl (hsub (.cons _ (.cons _ (.cons _ (.cons _ (.refl _)))))) rfl (y_nilCheck rfl) ?_
      refine HY 8 rfl (hsub (.cons _ (.cons _ (.cons _ (.cons _ (.refl _)))))) rfl (y_fieldAddr rfl fl_107_0) ?_
      refine HY 10 rfl (hsub (.cons _ (.cons _ (.cons _ (.cons _ (.refl _)))))) rfl (y_move rfl) ?_
      refine H_two 9 11 rfl rfl (by kernel_rfl) rfl rfl ?_ ?_
      · refine op_y (y_load rfl ag_24 (sees 0 0 rfl) rfl) rfl ?_
        refine ⟨hsub (.cons _ (.cons _ (.cons _ (.cons _ (.refl _))))), ?_⟩
        refine H_one 11 rfl (by kernel_rfl) rfl (op_y (y_loadA rfl ag_32 sz_32 (sees 3 0 rfl) (by rw [bs_length, hs]; decide) (bs_whole0 _ hs)) rfl ?_)
        refine ⟨hsub (.cons _ (.cons _ (.cons _ (.cons _ (.refl _))))), ?_⟩
        refine H_one 12 rfl (by kernel_rfl) rfl (op_call rfl rfl (fun a w => Try.call62 a w) rfl ?_)
        refine ((write_d h false n s hs (by have := hQ false; omega)).sub (hsub_pick [1] rfl)).mono ?_
        rintro _ _ ⟨rfl, D3, h3, rfl⟩
        refine ⟨_, rfl, ?_⟩
        refine ⟨hsub (.cons _ (.cons _ (.cons _ (.cons _ (.refl _))))), ?_⟩
        refine HY 13 rfl (hsub (.cons _ (.cons _ (.cons _ (.cons _ (.refl _)))))) rfl (y_eqi rfl rfl) ?_
        refine H_case 42 rfl (fun hg9_14 => ?_) (fun hg9_14 => ?_)
        · skip
          refine HY 14 rfl (hsub (.cons _ (.cons _ (.cons _ (.cons _ (.refl _)))))) rfl (y_pick_f rfl rfl) ?_
          refine HY 15 rfl (hsub (.cons _ (.cons _ (.cons _ (.cons _ (.refl _)))))) rfl (y_indexA rfl rfl Try.underlying62 sz_4 (by omega) (by omega) (show _ = 0 from rfl)) ?_
          refine H_one 16 rfl (by kernel_rfl) rfl (op_store1 2 0 rfl rfl rfl sz_4 rfl (Nat.le_of_ble_eq_true rfl) ?_)
          refine ⟨hsub (.cons _ (.cons _ (.cons _ (.cons _ (.refl _))))), ?_⟩
          refine H_done (by kernel_rfl) ?_
          refine C_region ?_
          refine LY rfl (y_add rfl rfl (show _ = (1 : Int) from rfl)) ?_
          refine LY rfl (y_move rfl) (L_nil ?_)
          refine In_round ?_
          refine C_seq (C_region (LY rfl (y_lss rfl rfl) (L_nil (C_seq (C_cond_t rfl (C_skip (C_seq (C_block (C_seq (C_region (LY rfl (y_move rfl) (LY rfl (y_assign rfl) (L_nil (C_seq (C_region (LY rfl (y_move rfl) (LY rfl (y_move rfl) (LY rfl (y_nilCheck rfl) (LY rfl (y_fieldAddr rfl fl_110_0) ?_)))))))))))))))))))
          refine LY rfl (y_indexA rfl rfl Try.underlying108 sz_107 (by omega) (by omega) (show _ = 2 from rfl)) ?_
          refine LY rfl (y_assign rfl) (L_nil (C_seq (C_region (LY rfl (y_move rfl) (LY rfl (y_nilCheck rfl) ?_)))))
          refine LY rfl (y_loadA rfl ag_107 sz_107 (sees 1 0 rfl) (Nat.le_of_ble_eq_true rfl) rfl) ?_
          refine L_op rfl (op_call rfl rfl (fun a w => Try.call53 a w) rfl ?_)
          refine ((there_d h3 true).sub (hsub_pick [0] rfl)).mono ?_
          rintro _ _ ⟨rfl, rfl⟩
          refine ⟨_, rfl, ?_⟩
          refine L_nil ?_
          refine C_cond rfl (fun hc2 => ?_) (fun hc2 => ?_)
          · skip
            refine C_regionH H (by kernel_rfl) ?_
            refine HY 0 rfl (hsub (.cons _ (.cons _ (.cons _ (.cons _ (.refl _)))))) rfl (y_move rfl) ?_
            refine HY 1 rfl (hsub (.cons _ (.cons _ (.cons _ (.cons _ (.refl _)))))) rfl (y_move rfl) ?_
            refine HY 2 rfl (hsub (.cons _ (.cons _ (.cons _ (.cons _ (.refl _)))))) rfl (y_move rfl) ?_
            refine H_one 3 rfl (by kernel_rfl) rfl (op_call (f := fa) (first := []) (cap := cap) rfl rfl hask.1 rfl ?_)
            refine FnS.mono (FnS.sub (hsub_pick [1, 0] rfl) (hask.2 true _ _ _ h3 (hsub (.cons _ (.cons _ (.refl _)))))) ?_
            rintro _ _ ⟨rfl, rfl⟩
            refine ⟨_, rfl, ?_⟩
            refine ⟨hsub (.cons _ (.cons _ (.cons _ (.cons _ (.refl _))))), ?_⟩
            refine HY 4 rfl (hsub (.cons _ (.cons _ (.cons _ (.cons _ (.refl _)))))) rfl (y_not rfl) ?_
            refine HY 5 rfl (hsub (.cons _ (.cons _ (.cons _ (.cons _ (.refl _)))))) rfl (y_move rfl) ?_
            refine H_case 34 rfl (fun hg9_6 => ?_) (fun hg9_6 => ?_)
            · skip
              refine HK 6 rfl (hsub (.cons _ (.cons _ (.cons _ (.cons _ (.refl _)))))) rfl ?_
              refine HK 7 rfl (hsub (.cons _ (.cons _ (.cons _ (.cons _ (.refl _)))))) rfl ?_
              refine HK 8 rfl (hsub (.cons _ (.cons _ (.cons _ (.cons _ (.refl _)))))) rfl ?_
              refine HK 9 rfl (hsub (.cons _ (.cons _ (.cons _ (.cons _ (.refl _)))))) rfl ?_
              refine HK 10 rfl (hsub (.cons _ (.cons _ (.cons _ (.cons _ (.refl _)))))) rfl ?_
              refine HK 11 rfl (hsub (.cons _ (.cons _ (.cons _ (.cons _ (.refl _)))))) rfl ?_
              refine HK 12 rfl (hsub (.cons _ (.cons _ (.cons _ (.cons _ (.refl _)))))) rfl ?_
              refine HK 13 rfl (hsub (.cons _ (.cons _ (.cons _ (.cons _ (.refl _)))))) rfl ?_
              refine HY 14 rfl (hsub (.cons _ (.cons _ (.cons _ (.cons _ (.refl _)))))) rfl (y_pick_t rfl rfl) ?_
              refine HY 15 rfl (hsub (.cons _ (.cons _ (.cons _ (.cons _ (.refl _)))))) rfl (y_indexA rfl rfl Try.underlying62 sz_4 (by omega) (by omega) (show _ = 1 from rfl)) ?_
              refine H_one 16 rfl (by kernel_rfl) rfl (op_store1 2 0 rfl rfl rfl sz_4 rfl (Nat.le_of_ble_eq_true rfl) ?_)
              refine ⟨hsub (.cons _ (.cons _ (.cons _ (.cons _ (.refl _))))), ?_⟩
              refine H_done (by kernel_rfl) ?_
              refine C_region ?_
              refine LY rfl (y_add rfl rfl (show _ = (2 : Int) from rfl)) ?_
              refine LY rfl (y_move rfl) (L_nil ?_)
              refine In_round ?_
              refine C_seq (C_region (LY rfl (y_lss rfl rfl) (L_nil (C_seq (C_cond_f rfl (C_exit (C_seq (C_seq (C_region ?_)))))))))
              refine LY rfl (y_indexA rfl rfl Try.underlying62 sz_4 (by omega) (by omega) (show _ = 0 from rfl)) ?_
              refine LY rfl (y_load rfl ag_4 (sees 2 0 rfl) rfl) (LY rfl (y_not rfl) (LY rfl (y_move rfl) (L_skip rfl rfl (L_skip rfl rfl (L_skip rfl rfl (LY rfl (y_pick_f rfl rfl) (L_nil (C_cond_f rfl (C_skip (C_seq (C_seq (C_region (LY rfl (y_move rfl) (L_nil (C_block ?_)))))))))))))))
              refine C_loopIn (In_round ?_)
              refine C_seq (C_region (LY rfl (y_lss rfl rfl) (L_nil (C_seq (C_cond_t rfl (C_skip (C_seq (C_block (C_seq (C_region (LY rfl (y_move rfl) (LY rfl (y_assign rfl) (L_nil (C_seq (C_region (LY rfl (y_move rfl) ?_))))))))))))))))
              refine LY rfl (y_indexA rfl rfl Try.underlying62 sz_4 (by omega) (by omega) (show _ = 0 from rfl)) ?_
              refine LY rfl (y_load rfl ag_4 (sees 2 0 rfl) rfl) (L_nil (C_cond_t rfl (C_region (LY rfl (y_move rfl) (LY rfl (y_move rfl) (LY rfl (y_nilCheck rfl) (LY rfl (y_fieldAddr rfl fl_110_0) ?_)))))))
              refine LY rfl (y_indexA rfl rfl Try.underlying108 sz_107 (by omega) (by omega) (show _ = 0 from rfl)) ?_
              refine LY rfl (y_fieldAddr rfl fl_107_1) (LY rfl (y_load rfl ag_105 (sees 0 0 rfl) rfl) (LY rfl (y_move rfl) ?_))
              refine L_op rfl (op_delete 0 1 rfl rfl rfl Try.underlying105 Try.underlying3 rfl rfl ?_)
              refine L_nil (C_region ?_)
              refine LY rfl (y_add rfl rfl (show _ = (1 : Int) from rfl)) ?_
              refine LY rfl (y_move rfl) (L_nil ?_)
              refine In_round ?_
              refine C_seq (C_region (LY rfl (y_lss rfl rfl) (L_nil (C_seq (C_cond_t rfl (C_skip (C_seq (C_block (C_seq (C_region (LY rfl (y_move rfl) (LY rfl (y_assign rfl) (L_nil (C_seq (C_region (LY rfl (y_move rfl) ?_))))))))))))))))
              refine LY rfl (y_indexA rfl rfl Try.underlying62 sz_4 (by omega) (by omega) (show _ = 1 from rfl)) ?_
              refine LY rfl (y_load rfl ag_4 (sees 2 0 rfl) rfl) (L_nil (C_cond_t rfl (C_region (LY rfl (y_move rfl) (LY rfl (y_move rfl) (LY rfl (y_nilCheck rfl) (LY rfl (y_fieldAddr rfl fl_110_0) ?_)))))))
              refine LY rfl (y_indexA rfl rfl Try.underlying108 sz_107 (by omega) (by omega) (show _ = 2 from rfl)) ?_
              refine LY rfl (y_fieldAddr rfl fl_107_1) (LY rfl (y_load rfl ag_105 (sees 0 0 rfl) rfl) (LY rfl (y_move rfl) ?_))
              refine L_op rfl (op_delete 0 2 rfl rfl rfl Try.underlying105 Try.underlying3 rfl rfl ?_)
              refine L_nil (C_region ?_)
              refine LY rfl (y_add rfl rfl (show _ = (2 : Int) from rfl)) ?_
              refine LY rfl (y_move rfl) (L_nil ?_)
              refine In_round ?_
              refine C_seq (C_region (LY rfl (y_lss rfl rfl) (L_nil (C_seq (C_cond_f rfl (C_exit (C_seq (C_region (LY rfl (y_assign rfl) (L_nil (C_ret ?_)))))))))))
              refine B_ret (rv_tmp rfl rv_nil) ((hsub (.cons_cons _ (.cons_cons _ (.cons _ (.cons _ (.refl _)))))).trans (hsub_pick [0, 0] rfl)) ?_
              have e0 : putD A ask n s false = true := by simp_all [putD, pd]
              have e1 : putD A ask n s true = true := by simp_all [putD, pd, pA]
              have ea : putA A ask n s = (A.write false n s) := by simp_all [putA, pA]
              have em : putm m A ask n s = m.mark n true true := by simp [putm, hn, e0, e1]
              exact ⟨ret_int (by simp [putE, hn, e0, e1]), D3, h3.to (by simp [putDa, hn, ea]), by rw [em]; rfl⟩
            · skip
              refine HY 6 rfl (hsub (.cons _ (.cons _ (.cons _ (.cons _ (.refl _)))))) rfl (y_move rfl) ?_
              refine HY 7 rfl (hsub (.cons _ (.cons _ (.cons _ (.cons _ (.refl _)))))) rfl (y_nilCheck rfl) ?_
              refine HY 8 rfl (hsub (.cons _ (.cons _ (.cons _ (.cons _ (.refl _)))))) rfl (y_fieldAddr rfl fl_107_0) ?_
              refine HY 10 rfl (hsub (.cons _ (.cons _ (.cons _ (.cons _ (.refl _)))))) rfl (y_move rfl) ?_
              refine H_two 9 11 rfl rfl (by kernel_rfl) rfl rfl ?_ ?_
              · refine op_y (y_load rfl ag_24 (sees 0 0 rfl) rfl) rfl ?_
                refine ⟨hsub (.cons _ (.cons _ (.cons _ (.cons _ (.refl _))))), ?_⟩
                refine H_one 11 rfl (by kernel_rfl) rfl (op_y (y_loadA rfl ag_32 sz_32 (sees 3 0 rfl) (by rw [bs_length, hs]; decide) (bs_whole0 _ hs)) rfl ?_)
                refine ⟨hsub (.cons _ (.cons _ (.cons _ (.cons _ (.refl _))))), ?_⟩
                refine H_one 12 rfl (by kernel_rfl) rfl (op_call rfl rfl (fun a w => Try.call62 a w) rfl ?_)
                refine ((write_d h3 true n s hs (by have := hQ true; have q2 := Da.write_many A false n s true; omega)).sub (hsub_pick [1] rfl)).mono ?_
                rintro _ _ ⟨rfl, D4, h4, rfl⟩
                refine ⟨_, rfl, ?_⟩
                refine ⟨hsub (.cons _ (.cons _ (.cons _ (.cons _ (.refl _))))), ?_⟩
                refine HY 13 rfl (hsub (.cons _ (.cons _ (.cons _ (.cons _ (.refl _)))))) rfl (y_eqi rfl rfl) ?_
                refine H_case 42 rfl (fun hg9_14 => ?_) (fun hg9_14 => ?_)
                · skip
                  refine HY 14 rfl (hsub (.cons _ (.cons _ (.cons _ (.cons _ (.refl _)))))) rfl (y_pick_f rfl rfl) ?_
                  refine HY 15 rfl (hsub (.cons _ (.cons _ (.cons _ (.cons _ (.refl _)))))) rfl (y_indexA rfl rfl Try.underlying62 sz_4 (by omega) (by omega) (show _ = 1 from rfl)) ?_
                  refine H_one 16 rfl (by kernel_rfl) rfl (op_store1 2 0 rfl rfl rfl sz_4 rfl (Nat.le_of_ble_eq_true rfl) ?_)
                  refine ⟨hsub (.cons _ (.cons _ (.cons _ (.cons _ (.refl _))))), ?_⟩
                  refine H_done (by kernel_rfl) ?_
                  refine C_region ?_
                  refine LY rfl (y_add rfl rfl (show _ = (2 : Int) from rfl)) ?_
                  refine LY rfl (y_move rfl) (L_nil ?_)
                  refine In_round ?_
                  refine C_seq (C_region (LY rfl (y_lss rfl rfl) (L_nil (C_seq (C_cond_f rfl (C_exit (C_seq (C_seq (C_region ?_)))))))))
                  refine LY rfl (y_indexA rfl rfl Try.underlying62 sz_4 (by omega) (by omega) (show _ = 0 from rfl)) ?_
                  refine LY rfl (y_load rfl ag_4 (sees 2 0 rfl) rfl) (LY rfl (y_not rfl) (LY rfl (y_move rfl) (L_skip rfl rfl (L_skip rfl rfl (L_skip rfl rfl (LY rfl (y_pick_f rfl rfl) (L_nil (C_cond_f rfl (C_skip (C_seq (C_seq (C_region (LY rfl (y_move rfl) (L_nil (C_block ?_)))))))))))))))
                  refine C_loopIn (In_round ?_)
                  refine C_seq (C_region (LY rfl (y_lss rfl rfl) (L_nil (C_seq (C_cond_t rfl (C_skip (C_seq (C_block (C_seq (C_region (LY rfl (y_move rfl) (LY rfl (y_assign rfl) (L_nil (C_seq (C_region (LY rfl (y_move rfl) ?_))))))))))))))))
                  refine LY rfl (y_indexA rfl rfl Try.underlying62 sz_4 (by omega) (by omega) (show _ = 0 from rfl)) ?_
                  refine LY rfl (y_load rfl ag_4 (sees 2 0 rfl) rfl) (L_nil (C_cond_t rfl (C_region (LY rfl (y_move rfl) (LY rfl (y_move rfl) (LY rfl (y_nilCheck rfl) (LY rfl (y_fieldAddr rfl fl_110_0) ?_)))))))
                  refine LY rfl (y_indexA rfl rfl Try.underlying108 sz_107 (by omega) (by omega) (show _ = 0 from rfl)) ?_
                  refine LY rfl (y_fieldAddr rfl fl_107_1) (LY rfl (y_load rfl ag_105 (sees 1 0 rfl) rfl) (LY rfl (y_move rfl) ?_))
                  refine L_op rfl (op_delete 1 1 rfl rfl rfl Try.underlying105 Try.underlying3 rfl rfl ?_)
                  refine L_nil (C_region ?_)
                  refine LY rfl (y_add rfl rfl (show _ = (1 : Int) from rfl)) ?_
                  refine LY rfl (y_move rfl) (L_nil ?_)
                  refine In_round ?_
                  refine C_seq (C_region (LY rfl (y_lss rfl rfl) (L_nil (C_seq (C_cond_t rfl (C_skip (C_seq (C_block (C_seq (C_region (LY rfl (y_move rfl) (LY rfl (y_assign rfl) (L_nil (C_seq (C_region (LY rfl (y_move rfl) ?_))))))))))))))))
                  refine LY rfl (y_indexA rfl rfl Try.underlying62 sz_4 (by omega) (by omega) (show _ = 1 from rfl)) ?_
                  refine LY rfl (y_load rfl ag_4 (sees 2 0 rfl) rfl) (L_nil (C_cond_t rfl (C_region (LY rfl (y_move rfl) (LY rfl (y_move rfl) (LY rfl (y_nilCheck rfl) (LY rfl (y_fieldAddr rfl fl_110_0) ?_)))))))
                  refine LY rfl (y_indexA rfl rfl Try.underlying108 sz_107 (by omega) (by omega) (show _ = 2 from rfl)) ?_
                  refine LY rfl (y_fieldAddr rfl fl_107_1) (LY rfl (y_load rfl ag_105 (sees 1 0 rfl) rfl) (LY rfl (y_move rfl) ?_))
                  refine L_op rfl (op_delete 1 2 rfl rfl rfl Try.underlying105 Try.underlying3 rfl rfl ?_)
                  refine L_nil (C_region ?_)
                  refine LY rfl (y_add rfl rfl (show _ = (2 : Int) from rfl)) ?_
                  refine LY rfl (y_move rfl) (L_nil ?_)
                  refine In_round ?_
                  refine C_seq (C_region (LY rfl (y_lss rfl rfl) (L_nil (C_seq (C_cond_f rfl (C_exit (C_seq (C_region (LY rfl (y_assign rfl) (L_nil (C_ret ?_)))))))))))
                  refine B_ret (rv_tmp rfl rv_nil) ((hsub (.cons_cons _ (.cons_cons _ (.cons _ (.cons _ (.refl _)))))).trans (hsub_pick [1, 0] rfl)) ?_
                  have e0 : putD A ask n s false = true := by simp_all [putD, pd]
                  have e1 : putD A ask n s true = true := by simp_all [putD, pd, pA]
                  have ea : putA A ask n s = ((A.write false n s).write true n s) := by simp_all [putA, pA]
                  have em : putm m A ask n s = m.mark n true true := by simp [putm, hn, e0, e1]
                  exact ⟨ret_int (by simp [putE, hn, e0, e1]), D4, h4.to (by simp [putDa, hn, ea]), by rw [em]; rfl⟩
                · skip
                  refine HY 14 rfl (hsub (.cons _ (.cons _ (.cons _ (.cons _ (.refl _)))))) rfl (y_pick_f rfl rfl) ?_
                  refine HY 15 rfl (hsub (.cons _ (.cons _ (.cons _ (.cons _ (.refl _)))))) rfl (y_indexA rfl rfl Try.underlying62 sz_4 (by omega) (by omega) (show _ = 1 from rfl)) ?_
                  refine H_one 16 rfl (by kernel_rfl) rfl (op_store1 2 0 rfl rfl rfl sz_4 rfl (Nat.le_of_ble_eq_true rfl) ?_)
                  refine ⟨hsub (.cons _ (.cons _ (.cons _ (.cons _ (.refl _))))), ?_⟩
                  refine H_done (by kernel_rfl) ?_
                  refine C_region ?_
                  refine LY rfl (y_add rfl rfl (show _ = (2 : Int) from rfl)) ?_
                  refine LY rfl (y_move rfl) (L_nil ?_)
                  refine In_round ?_
                  refine C_seq (C_region (LY rfl (y_lss rfl rfl) (L_nil (C_seq (C_cond_f rfl (C_exit (C_seq (C_seq (C_region ?_)))))))))
                  refine LY rfl (y_indexA rfl rfl Try.underlying62 sz_4 (by omega) (by omega) (show _ = 0 from rfl)) ?_
                  refine LY rfl (y_load rfl ag_4 (sees 2 0 rfl) rfl) (LY rfl (y_not rfl) (LY rfl (y_move rfl) (L_skip rfl rfl (L_skip rfl rfl (L_skip rfl rfl (LY rfl (y_pick_f rfl rfl) (L_nil (C_cond_f rfl (C_skip (C_seq (C_seq (C_region (LY rfl (y_move rfl) (L_nil (C_block ?_)))))))))))))))
                  refine C_loopIn (In_round ?_)
                  refine C_seq (C_region (LY rfl (y_lss rfl rfl) (L_nil (C_seq (C_cond_t rfl (C_skip (C_seq (C_block (C_seq (C_region (LY rfl (y_move rfl) (LY rfl (y_assign rfl) (L_nil (C_seq (C_region (LY rfl (y_move rfl) ?_))))))))))))))))
                  refine LY rfl (y_indexA rfl rfl Try.underlying62 sz_4 (by omega) (by omega) (show _ = 0 from rfl)) ?_
                  refine LY rfl (y_load rfl ag_4 (sees 2 0 rfl) rfl) (L_nil (C_cond_t rfl (C_region (LY rfl (y_move rfl) (LY rfl (y_move rfl) (LY rfl (y_nilCheck rfl) (LY rfl (y_fieldAddr rfl fl_110_0) ?_)))))))
                  refine LY rfl (y_indexA rfl rfl Try.underlying108 sz_107 (by omega) (by omega) (show _ = 0 from rfl)) ?_
                  refine LY rfl (y_fieldAddr rfl fl_107_1) (LY rfl (y_load rfl ag_105 (sees 1 0 rfl) rfl) (LY rfl (y_move rfl) ?_))
                  refine L_op rfl (op_delete 1 1 rfl rfl rfl Try.underlying105 Try.underlying3 rfl rfl ?_)
                  refine L_nil (C_region ?_)
                  refine LY rfl (y_add rfl rfl (show _ = (1 : Int) from rfl)) ?_
                  refine LY rfl (y_move rfl) (L_nil ?_)
                  refine In_round ?_
                  refine C_seq (C_region (LY rfl (y_lss rfl rfl) (L_nil (C_seq (C_cond_t rfl (C_skip (C_seq (C_block (C_seq (C_region (LY rfl (y_move rfl) (LY rfl (y_assign rfl) (L_nil (C_seq (C_region (LY rfl (y_move rfl) ?_))))))))))))))))
                  refine LY rfl (y_indexA rfl rfl Try.underlying62 sz_4 (by omega) (by omega) (show _ = 1 from rfl)) ?_
                  refine LY rfl (y_load rfl ag_4 (sees 2 0 rfl) rfl) (L_nil (C_cond_f rfl (C_region (LY rfl (y_move rfl) (LY rfl (y_move rfl) (LY rfl (y_nilCheck rfl) (LY rfl (y_fieldAddr rfl fl_110_0) ?_)))))))
                  refine LY rfl (y_indexA rfl rfl Try.underlying108 sz_107 (by omega) (by omega) (show _ = 2 from rfl)) ?_
                  refine LY rfl (y_fieldAddr rfl fl_107_1) (LY rfl (y_load rfl ag_105 (sees 1 0 rfl) rfl) (LY rfl (y_move rfl) ?_))
                  refine L_op rfl (op_mapUpdate 1 2 rfl rfl rfl Try.underlying105 Try.underlying3 rfl rfl ?_)
                  refine L_nil (C_region ?_)
                  refine LY rfl (y_add rfl rfl (show _ = (2 : Int) from rfl)) ?_
                  refine LY rfl (y_move rfl) (L_nil ?_)
                  refine In_round ?_
                  refine C_seq (C_region (LY rfl (y_lss rfl rfl) (L_nil (C_seq (C_cond_f rfl (C_exit (C_seq (C_region (LY rfl (y_assign rfl) (L_nil (C_ret ?_)))))))))))
                  refine B_ret (rv_tmp rfl rv_nil) ((hsub (.cons_cons _ (.cons_cons _ (.cons _ (.cons _ (.refl _)))))).trans (hsub_pick [1, 0] rfl)) ?_
                  have e0 : putD A ask n s false = true := by simp_all [putD, pd]
                  have e1 : putD A ask n s true = false := by simp_all [putD, pd, pA]
                  have ea : putA A ask n s = ((A.write false n s).write true n s) := by simp_all [putA, pA]
                  have em : putm m A ask n s = m.mark n true false := by simp [putm, hn, e0, e1]
                  exact ⟨ret_int (by simp [putE, hn, e0, e1]), D4, h4.to (by simp [putDa, hn, ea]), by rw [em]; rfl⟩
              · refine op_y (y_loadA rfl ag_32 sz_32 (sees 3 0 rfl) (by rw [bs_length, hs]; decide) (bs_whole0 _ hs)) rfl ?_
                refine ⟨hsub (.cons _ (.cons _ (.cons _ (.cons _ (.refl _))))), ?_⟩
                refine H_one 9 rfl (by kernel_rfl) rfl (op_y (y_load rfl ag_24 (sees 0 0 rfl) rfl) rfl ?_)
                refine ⟨hsub (.cons _ (.cons _ (.cons _ (.cons _ (.refl _))))), ?_⟩
                refine H_one 12 rfl (by kernel_rfl) rfl (op_call rfl rfl (fun a w => Try.call62 a w) rfl ?_)
                refine ((write_d h3 true n s hs (by have := hQ true; have q2 := Da.write_many A false n s true; omega)).sub (hsub_pick [1] rfl)).mono ?_
                rintro _ _ ⟨rfl, D5, h5, rfl⟩
                refine ⟨_, rfl, ?_⟩
                refine ⟨hsub (.cons _ (.cons _ (.cons _ (.cons _ (.refl _))))), ?_⟩
                refine HY 13 rfl (hsub (.cons _ (.cons _ (.cons _ (.cons _ (.refl _)))))) rfl (y_eqi rfl rfl) ?_
                refine H_case 42 rfl (fun hg9_14 => ?_) (fun hg9_14 => ?_)
                · skip
                  refine HY 14 rfl (hsub (.cons _ (.cons _ (.cons _ (.cons _ (.refl _)))))) rfl (y_pick_f rfl rfl) ?_
                  refine HY 15 rfl (hsub (.cons _ (.cons _ (.cons _ (.cons _ (.refl _)))))) rfl (y_indexA rfl rfl Try.underlying62 sz_4 (by omega) (by omega) (show _ = 1 from rfl)) ?_
                  refine H_one 16 rfl (by kernel_rfl) rfl (op_store1 2 0 rfl rfl rfl sz_4 rfl (Nat.le_of_ble_eq_true rfl) ?_)
                  refine ⟨hsub (.cons _ (.cons _ (.cons _ (.cons _ (.refl _))))), ?_⟩
                  refine H_done (by kernel_rfl) ?_
                  refine C_region ?_
                  refine LY rfl (y_add rfl rfl (show _ = (2 : Int) from rfl)) ?_
                  refine LY rfl (y_move rfl) (L_nil ?_)
                  refine In_round ?_
                  refine C_seq (C_region (LY rfl (y_lss rfl rfl) (L_nil (C_seq (C_cond_f rfl (C_exit (C_seq (C_seq (C_region ?_)))))))))
                  refine LY rfl (y_indexA rfl rfl Try.underlying62 sz_4 (by omega) (by omega) (show _ = 0 from rfl)) ?_
                  refine LY rfl (y_load rfl ag_4 (sees 2 0 rfl) rfl) (LY rfl (y_not rfl) (LY rfl (y_move rfl) (L_skip rfl rfl (L_skip rfl rfl (L_skip rfl rfl (LY rfl (y_pick_f rfl rfl) (L_nil (C_cond_f rfl (C_skip (C_seq (C_seq (C_region (LY rfl (y_move rfl) (L_nil (C_block ?_)))))))))))))))
                  refine C_loopIn (In_round ?_)
                  refine C_seq (C_region (LY rfl (y_lss rfl rfl) (L_nil (C_seq (C_cond_t rfl (C_skip (C_seq (C_block (C_seq (C_region (LY rfl (y_move rfl) (LY rfl (y_assign rfl) (L_nil (C_seq (C_region (LY rfl (y_move rfl) ?_))))))))))))))))
                  refine LY rfl (y_indexA rfl rfl Try.underlying62 sz_4 (by omega) (by omega) (show _ = 0 from rfl)) ?_
                  refine LY rfl (y_load rfl ag_4 (sees 2 0 rfl) rfl) (L_nil (C_cond_t rfl (C_region (LY rfl (y_move rfl) (LY rfl (y_move rfl) (LY rfl (y_nilCheck rfl) (LY rfl (y_fieldAddr rfl fl_110_0) ?_)))))))
                  refine LY rfl (y_indexA rfl rfl Try.underlying108 sz_107 (by omega) (by omega) (show _ = 0 from rfl)) ?_
                  refine LY rfl (y_fieldAddr rfl fl_107_1) (LY rfl (y_load rfl ag_105 (sees 1 0 rfl) rfl) (LY rfl (y_move rfl) ?_))
                  refine L_op rfl (op_delete 1 1 rfl rfl rfl Try.underlying105 Try.underlying3 rfl rfl ?_)
                  refine L_nil (C_region ?_)
                  refine LY rfl (y_add rfl rfl (show _ = (1 : Int) from rfl)) ?_
                  refine LY rfl (y_move rfl) (L_nil ?_)
                  refine In_round ?_
                  refine C_seq (C_region (LY rfl (y_lss rfl rfl) (L_nil (C_seq (C_cond_t rfl (C_skip (C_seq (C_block (C_seq (C_region (LY rfl (y_move rfl) (LY rfl (y_assign rfl) (L_nil (C_seq (C_region (LY rfl (y_move rfl) ?_))))))))))))))))
                  refine LY rfl (y_indexA rfl rfl Try.underlying62 sz_4 (by omega) (by omega) (show _ = 1 from rfl)) ?_
                  refine LY rfl (y_load rfl ag_4 (sees 2 0 rfl) rfl) (L_nil (C_cond_t rfl (C_region (LY rfl (y_move rfl) (LY rfl (y_move rfl) (LY rfl (y_nilCheck rfl) (LY rfl (y_fieldAddr rfl fl_110_0) ?_)))))))
                  refine LY rfl (y_indexA rfl rfl Try.underlying108 sz_107 (by omega) (by omega) (show _ = 2 from rfl)) ?_
                  refine LY rfl (y_fieldAddr rfl fl_107_1) (LY rfl (y_load rfl ag_105 (sees 1 0 rfl) rfl) (LY rfl (y_move rfl) ?_))
                  refine L_op rfl (op_delete 1 2 rfl rfl rfl Try.underlying105 Try.underlying3 rfl rfl ?_)
                  refine L_nil (C_region ?_)
                  refine LY rfl (y_add rfl rfl (show _ = (2 : Int) from rfl)) ?_
                  refine LY rfl (y_move rfl) (L_nil ?_)
                  refine In_round ?_
                  refine C_seq (C_region (LY rfl (y_lss rfl rfl) (L_nil (C_seq (C_cond_f rfl (C_exit (C_seq (C_region (LY rfl (y_assign rfl) (L_nil (C_ret ?_)))))))))))
                  refine B_ret (rv_tmp rfl rv_nil) ((hsub (.cons_cons _ (.cons_cons _ (.cons _ (.cons _ (.refl _)))))).trans (hsub_pick [1, 0] rfl)) ?_
                  have e0 : putD A ask n s false = true := by simp_all [putD, pd]
                  have e1 : putD A ask n s true = true := by simp_all [putD, pd, pA]
                  have ea : putA A ask n s = ((A.write false n s).write true n s) := by simp_all [putA, pA]
                  have em : putm m A ask n s = m.mark n true true := by simp [putm, hn, e0, e1]
                  exact ⟨ret_int (by simp [putE, hn, e0, e1]), D5, h5.to (by simp [putDa, hn, ea]), by rw [em]; rfl⟩
                · skip
                  refine HY 14 rfl (hsub (.cons _ (.cons _ (.cons _ (.cons _ (.refl _)))))) rfl (y_pick_f rfl rfl) ?_
                  refine HY 15 rfl (hsub (.cons _ (.cons _ (.cons _ (.cons _ (.refl _)))))) rfl (y_indexA rfl rfl Try.underlying62 sz_4 (by omega) (by omega) (show _ = 1 from rfl)) ?_
                  refine H_one 16 rfl (by kernel_rfl) rfl (op_store1 2 0 rfl rfl rfl sz_4 rfl (Nat.le_of_ble_eq_true rfl) ?_)
                  refine ⟨hsub (.cons _ (.cons _ (.cons _ (.cons _ (.refl _))))), ?_⟩
                  refine H_done (by kernel_rfl) ?_
                  refine C_region ?_
                  refine LY rfl (y_add rfl rfl (show _ = (2 : Int) from rfl)) ?_
                  refine LY rfl (y_move rfl) (L_nil ?_)
                  refine In_round ?_
                  refine C_seq (C_region (LY rfl (y_lss rfl rfl) (L_nil (C_seq (C_cond_f rfl (C_exit (C_seq (C_seq (C_region ?_)))))))))
                  refine LY rfl (y_indexA rfl rfl Try.underlying62 sz_4 (by omega) (by omega) (show _ = 0 from rfl)) ?_
                  refine LY rfl (y_load rfl ag_4 (sees 2 0 rfl) rfl) (LY rfl (y_not rfl) (LY rfl (y_move rfl) (L_skip rfl rfl (L_skip rfl rfl (L_skip rfl rfl (LY rfl (y_pick_f rfl rfl) (L_nil (C_cond_f rfl (C_skip (C_seq (C_seq (C_region (LY rfl (y_move rfl) (L_nil (C_block ?_)))))))))))))))
                  refine C_loopIn (In_round ?_)
                  refine C_seq (C_region (LY rfl (y_lss rfl rfl) (L_nil (C_seq (C_cond_t rfl (C_skip (C_seq (C_block (C_seq (C_region (LY rfl (y_move rfl) (LY rfl (y_assign rfl) (L_nil (C_seq (C_region (LY rfl (y_move rfl) ?_))))))))))))))))
                  refine LY rfl (y_indexA rfl rfl Try.underlying62 sz_4 (by omega) (by omega) (show _ = 0 from rfl)) ?_
                  refine LY rfl (y_load rfl ag_4 (sees 2 0 rfl) rfl) (L_nil (C_cond_t rfl (C_region (LY rfl (y_move rfl) (LY rfl (y_move rfl) (LY rfl (y_nilCheck rfl) (LY rfl (y_fieldAddr rfl fl_110_0) ?_)))))))
                  refine LY rfl (y_indexA rfl rfl Try.underlying108 sz_107 (by omega) (by omega) (show _ = 0 from rfl)) ?_
                  refine LY rfl (y_fieldAddr rfl fl_107_1) (LY rfl (y_load rfl ag_105 (sees 1 0 rfl) rfl) (LY rfl (y_move rfl) ?_))
                  refine L_op rfl (op_delete 1 1 rfl rfl rfl Try.underlying105 Try.underlying3 rfl rfl ?_)
                  refine L_nil (C_region ?_)
                  refine LY rfl (y_add rfl rfl (show _ = (1 : Int) from rfl)) ?_
                  refine LY rfl (y_move rfl) (L_nil ?_)
                  refine In_round ?_
                  refine C_seq (C_region (LY rfl (y_lss rfl rfl) (L_nil (C_seq (C_cond_t rfl (C_skip (C_seq (C_block (C_seq (C_region (LY rfl (y_move rfl) (LY rfl (y_assign rfl) (L_nil (C_seq (C_region (LY rfl (y_move rfl) ?_))))))))))))))))
                  refine LY rfl (y_indexA rfl rfl Try.underlying62 sz_4 (by omega) (by omega) (show _ = 1 from rfl)) ?_
                  refine LY rfl (y_load rfl ag_4 (sees 2 0 rfl) rfl) (L_nil (C_cond_f rfl (C_region (LY rfl (y_move rfl) (LY rfl (y_move rfl) (LY rfl (y_nilCheck rfl) (LY rfl (y_fieldAddr rfl fl_110_0) ?_)))))))
                  refine LY rfl (y_indexA rfl rfl Try.underlying108 sz_107 (by omega) (by omega) (show _ = 2 from rfl)) ?_
                  refine LY rfl (y_fieldAddr rfl fl_107_1) (LY rfl (y_load rfl ag_105 (sees 1 0 rfl) rfl) (LY rfl (y_move rfl) ?_))
                  refine L_op rfl (op_mapUpdate 1 2 rfl rfl rfl Try.underlying105 Try.underlying3 rfl rfl ?_)
                  refine L_nil (C_region ?_)
                  refine LY rfl (y_add rfl rfl (show _ = (2 : Int) from rfl)) ?_
                  refine LY rfl (y_move rfl) (L_nil ?_)
                  refine In_round ?_
                  refine C_seq (C_region (LY rfl (y_lss rfl rfl) (L_nil (C_seq (C_cond_f rfl (C_exit (C_seq (C_region (LY rfl (y_assign rfl) (L_nil (C_ret ?_)))))))))))
                  refine B_ret (rv_tmp rfl rv_nil) ((hsub (.cons_cons _ (.cons_cons _ (.cons _ (.cons _ (.refl _)))))).trans (hsub_pick [1, 0] rfl)) ?_
                  have e0 : putD A ask n s false = true := by simp_all [putD, pd]
                  have e1 : putD A ask n s true = false := by simp_all [putD, pd, pA]
                  have ea : putA A ask n s = ((A.write false n s).write true n s) := by simp_all [putA, pA]
                  have em : putm m A ask n s = m.mark n true false := by simp [putm, hn, e0, e1]
                  exact ⟨ret_int (by simp [putE, hn, e0, e1]), D5, h5.to (by simp [putDa, hn, ea]), by rw [em]; rfl⟩
          · skip
            refine C_skip (C_region ?_)
            refine LY rfl (y_add rfl rfl (show _ = (2 : Int) from rfl)) ?_
            refine LY rfl (y_move rfl) (L_nil ?_)
            refine In_round ?_
            refine C_seq (C_region (LY rfl (y_lss rfl rfl) (L_nil (C_seq (C_cond_f rfl (C_exit (C_seq (C_seq (C_region ?_)))))))))
            refine LY rfl (y_indexA rfl rfl Try.underlying62 sz_4 (by omega) (by omega) (show _ = 0 from rfl)) ?_
            refine LY rfl (y_load rfl ag_4 (sees 2 0 rfl) rfl) (LY rfl (y_not rfl) (LY rfl (y_move rfl) (L_skip rfl rfl (L_skip rfl rfl (L_skip rfl rfl (LY rfl (y_pick_f rfl rfl) (L_nil (C_cond_f rfl (C_skip (C_seq (C_seq (C_region (LY rfl (y_move rfl) (L_nil (C_block ?_)))))))))))))))
            refine C_loopIn (In_round ?_)
            refine C_seq (C_region (LY rfl (y_lss rfl rfl) (L_nil (C_seq (C_cond_t rfl (C_skip (C_seq (C_block (C_seq (C_region (LY rfl (y_move rfl) (LY rfl (y_assign rfl) (L_nil (C_seq (C_region (LY rfl (y_move rfl) ?_))))))))))))))))
            refine LY rfl (y_indexA rfl rfl Try.underlying62 sz_4 (by omega) (by omega) (show _ = 0 from rfl)) ?_
            refine LY rfl (y_load rfl ag_4 (sees 2 0 rfl) rfl) (L_nil (C_cond_t rfl (C_region (LY rfl (y_move rfl) (LY rfl (y_move rfl) (LY rfl (y_nilCheck rfl) (LY rfl (y_fieldAddr rfl fl_110_0) ?_)))))))
            refine LY rfl (y_indexA rfl rfl Try.underlying108 sz_107 (by omega) (by omega) (show _ = 0 from rfl)) ?_
            refine LY rfl (y_fieldAddr rfl fl_107_1) (LY rfl (y_load rfl ag_105 (sees 1 0 rfl) rfl) (LY rfl (y_move rfl) ?_))
            refine L_op rfl (op_delete 1 1 rfl rfl rfl Try.underlying105 Try.underlying3 rfl rfl ?_)
            refine L_nil (C_region ?_)
            refine LY rfl (y_add rfl rfl (show _ = (1 : Int) from rfl)) ?_
            refine LY rfl (y_move rfl) (L_nil ?_)
            refine In_round ?_
            refine C_seq (C_region (LY rfl (y_lss rfl rfl) (L_nil (C_seq (C_cond_t rfl (C_skip (C_seq (C_block (C_seq (C_region (LY rfl (y_move rfl) (LY rfl (y_assign rfl) (L_nil (C_seq (C_region (LY rfl (y_move rfl) ?_))))))))))))))))
            refine LY rfl (y_indexA rfl rfl Try.underlying62 sz_4 (by omega) (by omega) (show _ = 1 from rfl)) ?_
            refine LY rfl (y_load rfl ag_4 (sees 2 0 rfl) rfl) (L_nil (C_cond_f rfl (C_region (LY rfl (y_move rfl) (LY rfl (y_move rfl) (LY rfl (y_nilCheck rfl) (LY rfl (y_fieldAddr rfl fl_110_0) ?_)))))))
            refine LY rfl (y_indexA rfl rfl Try.underlying108 sz_107 (by omega) (by omega) (show _ = 2 from rfl)) ?_
            refine LY rfl (y_fieldAddr rfl fl_107_1) (LY rfl (y_load rfl ag_105 (sees 1 0 rfl) rfl) (LY rfl (y_move rfl) ?_))
            refine L_op rfl (op_mapUpdate 1 2 rfl rfl rfl Try.underlying105 Try.underlying3 rfl rfl ?_)
            refine L_nil (C_region ?_)
            refine LY rfl (y_add rfl rfl (show _ = (2 : Int) from rfl)) ?_
            refine LY rfl (y_move rfl) (L_nil ?_)
            refine In_round ?_
            refine C_seq (C_region (LY rfl (y_lss rfl rfl) (L_nil (C_seq (C_cond_f rfl (C_exit (C_seq (C_region (LY rfl (y_assign rfl) (L_nil (C_ret ?_)))))))))))
            refine B_ret (rv_tmp rfl rv_nil) ((hsub (.cons_cons _ (.cons_cons _ (.cons _ (.cons _ (.refl _)))))).trans (hsub_pick [1, 0] rfl)) ?_
            have e0 : putD A ask n s false = true := by simp_all [putD, pd]
            have e1 : putD A ask n s true = false := by simp_all [putD, pd, pA]
            have ea : putA A ask n s = (A.write false n s) := by simp_all [putA, pA]
            have em : putm m A ask n s = m.mark n true false := by simp [putm, hn, e0, e1]
            exact ⟨ret_int (by simp [putE, hn, e0, e1]), D3, h3.to (by simp [putDa, hn, ea]), by rw [em]; rfl⟩
        · skip
          refine HY 14 rfl (hsub (.cons _ (.cons _ (.cons _ (.cons _ (.refl _)))))) rfl (y_pick_f rfl rfl) ?_
          refine HY 15 rfl (hsub (.cons _ (.cons _ (.cons _ (.cons _ (.refl _)))))) rfl (y_indexA rfl rfl Try.underlying62 sz_4 (by omega) (by omega) (show _ = 0 from rfl)) ?_
          refine H_one 16 rfl (by kernel_rfl) rfl (op_store1 2 0 rfl rfl rfl sz_4 rfl (Nat.le_of_ble_eq_true rfl) ?_)
          refine ⟨hsub (.cons _ (.cons _ (.cons _ (.cons _ (.refl _))))), ?_⟩
          refine H_done (by kernel_rfl) ?_
          refine C_region ?_
          refine LY rfl (y_add rfl rfl (show _ = (1 : Int) from rfl)) ?_
          refine LY rfl (y_move rfl) (L_nil ?_)
          refine In_round ?_
          refine C_seq (C_region (LY rfl (y_lss rfl rfl) (L_nil (C_seq (C_cond_t rfl (C_skip (C_seq (C_block (C_seq (C_region (LY rfl (y_move rfl) (LY rfl (y_assign rfl) (L_nil (C_seq (C_region (LY rfl (y_move rfl) (LY rfl (y_move rfl) (LY rfl (y_nilCheck rfl) (LY rfl (y_fieldAddr rfl fl_110_0) ?_)))))))))))))))))))
          refine LY rfl (y_indexA rfl rfl Try.underlying108 sz_107 (by omega) (by omega) (show _ = 2 from rfl)) ?_
          refine LY rfl (y_assign rfl) (L_nil (C_seq (C_region (LY rfl (y_move rfl) (LY rfl (y_nilCheck rfl) ?_)))))
          refine LY rfl (y_loadA rfl ag_107 sz_107 (sees 1 0 rfl) (Nat.le_of_ble_eq_true rfl) rfl) ?_
          refine L_op rfl (op_call rfl rfl (fun a w => Try.call53 a w) rfl ?_)
          refine ((there_d h3 true).sub (hsub_pick [0] rfl)).mono ?_
          rintro _ _ ⟨rfl, rfl⟩
          refine ⟨_, rfl, ?_⟩
          refine L_nil ?_
          refine C_cond rfl (fun hc2 => ?_) (fun hc2 => ?_)
          · skip
            refine C_regionH H (by kernel_rfl) ?_
            refine HY 0 rfl (hsub (.cons _ (.cons _ (.cons _ (.cons _ (.refl _)))))) rfl (y_move rfl) ?_
            refine HY 1 rfl (hsub (.cons _ (.cons _ (.cons _ (.cons _ (.refl _)))))) rfl (y_move rfl) ?_
            refine HY 2 rfl (hsub (.cons _ (.cons _ (.cons _ (.cons _ (.refl _)))))) rfl (y_move rfl) ?_
            refine H_one 3 rfl (by kernel_rfl) rfl (op_call (f := fa) (first := []) (cap := cap) rfl rfl hask.1 rfl ?_)
            refine FnS.mono (FnS.sub (hsub_pick [1, 0] rfl) (hask.2 true _ _ _ h3 (hsub (.cons _ (.cons _ (.refl _)))))) ?_
            rintro _ _ ⟨rfl, rfl⟩
            refine ⟨_, rfl, ?_⟩
            refine ⟨hsub (.cons _ (.cons _ (.cons _ (.cons _ (.refl _))))), ?_⟩
            refine HY 4 rfl (hsub (.cons _ (.cons _ (.cons _ (.cons _ (.refl _)))))) rfl (y_not rfl) ?_
            refine HY 5 rfl (hsub (.cons _ (.cons _ (.cons _ (.cons _ (.refl _)))))) rfl (y_move rfl) ?_
            refine H_case 34 rfl (fun hg9_6 => ?_) (fun hg9_6 => ?_)
            · skip
              refine HK 6 rfl (hsub (.cons _ (.cons _ (.cons _ (.cons _ (.refl _)))))) rfl ?_
              refine HK 7 rfl (hsub (.cons _ (.cons _ (.cons _ (.cons _ (.refl _)))))) rfl ?_
              refine HK 8 rfl (hsub (.cons _ (.cons _ (.cons _ (.cons _ (.refl _)))))) rfl ?_
              refine HK 9 rfl (hsub (.cons _ (.cons _ (.cons _ (.cons _ (.refl _)))))) rfl ?_
              refine HK 10 rfl (hsub (.cons _ (.cons _ (.cons _ (.cons _ (.refl _)))))) rfl ?_
              refine HK 11 rfl (hsub (.cons _ (.cons _ (.cons _ (.cons _ (.refl _)))))) rfl ?_
              refine HK 12 rfl (hsub (.cons _ (.cons _ (.cons _ (.cons _ (.refl _)))))) rfl ?_
              refine HK 13 rfl (hsub (.cons _ (.cons _ (.cons _ (.cons _ (.refl _)))))) rfl ?_
              refine HY 14 rfl (hsub (.cons _ (.cons _ (.cons _ (.cons _ (.refl _)))))) rfl (y_pick_t rfl rfl) ?_
              refine HY 15 rfl (hsub (.cons _ (.cons _ (.cons _ (.cons _ (.refl _)))))) rfl (y_indexA rfl rfl Try.underlying62 sz_4 (by omega) (by omega) (show _ = 1 from rfl)) ?_
              refine H_one 16 rfl (by kernel_rfl) rfl (op_store1 2 0 rfl rfl rfl sz_4 rfl (Nat.le_of_ble_eq_true rfl) ?_)
              refine ⟨hsub (.cons _ (.cons _ (.cons _ (.cons _ (.refl _))))), ?_⟩
              refine H_done (by kernel_rfl) ?_
              refine C_region ?_
              refine LY rfl (y_add rfl rfl (show _ = (2 : Int) from rfl)) ?_
              refine LY rfl (y_move rfl) (L_nil ?_)
              refine In_round ?_
              refine C_seq (C_region (LY rfl (y_lss rfl rfl) (L_nil (C_seq (C_cond_f rfl (C_exit (C_seq (C_seq (C_region ?_)))))))))
              refine LY rfl (y_indexA rfl rfl Try.underlying62 sz_4 (by omega) (by omega) (show _ = 0 from rfl)) ?_
              refine LY rfl (y_load rfl ag_4 (sees 2 0 rfl) rfl) (LY rfl (y_not rfl) (LY rfl (y_move rfl) ?_))
              refine LY rfl (y_indexA rfl rfl Try.underlying62 sz_4 (by omega) (by omega) (show _ = 1 from rfl)) ?_
              refine LY rfl (y_load rfl ag_4 (sees 2 0 rfl) rfl) (LY rfl (y_not rfl) (LY rfl (y_pick_t rfl rfl) (L_nil (C_cond_f rfl (C_skip (C_seq (C_seq (C_region (LY rfl (y_move rfl) (L_nil (C_block ?_)))))))))))
              refine C_loopIn (In_round ?_)
              refine C_seq (C_region (LY rfl (y_lss rfl rfl) (L_nil (C_seq (C_cond_t rfl (C_skip (C_seq (C_block (C_seq (C_region (LY rfl (y_move rfl) (LY rfl (y_assign rfl) (L_nil (C_seq (C_region (LY rfl (y_move rfl) ?_))))))))))))))))
              refine LY rfl (y_indexA rfl rfl Try.underlying62 sz_4 (by omega) (by omega) (show _ = 0 from rfl)) ?_
              refine LY rfl (y_load rfl ag_4 (sees 2 0 rfl) rfl) (L_nil (C_cond_f rfl (C_region (LY rfl (y_move rfl) (LY rfl (y_move rfl) (LY rfl (y_nilCheck rfl) (LY rfl (y_fieldAddr rfl fl_110_0) ?_)))))))
              refine LY rfl (y_indexA rfl rfl Try.underlying108 sz_107 (by omega) (by omega) (show _ = 0 from rfl)) ?_
              refine LY rfl (y_fieldAddr rfl fl_107_1) (LY rfl (y_load rfl ag_105 (sees 0 0 rfl) rfl) (LY rfl (y_move rfl) ?_))
              refine L_op rfl (op_mapUpdate 0 1 rfl rfl rfl Try.underlying105 Try.underlying3 rfl rfl ?_)
              refine L_nil (C_region ?_)
              refine LY rfl (y_add rfl rfl (show _ = (1 : Int) from rfl)) ?_
              refine LY rfl (y_move rfl) (L_nil ?_)
              refine In_round ?_
              refine C_seq (C_region (LY rfl (y_lss rfl rfl) (L_nil (C_seq (C_cond_t rfl (C_skip (C_seq (C_block (C_seq (C_region (LY rfl (y_move rfl) (LY rfl (y_assign rfl) (L_nil (C_seq (C_region (LY rfl (y_move rfl) ?_))))))))))))))))
              refine LY rfl (y_indexA rfl rfl Try.underlying62 sz_4 (by omega) (by omega) (show _ = 1 from rfl)) ?_
              refine LY rfl (y_load rfl ag_4 (sees 2 0 rfl) rfl) (L_nil (C_cond_t rfl (C_region (LY rfl (y_move rfl) (LY rfl (y_move rfl) (LY rfl (y_nilCheck rfl) (LY rfl (y_fieldAddr rfl fl_110_0) ?_)))))))
              refine LY rfl (y_indexA rfl rfl Try.underlying108 sz_107 (by omega) (by omega) (show _ = 2 from rfl)) ?_
              refine LY rfl (y_fieldAddr rfl fl_107_1) (LY rfl (y_load rfl ag_105 (sees 0 0 rfl) rfl) (LY rfl (y_move rfl) ?_))
              refine L_op rfl (op_delete 0 2 rfl rfl rfl Try.underlying105 Try.underlying3 rfl rfl ?_)
              refine L_nil (C_region ?_)
              refine LY rfl (y_add rfl rfl (show _ = (2 : Int) from rfl)) ?_
              refine LY rfl (y_move rfl) (L_nil ?_)
              refine In_round ?_
              refine C_seq (C_region (LY rfl (y_lss rfl rfl) (L_nil (C_seq (C_cond_f rfl (C_exit (C_seq (C_region (LY rfl (y_assign rfl) (L_nil (C_ret ?_)))))))))))
              refine B_ret (rv_tmp rfl rv_nil) ((hsub (.cons_cons _ (.cons_cons _ (.cons _ (.cons _ (.refl _)))))).trans (hsub_pick [0, 0] rfl)) ?_
              have e0 : putD A ask n s false = false := by simp_all [putD, pd]
              have e1 : putD A ask n s true = true := by simp_all [putD, pd, pA]
              have ea : putA A ask n s = (A.write false n s) := by simp_all [putA, pA]
              have em : putm m A ask n s = m.mark n false true := by simp [putm, hn, e0, e1]
              exact ⟨ret_int (by simp [putE, hn, e0, e1]), D3, h3.to (by simp [putDa, hn, ea]), by rw [em]; rfl⟩
            · skip
              refine HY 6 rfl (hsub (.cons _ (.cons _ (.cons _ (.cons _ (.refl _)))))) rfl (y_move rfl) ?_
              refine HY 7 rfl (hsub (.cons _ (.cons _ (.cons _ (.cons _ (.refl _)))))) rfl (y_nilCheck rfl) ?_
              refine HY 8 rfl (hsub (.cons _ (.cons _ (.cons _ (.cons _ (.refl _)))))) rfl (y_fieldAddr rfl fl_107_0) ?_
              refine HY 10 rfl (hsub (.cons _ (.cons _ (.cons _ (.cons _ (.refl _)))))) rfl (y_move rfl) ?_
              refine H_two 9 11 rfl rfl (by kernel_rfl) rfl rfl ?_ ?_
              · refine op_y (y_load rfl ag_24 (sees 0 0 rfl) rfl) rfl ?_
                refine ⟨hsub (.cons _ (.cons _ (.cons _ (.cons _ (.refl _))))), ?_⟩
                refine H_one 11 rfl (by kernel_rfl) rfl (op_y (y_loadA rfl ag_32 sz_32 (sees 3 0 rfl) (by rw [bs_length, hs]; decide) (bs_whole0 _ hs)) rfl ?_)
                refine ⟨hsub (.cons _ (.cons _ (.cons _ (.cons _ (.refl _))))), ?_⟩
                refine H_one 12 rfl (by kernel_rfl) rfl (op_call rfl rfl (fun a w => Try.call62 a w) rfl ?_)
                refine ((write_d h3 true n s hs (by have := hQ true; have q2 := Da.write_many A false n s true; omega)).sub (hsub_pick [1] rfl)).mono ?_
                rintro _ _ ⟨rfl, D6, h6, rfl⟩
                refine ⟨_, rfl, ?_⟩
                refine ⟨hsub (.cons _ (.cons _ (.cons _ (.cons _ (.refl _))))), ?_⟩
                refine HY 13 rfl (hsub (.cons _ (.cons _ (.cons _ (.cons _ (.refl _)))))) rfl (y_eqi rfl rfl) ?_
                refine H_case 42 rfl (fun hg9_14 => ?_) (fun hg9_14 => ?_)
                · skip
                  refine HY 14 rfl (hsub (.cons _ (.cons _ (.cons _ (.cons _ (.refl _)))))) rfl (y_pick_f rfl rfl) ?_
                  refine HY 15 rfl (hsub (.cons _ (.cons _ (.cons _ (.cons _ (.refl _)))))) rfl (y_indexA rfl rfl Try.underlying62 sz_4 (by omega) (by omega) (show _ = 1 from rfl)) ?_
                  refine H_one 16 rfl (by kernel_rfl) rfl (op_store1 2 0 rfl rfl rfl sz_4 rfl (Nat.le_of_ble_eq_true rfl) ?_)
                  refine ⟨hsub (.cons _ (.cons _ (.cons _ (.cons _ (.refl _))))), ?_⟩
                  refine H_done (by kernel_rfl) ?_
                  refine C_region ?_
                  refine LY rfl (y_add rfl rfl (show _ = (2 : Int) from rfl)) ?_
                  refine LY rfl (y_move rfl) (L_nil ?_)
                  refine In_round ?_
                  refine C_seq (C_region (LY rfl (y_lss rfl rfl) (L_nil (C_seq (C_cond_f rfl (C_exit (C_seq (C_seq (C_region ?_)))))))))
                  refine LY rfl (y_indexA rfl rfl Try.underlying62 sz_4 (by omega) (by omega) (show _ = 0 from rfl)) ?_
                  refine LY rfl (y_load rfl ag_4 (sees 2 0 rfl) rfl) (LY rfl (y_not rfl) (LY rfl (y_move rfl) ?_))
                  refine LY rfl (y_indexA rfl rfl Try.underlying62 sz_4 (by omega) (by omega) (show _ = 1 from rfl)) ?_
                  refine LY rfl (y_load rfl ag_4 (sees 2 0 rfl) rfl) (LY rfl (y_not rfl) (LY rfl (y_pick_t rfl rfl) (L_nil (C_cond_f rfl (C_skip (C_seq (C_seq (C_region (LY rfl (y_move rfl) (L_nil (C_block ?_)))))))))))
                  refine C_loopIn (In_round ?_)
                  refine C_seq (C_region (LY rfl (y_lss rfl rfl) (L_nil (C_seq (C_cond_t rfl (C_skip (C_seq (C_block (C_seq (C_region (LY rfl (y_move rfl) (LY rfl (y_assign rfl) (L_nil (C_seq (C_region (LY rfl (y_move rfl) ?_))))))))))))))))
                  refine LY rfl (y_indexA rfl rfl Try.underlying62 sz_4 (by omega) (by omega) (show _ = 0 from rfl)) ?_
                  refine LY rfl (y_load rfl ag_4 (sees 2 0 rfl) rfl) (L_nil (C_cond_f rfl (C_region (LY rfl (y_move rfl) (LY rfl (y_move rfl) (LY rfl (y_nilCheck rfl) (LY rfl (y_fieldAddr rfl fl_110_0) ?_)))))))
                  refine LY rfl (y_indexA rfl rfl Try.underlying108 sz_107 (by omega) (by omega) (show _ = 0 from rfl)) ?_
                  refine LY rfl (y_fieldAddr rfl fl_107_1) (LY rfl (y_load rfl ag_105 (sees 1 0 rfl) rfl) (LY rfl (y_move rfl) ?_))
                  refine L_op rfl (op_mapUpdate 1 1 rfl rfl rfl Try.underlying105 Try.underlying3 rfl rfl ?_)
                  refine L_nil (C_region ?_)
                  refine LY rfl (y_add rfl rfl (show _ = (1 : Int) from rfl)) ?_
                  refine LY rfl (y_move rfl) (L_nil ?_)
                  refine In_round ?_
                  refine C_seq (C_region (LY rfl (y_lss rfl rfl) (L_nil (C_seq (C_cond_t rfl (C_skip (C_seq (C_block (C_seq (C_region (LY rfl (y_move rfl) (LY rfl (y_assign rfl) (L_nil (C_seq (C_region (LY rfl (y_move rfl) ?_))))))))))))))))
                  refine LY rfl (y_indexA rfl rfl Try.underlying62 sz_4 (by omega) (by omega) (show _ = 1 from rfl)) ?_
                  refine LY rfl (y_load rfl ag_4 (sees 2 0 rfl) rfl) (L_nil (C_cond_t rfl (C_region (LY rfl (y_move rfl) (LY rfl (y_move rfl) (LY rfl (y_nilCheck rfl) (LY rfl (y_fieldAddr rfl fl_110_0) ?_)))))))
                  refine LY rfl (y_indexA rfl rfl Try.underlying108 sz_107 (by omega) (by omega) (show _ = 2 from rfl)) ?_
                  refine LY rfl (y_fieldAddr rfl fl_107_1) (LY rfl (y_load rfl ag_105 (sees 1 0 rfl) rfl) (LY rfl (y_move rfl) ?_))
                  refine L_op rfl (op_delete 1 2 rfl rfl rfl Try.underlying105 Try.underlying3 rfl rfl ?_)
                  refine L_nil (C_region ?_)
                  refine LY rfl (y_add rfl rfl (show _ = (2 : Int) from rfl)) ?_
                  refine LY rfl (y_move rfl) (L_nil ?_)
                  refine In_round ?_
                  refine C_seq (C_region (LY rfl (y_lss rfl rfl) (L_nil (C_seq (C_cond_f rfl (C_exit (C_seq (C_region (LY rfl (y_assign rfl) (L_nil (C_ret ?_)))))))))))
                  refine B_ret (rv_tmp rfl rv_nil) ((hsub (.cons_cons _ (.cons_cons _ (.cons _ (.cons _ (.refl _)))))).trans (hsub_pick [1, 0] rfl)) ?_
                  have e0 : putD A ask n s false = false := by simp_all [putD, pd]
                  have e1 : putD A ask n s true = true := by simp_all [putD, pd, pA]
                  have ea : putA A ask n s = ((A.write false n s).write true n s) := by simp_all [putA, pA]
                  have em : putm m A ask n s = m.mark n false true := by simp [putm, hn, e0, e1]
                  exact ⟨ret_int (by simp [putE, hn, e0, e1]), D6, h6.to (by simp [putDa, hn, ea]), by rw [em]; rfl⟩
                · skip
                  refine HY 14 rfl (hsub (.cons _ (.cons _ (.cons _ (.cons _ (.refl _)))))) rfl (y_pick_f rfl rfl) ?_
                  refine HY 15 rfl (hsub (.cons _ (.cons _ (.cons _ (.cons _ (.refl _)))))) rfl (y_indexA rfl rfl Try.underlying62 sz_4 (by omega) (by omega) (show _ = 1 from rfl)) ?_
                  refine H_one 16 rfl (by kernel_rfl) rfl (op_store1 2 0 rfl rfl rfl sz_4 rfl (Nat.le_of_ble_eq_true rfl) ?_)
                  refine ⟨hsub (.cons _ (.cons _ (.cons _ (.cons _ (.refl _))))), ?_⟩
                  refine H_done (by kernel_rfl) ?_
                  refine C_region ?_
                  refine LY rfl (y_add rfl rfl (show _ = (2 : Int) from rfl)) ?_
                  refine LY rfl (y_move rfl) (L_nil ?_)
                  refine In_round ?_
                  refine C_seq (C_region (LY rfl (y_lss rfl rfl) (L_nil (C_seq (C_cond_f rfl (C_exit (C_seq (C_seq (C_region ?_)))))))))
                  refine LY rfl (y_indexA rfl rfl Try.underlying62 sz_4 (by omega) (by omega) (show _ = 0 from rfl)) ?_
                  refine LY rfl (y_load rfl ag_4 (sees 2 0 rfl) rfl) (LY rfl (y_not rfl) (LY rfl (y_move rfl) ?_))
                  refine LY rfl (y_indexA rfl rfl Try.underlying62 sz_4 (by omega) (by omega) (show _ = 1 from rfl)) ?_
                  refine LY rfl (y_load rfl ag_4 (sees 2 0 rfl) rfl) (LY rfl (y_not rfl) (LY rfl (y_pick_t rfl rfl) (L_nil (C_cond_t rfl (C_seq (C_region (LY rfl (y_assign rfl) (L_nil (C_ret ?_)))))))))
                  refine B_ret (rv_tmp rfl rv_nil) ((hsub (.cons_cons _ (.cons_cons _ (.cons _ (.cons _ (.refl _)))))).trans (hsub_pick [1, 0] rfl)) ?_
                  have e0 : putD A ask n s false = false := by simp_all [putD, pd]
                  have e1 : putD A ask n s true = false := by simp_all [putD, pd, pA]
                  have ea : putA A ask n s = ((A.write false n s).write true n s) := by simp_all [putA, pA]
                  have em : putm m A ask n s = m := by simp [putm, hn, e0, e1]
                  exact ⟨ret_int (by simp [putE, hn, e0, e1]), D6, h6.to (by simp [putDa, hn, ea]), by rw [em]; rfl⟩
              · refine op_y (y_loadA rfl ag_32 sz_32 (sees 3 0 rfl) (by rw [bs_length, hs]; decide) (bs_whole0 _ hs)) rfl ?_
                refine ⟨hsub (.cons _ (.cons _ (.cons _ (.cons _ (.refl _))))), ?_⟩
                refine H_one 9 rfl (by kernel_rfl) rfl (op_y (y_load rfl ag_24 (sees 0 0 rfl) rfl) rfl ?_)
                refine ⟨hsub (.cons _ (.cons _ (.cons _ (.cons _ (.refl _))))), ?_⟩
                refine H_one 12 rfl (by kernel_rfl) rfl (op_call rfl rfl (fun a w => Try.call62 a w) rfl ?_)
                refine ((write_d h3 true n s hs (by have := hQ true; have q2 := Da.write_many A false n s true; omega)).sub (hsub_pick [1] rfl)).mono ?_
                rintro _ _ ⟨rfl, D7, h7, rfl⟩
                refine ⟨_, rfl, ?_⟩
                refine ⟨hsub (.cons _ (.cons _ (.cons _ (.cons _ (.refl _))))), ?_⟩
                refine HY 13 rfl (hsub (.cons _ (.cons _ (.cons _ (.cons _ (.refl _)))))) rfl (y_eqi rfl rfl) ?_
                refine H_case 42 rfl (fun hg9_14 => ?_) (fun hg9_14 => ?_)
                · skip
                  refine HY 14 rfl (hsub (.cons _ (.cons _ (.cons _ (.cons _ (.refl _)))))) rfl (y_pick_f rfl rfl) ?_
                  refine HY 15 rfl (hsub (.cons _ (.cons _ (.cons _ (.cons _ (.refl _)))))) rfl (y_indexA rfl rfl Try.underlying62 sz_4 (by omega) (by omega) (show _ = 1 from rfl)) ?_
                  refine H_one 16 rfl (by kernel_rfl) rfl (op_store1 2 0 rfl rfl rfl sz_4 rfl (Nat.le_of_ble_eq_true rfl) ?_)
                  refine ⟨hsub (.cons _ (.cons _ (.cons _ (.cons _ (.refl _))))), ?_⟩
                  refine H_done (by kernel_rfl) ?_
                  refine C_region ?_
                  refine LY rfl (y_add rfl rfl (show _ = (2 : Int) from rfl)) ?_
                  refine LY rfl (y_move rfl) (L_nil ?_)
                  refine In_round ?_
                  refine C_seq (C_region (LY rfl (y_lss rfl rfl) (L_nil (C_seq (C_cond_f rfl (C_exit (C_seq (C_seq (C_region ?_)))))))))
                  refine LY rfl (y_indexA rfl rfl Try.underlying62 sz_4 (by omega) (by omega) (show _ = 0 from rfl)) ?_
                  refine LY rfl (y_load rfl ag_4 (sees 2 0 rfl) rfl) (LY rfl (y_not rfl) (LY rfl (y_move rfl) ?_))
                  refine LY rfl (y_indexA rfl rfl Try.underlying62 sz_4 (by omega) (by omega) (show _ = 1 from rfl)) ?_
                  refine LY rfl (y_load rfl ag_4 (sees 2 0 rfl) rfl) (LY rfl (y_not rfl) (LY rfl (y_pick_t rfl rfl) (L_nil (C_cond_f rfl (C_skip (C_seq (C_seq (C_region (LY rfl (y_move rfl) (L_nil (C_block ?_)))))))))))
                  refine C_loopIn (In_round ?_)
                  refine C_seq (C_region (LY rfl (y_lss rfl rfl) (L_nil (C_seq (C_cond_t rfl (C_skip (C_seq (C_block (C_seq (C_region (LY rfl (y_move rfl) (LY rfl (y_assign rfl) (L_nil (C_seq (C_region (LY rfl (y_move rfl) ?_))))))))))))))))
                  refine LY rfl (y_indexA rfl rfl Try.underlying62 sz_4 (by omega) (by omega) (show _ = 0 from rfl)) ?_
                  refine LY rfl (y_load rfl ag_4 (sees 2 0 rfl) rfl) (L_nil (C_cond_f rfl (C_region (LY rfl (y_move rfl) (LY rfl (y_move rfl) (LY rfl (y_nilCheck rfl) (LY rfl (y_fieldAddr rfl fl_110_0) ?_)))))))
                  refine LY rfl (y_indexA rfl rfl Try.underlying108 sz_107 (by omega) (by omega) (show _ = 0 from rfl)) ?_
                  refine LY rfl (y_fieldAddr rfl fl_107_1) (LY rfl (y_load rfl ag_105 (sees 1 0 rfl) rfl) (LY rfl (y_move rfl) ?_))
                  refine L_op rfl (op_mapUpdate 1 1 rfl rfl rfl Try.underlying105 Try.underlying3 rfl rfl ?_)
                  refine L_nil (C_region ?_)
                  refine LY rfl (y_add rfl rfl (show _ = (1 : Int) from rfl)) ?_
                  refine LY rfl (y_move rfl) (L_nil ?_)
                  refine In_round ?_
                  refine C_seq (C_region (LY rfl (y_lss rfl rfl) (L_nil (C_seq (C_cond_t rfl (C_skip (C_seq (C_block (C_seq (C_region (LY rfl (y_move rfl) (LY rfl (y_assign rfl) (L_nil (C_seq (C_region (LY rfl (y_move rfl) ?_))))))))))))))))
                  refine LY rfl (y_indexA rfl rfl Try.underlying62 sz_4 (by omega) (by omega) (show _ = 1 from rfl)) ?_
                  refine LY rfl (y_load rfl ag_4 (sees 2 0 rfl) rfl) (L_nil (C_cond_t rfl (C_region (LY rfl (y_move rfl) (LY rfl (y_move rfl) (LY rfl (y_nilCheck rfl) (LY rfl (y_fieldAddr rfl fl_110_0) ?_)))))))
                  refine LY rfl (y_indexA rfl rfl Try.underlying108 sz_107 (by omega) (by omega) (show _ = 2 from rfl)) ?_
                  refine LY rfl (y_fieldAddr rfl fl_107_1) (LY rfl (y_load rfl ag_105 (sees 1 0 rfl) rfl) (LY rfl (y_move rfl) ?_))
                  refine L_op rfl (op_delete 1 2 rfl rfl rfl Try.underlying105 Try.underlying3 rfl rfl ?_)
                  refine L_nil (C_region ?_)
                  refine LY rfl (y_add rfl rfl (show _ = (2 : Int) from rfl)) ?_
                  refine LY rfl (y_move rfl) (L_nil ?_)
                  refine In_round ?_
                  refine C_seq (C_region (LY rfl (y_lss rfl rfl) (L_nil (C_seq (C_cond_f rfl (C_exit (C_seq (C_region (LY rfl (y_assign rfl) (L_nil (C_ret ?_)))))))))))
                  refine B_ret (rv_tmp rfl rv_nil) ((hsub (.cons_cons _ (.cons_cons _ (.cons _ (.cons _ (.refl _)))))).trans (hsub_pick [1, 0] rfl)) ?_
                  have e0 : putD A ask n s false = false := by simp_all [putD, pd]
                  have e1 : putD A ask n s true = true := by simp_all [putD, pd, pA]
                  have ea : putA A ask n s = ((A.write false n s).write true n s) := by simp_all [putA, pA]
                  have em : putm m A ask n s = m.mark n false true := by simp [putm, hn, e0, e1]
                  exact ⟨ret_int (by simp [putE, hn, e0, e1]), D7, h7.to (by simp [putDa, hn, ea]), by rw [em]; rfl⟩
                · skip
                  refine HY 14 rfl (hsub (.cons _ (.cons _ (.cons _ (.cons _ (.refl _)))))) rfl (y_pick_f rfl rfl) ?_
                  refine HY 15 rfl (hsub (.cons _ (.cons _ (.cons _ (.cons _ (.refl _)))))) rfl (y_indexA rfl rfl Try.underlying62 sz_4 (by omega) (by omega) (show _ = 1 from rfl)) ?_
                  refine H_one 16 rfl (by kernel_rfl) rfl (op_store1 2 0 rfl rfl rfl sz_4 rfl (Nat.le_of_ble_eq_true rfl) ?_)
                  refine ⟨hsub (.cons _ (.cons _ (.cons _ (.cons _ (.refl _))))), ?_⟩
                  refine H_done (by kernel_rfl) ?_
                  refine C_region ?_
                  refine LY rfl (y_add rfl rfl (show _ = (2 : Int) from rfl)) ?_
                  refine LY rfl (y_move rfl) (L_nil ?_)
                  refine In_round ?_
                  refine C_seq (C_region (LY rfl (y_lss rfl rfl) (L_nil (C_seq (C_cond_f rfl (C_exit (C_seq (C_seq (C_region ?_)))))))))
                  refine LY rfl (y_indexA rfl rfl Try.underlying62 sz_4 (by omega) (by omega) (show _ = 0 from rfl)) ?_
                  refine LY rfl (y_load rfl ag_4 (sees 2 0 rfl) rfl) (LY rfl (y_not rfl) (LY rfl (y_move rfl) ?_))
                  refine LY rfl (y_indexA rfl rfl Try.underlying62 sz_4 (by omega) (by omega) (show _ = 1 from rfl)) ?_
                  refine LY rfl (y_load rfl ag_4 (sees 2 0 rfl) rfl) (LY rfl (y_not rfl) (LY rfl (y_pick_t rfl rfl) (L_nil (C_cond_t rfl (C_seq (C_region (LY rfl (y_assign rfl) (L_nil (C_ret ?_)))))))))
                  refine B_ret (rv_tmp rfl rv_nil) ((hsub (.cons_cons _ (.cons_cons _ (.cons _ (.cons _ (.refl _)))))).trans (hsub_pick [1, 0] rfl)) ?_
                  have e0 : putD A ask n s false = false := by simp_all [putD, pd]
                  have e1 : putD A ask n s true = false := by simp_all [putD, pd, pA]
                  have ea : putA A ask n s = ((A.write false n s).write true n s) := by simp_all [putA, pA]
                  have em : putm m A ask n s = m := by simp [putm, hn, e0, e1]
                  exact ⟨ret_int (by simp [putE, hn, e0, e1]), D7, h7.to (by simp [putDa, hn, ea]), by rw [em]; rfl⟩
          · skip
            refine C_skip (C_region ?_)
            refine LY rfl (y_add rfl rfl (show _ = (2 : Int) from rfl)) ?_
            refine LY rfl (y_move rfl) (L_nil ?_)
            refine In_round ?_
            refine C_seq (C_region (LY rfl (y_lss rfl rfl) (L_nil (C_seq (C_cond_f rfl (C_exit (C_seq (C_seq (C_region ?_)))))))))
            refine LY rfl (y_indexA rfl rfl Try.underlying62 sz_4 (by omega) (by omega) (show _ = 0 from rfl)) ?_
            refine LY rfl (y_load rfl ag_4 (sees 2 0 rfl) rfl) (LY rfl (y_not rfl) (LY rfl (y_move rfl) ?_))
            refine LY rfl (y_indexA rfl rfl Try.underlying62 sz_4 (by omega) (by omega) (show _ = 1 from rfl)) ?_
            refine LY rfl (y_load rfl ag_4 (sees 2 0 rfl) rfl) (LY rfl (y_not rfl) (LY rfl (y_pick_t rfl rfl) (L_nil (C_cond_t rfl (C_seq (C_region (LY rfl (y_assign rfl) (L_nil (C_ret ?_)))))))))
            refine B_ret (rv_tmp rfl rv_nil) ((hsub (.cons_cons _ (.cons_cons _ (.cons _ (.cons _ (.refl _)))))).trans (hsub_pick [1, 0] rfl)) ?_
            have e0 : putD A ask n s false = false := by simp_all [putD, pd]
            have e1 : putD A ask n s true = false := by simp_all [putD, pd, pA]
            have ea : putA A ask n s = (A.write false n s) := by simp_all [putA, pA]
            have em : putm m A ask n s = m := by simp [putm, hn, e0, e1]
            exact ⟨ret_int (by simp [putE, hn, e0, e1]), D3, h3.to (by simp [putDa, hn, ea]), by rw [em]; rfl⟩
      · refine op_y (y_loadA rfl ag_32 sz_32 (sees 3 0 rfl) (by rw [bs_length, hs]; decide) (bs_whole0 _ hs)) rfl ?_
        refine ⟨hsub (.cons _ (.cons _ (.cons _ (.cons _ (.refl _))))), ?_⟩
        refine H_one 9 rfl (by kernel_rfl) rfl (op_y (y_load rfl ag_24 (sees 0 0 rfl) rfl) rfl ?_)
        refine ⟨hsub (.cons _ (.cons _ (.cons _ (.cons _ (.refl _))))), ?_⟩
        refine H_one 12 rfl (by kernel_rfl) rfl (op_call rfl rfl (fun a w => Try.call62 a w) rfl ?_)
        refine ((write_d h false n s hs (by have := hQ false; omega)).sub (hsub_pick [1] rfl)).mono ?_
        rintro _ _ ⟨rfl, D8, h8, rfl⟩
        refine ⟨_, rfl, ?_⟩
        refine ⟨hsub (.cons _ (.cons _ (.cons _ (.cons _ (.refl _))))), ?_⟩
        refine HY 13 rfl (hsub (.cons _ (.cons _ (.cons _ (.cons _ (.refl _)))))) rfl (y_eqi rfl rfl) ?_
        refine H_case 42 rfl (fun hg9_14 => ?_) (fun hg9_14 => ?_)
        · skip
          refine HY 14 rfl (hsub (.cons _ (.cons _ (.cons _ (.cons _ (.refl _)))))) rfl (y_pick_f rfl rfl) ?_
          refine HY 15 rfl (hsub (.cons _ (.cons _ (.cons _ (.cons _ (.refl _)))))) rfl (y_indexA rfl rfl Try.underlying62 sz_4 (by omega) (by omega) (show _ = 0 from rfl)) ?_
          refine H_one 16 rfl (by kernel_rfl) rfl (op_store1 2 0 rfl rfl rfl sz_4 rfl (Nat.le_of_ble_eq_true rfl) ?_)
          refine ⟨hsub (.cons _ (.cons _ (.cons _ (.cons _ (.refl _))))), ?_⟩
          refine H_done (by kernel_rfl) ?_
          refine C_region ?_
          refine LY rfl (y_add rfl rfl (show _ = (1 : Int) from rfl)) ?_
          refine LY rfl (y_move rfl) (L_nil ?_)
          refine In_round ?_
          refine C_seq (C_region (LY rfl (y_lss rfl rfl) (L_nil (C_seq (C_cond_t rfl (C_skip (C_seq (C_block (C_seq (C_region (LY rfl (y_move rfl) (LY rfl (y_assign rfl) (L_nil (C_seq (C_region (LY rfl (y_move rfl) (LY rfl (y_move rfl) (LY rfl (y_nilCheck rfl) (LY rfl (y_fieldAddr rfl fl_110_0) ?_)))))))))))))))))))
          refine LY rfl (y_indexA rfl rfl Try.underlying108 sz_107 (by omega) (by omega) (show _ = 2 from rfl)) ?_
          refine LY rfl (y_assign rfl) (L_nil (C_seq (C_region (LY rfl (y_move rfl) (LY rfl (y_nilCheck rfl) ?_)))))
          refine LY rfl (y_loadA rfl ag_107 sz_107 (sees 1 0 rfl) (Nat.le_of_ble_eq_true rfl) rfl) ?_
          refine L_op rfl (op_call rfl rfl (fun a w => Try.call53 a w) rfl ?_)
          refine ((there_d h8 true).sub (hsub_pick [0] rfl)).mono ?_
          rintro _ _ ⟨rfl, rfl⟩
          refine ⟨_, rfl, ?_⟩
          refine L_nil ?_
          refine C_cond rfl (fun hc2 => ?_) (fun hc2 => ?_)
          · skip
            refine C_regionH H (by kernel_rfl) ?_
            refine HY 0 rfl (hsub (.cons _ (.cons _ (.cons _ (.cons _ (.refl _)))))) rfl (y_move rfl) ?_
            refine HY 1 rfl (hsub (.cons _ (.cons _ (.cons _ (.cons _ (.refl _)))))) rfl (y_move rfl) ?_
            refine HY 2 rfl (hsub (.cons _ (.cons _ (.cons _ (.cons _ (.refl _)))))) rfl (y_move rfl) ?_
            refine H_one 3 rfl (by kernel_rfl) rfl (op_call (f := fa) (first := []) (cap := cap) rfl rfl hask.1 rfl ?_)
            refine FnS.mono (FnS.sub (hsub_pick [1, 0] rfl) (hask.2 true _ _ _ h8 (hsub (.cons _ (.cons _ (.refl _)))))) ?_
            rintro _ _ ⟨rfl, rfl⟩
            refine ⟨_, rfl, ?_⟩
            refine ⟨hsub (.cons _ (.cons _ (.cons _ (.cons _ (.refl _))))), ?_⟩
            refine HY 4 rfl (hsub (.cons _ (.cons _ (.cons _ (.cons _ (.refl _)))))) rfl (y_not rfl) ?_
            refine HY 5 rfl (hsub (.cons _ (.cons _ (.cons _ (.cons _ (.refl _)))))) rfl (y_move rfl) ?_
            refine H_case 34 rfl (fun hg9_6 => ?_) (fun hg9_6 => ?_)
            · skip
              refine HK 6 rfl (hsub (.cons _ (.cons _ (.cons _ (.cons _ (.refl _)))))) rfl ?_
              refine HK 7 rfl (hsub (.cons _ (.cons _ (.cons _ (.cons _ (.refl _)))))) rfl ?_
              refine HK 8 rfl (hsub (.cons _ (.cons _ (.cons _ (.cons _ (.refl _)))))) rfl ?_
              refine HK 9 rfl (hsub (.cons _ (.cons _ (.cons _ (.cons _ (.refl _)))))) rfl ?_
              refine HK 10 rfl (hsub (.cons _ (.cons _ (.cons _ (.cons _ (.refl _)))))) rfl ?_
              refine HK 11 rfl (hsub (.cons _ (.cons _ (.cons _ (.cons _ (.refl _)))))) rfl ?_
              refine HK 12 rfl (hsub (.cons _ (.cons _ (.cons _ (.cons _ (.refl _)))))) rfl ?_
              refine HK 13 rfl (hsub (.cons _ (.cons _ (.cons _ (.cons _ (.refl _)))))) rfl ?_
              refine HY 14 rfl (hsub (.cons _ (.cons _ (.cons _ (.cons _ (.refl _)))))) rfl (y_pick_t rfl rfl) ?_
              refine HY 15 rfl (hsub (.cons _ (.cons _ (.cons _ (.cons _ (.refl _)))))) rfl (y_indexA rfl rfl Try.underlying62 sz_4 (by omega) (by omega) (show _ = 1 from rfl)) ?_
              refine H_one 16 rfl (by kernel_rfl) rfl (op_store1 2 0 rfl rfl rfl sz_4 rfl (Nat.le_of_ble_eq_true rfl) ?_)
              refine ⟨hsub (.cons _ (.cons _ (.cons _ (.cons _ (.refl _))))), ?_⟩
              refine H_done (by kernel_rfl) ?_
              refine C_region ?_
              refine LY rfl (y_add rfl rfl (show _ = (2 : Int) from rfl)) ?_
              refine LY rfl (y_move rfl) (L_nil ?_)
              refine In_round ?_
              refine C_seq (C_region (LY rfl (y_lss rfl rfl) (L_nil (C_seq (C_cond_f rfl (C_exit (C_seq (C_seq (C_region ?_)))))))))
              refine LY rfl (y_indexA rfl rfl Try.underlying62 sz_4 (by omega) (by omega) (show _ = 0 from rfl)) ?_
              refine LY rfl (y_load rfl ag_4 (sees 2 0 rfl) rfl) (LY rfl (y_not rfl) (LY rfl (y_move rfl) (L_skip rfl rfl (L_skip rfl rfl (L_skip rfl rfl (LY rfl (y_pick_f rfl rfl) (L_nil (C_cond_f rfl (C_skip (C_seq (C_seq (C_region (LY rfl (y_move rfl) (L_nil (C_block ?_)))))))))))))))
              refine C_loopIn (In_round ?_)
              refine C_seq (C_region (LY rfl (y_lss rfl rfl) (L_nil (C_seq (C_cond_t rfl (C_skip (C_seq (C_block (C_seq (C_region (LY rfl (y_move rfl) (LY rfl (y_assign rfl) (L_nil (C_seq (C_region (LY rfl (y_move rfl) ?_))))))))))))))))
              refine LY rfl (y_indexA rfl rfl Try.underlying62 sz_4 (by omega) (by omega) (show _ = 0 from rfl)) ?_
              refine LY rfl (y_load rfl ag_4 (sees 2 0 rfl) rfl) (L_nil (C_cond_t rfl (C_region (LY rfl (y_move rfl) (LY rfl (y_move rfl) (LY rfl (y_nilCheck rfl) (LY rfl (y_fieldAddr rfl fl_110_0) ?_)))))))
              refine LY rfl (y_indexA rfl rfl Try.underlying108 sz_107 (by omega) (by omega) (show _ = 0 from rfl)) ?_
              refine LY rfl (y_fieldAddr rfl fl_107_1) (LY rfl (y_load rfl ag_105 (sees 0 0 rfl) rfl) (LY rfl (y_move rfl) ?_))
              refine L_op rfl (op_delete 0 1 rfl rfl rfl Try.underlying105 Try.underlying3 rfl rfl ?_)
              refine L_nil (C_region ?_)
              refine LY rfl (y_add rfl rfl (show _ = (1 : Int) from rfl)) ?_
              refine LY rfl (y_move rfl) (L_nil ?_)
              refine In_round ?_
              refine C_seq (C_region (LY rfl (y_lss rfl rfl) (L_nil (C_seq (C_cond_t rfl (C_skip (C_seq (C_block (C_seq (C_region (LY rfl (y_move rfl) (LY rfl (y_assign rfl) (L_nil (C_seq (C_region (LY rfl (y_move rfl) ?_))))))))))))))))
              refine LY rfl (y_indexA rfl rfl Try.underlying62 sz_4 (by omega) (by omega) (show _ = 1 from rfl)) ?_
              refine LY rfl (y_load rfl ag_4 (sees 2 0 rfl) rfl) (L_nil (C_cond_t rfl (C_region (LY rfl (y_move rfl) (LY rfl (y_move rfl) (LY rfl (y_nilCheck rfl) (LY rfl (y_fieldAddr rfl fl_110_0) ?_)))))))
              refine LY rfl (y_indexA rfl rfl Try.underlying108 sz_107 (by omega) (by omega) (show _ = 2 from rfl)) ?_
              refine LY rfl (y_fieldAddr rfl fl_107_1) (LY rfl (y_load rfl ag_105 (sees 0 0 rfl) rfl) (LY rfl (y_move rfl) ?_))
              refine L_op rfl (op_delete 0 2 rfl rfl rfl Try.underlying105 Try.underlying3 rfl rfl ?_)
              refine L_nil (C_region ?_)
              refine LY rfl (y_add rfl rfl (show _ = (2 : Int) from rfl)) ?_
              refine LY rfl (y_move rfl) (L_nil ?_)
              refine In_round ?_
              refine C_seq (C_region (LY rfl (y_lss rfl rfl) (L_nil (C_seq (C_cond_f rfl (C_exit (C_seq (C_region (LY rfl (y_assign rfl) (L_nil (C_ret ?_)))))))))))
              refine B_ret (rv_tmp rfl rv_nil) ((hsub (.cons_cons _ (.cons_cons _ (.cons _ (.cons _ (.refl _)))))).trans (hsub_pick [0, 0] rfl)) ?_
              have e0 : putD A ask n s false = true := by simp_all [putD, pd]
              have e1 : putD A ask n s true = true := by simp_all [putD, pd, pA]
              have ea : putA A ask n s = (A.write false n s) := by simp_all [putA, pA]
              have em : putm m A ask n s = m.mark n true true := by simp [putm, hn, e0, e1]
              exact ⟨ret_int (by simp [putE, hn, e0, e1]), D8, h8.to (by simp [putDa, hn, ea]), by rw [em]; rfl⟩
            · skip
              refine HY 6 rfl (hsub (.cons _ (.cons _ (.cons _ (.cons _ (.refl _)))))) rfl (y_move rfl) ?_
              refine HY 7 rfl (hsub (.cons _ (.cons _ (.cons _ (.cons _ (.refl _)))))) rfl (y_nilCheck rfl) ?_
              refine HY 8 rfl (hsub (.cons _ (.cons _ (.cons _ (.cons _ (.refl _)))))) rfl (y_fieldAddr rfl fl_107_0) ?_
              refine HY 10 rfl (hsub (.cons _ (.cons _ (.cons _ (.cons _ (.refl _)))))) rfl (y_move rfl) ?_
              refine H_two 9 11 rfl rfl (by kernel_rfl) rfl rfl ?_ ?_
              · refine op_y (y_load rfl ag_24 (sees 0 0 rfl) rfl) rfl ?_
                refine ⟨hsub (.cons _ (.cons _ (.cons _ (.cons _ (.refl _))))), ?_⟩
                refine H_one 11 rfl (by kernel_rfl) rfl (op_y (y_loadA rfl ag_32 sz_32 (sees 3 0 rfl) (by rw [bs_length, hs]; decide) (bs_whole0 _ hs)) rfl ?_)
                refine ⟨hsub (.cons _ (.cons _ (.cons _ (.cons _ (.refl _))))), ?_⟩
                refine H_one 12 rfl (by kernel_rfl) rfl (op_call rfl rfl (fun a w => Try.call62 a w) rfl ?_)
                refine ((write_d h8 true n s hs (by have := hQ true; have q2 := Da.write_many A false n s true; omega)).sub (hsub_pick [1] rfl)).mono ?_
                rintro _ _ ⟨rfl, D9, h9, rfl⟩
                refine ⟨_, rfl, ?_⟩
                refine ⟨hsub (.cons _ (.cons _ (.cons _ (.cons _ (.refl _))))), ?_⟩
                refine HY 13 rfl (hsub (.cons _ (.cons _ (.cons _ (.cons _ (.refl _)))))) rfl (y_eqi rfl rfl) ?_
                refine H_case 42 rfl (fun hg9_14 => ?_) (fun hg9_14 => ?_)
                · skip
                  refine HY 14 rfl (hsub (.cons _ (.cons _ (.cons _ (.cons _ (.refl _)))))) rfl (y_pick_f rfl rfl) ?_
                  refine HY 15 rfl (hsub (.cons _ (.cons _ (.cons _ (.cons _ (.refl _)))))) rfl (y_indexA rfl rfl Try.underlying62 sz_4 (by omega) (by omega) (show _ = 1 from rfl)) ?_
                  refine H_one 16 rfl (by kernel_rfl) rfl (op_store1 2 0 rfl rfl rfl sz_4 rfl (Nat.le_of_ble_eq_true rfl) ?_)
                  refine ⟨hsub (.cons _ (.cons _ (.cons _ (.cons _ (.refl _))))), ?_⟩
                  refine H_done (by kernel_rfl) ?_
                  refine C_region ?_
                  refine LY rfl (y_add rfl rfl (show _ = (2 : Int) from rfl)) ?_
                  refine LY rfl (y_move rfl) (L_nil ?_)
                  refine In_round ?_
                  refine C_seq (C_region (LY rfl (y_lss rfl rfl) (L_nil (C_seq (C_cond_f rfl (C_exit (C_seq (C_seq (C_region ?_)))))))))
                  refine LY rfl (y_indexA rfl rfl Try.underlying62 sz_4 (by omega) (by omega) (show _ = 0 from rfl)) ?_
                  refine LY rfl (y_load rfl ag_4 (sees 2 0 rfl) rfl) (LY rfl (y_not rfl) (LY rfl (y_move rfl) (L_skip rfl rfl (L_skip rfl rfl (L_skip rfl rfl (LY rfl (y_pick_f rfl rfl) (L_nil (C_cond_f rfl (C_skip (C_seq (C_seq (C_region (LY rfl (y_move rfl) (L_nil (C_block ?_)))))))))))))))
                  refine C_loopIn (In_round ?_)
                  refine C_seq (C_region (LY rfl (y_lss rfl rfl) (L_nil (C_seq (C_cond_t rfl (C_skip (C_seq (C_block (C_seq (C_region (LY rfl (y_move rfl) (LY rfl (y_assign rfl) (L_nil (C_seq (C_region (LY rfl (y_move rfl) ?_))))))))))))))))
                  refine LY rfl (y_indexA rfl rfl Try.underlying62 sz_4 (by omega) (by omega) (show _ = 0 from rfl)) ?_
                  refine LY rfl (y_load rfl ag_4 (sees 2 0 rfl) rfl) (L_nil (C_cond_t rfl (C_region (LY rfl (y_move rfl) (LY rfl (y_move rfl) (LY rfl (y_nilCheck rfl) (LY rfl (y_fieldAddr rfl fl_110_0) ?_)))))))
                  refine LY rfl (y_indexA rfl rfl Try.underlying108 sz_107 (by omega) (by omega) (show _ = 0 from rfl)) ?_
                  refine LY rfl (y_fieldAddr rfl fl_107_1) (LY rfl (y_load rfl ag_105 (sees 1 0 rfl) rfl) (LY rfl (y_move rfl) ?_))
                  refine L_op rfl (op_delete 1 1 rfl rfl rfl Try.underlying105 Try.underlying3 rfl rfl ?_)
                  refine L_nil (C_region ?_)
                  refine LY rfl (y_add rfl rfl (show _ = (1 : Int) from rfl)) ?_
                  refine LY rfl (y_move rfl) (L_nil ?_)
                  refine In_round ?_
                  refine C_seq (C_region (LY rfl (y_lss rfl rfl) (L_nil (C_seq (C_cond_t rfl (C_skip (C_seq (C_block (C_seq (C_region (LY rfl (y_move rfl) (LY rfl (y_assign rfl) (L_nil (C_seq (C_region (LY rfl (y_move rfl) ?_))))))))))))))))
                  refine LY rfl (y_indexA rfl rfl Try.underlying62 sz_4 (by omega) (by omega) (show _ = 1 from rfl)) ?_
                  refine LY rfl (y_load rfl ag_4 (sees 2 0 rfl) rfl) (L_nil (C_cond_t rfl (C_region (LY rfl (y_move rfl) (LY rfl (y_move rfl) (LY rfl (y_nilCheck rfl) (LY rfl (y_fieldAddr rfl fl_110_0) ?_)))))))
                  refine LY rfl (y_indexA rfl rfl Try.underlying108 sz_107 (by omega) (by omega) (show _ = 2 from rfl)) ?_
                  refine LY rfl (y_fieldAddr rfl fl_107_1) (LY rfl (y_load rfl ag_105 (sees 1 0 rfl) rfl) (LY rfl (y_move rfl) ?_))
                  refine L_op rfl (op_delete 1 2 rfl rfl rfl Try.underlying105 Try.underlying3 rfl rfl ?_)
                  refine L_nil (C_region ?_)
                  refine LY rfl (y_add rfl rfl (show _ = (2 : Int) from rfl)) ?_
                  refine LY rfl (y_move rfl) (L_nil ?_)
                  refine In_round ?_
                  refine C_seq (C_region (LY rfl (y_lss rfl rfl) (L_nil (C_seq (C_cond_f rfl (C_exit (C_seq (C_region (LY rfl (y_assign rfl) (L_nil (C_ret ?_)))))))))))
                  refine B_ret (rv_tmp rfl rv_nil) ((hsub (.cons_cons _ (.cons_cons _ (.cons _ (.cons _ (.refl _)))))).trans (hsub_pick [1, 0] rfl)) ?_
                  have e0 : putD A ask n s false = true := by simp_all [putD, pd]
                  have e1 : putD A ask n s true = true := by simp_all [putD, pd, pA]
                  have ea : putA A ask n s = ((A.write false n s).write true n s) := by simp_all [putA, pA]
                  have em : putm m A ask n s = m.mark n true true := by simp [putm, hn, e0, e1]
                  exact ⟨ret_int (by simp [putE, hn, e0, e1]), D9, h9.to (by simp [putDa, hn, ea]), by rw [em]; rfl⟩
                · skip
                  refine HY 14 rfl (hsub (.cons _ (.cons _ (.cons _ (.cons _ (.refl _)))))) rfl (y_pick_f rfl rfl) ?_
                  refine HY 15 rfl (hsub (.cons _ (.cons _ (.cons _ (.cons _ (.refl _)))))) rfl (y_indexA rfl rfl Try.underlying62 sz_4 (by omega) (by omega) (show _ = 1 from rfl)) ?_
                  refine H_one 16 rfl (by kernel_rfl) rfl (op_store1 2 0 rfl rfl rfl sz_4 rfl (Nat.le_of_ble_eq_true rfl) ?_)
                  refine ⟨hsub (.cons _ (.cons _ (.cons _ (.cons _ (.refl _))))), ?_⟩
                  refine H_done (by kernel_rfl) ?_
                  refine C_region ?_
                  refine LY rfl (y_add rfl rfl (show _ = (2 : Int) from rfl)) ?_
                  refine LY rfl (y_move rfl) (L_nil ?_)
                  refine In_round ?_
                  refine C_seq (C_region (LY rfl (y_lss rfl rfl) (L_nil (C_seq (C_cond_f rfl (C_exit (C_seq (C_seq (C_region ?_)))))))))
                  refine LY rfl (y_indexA rfl rfl Try.underlying62 sz_4 (by omega) (by omega) (show _ = 0 from rfl)) ?_
                  refine LY rfl (y_load rfl ag_4 (sees 2 0 rfl) rfl) (LY rfl (y_not rfl) (LY rfl (y_move rfl) (L_skip rfl rfl (L_skip rfl rfl (L_skip rfl rfl (LY rfl (y_pick_f rfl rfl) (L_nil (C_cond_f rfl (C_skip (C_seq (C_seq (C_region (LY rfl (y_move rfl) (L_nil (C_block ?_)))))))))))))))
                  refine C_loopIn (In_round ?_)
                  refine C_seq (C_region (LY rfl (y_lss rfl rfl) (L_nil (C_seq (C_cond_t rfl (C_skip (C_seq (C_block (C_seq (C_region (LY rfl (y_move rfl) (LY rfl (y_assign rfl) (L_nil (C_seq (C_region (LY rfl (y_move rfl) ?_))))))))))))))))
                  refine LY rfl (y_indexA rfl rfl Try.underlying62 sz_4 (by omega) (by omega) (show _ = 0 from rfl)) ?_
                  refine LY rfl (y_load rfl ag_4 (sees 2 0 rfl) rfl) (L_nil (C_cond_t rfl (C_region (LY rfl (y_move rfl) (LY rfl (y_move rfl) (LY rfl (y_nilCheck rfl) (LY rfl (y_fieldAddr rfl fl_110_0) ?_)))))))
                  refine LY rfl (y_indexA rfl rfl Try.underlying108 sz_107 (by omega) (by omega) (show _ = 0 from rfl)) ?_
                  refine LY rfl (y_fieldAddr rfl fl_107_1) (LY rfl (y_load rfl ag_105 (sees 1 0 rfl) rfl) (LY rfl (y_move rfl) ?_))
                  refine L_op rfl (op_delete 1 1 rfl rfl rfl Try.underlying105 Try.underlying3 rfl rfl ?_)
                  refine L_nil (C_region ?_)
                  refine LY rfl (y_add rfl rfl (show _ = (1 : Int) from rfl)) ?_
                  refine LY rfl (y_move rfl) (L_nil ?_)
                  refine In_round ?_
                  refine C_seq (C_region (LY rfl (y_lss rfl rfl) (L_nil (C_seq (C_cond_t rfl (C_skip (C_seq (C_block (C_seq (C_region (LY rfl (y_move rfl) (LY rfl (y_assign rfl) (L_nil (C_seq (C_region (LY rfl (y_move rfl) ?_))))))))))))))))
                  refine LY rfl (y_indexA rfl rfl Try.underlying62 sz_4 (by omega) (by omega) (show _ = 1 from rfl)) ?_
                  refine LY rfl (y_load rfl ag_4 (sees 2 0 rfl) rfl) (L_nil (C_cond_f rfl (C_region (LY rfl (y_move rfl) (LY rfl (y_move rfl) (LY rfl (y_nilCheck rfl) (LY rfl (y_fieldAddr rfl fl_110_0) ?_)))))))
                  refine LY rfl (y_indexA rfl rfl Try.underlying108 sz_107 (by omega) (by omega) (show _ = 2 from rfl)) ?_
                  refine LY rfl (y_fieldAddr rfl fl_107_1) (LY rfl (y_load rfl ag_105 (sees 1 0 rfl) rfl) (LY rfl (y_move rfl) ?_))
                  refine L_op rfl (op_mapUpdate 1 2 rfl rfl rfl Try.underlying105 Try.underlying3 rfl rfl ?_)
                  refine L_nil (C_region ?_)
                  refine LY rfl (y_add rfl rfl (show _ = (2 : Int) from rfl)) ?_
                  refine LY rfl (y_move rfl) (L_nil ?_)
                  refine In_round ?_
                  refine C_seq (C_region (LY rfl (y_lss rfl rfl) (L_nil (C_seq (C_cond_f rfl (C_exit (C_seq (C_region (LY rfl (y_assign rfl) (L_nil (C_ret ?_)))))))))))
                  refine B_ret (rv_tmp rfl rv_nil) ((hsub (.cons_cons _ (.cons_cons _ (.cons _ (.cons _ (.refl _)))))).trans (hsub_pick [1, 0] rfl)) ?_
                  have e0 : putD A ask n s false = true := by simp_all [putD, pd]
                  have e1 : putD A ask n s true = false := by simp_all [putD, pd, pA]
                  have ea : putA A ask n s = ((A.write false n s).write true n s) := by simp_all [putA, pA]
                  have em : putm m A ask n s = m.mark n true false := by simp [putm, hn, e0, e1]
                  exact ⟨ret_int (by simp [putE, hn, e0, e1]), D9, h9.to (by simp [putDa, hn, ea]), by rw [em]; rfl⟩
              · refine op_y (y_loadA rfl ag_32 sz_32 (sees 3 0 rfl) (by rw [bs_length, hs]; decide) (bs_whole0 _ hs)) rfl ?_
                refine ⟨hsub (.cons _ (.cons _ (.cons _ (.cons _ (.refl _))))), ?_⟩
                refine H_one 9 rfl (by kernel_rfl) rfl (op_y (y_load rfl ag_24 (sees 0 0 rfl) rfl) rfl ?_)
                refine ⟨hsub (.cons _ (.cons _ (.cons _ (.cons _ (.refl _))))), ?_⟩
                refine H_one 12 rfl (by kernel_rfl) rfl (op_call rfl rfl (fun a w => Try.call62 a w) rfl ?_)
                refine ((write_d h8 true n s hs (by have := hQ true; have q2 := Da.write_many A false n s true; omega)).sub (hsub_pick [1] rfl)).mono ?_
                rintro _ _ ⟨rfl, D10, h10, rfl⟩
                refine ⟨_, rfl, ?_⟩
                refine ⟨hsub (.cons _ (.cons _ (.cons _ (.cons _ (.refl _))))), ?_⟩
                refine HY 13 rfl (hsub (.cons _ (.cons _ (.cons _ (.cons _ (.refl _)))))) rfl (y_eqi rfl rfl) ?_
                refine H_case 42 rfl (fun hg9_14 => ?_) (fun hg9_14 => ?_)
                · skip
                  refine HY 14 rfl (hsub (.cons _ (.cons _ (.cons _ (.cons _ (.refl _)))))) rfl (y_pick_f rfl rfl) ?_
                  refine HY 15 rfl (hsub (.cons _ (.cons _ (.cons _ (.cons _ (.refl _)))))) rfl (y_indexA rfl rfl Try.underlying62 sz_4 (by omega) (by omega) (show _ = 1 from rfl)) ?_
                  refine H_one 16 rfl (by kernel_rfl) rfl (op_store1 2 0 rfl rfl rfl sz_4 rfl (Nat.le_of_ble_eq_true rfl) ?_)
                  refine ⟨hsub (.cons _ (.cons _ (.cons _ (.cons _ (.refl _))))), ?_⟩
                  refine H_done (by kernel_rfl) ?_
                  refine C_region ?_
                  refine LY rfl (y_add rfl rfl (show _ = (2 : Int) from rfl)) ?_
                  refine LY rfl (y_move rfl) (L_nil ?_)
                  refine In_round ?_
                  refine C_seq (C_region (LY rfl (y_lss rfl rfl) (L_nil (C_seq (C_cond_f rfl (C_exit (C_seq (C_seq (C_region ?_)))))))))
                  refine LY rfl (y_indexA rfl rfl Try.underlying62 sz_4 (by omega) (by omega) (show _ = 0 from rfl)) ?_
                  refine LY rfl (y_load rfl ag_4 (sees 2 0 rfl) rfl) (LY rfl (y_not rfl) (LY rfl (y_move rfl) (L_skip rfl rfl (L_skip rfl rfl (L_skip rfl rfl (LY rfl (y_pick_f rfl rfl) (L_nil (C_cond_f rfl (C_skip (C_seq (C_seq (C_region (LY rfl (y_move rfl) (L_nil (C_block ?_)))))))))))))))
                  refine C_loopIn (In_round ?_)
                  refine C_seq (C_region (LY rfl (y_lss rfl rfl) (L_nil (C_seq (C_cond_t rfl (C_skip (C_seq (C_block (C_seq (C_region (LY rfl (y_move rfl) (LY rfl (y_assign rfl) (L_nil (C_seq (C_region (LY rfl (y_move rfl) ?_))))))))))))))))
                  refine LY rfl (y_indexA rfl rfl Try.underlying62 sz_4 (by omega) (by omega) (show _ = 0 from rfl)) ?_
                  refine LY rfl (y_load rfl ag_4 (sees 2 0 rfl) rfl) (L_nil (C_cond_t rfl (C_region (LY rfl (y_move rfl) (LY rfl (y_move rfl) (LY rfl (y_nilCheck rfl) (LY rfl (y_fieldAddr rfl fl_110_0) ?_)))))))
                  refine LY rfl (y_indexA rfl rfl Try.underlying108 sz_107 (by omega) (by omega) (show _ = 0 from rfl)) ?_
                  refine LY rfl (y_fieldAddr rfl fl_107_1) (LY rfl (y_load rfl ag_105 (sees 1 0 rfl) rfl) (LY rfl (y_move rfl) ?_))
                  refine L_op rfl (op_delete 1 1 rfl rfl rfl Try.underlying105 Try.underlying3 rfl rfl ?_)
                  refine L_nil (C_region ?_)
                  refine LY rfl (y_add rfl rfl (show _ = (1 : Int) from rfl)) ?_
                  refine LY rfl (y_move rfl) (L_nil ?_)
                  refine In_round ?_
                  refine C_seq (C_region (LY rfl (y_lss rfl rfl) (L_nil (C_seq (C_cond_t rfl (C_skip (C_seq (C_block (C_seq (C_region (LY rfl (y_move rfl) (LY rfl (y_assign rfl) (L_nil (C_seq (C_region (LY rfl (y_move rfl) ?_))))))))))))))))
                  refine LY rfl (y_indexA rfl rfl Try.underlying62 sz_4 (by omega) (by omega) (show _ = 1 from rfl)) ?_
                  refine LY rfl (y_load rfl ag_4 (sees 2 0 rfl) rfl) (L_nil (C_cond_t rfl (C_region (LY rfl (y_move rfl) (LY rfl (y_move rfl) (LY rfl (y_nilCheck rfl) (LY rfl (y_fieldAddr rfl fl_110_0) ?_)))))))
                  refine LY rfl (y_indexA rfl rfl Try.underlying108 sz_107 (by omega) (by omega) (show _ = 2 from rfl)) ?_
                  refine LY rfl (y_fieldAddr rfl fl_107_1) (LY rfl (y_load rfl ag_105 (sees 1 0 rfl) rfl) (LY rfl (y_move rfl) ?_))
                  refine L_op rfl (op_delete 1 2 rfl rfl rfl Try.underlying105 Try.underlying3 rfl rfl ?_)
                  refine L_nil (C_region ?_)
                  refine LY rfl (y_add rfl rfl (show _ = (2 : Int) from rfl)) ?_
                  refine LY rfl (y_move rfl) (L_nil ?_)
                  refine In_round ?_
                  refine C_seq (C_region (LY rfl (y_lss rfl rfl) (L_nil (C_seq (C_cond_f rfl (C_exit (C_seq (C_region (LY rfl (y_assign rfl) (L_nil (C_ret ?_)))))))))))
                  refine B_ret (rv_tmp rfl rv_nil) ((hsub (.cons_cons _ (.cons_cons _ (.cons _ (.cons _ (.refl _)))))).trans (hsub_pick [1, 0] rfl)) ?_
                  have e0 : putD A ask n s false = true := by simp_all [putD, pd]
                  have e1 : putD A ask n s true = true := by simp_all [putD, pd, pA]
                  have ea : putA A ask n s = ((A.write false n s).write true n s) := by simp_all [putA, pA]
                  have em : putm m A ask n s = m.mark n true true := by simp [putm, hn, e0, e1]
                  exact ⟨ret_int (by simp [putE, hn, e0, e1]), D10, h10.to (by simp [putDa, hn, ea]), by rw [em]; rfl⟩
                · skip
                  refine HY 14 rfl (hsub (.cons _ (.cons _ (.cons _ (.cons _ (.refl _)))))) rfl (y_pick_f rfl rfl) ?_
                  refine HY 15 rfl (hsub (.cons _ (.cons _ (.cons _ (.cons _ (.refl _)))))) rfl (y_indexA rfl rfl Try.underlying62 sz_4 (by omega) (by omega) (show _ = 1 from rfl)) ?_
                  refine H_one 16 rfl (by kernel_rfl) rfl (op_store1 2 0 rfl rfl rfl sz_4 rfl (Nat.le_of_ble_eq_true rfl) ?_)
                  refine ⟨hsub (.cons _ (.cons _ (.cons _ (.cons _ (.refl _))))), ?_⟩
                  refine H_done (by kernel_rfl) ?_
                  refine C_region ?_
                  refine LY rfl (y_add rfl rfl (show _ = (2 : Int) from rfl)) ?_
                  refine LY rfl (y_move rfl) (L_nil ?_)
                  refine In_round ?_
                  refine C_seq (C_region (LY rfl (y_lss rfl rfl) (L_nil (C_seq (C_cond_f rfl (C_exit (C_seq (C_seq (C_region ?_)))))))))
                  refine LY rfl (y_indexA rfl rfl Try.underlying62 sz_4 (by omega) (by omega) (show _ = 0 from rfl)) ?_
                  refine LY rfl (y_load rfl ag_4 (sees 2 0 rfl) rfl) (LY rfl (y_not rfl) (LY rfl (y_move rfl) (L_skip rfl rfl (L_skip rfl rfl (L_skip rfl rfl (LY rfl (y_pick_f rfl rfl) (L_nil (C_cond_f rfl (C_skip (C_seq (C_seq (C_region (LY rfl (y_move rfl) (L_nil (C_block ?_)))))))))))))))
                  refine C_loopIn (In_round ?_)
                  refine C_seq (C_region (LY rfl (y_lss rfl rfl) (L_nil (C_seq (C_cond_t rfl (C_skip (C_seq (C_block (C_seq (C_region (LY rfl (y_move rfl) (LY rfl (y_assign rfl) (L_nil (C_seq (C_region (LY rfl (y_move rfl) ?_))))))))))))))))
                  refine LY rfl (y_indexA rfl rfl Try.underlying62 sz_4 (by omega) (by omega) (show _ = 0 from rfl)) ?_
                  refine LY rfl (y_load rfl ag_4 (sees 2 0 rfl) rfl) (L_nil (C_cond_t rfl (C_region (LY rfl (y_move rfl) (LY rfl (y_move rfl) (LY rfl (y_nilCheck rfl) (LY rfl (y_fieldAddr rfl fl_110_0) ?_)))))))
                  refine LY rfl (y_indexA rfl rfl Try.underlying108 sz_107 (by omega) (by omega) (show _ = 0 from rfl)) ?_
                  refine LY rfl (y_fieldAddr rfl fl_107_1) (LY rfl (y_load rfl ag_105 (sees 1 0 rfl) rfl) (LY rfl (y_move rfl) ?_))
                  refine L_op rfl (op_delete 1 1 rfl rfl rfl Try.underlying105 Try.underlying3 rfl rfl ?_)
                  refine L_nil (C_region ?_)
                  refine LY rfl (y_add rfl rfl (show _ = (1 : Int) from rfl)) ?_
                  refine LY rfl (y_move rfl) (L_nil ?_)
                  refine In_round ?_
                  refine C_seq (C_region (LY rfl (y_lss rfl rfl) (L_nil (C_seq (C_cond_t rfl (C_skip (C_seq (C_block (C_seq (C_region (LY rfl (y_move rfl) (LY rfl (y_assign rfl) (L_nil (C_seq (C_region (LY rfl (y_move rfl) ?_))))))))))))))))
                  refine LY rfl (y_indexA rfl rfl Try.underlying62 sz_4 (by omega) (by omega) (show _ = 1 from rfl)) ?_
                  refine LY rfl (y_load rfl ag_4 (sees 2 0 rfl) rfl) (L_nil (C_cond_f rfl (C_region (LY rfl (y_move rfl) (LY rfl (y_move rfl) (LY rfl (y_nilCheck rfl) (LY rfl (y_fieldAddr rfl fl_110_0) ?_)))))))
                  refine LY rfl (y_indexA rfl rfl Try.underlying108 sz_107 (by omega) (by omega) (show _ = 2 from rfl)) ?_
                  refine LY rfl (y_fieldAddr rfl fl_107_1) (LY rfl (y_load rfl ag_105 (sees 1 0 rfl) rfl) (LY rfl (y_move rfl) ?_))
                  refine L_op rfl (op_mapUpdate 1 2 rfl rfl rfl Try.underlying105 Try.underlying3 rfl rfl ?_)
                  refine L_nil (C_region ?_)
                  refine LY rfl (y_add rfl rfl (show _ = (2 : Int) from rfl)) ?_
                  refine LY rfl (y_move rfl) (L_nil ?_)
                  refine In_round ?_
                  refine C_seq (C_region (LY rfl (y_lss rfl rfl) (L_nil (C_seq (C_cond_f rfl (C_exit (C_seq (C_region (LY rfl (y_assign rfl) (L_nil (C_ret ?_)))))))))))
                  refine B_ret (rv_tmp rfl rv_nil) ((hsub (.cons_cons _ (.cons_cons _ (.cons _ (.cons _ (.refl _)))))).trans (hsub_pick [1, 0] rfl)) ?_
                  have e0 : putD A ask n s false = true := by simp_all [putD, pd]
                  have e1 : putD A ask n s true = false := by simp_all [putD, pd, pA]
                  have ea : putA A ask n s = ((A.write false n s).write true n s) := by simp_all [putA, pA]
                  have em : putm m A ask n s = m.mark n true false := by simp [putm, hn, e0, e1]
                  exact ⟨ret_int (by simp [putE, hn, e0, e1]), D10, h10.to (by simp [putDa, hn, ea]), by rw [em]; rfl⟩
          · skip
            refine C_skip (C_region ?_)
            refine LY rfl (y_add rfl rfl (show _ = (2 : Int) from rfl)) ?_
            refine LY rfl (y_move rfl) (L_nil ?_)
            refine In_round ?_
            refine C_seq (C_region (LY rfl (y_lss rfl rfl) (L_nil (C_seq (C_cond_f rfl (C_exit (C_seq (C_seq (C_region ?_)))))))))
            refine LY rfl (y_indexA rfl rfl Try.underlying62 sz_4 (by omega) (by omega) (show _ = 0 from rfl)) ?_
            refine LY rfl (y_load rfl ag_4 (sees 2 0 rfl) rfl) (LY rfl (y_not rfl) (LY rfl (y_move rfl) (L_skip rfl rfl (L_skip rfl rfl (L_skip rfl rfl (LY rfl (y_pick_f rfl rfl) (L_nil (C_cond_f rfl (C_skip (C_seq (C_seq (C_region (LY rfl (y_move rfl) (L_nil (C_block ?_)))))))))))))))
            refine C_loopIn (In_round ?_)
            refine C_seq (C_region (LY rfl (y_lss rfl rfl) (L_nil (C_seq (C_cond_t rfl (C_skip (C_seq (C_block (C_seq (C_region (LY rfl (y_move rfl) (LY rfl (y_assign rfl) (L_nil (C_seq (C_region (LY rfl (y_move rfl) ?_))))))))))))))))
            refine LY rfl (y_indexA rfl rfl Try.underlying62 sz_4 (by omega) (by omega) (show _ = 0 from rfl)) ?_
            refine LY rfl (y_load rfl ag_4 (sees 2 0 rfl) rfl) (L_nil (C_cond_t rfl (C_region (LY rfl (y_move rfl) (LY rfl (y_move rfl) (LY rfl (y_nilCheck rfl) (LY rfl (y_fieldAddr rfl fl_110_0) ?_)))))))
            refine LY rfl (y_indexA rfl rfl Try.underlying108 sz_107 (by omega) (by omega) (show _ = 0 from rfl)) ?_
            refine LY rfl (y_fieldAddr rfl fl_107_1) (LY rfl (y_load rfl ag_105 (sees 1 0 rfl) rfl) (LY rfl (y_move rfl) ?_))
            refine L_op rfl (op_delete 1 1 rfl rfl rfl Try.underlying105 Try.underlying3 rfl rfl ?_)
            refine L_nil (C_region ?_)
            refine LY rfl (y_add rfl rfl (show _ = (1 : Int) from rfl)) ?_
            refine LY rfl (y_move rfl) (L_nil ?_)
            refine In_round ?_
            refine C_seq (C_region (LY rfl (y_lss rfl rfl) (L_nil (C_seq (C_cond_t rfl (C_skip (C_seq (C_block (C_seq (C_region (LY rfl (y_move rfl) (LY rfl (y_assign rfl) (L_nil (C_seq (C_region (LY rfl (y_move rfl) ?_))))))))))))))))
            refine LY rfl (y_indexA rfl rfl Try.underlying62 sz_4 (by omega) (by omega) (show _ = 1 from rfl)) ?_
            refine LY rfl (y_load rfl ag_4 (sees 2 0 rfl) rfl) (L_nil (C_cond_f rfl (C_region (LY rfl (y_move rfl) (LY rfl (y_move rfl) (LY rfl (y_nilCheck rfl) (LY rfl (y_fieldAddr rfl fl_110_0) ?_)))))))
            refine LY rfl (y_indexA rfl rfl Try.underlying108 sz_107 (by omega) (by omega) (show _ = 2 from rfl)) ?_
            refine LY rfl (y_fieldAddr rfl fl_107_1) (LY rfl (y_load rfl ag_105 (sees 1 0 rfl) rfl) (LY rfl (y_move rfl) ?_))
            refine L_op rfl (op_mapUpdate 1 2 rfl rfl rfl Try.underlying105 Try.underlying3 rfl rfl ?_)
            refine L_nil (C_region ?_)
            refine LY rfl (y_add rfl rfl (show _ = (2 : Int) from rfl)) ?_
            refine LY rfl (y_move rfl) (L_nil ?_)
            refine In_round ?_
            refine C_seq (C_region (LY rfl (y_lss rfl rfl) (L_nil (C_seq (C_cond_f rfl (C_exit (C_seq (C_region (LY rfl (y_assign rfl) (L_nil (C_ret ?_)))))))))))
            refine B_ret (rv_tmp rfl rv_nil) ((hsub (.cons_cons _ (.cons_cons _ (.cons _ (.cons _ (.refl _)))))).trans (hsub_pick [1, 0] rfl)) ?_
            have e0 : putD A ask n s false = true := by simp_all [putD, pd]
            have e1 : putD A ask n s true = false := by simp_all [putD, pd, pA]
            have ea : putA A ask n s = (A.write false n s) := by simp_all [putA, pA]
            have em : putm m A ask n s = m.mark n true false := by simp [putm, hn, e0, e1]
            exact ⟨ret_int (by simp [putE, hn, e0, e1]), D8, h8.to (by simp [putDa, hn, ea]), by rw [em]; rfl⟩
        · skip
          refine HY 14 rfl (hsub (.cons _ (.cons _ (.cons _ (.cons _ (.refl _)))))) rfl (y_pick_f rfl rfl) ?_
          refine HY 15 rfl (hsub (.cons _ (.cons _ (.cons _ (.cons _ (.refl _)))))) rfl (y_indexA rfl rfl Try.underlying62 sz_4 (by omega) (by omega) (show _ = 0 from rfl)) ?_
          refine H_one 16 rfl (by kernel_rfl) rfl (op_store1 2 0 rfl rfl rfl sz_4 rfl (Nat.le_of_ble_eq_true rfl) ?_)
          refine ⟨hsub (.cons _ (.cons _ (.cons _ (.cons _ (.refl _))))), ?_⟩
          refine H_done (by kernel_rfl) ?_
          refine C_region ?_
          refine LY rfl (y_add rfl rfl (show _ = (1 : Int) from rfl)) ?_
          refine LY rfl (y_move rfl) (L_nil ?_)
          refine In_round ?_
          refine C_seq (C_region (LY rfl (y_lss rfl rfl) (L_nil (C_seq (C_cond_t rfl (C_skip (C_seq (C_block (C_seq (C_region (LY rfl (y_move rfl) (LY rfl (y_assign rfl) (L_nil (C_seq (C_region (LY rfl (y_move rfl) (LY rfl (y_move rfl) (LY rfl (y_nilCheck rfl) (LY rfl (y_fieldAddr rfl fl_110_0) ?_)))))))))))))))))))
          refine LY rfl (y_indexA rfl rfl Try.underlying108 sz_107 (by omega) (by omega) (show _ = 2 from rfl)) ?_
          refine LY rfl (y_assign rfl) (L_nil (C_seq (C_region (LY rfl (y_move rfl) (LY rfl (y_nilCheck rfl) ?_)))))
          refine LY rfl (y_loadA rfl ag_107 sz_107 (sees 1 0 rfl) (Nat.le_of_ble_eq_true rfl) rfl) ?_
          refine L_op rfl (op_call rfl rfl (fun a w => Try.call53 a w) rfl ?_)
          refine ((there_d h8 true).sub (hsub_pick [0] rfl)).mono ?_
          rintro _ _ ⟨rfl, rfl⟩
          refine ⟨_, rfl, ?_⟩
          refine L_nil ?_
          refine C_cond rfl (fun hc2 => ?_) (fun hc2 => ?_)
          · skip
            refine C_regionH H (by kernel_rfl) ?_
            refine HY 0 rfl (hsub (.cons _ (.cons _ (.cons _ (.cons _ (.refl _)))))) rfl (y_move rfl) ?_
            refine HY 1 rfl (hsub (.cons _ (.cons _ (.cons _ (.cons _ (.refl _)))))) rfl (y_move rfl) ?_
            refine HY 2 rfl (hsub (.cons _ (.cons _ (.cons _ (.cons _ (.refl _)))))) rfl (y_move rfl) ?_
            refine H_one 3 rfl (by kernel_rfl) rfl (op_call (f := fa) (first := []) (cap := cap) rfl rfl hask.1 rfl ?_)
            refine FnS.mono (FnS.sub (hsub_pick [1, 0] rfl) (hask.2 true _ _ _ h8 (hsub (.cons _ (.cons _ (.refl _)))))) ?_
            rintro _ _ ⟨rfl, rfl⟩
            refine ⟨_, rfl, ?_⟩
            refine ⟨hsub (.cons _ (.cons _ (.cons _ (.cons _ (.refl _))))), ?_⟩
            refine HY 4 rfl (hsub (.cons _ (.cons _ (.cons _ (.cons _ (.refl _)))))) rfl (y_not rfl) ?_
            refine HY 5 rfl (hsub (.cons _ (.cons _ (.cons _ (.cons _ (.refl _)))))) rfl (y_move rfl) ?_
            refine H_case 34 rfl (fun hg9_6 => ?_) (fun hg9_6 => ?_)
            · skip
              refine HK 6 rfl (hsub (.cons _ (.cons _ (.cons _ (.cons _ (.refl _)))))) rfl ?_
              refine HK 7 rfl (hsub (.cons _ (.cons _ (.cons _ (.cons _ (.refl _)))))) rfl ?_
              refine HK 8 rfl (hsub (.cons _ (.cons _ (.cons _ (.cons _ (.refl _)))))) rfl ?_
              refine HK 9 rfl (hsub (.cons _ (.cons _ (.cons _ (.cons _ (.refl _)))))) rfl ?_
              refine HK 10 rfl (hsub (.cons _ (.cons _ (.cons _ (.cons _ (.refl _)))))) rfl ?_
              refine HK 11 rfl (hsub (.cons _ (.cons _ (.cons _ (.cons _ (.refl _)))))) rfl ?_
              refine HK 12 rfl (hsub (.cons _ (.cons _ (.cons _ (.cons _ (.refl _)))))) rfl ?_
              refine HK 13 rfl (hsub (.cons _ (.cons _ (.cons _ (.cons _ (.refl _)))))) rfl ?_
              refine HY 14 rfl (hsub (.cons _ (.cons _ (.cons _ (.cons _ (.refl _)))))) rfl (y_pick_t rfl rfl) ?_
              refine HY 15 rfl (hsub (.cons _ (.cons _ (.cons _ (.cons _ (.refl _)))))) rfl (y_indexA rfl rfl Try.underlying62 sz_4 (by omega) (by omega) (show _ = 1 from rfl)) ?_
              refine H_one 16 rfl (by kernel_rfl) rfl (op_store1 2 0 rfl rfl rfl sz_4 rfl (Nat.le_of_ble_eq_true rfl) ?_)
              refine ⟨hsub (.cons _ (.cons _ (.cons _ (.cons _ (.refl _))))), ?_⟩
              refine H_done (by kernel_rfl) ?_
              refine C_region ?_
              refine LY rfl (y_add rfl rfl (show _ = (2 : Int) from rfl)) ?_
              refine LY rfl (y_move rfl) (L_nil ?_)
              refine In_round ?_
              refine C_seq (C_region (LY rfl (y_lss rfl rfl) (L_nil (C_seq (C_cond_f rfl (C_exit (C_seq (C_seq (C_region ?_)))))))))
              refine LY rfl (y_indexA rfl rfl Try.underlying62 sz_4 (by omega) (by omega) (show _ = 0 from rfl)) ?_
              refine LY rfl (y_load rfl ag_4 (sees 2 0 rfl) rfl) (LY rfl (y_not rfl) (LY rfl (y_move rfl) ?_))
              refine LY rfl (y_indexA rfl rfl Try.underlying62 sz_4 (by omega) (by omega) (show _ = 1 from rfl)) ?_
              refine LY rfl (y_load rfl ag_4 (sees 2 0 rfl) rfl) (LY rfl (y_not rfl) (LY rfl (y_pick_t rfl rfl) (L_nil (C_cond_f rfl (C_skip (C_seq (C_seq (C_region (LY rfl (y_move rfl) (L_nil (C_block ?_)))))))))))
              refine C_loopIn (In_round ?_)
              refine C_seq (C_region (LY rfl (y_lss rfl rfl) (L_nil (C_seq (C_cond_t rfl (C_skip (C_seq (C_block (C_seq (C_region (LY rfl (y_move rfl) (LY rfl (y_assign rfl) (L_nil (C_seq (C_region (LY rfl (y_move rfl) ?_))))))))))))))))
              refine LY rfl (y_indexA rfl rfl Try.underlying62 sz_4 (by omega) (by omega) (show _ = 0 from rfl)) ?_
              refine LY rfl (y_load rfl ag_4 (sees 2 0 rfl) rfl) (L_nil (C_cond_f rfl (C_region (LY rfl (y_move rfl) (LY rfl (y_move rfl) (LY rfl (y_nilCheck rfl) (LY rfl (y_fieldAddr rfl fl_110_0) ?_)))))))
              refine LY rfl (y_indexA rfl rfl Try.underlying108 sz_107 (by omega) (by omega) (show _ = 0 from rfl)) ?_
              refine LY rfl (y_fieldAddr rfl fl_107_1) (LY rfl (y_load rfl ag_105 (sees 0 0 rfl) rfl) (LY rfl (y_move rfl) ?_))
              refine L_op rfl (op_mapUpdate 0 1 rfl rfl rfl Try.underlying105 Try.underlying3 rfl rfl ?_)
              refine L_nil (C_region ?_)
              refine LY rfl (y_add rfl rfl (show _ = (1 : Int) from rfl)) ?_
              refine LY rfl (y_move rfl) (L_nil ?_)
              refine In_round ?_
              refine C_seq (C_region (LY rfl (y_lss rfl rfl) (L_nil (C_seq (C_cond_t rfl (C_skip (C_seq (C_block (C_seq (C_region (LY rfl (y_move rfl) (LY rfl (y_assign rfl) (L_nil (C_seq (C_region (LY rfl (y_move rfl) ?_))))))))))))))))
              refine LY rfl (y_indexA rfl rfl Try.underlying62 sz_4 (by omega) (by omega) (show _ = 1 from rfl)) ?_
              refine LY rfl (y_load rfl ag_4 (sees 2 0 rfl) rfl) (L_nil (C_cond_t rfl (C_region (LY rfl (y_move rfl) (LY rfl (y_move rfl) (LY rfl (y_nilCheck rfl) (LY rfl (y_fieldAddr rfl fl_110_0) ?_)))))))
              refine LY rfl (y_indexA rfl rfl Try.underlying108 sz_107 (by omega) (by omega) (show _ = 2 from rfl)) ?_
              refine LY rfl (y_fieldAddr rfl fl_107_1) (LY rfl (y_load rfl ag_105 (sees 0 0 rfl) rfl) (LY rfl (y_move rfl) ?_))
              refine L_op rfl (op_delete 0 2 rfl rfl rfl Try.underlying105 Try.underlying3 rfl rfl ?_)
              refine L_nil (C_region ?_)
              refine LY rfl (y_add rfl rfl (show _ = (2 : Int) from rfl)) ?_
              refine LY rfl (y_move rfl) (L_nil ?_)
              refine In_round ?_
              refine C_seq (C_region (LY rfl (y_lss rfl rfl) (L_nil (C_seq (C_cond_f rfl (C_exit (C_seq (C_region (LY rfl (y_assign rfl) (L_nil (C_ret ?_)))))))))))
              refine B_ret (rv_tmp rfl rv_nil) ((hsub (.cons_cons _ (.cons_cons _ (.cons _ (.cons _ (.refl _)))))).trans (hsub_pick [0, 0] rfl)) ?_
              have e0 : putD A ask n s false = false := by simp_all [putD, pd]
              have e1 : putD A ask n s true = true := by simp_all [putD, pd, pA]
              have ea : putA A ask n s = (A.write false n s) := by simp_all [putA, pA]
              have em : putm m A ask n s = m.mark n false true := by simp [putm, hn, e0, e1]
              exact ⟨ret_int (by simp [putE, hn, e0, e1]), D8, h8.to (by simp [putDa, hn, ea]), by rw [em]; rfl⟩
            · skip
              refine HY 6 rfl (hsub (.cons _ (.cons _ (.cons _ (.cons _ (.refl _)))))) rfl (y_move rfl) ?_
              refine HY 7 rfl (hsub (.cons _ (.cons _ (.cons _ (.cons _ (.refl _)))))) rfl (y_nilCheck rfl) ?_
              refine HY 8 rfl (hsub (.cons _ (.cons _ (.cons _ (.cons _ (.refl _)))))) rfl (y_fieldAddr rfl fl_107_0) ?_
              refine HY 10 rfl (hsub (.cons _ (.cons _ (.cons _ (.cons _ (.refl _)))))) rfl (y_move rfl) ?_
              refine H_two 9 11 rfl rfl (by kernel_rfl) rfl rfl ?_ ?_
              · refine op_y (y_load rfl ag_24 (sees 0 0 rfl) rfl) rfl ?_
                refine ⟨hsub (.cons _ (.cons _ (.cons _ (.cons _ (.refl _))))), ?_⟩
                refine H_one 11 rfl (by kernel_rfl) rfl (op_y (y_loadA rfl ag_32 sz_32 (sees 3 0 rfl) (by rw [bs_length, hs]; decide) (bs_whole0 _ hs)) rfl ?_)
                refine ⟨hsub (.cons _ (.cons _ (.cons _ (.cons _ (.refl _))))), ?_⟩
                refine H_one 12 rfl (by kernel_rfl) rfl (op_call rfl rfl (fun a w => Try.call62 a w) rfl ?_)
                refine ((write_d h8 true n s hs (by have := hQ true; have q2 := Da.write_many A false n s true; omega)).sub (hsub_pick [1] rfl)).mono ?_
                rintro _ _ ⟨rfl, D11, h11, rfl⟩
                refine ⟨_, rfl, ?_⟩
                refine ⟨hsub (.cons _ (.cons _ (.cons _ (.cons _ (.refl _))))), ?_⟩
                refine HY 13 rfl (hsub (.cons _ (.cons _ (.cons _ (.cons _ (.refl _)))))) rfl (y_eqi rfl rfl) ?_
                refine H_case 42 rfl (fun hg9_14 => ?_) (fun hg9_14 => ?_)
                · skip
                  refine HY 14 rfl (hsub (.cons _ (.cons _ (.cons _ (.cons _ (.refl _)))))) rfl (y_pick_f rfl rfl) ?_
                  refine HY 15 rfl (hsub (.cons _ (.cons _ (.cons _ (.cons _ (.refl _)))))) rfl (y_indexA rfl rfl Try.underlying62 sz_4 (by omega) (by omega) (show _ = 1 from rfl)) ?_
                  refine H_one 16 rfl (by kernel_rfl) rfl (op_store1 2 0 rfl rfl rfl sz_4 rfl (Nat.le_of_ble_eq_true rfl) ?_)
                  refine ⟨hsub (.cons _ (.cons _ (.cons _ (.cons _ (.refl _))))), ?_⟩
                  refine H_done (by kernel_rfl) ?_
                  refine C_region ?_
                  refine LY rfl (y_add rfl rfl (show _ = (2 : Int) from rfl)) ?_
                  refine LY rfl (y_move rfl) (L_nil ?_)
                  refine In_round ?_
                  refine C_seq (C_region (LY rfl (y_lss rfl rfl) (L_nil (C_seq (C_cond_f rfl (C_exit (C_seq (C_seq (C_region ?_)))))))))
                  refine LY rfl (y_indexA rfl rfl Try.underlying62 sz_4 (by omega) (by omega) (show _ = 0 from rfl)) ?_
                  refine LY rfl (y_load rfl ag_4 (sees 2 0 rfl) rfl) (LY rfl (y_not rfl) (LY rfl (y_move rfl) ?_))
                  refine LY rfl (y_indexA rfl rfl Try.underlying62 sz_4 (by omega) (by omega) (show _ = 1 from rfl)) ?_
                  refine LY rfl (y_load rfl ag_4 (sees 2 0 rfl) rfl) (LY rfl (y_not rfl) (LY rfl (y_pick_t rfl rfl) (L_nil (C_cond_f rfl (C_skip (C_seq (C_seq (C_region (LY rfl (y_move rfl) (L_nil (C_block ?_)))))))))))
                  refine C_loopIn (In_round ?_)
                  refine C_seq (C_region (LY rfl (y_lss rfl rfl) (L_nil (C_seq (C_cond_t rfl (C_skip (C_seq (C_block (C_seq (C_region (LY rfl (y_move rfl) (LY rfl (y_assign rfl) (L_nil (C_seq (C_region (LY rfl (y_move rfl) ?_))))))))))))))))
                  refine LY rfl (y_indexA rfl rfl Try.underlying62 sz_4 (by omega) (by omega) (show _ = 0 from rfl)) ?_
                  refine LY rfl (y_load rfl ag_4 (sees 2 0 rfl) rfl) (L_nil (C_cond_f rfl (C_region (LY rfl (y_move rfl) (LY rfl (y_move rfl) (LY rfl (y_nilCheck rfl) (LY rfl (y_fieldAddr rfl fl_110_0) ?_)))))))
                  refine LY rfl (y_indexA rfl rfl Try.underlying108 sz_107 (by omega) (by omega) (show _ = 0 from rfl)) ?_
                  refine LY rfl (y_fieldAddr rfl fl_107_1) (LY rfl (y_load rfl ag_105 (sees 1 0 rfl) rfl) (LY rfl (y_move rfl) ?_))
                  refine L_op rfl (op_mapUpdate 1 1 rfl rfl rfl Try.underlying105 Try.underlying3 rfl rfl ?_)
                  refine L_nil (C_region ?_)
                  refine LY rfl (y_add rfl rfl (show _ = (1 : Int) from rfl)) ?_
                  refine LY rfl (y_move rfl) (L_nil ?_)
                  refine In_round ?_
                  refine C_seq (C_region (LY rfl (y_lss rfl rfl) (L_nil (C_seq (C_cond_t rfl (C_skip (C_seq (C_block (C_seq (C_region (LY rfl (y_move rfl) (LY rfl (y_assign rfl) (L_nil (C_seq (C_region (LY rfl (y_move rfl) ?_))))))))))))))))
                  refine LY rfl (y_indexA rfl rfl Try.underlying62 sz_4 (by omega) (by omega) (show _ = 1 from rfl)) ?_
                  refine LY rfl (y_load rfl ag_4 (sees 2 0 rfl) rfl) (L_nil (C_cond_t rfl (C_region (LY rfl (y_move rfl) (LY rfl (y_move rfl) (LY rfl (y_nilCheck rfl) (LY rfl (y_fieldAddr rfl fl_110_0) ?_)))))))
                  refine LY rfl (y_indexA rfl rfl Try.underlying108 sz_107 (by omega) (by omega) (show _ = 2 from rfl)) ?_
                  refine LY rfl (y_fieldAddr rfl fl_107_1) (LY rfl (y_load rfl ag_105 (sees 1 0 rfl) rfl) (LY rfl (y_move rfl) ?_))
                  refine L_op rfl (op_delete 1 2 rfl rfl rfl Try.underlying105 Try.underlying3 rfl rfl ?_)
                  refine L_nil (C_region ?_)
                  refine LY rfl (y_add rfl rfl (show _ = (2 : Int) from rfl)) ?_
                  refine LY rfl (y_move rfl) (L_nil ?_)
                  refine In_round ?_
                  refine C_seq (C_region (LY rfl (y_lss rfl rfl) (L_nil (C_seq (C_cond_f rfl (C_exit (C_seq (C_region (LY rfl (y_assign rfl) (L_nil (C_ret ?_)))))))))))
                  refine B_ret (rv_tmp rfl rv_nil) ((hsub (.cons_cons _ (.cons_cons _ (.cons _ (.cons _ (.refl _)))))).trans (hsub_pick [1, 0] rfl)) ?_
                  have e0 : putD A ask n s false = false := by simp_all [putD, pd]
                  have e1 : putD A ask n s true = true := by simp_all [putD, pd, pA]
                  have ea : putA A ask n s = ((A.write false n s).write true n s) := by simp_all [putA, pA]
                  have em : putm m A ask n s = m.mark n false true := by simp [putm, hn, e0, e1]
                  exact ⟨ret_int (by simp [putE, hn, e0, e1]), D11, h11.to (by simp [putDa, hn, ea]), by rw [em]; rfl⟩
                · skip
                  refine HY 14 rfl (hsub (.cons _ (.cons _ (.cons _ (.cons _ (.refl _)))))) rfl (y_pick_f rfl rfl) ?_
                  refine HY 15 rfl (hsub (.cons _ (.cons _ (.cons _ (.cons _ (.refl _)))))) rfl (y_indexA rfl rfl Try.underlying62 sz_4 (by omega) (by omega) (show _ = 1 from rfl)) ?_
                  refine H_one 16 rfl (by kernel_rfl) rfl (op_store1 2 0 rfl rfl rfl sz_4 rfl (Nat.le_of_ble_eq_true rfl) ?_)
                  refine ⟨hsub (.cons _ (.cons _ (.cons _ (.cons _ (.refl _))))), ?_⟩
                  refine H_done (by kernel_rfl) ?_
                  refine C_region ?_
                  refine LY rfl (y_add rfl rfl (show _ = (2 : Int) from rfl)) ?_
                  refine LY rfl (y_move rfl) (L_nil ?_)
                  refine In_round ?_
                  refine C_seq (C_region (LY rfl (y_lss rfl rfl) (L_nil (C_seq (C_cond_f rfl (C_exit (C_seq (C_seq (C_region ?_)))))))))
                  refine LY rfl (y_indexA rfl rfl Try.underlying62 sz_4 (by omega) (by omega) (show _ = 0 from rfl)) ?_
                  refine LY rfl (y_load rfl ag_4 (sees 2 0 rfl) rfl) (LY rfl (y_not rfl) (LY rfl (y_move rfl) ?_))
                  refine LY rfl (y_indexA rfl rfl Try.underlying62 sz_4 (by omega) (by omega) (show _ = 1 from rfl)) ?_
                  refine LY rfl (y_load rfl ag_4 (sees 2 0 rfl) rfl) (LY rfl (y_not rfl) (LY rfl (y_pick_t rfl rfl) (L_nil (C_cond_t rfl (C_seq (C_region (LY rfl (y_assign rfl) (L_nil (C_ret ?_)))))))))
                  refine B_ret (rv_tmp rfl rv_nil) ((hsub (.cons_cons _ (.cons_cons _ (.cons _ (.cons _ (.refl _)))))).trans (hsub_pick [1, 0] rfl)) ?_
                  have e0 : putD A ask n s false = false := by simp_all [putD, pd]
                  have e1 : putD A ask n s true = false := by simp_all [putD, pd, pA]
                  have ea : putA A ask n s = ((A.write false n s).write true n s) := by simp_all [putA, pA]
                  have em : putm m A ask n s = m := by simp [putm, hn, e0, e1]
                  exact ⟨ret_int (by simp [putE, hn, e0, e1]), D11, h11.to (by simp [putDa, hn, ea]), by rw [em]; rfl⟩
              · refine op_y (y_loadA rfl ag_32 sz_32 (sees 3 0 rfl) (by rw [bs_length, hs]; decide) (bs_whole0 _ hs)) rfl ?_
                refine ⟨hsub (.cons _ (.cons _ (.cons _ (.cons _ (.refl _))))), ?_⟩
                refine H_one 9 rfl (by kernel_rfl) rfl (op_y (y_load rfl ag_24 (sees 0 0 rfl) rfl) rfl ?_)
                refine ⟨hsub (.cons _ (.cons _ (.cons _ (.cons _ (.refl _))))), ?_⟩
                refine H_one 12 rfl (by kernel_rfl) rfl (op_call rfl rfl (fun a w => Try.call62 a w) rfl ?_)
                refine ((write_d h8 true n s hs (by have := hQ true; have q2 := Da.write_many A false n s true; omega)).sub (hsub_pick [1] rfl)).mono ?_
                rintro _ _ ⟨rfl, D12, h12, rfl⟩
                refine ⟨_, rfl, ?_⟩
                refine ⟨hsub (.cons _ (.cons _ (.cons _ (.cons _ (.refl _))))), ?_⟩
                refine HY 13 rfl (hsub (.cons _ (.cons _ (.cons _ (.cons _ (.refl _)))))) rfl (y_eqi rfl rfl) ?_
                refine H_case 42 rfl (fun hg9_14 => ?_) (fun hg9_14 => ?_)
                · skip
                  refine HY 14 rfl (hsub (.cons _ (.cons _ (.cons _ (.cons _ (.refl _)))))) rfl (y_pick_f rfl rfl) ?_
                  refine HY 15 rfl (hsub (.cons _ (.cons _ (.cons _ (.cons _ (.refl _)))))) rfl (y_indexA rfl rfl Try.underlying62 sz_4 (by omega) (by omega) (show _ = 1 from rfl)) ?_
                  refine H_one 16 rfl (by kernel_rfl) rfl (op_store1 2 0 rfl rfl rfl sz_4 rfl (Nat.le_of_ble_eq_true rfl) ?_)
                  refine ⟨hsub (.cons _ (.cons _ (.cons _ (.cons _ (.refl _))))), ?_⟩
                  refine H_done (by kernel_rfl) ?_
                  refine C_region ?_
                  refine LY rfl (y_add rfl rfl (show _ = (2 : Int) from rfl)) ?_
                  refine LY rfl (y_move rfl) (L_nil ?_)
                  refine In_round ?_
                  refine C_seq (C_region (LY rfl (y_lss rfl rfl) (L_nil (C_seq (C_cond_f rfl (C_exit (C_seq (C_seq (C_region ?_)))))))))
                  refine LY rfl (y_indexA rfl rfl Try.underlying62 sz_4 (by omega) (by omega) (show _ = 0 from rfl)) ?_
                  refine LY rfl (y_load rfl ag_4 (sees 2 0 rfl) rfl) (LY rfl (y_not rfl) (LY rfl (y_move rfl) ?_))
                  refine LY rfl (y_indexA rfl rfl Try.underlying62 sz_4 (by omega) (by omega) (show _ = 1 from rfl)) ?_
                  refine LY rfl (y_load rfl ag_4 (sees 2 0 rfl) rfl) (LY rfl (y_not rfl) (LY rfl (y_pick_t rfl rfl) (L_nil (C_cond_f rfl (C_skip (C_seq (C_seq (C_region (LY rfl (y_move rfl) (L_nil (C_block ?_)))))))))))
                  refine C_loopIn (In_round ?_)
                  refine C_seq (C_region (LY rfl (y_lss rfl rfl) (L_nil (C_seq (C_cond_t rfl (C_skip (C_seq (C_block (C_seq (C_region (LY rfl (y_move rfl) (LY rfl (y_assign rfl) (L_nil (C_seq (C_region (LY rfl (y_move rfl) ?_))))))))))))))))
                  refine LY rfl (y_indexA rfl rfl Try.underlying62 sz_4 (by omega) (by omega) (show _ = 0 from rfl)) ?_
                  refine LY rfl (y_load rfl ag_4 (sees 2 0 rfl) rfl) (L_nil (C_cond_f rfl (C_region (LY rfl (y_move rfl) (LY rfl (y_move rfl) (LY rfl (y_nilCheck rfl) (LY rfl (y_fieldAddr rfl fl_110_0) ?_)))))))
                  refine LY rfl (y_indexA rfl rfl Try.underlying108 sz_107 (by omega) (by omega) (show _ = 0 from rfl)) ?_
                  refine LY rfl (y_fieldAddr rfl fl_107_1) (LY rfl (y_load rfl ag_105 (sees 1 0 rfl) rfl) (LY rfl (y_move rfl) ?_))
                  refine L_op rfl (op_mapUpdate 1 1 rfl rfl rfl Try.underlying105 Try.underlying3 rfl rfl ?_)
                  refine L_nil (C_region ?_)
                  refine LY rfl (y_add rfl rfl (show _ = (1 : Int) from rfl)) ?_
                  refine LY rfl (y_move rfl) (L_nil ?_)
                  refine In_round ?_
                  refine C_seq (C_region (LY rfl (y_lss rfl rfl) (L_nil (C_seq (C_cond_t rfl (C_skip (C_seq (C_block (C_seq (C_region (LY rfl (y_move rfl) (LY rfl (y_assign rfl) (L_nil (C_seq (C_region (LY rfl (y_move rfl) ?_))))))))))))))))
                  refine LY rfl (y_indexA rfl rfl Try.underlying62 sz_4 (by omega) (by omega) (show _ = 1 from rfl)) ?_
                  refine LY rfl (y_load rfl ag_4 (sees 2 0 rfl) rfl) (L_nil (C_cond_t rfl (C_region (LY rfl (y_move rfl) (LY rfl (y_move rfl) (LY rfl (y_nilCheck rfl) (LY rfl (y_fieldAddr rfl fl_110_0) ?_)))))))
                  refine LY rfl (y_indexA rfl rfl Try.underlying108 sz_107 (by omega) (by omega) (show _ = 2 from rfl)) ?_
                  refine LY rfl (y_fieldAddr rfl fl_107_1) (LY rfl (y_load rfl ag_105 (sees 1 0 rfl) rfl) (LY rfl (y_move rfl) ?_))
                  refine L_op rfl (op_delete 1 2 rfl rfl rfl Try.underlying105 Try.underlying3 rfl rfl ?_)
                  refine L_nil (C_region ?_)
                  refine LY rfl (y_add rfl rfl (show _ = (2 : Int) from rfl)) ?_
                  refine LY rfl (y_move rfl) (L_nil ?_)
                  refine In_round ?_
                  refine C_seq (C_region (LY rfl (y_lss rfl rfl) (L_nil (C_seq (C_cond_f rfl (C_exit (C_seq (C_region (LY rfl (y_assign rfl) (L_nil (C_ret ?_)))))))))))
                  refine B_ret (rv_tmp rfl rv_nil) ((hsub (.cons_cons _ (.cons_cons _ (.cons _ (.cons _ (.refl _)))))).trans (hsub_pick [1, 0] rfl)) ?_
                  have e0 : putD A ask n s false = false := by simp_all [putD, pd]
                  have e1 : putD A ask n s true = true := by simp_all [putD, pd, pA]
                  have ea : putA A ask n s = ((A.write false n s).write true n s) := by simp_all [putA, pA]
                  have em : putm m A ask n s = m.mark n false true := by simp [putm, hn, e0, e1]
                  exact ⟨ret_int (by simp [putE, hn, e0, e1]), D12, h12.to (by simp [putDa, hn, ea]), by rw [em]; rfl⟩
                · skip
                  refine HY 14 rfl (hsub (.cons _ (.cons _ (.cons _ (.cons _ (.refl _)))))) rfl (y_pick_f rfl rfl) ?_
                  refine HY 15 rfl (hsub (.cons _ (.cons _ (.cons _ (.cons _ (.refl _)))))) rfl (y_indexA rfl rfl Try.underlying62 sz_4 (by omega) (by omega) (show _ = 1 from rfl)) ?_
                  refine H_one 16 rfl (by kernel_rfl) rfl (op_store1 2 0 rfl rfl rfl sz_4 rfl (Nat.le_of_ble_eq_true rfl) ?_)
                  refine ⟨hsub (.cons _ (.cons _ (.cons _ (.cons _ (.refl _))))), ?_⟩
                  refine H_done (by kernel_rfl) ?_
                  refine C_region ?_
                  refine LY rfl (y_add rfl rfl (show _ = (2 : Int) from rfl)) ?_
                  refine LY rfl (y_move rfl) (L_nil ?_)
                  refine In_round ?_
                  refine C_seq (C_region (LY rfl (y_lss rfl rfl) (L_nil (C_seq (C_cond_f rfl (C_exit (C_seq (C_seq (C_region ?_)))))))))
                  refine LY rfl (y_indexA rfl rfl Try.underlying62 sz_4 (by omega) (by omega) (show _ = 0 from rfl)) ?_
                  refine LY rfl (y_load rfl ag_4 (sees 2 0 rfl) rfl) (LY rfl (y_not rfl) (LY rfl (y_move rfl) ?_))
                  refine LY rfl (y_indexA rfl rfl Try.underlying62 sz_4 (by omega) (by omega) (show _ = 1 from rfl)) ?_
                  refine LY rfl (y_load rfl ag_4 (sees 2 0 rfl) rfl) (LY rfl (y_not rfl) (LY rfl (y_pick_t rfl rfl) (L_nil (C_cond_t rfl (C_seq (C_region (LY rfl (y_assign rfl) (L_nil (C_ret ?_)))))))))
                  refine B_ret (rv_tmp rfl rv_nil) ((hsub (.cons_cons _ (.cons_cons _ (.cons _ (.cons _ (.refl _)))))).trans (hsub_pick [1, 0] rfl)) ?_
                  have e0 : putD A ask n s false = false := by simp_all [putD, pd]
                  have e1 : putD A ask n s true = false := by simp_all [putD, pd, pA]
                  have ea : putA A ask n s = ((A.write false n s).write true n s) := by simp_all [putA, pA]
                  have em : putm m A ask n s = m := by simp [putm, hn, e0, e1]
                  exact ⟨ret_int (by simp [putE, hn, e0, e1]), D12, h12.to (by simp [putDa, hn, ea]), by rw [em]; rfl⟩
          · skip
            refine C_skip (C_region ?_)
            refine LY rfl (y_add rfl rfl (show _ = (2 : Int) from rfl)) ?_
            refine LY rfl (y_move rfl) (L_nil ?_)
            refine In_round ?_
            refine C_seq (C_region (LY rfl (y_lss rfl rfl) (L_nil (C_seq (C_cond_f rfl (C_exit (C_seq (C_seq (C_region ?_)))))))))
            refine LY rfl (y_indexA rfl rfl Try.underlying62 sz_4 (by omega) (by omega) (show _ = 0 from rfl)) ?_
            refine LY rfl (y_load rfl ag_4 (sees 2 0 rfl) rfl) (LY rfl (y_not rfl) (LY rfl (y_move rfl) ?_))
            refine LY rfl (y_indexA rfl rfl Try.underlying62 sz_4 (by omega) (by omega) (show _ = 1 from rfl)) ?_
            refine LY rfl (y_load rfl ag_4 (sees 2 0 rfl) rfl) (LY rfl (y_not rfl) (LY rfl (y_pick_t rfl rfl) (L_nil (C_cond_t rfl (C_seq (C_region (LY rfl (y_assign rfl) (L_nil (C_ret ?_)))))))))
            refine B_ret (rv_tmp rfl rv_nil) ((hsub (.cons_cons _ (.cons_cons _ (.cons _ (.cons _ (.refl _)))))).trans (hsub_pick [1, 0] rfl)) ?_
            have e0 : putD A ask n s false = false := by simp_all [putD, pd]
            have e1 : putD A ask n s true = false := by simp_all [putD, pd, pA]
            have ea : putA A ask n s = (A.write false n s) := by simp_all [putA, pA]
            have em : putm m A ask n s = m := by simp [putm, hn, e0, e1]
            exact ⟨ret_int (by simp [putE, hn, e0, e1]), D8, h8.to (by simp [putDa, hn, ea]), by rw [em]; rfl⟩
  · skip
    refine C_skip (C_region ?_)
    refine LY rfl (y_add rfl rfl (show _ = (1 : Int) from rfl)) ?_
    refine LY rfl (y_move rfl) (L_nil ?_)
    refine In_round ?_
    refine C_seq (C_region (LY rfl (y_lss rfl rfl) (L_nil (C_seq (C_cond_t rfl (C_skip (C_seq (C_block (C_seq (C_region (LY rfl (y_move rfl) (LY rfl (y_assign rfl) (L_nil (C_seq (C_region (LY rfl (y_move rfl) (LY rfl (y_move rfl) (LY rfl (y_nilCheck rfl) (LY rfl (y_fieldAddr rfl fl_110_0) ?_)))))))))))))))))))
    refine LY rfl (y_indexA rfl rfl Try.underlying108 sz_107 (by omega) (by omega) (show _ = 2 from rfl)) ?_
    refine LY rfl (y_assign rfl) (L_nil (C_seq (C_region (LY rfl (y_move rfl) (LY rfl (y_nilCheck rfl) ?_)))))
    refine LY rfl (y_loadA rfl ag_107 sz_107 (sees 3 0 rfl) (Nat.le_of_ble_eq_true rfl) rfl) ?_
    refine L_op rfl (op_call rfl rfl (fun a w => Try.call53 a w) rfl ?_)
    refine ((there_d h true).sub (hsub_pick [0] rfl)).mono ?_
    rintro _ _ ⟨rfl, rfl⟩
    refine ⟨_, rfl, ?_⟩
    refine L_nil ?_
    refine C_cond rfl (fun hc2 => ?_) (fun hc2 => ?_)
    · skip
      refine C_regionH H (by kernel_rfl) ?_
      refine HY 0 rfl (hsub (.cons _ (.cons _ (.cons _ (.cons _ (.refl _)))))) rfl (y_move rfl) ?_
      refine HY 1 rfl (hsub (.cons _ (.cons _ (.cons _ (.cons _ (.refl _)))))) rfl (y_move rfl) ?_
      refine HY 2 rfl (hsub (.cons _ (.cons _ (.cons _ (.cons _ (.refl _)))))) rfl (y_move rfl) ?_
      refine H_one 3 rfl (by kernel_rfl) rfl (op_call (f := fa) (first := []) (cap := cap) rfl rfl hask.1 rfl ?_)
      refine FnS.mono (FnS.sub (hsub_pick [3, 0] rfl) (hask.2 true _ _ _ h (hsub (.cons _ (.cons _ (.refl _)))))) ?_
      rintro _ _ ⟨rfl, rfl⟩
      refine ⟨_, rfl, ?_⟩
      refine ⟨hsub (.cons _ (.cons _ (.cons _ (.cons _ (.refl _))))), ?_⟩
      refine HY 4 rfl (hsub (.cons _ (.cons _ (.cons _ (.cons _ (.refl _)))))) rfl (y_not rfl) ?_
      refine HY 5 rfl (hsub (.cons _ (.cons _ (.cons _ (.cons _ (.refl _)))))) rfl (y_move rfl) ?_
      refine H_case 34 rfl (fun hg9_6 => ?_) (fun hg9_6 => ?_)
      · skip
        refine HK 6 rfl (hsub (.cons _ (.cons _ (.cons _ (.cons _ (.refl _)))))) rfl ?_
        refine HK 7 rfl (hsub (.cons _ (.cons _ (.cons _ (.cons _ (.refl _)))))) rfl ?_
        refine HK 8 rfl (hsub (.cons _ (.cons _ (.cons _ (.cons _ (.refl _)))))) rfl ?_
        refine HK 9 rfl (hsub (.cons _ (.cons _ (.cons _ (.cons _ (.refl _)))))) rfl ?_
        refine HK 10 rfl (hsub (.cons _ (.cons _ (.cons _ (.cons _ (.refl _)))))) rfl ?_
        refine HK 11 rfl (hsub (.cons _ (.cons _ (.cons _ (.cons _ (.refl _)))))) rfl ?_
        refine HK 12 rfl (hsub (.cons _ (.cons _ (.cons _ (.cons _ (.refl _)))))) rfl ?_
        refine HK 13 rfl (hsub (.cons _ (.cons _ (.cons _ (.cons _ (.refl _)))))) rfl ?_
        refine HY 14 rfl (hsub (.cons _ (.cons _ (.cons _ (.cons _ (.refl _)))))) rfl (y_pick_t rfl rfl) ?_
        refine HY 15 rfl (hsub (.cons _ (.cons _ (.cons _ (.cons _ (.refl _)))))) rfl (y_indexA rfl rfl Try.underlying62 sz_4 (by omega) (by omega) (show _ = 1 from rfl)) ?_
        refine H_one 16 rfl (by kernel_rfl) rfl (op_store1 2 0 rfl rfl rfl sz_4 rfl (Nat.le_of_ble_eq_true rfl) ?_)
        refine ⟨hsub (.cons _ (.cons _ (.cons _ (.cons _ (.refl _))))), ?_⟩
        refine H_done (by kernel_rfl) ?_
        refine C_region ?_
        refine LY rfl (y_add rfl rfl (show _ = (2 : Int) from rfl)) ?_
        refine LY rfl (y_move rfl) (L_nil ?_)
        refine In_round ?_
        refine C_seq (C_region (LY rfl (y_lss rfl rfl) (L_nil (C_seq (C_cond_f rfl (C_exit (C_seq (C_seq (C_region ?_)))))))))
        refine LY rfl (y_indexA rfl rfl Try.underlying62 sz_4 (by omega) (by omega) (show _ = 0 from rfl)) ?_
        refine LY rfl (y_load rfl ag_4 (sees 2 0 rfl) rfl) (LY rfl (y_not rfl) (LY rfl (y_move rfl) ?_))
        refine LY rfl (y_indexA rfl rfl Try.underlying62 sz_4 (by omega) (by omega) (show _ = 1 from rfl)) ?_
        refine LY rfl (y_load rfl ag_4 (sees 2 0 rfl) rfl) (LY rfl (y_not rfl) (LY rfl (y_pick_t rfl rfl) (L_nil (C_cond_f rfl (C_skip (C_seq (C_seq (C_region (LY rfl (y_move rfl) (L_nil (C_block ?_)))))))))))
        refine C_loopIn (In_round ?_)
        refine C_seq (C_region (LY rfl (y_lss rfl rfl) (L_nil (C_seq (C_cond_t rfl (C_skip (C_seq (C_block (C_seq (C_region (LY rfl (y_move rfl) (LY rfl (y_assign rfl) (L_nil (C_seq (C_region (LY rfl (y_move rfl) ?_))))))))))))))))
        refine LY rfl (y_indexA rfl rfl Try.underlying62 sz_4 (by omega) (by omega) (show _ = 0 from rfl)) ?_
        refine LY rfl (y_load rfl ag_4 (sees 2 0 rfl) rfl) (L_nil (C_cond_f rfl (C_region (LY rfl (y_move rfl) (LY rfl (y_move rfl) (LY rfl (y_nilCheck rfl) (LY rfl (y_fieldAddr rfl fl_110_0) ?_)))))))
        refine LY rfl (y_indexA rfl rfl Try.underlying108 sz_107 (by omega) (by omega) (show _ = 0 from rfl)) ?_
        refine LY rfl (y_fieldAddr rfl fl_107_1) (LY rfl (y_load rfl ag_105 (sees 0 0 rfl) rfl) (LY rfl (y_move rfl) ?_))
        refine L_op rfl (op_mapUpdate 0 1 rfl rfl rfl Try.underlying105 Try.underlying3 rfl rfl ?_)
        refine L_nil (C_region ?_)
        refine LY rfl (y_add rfl rfl (show _ = (1 : Int) from rfl)) ?_
        refine LY rfl (y_move rfl) (L_nil ?_)
        refine In_round ?_
        refine C_seq (C_region (LY rfl (y_lss rfl rfl) (L_nil (C_seq (C_cond_t rfl (C_skip (C_seq (C_block (C_seq (C_region (LY rfl (y_move rfl) (LY rfl (y_assign rfl) (L_nil (C_seq (C_region (LY rfl (y_move rfl) ?_))))))))))))))))
        refine LY rfl (y_indexA rfl rfl Try.underlying62 sz_4 (by omega) (by omega) (show _ = 1 from rfl)) ?_
        refine LY rfl (y_load rfl ag_4 (sees 2 0 rfl) rfl) (L_nil (C_cond_t rfl (C_region (LY rfl (y_move rfl) (LY rfl (y_move rfl) (LY rfl (y_nilCheck rfl) (LY rfl (y_fieldAddr rfl fl_110_0) ?_)))))))
        refine LY rfl (y_indexA rfl rfl Try.underlying108 sz_107 (by omega) (by omega) (show _ = 2 from rfl)) ?_
        refine LY rfl (y_fieldAddr rfl fl_107_1) (LY rfl (y_load rfl ag_105 (sees 0 0 rfl) rfl) (LY rfl (y_move rfl) ?_))
        refine L_op rfl (op_delete 0 2 rfl rfl rfl Try.underlying105 Try.underlying3 rfl rfl ?_)
        refine L_nil (C_region ?_)
        refine LY rfl (y_add rfl rfl (show _ = (2 : Int) from rfl)) ?_
        refine LY rfl (y_move rfl) (L_nil ?_)
        refine In_round ?_
        refine C_seq (C_region (LY rfl (y_lss rfl rfl) (L_nil (C_seq (C_cond_f rfl (C_exit (C_seq (C_region (LY rfl (y_assign rfl) (L_nil (C_ret ?_)))))))))))
        refine B_ret (rv_tmp rfl rv_nil) ((hsub (.cons_cons _ (.cons_cons _ (.cons _ (.cons _ (.refl _)))))).trans (hsub_pick [0, 0] rfl)) ?_
        have e0 : putD A ask n s false = false := by simp_all [putD, pd]
        have e1 : putD A ask n s true = true := by simp_all [putD, pd, pA]
        have ea : putA A ask n s = A := by simp_all [putA, pA]
        have em : putm m A ask n s = m.mark n false true := by simp [putm, hn, e0, e1]
        exact ⟨ret_int (by simp [putE, hn, e0, e1]), D, h.to (by simp [putDa, hn, ea]), by rw [em]; rfl⟩
      · skip
        refine HY 6 rfl (hsub (.cons _ (.cons _ (.cons _ (.cons _ (.refl _)))))) rfl (y_move rfl) ?_
        refine HY 7 rfl (hsub (.cons _ (.cons _ (.cons _ (.cons _ (.refl _)))))) rfl (y_nilCheck rfl) ?_
        refine HY 8 rfl (hsub (.cons _ (.cons _ (.cons _ (.cons _ (.refl _)))))) rfl (y_fieldAddr rfl fl_107_0) ?_
        refine HY 10 rfl (hsub (.cons _ (.cons _ (.cons _ (.cons _ (.refl _)))))) rfl (y_move rfl) ?_
        refine H_two 9 11 rfl rfl (by kernel_rfl) rfl rfl ?_ ?_
        · refine op_y (y_load rfl ag_24 (sees 0 0 rfl) rfl) rfl ?_
          refine ⟨hsub (.cons _ (.cons _ (.cons _ (.cons _ (.refl _))))), ?_⟩
          refine H_one 11 rfl (by kernel_rfl) rfl (op_y (y_loadA rfl ag_32 sz_32 (sees 3 0 rfl) (by rw [bs_length, hs]; decide) (bs_whole0 _ hs)) rfl ?_)
          refine ⟨hsub (.cons _ (.cons _ (.cons _ (.cons _ (.refl _))))), ?_⟩
          refine H_one 12 rfl (by kernel_rfl) rfl (op_call rfl rfl (fun a w => Try.call62 a w) rfl ?_)
          refine ((write_d h true n s hs (by have := hQ true; omega)).sub (hsub_pick [1] rfl)).mono ?_
          rintro _ _ ⟨rfl, D13, h13, rfl⟩
          refine ⟨_, rfl, ?_⟩
          refine ⟨hsub (.cons _ (.cons _ (.cons _ (.cons _ (.refl _))))), ?_⟩
          refine HY 13 rfl (hsub (.cons _ (.cons _ (.cons _ (.cons _ (.refl _)))))) rfl (y_eqi rfl rfl) ?_
          refine H_case 42 rfl (fun hg9_14 => ?_) (fun hg9_14 => ?_)
          · skip
            refine HY 14 rfl (hsub (.cons _ (.cons _ (.cons _ (.cons _ (.refl _)))))) rfl (y_pick_f rfl rfl) ?_
            refine HY 15 rfl (hsub (.cons _ (.cons _ (.cons _ (.cons _ (.refl _)))))) rfl (y_indexA rfl rfl Try.underlying62 sz_4 (by omega) (by omega) (show _ = 1 from rfl)) ?_
            refine H_one 16 rfl (by kernel_rfl) rfl (op_store1 2 0 rfl rfl rfl sz_4 rfl (Nat.le_of_ble_eq_true rfl) ?_)
            refine ⟨hsub (.cons _ (.cons _ (.cons _ (.cons _ (.refl _))))), ?_⟩
            refine H_done (by kernel_rfl) ?_
            refine C_region ?_
            refine LY rfl (y_add rfl rfl (show _ = (2 : Int) from rfl)) ?_
            refine LY rfl (y_move rfl) (L_nil ?_)
            refine In_round ?_
            refine C_seq (C_region (LY rfl (y_lss rfl rfl) (L_nil (C_seq (C_cond_f rfl (C_exit (C_seq (C_seq (C_region ?_)))))))))
            refine LY rfl (y_indexA rfl rfl Try.underlying62 sz_4 (by omega) (by omega) (show _ = 0 from rfl)) ?_
            refine LY rfl (y_load rfl ag_4 (sees 2 0 rfl) rfl) (LY rfl (y_not rfl) (LY rfl (y_move rfl) ?_))
            refine LY rfl (y_indexA rfl rfl Try.underlying62 sz_4 (by omega) (by omega) (show _ = 1 from rfl)) ?_
            refine LY rfl (y_load rfl ag_4 (sees 2 0 rfl) rfl) (LY rfl (y_not rfl) (LY rfl (y_pick_t rfl rfl) (L_nil (C_cond_f rfl (C_skip (C_seq (C_seq (C_region (LY rfl (y_move rfl) (L_nil (C_block ?_)))))))))))
            refine C_loopIn (In_round ?_)
            refine C_seq (C_region (LY rfl (y_lss rfl rfl) (L_nil (C_seq (C_cond_t rfl (C_skip (C_seq (C_block (C_seq (C_region (LY rfl (y_move rfl) (LY rfl (y_assign rfl) (L_nil (C_seq (C_region (LY rfl (y_move rfl) ?_))))))))))))))))
            refine LY rfl (y_indexA rfl rfl Try.underlying62 sz_4 (by omega) (by omega) (show _ = 0 from rfl)) ?_
            refine LY rfl (y_load rfl ag_4 (sees 2 0 rfl) rfl) (L_nil (C_cond_f rfl (C_region (LY rfl (y_move rfl) (LY rfl (y_move rfl) (LY rfl (y_nilCheck rfl) (LY rfl (y_fieldAddr rfl fl_110_0) ?_)))))))
            refine LY rfl (y_indexA rfl rfl Try.underlying108 sz_107 (by omega) (by omega) (show _ = 0 from rfl)) ?_
            refine LY rfl (y_fieldAddr rfl fl_107_1) (LY rfl (y_load rfl ag_105 (sees 1 0 rfl) rfl) (LY rfl (y_move rfl) ?_))
            refine L_op rfl (op_mapUpdate 1 1 rfl rfl rfl Try.underlying105 Try.underlying3 rfl rfl ?_)
            refine L_nil (C_region ?_)
            refine LY rfl (y_add rfl rfl (show _ = (1 : Int) from rfl)) ?_
            refine LY rfl (y_move rfl) (L_nil ?_)
            refine In_round ?_
            refine C_seq (C_region (LY rfl (y_lss rfl rfl) (L_nil (C_seq (C_cond_t rfl (C_skip (C_seq (C_block (C_seq (C_region (LY rfl (y_move rfl) (LY rfl (y_assign rfl) (L_nil (C_seq (C_region (LY rfl (y_move rfl) ?_))))))))))))))))
            refine LY rfl (y_indexA rfl rfl Try.underlying62 sz_4 (by omega) (by omega) (show _ = 1 from rfl)) ?_
            refine LY rfl (y_load rfl ag_4 (sees 2 0 rfl) rfl) (L_nil (C_cond_t rfl (C_region (LY rfl (y_move rfl) (LY rfl (y_move rfl) (LY rfl (y_nilCheck rfl) (LY rfl (y_fieldAddr rfl fl_110_0) ?_)))))))
            refine LY rfl (y_indexA rfl rfl Try.underlying108 sz_107 (by omega) (by omega) (show _ = 2 from rfl)) ?_
            refine LY rfl (y_fieldAddr rfl fl_107_1) (LY rfl (y_load rfl ag_105 (sees 1 0 rfl) rfl) (LY rfl (y_move rfl) ?_))
            refine L_op rfl (op_delete 1 2 rfl rfl rfl Try.underlying105 Try.underlying3 rfl rfl ?_)
            refine L_nil (C_region ?_)
            refine LY rfl (y_add rfl rfl (show _ = (2 : Int) from rfl)) ?_
            refine LY rfl (y_move rfl) (L_nil ?_)
            refine In_round ?_
            refine C_seq (C_region (LY rfl (y_lss rfl rfl) (L_nil (C_seq (C_cond_f rfl (C_exit (C_seq (C_region (LY rfl (y_assign rfl) (L_nil (C_ret ?_)))))))))))
            refine B_ret (rv_tmp rfl rv_nil) ((hsub (.cons_cons _ (.cons_cons _ (.cons _ (.cons _ (.refl _)))))).trans (hsub_pick [1, 0] rfl)) ?_
            have e0 : putD A ask n s false = false := by simp_all [putD, pd]
            have e1 : putD A ask n s true = true := by simp_all [putD, pd, pA]
            have ea : putA A ask n s = (A.write true n s) := by simp_all [putA, pA]
            have em : putm m A ask n s = m.mark n false true := by simp [putm, hn, e0, e1]
            exact ⟨ret_int (by simp [putE, hn, e0, e1]), D13, h13.to (by simp [putDa, hn, ea]), by rw [em]; rfl⟩
          · skip
            refine HY 14 rfl (hsub (.cons _ (.cons _ (.cons _ (.cons _ (.refl _)))))) rfl (y_pick_f rfl rfl) ?_
            refine HY 15 rfl (hsub (.cons _ (.cons _ (.cons _ (.cons _ (.refl _)))))) rfl (y_indexA rfl rfl Try.underlying62 sz_4 (by omega) (by omega) (show _ = 1 from rfl)) ?_
            refine H_one 16 rfl (by kernel_rfl) rfl (op_store1 2 0 rfl rfl rfl sz_4 rfl (Nat.le_of_ble_eq_true rfl) ?_)
            refine ⟨hsub (.cons _ (.cons _ (.cons _ (.cons _ (.refl _))))), ?_⟩
            refine H_done (by kernel_rfl) ?_
            refine C_region ?_
            refine LY rfl (y_add rfl rfl (show _ = (2 : Int) from rfl)) ?_
            refine LY rfl (y_move rfl) (L_nil ?_)
            refine In_round ?_
            refine C_seq (C_region (LY rfl (y_lss rfl rfl) (L_nil (C_seq (C_cond_f rfl (C_exit (C_seq (C_seq (C_region ?_)))))))))
            refine LY rfl (y_indexA rfl rfl Try.underlying62 sz_4 (by omega) (by omega) (show _ = 0 from rfl)) ?_
            refine LY rfl (y_load rfl ag_4 (sees 2 0 rfl) rfl) (LY rfl (y_not rfl) (LY rfl (y_move rfl) ?_))
            refine LY rfl (y_indexA rfl rfl Try.underlying62 sz_4 (by omega) (by omega) (show _ = 1 from rfl)) ?_
            refine LY rfl (y_load rfl ag_4 (sees 2 0 rfl) rfl) (LY rfl (y_not rfl) (LY rfl (y_pick_t rfl rfl) (L_nil (C_cond_t rfl (C_seq (C_region (LY rfl (y_assign rfl) (L_nil (C_ret ?_)))))))))
            refine B_ret (rv_tmp rfl rv_nil) ((hsub (.cons_cons _ (.cons_cons _ (.cons _ (.cons _ (.refl _)))))).trans (hsub_pick [1, 0] rfl)) ?_
            have e0 : putD A ask n s false = false := by simp_all [putD, pd]
            have e1 : putD A ask n s true = false := by simp_all [putD, pd, pA]
            have ea : putA A ask n s = (A.write true n s) := by simp_all [putA, pA]
            have em : putm m A ask n s = m := by simp [putm, hn, e0, e1]
            exact ⟨ret_int (by simp [putE, hn, e0, e1]), D13, h13.to (by simp [putDa, hn, ea]), by rw [em]; rfl⟩
        · refine op_y (y_loadA rfl ag_32 sz_32 (sees 3 0 rfl) (by rw [bs_length, hs]; decide) (bs_whole0 _ hs)) rfl ?_
          refine ⟨hsub (.cons _ (.cons _ (.cons _ (.cons _ (.refl _))))), ?_⟩
          refine H_one 9 rfl (by kernel_rfl) rfl (op_y (y_load rfl ag_24 (sees 0 0 rfl) rfl) rfl ?_)
          refine ⟨hsub (.cons _ (.cons _ (.cons _ (.cons _ (.refl _))))), ?_⟩
          refine H_one 12 rfl (by kernel_rfl) rfl (op_call rfl rfl (fun a w => Try.call62 a w) rfl ?_)
          refine ((write_d h true n s hs (by have := hQ true; omega)).sub (hsub_pick [1] rfl)).mono ?_
          rintro _ _ ⟨rfl, D14, h14, rfl⟩
          refine ⟨_, rfl, ?_⟩
          refine ⟨hsub (.cons _ (.cons _ (.cons _ (.cons _ (.refl _))))), ?_⟩
          refine HY 13 rfl (hsub (.cons _ (.cons _ (.cons _ (.cons _ (.refl _)))))) rfl (y_eqi rfl rfl) ?_
          refine H_case 42 rfl (fun hg9_14 => ?_) (fun hg9_14 => ?_)
          · skip
            refine HY 14 rfl (hsub (.cons _ (.cons _ (.cons _ (.cons _ (.refl _)))))) rfl (y_pick_f rfl rfl) ?_
            refine HY 15 rfl (hsub (.cons _ (.cons _ (.cons _ (.cons _ (.refl _)))))) rfl (y_indexA rfl rfl Try.underlying62 sz_4 (by omega) (by omega) (show _ = 1 from rfl)) ?_
            refine H_one 16 rfl (by kernel_rfl) rfl (op_store1 2 0 rfl rfl rfl sz_4 rfl (Nat.le_of_ble_eq_true rfl) ?_)
            refine ⟨hsub (.cons _ (.cons _ (.cons _ (.cons _ (.refl _))))), ?_⟩
            refine H_done (by kernel_rfl) ?_
            refine C_region ?_
            refine LY rfl (y_add rfl rfl (show _ = (2 : Int) from rfl)) ?_
            refine LY rfl (y_move rfl) (L_nil ?_)
            refine In_round ?_
            refine C_seq (C_region (LY rfl (y_lss rfl rfl) (L_nil (C_seq (C_cond_f rfl (C_exit (C_seq (C_seq (C_region ?_)))))))))
            refine LY rfl (y_indexA rfl rfl Try.underlying62 sz_4 (by omega) (by omega) (show _ = 0 from rfl)) ?_
            refine LY rfl (y_load rfl ag_4 (sees 2 0 rfl) rfl) (LY rfl (y_not rfl) (LY rfl (y_move rfl) ?_))
            refine LY rfl (y_indexA rfl rfl Try.underlying62 sz_4 (by omega) (by omega) (show _ = 1 from rfl)) ?_
            refine LY rfl (y_load rfl ag_4 (sees 2 0 rfl) rfl) (LY rfl (y_not rfl) (LY rfl (y_pick_t rfl rfl) (L_nil (C_cond_f rfl (C_skip (C_seq (C_seq (C_region (LY rfl (y_move rfl) (L_nil (C_block ?_)))))))))))
            refine C_loopIn (In_round ?_)
            refine C_seq (C_region (LY rfl (y_lss rfl rfl) (L_nil (C_seq (C_cond_t rfl (C_skip (C_seq (C_block (C_seq (C_region (LY rfl (y_move rfl) (LY rfl (y_assign rfl) (L_nil (C_seq (C_region (LY rfl (y_move rfl) ?_))))))))))))))))
            refine LY rfl (y_indexA rfl rfl Try.underlying62 sz_4 (by omega) (by omega) (show _ = 0 from rfl)) ?_
            refine LY rfl (y_load rfl ag_4 (sees 2 0 rfl) rfl) (L_nil (C_cond_f rfl (C_region (LY rfl (y_move rfl) (LY rfl (y_move rfl) (LY rfl (y_nilCheck rfl) (LY rfl (y_fieldAddr rfl fl_110_0) ?_)))))))
            refine LY rfl (y_indexA rfl rfl Try.underlying108 sz_107 (by omega) (by omega) (show _ = 0 from rfl)) ?_
            refine LY rfl (y_fieldAddr rfl fl_107_1) (LY rfl (y_load rfl ag_105 (sees 1 0 rfl) rfl) (LY rfl (y_move rfl) ?_))
            refine L_op rfl (op_mapUpdate 1 1 rfl rfl rfl Try.underlying105 Try.underlying3 rfl rfl ?_)
            refine L_nil (C_region ?_)
            refine LY rfl (y_add rfl rfl (show _ = (1 : Int) from rfl)) ?_
            refine LY rfl (y_move rfl) (L_nil ?_)
            refine In_round ?_
            refine C_seq (C_region (LY rfl (y_lss rfl rfl) (L_nil (C_seq (C_cond_t rfl (C_skip (C_seq (C_block (C_seq (C_region (LY rfl (y_move rfl) (LY rfl (y_assign rfl) (L_nil (C_seq (C_region (LY rfl (y_move rfl) ?_))))))))))))))))
            refine LY rfl (y_indexA rfl rfl Try.underlying62 sz_4 (by omega) (by omega) (show _ = 1 from rfl)) ?_
            refine LY rfl (y_load rfl ag_4 (sees 2 0 rfl) rfl) (L_nil (C_cond_t rfl (C_region (LY rfl (y_move rfl) (LY rfl (y_move rfl) (LY rfl (y_nilCheck rfl) (LY rfl (y_fieldAddr rfl fl_110_0) ?_)))))))
            refine LY rfl (y_indexA rfl rfl Try.underlying108 sz_107 (by omega) (by omega) (show _ = 2 from rfl)) ?_
            refine LY rfl (y_fieldAddr rfl fl_107_1) (LY rfl (y_load rfl ag_105 (sees 1 0 rfl) rfl) (LY rfl (y_move rfl) ?_))
            refine L_op rfl (op_delete 1 2 rfl rfl rfl Try.underlying105 Try.underlying3 rfl rfl ?_)
            refine L_nil (C_region ?_)
            refine LY rfl (y_add rfl rfl (show _ = (2 : Int) from rfl)) ?_
            refine LY rfl (y_move rfl) (L_nil ?_)
            refine In_round ?_
            refine C_seq (C_region (LY rfl (y_lss rfl rfl) (L_nil (C_seq (C_cond_f rfl (C_exit (C_seq (C_region (LY rfl (y_assign rfl) (L_nil (C_ret ?_)))))))))))
            refine B_ret (rv_tmp rfl rv_nil) ((hsub (.cons_cons _ (.cons_cons _ (.cons _ (.cons _ (.refl _)))))).trans (hsub_pick [1, 0] rfl)) ?_
            have e0 : putD A ask n s false = false := by simp_all [putD, pd]
            have e1 : putD A ask n s true = true := by simp_all [putD, pd, pA]
            have ea : putA A ask n s = (A.write true n s) := by simp_all [putA, pA]
            have em : putm m A ask n s = m.mark n false true := by simp [putm, hn, e0, e1]
            exact ⟨ret_int (by simp [putE, hn, e0, e1]), D14, h14.to (by simp [putDa, hn, ea]), by rw [em]; rfl⟩
          · skip
            refine HY 14 rfl (hsub (.cons _ (.cons _ (.cons _ (.cons _ (.refl _)))))) rfl (y_pick_f rfl rfl) ?_
            refine HY 15 rfl (hsub (.cons _ (.cons _ (.cons _ (.cons _ (.refl _)))))) rfl (y_indexA rfl rfl Try.underlying62 sz_4 (by omega) (by omega) (show _ = 1 from rfl)) ?_
            refine H_one 16 rfl (by kernel_rfl) rfl (op_store1 2 0 rfl rfl rfl sz_4 rfl (Nat.le_of_ble_eq_true rfl) ?_)
            refine ⟨hsub (.cons _ (.cons _ (.cons _ (.cons _ (.refl _))))), ?_⟩
            refine H_done (by kernel_rfl) ?_
            refine C_region ?_
            refine LY rfl (y_add rfl rfl (show _ = (2 : Int) from rfl)) ?_
            refine LY rfl (y_move rfl) (L_nil ?_)
            refine In_round ?_
            refine C_seq (C_region (LY rfl (y_lss rfl rfl) (L_nil (C_seq (C_cond_f rfl (C_exit (C_seq (C_seq (C_region ?_)))))))))
            refine LY rfl (y_indexA rfl rfl Try.underlying62 sz_4 (by omega) (by omega) (show _ = 0 from rfl)) ?_
            refine LY rfl (y_load rfl ag_4 (sees 2 0 rfl) rfl) (LY rfl (y_not rfl) (LY rfl (y_move rfl) ?_))
            refine LY rfl (y_indexA rfl rfl Try.underlying62 sz_4 (by omega) (by omega) (show _ = 1 from rfl)) ?_
            refine LY rfl (y_load rfl ag_4 (sees 2 0 rfl) rfl) (LY rfl (y_not rfl) (LY rfl (y_pick_t rfl rfl) (L_nil (C_cond_t rfl (C_seq (C_region (LY rfl (y_assign rfl) (L_nil (C_ret ?_)))))))))
            refine B_ret (rv_tmp rfl rv_nil) ((hsub (.cons_cons _ (.cons_cons _ (.cons _ (.cons _ (.refl _)))))).trans (hsub_pick [1, 0] rfl)) ?_
            have e0 : putD A ask n s false = false := by simp_all [putD, pd]
            have e1 : putD A ask n s true = false := by simp_all [putD, pd, pA]
            have ea : putA A ask n s = (A.write true n s) := by simp_all [putA, pA]
            have em : putm m A ask n s = m := by simp [putm, hn, e0, e1]
            exact ⟨ret_int (by simp [putE, hn, e0, e1]), D14, h14.to (by simp [putDa, hn, ea]), by rw [em]; rfl⟩
    · skip
      refine C_skip (C_region ?_)
      refine LY rfl (y_add rfl rfl (show _ = (2 : Int) from rfl)) ?_
      refine LY rfl (y_move rfl) (L_nil ?_)
      refine In_round ?_
      refine C_seq (C_region (LY rfl (y_lss rfl rfl) (L_nil (C_seq (C_cond_f rfl (C_exit (C_seq (C_seq (C_region ?_)))))))))
      refine LY rfl (y_indexA rfl rfl Try.underlying62 sz_4 (by omega) (by omega) (show _ = 0 from rfl)) ?_
      refine LY rfl (y_load rfl ag_4 (sees 1 0 rfl) rfl) (LY rfl (y_not rfl) (LY rfl (y_move rfl) ?_))
      refine LY rfl (y_indexA rfl rfl Try.underlying62 sz_4 (by omega) (by omega) (show _ = 1 from rfl)) ?_
      refine LY rfl (y_load rfl ag_4 (sees 1 0 rfl) rfl) (LY rfl (y_not rfl) (LY rfl (y_pick_t rfl rfl) (L_nil (C_cond_t rfl (C_seq (C_region (LY rfl (y_assign rfl) (L_nil (C_ret ?_)))))))))
      refine B_ret (rv_tmp rfl rv_nil) ((hsub (.cons_cons _ (.cons_cons _ (.cons _ (.cons _ (.refl _)))))).trans (hsub_pick [3, 0] rfl)) ?_
      have e0 : putD A ask n s false = false := by simp_all [putD, pd]
      have e1 : putD A ask n s true = false := by simp_all [putD, pd, pA]
      have ea : putA A ask n s = A := by simp_all [putA, pA]
      have em : putm m A ask n s = m := by simp [putm, hn, e0, e1]
      exact ⟨ret_int (by simp [putE, hn, e0, e1]), D, h.to (by simp [putDa, hn, ea]), by rw [em]; rfl⟩

theorem put_m {w0 : World} {H : Hp} {D : Duo} {A : Da} {bp : Nat} {m : Mi} (h : Two dt D A m.bx m.bys bp) (n : Int) (s : Sec) (hs : s.length = 128) {fa : Nat} {cap : List Value} {ask : Da → Bool → Bool} (hask : AskAt Try.prog dt 110 w0 H m bp fa cap ask) (hQ : ∀ i, (A.dev i).Q.length < 99990) : FnS Try.prog w0 54 #[ptr m.b, .int .i64 n, .agg (bs s).toArray, .func (.func fa) #[] cap.toArray] (m.seg 110 :: D.seg dt :: H) (fun e H' => e = .returned (.int .i64 (putE m A ask n s)) ∧ ∃ D', Two dt D' (putDa m A ask n s) m.bx m.bys bp ∧ H' = (putm m A ask n s).seg 110 :: D'.seg dt :: H) := by
  cases hn : m.has n
  · exact put_no h n s hs hask hQ hn
  · exact put_yes h n s hs hask hQ hn

end Go.Proofs.Ytjjiclgbdenkkaa

/- walks (own work; the walks' lines by a program of this repo). -/
set_option linter.unusedVariables false
set_option linter.unusedSimpArgs false
set_option maxRecDepth 20000
namespace Go.Proofs.Ytjjiclgbdenkkaa
open Go.Sl
attribute [local irreducible] BodyQ WpC WpL WpS WpH OpW FnS


theorem ask_all {w0 : World} {H : Hp} {v : Value} : FnS Try.prog w0 55 #[v] H (fun e H' => e = .returned (.bool true) ∧ H' = H) := by
  refine FnS_intro (n := 3) (rs := [.tmp 2]) (vs := [v]) Try.func55 rfl Try.ntmps55 rfl rfl ?_
  refine C_seq (C_region (LY rfl (y_assign rfl) (L_nil (C_seq (C_region (LY rfl (y_assign rfl) (L_nil (C_ret ?_))))))))
  refine B_ret (rv_tmp rfl rv_nil) (HSub.refl _) ?_
  exact ⟨rfl, rfl⟩

theorem ask_new_f {w0 : World} {H : Hp} {D : Duo} {A : Da} {bp : Nat} {m : Mi} (h : Two dt D A m.bx m.bys bp) {b1 b2 T1 T2 : Nat} {n : Int} {s : Sec} (hs : s.length = 128) (s1 : Sees (fun w => St w0 w H) b1 (.cells [Value.int .i64 n].toArray T1)) (s2 : Sees (fun w => St w0 w H) b2 (.cells (bs s).toArray T2)) : FnS Try.prog w0 64 #[.pointer (some ⟨m.b, 0, none⟩), ptr b1, ptr b2] (m.seg 110 :: D.seg dt :: H) (fun e H' => e = .returned (.bool (askNew n s A false)) ∧ H' = m.seg 110 :: D.seg dt :: H) := by
  refine FnS_intro (n := 23) (rs := [.tmp 4]) (vs := [.pointer (some ⟨m.b, 0, none⟩), ptr b1, ptr b2]) Try.func64 rfl Try.ntmps64 rfl rfl ?_
  refine C_seq (C_region (LY rfl (y_assign rfl) (L_nil (C_seq ?_))))
  refine C_regionH0 (by kernel_rfl) ?_
  refine HY 0 rfl (((hsub (.cons_cons _ (.cons_cons _ (.refl _)))).trans (hsub_pick [0, 0] rfl))) rfl (y_move rfl) ?_
  refine HY 1 rfl (((hsub (.cons_cons _ (.cons_cons _ (.refl _)))).trans (hsub_pick [0, 0] rfl))) rfl (y_nilCheck rfl) ?_
  refine HY 2 rfl (((hsub (.cons_cons _ (.cons_cons _ (.refl _)))).trans (hsub_pick [0, 0] rfl))) rfl (y_fieldAddr rfl fl_107_0) ?_
  refine HY 3 rfl (((hsub (.cons_cons _ (.cons_cons _ (.refl _)))).trans (hsub_pick [0, 0] rfl))) rfl (y_load rfl ag_24 (sees 0 0 rfl) rfl) ?_
  refine HY 4 rfl (((hsub (.cons_cons _ (.cons_cons _ (.refl _)))).trans (hsub_pick [0, 0] rfl))) rfl (y_load rfl ag_3 (s1.up.up) rfl) ?_
  refine H_two 5 9 rfl rfl (by kernel_rfl) rfl rfl ?_ ?_
  · refine op_call rfl rfl (fun a w => Try.call60 a w) rfl ?_
    refine ((read_d h false (n)).sub (hsub_pick [1] rfl)).mono ?_
    rintro _ _ ⟨rfl, rfl⟩
    refine ⟨_, rfl, ?_⟩
    refine ⟨((hsub (.cons_cons _ (.cons_cons _ (.refl _)))).trans (hsub_pick [1, 0] rfl)), ?_⟩
    refine HY 6 rfl (((hsub (.cons_cons _ (.cons_cons _ (.refl _)))).trans (hsub_pick [1, 0] rfl))) rfl (y_move rfl) ?_
    refine HY 7 rfl (((hsub (.cons_cons _ (.cons_cons _ (.refl _)))).trans (hsub_pick [1, 0] rfl))) rfl (y_extract rfl rfl) ?_
    refine HY 8 rfl (((hsub (.cons_cons _ (.cons_cons _ (.refl _)))).trans (hsub_pick [1, 0] rfl))) rfl (y_extract rfl rfl) ?_
    refine H_one 9 rfl (by kernel_rfl) rfl (op_alloc zl_32 rfl (fun B1 => ?_))
    refine ⟨((hsub (.cons_cons _ (.cons_cons _ (.cons _ (.refl _))))).trans (hsub_pick [2, 1] rfl)), ?_⟩
    refine H_one 10 rfl (by kernel_rfl) rfl (op_storeA 0 0 rfl rfl rfl sz_32 (by rw [bs_length, rS_len _ h.oks]) rfl (bs_one _) (by simp) ?_)
    refine ⟨((hsub (.cons_cons _ (.cons_cons _ (.cons _ (.refl _))))).trans (hsub_pick [2, 1] rfl)), ?_⟩
    refine HY 11 rfl (((hsub (.cons_cons _ (.cons_cons _ (.cons _ (.refl _))))).trans (hsub_pick [2, 1] rfl))) rfl (y_assign rfl) ?_
    refine H_done (by kernel_rfl) ?_
    refine C_seq (C_region (LY rfl (y_move rfl) ?_))
    refine LY rfl (y_nei rfl rfl) ?_
    refine LY rfl (y_move rfl) ?_
    refine L_case 18 rfl (fun hg2_3 => ?_) (fun hg2_3 => ?_)
    · skip
      refine L_skip rfl rfl (L_skip rfl rfl (L_skip rfl rfl (LY rfl (y_pick_t rfl rfl) (LY rfl (y_assign rfl) (L_nil (C_ret ?_))))))
      refine B_ret (rv_tmp rfl rv_nil) ((hsub (.cons_cons _ (.cons_cons _ (.cons _ (.refl _))))).trans (hsub_pick [2, 1] rfl)) ?_
      exact ⟨ret_bool (by simp_all [askNew]), rfl⟩
    · skip
      refine LY rfl (y_loadA rfl ag_32 sz_32 (sees 0 0 rfl) (by rw [bs_length, rS_len _ h.oks]; decide) (bs_whole0 _ (rS_len _ h.oks))) ?_
      refine LY rfl (y_loadA rfl ag_32 sz_32 (s2.up.up.up) (by rw [bs_length, hs]; decide) (bs_whole0 _ hs)) ?_
      refine LY rfl (y_nea rfl rfl Try.underlying32 Try.underlying5 sz_5 eg_32 (rS_len _ h.oks) hs) ?_
      refine LY rfl (y_pick_f rfl rfl) (LY rfl (y_assign rfl) (L_nil (C_ret ?_)))
      refine B_ret (rv_tmp rfl rv_nil) ((hsub (.cons_cons _ (.cons_cons _ (.cons _ (.refl _))))).trans (hsub_pick [2, 1] rfl)) ?_
      exact ⟨ret_bool (by simp_all [askNew]), rfl⟩
  · refine op_alloc zl_32 rfl (fun B2 => ?_)
    refine ⟨((hsub (.cons_cons _ (.cons_cons _ (.cons _ (.refl _))))).trans (hsub_pick [1, 1] rfl)), ?_⟩
    refine H_one 5 rfl (by kernel_rfl) rfl (op_call rfl rfl (fun a w => Try.call60 a w) rfl ?_)
    refine ((read_d h false (n)).sub (hsub_pick [2] rfl)).mono ?_
    rintro _ _ ⟨rfl, rfl⟩
    refine ⟨_, rfl, ?_⟩
    refine ⟨((hsub (.cons_cons _ (.cons_cons _ (.cons _ (.refl _))))).trans (hsub_pick [2, 0] rfl)), ?_⟩
    refine HY 6 rfl (((hsub (.cons_cons _ (.cons_cons _ (.cons _ (.refl _))))).trans (hsub_pick [2, 0] rfl))) rfl (y_move rfl) ?_
    refine HY 7 rfl (((hsub (.cons_cons _ (.cons_cons _ (.cons _ (.refl _))))).trans (hsub_pick [2, 0] rfl))) rfl (y_extract rfl rfl) ?_
    refine HY 8 rfl (((hsub (.cons_cons _ (.cons_cons _ (.cons _ (.refl _))))).trans (hsub_pick [2, 0] rfl))) rfl (y_extract rfl rfl) ?_
    refine H_one 10 rfl (by kernel_rfl) rfl (op_storeA 1 0 rfl rfl rfl sz_32 (by rw [bs_length, rS_len _ h.oks]) rfl (bs_one _) (by simp) ?_)
    refine ⟨((hsub (.cons_cons _ (.cons_cons _ (.cons _ (.refl _))))).trans (hsub_pick [2, 0] rfl)), ?_⟩
    refine HY 11 rfl (((hsub (.cons_cons _ (.cons_cons _ (.cons _ (.refl _))))).trans (hsub_pick [2, 0] rfl))) rfl (y_assign rfl) ?_
    refine H_done (by kernel_rfl) ?_
    refine C_seq (C_region (LY rfl (y_move rfl) ?_))
    refine LY rfl (y_nei rfl rfl) ?_
    refine LY rfl (y_move rfl) ?_
    refine L_case 18 rfl (fun hg2_3 => ?_) (fun hg2_3 => ?_)
    · skip
      refine L_skip rfl rfl (L_skip rfl rfl (L_skip rfl rfl (LY rfl (y_pick_t rfl rfl) (LY rfl (y_assign rfl) (L_nil (C_ret ?_))))))
      refine B_ret (rv_tmp rfl rv_nil) ((hsub (.cons_cons _ (.cons_cons _ (.cons _ (.refl _))))).trans (hsub_pick [2, 0] rfl)) ?_
      exact ⟨ret_bool (by simp_all [askNew]), rfl⟩
    · skip
      refine LY rfl (y_loadA rfl ag_32 sz_32 (sees 1 0 rfl) (by rw [bs_length, rS_len _ h.oks]; decide) (bs_whole0 _ (rS_len _ h.oks))) ?_
      refine LY rfl (y_loadA rfl ag_32 sz_32 (s2.up.up.up) (by rw [bs_length, hs]; decide) (bs_whole0 _ hs)) ?_
      refine LY rfl (y_nea rfl rfl Try.underlying32 Try.underlying5 sz_5 eg_32 (rS_len _ h.oks) hs) ?_
      refine LY rfl (y_pick_f rfl rfl) (LY rfl (y_assign rfl) (L_nil (C_ret ?_)))
      refine B_ret (rv_tmp rfl rv_nil) ((hsub (.cons_cons _ (.cons_cons _ (.cons _ (.refl _))))).trans (hsub_pick [2, 0] rfl)) ?_
      exact ⟨ret_bool (by simp_all [askNew]), rfl⟩

theorem ask_new_t {w0 : World} {H : Hp} {D : Duo} {A : Da} {bp : Nat} {m : Mi} (h : Two dt D A m.bx m.bys bp) {b1 b2 T1 T2 : Nat} {n : Int} {s : Sec} (hs : s.length = 128) (s1 : Sees (fun w => St w0 w H) b1 (.cells [Value.int .i64 n].toArray T1)) (s2 : Sees (fun w => St w0 w H) b2 (.cells (bs s).toArray T2)) : FnS Try.prog w0 64 #[.pointer (some ⟨m.b, 2, none⟩), ptr b1, ptr b2] (m.seg 110 :: D.seg dt :: H) (fun e H' => e = .returned (.bool (askNew n s A true)) ∧ H' = m.seg 110 :: D.seg dt :: H) := by
  refine FnS_intro (n := 23) (rs := [.tmp 4]) (vs := [.pointer (some ⟨m.b, 2, none⟩), ptr b1, ptr b2]) Try.func64 rfl Try.ntmps64 rfl rfl ?_
  refine C_seq (C_region (LY rfl (y_assign rfl) (L_nil (C_seq ?_))))
  refine C_regionH0 (by kernel_rfl) ?_
  refine HY 0 rfl (((hsub (.cons_cons _ (.cons_cons _ (.refl _)))).trans (hsub_pick [0, 0] rfl))) rfl (y_move rfl) ?_
  refine HY 1 rfl (((hsub (.cons_cons _ (.cons_cons _ (.refl _)))).trans (hsub_pick [0, 0] rfl))) rfl (y_nilCheck rfl) ?_
  refine HY 2 rfl (((hsub (.cons_cons _ (.cons_cons _ (.refl _)))).trans (hsub_pick [0, 0] rfl))) rfl (y_fieldAddr rfl fl_107_0) ?_
  refine HY 3 rfl (((hsub (.cons_cons _ (.cons_cons _ (.refl _)))).trans (hsub_pick [0, 0] rfl))) rfl (y_load rfl ag_24 (sees 0 0 rfl) rfl) ?_
  refine HY 4 rfl (((hsub (.cons_cons _ (.cons_cons _ (.refl _)))).trans (hsub_pick [0, 0] rfl))) rfl (y_load rfl ag_3 (s1.up.up) rfl) ?_
  refine H_two 5 9 rfl rfl (by kernel_rfl) rfl rfl ?_ ?_
  · refine op_call rfl rfl (fun a w => Try.call60 a w) rfl ?_
    refine ((read_d h true (n)).sub (hsub_pick [1] rfl)).mono ?_
    rintro _ _ ⟨rfl, rfl⟩
    refine ⟨_, rfl, ?_⟩
    refine ⟨((hsub (.cons_cons _ (.cons_cons _ (.refl _)))).trans (hsub_pick [1, 0] rfl)), ?_⟩
    refine HY 6 rfl (((hsub (.cons_cons _ (.cons_cons _ (.refl _)))).trans (hsub_pick [1, 0] rfl))) rfl (y_move rfl) ?_
    refine HY 7 rfl (((hsub (.cons_cons _ (.cons_cons _ (.refl _)))).trans (hsub_pick [1, 0] rfl))) rfl (y_extract rfl rfl) ?_
    refine HY 8 rfl (((hsub (.cons_cons _ (.cons_cons _ (.refl _)))).trans (hsub_pick [1, 0] rfl))) rfl (y_extract rfl rfl) ?_
    refine H_one 9 rfl (by kernel_rfl) rfl (op_alloc zl_32 rfl (fun B1 => ?_))
    refine ⟨((hsub (.cons_cons _ (.cons_cons _ (.cons _ (.refl _))))).trans (hsub_pick [2, 1] rfl)), ?_⟩
    refine H_one 10 rfl (by kernel_rfl) rfl (op_storeA 0 0 rfl rfl rfl sz_32 (by rw [bs_length, rS_len _ h.oks]) rfl (bs_one _) (by simp) ?_)
    refine ⟨((hsub (.cons_cons _ (.cons_cons _ (.cons _ (.refl _))))).trans (hsub_pick [2, 1] rfl)), ?_⟩
    refine HY 11 rfl (((hsub (.cons_cons _ (.cons_cons _ (.cons _ (.refl _))))).trans (hsub_pick [2, 1] rfl))) rfl (y_assign rfl) ?_
    refine H_done (by kernel_rfl) ?_
    refine C_seq (C_region (LY rfl (y_move rfl) ?_))
    refine LY rfl (y_nei rfl rfl) ?_
    refine LY rfl (y_move rfl) ?_
    refine L_case 18 rfl (fun hg2_3 => ?_) (fun hg2_3 => ?_)
    · skip
      refine L_skip rfl rfl (L_skip rfl rfl (L_skip rfl rfl (LY rfl (y_pick_t rfl rfl) (LY rfl (y_assign rfl) (L_nil (C_ret ?_))))))
      refine B_ret (rv_tmp rfl rv_nil) ((hsub (.cons_cons _ (.cons_cons _ (.cons _ (.refl _))))).trans (hsub_pick [2, 1] rfl)) ?_
      exact ⟨ret_bool (by simp_all [askNew]), rfl⟩
    · skip
      refine LY rfl (y_loadA rfl ag_32 sz_32 (sees 0 0 rfl) (by rw [bs_length, rS_len _ h.oks]; decide) (bs_whole0 _ (rS_len _ h.oks))) ?_
      refine LY rfl (y_loadA rfl ag_32 sz_32 (s2.up.up.up) (by rw [bs_length, hs]; decide) (bs_whole0 _ hs)) ?_
      refine LY rfl (y_nea rfl rfl Try.underlying32 Try.underlying5 sz_5 eg_32 (rS_len _ h.oks) hs) ?_
      refine LY rfl (y_pick_f rfl rfl) (LY rfl (y_assign rfl) (L_nil (C_ret ?_)))
      refine B_ret (rv_tmp rfl rv_nil) ((hsub (.cons_cons _ (.cons_cons _ (.cons _ (.refl _))))).trans (hsub_pick [2, 1] rfl)) ?_
      exact ⟨ret_bool (by simp_all [askNew]), rfl⟩
  · refine op_alloc zl_32 rfl (fun B2 => ?_)
    refine ⟨((hsub (.cons_cons _ (.cons_cons _ (.cons _ (.refl _))))).trans (hsub_pick [1, 1] rfl)), ?_⟩
    refine H_one 5 rfl (by kernel_rfl) rfl (op_call rfl rfl (fun a w => Try.call60 a w) rfl ?_)
    refine ((read_d h true (n)).sub (hsub_pick [2] rfl)).mono ?_
    rintro _ _ ⟨rfl, rfl⟩
    refine ⟨_, rfl, ?_⟩
    refine ⟨((hsub (.cons_cons _ (.cons_cons _ (.cons _ (.refl _))))).trans (hsub_pick [2, 0] rfl)), ?_⟩
    refine HY 6 rfl (((hsub (.cons_cons _ (.cons_cons _ (.cons _ (.refl _))))).trans (hsub_pick [2, 0] rfl))) rfl (y_move rfl) ?_
    refine HY 7 rfl (((hsub (.cons_cons _ (.cons_cons _ (.cons _ (.refl _))))).trans (hsub_pick [2, 0] rfl))) rfl (y_extract rfl rfl) ?_
    refine HY 8 rfl (((hsub (.cons_cons _ (.cons_cons _ (.cons _ (.refl _))))).trans (hsub_pick [2, 0] rfl))) rfl (y_extract rfl rfl) ?_
    refine H_one 10 rfl (by kernel_rfl) rfl (op_storeA 1 0 rfl rfl rfl sz_32 (by rw [bs_length, rS_len _ h.oks]) rfl (bs_one _) (by simp) ?_)
    refine ⟨((hsub (.cons_cons _ (.cons_cons _ (.cons _ (.refl _))))).trans (hsub_pick [2, 0] rfl)), ?_⟩
    refine HY 11 rfl (((hsub (.cons_cons _ (.cons_cons _ (.cons _ (.refl _))))).trans (hsub_pick [2, 0] rfl))) rfl (y_assign rfl) ?_
    refine H_done (by kernel_rfl) ?_
    refine C_seq (C_region (LY rfl (y_move rfl) ?_))
    refine LY rfl (y_nei rfl rfl) ?_
    refine LY rfl (y_move rfl) ?_
    refine L_case 18 rfl (fun hg2_3 => ?_) (fun hg2_3 => ?_)
    · skip
      refine L_skip rfl rfl (L_skip rfl rfl (L_skip rfl rfl (LY rfl (y_pick_t rfl rfl) (LY rfl (y_assign rfl) (L_nil (C_ret ?_))))))
      refine B_ret (rv_tmp rfl rv_nil) ((hsub (.cons_cons _ (.cons_cons _ (.cons _ (.refl _))))).trans (hsub_pick [2, 0] rfl)) ?_
      exact ⟨ret_bool (by simp_all [askNew]), rfl⟩
    · skip
      refine LY rfl (y_loadA rfl ag_32 sz_32 (sees 1 0 rfl) (by rw [bs_length, rS_len _ h.oks]; decide) (bs_whole0 _ (rS_len _ h.oks))) ?_
      refine LY rfl (y_loadA rfl ag_32 sz_32 (s2.up.up.up) (by rw [bs_length, hs]; decide) (bs_whole0 _ hs)) ?_
      refine LY rfl (y_nea rfl rfl Try.underlying32 Try.underlying5 sz_5 eg_32 (rS_len _ h.oks) hs) ?_
      refine LY rfl (y_pick_f rfl rfl) (LY rfl (y_assign rfl) (L_nil (C_ret ?_)))
      refine B_ret (rv_tmp rfl rv_nil) ((hsub (.cons_cons _ (.cons_cons _ (.cons _ (.refl _))))).trans (hsub_pick [2, 0] rfl)) ?_
      exact ⟨ret_bool (by simp_all [askNew]), rfl⟩

theorem mwrite_m {w0 : World} {H : Hp} {D : Duo} {A : Da} {bp : Nat} {m : Mi} (h : Two dt D A m.bx m.bys bp) (n : Int) (s : Sec) (hs : s.length = 128) (hQ : ∀ i, (A.dev i).Q.length < 99990) : FnS Try.prog w0 19 #[ptr m.b, .int .i64 n, .agg (bs s).toArray] (m.seg 110 :: D.seg dt :: H) (fun e H' => e = .returned (.int .i64 (putE m A askAll n s)) ∧ ∃ D', Two dt D' (putDa m A askAll n s) m.bx m.bys bp ∧ H' = (putm m A askAll n s).seg 110 :: D'.seg dt :: H) := by
  refine FnS_intro (n := 11) (rs := [.tmp 6]) (vs := [ptr m.b, .int .i64 n, .agg (bs s).toArray]) Try.func19 rfl Try.ntmps19 rfl rfl ?_
  refine C_seq (C_region ?_)
  refine L_op rfl (op_box rfl rfl rfl (fun B1 => ?_))
  refine LY rfl (y_assign rfl) (L_nil (C_seq (C_region (LY rfl (y_move rfl) (LY rfl (y_move rfl) ?_)))))
  refine LY rfl (y_loadA rfl ag_32 sz_32 (sees 0 0 rfl) (by rw [bs_length, hs]; decide) (bs_whole0 _ hs)) ?_
  refine L_op rfl (op_call rfl rfl (fun a w => Try.call54 a w) rfl ?_)
  refine (FnS.sub (hsub_pick [1, 1] rfl) (put_m h n s hs (cap := []) ⟨fun a w => Try.call55 a w, fun i D A X _ _ => ask_all⟩ hQ)).mono ?_
  rintro _ _ ⟨rfl, D1, h1, rfl⟩
  refine ⟨_, rfl, ?_⟩
  refine LY rfl (y_assign rfl) (L_nil (C_ret ?_))
  refine B_ret (rv_tmp rfl rv_nil) (hsub (.cons_cons _ (.cons_cons _ (.cons _ (.refl _))))) ?_
  exact ⟨rfl, D1, h1, rfl⟩

theorem mchoose_m {w0 : World} {H : Hp} {D : Duo} {A : Da} {bp : Nat} {m : Mi} (h : Two dt D A m.bx m.bys bp) (n : Int) (s : Sec) (hs : s.length = 128) (hQ : ∀ i, (A.dev i).Q.length < 99990) : FnS Try.prog w0 31 #[ptr m.b, .int .i64 n, .agg (bs s).toArray] (m.seg 110 :: D.seg dt :: H) (fun e H' => e = .returned (.int .i64 (putE m A (askNew n s) n s)) ∧ ∃ D', Two dt D' (putDa m A (askNew n s) n s) m.bx m.bys bp ∧ H' = (putm m A (askNew n s) n s).seg 110 :: D'.seg dt :: H) := by
  refine FnS_intro (n := 12) (rs := [.tmp 6]) (vs := [ptr m.b, .int .i64 n, .agg (bs s).toArray]) Try.func31 rfl Try.ntmps31 rfl rfl ?_
  refine C_seq (C_region ?_)
  refine L_op rfl (op_box rfl rfl rfl (fun B1 => ?_))
  refine L_op rfl (op_box rfl rfl rfl (fun B2 => ?_))
  refine LY rfl (y_assign rfl) (L_nil (C_seq (C_region (LY rfl (y_move rfl) (LY rfl (y_load rfl ag_3 (sees 1 0 rfl) rfl) ?_)))))
  refine LY rfl (y_loadA rfl ag_32 sz_32 (sees 0 0 rfl) (by rw [bs_length, hs]; decide) (bs_whole0 _ hs)) ?_
  refine LY rfl (y_makeFunc rfl rfl) ?_
  refine L_op rfl (op_call rfl rfl (fun a w => Try.call54 a w) rfl ?_)
  refine (FnS.sub (hsub_pick [2, 2] rfl) (put_m h n s hs (cap := [ptr B1, ptr B2]) ⟨fun a w => Try.call64 a w, fun i D A X hD hX => by
  cases i
  · exact ask_new_f hD hs ((sees 1 0 rfl).sub hX) ((sees 0 0 rfl).sub hX)
  · exact ask_new_t hD hs ((sees 1 0 rfl).sub hX) ((sees 0 0 rfl).sub hX)⟩ hQ)).mono ?_
  rintro _ _ ⟨rfl, D1, h1, rfl⟩
  refine ⟨_, rfl, ?_⟩
  refine LY rfl (y_assign rfl) (L_nil (C_ret ?_))
  refine B_ret (rv_tmp rfl rv_nil) (hsub (.cons_cons _ (.cons_cons _ (.cons _ (.cons _ (.refl _)))))) ?_
  exact ⟨rfl, D1, h1, rfl⟩

theorem sflush_f {w0 : World} {H : Hp} {D : Duo} {A : Da} {bp : Nat} {m : Mi} (h : Two dt D A m.bx m.bys bp) : FnS Try.prog w0 57 #[.pointer (some ⟨m.b, 0, none⟩)] (m.seg 110 :: D.seg dt :: H) (fun e H' => e = .returned (.int .i64 (A.fE false)) ∧ ∃ D', Two dt D' (A.flush false) m.bx m.bys bp ∧ H' = m.seg 110 :: D'.seg dt :: H) := by
  refine FnS_intro (n := 11) (rs := [.tmp 2]) (vs := [.pointer (some ⟨m.b, 0, none⟩)]) Try.func57 rfl Try.ntmps57 rfl rfl ?_
  refine C_seq (C_region (LY rfl (y_assign rfl) (L_nil (C_seq (C_region (LY rfl (y_move rfl) (LY rfl (y_nilCheck rfl) (LY rfl (y_fieldAddr rfl fl_107_0) (LY rfl (y_load rfl ag_24 (sees 0 0 rfl) rfl) ?_)))))))))
  refine LY rfl (y_makeFunc rfl rfl) ?_
  refine LY rfl (y_assign rfl) (L_nil (C_seq (C_region (LY rfl (y_move rfl) ?_))))
  refine L_op rfl (op_call rfl rfl (fun a w => Try.call86 a w) rfl ?_)
  refine ((flush_d h false).sub (hsub_pick [1] rfl)).mono ?_
  rintro _ _ ⟨rfl, D1, h1, rfl⟩
  refine ⟨_, rfl, ?_⟩
  refine LY rfl (y_assign rfl) (L_nil (C_ret ?_))
  refine B_ret (rv_tmp rfl rv_nil) ((hsub (.cons_cons _ (.cons_cons _ (.refl _)))).trans (hsub_pick [1, 0] rfl)) ?_
  exact ⟨rfl, D1, h1, rfl⟩

theorem sflush_t {w0 : World} {H : Hp} {D : Duo} {A : Da} {bp : Nat} {m : Mi} (h : Two dt D A m.bx m.bys bp) : FnS Try.prog w0 57 #[.pointer (some ⟨m.b, 2, none⟩)] (m.seg 110 :: D.seg dt :: H) (fun e H' => e = .returned (.int .i64 (A.fE true)) ∧ ∃ D', Two dt D' (A.flush true) m.bx m.bys bp ∧ H' = m.seg 110 :: D'.seg dt :: H) := by
  refine FnS_intro (n := 11) (rs := [.tmp 2]) (vs := [.pointer (some ⟨m.b, 2, none⟩)]) Try.func57 rfl Try.ntmps57 rfl rfl ?_
  refine C_seq (C_region (LY rfl (y_assign rfl) (L_nil (C_seq (C_region (LY rfl (y_move rfl) (LY rfl (y_nilCheck rfl) (LY rfl (y_fieldAddr rfl fl_107_0) (LY rfl (y_load rfl ag_24 (sees 0 0 rfl) rfl) ?_)))))))))
  refine LY rfl (y_makeFunc rfl rfl) ?_
  refine LY rfl (y_assign rfl) (L_nil (C_seq (C_region (LY rfl (y_move rfl) ?_))))
  refine L_op rfl (op_call rfl rfl (fun a w => Try.call86 a w) rfl ?_)
  refine ((flush_d h true).sub (hsub_pick [1] rfl)).mono ?_
  rintro _ _ ⟨rfl, D1, h1, rfl⟩
  refine ⟨_, rfl, ?_⟩
  refine LY rfl (y_assign rfl) (L_nil (C_ret ?_))
  refine B_ret (rv_tmp rfl rv_nil) ((hsub (.cons_cons _ (.cons_cons _ (.refl _)))).trans (hsub_pick [1, 0] rfl)) ?_
  exact ⟨rfl, D1, h1, rfl⟩

theorem all_tt {w0 : World} {H : Hp} {D : Duo} {A : Da} {bp : Nat} {m : Mi} (h : Two dt D A m.bx m.bys bp) (hp : thr A false = true) (hq : thr A true = true) : FnS Try.prog w0 56 #[ptr m.b, .func (.func 57) #[] #[]] (m.seg 110 :: D.seg dt :: H) (fun e H' => e = .returned (.int .i64 (mfl A).2) ∧ ∃ D', Two dt D' (mfl A).1 m.bx m.bys bp ∧ H' = m.seg 110 :: D'.seg dt :: H) := by
  refine FnS_intro (n := 30) (rs := [.tmp 4]) (vs := [ptr m.b, .func (.func 57) #[] #[]]) Try.func56 rfl Try.ntmps56 rfl rfl ?_
  refine C_seq (C_region (LY rfl (y_assign rfl) (L_nil (C_seq (C_region (LY rfl (y_move rfl) ?_))))))
  refine L_op rfl (op_call rfl rfl (fun a w => Try.call59 a w) rfl ?_)
  refine ((present_tt h hp hq).sub (hsub_pick [0, 0] rfl)).mono ?_
  rintro _ _ ⟨g1, hg1, rfl, rfl⟩
  cases g1 with
  | none => exact slOk_none hg1 (by decide)
  | some g1 => ?_
  refine ⟨_, rfl, ?_⟩
  refine LY rfl (y_assign rfl) (L_nil (C_seq (C_seq (C_region (LY rfl (y_move rfl) ?_)))))
  refine LY rfl (y_lenS rfl rfl Try.underlying118) ?_
  refine LY rfl (y_eqi rfl rfl) (L_nil (C_cond_f rfl (C_skip (C_seq (C_region (LY rfl (y_assign rfl) (L_nil (C_seq (C_seq (C_region (LY rfl (y_move rfl) ?_)))))))))))
  refine LY rfl (y_lenS rfl rfl Try.underlying118) ?_
  refine LY rfl (y_move rfl) (L_nil (C_block ?_))
  refine C_loopIn (In_round ?_)
  refine C_seq (C_region (LY rfl (y_lss rfl rfl) (L_nil (C_seq (C_cond_t rfl (C_skip (C_seq (C_block (C_seq (C_region ?_))))))))))
  refine LY rfl (y_indexS rfl rfl Try.underlying118 sz_3 (by omega) (by omega) (show _ = 0 from rfl)) ?_
  refine LY rfl (y_load rfl ag_3 (sees 0 0 rfl) rfl) (LY rfl (y_assign rfl) (L_nil (C_seq (C_region (LY rfl (y_move rfl) (LY rfl (y_move rfl) (LY rfl (y_move rfl) (LY rfl (y_nilCheck rfl) (LY rfl (y_fieldAddr rfl fl_110_0) ?_)))))))))
  refine LY rfl (y_indexA rfl rfl Try.underlying108 sz_107 (by omega) (by omega) (show _ = 0 from rfl)) ?_
  refine L_op rfl (op_call rfl rfl (fun a w => Try.call57 a w) rfl ?_)
  refine (FnS.sub (hsub_pick [1, 1] rfl) (sflush_f h)).mono ?_
  rintro _ _ ⟨rfl, D2, h2, rfl⟩
  refine ⟨_, rfl, ?_⟩
  refine LY rfl (y_nei rfl rfl) ?_
  refine L_nil ?_
  refine C_cond rfl (fun hc2 => ?_) (fun hc2 => ?_)
  · skip
    refine C_region (LY rfl (y_assign rfl) (L_nil (C_region ?_)))
    refine LY rfl (y_add rfl rfl (show _ = (1 : Int) from rfl)) ?_
    refine LY rfl (y_move rfl) (L_nil ?_)
    refine In_round ?_
    refine C_seq (C_region (LY rfl (y_lss rfl rfl) (L_nil (C_seq (C_cond_t rfl (C_skip (C_seq (C_block (C_seq (C_region ?_))))))))))
    refine LY rfl (y_indexS rfl rfl Try.underlying118 sz_3 (by omega) (by omega) (show _ = 1 from rfl)) ?_
    refine LY rfl (y_load rfl ag_3 (sees 2 0 rfl) rfl) (LY rfl (y_assign rfl) (L_nil (C_seq (C_region (LY rfl (y_move rfl) (LY rfl (y_move rfl) (LY rfl (y_move rfl) (LY rfl (y_nilCheck rfl) (LY rfl (y_fieldAddr rfl fl_110_0) ?_)))))))))
    refine LY rfl (y_indexA rfl rfl Try.underlying108 sz_107 (by omega) (by omega) (show _ = 2 from rfl)) ?_
    refine L_op rfl (op_call rfl rfl (fun a w => Try.call57 a w) rfl ?_)
    refine (FnS.sub (hsub_pick [0, 0] rfl) (sflush_t h2)).mono ?_
    rintro _ _ ⟨rfl, D3, h3, rfl⟩
    refine ⟨_, rfl, ?_⟩
    refine LY rfl (y_nei rfl rfl) ?_
    refine L_nil ?_
    refine C_cond rfl (fun hc2 => ?_) (fun hc2 => ?_)
    · skip
      refine C_region (LY rfl (y_assign rfl) (L_nil (C_region ?_)))
      refine LY rfl (y_add rfl rfl (show _ = (2 : Int) from rfl)) ?_
      refine LY rfl (y_move rfl) (L_nil ?_)
      refine In_round ?_
      refine C_seq (C_region (LY rfl (y_lss rfl rfl) (L_nil (C_seq (C_cond_f rfl (C_exit (C_seq (C_region (LY rfl (y_move rfl) (LY rfl (y_assign rfl) (L_nil (C_ret ?_))))))))))))
      refine B_ret (rv_tmp rfl rv_nil) ((hsub (.cons_cons _ (.cons_cons _ (.cons _ (.refl _))))).trans (hsub_pick [0, 0] rfl)) ?_
      exact ⟨ret_int (by simp_all [mfl, fl1]), D3, h3.to (by simp_all [mfl, fl1]), rfl⟩
    · skip
      refine C_skip (C_region ?_)
      refine LY rfl (y_add rfl rfl (show _ = (2 : Int) from rfl)) ?_
      refine LY rfl (y_move rfl) (L_nil ?_)
      refine In_round ?_
      refine C_seq (C_region (LY rfl (y_lss rfl rfl) (L_nil (C_seq (C_cond_f rfl (C_exit (C_seq (C_region (LY rfl (y_move rfl) (LY rfl (y_assign rfl) (L_nil (C_ret ?_))))))))))))
      refine B_ret (rv_tmp rfl rv_nil) ((hsub (.cons_cons _ (.cons_cons _ (.cons _ (.refl _))))).trans (hsub_pick [0, 0] rfl)) ?_
      exact ⟨ret_int (by simp_all [mfl, fl1]), D3, h3.to (by simp_all [mfl, fl1]), rfl⟩
  · skip
    refine C_skip (C_region ?_)
    refine LY rfl (y_add rfl rfl (show _ = (1 : Int) from rfl)) ?_
    refine LY rfl (y_move rfl) (L_nil ?_)
    refine In_round ?_
    refine C_seq (C_region (LY rfl (y_lss rfl rfl) (L_nil (C_seq (C_cond_t rfl (C_skip (C_seq (C_block (C_seq (C_region ?_))))))))))
    refine LY rfl (y_indexS rfl rfl Try.underlying118 sz_3 (by omega) (by omega) (show _ = 1 from rfl)) ?_
    refine LY rfl (y_load rfl ag_3 (sees 2 0 rfl) rfl) (LY rfl (y_assign rfl) (L_nil (C_seq (C_region (LY rfl (y_move rfl) (LY rfl (y_move rfl) (LY rfl (y_move rfl) (LY rfl (y_nilCheck rfl) (LY rfl (y_fieldAddr rfl fl_110_0) ?_)))))))))
    refine LY rfl (y_indexA rfl rfl Try.underlying108 sz_107 (by omega) (by omega) (show _ = 2 from rfl)) ?_
    refine L_op rfl (op_call rfl rfl (fun a w => Try.call57 a w) rfl ?_)
    refine (FnS.sub (hsub_pick [0, 0] rfl) (sflush_t h2)).mono ?_
    rintro _ _ ⟨rfl, D4, h4, rfl⟩
    refine ⟨_, rfl, ?_⟩
    refine LY rfl (y_nei rfl rfl) ?_
    refine L_nil ?_
    refine C_cond rfl (fun hc2 => ?_) (fun hc2 => ?_)
    · skip
      refine C_region (LY rfl (y_assign rfl) (L_nil (C_region ?_)))
      refine LY rfl (y_add rfl rfl (show _ = (2 : Int) from rfl)) ?_
      refine LY rfl (y_move rfl) (L_nil ?_)
      refine In_round ?_
      refine C_seq (C_region (LY rfl (y_lss rfl rfl) (L_nil (C_seq (C_cond_f rfl (C_exit (C_seq (C_region (LY rfl (y_move rfl) (LY rfl (y_assign rfl) (L_nil (C_ret ?_))))))))))))
      refine B_ret (rv_tmp rfl rv_nil) ((hsub (.cons_cons _ (.cons_cons _ (.cons _ (.refl _))))).trans (hsub_pick [0, 0] rfl)) ?_
      exact ⟨ret_int (by simp_all [mfl, fl1]), D4, h4.to (by simp_all [mfl, fl1]), rfl⟩
    · skip
      refine C_skip (C_region ?_)
      refine LY rfl (y_add rfl rfl (show _ = (2 : Int) from rfl)) ?_
      refine LY rfl (y_move rfl) (L_nil ?_)
      refine In_round ?_
      refine C_seq (C_region (LY rfl (y_lss rfl rfl) (L_nil (C_seq (C_cond_f rfl (C_exit (C_seq (C_region (LY rfl (y_move rfl) (LY rfl (y_assign rfl) (L_nil (C_ret ?_))))))))))))
      refine B_ret (rv_tmp rfl rv_nil) ((hsub (.cons_cons _ (.cons_cons _ (.cons _ (.refl _))))).trans (hsub_pick [0, 0] rfl)) ?_
      exact ⟨ret_int (by simp_all [mfl, fl1]), D4, h4.to (by simp_all [mfl, fl1]), rfl⟩

theorem all_tf {w0 : World} {H : Hp} {D : Duo} {A : Da} {bp : Nat} {m : Mi} (h : Two dt D A m.bx m.bys bp) (hp : thr A false = true) (hq : thr A true = false) : FnS Try.prog w0 56 #[ptr m.b, .func (.func 57) #[] #[]] (m.seg 110 :: D.seg dt :: H) (fun e H' => e = .returned (.int .i64 (mfl A).2) ∧ ∃ D', Two dt D' (mfl A).1 m.bx m.bys bp ∧ H' = m.seg 110 :: D'.seg dt :: H) := by
  refine FnS_intro (n := 30) (rs := [.tmp 4]) (vs := [ptr m.b, .func (.func 57) #[] #[]]) Try.func56 rfl Try.ntmps56 rfl rfl ?_
  refine C_seq (C_region (LY rfl (y_assign rfl) (L_nil (C_seq (C_region (LY rfl (y_move rfl) ?_))))))
  refine L_op rfl (op_call rfl rfl (fun a w => Try.call59 a w) rfl ?_)
  refine ((present_tf h hp hq).sub (hsub_pick [0, 0] rfl)).mono ?_
  rintro _ _ ⟨g1, hg1, rfl, rfl⟩
  cases g1 with
  | none => exact slOk_none hg1 (by decide)
  | some g1 => ?_
  refine ⟨_, rfl, ?_⟩
  refine LY rfl (y_assign rfl) (L_nil (C_seq (C_seq (C_region (LY rfl (y_move rfl) ?_)))))
  refine LY rfl (y_lenS rfl rfl Try.underlying118) ?_
  refine LY rfl (y_eqi rfl rfl) (L_nil (C_cond_f rfl (C_skip (C_seq (C_region (LY rfl (y_assign rfl) (L_nil (C_seq (C_seq (C_region (LY rfl (y_move rfl) ?_)))))))))))
  refine LY rfl (y_lenS rfl rfl Try.underlying118) ?_
  refine LY rfl (y_move rfl) (L_nil (C_block ?_))
  refine C_loopIn (In_round ?_)
  refine C_seq (C_region (LY rfl (y_lss rfl rfl) (L_nil (C_seq (C_cond_t rfl (C_skip (C_seq (C_block (C_seq (C_region ?_))))))))))
  refine LY rfl (y_indexS rfl rfl Try.underlying118 sz_3 (by omega) (by omega) (show _ = 0 from rfl)) ?_
  refine LY rfl (y_load rfl ag_3 (sees 0 0 rfl) rfl) (LY rfl (y_assign rfl) (L_nil (C_seq (C_region (LY rfl (y_move rfl) (LY rfl (y_move rfl) (LY rfl (y_move rfl) (LY rfl (y_nilCheck rfl) (LY rfl (y_fieldAddr rfl fl_110_0) ?_)))))))))
  refine LY rfl (y_indexA rfl rfl Try.underlying108 sz_107 (by omega) (by omega) (show _ = 0 from rfl)) ?_
  refine L_op rfl (op_call rfl rfl (fun a w => Try.call57 a w) rfl ?_)
  refine (FnS.sub (hsub_pick [1, 1] rfl) (sflush_f h)).mono ?_
  rintro _ _ ⟨rfl, D2, h2, rfl⟩
  refine ⟨_, rfl, ?_⟩
  refine LY rfl (y_nei rfl rfl) ?_
  refine L_nil ?_
  refine C_cond rfl (fun hc2 => ?_) (fun hc2 => ?_)
  · skip
    refine C_region (LY rfl (y_assign rfl) (L_nil (C_region ?_)))
    refine LY rfl (y_add rfl rfl (show _ = (1 : Int) from rfl)) ?_
    refine LY rfl (y_move rfl) (L_nil ?_)
    refine In_round ?_
    refine C_seq (C_region (LY rfl (y_lss rfl rfl) (L_nil (C_seq (C_cond_f rfl (C_exit (C_seq (C_region (LY rfl (y_move rfl) (LY rfl (y_assign rfl) (L_nil (C_ret ?_))))))))))))
    refine B_ret (rv_tmp rfl rv_nil) ((hsub (.cons_cons _ (.cons_cons _ (.cons _ (.refl _))))).trans (hsub_pick [0, 0] rfl)) ?_
    exact ⟨ret_int (by simp_all [mfl, fl1]), D2, h2.to (by simp_all [mfl, fl1]), rfl⟩
  · skip
    refine C_skip (C_region ?_)
    refine LY rfl (y_add rfl rfl (show _ = (1 : Int) from rfl)) ?_
    refine LY rfl (y_move rfl) (L_nil ?_)
    refine In_round ?_
    refine C_seq (C_region (LY rfl (y_lss rfl rfl) (L_nil (C_seq (C_cond_f rfl (C_exit (C_seq (C_region (LY rfl (y_move rfl) (LY rfl (y_assign rfl) (L_nil (C_ret ?_))))))))))))
    refine B_ret (rv_tmp rfl rv_nil) ((hsub (.cons_cons _ (.cons_cons _ (.cons _ (.refl _))))).trans (hsub_pick [0, 0] rfl)) ?_
    exact ⟨ret_int (by simp_all [mfl, fl1]), D2, h2.to (by simp_all [mfl, fl1]), rfl⟩

theorem all_ft {w0 : World} {H : Hp} {D : Duo} {A : Da} {bp : Nat} {m : Mi} (h : Two dt D A m.bx m.bys bp) (hp : thr A false = false) (hq : thr A true = true) : FnS Try.prog w0 56 #[ptr m.b, .func (.func 57) #[] #[]] (m.seg 110 :: D.seg dt :: H) (fun e H' => e = .returned (.int .i64 (mfl A).2) ∧ ∃ D', Two dt D' (mfl A).1 m.bx m.bys bp ∧ H' = m.seg 110 :: D'.seg dt :: H) := by
  refine FnS_intro (n := 30) (rs := [.tmp 4]) (vs := [ptr m.b, .func (.func 57) #[] #[]]) Try.func56 rfl Try.ntmps56 rfl rfl ?_
  refine C_seq (C_region (LY rfl (y_assign rfl) (L_nil (C_seq (C_region (LY rfl (y_move rfl) ?_))))))
  refine L_op rfl (op_call rfl rfl (fun a w => Try.call59 a w) rfl ?_)
  refine ((present_ft h hp hq).sub (hsub_pick [0, 0] rfl)).mono ?_
  rintro _ _ ⟨g1, hg1, rfl, rfl⟩
  cases g1 with
  | none => exact slOk_none hg1 (by decide)
  | some g1 => ?_
  refine ⟨_, rfl, ?_⟩
  refine LY rfl (y_assign rfl) (L_nil (C_seq (C_seq (C_region (LY rfl (y_move rfl) ?_)))))
  refine LY rfl (y_lenS rfl rfl Try.underlying118) ?_
  refine LY rfl (y_eqi rfl rfl) (L_nil (C_cond_f rfl (C_skip (C_seq (C_region (LY rfl (y_assign rfl) (L_nil (C_seq (C_seq (C_region (LY rfl (y_move rfl) ?_)))))))))))
  refine LY rfl (y_lenS rfl rfl Try.underlying118) ?_
  refine LY rfl (y_move rfl) (L_nil (C_block ?_))
  refine C_loopIn (In_round ?_)
  refine C_seq (C_region (LY rfl (y_lss rfl rfl) (L_nil (C_seq (C_cond_t rfl (C_skip (C_seq (C_block (C_seq (C_region ?_))))))))))
  refine LY rfl (y_indexS rfl rfl Try.underlying118 sz_3 (by omega) (by omega) (show _ = 0 from rfl)) ?_
  refine LY rfl (y_load rfl ag_3 (sees 0 0 rfl) rfl) (LY rfl (y_assign rfl) (L_nil (C_seq (C_region (LY rfl (y_move rfl) (LY rfl (y_move rfl) (LY rfl (y_move rfl) (LY rfl (y_nilCheck rfl) (LY rfl (y_fieldAddr rfl fl_110_0) ?_)))))))))
  refine LY rfl (y_indexA rfl rfl Try.underlying108 sz_107 (by omega) (by omega) (show _ = 2 from rfl)) ?_
  refine L_op rfl (op_call rfl rfl (fun a w => Try.call57 a w) rfl ?_)
  refine (FnS.sub (hsub_pick [1, 1] rfl) (sflush_t h)).mono ?_
  rintro _ _ ⟨rfl, D2, h2, rfl⟩
  refine ⟨_, rfl, ?_⟩
  refine LY rfl (y_nei rfl rfl) ?_
  refine L_nil ?_
  refine C_cond rfl (fun hc2 => ?_) (fun hc2 => ?_)
  · skip
    refine C_region (LY rfl (y_assign rfl) (L_nil (C_region ?_)))
    refine LY rfl (y_add rfl rfl (show _ = (1 : Int) from rfl)) ?_
    refine LY rfl (y_move rfl) (L_nil ?_)
    refine In_round ?_
    refine C_seq (C_region (LY rfl (y_lss rfl rfl) (L_nil (C_seq (C_cond_f rfl (C_exit (C_seq (C_region (LY rfl (y_move rfl) (LY rfl (y_assign rfl) (L_nil (C_ret ?_))))))))))))
    refine B_ret (rv_tmp rfl rv_nil) ((hsub (.cons_cons _ (.cons_cons _ (.cons _ (.refl _))))).trans (hsub_pick [0, 0] rfl)) ?_
    exact ⟨ret_int (by simp_all [mfl, fl1]), D2, h2.to (by simp_all [mfl, fl1]), rfl⟩
  · skip
    refine C_skip (C_region ?_)
    refine LY rfl (y_add rfl rfl (show _ = (1 : Int) from rfl)) ?_
    refine LY rfl (y_move rfl) (L_nil ?_)
    refine In_round ?_
    refine C_seq (C_region (LY rfl (y_lss rfl rfl) (L_nil (C_seq (C_cond_f rfl (C_exit (C_seq (C_region (LY rfl (y_move rfl) (LY rfl (y_assign rfl) (L_nil (C_ret ?_))))))))))))
    refine B_ret (rv_tmp rfl rv_nil) ((hsub (.cons_cons _ (.cons_cons _ (.cons _ (.refl _))))).trans (hsub_pick [0, 0] rfl)) ?_
    exact ⟨ret_int (by simp_all [mfl, fl1]), D2, h2.to (by simp_all [mfl, fl1]), rfl⟩

theorem all_ff {w0 : World} {H : Hp} {D : Duo} {A : Da} {bp : Nat} {m : Mi} (h : Two dt D A m.bx m.bys bp) (hp : thr A false = false) (hq : thr A true = false) : FnS Try.prog w0 56 #[ptr m.b, .func (.func 57) #[] #[]] (m.seg 110 :: D.seg dt :: H) (fun e H' => e = .returned (.int .i64 (mfl A).2) ∧ ∃ D', Two dt D' (mfl A).1 m.bx m.bys bp ∧ H' = m.seg 110 :: D'.seg dt :: H) := by
  refine FnS_intro (n := 30) (rs := [.tmp 4]) (vs := [ptr m.b, .func (.func 57) #[] #[]]) Try.func56 rfl Try.ntmps56 rfl rfl ?_
  refine C_seq (C_region (LY rfl (y_assign rfl) (L_nil (C_seq (C_region (LY rfl (y_move rfl) ?_))))))
  refine L_op rfl (op_call rfl rfl (fun a w => Try.call59 a w) rfl ?_)
  refine ((present_ff h hp hq).sub (hsub_pick [0, 0] rfl)).mono ?_
  rintro _ _ ⟨rfl, rfl⟩
  refine ⟨_, rfl, ?_⟩
  refine LY rfl (y_assign rfl) (L_nil (C_seq (C_seq (C_region (LY rfl (y_move rfl) ?_)))))
  refine LY rfl (y_lenS rfl rfl Try.underlying118) ?_
  refine LY rfl (y_eqi rfl rfl) (L_nil (C_cond_t rfl (C_seq (C_region (LY rfl (y_assign rfl) (L_nil (C_ret ?_)))))))
  refine B_ret (rv_tmp rfl rv_nil) ((hsub (.cons_cons _ (.cons_cons _ (.refl _)))).trans (hsub_pick [0, 0] rfl)) ?_
  exact ⟨ret_int (by simp_all [mfl, fl1]), D, h.to (by simp_all [mfl, fl1]), rfl⟩

theorem all_m {w0 : World} {H : Hp} {D : Duo} {A : Da} {bp : Nat} {m : Mi} (h : Two dt D A m.bx m.bys bp) : FnS Try.prog w0 56 #[ptr m.b, .func (.func 57) #[] #[]] (m.seg 110 :: D.seg dt :: H) (fun e H' => e = .returned (.int .i64 (mfl A).2) ∧ ∃ D', Two dt D' (mfl A).1 m.bx m.bys bp ∧ H' = m.seg 110 :: D'.seg dt :: H) := by
  cases hp : thr A false <;> cases hq : thr A true
  · exact all_ff h hp hq
  · exact all_ft h hp hq
  · exact all_tf h hp hq
  · exact all_tt h hp hq

theorem mflush_m {w0 : World} {H : Hp} {D : Duo} {A : Da} {bp : Nat} {m : Mi} (h : Two dt D A m.bx m.bys bp) : FnS Try.prog w0 21 #[ptr m.b] (m.seg 110 :: D.seg dt :: H) (fun e H' => e = .returned (.int .i64 (mfl A).2) ∧ ∃ D', Two dt D' (mfl A).1 m.bx m.bys bp ∧ H' = m.seg 110 :: D'.seg dt :: H) := by
  refine FnS_intro (n := 7) (rs := [.tmp 2]) (vs := [ptr m.b]) Try.func21 rfl Try.ntmps21 rfl rfl ?_
  refine C_seq (C_region (LY rfl (y_assign rfl) (L_nil (C_seq (C_seq (C_region (LY rfl (y_move rfl) ?_)))))))
  refine LY rfl (y_eqp rfl rfl Try.underlying26) ?_
  refine L_nil (C_cond_f rfl (C_skip (C_seq (C_region (LY rfl (y_move rfl) ?_)))))
  refine L_op rfl (op_call rfl rfl (fun a w => Try.call56 a w) rfl ?_)
  refine (all_m h).mono ?_
  rintro _ _ ⟨rfl, D1, h1, rfl⟩
  refine ⟨_, rfl, ?_⟩
  refine LY rfl (y_assign rfl) (L_nil (C_ret ?_))
  refine B_ret (rv_tmp rfl rv_nil) (HSub.refl _) ?_
  exact ⟨rfl, D1, h1, rfl⟩

end Go.Proofs.Ytjjiclgbdenkkaa

/- walks (own work; the walks' lines by a program of this repo). -/
set_option linter.unusedVariables false
set_option linter.unusedSimpArgs false
set_option maxRecDepth 20000
namespace Go.Proofs.Ytjjiclgbdenkkaa
open Go.Sl
attribute [local irreducible] BodyQ WpC WpL WpS WpH OpW FnS



set_option maxHeartbeats 4000000 in

theorem sync_tt {w0 : World} {H : Hp} {D : Duo} {A : Da} {bp : Nat} {m : Mi} (h : Two dt D A m.bx m.bys bp) {p : Int → Sec → Bool} (hG : GoodAt Try.prog w0 H m.gv p) (hQ : ∀ i, (A.dev i).Q.length ≤ 50000) (hm : m.n ≤ 4096) (hL : m.k0.length ≤ 4096 ∧ m.k1.length ≤ 4096) (hp : thr A false = true) (hq : thr A true = true) : FnS Try.prog w0 32 #[ptr m.b] (m.seg 110 :: D.seg dt :: H) (fun e H' => e = .returned (.int .i64 (syncE m A p)) ∧ ∃ D', Two dt D' (syncA m A p) m.bx m.bys bp ∧ H' = (syncM m A p).seg 110 :: D'.seg dt :: H) := by
  refine FnS_intro (n := 100) (rs := [.tmp 2]) (vs := [ptr m.b]) Try.func32 rfl Try.ntmps32 rfl rfl ?_
  refine C_seq (C_region (LY rfl (y_assign rfl) (L_nil (C_seq (C_seq (C_region (LY rfl (y_move rfl) ?_)))))))
  refine LY rfl (y_eqp rfl rfl Try.underlying26) ?_
  refine LY rfl (y_move rfl) (LY rfl (y_move rfl) ?_)
  refine L_op rfl (op_call rfl rfl (fun a w => Try.call59 a w) rfl ?_)
  refine ((present_tt h hp hq).sub (hsub_pick [0, 0] rfl)).mono ?_
  rintro _ _ ⟨g1, hg1, rfl, rfl⟩
  cases g1 with
  | none => exact slOk_none hg1 (by decide)
  | some g1 => ?_
  refine ⟨_, rfl, ?_⟩
  refine LY rfl (y_lenS rfl rfl Try.underlying118) ?_
  refine LY rfl (y_lss rfl rfl) (LY rfl (y_pick_f rfl rfl) (L_nil (C_cond_f rfl (C_skip (C_seq (C_seq (C_region (LY rfl (y_move rfl) (L_nil (C_block ?_))))))))))
  refine C_loopIn (In_round ?_)
  refine C_seq (C_region (LY rfl (y_lss rfl rfl) (L_nil (C_seq (C_cond_t rfl (C_skip (C_seq (C_block (C_seq (C_region (LY rfl (y_move rfl) (LY rfl (y_assign rfl) (L_nil (C_seq ?_))))))))))))))
  refine C_regionH0 (by kernel_rfl) ?_
  refine HY 0 rfl (HSub.refl _) rfl (y_move rfl) ?_
  refine HY 1 rfl (HSub.refl _) rfl (y_move rfl) ?_
  refine HY 2 rfl (HSub.refl _) rfl (y_nilCheck rfl) ?_
  refine HY 3 rfl (HSub.refl _) rfl (y_fieldAddr rfl fl_110_0) ?_
  refine HY 4 rfl (HSub.refl _) rfl (y_indexA rfl rfl Try.underlying108 sz_107 (by omega) (by omega) (show _ = 0 from rfl)) ?_
  refine HY 5 rfl (HSub.refl _) rfl (y_move rfl) ?_
  refine HY 6 rfl (HSub.refl _) rfl (y_move rfl) ?_
  refine HY 7 rfl (HSub.refl _) rfl (y_sub rfl rfl (show _ = (1 : Int) from rfl)) ?_
  refine HY 8 rfl (HSub.refl _) rfl (y_nilCheck rfl) ?_
  refine HY 9 rfl (HSub.refl _) rfl (y_fieldAddr rfl fl_110_0) ?_
  refine HY 10 rfl (HSub.refl _) rfl (y_indexA rfl rfl Try.underlying108 sz_107 (by omega) (by omega) (show _ = 2 from rfl)) ?_
  refine HY 11 rfl (HSub.refl _) rfl (y_assign rfl) ?_
  refine HY 12 rfl (HSub.refl _) rfl (y_assign rfl) ?_
  refine H_done (by kernel_rfl) ?_
  refine C_seq (C_region (LY rfl (y_assign rfl) (L_nil (C_block ?_))))
  refine C_loop (ι := Duo × Da × Nat × Mi) (fun i => [(0, ptr i.2.2.2.b), (4, ptr i.2.2.2.b), (5, .pointer (some ⟨i.2.2.2.b, 2, none⟩)), (6, .int .i64 (i.2.2.1 : Int)), (19, .int .i64 0)]) (fun i => i.2.2.2.seg 110 :: i.1.seg dt :: H) (fun i => syN p false (A, m) i.2.2.1 = (i.2.1, i.2.2.2) ∧ Two dt i.1 i.2.1 i.2.2.2.bx i.2.2.2.bys bp ∧ i.2.2.1 ≤ m.n ∧ (i.2.2.2.b = m.b ∧ i.2.2.2.bx = m.bx ∧ i.2.2.2.bys = m.bys ∧ i.2.2.2.n = m.n ∧ i.2.2.2.gv = m.gv) ∧ (∀ j, (i.2.1.dev j).Q.length ≤ 50000 + i.2.2.1) ∧ (i.2.2.2.k0.length ≤ 4096 ∧ i.2.2.2.k1.length ≤ 4096)) (fun i => m.n - i.2.2.1) (D, A, 0, m) ⟨rfl, h, Nat.zero_le _, ⟨rfl, rfl, rfl, rfl, rfl⟩, hQ, hL⟩ ⟨rfl, rfl, rfl, rfl, rfl, trivial⟩ ((hsub (.cons_cons _ (.cons_cons _ (.cons _ (.refl _))))).trans (hsub_pick [1, 1] rfl)) (fun i hi => ?_)
  obtain ⟨Dl0, Al0, k0, ml0⟩ := i
  obtain ⟨hq0, hT0, hk0, hM0, hQ0, hL0⟩ := hi
  simp only at hq0 hT0 hk0 hM0 hQ0 hL0
  dsimp only
  refine C_seq (C_seq (C_region (LY rfl (y_move rfl) (LY rfl (y_move rfl) (LY rfl (y_nilCheck rfl) (LY rfl (y_fieldAddr rfl fl_110_1) (LY rfl (y_load rfl ag_3 (sees 0 0 rfl) rfl) (LY rfl (y_lss rfl rfl) (L_nil ?_)))))))))
  refine C_cond rfl (fun hc2 => ?_) (fun hc2 => ?_)
  · replace hc2 := of_decide_eq_true hc2
    refine C_skip (C_seq (C_block (C_seq (C_seq (C_region (LY rfl (y_move rfl) (LY rfl (y_nilCheck rfl) (LY rfl (y_fieldAddr rfl fl_107_1) (LY rfl (y_load rfl ag_105 (sees 0 0 rfl) rfl) (LY rfl (y_move rfl) ?_))))))))))
    refine LY rfl (y_lookup rfl rfl Try.underlying105 Try.underlying3 zt_4 (sees 0 1 rfl)) ?_
    refine LY rfl (y_not rfl) (LY rfl (y_move rfl) ?_)
    refine L_case 48 rfl (fun hg10_8 => ?_) (fun hg10_8 => ?_)
    · skip
      refine L_skip rfl rfl (L_skip rfl rfl (L_skip rfl rfl (L_skip rfl rfl (L_skip rfl rfl (L_skip rfl rfl (LY rfl (y_pick_t rfl rfl) (L_nil (C_cond_t rfl (C_exit (C_region (LY rfl (y_move rfl) ?_)))))))))))
      refine LY rfl (y_add rfl rfl (wi64 (by omega) (by omega))) ?_
      refine LY rfl (y_assign rfl) (L_nil ?_)
      have e : sy1 p false (Al0, ml0) (k0 : Int) = (Al0, ml0) := by clear hG hQ hp hq; simp_all [sy1, syOk, Mi.ks, Mi.del]
      exact ⟨(Dl0, Al0, k0 + 1, ml0), ⟨(syN_succ hq0).trans e, hT0, by simp only; omega, hM0, (fun j => by have := hQ0 j; dsimp only; omega), hL0⟩, by simp only; omega, ⟨rfl, rfl, rfl, rfl, rfl, trivial⟩, ((hsub (.cons_cons _ (.cons_cons _ (.refl _)))).trans (hsub_pick [0, 0] rfl))⟩
    · skip
      refine LY rfl (y_move rfl) (LY rfl (y_nilCheck rfl) (LY rfl (y_fieldAddr rfl fl_107_1) (LY rfl (y_load rfl ag_105 (sees 0 0 rfl) rfl) (LY rfl (y_move rfl) ?_))))
      refine LY rfl (y_lookup rfl rfl Try.underlying105 Try.underlying3 zt_4 (sees 0 2 rfl)) ?_
      refine LY rfl (y_pick_f rfl rfl) (L_nil ?_)
      refine C_cond rfl (fun hc3 => ?_) (fun hc3 => ?_)
      · skip
        refine C_exit (C_region (LY rfl (y_move rfl) ?_))
        refine LY rfl (y_add rfl rfl (wi64 (by omega) (by omega))) ?_
        refine LY rfl (y_assign rfl) (L_nil ?_)
        have e : sy1 p false (Al0, ml0) (k0 : Int) = (Al0, ml0) := by clear hG hQ hp hq; simp_all [sy1, syOk, Mi.ks, Mi.del]
        exact ⟨(Dl0, Al0, k0 + 1, ml0), ⟨(syN_succ hq0).trans e, hT0, by simp only; omega, hM0, (fun j => by have := hQ0 j; dsimp only; omega), hL0⟩, by simp only; omega, ⟨rfl, rfl, rfl, rfl, rfl, trivial⟩, ((hsub (.cons_cons _ (.cons_cons _ (.refl _)))).trans (hsub_pick [0, 0] rfl))⟩
      · skip
        refine C_skip (C_seq (C_region (LY rfl (y_move rfl) (LY rfl (y_nilCheck rfl) (LY rfl (y_fieldAddr rfl fl_107_0) (LY rfl (y_load rfl ag_24 (sees 0 0 rfl) rfl) (LY rfl (y_move rfl) ?_)))))))
        refine L_op rfl (op_call rfl rfl (fun a w => Try.call60 a w) rfl ?_)
        refine ((read_d hT0 true ((k0 : Int))).sub (hsub_pick [1] rfl)).mono ?_
        rintro _ _ ⟨rfl, rfl⟩
        refine ⟨_, rfl, ?_⟩
        refine LY rfl (y_move rfl) (LY rfl (y_extract rfl rfl) (LY rfl (y_extract rfl rfl) ?_))
        refine L_op rfl (op_alloc zl_32 rfl (fun B1 => ?_))
        refine L_op rfl (op_storeA 0 0 rfl rfl rfl sz_32 (by rw [bs_length, rS_len _ hT0.oks]) rfl (bs_one _) (by simp) ?_)
        refine LY rfl (y_assign rfl) (L_nil (C_seq ?_))
        refine C_regionH (ml0.seg 110 :: [(B1, .cells (bs (Al0.rS true (k0 : Int))).toArray 32)] :: H) (by kernel_rfl) ?_
        refine HY 0 rfl (((hsub (.cons_cons _ (.cons_cons _ (.cons _ (.refl _))))).trans (hsub_pick [2, 0] rfl))) rfl (y_move rfl) ?_
        refine HY 1 rfl (((hsub (.cons_cons _ (.cons_cons _ (.cons _ (.refl _))))).trans (hsub_pick [2, 0] rfl))) rfl (y_eqi rfl rfl) ?_
        refine HY 2 rfl (((hsub (.cons_cons _ (.cons_cons _ (.cons _ (.refl _))))).trans (hsub_pick [2, 0] rfl))) rfl (y_move rfl) ?_
        refine H_case 67 rfl (fun hg12_3 => ?_) (fun hg12_3 => ?_)
        · skip
          refine HY 3 rfl (((hsub (.cons_cons _ (.cons_cons _ (.cons _ (.refl _))))).trans (hsub_pick [2, 0] rfl))) rfl (y_move rfl) ?_
          refine HY 4 rfl (((hsub (.cons_cons _ (.cons_cons _ (.cons _ (.refl _))))).trans (hsub_pick [2, 0] rfl))) rfl (y_move rfl) ?_
          refine HY 5 rfl (((hsub (.cons_cons _ (.cons_cons _ (.cons _ (.refl _))))).trans (hsub_pick [2, 0] rfl))) rfl (y_loadA rfl ag_32 sz_32 (sees 1 0 rfl) (by rw [bs_length, rS_len _ hT0.oks]; decide) (bs_whole0 _ (rS_len _ hT0.oks))) ?_
          refine H_one 6 rfl (by kernel_rfl) rfl (op_call rfl rfl (fun a w => Try.call61 a w) rfl ?_)
          refine FnS.mono (right_m (sees 2 0 rfl) ((show GoodAt Try.prog w0 H ml0.gv p by rw [hM0.2.2.2.2]; exact hG).sub (hsub (.cons _ (.cons _ (.cons _ (.refl _)))))) (k0 : Int) _ (rS_len _ hT0.oks)) ?_
          rintro _ _ ⟨rfl, rfl⟩
          refine ⟨_, rfl, ?_⟩
          refine ⟨((hsub (.cons_cons _ (.cons_cons _ (.cons _ (.refl _))))).trans (hsub_pick [2, 0] rfl)), ?_⟩
          refine HY 7 rfl (((hsub (.cons_cons _ (.cons_cons _ (.cons _ (.refl _))))).trans (hsub_pick [2, 0] rfl))) rfl (y_pick_t rfl rfl) ?_
          refine HY 8 rfl (((hsub (.cons_cons _ (.cons_cons _ (.cons _ (.refl _))))).trans (hsub_pick [2, 0] rfl))) rfl (y_move rfl) ?_
          refine H_case 73 rfl (fun hg12_9 => ?_) (fun hg12_9 => ?_)
          · skip
            refine HY 9 rfl (((hsub (.cons_cons _ (.cons_cons _ (.cons _ (.refl _))))).trans (hsub_pick [2, 0] rfl))) rfl (y_move rfl) ?_
            refine HY 10 rfl (((hsub (.cons_cons _ (.cons_cons _ (.cons _ (.refl _))))).trans (hsub_pick [2, 0] rfl))) rfl (y_nilCheck rfl) ?_
            refine HY 11 rfl (((hsub (.cons_cons _ (.cons_cons _ (.cons _ (.refl _))))).trans (hsub_pick [2, 0] rfl))) rfl (y_fieldAddr rfl fl_107_0) ?_
            refine HY 12 rfl (((hsub (.cons_cons _ (.cons_cons _ (.cons _ (.refl _))))).trans (hsub_pick [2, 0] rfl))) rfl (y_load rfl ag_24 (sees 0 0 rfl) rfl) ?_
            refine HY 13 rfl (((hsub (.cons_cons _ (.cons_cons _ (.cons _ (.refl _))))).trans (hsub_pick [2, 0] rfl))) rfl (y_move rfl) ?_
            refine HY 14 rfl (((hsub (.cons_cons _ (.cons_cons _ (.cons _ (.refl _))))).trans (hsub_pick [2, 0] rfl))) rfl (y_loadA rfl ag_32 sz_32 (sees 1 0 rfl) (by rw [bs_length, rS_len _ hT0.oks]; decide) (bs_whole0 _ (rS_len _ hT0.oks))) ?_
            refine H_one 15 rfl (by kernel_rfl) rfl (op_call rfl rfl (fun a w => Try.call62 a w) rfl ?_)
            refine ((write_d hT0 false (k0 : Int) (Al0.rS true (k0 : Int)) (rS_len _ hT0.oks) (by have := hQ0 false; omega)).sub (hsub_pick [1] rfl)).mono ?_
            rintro _ _ ⟨rfl, Dw, hw, rfl⟩
            refine ⟨_, rfl, ?_⟩
            refine ⟨((hsub (.cons_cons _ (.cons_cons _ (.cons _ (.refl _))))).trans (hsub_pick [2, 1] rfl)), ?_⟩
            refine HY 16 rfl (((hsub (.cons_cons _ (.cons_cons _ (.cons _ (.refl _))))).trans (hsub_pick [2, 1] rfl))) rfl (y_eqi rfl rfl) ?_
            refine H_case 81 rfl (fun hg12_17 => ?_) (fun hg12_17 => ?_)
            · skip
              refine HY 17 rfl (((hsub (.cons_cons _ (.cons_cons _ (.cons _ (.refl _))))).trans (hsub_pick [2, 1] rfl))) rfl (y_pick_t rfl rfl) ?_
              refine H_done (by kernel_rfl) ?_
              refine C_cond_t rfl (C_region (LY rfl (y_move rfl) (LY rfl (y_nilCheck rfl) (LY rfl (y_fieldAddr rfl fl_107_1) (LY rfl (y_load rfl ag_105 (sees 2 0 rfl) rfl) (LY rfl (y_move rfl) ?_))))))
              refine L_op rfl (op_delete 2 1 rfl rfl rfl Try.underlying105 Try.underlying3 rfl rfl ?_)
              refine L_nil (C_region (LY rfl (y_move rfl) ?_))
              refine LY rfl (y_add rfl rfl (wi64 (by omega) (by omega))) ?_
              refine LY rfl (y_assign rfl) (L_nil ?_)
              have e : sy1 p false (Al0, ml0) (k0 : Int) = ((Al0.write false (k0 : Int) (Al0.rS true (k0 : Int))), (ml0.del false (k0 : Int))) := by clear hG hQ hp hq; simp_all [sy1, syOk, Mi.ks, Mi.del]
              exact ⟨(Dw, (Al0.write false (k0 : Int) (Al0.rS true (k0 : Int))), k0 + 1, (ml0.del false (k0 : Int))), ⟨(syN_succ hq0).trans e, hw, by simp only; omega, hM0, (fun j => by have := hQ0 j; have q2 := Da.write_many Al0 false (k0 : Int) (Al0.rS true (k0 : Int)) j; dsimp only; omega), ⟨Nat.le_trans (kDel_len _ _) hL0.1, hL0.2⟩⟩, by simp only; omega, ⟨rfl, rfl, rfl, rfl, rfl, trivial⟩, ((hsub (.cons_cons _ (.cons_cons _ (.cons _ (.refl _))))).trans (hsub_pick [2, 0] rfl))⟩
            · skip
              refine HY 17 rfl (((hsub (.cons_cons _ (.cons_cons _ (.cons _ (.refl _))))).trans (hsub_pick [2, 1] rfl))) rfl (y_pick_t rfl rfl) ?_
              refine H_done (by kernel_rfl) ?_
              refine C_cond_f rfl (C_skip (C_region (LY rfl (y_move rfl) ?_)))
              refine LY rfl (y_add rfl rfl (wi64 (by omega) (by omega))) ?_
              refine LY rfl (y_assign rfl) (L_nil ?_)
              have e : sy1 p false (Al0, ml0) (k0 : Int) = ((Al0.write false (k0 : Int) (Al0.rS true (k0 : Int))), ml0) := by clear hG hQ hp hq; simp_all [sy1, syOk, Mi.ks, Mi.del]
              exact ⟨(Dw, (Al0.write false (k0 : Int) (Al0.rS true (k0 : Int))), k0 + 1, ml0), ⟨(syN_succ hq0).trans e, hw, by simp only; omega, hM0, (fun j => by have := hQ0 j; have q2 := Da.write_many Al0 false (k0 : Int) (Al0.rS true (k0 : Int)) j; dsimp only; omega), hL0⟩, by simp only; omega, ⟨rfl, rfl, rfl, rfl, rfl, trivial⟩, ((hsub (.cons_cons _ (.cons_cons _ (.cons _ (.refl _))))).trans (hsub_pick [2, 0] rfl))⟩
          · skip
            refine HK 9 rfl (((hsub (.cons_cons _ (.cons_cons _ (.cons _ (.refl _))))).trans (hsub_pick [2, 0] rfl))) rfl ?_
            refine HK 10 rfl (((hsub (.cons_cons _ (.cons_cons _ (.cons _ (.refl _))))).trans (hsub_pick [2, 0] rfl))) rfl ?_
            refine HK 11 rfl (((hsub (.cons_cons _ (.cons_cons _ (.cons _ (.refl _))))).trans (hsub_pick [2, 0] rfl))) rfl ?_
            refine HK 12 rfl (((hsub (.cons_cons _ (.cons_cons _ (.cons _ (.refl _))))).trans (hsub_pick [2, 0] rfl))) rfl ?_
            refine HK 13 rfl (((hsub (.cons_cons _ (.cons_cons _ (.cons _ (.refl _))))).trans (hsub_pick [2, 0] rfl))) rfl ?_
            refine HK 14 rfl (((hsub (.cons_cons _ (.cons_cons _ (.cons _ (.refl _))))).trans (hsub_pick [2, 0] rfl))) rfl ?_
            refine HK 15 rfl (((hsub (.cons_cons _ (.cons_cons _ (.cons _ (.refl _))))).trans (hsub_pick [2, 0] rfl))) rfl ?_
            refine HK 16 rfl (((hsub (.cons_cons _ (.cons_cons _ (.cons _ (.refl _))))).trans (hsub_pick [2, 0] rfl))) rfl ?_
            refine HY 17 rfl (((hsub (.cons_cons _ (.cons_cons _ (.cons _ (.refl _))))).trans (hsub_pick [2, 0] rfl))) rfl (y_pick_f rfl rfl) ?_
            refine H_done (by kernel_rfl) ?_
            refine C_cond_f rfl (C_skip (C_region (LY rfl (y_move rfl) ?_)))
            refine LY rfl (y_add rfl rfl (wi64 (by omega) (by omega))) ?_
            refine LY rfl (y_assign rfl) (L_nil ?_)
            have e : sy1 p false (Al0, ml0) (k0 : Int) = (Al0, ml0) := by clear hG hQ hp hq; simp_all [sy1, syOk, Mi.ks, Mi.del]
            exact ⟨(Dl0, Al0, k0 + 1, ml0), ⟨(syN_succ hq0).trans e, hT0, by simp only; omega, hM0, (fun j => by have := hQ0 j; dsimp only; omega), hL0⟩, by simp only; omega, ⟨rfl, rfl, rfl, rfl, rfl, trivial⟩, ((hsub (.cons_cons _ (.cons_cons _ (.cons _ (.refl _))))).trans (hsub_pick [2, 1] rfl))⟩
        · skip
          refine HK 3 rfl (((hsub (.cons_cons _ (.cons_cons _ (.cons _ (.refl _))))).trans (hsub_pick [2, 0] rfl))) rfl ?_
          refine HK 4 rfl (((hsub (.cons_cons _ (.cons_cons _ (.cons _ (.refl _))))).trans (hsub_pick [2, 0] rfl))) rfl ?_
          refine HK 5 rfl (((hsub (.cons_cons _ (.cons_cons _ (.cons _ (.refl _))))).trans (hsub_pick [2, 0] rfl))) rfl ?_
          refine HK 6 rfl (((hsub (.cons_cons _ (.cons_cons _ (.cons _ (.refl _))))).trans (hsub_pick [2, 0] rfl))) rfl ?_
          refine HY 7 rfl (((hsub (.cons_cons _ (.cons_cons _ (.cons _ (.refl _))))).trans (hsub_pick [2, 0] rfl))) rfl (y_pick_f rfl rfl) ?_
          refine HY 8 rfl (((hsub (.cons_cons _ (.cons_cons _ (.cons _ (.refl _))))).trans (hsub_pick [2, 0] rfl))) rfl (y_move rfl) ?_
          refine HK 9 rfl (((hsub (.cons_cons _ (.cons_cons _ (.cons _ (.refl _))))).trans (hsub_pick [2, 0] rfl))) rfl ?_
          refine HK 10 rfl (((hsub (.cons_cons _ (.cons_cons _ (.cons _ (.refl _))))).trans (hsub_pick [2, 0] rfl))) rfl ?_
          refine HK 11 rfl (((hsub (.cons_cons _ (.cons_cons _ (.cons _ (.refl _))))).trans (hsub_pick [2, 0] rfl))) rfl ?_
          refine HK 12 rfl (((hsub (.cons_cons _ (.cons_cons _ (.cons _ (.refl _))))).trans (hsub_pick [2, 0] rfl))) rfl ?_
          refine HK 13 rfl (((hsub (.cons_cons _ (.cons_cons _ (.cons _ (.refl _))))).trans (hsub_pick [2, 0] rfl))) rfl ?_
          refine HK 14 rfl (((hsub (.cons_cons _ (.cons_cons _ (.cons _ (.refl _))))).trans (hsub_pick [2, 0] rfl))) rfl ?_
          refine HK 15 rfl (((hsub (.cons_cons _ (.cons_cons _ (.cons _ (.refl _))))).trans (hsub_pick [2, 0] rfl))) rfl ?_
          refine HK 16 rfl (((hsub (.cons_cons _ (.cons_cons _ (.cons _ (.refl _))))).trans (hsub_pick [2, 0] rfl))) rfl ?_
          refine HY 17 rfl (((hsub (.cons_cons _ (.cons_cons _ (.cons _ (.refl _))))).trans (hsub_pick [2, 0] rfl))) rfl (y_pick_f rfl rfl) ?_
          refine H_done (by kernel_rfl) ?_
          refine C_cond_f rfl (C_skip (C_region (LY rfl (y_move rfl) ?_)))
          refine LY rfl (y_add rfl rfl (wi64 (by omega) (by omega))) ?_
          refine LY rfl (y_assign rfl) (L_nil ?_)
          have e : sy1 p false (Al0, ml0) (k0 : Int) = (Al0, ml0) := by clear hG hQ hp hq; simp_all [sy1, syOk, Mi.ks, Mi.del]
          exact ⟨(Dl0, Al0, k0 + 1, ml0), ⟨(syN_succ hq0).trans e, hT0, by simp only; omega, hM0, (fun j => by have := hQ0 j; dsimp only; omega), hL0⟩, by simp only; omega, ⟨rfl, rfl, rfl, rfl, rfl, trivial⟩, ((hsub (.cons_cons _ (.cons_cons _ (.cons _ (.refl _))))).trans (hsub_pick [2, 1] rfl))⟩
  · replace hc2 := of_decide_eq_false hc2
    refine C_exit (C_region ?_)
    refine LY rfl (y_add rfl rfl (show _ = (1 : Int) from rfl)) ?_
    refine LY rfl (y_move rfl) (L_nil ?_)
    refine In_round ?_
    refine C_seq (C_region (LY rfl (y_lss rfl rfl) (L_nil (C_seq (C_cond_t rfl (C_skip (C_seq (C_block (C_seq (C_region (LY rfl (y_move rfl) (LY rfl (y_assign rfl) (L_nil (C_seq ?_))))))))))))))
    refine C_regionH0 (by kernel_rfl) ?_
    refine HY 0 rfl (HSub.refl _) rfl (y_move rfl) ?_
    refine HY 1 rfl (HSub.refl _) rfl (y_move rfl) ?_
    refine HY 2 rfl (HSub.refl _) rfl (y_nilCheck rfl) ?_
    refine HY 3 rfl (HSub.refl _) rfl (y_fieldAddr rfl fl_110_0) ?_
    refine HY 4 rfl (HSub.refl _) rfl (y_indexA rfl rfl Try.underlying108 sz_107 (by omega) (by omega) (show _ = 2 from rfl)) ?_
    refine HY 5 rfl (HSub.refl _) rfl (y_move rfl) ?_
    refine HY 6 rfl (HSub.refl _) rfl (y_move rfl) ?_
    refine HY 7 rfl (HSub.refl _) rfl (y_sub rfl rfl (show _ = (0 : Int) from rfl)) ?_
    refine HY 8 rfl (HSub.refl _) rfl (y_nilCheck rfl) ?_
    refine HY 9 rfl (HSub.refl _) rfl (y_fieldAddr rfl fl_110_0) ?_
    refine HY 10 rfl (HSub.refl _) rfl (y_indexA rfl rfl Try.underlying108 sz_107 (by omega) (by omega) (show _ = 0 from rfl)) ?_
    refine HY 11 rfl (HSub.refl _) rfl (y_assign rfl) ?_
    refine HY 12 rfl (HSub.refl _) rfl (y_assign rfl) ?_
    refine H_done (by kernel_rfl) ?_
    refine C_seq (C_region (LY rfl (y_assign rfl) (L_nil (C_block ?_))))
    refine C_loop (ι := Duo × Da × Nat × Mi) (fun i => [(0, ptr i.2.2.2.b), (4, .pointer (some ⟨i.2.2.2.b, 2, none⟩)), (5, ptr i.2.2.2.b), (6, .int .i64 (i.2.2.1 : Int)), (19, .int .i64 1)]) (fun i => i.2.2.2.seg 110 :: i.1.seg dt :: H) (fun i => syN p true (Al0, ml0) i.2.2.1 = (i.2.1, i.2.2.2) ∧ Two dt i.1 i.2.1 i.2.2.2.bx i.2.2.2.bys bp ∧ i.2.2.1 ≤ m.n ∧ (i.2.2.2.b = m.b ∧ i.2.2.2.bx = m.bx ∧ i.2.2.2.bys = m.bys ∧ i.2.2.2.n = m.n ∧ i.2.2.2.gv = m.gv) ∧ (∀ j, (i.2.1.dev j).Q.length ≤ (50000 + m.n) + i.2.2.1) ∧ (i.2.2.2.k0.length ≤ 4096 ∧ i.2.2.2.k1.length ≤ 4096)) (fun i => m.n - i.2.2.1) (Dl0, Al0, 0, ml0) ⟨rfl, hT0, Nat.zero_le _, hM0, (fun j => by have := hQ0 j; dsimp only; omega), hL0⟩ ⟨rfl, rfl, rfl, rfl, rfl, trivial⟩ ((hsub (.cons_cons _ (.cons_cons _ (.refl _)))).trans (hsub_pick [0, 0] rfl)) (fun i hi => ?_)
    obtain ⟨Dl1, Al1, k1, ml1⟩ := i
    obtain ⟨hq1, hT1, hk1, hM1, hQ1, hL1⟩ := hi
    simp only at hq1 hT1 hk1 hM1 hQ1 hL1
    dsimp only
    refine C_seq (C_seq (C_region (LY rfl (y_move rfl) (LY rfl (y_move rfl) (LY rfl (y_nilCheck rfl) (LY rfl (y_fieldAddr rfl fl_110_1) (LY rfl (y_load rfl ag_3 (sees 0 0 rfl) rfl) (LY rfl (y_lss rfl rfl) (L_nil ?_)))))))))
    refine C_cond rfl (fun hc2 => ?_) (fun hc2 => ?_)
    · replace hc2 := of_decide_eq_true hc2
      refine C_skip (C_seq (C_block (C_seq (C_seq (C_region (LY rfl (y_move rfl) (LY rfl (y_nilCheck rfl) (LY rfl (y_fieldAddr rfl fl_107_1) (LY rfl (y_load rfl ag_105 (sees 0 0 rfl) rfl) (LY rfl (y_move rfl) ?_))))))))))
      refine LY rfl (y_lookup rfl rfl Try.underlying105 Try.underlying3 zt_4 (sees 0 2 rfl)) ?_
      refine LY rfl (y_not rfl) (LY rfl (y_move rfl) ?_)
      refine L_case 48 rfl (fun hg10_8 => ?_) (fun hg10_8 => ?_)
      · skip
        refine L_skip rfl rfl (L_skip rfl rfl (L_skip rfl rfl (L_skip rfl rfl (L_skip rfl rfl (L_skip rfl rfl (LY rfl (y_pick_t rfl rfl) (L_nil (C_cond_t rfl (C_exit (C_region (LY rfl (y_move rfl) ?_)))))))))))
        refine LY rfl (y_add rfl rfl (wi64 (by omega) (by omega))) ?_
        refine LY rfl (y_assign rfl) (L_nil ?_)
        have e : sy1 p true (Al1, ml1) (k1 : Int) = (Al1, ml1) := by clear hG hQ hp hq; simp_all [sy1, syOk, Mi.ks, Mi.del]
        exact ⟨(Dl1, Al1, k1 + 1, ml1), ⟨(syN_succ hq1).trans e, hT1, by simp only; omega, hM1, (fun j => by have := hQ1 j; dsimp only; omega), hL1⟩, by simp only; omega, ⟨rfl, rfl, rfl, rfl, rfl, trivial⟩, ((hsub (.cons_cons _ (.cons_cons _ (.refl _)))).trans (hsub_pick [0, 0] rfl))⟩
      · skip
        refine LY rfl (y_move rfl) (LY rfl (y_nilCheck rfl) (LY rfl (y_fieldAddr rfl fl_107_1) (LY rfl (y_load rfl ag_105 (sees 0 0 rfl) rfl) (LY rfl (y_move rfl) ?_))))
        refine LY rfl (y_lookup rfl rfl Try.underlying105 Try.underlying3 zt_4 (sees 0 1 rfl)) ?_
        refine LY rfl (y_pick_f rfl rfl) (L_nil ?_)
        refine C_cond rfl (fun hc3 => ?_) (fun hc3 => ?_)
        · skip
          refine C_exit (C_region (LY rfl (y_move rfl) ?_))
          refine LY rfl (y_add rfl rfl (wi64 (by omega) (by omega))) ?_
          refine LY rfl (y_assign rfl) (L_nil ?_)
          have e : sy1 p true (Al1, ml1) (k1 : Int) = (Al1, ml1) := by clear hG hQ hp hq; simp_all [sy1, syOk, Mi.ks, Mi.del]
          exact ⟨(Dl1, Al1, k1 + 1, ml1), ⟨(syN_succ hq1).trans e, hT1, by simp only; omega, hM1, (fun j => by have := hQ1 j; dsimp only; omega), hL1⟩, by simp only; omega, ⟨rfl, rfl, rfl, rfl, rfl, trivial⟩, ((hsub (.cons_cons _ (.cons_cons _ (.refl _)))).trans (hsub_pick [0, 0] rfl))⟩
        · skip
          refine C_skip (C_seq (C_region (LY rfl (y_move rfl) (LY rfl (y_nilCheck rfl) (LY rfl (y_fieldAddr rfl fl_107_0) (LY rfl (y_load rfl ag_24 (sees 0 0 rfl) rfl) (LY rfl (y_move rfl) ?_)))))))
          refine L_op rfl (op_call rfl rfl (fun a w => Try.call60 a w) rfl ?_)
          refine ((read_d hT1 false ((k1 : Int))).sub (hsub_pick [1] rfl)).mono ?_
          rintro _ _ ⟨rfl, rfl⟩
          refine ⟨_, rfl, ?_⟩
          refine LY rfl (y_move rfl) (LY rfl (y_extract rfl rfl) (LY rfl (y_extract rfl rfl) ?_))
          refine L_op rfl (op_alloc zl_32 rfl (fun B2 => ?_))
          refine L_op rfl (op_storeA 0 0 rfl rfl rfl sz_32 (by rw [bs_length, rS_len _ hT1.oks]) rfl (bs_one _) (by simp) ?_)
          refine LY rfl (y_assign rfl) (L_nil (C_seq ?_))
          refine C_regionH (ml1.seg 110 :: [(B2, .cells (bs (Al1.rS false (k1 : Int))).toArray 32)] :: H) (by kernel_rfl) ?_
          refine HY 0 rfl (((hsub (.cons_cons _ (.cons_cons _ (.cons _ (.refl _))))).trans (hsub_pick [2, 0] rfl))) rfl (y_move rfl) ?_
          refine HY 1 rfl (((hsub (.cons_cons _ (.cons_cons _ (.cons _ (.refl _))))).trans (hsub_pick [2, 0] rfl))) rfl (y_eqi rfl rfl) ?_
          refine HY 2 rfl (((hsub (.cons_cons _ (.cons_cons _ (.cons _ (.refl _))))).trans (hsub_pick [2, 0] rfl))) rfl (y_move rfl) ?_
          refine H_case 67 rfl (fun hg12_3 => ?_) (fun hg12_3 => ?_)
          · skip
            refine HY 3 rfl (((hsub (.cons_cons _ (.cons_cons _ (.cons _ (.refl _))))).trans (hsub_pick [2, 0] rfl))) rfl (y_move rfl) ?_
            refine HY 4 rfl (((hsub (.cons_cons _ (.cons_cons _ (.cons _ (.refl _))))).trans (hsub_pick [2, 0] rfl))) rfl (y_move rfl) ?_
            refine HY 5 rfl (((hsub (.cons_cons _ (.cons_cons _ (.cons _ (.refl _))))).trans (hsub_pick [2, 0] rfl))) rfl (y_loadA rfl ag_32 sz_32 (sees 1 0 rfl) (by rw [bs_length, rS_len _ hT1.oks]; decide) (bs_whole0 _ (rS_len _ hT1.oks))) ?_
            refine H_one 6 rfl (by kernel_rfl) rfl (op_call rfl rfl (fun a w => Try.call61 a w) rfl ?_)
            refine FnS.mono (right_m (sees 2 0 rfl) ((show GoodAt Try.prog w0 H ml1.gv p by rw [hM1.2.2.2.2]; exact hG).sub (hsub (.cons _ (.cons _ (.cons _ (.refl _)))))) (k1 : Int) _ (rS_len _ hT1.oks)) ?_
            rintro _ _ ⟨rfl, rfl⟩
            refine ⟨_, rfl, ?_⟩
            refine ⟨((hsub (.cons_cons _ (.cons_cons _ (.cons _ (.refl _))))).trans (hsub_pick [2, 0] rfl)), ?_⟩
            refine HY 7 rfl (((hsub (.cons_cons _ (.cons_cons _ (.cons _ (.refl _))))).trans (hsub_pick [2, 0] rfl))) rfl (y_pick_t rfl rfl) ?_
            refine HY 8 rfl (((hsub (.cons_cons _ (.cons_cons _ (.cons _ (.refl _))))).trans (hsub_pick [2, 0] rfl))) rfl (y_move rfl) ?_
            refine H_case 73 rfl (fun hg12_9 => ?_) (fun hg12_9 => ?_)
            · skip
              refine HY 9 rfl (((hsub (.cons_cons _ (.cons_cons _ (.cons _ (.refl _))))).trans (hsub_pick [2, 0] rfl))) rfl (y_move rfl) ?_
              refine HY 10 rfl (((hsub (.cons_cons _ (.cons_cons _ (.cons _ (.refl _))))).trans (hsub_pick [2, 0] rfl))) rfl (y_nilCheck rfl) ?_
              refine HY 11 rfl (((hsub (.cons_cons _ (.cons_cons _ (.cons _ (.refl _))))).trans (hsub_pick [2, 0] rfl))) rfl (y_fieldAddr rfl fl_107_0) ?_
              refine HY 12 rfl (((hsub (.cons_cons _ (.cons_cons _ (.cons _ (.refl _))))).trans (hsub_pick [2, 0] rfl))) rfl (y_load rfl ag_24 (sees 0 0 rfl) rfl) ?_
              refine HY 13 rfl (((hsub (.cons_cons _ (.cons_cons _ (.cons _ (.refl _))))).trans (hsub_pick [2, 0] rfl))) rfl (y_move rfl) ?_
              refine HY 14 rfl (((hsub (.cons_cons _ (.cons_cons _ (.cons _ (.refl _))))).trans (hsub_pick [2, 0] rfl))) rfl (y_loadA rfl ag_32 sz_32 (sees 1 0 rfl) (by rw [bs_length, rS_len _ hT1.oks]; decide) (bs_whole0 _ (rS_len _ hT1.oks))) ?_
              refine H_one 15 rfl (by kernel_rfl) rfl (op_call rfl rfl (fun a w => Try.call62 a w) rfl ?_)
              refine ((write_d hT1 true (k1 : Int) (Al1.rS false (k1 : Int)) (rS_len _ hT1.oks) (by have := hQ1 true; omega)).sub (hsub_pick [1] rfl)).mono ?_
              rintro _ _ ⟨rfl, Dw, hw, rfl⟩
              refine ⟨_, rfl, ?_⟩
              refine ⟨((hsub (.cons_cons _ (.cons_cons _ (.cons _ (.refl _))))).trans (hsub_pick [2, 1] rfl)), ?_⟩
              refine HY 16 rfl (((hsub (.cons_cons _ (.cons_cons _ (.cons _ (.refl _))))).trans (hsub_pick [2, 1] rfl))) rfl (y_eqi rfl rfl) ?_
              refine H_case 81 rfl (fun hg12_17 => ?_) (fun hg12_17 => ?_)
              · skip
                refine HY 17 rfl (((hsub (.cons_cons _ (.cons_cons _ (.cons _ (.refl _))))).trans (hsub_pick [2, 1] rfl))) rfl (y_pick_t rfl rfl) ?_
                refine H_done (by kernel_rfl) ?_
                refine C_cond_t rfl (C_region (LY rfl (y_move rfl) (LY rfl (y_nilCheck rfl) (LY rfl (y_fieldAddr rfl fl_107_1) (LY rfl (y_load rfl ag_105 (sees 2 0 rfl) rfl) (LY rfl (y_move rfl) ?_))))))
                refine L_op rfl (op_delete 2 2 rfl rfl rfl Try.underlying105 Try.underlying3 rfl rfl ?_)
                refine L_nil (C_region (LY rfl (y_move rfl) ?_))
                refine LY rfl (y_add rfl rfl (wi64 (by omega) (by omega))) ?_
                refine LY rfl (y_assign rfl) (L_nil ?_)
                have e : sy1 p true (Al1, ml1) (k1 : Int) = ((Al1.write true (k1 : Int) (Al1.rS false (k1 : Int))), (ml1.del true (k1 : Int))) := by clear hG hQ hp hq; simp_all [sy1, syOk, Mi.ks, Mi.del]
                exact ⟨(Dw, (Al1.write true (k1 : Int) (Al1.rS false (k1 : Int))), k1 + 1, (ml1.del true (k1 : Int))), ⟨(syN_succ hq1).trans e, hw, by simp only; omega, hM1, (fun j => by have := hQ1 j; have q2 := Da.write_many Al1 true (k1 : Int) (Al1.rS false (k1 : Int)) j; dsimp only; omega), ⟨hL1.1, Nat.le_trans (kDel_len _ _) hL1.2⟩⟩, by simp only; omega, ⟨rfl, rfl, rfl, rfl, rfl, trivial⟩, ((hsub (.cons_cons _ (.cons_cons _ (.cons _ (.refl _))))).trans (hsub_pick [2, 0] rfl))⟩
              · skip
                refine HY 17 rfl (((hsub (.cons_cons _ (.cons_cons _ (.cons _ (.refl _))))).trans (hsub_pick [2, 1] rfl))) rfl (y_pick_t rfl rfl) ?_
                refine H_done (by kernel_rfl) ?_
                refine C_cond_f rfl (C_skip (C_region (LY rfl (y_move rfl) ?_)))
                refine LY rfl (y_add rfl rfl (wi64 (by omega) (by omega))) ?_
                refine LY rfl (y_assign rfl) (L_nil ?_)
                have e : sy1 p true (Al1, ml1) (k1 : Int) = ((Al1.write true (k1 : Int) (Al1.rS false (k1 : Int))), ml1) := by clear hG hQ hp hq; simp_all [sy1, syOk, Mi.ks, Mi.del]
                exact ⟨(Dw, (Al1.write true (k1 : Int) (Al1.rS false (k1 : Int))), k1 + 1, ml1), ⟨(syN_succ hq1).trans e, hw, by simp only; omega, hM1, (fun j => by have := hQ1 j; have q2 := Da.write_many Al1 true (k1 : Int) (Al1.rS false (k1 : Int)) j; dsimp only; omega), hL1⟩, by simp only; omega, ⟨rfl, rfl, rfl, rfl, rfl, trivial⟩, ((hsub (.cons_cons _ (.cons_cons _ (.cons _ (.refl _))))).trans (hsub_pick [2, 0] rfl))⟩
            · skip
              refine HK 9 rfl (((hsub (.cons_cons _ (.cons_cons _ (.cons _ (.refl _))))).trans (hsub_pick [2, 0] rfl))) rfl ?_
              refine HK 10 rfl (((hsub (.cons_cons _ (.cons_cons _ (.cons _ (.refl _))))).trans (hsub_pick [2, 0] rfl))) rfl ?_
              refine HK 11 rfl (((hsub (.cons_cons _ (.cons_cons _ (.cons _ (.refl _))))).trans (hsub_pick [2, 0] rfl))) rfl ?_
              refine HK 12 rfl (((hsub (.cons_cons _ (.cons_cons _ (.cons _ (.refl _))))).trans (hsub_pick [2, 0] rfl))) rfl ?_
              refine HK 13 rfl (((hsub (.cons_cons _ (.cons_cons _ (.cons _ (.refl _))))).trans (hsub_pick [2, 0] rfl))) rfl ?_
              refine HK 14 rfl (((hsub (.cons_cons _ (.cons_cons _ (.cons _ (.refl _))))).trans (hsub_pick [2, 0] rfl))) rfl ?_
              refine HK 15 rfl (((hsub (.cons_cons _ (.cons_cons _ (.cons _ (.refl _))))).trans (hsub_pick [2, 0] rfl))) rfl ?_
              refine HK 16 rfl (((hsub (.cons_cons _ (.cons_cons _ (.cons _ (.refl _))))).trans (hsub_pick [2, 0] rfl))) rfl ?_
              refine HY 17 rfl (((hsub (.cons_cons _ (.cons_cons _ (.cons _ (.refl _))))).trans (hsub_pick [2, 0] rfl))) rfl (y_pick_f rfl rfl) ?_
              refine H_done (by kernel_rfl) ?_
              refine C_cond_f rfl (C_skip (C_region (LY rfl (y_move rfl) ?_)))
              refine LY rfl (y_add rfl rfl (wi64 (by omega) (by omega))) ?_
              refine LY rfl (y_assign rfl) (L_nil ?_)
              have e : sy1 p true (Al1, ml1) (k1 : Int) = (Al1, ml1) := by clear hG hQ hp hq; simp_all [sy1, syOk, Mi.ks, Mi.del]
              exact ⟨(Dl1, Al1, k1 + 1, ml1), ⟨(syN_succ hq1).trans e, hT1, by simp only; omega, hM1, (fun j => by have := hQ1 j; dsimp only; omega), hL1⟩, by simp only; omega, ⟨rfl, rfl, rfl, rfl, rfl, trivial⟩, ((hsub (.cons_cons _ (.cons_cons _ (.cons _ (.refl _))))).trans (hsub_pick [2, 1] rfl))⟩
          · skip
            refine HK 3 rfl (((hsub (.cons_cons _ (.cons_cons _ (.cons _ (.refl _))))).trans (hsub_pick [2, 0] rfl))) rfl ?_
            refine HK 4 rfl (((hsub (.cons_cons _ (.cons_cons _ (.cons _ (.refl _))))).trans (hsub_pick [2, 0] rfl))) rfl ?_
            refine HK 5 rfl (((hsub (.cons_cons _ (.cons_cons _ (.cons _ (.refl _))))).trans (hsub_pick [2, 0] rfl))) rfl ?_
            refine HK 6 rfl (((hsub (.cons_cons _ (.cons_cons _ (.cons _ (.refl _))))).trans (hsub_pick [2, 0] rfl))) rfl ?_
            refine HY 7 rfl (((hsub (.cons_cons _ (.cons_cons _ (.cons _ (.refl _))))).trans (hsub_pick [2, 0] rfl))) rfl (y_pick_f rfl rfl) ?_
            refine HY 8 rfl (((hsub (.cons_cons _ (.cons_cons _ (.cons _ (.refl _))))).trans (hsub_pick [2, 0] rfl))) rfl (y_move rfl) ?_
            refine HK 9 rfl (((hsub (.cons_cons _ (.cons_cons _ (.cons _ (.refl _))))).trans (hsub_pick [2, 0] rfl))) rfl ?_
            refine HK 10 rfl (((hsub (.cons_cons _ (.cons_cons _ (.cons _ (.refl _))))).trans (hsub_pick [2, 0] rfl))) rfl ?_
            refine HK 11 rfl (((hsub (.cons_cons _ (.cons_cons _ (.cons _ (.refl _))))).trans (hsub_pick [2, 0] rfl))) rfl ?_
            refine HK 12 rfl (((hsub (.cons_cons _ (.cons_cons _ (.cons _ (.refl _))))).trans (hsub_pick [2, 0] rfl))) rfl ?_
            refine HK 13 rfl (((hsub (.cons_cons _ (.cons_cons _ (.cons _ (.refl _))))).trans (hsub_pick [2, 0] rfl))) rfl ?_
            refine HK 14 rfl (((hsub (.cons_cons _ (.cons_cons _ (.cons _ (.refl _))))).trans (hsub_pick [2, 0] rfl))) rfl ?_
            refine HK 15 rfl (((hsub (.cons_cons _ (.cons_cons _ (.cons _ (.refl _))))).trans (hsub_pick [2, 0] rfl))) rfl ?_
            refine HK 16 rfl (((hsub (.cons_cons _ (.cons_cons _ (.cons _ (.refl _))))).trans (hsub_pick [2, 0] rfl))) rfl ?_
            refine HY 17 rfl (((hsub (.cons_cons _ (.cons_cons _ (.cons _ (.refl _))))).trans (hsub_pick [2, 0] rfl))) rfl (y_pick_f rfl rfl) ?_
            refine H_done (by kernel_rfl) ?_
            refine C_cond_f rfl (C_skip (C_region (LY rfl (y_move rfl) ?_)))
            refine LY rfl (y_add rfl rfl (wi64 (by omega) (by omega))) ?_
            refine LY rfl (y_assign rfl) (L_nil ?_)
            have e : sy1 p true (Al1, ml1) (k1 : Int) = (Al1, ml1) := by clear hG hQ hp hq; simp_all [sy1, syOk, Mi.ks, Mi.del]
            exact ⟨(Dl1, Al1, k1 + 1, ml1), ⟨(syN_succ hq1).trans e, hT1, by simp only; omega, hM1, (fun j => by have := hQ1 j; dsimp only; omega), hL1⟩, by simp only; omega, ⟨rfl, rfl, rfl, rfl, rfl, trivial⟩, ((hsub (.cons_cons _ (.cons_cons _ (.cons _ (.refl _))))).trans (hsub_pick [2, 1] rfl))⟩
    · replace hc2 := of_decide_eq_false hc2
      refine C_exit (C_region ?_)
      refine LY rfl (y_add rfl rfl (show _ = (2 : Int) from rfl)) ?_
      refine LY rfl (y_move rfl) (L_nil ?_)
      refine In_round ?_
      refine C_seq (C_region (LY rfl (y_lss rfl rfl) (L_nil (C_seq (C_cond_f rfl (C_exit (C_seq (C_region (LY rfl (y_move rfl) ?_)))))))))
      refine L_op rfl (op_call rfl rfl (fun a w => Try.call21 a w) rfl ?_)
      refine (FnS.sub (hsub_pick [0, 0] rfl) (mflush_m hT1)).mono ?_
      rintro _ _ ⟨rfl, D9, h9, rfl⟩
      refine ⟨_, rfl, ?_⟩
      refine L_nil (C_seq (C_seq (C_region (LY rfl (y_move rfl) ?_))))
      refine L_op rfl (op_call rfl rfl (fun a w => Try.call35 a w) rfl ?_)
      refine (FnS.sub (hsub_pick [0] rfl) stale_m).mono ?_
      rintro _ _ ⟨rfl, rfl⟩
      refine ⟨_, rfl, ?_⟩
      refine LY rfl (y_move rfl) (LY rfl (y_extract rfl rfl) (LY rfl (y_extract rfl rfl) (LY rfl (y_assign rfl) (LY rfl (y_assign rfl) (L_nil (C_seq (C_region (LY rfl (y_move rfl) (LY rfl (y_move rfl) ?_)))))))))
      refine LY rfl (y_add rfl rfl (wi64 (by omega) (by omega))) ?_
      refine LY rfl (y_gtr rfl rfl) ?_
      refine L_nil ?_
      refine C_cond rfl (fun hc5 => ?_) (fun hc5 => ?_)
      · replace hc5 := of_decide_eq_true hc5
        refine C_seq (C_region (LY rfl (y_assign rfl) (L_nil (C_ret ?_))))
        refine B_ret (rv_tmp rfl rv_nil) ((hsub (.cons_cons _ (.cons_cons _ (.refl _)))).trans (hsub_pick [0, 0] rfl)) ?_
        have hk : k0 = m.n := by omega
        have hk1 : k1 = m.n := by omega
        subst hk hk1
        have eq : syncQ m A p = (Al1, ml1) := by unfold syncQ; rw [hq0, hq1]
        exact ⟨ret_int (by rw [syncE, eq, hp, hq]; simp only [Bool.and_self, if_true]; first | rw [if_pos (by omega)] | rw [if_neg (by omega)]), D9, by rw [show syncA m A p = (mfl Al1).1 by simp [syncA, eq, hp, hq], ← hM1.2.1, ← hM1.2.2.1]; exact h9, by rw [show syncM m A p = ml1 by simp [syncM, eq, hp, hq]] <;> rfl⟩
      · replace hc5 := of_decide_eq_false hc5
        refine C_skip (C_seq (C_region (LY rfl (y_assign rfl) (L_nil (C_ret ?_)))))
        refine B_ret (rv_tmp rfl rv_nil) ((hsub (.cons_cons _ (.cons_cons _ (.refl _)))).trans (hsub_pick [0, 0] rfl)) ?_
        have hk : k0 = m.n := by omega
        have hk1 : k1 = m.n := by omega
        subst hk hk1
        have eq : syncQ m A p = (Al1, ml1) := by unfold syncQ; rw [hq0, hq1]
        exact ⟨ret_int (by rw [syncE, eq, hp, hq]; simp only [Bool.and_self, if_true]; first | rw [if_pos (by omega)] | rw [if_neg (by omega)]), D9, by rw [show syncA m A p = (mfl Al1).1 by simp [syncA, eq, hp, hq], ← hM1.2.1, ← hM1.2.2.1]; exact h9, by rw [show syncM m A p = ml1 by simp [syncM, eq, hp, hq]] <;> rfl⟩

set_option maxHeartbeats 4000000 in

theorem sync_tf {w0 : World} {H : Hp} {D : Duo} {A : Da} {bp : Nat} {m : Mi} (h : Two dt D A m.bx m.bys bp) {p : Int → Sec → Bool} (hG : GoodAt Try.prog w0 H m.gv p) (hQ : ∀ i, (A.dev i).Q.length ≤ 50000) (hm : m.n ≤ 4096) (hL : m.k0.length ≤ 4096 ∧ m.k1.length ≤ 4096) (hp : thr A false = true) (hq : thr A true = false) : FnS Try.prog w0 32 #[ptr m.b] (m.seg 110 :: D.seg dt :: H) (fun e H' => e = .returned (.int .i64 (syncE m A p)) ∧ ∃ D', Two dt D' (syncA m A p) m.bx m.bys bp ∧ H' = (syncM m A p).seg 110 :: D'.seg dt :: H) := by
  refine FnS_intro (n := 100) (rs := [.tmp 2]) (vs := [ptr m.b]) Try.func32 rfl Try.ntmps32 rfl rfl ?_
  refine C_seq (C_region (LY rfl (y_assign rfl) (L_nil (C_seq (C_seq (C_region (LY rfl (y_move rfl) ?_)))))))
  refine LY rfl (y_eqp rfl rfl Try.underlying26) ?_
  refine LY rfl (y_move rfl) (LY rfl (y_move rfl) ?_)
  refine L_op rfl (op_call rfl rfl (fun a w => Try.call59 a w) rfl ?_)
  refine ((present_tf h hp hq).sub (hsub_pick [0, 0] rfl)).mono ?_
  rintro _ _ ⟨g1, hg1, rfl, rfl⟩
  cases g1 with
  | none => exact slOk_none hg1 (by decide)
  | some g1 => ?_
  refine ⟨_, rfl, ?_⟩
  refine LY rfl (y_lenS rfl rfl Try.underlying118) ?_
  refine LY rfl (y_lss rfl rfl) (LY rfl (y_pick_f rfl rfl) (L_nil (C_cond_t rfl (C_seq (C_region (LY rfl (y_assign rfl) (L_nil (C_ret ?_))))))))
  refine B_ret (rv_tmp rfl rv_nil) ((hsub (.cons_cons _ (.cons_cons _ (.cons _ (.refl _))))).trans (hsub_pick [1, 1] rfl)) ?_
  exact ⟨ret_int (by simp [syncE, hp, hq]), D, h.to (by simp [syncA, hp, hq]), by rw [show syncM m A p = m by simp [syncM, hp, hq]] <;> rfl⟩

set_option maxHeartbeats 4000000 in

theorem sync_ft {w0 : World} {H : Hp} {D : Duo} {A : Da} {bp : Nat} {m : Mi} (h : Two dt D A m.bx m.bys bp) {p : Int → Sec → Bool} (hG : GoodAt Try.prog w0 H m.gv p) (hQ : ∀ i, (A.dev i).Q.length ≤ 50000) (hm : m.n ≤ 4096) (hL : m.k0.length ≤ 4096 ∧ m.k1.length ≤ 4096) (hp : thr A false = false) (hq : thr A true = true) : FnS Try.prog w0 32 #[ptr m.b] (m.seg 110 :: D.seg dt :: H) (fun e H' => e = .returned (.int .i64 (syncE m A p)) ∧ ∃ D', Two dt D' (syncA m A p) m.bx m.bys bp ∧ H' = (syncM m A p).seg 110 :: D'.seg dt :: H) := by
  refine FnS_intro (n := 100) (rs := [.tmp 2]) (vs := [ptr m.b]) Try.func32 rfl Try.ntmps32 rfl rfl ?_
  refine C_seq (C_region (LY rfl (y_assign rfl) (L_nil (C_seq (C_seq (C_region (LY rfl (y_move rfl) ?_)))))))
  refine LY rfl (y_eqp rfl rfl Try.underlying26) ?_
  refine LY rfl (y_move rfl) (LY rfl (y_move rfl) ?_)
  refine L_op rfl (op_call rfl rfl (fun a w => Try.call59 a w) rfl ?_)
  refine ((present_ft h hp hq).sub (hsub_pick [0, 0] rfl)).mono ?_
  rintro _ _ ⟨g1, hg1, rfl, rfl⟩
  cases g1 with
  | none => exact slOk_none hg1 (by decide)
  | some g1 => ?_
  refine ⟨_, rfl, ?_⟩
  refine LY rfl (y_lenS rfl rfl Try.underlying118) ?_
  refine LY rfl (y_lss rfl rfl) (LY rfl (y_pick_f rfl rfl) (L_nil (C_cond_t rfl (C_seq (C_region (LY rfl (y_assign rfl) (L_nil (C_ret ?_))))))))
  refine B_ret (rv_tmp rfl rv_nil) ((hsub (.cons_cons _ (.cons_cons _ (.cons _ (.refl _))))).trans (hsub_pick [1, 1] rfl)) ?_
  exact ⟨ret_int (by simp [syncE, hp, hq]), D, h.to (by simp [syncA, hp, hq]), by rw [show syncM m A p = m by simp [syncM, hp, hq]] <;> rfl⟩

set_option maxHeartbeats 4000000 in

theorem sync_ff {w0 : World} {H : Hp} {D : Duo} {A : Da} {bp : Nat} {m : Mi} (h : Two dt D A m.bx m.bys bp) {p : Int → Sec → Bool} (hG : GoodAt Try.prog w0 H m.gv p) (hQ : ∀ i, (A.dev i).Q.length ≤ 50000) (hm : m.n ≤ 4096) (hL : m.k0.length ≤ 4096 ∧ m.k1.length ≤ 4096) (hp : thr A false = false) (hq : thr A true = false) : FnS Try.prog w0 32 #[ptr m.b] (m.seg 110 :: D.seg dt :: H) (fun e H' => e = .returned (.int .i64 (syncE m A p)) ∧ ∃ D', Two dt D' (syncA m A p) m.bx m.bys bp ∧ H' = (syncM m A p).seg 110 :: D'.seg dt :: H) := by
  refine FnS_intro (n := 100) (rs := [.tmp 2]) (vs := [ptr m.b]) Try.func32 rfl Try.ntmps32 rfl rfl ?_
  refine C_seq (C_region (LY rfl (y_assign rfl) (L_nil (C_seq (C_seq (C_region (LY rfl (y_move rfl) ?_)))))))
  refine LY rfl (y_eqp rfl rfl Try.underlying26) ?_
  refine LY rfl (y_move rfl) (LY rfl (y_move rfl) ?_)
  refine L_op rfl (op_call rfl rfl (fun a w => Try.call59 a w) rfl ?_)
  refine ((present_ff h hp hq).sub (hsub_pick [0, 0] rfl)).mono ?_
  rintro _ _ ⟨rfl, rfl⟩
  refine ⟨_, rfl, ?_⟩
  refine LY rfl (y_lenS rfl rfl Try.underlying118) ?_
  refine LY rfl (y_lss rfl rfl) (LY rfl (y_pick_f rfl rfl) (L_nil (C_cond_t rfl (C_seq (C_region (LY rfl (y_assign rfl) (L_nil (C_ret ?_))))))))
  refine B_ret (rv_tmp rfl rv_nil) ((hsub (.cons_cons _ (.cons_cons _ (.refl _)))).trans (hsub_pick [0, 0] rfl)) ?_
  exact ⟨ret_int (by simp [syncE, hp, hq]), D, h.to (by simp [syncA, hp, hq]), by rw [show syncM m A p = m by simp [syncM, hp, hq]] <;> rfl⟩

theorem sync_m {w0 : World} {H : Hp} {D : Duo} {A : Da} {bp : Nat} {m : Mi} (h : Two dt D A m.bx m.bys bp) {p : Int → Sec → Bool} (hG : GoodAt Try.prog w0 H m.gv p) (hQ : ∀ i, (A.dev i).Q.length ≤ 50000) (hm : m.n ≤ 4096) (hL : m.k0.length ≤ 4096 ∧ m.k1.length ≤ 4096) : FnS Try.prog w0 32 #[ptr m.b] (m.seg 110 :: D.seg dt :: H) (fun e H' => e = .returned (.int .i64 (syncE m A p)) ∧ ∃ D', Two dt D' (syncA m A p) m.bx m.bys bp ∧ H' = (syncM m A p).seg 110 :: D'.seg dt :: H) := by
  cases hp : thr A false <;> cases hq : thr A true
  · exact sync_ff h hG hQ hm hL hp hq
  · exact sync_ft h hG hQ hm hL hp hq
  · exact sync_tf h hG hQ hm hL hp hq
  · exact sync_tt h hG hQ hm hL hp hq

end Go.Proofs.Ytjjiclgbdenkkaa

