/- Own work: texts MpW, put together. -/
import Derived.Test.YtjjiclgbdenkkaaMSuperRowsc
/- walks (own work; the walks' lines by a program of this repo). -/
set_option linter.unusedVariables false
set_option linter.unusedSimpArgs false
set_option maxRecDepth 20000
namespace Go.Proofs.Ytjjiclgbdenkkaa
open Go.Sl
attribute [local irreducible] BodyQ WpC WpL WpS WpH OpW FnS


theorem put_no {w0 : World} {H : Hp} {D : Duo} {A : Da} {bp : Nat} {m : Mi} (h : Two dt D A m.bx m.bys bp) (n : Int) (s : Sec) (hs : s.length = 128) {fa : Nat} {cap : List Value} {ask : Da → Bool → Bool} (hask : AskAt Try.prog dt 110 w0 H m bp fa cap ask) (hQ : ∀ i, (A.dev i).Q.length < 99990) (hn : m.has n = false) : FnS Try.prog w0 54 #[ptr m.b, .int .i64 n, .agg (bs s).toArray, .func (.func fa) #[] cap.toArray] (m.seg 110 :: D.seg dt :: H) (fun e H' => e = .returned (.int .i64 (putE m A ask n s)) ∧ ∃ D', Two dt D' (putDa m A ask n s) m.bx m.bys bp ∧ H' = (putm m A ask n s).seg 110 :: D'.seg dt :: H) := by
  refine FnS_intro (n := 77) (rs := [.tmp 8]) (vs := [ptr m.b, .int .i64 n, .agg (bs s).toArray, .func (.func fa) #[] cap.toArray]) Try.func54 rfl Try.ntmps54 rfl rfl ?_
  refine C_seq ?_
  refine C_region ?_
  refine L_op rfl (op_box rfl rfl rfl (fun B1 => ?_))
  refine L_y rfl (y_assign rfl) rfl ?_
  refine L_nil ?_
  refine C_seq ?_
  refine C_seq ?_
  refine C_region ?_
  refine L_y rfl (y_move rfl) rfl ?_
  refine L_y rfl (y_move rfl) rfl ?_
  refine L_op rfl (op_call rfl rfl (fun a w => Try.call58 a w) rfl ?_)
  refine (has_m _ (sees 1 0 rfl)).mono ?_
  rintro _ _ ⟨rfl, rfl⟩
  rw [hn]
  refine ⟨_, rfl, ?_⟩
  refine L_y rfl (y_not rfl) rfl ?_
  refine L_nil ?_
  refine C_cond_t rfl ?_
  refine C_seq ?_
  refine C_region ?_
  refine L_y rfl (y_assign rfl) rfl ?_
  refine L_nil ?_
  refine C_ret ?_
  refine B_ret (rv_tmp rfl rv_nil) (hsub (.cons _ (.refl _))) ?_
  exact ⟨ret_int (by simp [putE, hn]), D, h.to (by simp [putDa, hn]), by rw [show putm m A ask n s = m from by simp [putm, hn]]⟩

set_option maxHeartbeats 4000000 in

theorem put_yes {w0 : World} {H : Hp} {D : Duo} {A : Da} {bp : Nat} {m : Mi} (h : Two dt D A m.bx m.bys bp) (n : Int) (s : Sec) (hs : s.length = 128) {fa : Nat} {cap : List Value} {ask : Da → Bool → Bool} (hask : AskAt Try.prog dt 110 w0 H m bp fa cap ask) (hQ : ∀ i, (A.dev i).Q.length < 99990) (hn : m.has n = true) : FnS Try.prog w0 54 #[ptr m.b, .int .i64 n, .agg (bs s).toArray, .func (.func fa) #[] cap.toArray] (m.seg 110 :: D.seg dt :: H) (fun e H' => e = .returned (.int .i64 (putE m A ask n s)) ∧ ∃ D', Two dt D' (putDa m A ask n s) m.bx m.bys bp ∧ H' = (putm m A ask n s).seg 110 :: D'.seg dt :: H) := by
  refine FnS_intro (n := 77) (rs := [.tmp 8]) (vs := [ptr m.b, .int .i64 n, .agg (bs s).toArray, .func (.func fa) #[] cap.toArray]) Try.func54 rfl Try.ntmps54 rfl rfl ?_
  refine C_seq ?_
  refine C_region ?_
  refine L_op rfl (op_box rfl rfl rfl (fun B1 => ?_))
  refine L_y rfl (y_assign rfl) rfl ?_
  refine L_nil ?_
  refine C_seq ?_
  refine C_seq ?_
  refine C_region ?_
  refine L_y rfl (y_move rfl) rfl ?_
  refine L_y rfl (y_move rfl) rfl ?_
  refine L_op rfl (op_call rfl rfl (fun a w => Try.call58 a w) rfl ?_)
  refine (has_m _ (sees 1 0 rfl)).mono ?_
  rintro _ _ ⟨rfl, rfl⟩
  rw [hn]
  refine ⟨_, rfl, ?_⟩
  refine L_y rfl (y_not rfl) rfl ?_
  refine L_nil ?_
  refine C_cond_f rfl ?_
  refine C_skip ?_
  refine C_seq ?_
  refine C_region ?_
  refine L_op rfl (op_alloc zl_62 rfl (fun B2 => ?_))
  refine L_nil ?_
  refine C_seq ?_
  refine C_seq ?_
  refine C_region ?_
  refine L_y rfl (y_move rfl) rfl ?_
  refine L_nil ?_
  refine C_block ?_
  refine C_loopIn (In_round ?_)
  refine C_seq ?_
  refine C_region ?_
  refine L_y rfl (y_lss rfl rfl) rfl ?_
  refine L_nil ?_
  refine C_seq ?_
  refine C_cond_t rfl ?_
  refine C_skip ?_
  refine C_seq ?_
  refine C_block ?_
  refine C_seq ?_
  refine C_region ?_
  refine L_y rfl (y_move rfl) rfl ?_
  refine L_y rfl (y_assign rfl) rfl ?_
  refine L_nil ?_
  refine C_seq ?_
  refine C_region ?_
  refine L_y rfl (y_move rfl) rfl ?_
  refine L_y rfl (y_move rfl) rfl ?_
  refine L_y rfl (y_nilCheck rfl) rfl ?_
  refine L_y rfl (y_fieldAddr rfl fl_110_0) rfl ?_
  refine L_y rfl (y_indexA rfl rfl Try.underlying108 sz_107 (by omega) (by omega) (show _ = 0 from rfl)) rfl ?_
  refine L_y rfl (y_assign rfl) rfl ?_
  refine L_nil ?_
  refine C_seq ?_
  refine C_region ?_
  refine L_y rfl (y_move rfl) rfl ?_
  refine L_y rfl (y_nilCheck rfl) rfl ?_
  refine L_y rfl (y_loadA rfl ag_107 sz_107 (sees 2 0 rfl) (Nat.le_of_ble_eq_true rfl) rfl) rfl ?_
  refine L_op rfl (op_call rfl rfl (fun a w => Try.call53 a w) rfl ?_)
  refine ((there_d h false).sub (hsub_pick [3] rfl)).mono ?_
  rintro _ _ ⟨rfl, rfl⟩
  refine ⟨_, rfl, ?_⟩
  refine L_nil ?_
  refine C_cond rfl (fun hc2 => ?_) (fun hc2 => ?_)
  · skip
    refine C_regionH H (by kernel_rfl) ?_
    refine H_y 0 rfl (by kernel_rfl) (by kernel_rfl) (by kernel_rfl) (hsub (.cons _ (.cons _ (.cons _ (.cons _ (.refl _)))))) rfl (y_move rfl) rfl ?_
    refine H_y 1 rfl (by kernel_rfl) (by kernel_rfl) (by kernel_rfl) (hsub (.cons _ (.cons _ (.cons _ (.cons _ (.refl _)))))) rfl (y_move rfl) rfl ?_
    refine H_y 2 rfl (by kernel_rfl) (by kernel_rfl) (by kernel_rfl) (hsub (.cons _ (.cons _ (.cons _ (.cons _ (.refl _)))))) rfl (y_move rfl) rfl ?_
    refine H_one 3 rfl (by kernel_rfl) rfl (op_call (f := fa) (first := []) (cap := cap) rfl rfl hask.1 rfl ?_)
    refine FnS.mono (FnS.sub (hsub_pick [3, 0] rfl) (hask.2 false _ _ _ h (hsub (.cons _ (.cons _ (.refl _)))))) ?_
    rintro _ _ ⟨rfl, rfl⟩
    refine ⟨_, rfl, ?_⟩
    refine ⟨hsub (.cons _ (.cons _ (.cons _ (.cons _ (.refl _))))), ?_⟩
    refine H_y 4 rfl (by kernel_rfl) (by kernel_rfl) (by kernel_rfl) (hsub (.cons _ (.cons _ (.cons _ (.cons _ (.refl _)))))) rfl (y_not rfl) rfl ?_
    refine H_y 5 rfl (by kernel_rfl) (by kernel_rfl) (by kernel_rfl) (hsub (.cons _ (.cons _ (.cons _ (.cons _ (.refl _)))))) rfl (y_move rfl) rfl ?_
    refine H_case 34 rfl (fun hg9_6 => ?_) (fun hg9_6 => ?_)
    · skip
      refine H_skip 6 rfl (by kernel_rfl) (by kernel_rfl) (by kernel_rfl) (hsub (.cons _ (.cons _ (.cons _ (.cons _ (.refl _)))))) rfl rfl ?_
      refine H_skip 7 rfl (by kernel_rfl) (by kernel_rfl) (by kernel_rfl) (hsub (.cons _ (.cons _ (.cons _ (.cons _ (.refl _)))))) rfl rfl ?_
      refine H_skip 8 rfl (by kernel_rfl) (by kernel_rfl) (by kernel_rfl) (hsub (.cons _ (.cons _ (.cons _ (.cons _ (.refl _)))))) rfl rfl ?_
      refine H_skip 9 rfl (by kernel_rfl) (by kernel_rfl) (by kernel_rfl) (hsub (.cons _ (.cons _ (.cons _ (.cons _ (.refl _)))))) rfl rfl ?_
      refine H_skip 10 rfl (by kernel_rfl) (by kernel_rfl) (by kernel_rfl) (hsub (.cons _ (.cons _ (.cons _ (.cons _ (.refl _)))))) rfl rfl ?_
      refine H_skip 11 rfl (by kernel_rfl) (by kernel_rfl) (by kernel_rfl) (hsub (.cons _ (.cons _ (.cons _ (.cons _ (.refl _)))))) rfl rfl ?_
      refine H_skip 12 rfl (by kernel_rfl) (by kernel_rfl) (by kernel_rfl) (hsub (.cons _ (.cons _ (.cons _ (.cons _ (.refl _)))))) rfl rfl ?_
      refine H_skip 13 rfl (by kernel_rfl) (by kernel_rfl) (by kernel_rfl) (hsub (.cons _ (.cons _ (.cons _ (.cons _ (.refl _)))))) rfl rfl ?_
      refine H_y 14 rfl (by kernel_rfl) (by kernel_rfl) (by kernel_rfl) (hsub (.cons _ (.cons _ (.cons _ (.cons _ (.refl _)))))) rfl (y_pick_t rfl rfl) rfl ?_
      refine H_y 15 rfl (by kernel_rfl) (by kernel_rfl) (by kernel_rfl) (hsub (.cons _ (.cons _ (.cons _ (.cons _ (.refl _)))))) rfl (y_indexA rfl rfl Try.underlying62 sz_4 (by omega) (by omega) (show _ = 0 from rfl)) rfl ?_
      refine H_one 16 rfl (by kernel_rfl) rfl (op_store1 2 0 rfl rfl rfl sz_4 rfl (Nat.le_of_ble_eq_true rfl) ?_)
      refine ⟨hsub (.cons _ (.cons _ (.cons _ (.cons _ (.refl _))))), ?_⟩
      refine H_done (by kernel_rfl) ?_
      refine C_region ?_
      refine L_y rfl (y_add rfl rfl (show _ = (1 : Int) from rfl)) rfl ?_
      refine L_y rfl (y_move rfl) rfl ?_
      refine L_nil ?_
      refine In_round ?_
      refine C_seq ?_
      refine C_region ?_
      refine L_y rfl (y_lss rfl rfl) rfl ?_
      refine L_nil ?_
      refine C_seq ?_
      refine C_cond_t rfl ?_
      refine C_skip ?_
      refine C_seq ?_
      refine C_block ?_
      refine C_seq ?_
      refine C_region ?_
      refine L_y rfl (y_move rfl) rfl ?_
      refine L_y rfl (y_assign rfl) rfl ?_
      refine L_nil ?_
      refine C_seq ?_
      refine C_region ?_
      refine L_y rfl (y_move rfl) rfl ?_
      refine L_y rfl (y_move rfl) rfl ?_
      refine L_y rfl (y_nilCheck rfl) rfl ?_
      refine L_y rfl (y_fieldAddr rfl fl_110_0) rfl ?_
      refine L_y rfl (y_indexA rfl rfl Try.underlying108 sz_107 (by omega) (by omega) (show _ = 2 from rfl)) rfl ?_
      refine L_y rfl (y_assign rfl) rfl ?_
      refine L_nil ?_
      refine C_seq ?_
      refine C_region ?_
      refine L_y rfl (y_move rfl) rfl ?_
      refine L_y rfl (y_nilCheck rfl) rfl ?_
      refine L_y rfl (y_loadA rfl ag_107 sz_107 (sees 0 0 rfl) (Nat.le_of_ble_eq_true rfl) rfl) rfl ?_
      refine L_op rfl (op_call rfl rfl (fun a w => Try.call53 a w) rfl ?_)
      refine ((there_d h true).sub (hsub_pick [1] rfl)).mono ?_
      rintro _ _ ⟨rfl, rfl⟩
      refine ⟨_, rfl, ?_⟩
      refine L_nil ?_
      refine C_cond rfl (fun hc2 => ?_) (fun hc2 => ?_)
      · skip
        refine C_regionH H (by kernel_rfl) ?_
        refine H_y 0 rfl (by kernel_rfl) (by kernel_rfl) (by kernel_rfl) (hsub (.cons _ (.cons _ (.cons _ (.cons _ (.refl _)))))) rfl (y_move rfl) rfl ?_
        refine H_y 1 rfl (by kernel_rfl) (by kernel_rfl) (by kernel_rfl) (hsub (.cons _ (.cons _ (.cons _ (.cons _ (.refl _)))))) rfl (y_move rfl) rfl ?_
        refine H_y 2 rfl (by kernel_rfl) (by kernel_rfl) (by kernel_rfl) (hsub (.cons _ (.cons _ (.cons _ (.cons _ (.refl _)))))) rfl (y_move rfl) rfl ?_
        refine H_one 3 rfl (by kernel_rfl) rfl (op_call (f := fa) (first := []) (cap := cap) rfl rfl hask.1 rfl ?_)
        refine FnS.mono (FnS.sub (hsub_pick [1, 0] rfl) (hask.2 true _ _ _ h (hsub (.cons _ (.cons _ (.refl _)))))) ?_
        rintro _ _ ⟨rfl, rfl⟩
        refine ⟨_, rfl, ?_⟩
        refine ⟨hsub (.cons _ (.cons _ (.cons _ (.cons _ (.refl _))))), ?_⟩
        refine H_y 4 rfl (by kernel_rfl) (by kernel_rfl) (by kernel_rfl) (hsub (.cons _ (.cons _ (.cons _ (.cons _ (.refl _)))))) rfl (y_not rfl) rfl ?_
        refine H_y 5 rfl (by kernel_rfl) (by kernel_rfl) (by kernel_rfl) (hsub (.cons _ (.cons _ (.cons _ (.cons _ (.refl _)))))) rfl (y_move rfl) rfl ?_
        refine H_case 34 rfl (fun hg9_6 => ?_) (fun hg9_6 => ?_)
        · skip
          refine H_skip 6 rfl (by kernel_rfl) (by kernel_rfl) (by kernel_rfl) (hsub (.cons _ (.cons _ (.cons _ (.cons _ (.refl _)))))) rfl rfl ?_
          refine H_skip 7 rfl (by kernel_rfl) (by kernel_rfl) (by kernel_rfl) (hsub (.cons _ (.cons _ (.cons _ (.cons _ (.refl _)))))) rfl rfl ?_
          refine H_skip 8 rfl (by kernel_rfl) (by kernel_rfl) (by kernel_rfl) (hsub (.cons _ (.cons _ (.cons _ (.cons _ (.refl _)))))) rfl rfl ?_
          refine H_skip 9 rfl (by kernel_rfl) (by kernel_rfl) (by kernel_rfl) (hsub (.cons _ (.cons _ (.cons _ (.cons _ (.refl _)))))) rfl rfl ?_
          refine H_skip 10 rfl (by kernel_rfl) (by kernel_rfl) (by kernel_rfl) (hsub (.cons _ (.cons _ (.cons _ (.cons _ (.refl _)))))) rfl rfl ?_
          refine H_skip 11 rfl (by kernel_rfl) (by kernel_rfl) (by kernel_rfl) (hsub (.cons _ (.cons _ (.cons _ (.cons _ (.refl _)))))) rfl rfl ?_
          refine H_skip 12 rfl (by kernel_rfl) (by kernel_rfl) (by kernel_rfl) (hsub (.cons _ (.cons _ (.cons _ (.cons _ (.refl _)))))) rfl rfl ?_
          refine H_skip 13 rfl (by kernel_rfl) (by kernel_rfl) (by kernel_rfl) (hsub (.cons _ (.cons _ (.cons _ (.cons _ (.refl _)))))) rfl rfl ?_
          refine H_y 14 rfl (by kernel_rfl) (by kernel_rfl) (by kernel_rfl) (hsub (.cons _ (.cons _ (.cons _ (.cons _ (.refl _)))))) rfl (y_pick_t rfl rfl) rfl ?_
          refine H_y 15 rfl (by kernel_rfl) (by kernel_rfl) (by kernel_rfl) (hsub (.cons _ (.cons _ (.cons _ (.cons _ (.refl _)))))) rfl (y_indexA rfl rfl Try.underlying62 sz_4 (by omega) (by omega) (show _ = 1 from rfl)) rfl ?_
          refine H_one 16 rfl (by kernel_rfl) rfl (op_store1 2 0 rfl rfl rfl sz_4 rfl (Nat.le_of_ble_eq_true rfl) ?_)
          refine ⟨hsub (.cons _ (.cons _ (.cons _ (.cons _ (.refl _))))), ?_⟩
          refine H_done (by kernel_rfl) ?_
          refine C_region ?_
          refine L_y rfl (y_add rfl rfl (show _ = (2 : Int) from rfl)) rfl ?_
          refine L_y rfl (y_move rfl) rfl ?_
          refine L_nil ?_
          refine In_round ?_
          refine C_seq ?_
          refine C_region ?_
          refine L_y rfl (y_lss rfl rfl) rfl ?_
          refine L_nil ?_
          refine C_seq ?_
          refine C_cond_f rfl ?_
          refine C_exit ?_
          refine C_seq ?_
          refine C_seq ?_
          refine C_region ?_
          refine L_y rfl (y_indexA rfl rfl Try.underlying62 sz_4 (by omega) (by omega) (show _ = 0 from rfl)) rfl ?_
          refine L_y rfl (y_load rfl ag_4 (sees 2 0 rfl) rfl) rfl ?_
          refine L_y rfl (y_not rfl) rfl ?_
          refine L_y rfl (y_move rfl) rfl ?_
          refine L_skip rfl rfl ?_
          refine L_skip rfl rfl ?_
          refine L_skip rfl rfl ?_
          refine L_y rfl (y_pick_f rfl rfl) rfl ?_
          refine L_nil ?_
          refine C_cond_f rfl ?_
          refine C_skip ?_
          refine C_seq ?_
          refine C_seq ?_
          refine C_region ?_
          refine L_y rfl (y_move rfl) rfl ?_
          refine L_nil ?_
          refine C_block ?_
          refine C_loopIn (In_round ?_)
          refine C_seq ?_
          refine C_region ?_
          refine L_y rfl (y_lss rfl rfl) rfl ?_
          refine L_nil ?_
          refine C_seq ?_
          refine C_cond_t rfl ?_
          refine C_skip ?_
          refine C_seq ?_
          refine C_block ?_
          refine C_seq ?_
          refine C_region ?_
          refine L_y rfl (y_move rfl) rfl ?_
          refine L_y rfl (y_assign rfl) rfl ?_
          refine L_nil ?_
          refine C_seq ?_
          refine C_region ?_
          refine L_y rfl (y_move rfl) rfl ?_
          refine L_y rfl (y_indexA rfl rfl Try.underlying62 sz_4 (by omega) (by omega) (show _ = 0 from rfl)) rfl ?_
          refine L_y rfl (y_load rfl ag_4 (sees 2 0 rfl) rfl) rfl ?_
          refine L_nil ?_
          refine C_cond_t rfl ?_
          refine C_region ?_
          refine L_y rfl (y_move rfl) rfl ?_
          refine L_y rfl (y_move rfl) rfl ?_
          refine L_y rfl (y_nilCheck rfl) rfl ?_
          refine L_y rfl (y_fieldAddr rfl fl_110_0) rfl ?_
          refine L_y rfl (y_indexA rfl rfl Try.underlying108 sz_107 (by omega) (by omega) (show _ = 0 from rfl)) rfl ?_
          refine L_y rfl (y_fieldAddr rfl fl_107_1) rfl ?_
          refine L_y rfl (y_load rfl ag_105 (sees 0 0 rfl) rfl) rfl ?_
          refine L_y rfl (y_move rfl) rfl ?_
          refine L_op rfl (op_delete 0 1 rfl rfl rfl Try.underlying105 Try.underlying3 rfl rfl ?_)
          refine L_nil ?_
          refine C_region ?_
          refine L_y rfl (y_add rfl rfl (show _ = (1 : Int) from rfl)) rfl ?_
          refine L_y rfl (y_move rfl) rfl ?_
          refine L_nil ?_
          refine In_round ?_
          refine C_seq ?_
          refine C_region ?_
          refine L_y rfl (y_lss rfl rfl) rfl ?_
          refine L_nil ?_
          refine C_seq ?_
          refine C_cond_t rfl ?_
          refine C_skip ?_
          refine C_seq ?_
          refine C_block ?_
          refine C_seq ?_
          refine C_region ?_
          refine L_y rfl (y_move rfl) rfl ?_
          refine L_y rfl (y_assign rfl) rfl ?_
          refine L_nil ?_
          refine C_seq ?_
          refine C_region ?_
          refine L_y rfl (y_move rfl) rfl ?_
          refine L_y rfl (y_indexA rfl rfl Try.underlying62 sz_4 (by omega) (by omega) (show _ = 1 from rfl)) rfl ?_
          refine L_y rfl (y_load rfl ag_4 (sees 2 0 rfl) rfl) rfl ?_
          refine L_nil ?_
          refine C_cond_t rfl ?_
          refine C_region ?_
          refine L_y rfl (y_move rfl) rfl ?_
          refine L_y rfl (y_move rfl) rfl ?_
          refine L_y rfl (y_nilCheck rfl) rfl ?_
          refine L_y rfl (y_fieldAddr rfl fl_110_0) rfl ?_
          refine L_y rfl (y_indexA rfl rfl Try.underlying108 sz_107 (by omega) (by omega) (show _ = 2 from rfl)) rfl ?_
          refine L_y rfl (y_fieldAddr rfl fl_107_1) rfl ?_
          refine L_y rfl (y_load rfl ag_105 (sees 0 0 rfl) rfl) rfl ?_
          refine L_y rfl (y_move rfl) rfl ?_
          refine L_op rfl (op_delete 0 2 rfl rfl rfl Try.underlying105 Try.underlying3 rfl rfl ?_)
          refine L_nil ?_
          refine C_region ?_
          refine L_y rfl (y_add rfl rfl (show _ = (2 : Int) from rfl)) rfl ?_
          refine L_y rfl (y_move rfl) rfl ?_
          refine L_nil ?_
          refine In_round ?_
          refine C_seq ?_
          refine C_region ?_
          refine L_y rfl (y_lss rfl rfl) rfl ?_
          refine L_nil ?_
          refine C_seq ?_
          refine C_cond_f rfl ?_
          refine C_exit ?_
          refine C_seq ?_
          refine C_region ?_
          refine L_y rfl (y_assign rfl) rfl ?_
          refine L_nil ?_
          refine C_ret ?_
          refine B_ret (rv_tmp rfl rv_nil) ((hsub (.cons_cons _ (.cons_cons _ (.cons _ (.cons _ (.refl _)))))).trans (hsub_pick [0, 0] rfl)) ?_
          have e0 : putD A ask n s false = true := by simp_all [putD, pd]
          have e1 : putD A ask n s true = true := by simp_all [putD, pd, pA]
          have ea : putA A ask n s = A := by simp_all [putA, pA]
          have em : putm m A ask n s = m.mark n true true := by simp [putm, hn, e0, e1]
          exact ⟨ret_int (by simp [putE, hn, e0, e1]), D, h.to (by simp [putDa, hn, ea]), by rw [em]; rfl⟩
        · skip
          refine H_y 6 rfl (by kernel_rfl) (by kernel_rfl) (by kernel_rfl) (hsub (.cons _ (.cons _ (.cons _ (.cons _ (.refl _)))))) rfl (y_move rfl) rfl ?_
          refine H_y 7 rfl (by kernel_rfl) (by kernel_rfl) (by kernel_rfl) (hsub (.cons _ (.cons _ (.cons _ (.cons _ (.refl _)))))) rfl (y_nilCheck rfl) rfl ?_
          refine H_y 8 rfl (by kernel_rfl) (by kernel_rfl) (by kernel_rfl) (hsub (.cons _ (.cons _ (.cons _ (.cons _ (.refl _)))))) rfl (y_fieldAddr rfl fl_107_0) rfl ?_
          refine H_y 10 rfl (by kernel_rfl) (by kernel_rfl) (by kernel_rfl) (hsub (.cons _ (.cons _ (.cons _ (.cons _ (.refl _)))))) rfl (y_move rfl) rfl ?_
          refine H_two 9 11 rfl rfl (by kernel_rfl) rfl rfl ?_ ?_
          · refine op_y (y_load rfl ag_24 (sees 0 0 rfl) rfl) rfl ?_
            refine ⟨hsub (.cons _ (.cons _ (.cons _ (.cons _ (.refl _))))), ?_⟩
            refine H_one 11 rfl (by kernel_rfl) rfl (op_y (y_loadA rfl ag_32 sz_32 (sees 3 0 rfl) (by rw [bs_length, hs]; decide) (bs_whole0 _ hs)) rfl ?_)
            refine ⟨hsub (.cons _ (.cons _ (.cons _ (.cons _ (.refl _))))), ?_⟩
            refine H_one 12 rfl (by kernel_rfl) rfl (op_call rfl rfl (fun a w => Try.call62 a w) rfl ?_)
            refine ((write_d h true n s hs (by have := hQ true; omega)).sub (hsub_pick [1] rfl)).mono ?_
            rintro _ _ ⟨rfl, D1, h1, rfl⟩
            refine ⟨_, rfl, ?_⟩
            refine ⟨hsub (.cons _ (.cons _ (.cons _ (.cons _ (.refl _))))), ?_⟩
            refine H_y 13 rfl (by kernel_rfl) (by kernel_rfl) (by kernel_rfl) (hsub (.cons _ (.cons _ (.cons _ (.cons _ (.refl _)))))) rfl (y_eqi rfl rfl) rfl ?_
            refine H_case 42 rfl (fun hg9_14 => ?_) (fun hg9_14 => ?_)
            · skip
              refine H_y 14 rfl (by kernel_rfl) (by kernel_rfl) (by kernel_rfl) (hsub (.cons _ (.cons _ (.cons _ (.cons _ (.refl _)))))) rfl (y_pick_f rfl rfl) rfl ?_
              refine H_y 15 rfl (by kernel_rfl) (by kernel_rfl) (by kernel_rfl) (hsub (.cons _ (.cons _ (.cons _ (.cons _ (.refl _)))))) rfl (y_indexA rfl rfl Try.underlying62 sz_4 (by omega) (by omega) (show _ = 1 from rfl)) rfl ?_
              refine H_one 16 rfl (by kernel_rfl) rfl (op_store1 2 0 rfl rfl rfl sz_4 rfl (Nat.le_of_ble_eq_true rfl) ?_)
              refine ⟨hsub (.cons _ (.cons _ (.cons _ (.cons _ (.refl _))))), ?_⟩
              refine H_done (by kernel_rfl) ?_
              refine C_region ?_
              refine L_y rfl (y_add rfl rfl (show _ = (2 : Int) from rfl)) rfl ?_
              refine L_y rfl (y_move rfl) rfl ?_
              refine L_nil ?_
              refine In_round ?_
              refine C_seq ?_
              refine C_region ?_
              refine L_y rfl (y_lss rfl rfl) rfl ?_
              refine L_nil ?_
              refine C_seq ?_
              refine C_cond_f rfl ?_
              refine C_exit ?_
              refine C_seq ?_
              refine C_seq ?_
              refine C_region ?_
              refine L_y rfl (y_indexA rfl rfl Try.underlying62 sz_4 (by omega) (by omega) (show _ = 0 from rfl)) rfl ?_
              refine L_y rfl (y_load rfl ag_4 (sees 2 0 rfl) rfl) rfl ?_
              refine L_y rfl (y_not rfl) rfl ?_
              refine L_y rfl (y_move rfl) rfl ?_
              refine L_skip rfl rfl ?_
              refine L_skip rfl rfl ?_
              refine L_skip rfl rfl ?_
              refine L_y rfl (y_pick_f rfl rfl) rfl ?_
              refine L_nil ?_
              refine C_cond_f rfl ?_
              refine C_skip ?_
              refine C_seq ?_
              refine C_seq ?_
              refine C_region ?_
              refine L_y rfl (y_move rfl) rfl ?_
              refine L_nil ?_
              refine C_block ?_
              refine C_loopIn (In_round ?_)
              refine C_seq ?_
              refine C_region ?_
              refine L_y rfl (y_lss rfl rfl) rfl ?_
              refine L_nil ?_
              refine C_seq ?_
              refine C_cond_t rfl ?_
              refine C_skip ?_
              refine C_seq ?_
              refine C_block ?_
              refine C_seq ?_
              refine C_region ?_
              refine L_y rfl (y_move rfl) rfl ?_
              refine L_y rfl (y_assign rfl) rfl ?_
              refine L_nil ?_
              refine C_seq ?_
              refine C_region ?_
              refine L_y rfl (y_move rfl) rfl ?_
              refine L_y rfl (y_indexA rfl rfl Try.underlying62 sz_4 (by omega) (by omega) (show _ = 0 from rfl)) rfl ?_
              refine L_y rfl (y_load rfl ag_4 (sees 2 0 rfl) rfl) rfl ?_
              refine L_nil ?_
              refine C_cond_t rfl ?_
              refine C_region ?_
              refine L_y rfl (y_move rfl) rfl ?_
              refine L_y rfl (y_move rfl) rfl ?_
              refine L_y rfl (y_nilCheck rfl) rfl ?_
              refine L_y rfl (y_fieldAddr rfl fl_110_0) rfl ?_
              refine L_y rfl (y_indexA rfl rfl Try.underlying108 sz_107 (by omega) (by omega) (show _ = 0 from rfl)) rfl ?_
              refine L_y rfl (y_fieldAddr rfl fl_107_1) rfl ?_
              refine L_y rfl (y_load rfl ag_105 (sees 1 0 rfl) rfl) rfl ?_
              refine L_y rfl (y_move rfl) rfl ?_
              refine L_op rfl (op_delete 1 1 rfl rfl rfl Try.underlying105 Try.underlying3 rfl rfl ?_)
              refine L_nil ?_
              refine C_region ?_
              refine L_y rfl (y_add rfl rfl (show _ = (1 : Int) from rfl)) rfl ?_
              refine L_y rfl (y_move rfl) rfl ?_
              refine L_nil ?_
              refine In_round ?_
              refine C_seq ?_
              refine C_region ?_
              refine L_y rfl (y_lss rfl rfl) rfl ?_
              refine L_nil ?_
              refine C_seq ?_
              refine C_cond_t rfl ?_
              refine C_skip ?_
              refine C_seq ?_
              refine C_block ?_
              refine C_seq ?_
              refine C_region ?_
              refine L_y rfl (y_move rfl) rfl ?_
              refine L_y rfl (y_assign rfl) rfl ?_
              refine L_nil ?_
              refine C_seq ?_
              refine C_region ?_
              refine L_y rfl (y_move rfl) rfl ?_
              refine L_y rfl (y_indexA rfl rfl Try.underlying62 sz_4 (by omega) (by omega) (show _ = 1 from rfl)) rfl ?_
              refine L_y rfl (y_load rfl ag_4 (sees 2 0 rfl) rfl) rfl ?_
              refine L_nil ?_
              refine C_cond_t rfl ?_
              refine C_region ?_
              refine L_y rfl (y_move rfl) rfl ?_
              refine L_y rfl (y_move rfl) rfl ?_
              refine L_y rfl (y_nilCheck rfl) rfl ?_
              refine L_y rfl (y_fieldAddr rfl fl_110_0) rfl ?_
              refine L_y rfl (y_indexA rfl rfl Try.underlying108 sz_107 (by omega) (by omega) (show _ = 2 from rfl)) rfl ?_
              refine L_y rfl (y_fieldAddr rfl fl_107_1) rfl ?_
              refine L_y rfl (y_load rfl ag_105 (sees 1 0 rfl) rfl) rfl ?_
              refine L_y rfl (y_move rfl) rfl ?_
              refine L_op rfl (op_delete 1 2 rfl rfl rfl Try.underlying105 Try.underlying3 rfl rfl ?_)
              refine L_nil ?_
              refine C_region ?_
              refine L_y rfl (y_add rfl rfl (show _ = (2 : Int) from rfl)) rfl ?_
              refine L_y rfl (y_move rfl) rfl ?_
              refine L_nil ?_
              refine In_round ?_
              refine C_seq ?_
              refine C_region ?_
              refine L_y rfl (y_lss rfl rfl) rfl ?_
              refine L_nil ?_
              refine C_seq ?_
              refine C_cond_f rfl ?_
              refine C_exit ?_
              refine C_seq ?_
              refine C_region ?_
              refine L_y rfl (y_assign rfl) rfl ?_
              refine L_nil ?_
              refine C_ret ?_
              refine B_ret (rv_tmp rfl rv_nil) ((hsub (.cons_cons _ (.cons_cons _ (.cons _ (.cons _ (.refl _)))))).trans (hsub_pick [1, 0] rfl)) ?_
              have e0 : putD A ask n s false = true := by simp_all [putD, pd]
              have e1 : putD A ask n s true = true := by simp_all [putD, pd, pA]
              have ea : putA A ask n s = (A.write true n s) := by simp_all [putA, pA]
              have em : putm m A ask n s = m.mark n true true := by simp [putm, hn, e0, e1]
              exact ⟨ret_int (by simp [putE, hn, e0, e1]), D1, h1.to (by simp [putDa, hn, ea]), by rw [em]; rfl⟩
            · skip
              refine H_y 14 rfl (by kernel_rfl) (by kernel_rfl) (by kernel_rfl) (hsub (.cons _ (.cons _ (.cons _ (.cons _ (.refl _)))))) rfl (y_pick_f rfl rfl) rfl ?_
              refine H_y 15 rfl (by kernel_rfl) (by kernel_rfl) (by kernel_rfl) (hsub (.cons _ (.cons _ (.cons _ (.cons _ (.refl _)))))) rfl (y_indexA rfl rfl Try.underlying62 sz_4 (by omega) (by omega) (show _ = 1 from rfl)) rfl ?_
              refine H_one 16 rfl (by kernel_rfl) rfl (op_store1 2 0 rfl rfl rfl sz_4 rfl (Nat.le_of_ble_eq_true rfl) ?_)
              refine ⟨hsub (.cons _ (.cons _ (.cons _ (.cons _ (.refl _))))), ?_⟩
              refine H_done (by kernel_rfl) ?_
              refine C_region ?_
              refine L_y rfl (y_add rfl rfl (show _ = (2 : Int) from rfl)) rfl ?_
              refine L_y rfl (y_move rfl) rfl ?_
              refine L_nil ?_
              refine In_round ?_
              refine C_seq ?_
              refine C_region ?_
              refine L_y rfl (y_lss rfl rfl) rfl ?_
              refine L_nil ?_
              refine C_seq ?_
              refine C_cond_f rfl ?_
              refine C_exit ?_
              refine C_seq ?_
              refine C_seq ?_
              refine C_region ?_
              refine L_y rfl (y_indexA rfl rfl Try.underlying62 sz_4 (by omega) (by omega) (show _ = 0 from rfl)) rfl ?_
              refine L_y rfl (y_load rfl ag_4 (sees 2 0 rfl) rfl) rfl ?_
              refine L_y rfl (y_not rfl) rfl ?_
              refine L_y rfl (y_move rfl) rfl ?_
              refine L_skip rfl rfl ?_
              refine L_skip rfl rfl ?_
              refine L_skip rfl rfl ?_
              refine L_y rfl (y_pick_f rfl rfl) rfl ?_
              refine L_nil ?_
              refine C_cond_f rfl ?_
              refine C_skip ?_
              refine C_seq ?_
              refine C_seq ?_
              refine C_region ?_
              refine L_y rfl (y_move rfl) rfl ?_
              refine L_nil ?_
              refine C_block ?_
              refine C_loopIn (In_round ?_)
              refine C_seq ?_
              refine C_region ?_
              refine L_y rfl (y_lss rfl rfl) rfl ?_
              refine L_nil ?_
              refine C_seq ?_
              refine C_cond_t rfl ?_
              refine C_skip ?_
              refine C_seq ?_
              refine C_block ?_
              refine C_seq ?_
              refine C_region ?_
              refine L_y rfl (y_move rfl) rfl ?_
              refine L_y rfl (y_assign rfl) rfl ?_
              refine L_nil ?_
              refine C_seq ?_
              refine C_region ?_
              refine L_y rfl (y_move rfl) rfl ?_
              refine L_y rfl (y_indexA rfl rfl Try.underlying62 sz_4 (by omega) (by omega) (show _ = 0 from rfl)) rfl ?_
              refine L_y rfl (y_load rfl ag_4 (sees 2 0 rfl) rfl) rfl ?_
              refine L_nil ?_
              refine C_cond_t rfl ?_
              refine C_region ?_
              refine L_y rfl (y_move rfl) rfl ?_
              refine L_y rfl (y_move rfl) rfl ?_
              refine L_y rfl (y_nilCheck rfl) rfl ?_
              refine L_y rfl (y_fieldAddr rfl fl_110_0) rfl ?_
              refine L_y rfl (y_indexA rfl rfl Try.underlying108 sz_107 (by omega) (by omega) (show _ = 0 from rfl)) rfl ?_
              refine L_y rfl (y_fieldAddr rfl fl_107_1) rfl ?_
              refine L_y rfl (y_load rfl ag_105 (sees 1 0 rfl) rfl) rfl ?_
              refine L_y rfl (y_move rfl) rfl ?_
              refine L_op rfl (op_delete 1 1 rfl rfl rfl Try.underlying105 Try.underlying3 rfl rfl ?_)
              refine L_nil ?_
              refine C_region ?_
              refine L_y rfl (y_add rfl rfl (show _ = (1 : Int) from rfl)) rfl ?_
              refine L_y rfl (y_move rfl) rfl ?_
              refine L_nil ?_
              refine In_round ?_
              refine C_seq ?_
              refine C_region ?_
              refine L_y rfl (y_lss rfl rfl) rfl ?_
              refine L_nil ?_
              refine C_seq ?_
              refine C_cond_t rfl ?_
              refine C_skip ?_
              refine C_seq ?_
              refine C_block ?_
              refine C_seq ?_
              refine C_region ?_
              refine L_y rfl (y_move rfl) rfl ?_
              refine L_y rfl (y_assign rfl) rfl ?_
              refine L_nil ?_
              refine C_seq ?_
              refine C_region ?_
              refine L_y rfl (y_move rfl) rfl ?_
              refine L_y rfl (y_indexA rfl rfl Try.underlying62 sz_4 (by omega) (by omega) (show _ = 1 from rfl)) rfl ?_
              refine L_y rfl (y_load rfl ag_4 (sees 2 0 rfl) rfl) rfl ?_
              refine L_nil ?_
              refine C_cond_f rfl ?_
              refine C_region ?_
              refine L_y rfl (y_move rfl) rfl ?_
              refine L_y rfl (y_move rfl) rfl ?_
              refine L_y rfl (y_nilCheck rfl) rfl ?_
              refine L_y rfl (y_fieldAddr rfl fl_110_0) rfl ?_
              refine L_y rfl (y_indexA rfl rfl Try.underlying108 sz_107 (by omega) (by omega) (show _ = 2 from rfl)) rfl ?_
              refine L_y rfl (y_fieldAddr rfl fl_107_1) rfl ?_
              refine L_y rfl (y_load rfl ag_105 (sees 1 0 rfl) rfl) rfl ?_
              refine L_y rfl (y_move rfl) rfl ?_
              refine L_op rfl (op_mapUpdate 1 2 rfl rfl rfl Try.underlying105 Try.underlying3 rfl rfl ?_)
              refine L_nil ?_
              refine C_region ?_
              refine L_y rfl (y_add rfl rfl (show _ = (2 : Int) from rfl)) rfl ?_
              refine L_y rfl (y_move rfl) rfl ?_
              refine L_nil ?_
              refine In_round ?_
              refine C_seq ?_
              refine C_region ?_
              refine L_y rfl (y_lss rfl rfl) rfl ?_
              refine L_nil ?_
              refine C_seq ?_
              refine C_cond_f rfl ?_
              refine C_exit ?_
              refine C_seq ?_
              refine C_region ?_
              refine L_y rfl (y_assign rfl) rfl ?_
              refine L_nil ?_
              refine C_ret ?_
              refine B_ret (rv_tmp rfl rv_nil) ((hsub (.cons_cons _ (.cons_cons _ (.cons _ (.cons _ (.refl _)))))).trans (hsub_pick [1, 0] rfl)) ?_
              have e0 : putD A ask n s false = true := by simp_all [putD, pd]
              have e1 : putD A ask n s true = false := by simp_all [putD, pd, pA]
              have ea : putA A ask n s = (A.write true n s) := by simp_all [putA, pA]
              have em : putm m A ask n s = m.mark n true false := by simp [putm, hn, e0, e1]
              exact ⟨ret_int (by simp [putE, hn, e0, e1]), D1, h1.to (by simp [putDa, hn, ea]), by rw [em]; rfl⟩
          · refine op_y (y_loadA rfl ag_32 sz_32 (sees 3 0 rfl) (by rw [bs_length, hs]; decide) (bs_whole0 _ hs)) rfl ?_
            refine ⟨hsub (.cons _ (.cons _ (.cons _ (.cons _ (.refl _))))), ?_⟩
            refine H_one 9 rfl (by kernel_rfl) rfl (op_y (y_load rfl ag_24 (sees 0 0 rfl) rfl) rfl ?_)
            refine ⟨hsub (.cons _ (.cons _ (.cons _ (.cons _ (.refl _))))), ?_⟩
            refine H_one 12 rfl (by kernel_rfl) rfl (op_call rfl rfl (fun a w => Try.call62 a w) rfl ?_)
            refine ((write_d h true n s hs (by have := hQ true; omega)).sub (hsub_pick [1] rfl)).mono ?_
            rintro _ _ ⟨rfl, D2, h2, rfl⟩
            refine ⟨_, rfl, ?_⟩
            refine ⟨hsub (.cons _ (.cons _ (.cons _ (.cons _ (.refl _))))), ?_⟩
            refine H_y 13 rfl (by kernel_rfl) (by kernel_rfl) (by kernel_rfl) (hsub (.cons _ (.cons _ (.cons _ (.cons _ (.refl _)))))) rfl (y_eqi rfl rfl) rfl ?_
            refine H_case 42 rfl (fun hg9_14 => ?_) (fun hg9_14 => ?_)
            · skip
              refine H_y 14 rfl (by kernel_rfl) (by kernel_rfl) (by kernel_rfl) (hsub (.cons _ (.cons _ (.cons _ (.cons _ (.refl _)))))) rfl (y_pick_f rfl rfl) rfl ?_
              refine H_y 15 rfl (by kernel_rfl) (by kernel_rfl) (by kernel_rfl) (hsub (.cons _ (.cons _ (.cons _ (.cons _ (.refl _)))))) rfl (y_indexA rfl rfl Try.underlying62 sz_4 (by omega) (by omega) (show _ = 1 from rfl)) rfl ?_
              refine H_one 16 rfl (by kernel_rfl) rfl (op_store1 2 0 rfl rfl rfl sz_4 rfl (Nat.le_of_ble_eq_true rfl) ?_)
              refine ⟨hsub (.cons _ (.cons _ (.cons _ (.cons _ (.refl _))))), ?_⟩
              refine H_done (by kernel_rfl) ?_
              refine C_region ?_
              refine L_y rfl (y_add rfl rfl (show _ = (2 : Int) from rfl)) rfl ?_
              refine L_y rfl (y_move rfl) rfl ?_
              refine L_nil ?_
              refine In_round ?_
              refine C_seq ?_
              refine C_region ?_
              refine L_y rfl (y_lss rfl rfl) rfl ?_
              refine L_nil ?_
              refine C_seq ?_
              refine C_cond_f rfl ?_
              refine C_exit ?_
              refine C_seq ?_
              refine C_seq ?_
              refine C_region ?_
              refine L_y rfl (y_indexA rfl rfl Try.underlying62 sz_4 (by omega) (by omega) (show _ = 0 from rfl)) rfl ?_
              refine L_y rfl (y_load rfl ag_4 (sees 2 0 rfl) rfl) rfl ?_
              refine L_y rfl (y_not rfl) rfl ?_
              refine L_y rfl (y_move rfl) rfl ?_
              refine L_skip rfl rfl ?_
              refine L_skip rfl rfl ?_
              refine L_skip rfl rfl ?_
              refine L_y rfl (y_pick_f rfl rfl) rfl ?_
              refine L_nil ?_
              refine C_cond_f rfl ?_
              refine C_skip ?_
              refine C_seq ?_
              refine C_seq ?_
              refine C_region ?_
              refine L_y rfl (y_move rfl) rfl ?_
              refine L_nil ?_
              refine C_block ?_
              refine C_loopIn (In_round ?_)
              refine C_seq ?_
              refine C_region ?_
              refine L_y rfl (y_lss rfl rfl) rfl ?_
              refine L_nil ?_
              refine C_seq ?_
              refine C_cond_t rfl ?_
              refine C_skip ?_
              refine C_seq ?_
              refine C_block ?_
              refine C_seq ?_
              refine C_region ?_
              refine L_y rfl (y_move rfl) rfl ?_
              refine L_y rfl (y_assign rfl) rfl ?_
              refine L_nil ?_
              refine C_seq ?_
              refine C_region ?_
              refine L_y rfl (y_move rfl) rfl ?_
              refine L_y rfl (y_indexA rfl rfl Try.underlying62 sz_4 (by omega) (by omega) (show _ = 0 from rfl)) rfl ?_
              refine L_y rfl (y_load rfl ag_4 (sees 2 0 rfl) rfl) rfl ?_
              refine L_nil ?_
              refine C_cond_t rfl ?_
              refine C_region ?_
              refine L_y rfl (y_move rfl) rfl ?_
              refine L_y rfl (y_move rfl) rfl ?_
              refine L_y rfl (y_nilCheck rfl) rfl ?_
              refine L_y rfl (y_fieldAddr rfl fl_110_0) rfl ?_
              refine L_y rfl (y_indexA rfl rfl Try.underlying108 sz_107 (by omega) (by omega) (show _ = 0 from rfl)) rfl ?_
              refine L_y rfl (y_fieldAddr rfl fl_107_1) rfl ?_
              refine L_y rfl (y_load rfl ag_105 (sees 1 0 rfl) rfl) rfl ?_
              refine L_y rfl (y_move rfl) rfl ?_
              refine L_op rfl (op_delete 1 1 rfl rfl rfl Try.underlying105 Try.underlying3 rfl rfl ?_)
              refine L_nil ?_
              refine C_region ?_
              refine L_y rfl (y_add rfl rfl (show _ = (1 : Int) from rfl)) rfl ?_
              refine L_y rfl (y_move rfl) rfl ?_
              refine L_nil ?_
              refine In_round ?_
              refine C_seq ?_
              refine C_region ?_
              refine L_y rfl (y_lss rfl rfl) rfl ?_
              refine L_nil ?_
              refine C_seq ?_
              refine C_cond_t rfl ?_
              refine C_skip ?_
              refine C_seq ?_
              refine C_block ?_
              refine C_seq ?_
              refine C_region ?_
              refine L_y rfl (y_move rfl) rfl ?_
              refine L_y rfl (y_assign rfl) rfl ?_
              refine L_nil ?_
              refine C_seq ?_
              refine C_region ?_
              refine L_y rfl (y_move rfl) rfl ?_
              refine L_y rfl (y_indexA rfl rfl Try.underlying62 sz_4 (by omega) (by omega) (show _ = 1 from rfl)) rfl ?_
              refine L_y rfl (y_load rfl ag_4 (sees 2 0 rfl) rfl) rfl ?_
              refine L_nil ?_
              refine C_cond_t rfl ?_
              refine C_region ?_
              refine L_y rfl (y_move rfl) rfl ?_
              refine L_y rfl (y_move rfl) rfl ?_
              refine L_y rfl (y_nilCheck rfl) rfl ?_
              refine L_y rfl (y_fieldAddr rfl fl_110_0) rfl ?_
              refine L_y rfl (y_indexA rfl rfl Try.underlying108 sz_107 (by omega) (by omega) (show _ = 2 from rfl)) rfl ?_
              refine L_y rfl (y_fieldAddr rfl fl_107_1) rfl ?_
              refine L_y rfl (y_load rfl ag_105 (sees 1 0 rfl) rfl) rfl ?_
              refine L_y rfl (y_move rfl) rfl ?_
              refine L_op rfl (op_delete 1 2 rfl rfl rfl Try.underlying105 Try.underlying3 rfl rfl ?_)
              refine L_nil ?_
              refine C_region ?_
              refine L_y rfl (y_add rfl rfl (show _ = (2 : Int) from rfl)) rfl ?_
              refine L_y rfl (y_move rfl) rfl ?_
              refine L_nil ?_
              refine In_round ?_
              refine C_seq ?_
              refine C_region ?_
              refine L_y rfl (y_lss rfl rfl) rfl ?_
              refine L_nil ?_
              refine C_seq ?_
              refine C_cond_f rfl ?_
              refine C_exit ?_
              refine C_seq ?_
              refine C_region ?_
              refine L_y rfl (y_assign rfl) rfl ?_
              refine L_nil ?_
              refine C_ret ?_
              refine B_ret (rv_tmp rfl rv_nil) ((hsub (.cons_cons _ (.cons_cons _ (.cons _ (.cons _ (.refl _)))))).trans (hsub_pick [1, 0] rfl)) ?_
              have e0 : putD A ask n s false = true := by simp_all [putD, pd]
              have e1 : putD A ask n s true = true := by simp_all [putD, pd, pA]
              have ea : putA A ask n s = (A.write true n s) := by simp_all [putA, pA]
              have em : putm m A ask n s = m.mark n true true := by simp [putm, hn, e0, e1]
              exact ⟨ret_int (by simp [putE, hn, e0, e1]), D2, h2.to (by simp [putDa, hn, ea]), by rw [em]; rfl⟩
            · skip
              refine H_y 14 rfl (by kernel_rfl) (by kernel_rfl) (by kernel_rfl) (hsub (.cons _ (.cons _ (.cons _ (.cons _ (.refl _)))))) rfl (y_pick_f rfl rfl) rfl ?_
              refine H_y 15 rfl (by kernel_rfl) (by kernel_rfl) (by kernel_rfl) (hsub (.cons _ (.cons _ (.cons _ (.cons _ (.refl _)))))) rfl (y_indexA rfl rfl Try.underlying62 sz_4 (by omega) (by omega) (show _ = 1 from rfl)) rfl ?_
              refine H_one 16 rfl (by kernel_rfl) rfl (op_store1 2 0 rfl rfl rfl sz_4 rfl (Nat.le_of_ble_eq_true rfl) ?_)
              refine ⟨hsub (.cons _ (.cons _ (.cons _ (.cons _ (.refl _))))), ?_⟩
              refine H_done (by kernel_rfl) ?_
              refine C_region ?_
              refine L_y rfl (y_add rfl rfl (show _ = (2 : Int) from rfl)) rfl ?_
              refine L_y rfl (y_move rfl) rfl ?_
              refine L_nil ?_
              refine In_round ?_
              refine C_seq ?_
              refine C_region ?_
              refine L_y rfl (y_lss rfl rfl) rfl ?_
              refine L_nil ?_
              refine C_seq ?_
              refine C_cond_f rfl ?_
              refine C_exit ?_
              refine C_seq ?_
              refine C_seq ?_
              refine C_region ?_
              refine L_y rfl (y_indexA rfl rfl Try.underlying62 sz_4 (by omega) (by omega) (show _ = 0 from rfl)) rfl ?_
              refine L_y rfl (y_load rfl ag_4 (sees 2 0 rfl) rfl) rfl ?_
              refine L_y rfl (y_not rfl) rfl ?_
              refine L_y rfl (y_move rfl) rfl ?_
              refine L_skip rfl rfl ?_
              refine L_skip rfl rfl ?_
              refine L_skip rfl rfl ?_
              refine L_y rfl (y_pick_f rfl rfl) rfl ?_
              refine L_nil ?_
              refine C_cond_f rfl ?_
              refine C_skip ?_
              refine C_seq ?_
              refine C_seq ?_
              refine C_region ?_
              refine L_y rfl (y_move rfl) rfl ?_
              refine L_nil ?_
              refine C_block ?_
              refine C_loopIn (In_round ?_)
              refine C_seq ?_
              refine C_region ?_
              refine L_y rfl (y_lss rfl rfl) rfl ?_
              refine L_nil ?_
              refine C_seq ?_
              refine C_cond_t rfl ?_
              refine C_skip ?_
              refine C_seq ?_
              refine C_block ?_
              refine C_seq ?_
              refine C_region ?_
              refine L_y rfl (y_move rfl) rfl ?_
              refine L_y rfl (y_assign rfl) rfl ?_
              refine L_nil ?_
              refine C_seq ?_
              refine C_region ?_
              refine L_y rfl (y_move rfl) rfl ?_
              refine L_y rfl (y_indexA rfl rfl Try.underlying62 sz_4 (by omega) (by omega) (show _ = 0 from rfl)) rfl ?_
              refine L_y rfl (y_load rfl ag_4 (sees 2 0 rfl) rfl) rfl ?_
              refine L_nil ?_
              refine C_cond_t rfl ?_
              refine C_region ?_
              refine L_y rfl (y_move rfl) rfl ?_
              refine L_y rfl (y_move rfl) rfl ?_
              refine L_y rfl (y_nilCheck rfl) rfl ?_
              refine L_y rfl (y_fieldAddr rfl fl_110_0) rfl ?_
              refine L_y rfl (y_indexA rfl rfl Try.underlying108 sz_107 (by omega) (by omega) (show _ = 0 from rfl)) rfl ?_
              refine L_y rfl (y_fieldAddr rfl fl_107_1) rfl ?_
              refine L_y rfl (y_load rfl ag_105 (sees 1 0 rfl) rfl) rfl ?_
              refine L_y rfl (y_move rfl) rfl ?_
              refine L_op rfl (op_delete 1 1 rfl rfl rfl Try.underlying105 Try.underlying3 rfl rfl ?_)
              refine L_nil ?_
              refine C_region ?_
              refine L_y rfl (y_add rfl rfl (show _ = (1 : Int) from rfl)) rfl ?_
              refine L_y rfl (y_move rfl) rfl ?_
              refine L_nil ?_
              refine In_round ?_
              refine C_seq ?_
              refine C_region ?_
              refine L_y rfl (y_lss rfl rfl) rfl ?_
              refine L_nil ?_
              refine C_seq ?_
              refine C_cond_t rfl ?_
              refine C_skip ?_
              refine C_seq ?_
              refine C_block ?_
              refine C_seq ?_
              refine C_region ?_
              refine L_y rfl (y_move rfl) rfl ?_
              refine L_y rfl (y_assign rfl) rfl ?_
              refine L_nil ?_
              refine C_seq ?_
              refine C_region ?_
              refine L_y rfl (y_move rfl) rfl ?_
              refine L_y rfl (y_indexA rfl rfl Try.underlying62 sz_4 (by omega) (by omega) (show _ = 1 from rfl)) rfl ?_
              refine L_y rfl (y_load rfl ag_4 (sees 2 0 rfl) rfl) rfl ?_
              refine L_nil ?_
              refine C_cond_f rfl ?_
              refine C_region ?_
              refine L_y rfl (y_move rfl) rfl ?_
              refine L_y rfl (y_move rfl) rfl ?_
              refine L_y rfl (y_nilCheck rfl) rfl ?_
              refine L_y rfl (y_fieldAddr rfl fl_110_0) rfl ?_
              refine L_y rfl (y_indexA rfl rfl Try.underlying108 sz_107 (by omega) (by omega) (show _ = 2 from rfl)) rfl ?_
              refine L_y rfl (y_fieldAddr rfl fl_107_1) rfl ?_
              refine L_y rfl (y_load rfl ag_105 (sees 1 0 rfl) rfl) rfl ?_
              refine L_y rfl (y_move rfl) rfl ?_
              refine L_op rfl (op_mapUpdate 1 2 rfl rfl rfl Try.underlying105 Try.underlying3 rfl rfl ?_)
              refine L_nil ?_
              refine C_region ?_
              refine L_y rfl (y_add rfl rfl (show _ = (2 : Int) from rfl)) rfl ?_
              refine L_y rfl (y_move rfl) rfl ?_
              refine L_nil ?_
              refine In_round ?_
              refine C_seq ?_
              refine C_region ?_
              refine L_y rfl (y_lss rfl rfl) rfl ?_
              refine L_nil ?_
              refine C_seq ?_
              refine C_cond_f rfl ?_
              refine C_exit ?_
              refine C_seq ?_
              refine C_region ?_
              refine L_y rfl (y_assign rfl) rfl ?_
              refine L_nil ?_
              refine C_ret ?_
              refine B_ret (rv_tmp rfl rv_nil) ((hsub (.cons_cons _ (.cons_cons _ (.cons _ (.cons _ (.refl _)))))).trans (hsub_pick [1, 0] rfl)) ?_
              have e0 : putD A ask n s false = true := by simp_all [putD, pd]
              have e1 : putD A ask n s true = false := by simp_all [putD, pd, pA]
              have ea : putA A ask n s = (A.write true n s) := by simp_all [putA, pA]
              have em : putm m A ask n s = m.mark n true false := by simp [putm, hn, e0, e1]
              exact ⟨ret_int (by simp [putE, hn, e0, e1]), D2, h2.to (by simp [putDa, hn, ea]), by rw [em]; rfl⟩
      · skip
        refine C_skip ?_
        refine C_region ?_
        refine L_y rfl (y_add rfl rfl (show _ = (2 : Int) from rfl)) rfl ?_
        refine L_y rfl (y_move rfl) rfl ?_
        refine L_nil ?_
        refine In_round ?_
        refine C_seq ?_
        refine C_region ?_
        refine L_y rfl (y_lss rfl rfl) rfl ?_
        refine L_nil ?_
        refine C_seq ?_
        refine C_cond_f rfl ?_
        refine C_exit ?_
        refine C_seq ?_
        refine C_seq ?_
        refine C_region ?_
        refine L_y rfl (y_indexA rfl rfl Try.underlying62 sz_4 (by omega) (by omega) (show _ = 0 from rfl)) rfl ?_
        refine L_y rfl (y_load rfl ag_4 (sees 2 0 rfl) rfl) rfl ?_
        refine L_y rfl (y_not rfl) rfl ?_
        refine L_y rfl (y_move rfl) rfl ?_
        refine L_skip rfl rfl ?_
        refine L_skip rfl rfl ?_
        refine L_skip rfl rfl ?_
        refine L_y rfl (y_pick_f rfl rfl) rfl ?_
        refine L_nil ?_
        refine C_cond_f rfl ?_
        refine C_skip ?_
        refine C_seq ?_
        refine C_seq ?_
        refine C_region ?_
        refine L_y rfl (y_move rfl) rfl ?_
        refine L_nil ?_
        refine C_block ?_
        refine C_loopIn (In_round ?_)
        refine C_seq ?_
        refine C_region ?_
        refine L_y rfl (y_lss rfl rfl) rfl ?_
        refine L_nil ?_
        refine C_seq ?_
        refine C_cond_t rfl ?_
        refine C_skip ?_
        refine C_seq ?_
        refine C_block ?_
        refine C_seq ?_
        refine C_region ?_
        refine L_y rfl (y_move rfl) rfl ?_
        refine L_y rfl (y_assign rfl) rfl ?_
        refine L_nil ?_
        refine C_seq ?_
        refine C_region ?_
        refine L_y rfl (y_move rfl) rfl ?_
        refine L_y rfl (y_indexA rfl rfl Try.underlying62 sz_4 (by omega) (by omega) (show _ = 0 from rfl)) rfl ?_
        refine L_y rfl (y_load rfl ag_4 (sees 2 0 rfl) rfl) rfl ?_
        refine L_nil ?_
        refine C_cond_t rfl ?_
        refine C_region ?_
        refine L_y rfl (y_move rfl) rfl ?_
        refine L_y rfl (y_move rfl) rfl ?_
        refine L_y rfl (y_nilCheck rfl) rfl ?_
        refine L_y rfl (y_fieldAddr rfl fl_110_0) rfl ?_
        refine L_y rfl (y_indexA rfl rfl Try.underlying108 sz_107 (by omega) (by omega) (show _ = 0 from rfl)) rfl ?_
        refine L_y rfl (y_fieldAddr rfl fl_107_1) rfl ?_
        refine L_y rfl (y_load rfl ag_105 (sees 1 0 rfl) rfl) rfl ?_
        refine L_y rfl (y_move rfl) rfl ?_
        refine L_op rfl (op_delete 1 1 rfl rfl rfl Try.underlying105 Try.underlying3 rfl rfl ?_)
        refine L_nil ?_
        refine C_region ?_
        refine L_y rfl (y_add rfl rfl (show _ = (1 : Int) from rfl)) rfl ?_
        refine L_y rfl (y_move rfl) rfl ?_
        refine L_nil ?_
        refine In_round ?_
        refine C_seq ?_
        refine C_region ?_
        refine L_y rfl (y_lss rfl rfl) rfl ?_
        refine L_nil ?_
        refine C_seq ?_
        refine C_cond_t rfl ?_
        refine C_skip ?_
        refine C_seq ?_
        refine C_block ?_
        refine C_seq ?_
        refine C_region ?_
        refine L_y rfl (y_move rfl) rfl ?_
        refine L_y rfl (y_assign rfl) rfl ?_
        refine L_nil ?_
        refine C_seq ?_
        refine C_region ?_
        refine L_y rfl (y_move rfl) rfl ?_
        refine L_y rfl (y_indexA rfl rfl Try.underlying62 sz_4 (by omega) (by omega) (show _ = 1 from rfl)) rfl ?_
        refine L_y rfl (y_load rfl ag_4 (sees 2 0 rfl) rfl) rfl ?_
        refine L_nil ?_
        refine C_cond_f rfl ?_
        refine C_region ?_
        refine L_y rfl (y_move rfl) rfl ?_
        refine L_y rfl (y_move rfl) rfl ?_
        refine L_y rfl (y_nilCheck rfl) rfl ?_
        refine L_y rfl (y_fieldAddr rfl fl_110_0) rfl ?_
        refine L_y rfl (y_indexA rfl rfl Try.underlying108 sz_107 (by omega) (by omega) (show _ = 2 from rfl)) rfl ?_
        refine L_y rfl (y_fieldAddr rfl fl_107_1) rfl ?_
        refine L_y rfl (y_load rfl ag_105 (sees 1 0 rfl) rfl) rfl ?_
        refine L_y rfl (y_move rfl) rfl ?_
        refine L_op rfl (op_mapUpdate 1 2 rfl rfl rfl Try.underlying105 Try.underlying3 rfl rfl ?_)
        refine L_nil ?_
        refine C_region ?_
        refine L_y rfl (y_add rfl rfl (show _ = (2 : Int) from rfl)) rfl ?_
        refine L_y rfl (y_move rfl) rfl ?_
        refine L_nil ?_
        refine In_round ?_
        refine C_seq ?_
        refine C_region ?_
        refine L_y rfl (y_lss rfl rfl) rfl ?_
        refine L_nil ?_
        refine C_seq ?_
        refine C_cond_f rfl ?_
        refine C_exit ?_
        refine C_seq ?_
        refine C_region ?_
        refine L_y rfl (y_assign rfl) rfl ?_
        refine L_nil ?_
        refine C_ret ?_
        refine B_ret (rv_tmp rfl rv_nil) ((hsub (.cons_cons _ (.cons_cons _ (.cons _ (.cons _ (.refl _)))))).trans (hsub_pick [1, 0] rfl)) ?_
        have e0 : putD A ask n s false = true := by simp_all [putD, pd]
        have e1 : putD A ask n s true = false := by simp_all [putD, pd, pA]
        have ea : putA A ask n s = A := by simp_all [putA, pA]
        have em : putm m A ask n s = m.mark n true false := by simp [putm, hn, e0, e1]
        exact ⟨ret_int (by simp [putE, hn, e0, e1]), D, h.to (by simp [putDa, hn, ea]), by rw [em]; rfl⟩
    · skip
      refine H_y 6 rfl (by kernel_rfl) (by kernel_rfl) (by kernel_rfl) (hsub (.cons _ (.cons _ (.cons _ (.cons _ (.refl _)))))) rfl (y_move rfl) rfl ?_
      refine H_y 7 rfl (by kernel_rfl) (by kernel_rfl) (by kernel_rfl) (hsub (.cons _ (.cons _ (.cons _ (.cons _ (.refl _)))))) rfl (y_nilCheck rfl) rfl ?_
      refine H_y 8 rfl (by kernel_rfl) (by kernel_rfl) (by kernel_rfl) (hsub (.cons _ (.cons _ (.cons _ (.cons _ (.refl _)))))) rfl (y_fieldAddr rfl fl_107_0) rfl ?_
      refine H_y 10 rfl (by kernel_rfl) (by kernel_rfl) (by kernel_rfl) (hsub (.cons _ (.cons _ (.cons _ (.cons _ (.refl _)))))) rfl (y_move rfl) rfl ?_
      refine H_two 9 11 rfl rfl (by kernel_rfl) rfl rfl ?_ ?_
      · refine op_y (y_load rfl ag_24 (sees 0 0 rfl) rfl) rfl ?_
        refine ⟨hsub (.cons _ (.cons _ (.cons _ (.cons _ (.refl _))))), ?_⟩
        refine H_one 11 rfl (by kernel_rfl) rfl (op_y (y_loadA rfl ag_32 sz_32 (sees 3 0 rfl) (by rw [bs_length, hs]; decide) (bs_whole0 _ hs)) rfl ?_)
        refine ⟨hsub (.cons _ (.cons _ (.cons _ (.cons _ (.refl _))))), ?_⟩
        refine H_one 12 rfl (by kernel_rfl) rfl (op_call rfl rfl (fun a w => Try.call62 a w) rfl ?_)
        refine ((write_d h false n s hs (by have := hQ false; omega)).sub (hsub_pick [1] rfl)).mono ?_
        rintro _ _ ⟨rfl, D3, h3, rfl⟩
        refine ⟨_, rfl, ?_⟩
        refine ⟨hsub (.cons _ (.cons _ (.cons _ (.cons _ (.refl _))))), ?_⟩
        refine H_y 13 rfl (by kernel_rfl) (by kernel_rfl) (by kernel_rfl) (hsub (.cons _ (.cons _ (.cons _ (.cons _ (.refl _)))))) rfl (y_eqi rfl rfl) rfl ?_
        refine H_case 42 rfl (fun hg9_14 => ?_) (fun hg9_14 => ?_)
        · skip
          refine H_y 14 rfl (by kernel_rfl) (by kernel_rfl) (by kernel_rfl) (hsub (.cons _ (.cons _ (.cons _ (.cons _ (.refl _)))))) rfl (y_pick_f rfl rfl) rfl ?_
          refine H_y 15 rfl (by kernel_rfl) (by kernel_rfl) (by kernel_rfl) (hsub (.cons _ (.cons _ (.cons _ (.cons _ (.refl _)))))) rfl (y_indexA rfl rfl Try.underlying62 sz_4 (by omega) (by omega) (show _ = 0 from rfl)) rfl ?_
          refine H_one 16 rfl (by kernel_rfl) rfl (op_store1 2 0 rfl rfl rfl sz_4 rfl (Nat.le_of_ble_eq_true rfl) ?_)
          refine ⟨hsub (.cons _ (.cons _ (.cons _ (.cons _ (.refl _))))), ?_⟩
          refine H_done (by kernel_rfl) ?_
          refine C_region ?_
          refine L_y rfl (y_add rfl rfl (show _ = (1 : Int) from rfl)) rfl ?_
          refine L_y rfl (y_move rfl) rfl ?_
          refine L_nil ?_
          refine In_round ?_
          refine C_seq ?_
          refine C_region ?_
          refine L_y rfl (y_lss rfl rfl) rfl ?_
          refine L_nil ?_
          refine C_seq ?_
          refine C_cond_t rfl ?_
          refine C_skip ?_
          refine C_seq ?_
          refine C_block ?_
          refine C_seq ?_
          refine C_region ?_
          refine L_y rfl (y_move rfl) rfl ?_
          refine L_y rfl (y_assign rfl) rfl ?_
          refine L_nil ?_
          refine C_seq ?_
          refine C_region ?_
          refine L_y rfl (y_move rfl) rfl ?_
          refine L_y rfl (y_move rfl) rfl ?_
          refine L_y rfl (y_nilCheck rfl) rfl ?_
          refine L_y rfl (y_fieldAddr rfl fl_110_0) rfl ?_
          refine L_y rfl (y_indexA rfl rfl Try.underlying108 sz_107 (by omega) (by omega) (show _ = 2 from rfl)) rfl ?_
          refine L_y rfl (y_assign rfl) rfl ?_
          refine L_nil ?_
          refine C_seq ?_
          refine C_region ?_
          refine L_y rfl (y_move rfl) rfl ?_
          refine L_y rfl (y_nilCheck rfl) rfl ?_
          refine L_y rfl (y_loadA rfl ag_107 sz_107 (sees 1 0 rfl) (Nat.le_of_ble_eq_true rfl) rfl) rfl ?_
          refine L_op rfl (op_call rfl rfl (fun a w => Try.call53 a w) rfl ?_)
          refine ((there_d h3 true).sub (hsub_pick [0] rfl)).mono ?_
          rintro _ _ ⟨rfl, rfl⟩
          refine ⟨_, rfl, ?_⟩
          refine L_nil ?_
          refine C_cond rfl (fun hc2 => ?_) (fun hc2 => ?_)
          · skip
            refine C_regionH H (by kernel_rfl) ?_
            refine H_y 0 rfl (by kernel_rfl) (by kernel_rfl) (by kernel_rfl) (hsub (.cons _ (.cons _ (.cons _ (.cons _ (.refl _)))))) rfl (y_move rfl) rfl ?_
            refine H_y 1 rfl (by kernel_rfl) (by kernel_rfl) (by kernel_rfl) (hsub (.cons _ (.cons _ (.cons _ (.cons _ (.refl _)))))) rfl (y_move rfl) rfl ?_
            refine H_y 2 rfl (by kernel_rfl) (by kernel_rfl) (by kernel_rfl) (hsub (.cons _ (.cons _ (.cons _ (.cons _ (.refl _)))))) rfl (y_move rfl) rfl ?_
            refine H_one 3 rfl (by kernel_rfl) rfl (op_call (f := fa) (first := []) (cap := cap) rfl rfl hask.1 rfl ?_)
            refine FnS.mono (FnS.sub (hsub_pick [1, 0] rfl) (hask.2 true _ _ _ h3 (hsub (.cons _ (.cons _ (.refl _)))))) ?_
            rintro _ _ ⟨rfl, rfl⟩
            refine ⟨_, rfl, ?_⟩
            refine ⟨hsub (.cons _ (.cons _ (.cons _ (.cons _ (.refl _))))), ?_⟩
            refine H_y 4 rfl (by kernel_rfl) (by kernel_rfl) (by kernel_rfl) (hsub (.cons _ (.cons _ (.cons _ (.cons _ (.refl _)))))) rfl (y_not rfl) rfl ?_
            refine H_y 5 rfl (by kernel_rfl) (by kernel_rfl) (by kernel_rfl) (hsub (.cons _ (.cons _ (.cons _ (.cons _ (.refl _)))))) rfl (y_move rfl) rfl ?_
            refine H_case 34 rfl (fun hg9_6 => ?_) (fun hg9_6 => ?_)
            · skip
              refine H_skip 6 rfl (by kernel_rfl) (by kernel_rfl) (by kernel_rfl) (hsub (.cons _ (.cons _ (.cons _ (.cons _ (.refl _)))))) rfl rfl ?_
              refine H_skip 7 rfl (by kernel_rfl) (by kernel_rfl) (by kernel_rfl) (hsub (.cons _ (.cons _ (.cons _ (.cons _ (.refl _)))))) rfl rfl ?_
              refine H_skip 8 rfl (by kernel_rfl) (by kernel_rfl) (by kernel_rfl) (hsub (.cons _ (.cons _ (.cons _ (.cons _ (.refl _)))))) rfl rfl ?_
              refine H_skip 9 rfl (by kernel_rfl) (by kernel_rfl) (by kernel_rfl) (hsub (.cons _ (.cons _ (.cons _ (.cons _ (.refl _)))))) rfl rfl ?_
              refine H_skip 10 rfl (by kernel_rfl) (by kernel_rfl) (by kernel_rfl) (hsub (.cons _ (.cons _ (.cons _ (.cons _ (.refl _)))))) rfl rfl ?_
              refine H_skip 11 rfl (by kernel_rfl) (by kernel_rfl) (by kernel_rfl) (hsub (.cons _ (.cons _ (.cons _ (.cons _ (.refl _)))))) rfl rfl ?_
              refine H_skip 12 rfl (by kernel_rfl) (by kernel_rfl) (by kernel_rfl) (hsub (.cons _ (.cons _ (.cons _ (.cons _ (.refl _)))))) rfl rfl ?_
              refine H_skip 13 rfl (by kernel_rfl) (by kernel_rfl) (by kernel_rfl) (hsub (.cons _ (.cons _ (.cons _ (.cons _ (.refl _)))))) rfl rfl ?_
              refine H_y 14 rfl (by kernel_rfl) (by kernel_rfl) (by kernel_rfl) (hsub (.cons _ (.cons _ (.cons _ (.cons _ (.refl _)))))) rfl (y_pick_t rfl rfl) rfl ?_
              refine H_y 15 rfl (by kernel_rfl) (by kernel_rfl) (by kernel_rfl) (hsub (.cons _ (.cons _ (.cons _ (.cons _ (.refl _)))))) rfl (y_indexA rfl rfl Try.underlying62 sz_4 (by omega) (by omega) (show _ = 1 from rfl)) rfl ?_
              refine H_one 16 rfl (by kernel_rfl) rfl (op_store1 2 0 rfl rfl rfl sz_4 rfl (Nat.le_of_ble_eq_true rfl) ?_)
              refine ⟨hsub (.cons _ (.cons _ (.cons _ (.cons _ (.refl _))))), ?_⟩
              refine H_done (by kernel_rfl) ?_
              refine C_region ?_
              refine L_y rfl (y_add rfl rfl (show _ = (2 : Int) from rfl)) rfl ?_
              refine L_y rfl (y_move rfl) rfl ?_
              refine L_nil ?_
              refine In_round ?_
              refine C_seq ?_
              refine C_region ?_
              refine L_y rfl (y_lss rfl rfl) rfl ?_
              refine L_nil ?_
              refine C_seq ?_
              refine C_cond_f rfl ?_
              refine C_exit ?_
              refine C_seq ?_
              refine C_seq ?_
              refine C_region ?_
              refine L_y rfl (y_indexA rfl rfl Try.underlying62 sz_4 (by omega) (by omega) (show _ = 0 from rfl)) rfl ?_
              refine L_y rfl (y_load rfl ag_4 (sees 2 0 rfl) rfl) rfl ?_
              refine L_y rfl (y_not rfl) rfl ?_
              refine L_y rfl (y_move rfl) rfl ?_
              refine L_skip rfl rfl ?_
              refine L_skip rfl rfl ?_
              refine L_skip rfl rfl ?_
              refine L_y rfl (y_pick_f rfl rfl) rfl ?_
              refine L_nil ?_
              refine C_cond_f rfl ?_
              refine C_skip ?_
              refine C_seq ?_
              refine C_seq ?_
              refine C_region ?_
              refine L_y rfl (y_move rfl) rfl ?_
              refine L_nil ?_
              refine C_block ?_
              refine C_loopIn (In_round ?_)
              refine C_seq ?_
              refine C_region ?_
              refine L_y rfl (y_lss rfl rfl) rfl ?_
              refine L_nil ?_
              refine C_seq ?_
              refine C_cond_t rfl ?_
              refine C_skip ?_
              refine C_seq ?_
              refine C_block ?_
              refine C_seq ?_
              refine C_region ?_
              refine L_y rfl (y_move rfl) rfl ?_
              refine L_y rfl (y_assign rfl) rfl ?_
              refine L_nil ?_
              refine C_seq ?_
              refine C_region ?_
              refine L_y rfl (y_move rfl) rfl ?_
              refine L_y rfl (y_indexA rfl rfl Try.underlying62 sz_4 (by omega) (by omega) (show _ = 0 from rfl)) rfl ?_
              refine L_y rfl (y_load rfl ag_4 (sees 2 0 rfl) rfl) rfl ?_
              refine L_nil ?_
              refine C_cond_t rfl ?_
              refine C_region ?_
              refine L_y rfl (y_move rfl) rfl ?_
              refine L_y rfl (y_move rfl) rfl ?_
              refine L_y rfl (y_nilCheck rfl) rfl ?_
              refine L_y rfl (y_fieldAddr rfl fl_110_0) rfl ?_
              refine L_y rfl (y_indexA rfl rfl Try.underlying108 sz_107 (by omega) (by omega) (show _ = 0 from rfl)) rfl ?_
              refine L_y rfl (y_fieldAddr rfl fl_107_1) rfl ?_
              refine L_y rfl (y_load rfl ag_105 (sees 0 0 rfl) rfl) rfl ?_
              refine L_y rfl (y_move rfl) rfl ?_
              refine L_op rfl (op_delete 0 1 rfl rfl rfl Try.underlying105 Try.underlying3 rfl rfl ?_)
              refine L_nil ?_
              refine C_region ?_
              refine L_y rfl (y_add rfl rfl (show _ = (1 : Int) from rfl)) rfl ?_
              refine L_y rfl (y_move rfl) rfl ?_
              refine L_nil ?_
              refine In_round ?_
              refine C_seq ?_
              refine C_region ?_
              refine L_y rfl (y_lss rfl rfl) rfl ?_
              refine L_nil ?_
              refine C_seq ?_
              refine C_cond_t rfl ?_
              refine C_skip ?_
              refine C_seq ?_
              refine C_block ?_
              refine C_seq ?_
              refine C_region ?_
              refine L_y rfl (y_move rfl) rfl ?_
              refine L_y rfl (y_assign rfl) rfl ?_
              refine L_nil ?_
              refine C_seq ?_
              refine C_region ?_
              refine L_y rfl (y_move rfl) rfl ?_
              refine L_y rfl (y_indexA rfl rfl Try.underlying62 sz_4 (by omega) (by omega) (show _ = 1 from rfl)) rfl ?_
              refine L_y rfl (y_load rfl ag_4 (sees 2 0 rfl) rfl) rfl ?_
              refine L_nil ?_
              refine C_cond_t rfl ?_
              refine C_region ?_
              refine L_y rfl (y_move rfl) rfl ?_
              refine L_y rfl (y_move rfl) rfl ?_
              refine L_y rfl (y_nilCheck rfl) rfl ?_
              refine L_y rfl (y_fieldAddr rfl fl_110_0) rfl ?_
              refine L_y rfl (y_indexA rfl rfl Try.underlying108 sz_107 (by omega) (by omega) (show _ = 2 from rfl)) rfl ?_
              refine L_y rfl (y_fieldAddr rfl fl_107_1) rfl ?_
              refine L_y rfl (y_load rfl ag_105 (sees 0 0 rfl) rfl) rfl ?_
              refine L_y rfl (y_move rfl) rfl ?_
              refine L_op rfl (op_delete 0 2 rfl rfl rfl Try.underlying105 Try.underlying3 rfl rfl ?_)
              refine L_nil ?_
              refine C_region ?_
              refine L_y rfl (y_add rfl rfl (show _ = (2 : Int) from rfl)) rfl ?_
              refine L_y rfl (y_move rfl) rfl ?_
              refine L_nil ?_
              refine In_round ?_
              refine C_seq ?_
              refine C_region ?_
              refine L_y rfl (y_lss rfl rfl) rfl ?_
              refine L_nil ?_
              refine C_seq ?_
              refine C_cond_f rfl ?_
              refine C_exit ?_
              refine C_seq ?_
              refine C_region ?_
              refine L_y rfl (y_assign rfl) rfl ?_
              refine L_nil ?_
              refine C_ret ?_
              refine B_ret (rv_tmp rfl rv_nil) ((hsub (.cons_cons _ (.cons_cons _ (.cons _ (.cons _ (.refl _)))))).trans (hsub_pick [0, 0] rfl)) ?_
              have e0 : putD A ask n s false = true := by simp_all [putD, pd]
              have e1 : putD A ask n s true = true := by simp_all [putD, pd, pA]
              have ea : putA A ask n s = (A.write false n s) := by simp_all [putA, pA]
              have em : putm m A ask n s = m.mark n true true := by simp [putm, hn, e0, e1]
              exact ⟨ret_int (by simp [putE, hn, e0, e1]), D3, h3.to (by simp [putDa, hn, ea]), by rw [em]; rfl⟩
            · skip
              refine H_y 6 rfl (by kernel_rfl) (by kernel_rfl) (by kernel_rfl) (hsub (.cons _ (.cons _ (.cons _ (.cons _ (.refl _)))))) rfl (y_move rfl) rfl ?_
              refine H_y 7 rfl (by kernel_rfl) (by kernel_rfl) (by kernel_rfl) (hsub (.cons _ (.cons _ (.cons _ (.cons _ (.refl _)))))) rfl (y_nilCheck rfl) rfl ?_
              refine H_y 8 rfl (by kernel_rfl) (by kernel_rfl) (by kernel_rfl) (hsub (.cons _ (.cons _ (.cons _ (.cons _ (.refl _)))))) rfl (y_fieldAddr rfl fl_107_0) rfl ?_
              refine H_y 10 rfl (by kernel_rfl) (by kernel_rfl) (by kernel_rfl) (hsub (.cons _ (.cons _ (.cons _ (.cons _ (.refl _)))))) rfl (y_move rfl) rfl ?_
              refine H_two 9 11 rfl rfl (by kernel_rfl) rfl rfl ?_ ?_
              · refine op_y (y_load rfl ag_24 (sees 0 0 rfl) rfl) rfl ?_
                refine ⟨hsub (.cons _ (.cons _ (.cons _ (.cons _ (.refl _))))), ?_⟩
                refine H_one 11 rfl (by kernel_rfl) rfl (op_y (y_loadA rfl ag_32 sz_32 (sees 3 0 rfl) (by rw [bs_length, hs]; decide) (bs_whole0 _ hs)) rfl ?_)
                refine ⟨hsub (.cons _ (.cons _ (.cons _ (.cons _ (.refl _))))), ?_⟩
                refine H_one 12 rfl (by kernel_rfl) rfl (op_call rfl rfl (fun a w => Try.call62 a w) rfl ?_)
                refine ((write_d h3 true n s hs (by have := hQ true; have q2 := Da.write_many A false n s true; omega)).sub (hsub_pick [1] rfl)).mono ?_
                rintro _ _ ⟨rfl, D4, h4, rfl⟩
                refine ⟨_, rfl, ?_⟩
                refine ⟨hsub (.cons _ (.cons _ (.cons _ (.cons _ (.refl _))))), ?_⟩
                refine H_y 13 rfl (by kernel_rfl) (by kernel_rfl) (by kernel_rfl) (hsub (.cons _ (.cons _ (.cons _ (.cons _ (.refl _)))))) rfl (y_eqi rfl rfl) rfl ?_
                refine H_case 42 rfl (fun hg9_14 => ?_) (fun hg9_14 => ?_)
                · skip
                  refine H_y 14 rfl (by kernel_rfl) (by kernel_rfl) (by kernel_rfl) (hsub (.cons _ (.cons _ (.cons _ (.cons _ (.refl _)))))) rfl (y_pick_f rfl rfl) rfl ?_
                  refine H_y 15 rfl (by kernel_rfl) (by kernel_rfl) (by kernel_rfl) (hsub (.cons _ (.cons _ (.cons _ (.cons _ (.refl _)))))) rfl (y_indexA rfl rfl Try.underlying62 sz_4 (by omega) (by omega) (show _ = 1 from rfl)) rfl ?_
                  refine H_one 16 rfl (by kernel_rfl) rfl (op_store1 2 0 rfl rfl rfl sz_4 rfl (Nat.le_of_ble_eq_true rfl) ?_)
                  refine ⟨hsub (.cons _ (.cons _ (.cons _ (.cons _ (.refl _))))), ?_⟩
                  refine H_done (by kernel_rfl) ?_
                  refine C_region ?_
                  refine L_y rfl (y_add rfl rfl (show _ = (2 : Int) from rfl)) rfl ?_
                  refine L_y rfl (y_move rfl) rfl ?_
                  refine L_nil ?_
                  refine In_round ?_
                  refine C_seq ?_
                  refine C_region ?_
                  refine L_y rfl (y_lss rfl rfl) rfl ?_
                  refine L_nil ?_
                  refine C_seq ?_
                  refine C_cond_f rfl ?_
                  refine C_exit ?_
                  refine C_seq ?_
                  refine C_seq ?_
                  refine C_region ?_
                  refine L_y rfl (y_indexA rfl rfl Try.underlying62 sz_4 (by omega) (by omega) (show _ = 0 from rfl)) rfl ?_
                  refine L_y rfl (y_load rfl ag_4 (sees 2 0 rfl) rfl) rfl ?_
                  refine L_y rfl (y_not rfl) rfl ?_
                  refine L_y rfl (y_move rfl) rfl ?_
                  refine L_skip rfl rfl ?_
                  refine L_skip rfl rfl ?_
                  refine L_skip rfl rfl ?_
                  refine L_y rfl (y_pick_f rfl rfl) rfl ?_
                  refine L_nil ?_
                  refine C_cond_f rfl ?_
                  refine C_skip ?_
                  refine C_seq ?_
                  refine C_seq ?_
                  refine C_region ?_
                  refine L_y rfl (y_move rfl) rfl ?_
                  refine L_nil ?_
                  refine C_block ?_
                  refine C_loopIn (In_round ?_)
                  refine C_seq ?_
                  refine C_region ?_
                  refine L_y rfl (y_lss rfl rfl) rfl ?_
                  refine L_nil ?_
                  refine C_seq ?_
                  refine C_cond_t rfl ?_
                  refine C_skip ?_
                  refine C_seq ?_
                  refine C_block ?_
                  refine C_seq ?_
                  refine C_region ?_
                  refine L_y rfl (y_move rfl) rfl ?_
                  refine L_y rfl (y_assign rfl) rfl ?_
                  refine L_nil ?_
                  refine C_seq ?_
                  refine C_region ?_
                  refine L_y rfl (y_move rfl) rfl ?_
                  refine L_y rfl (y_indexA rfl rfl Try.underlying62 sz_4 (by omega) (by omega) (show _ = 0 from rfl)) rfl ?_
                  refine L_y rfl (y_load rfl ag_4 (sees 2 0 rfl) rfl) rfl ?_
                  refine L_nil ?_
                  refine C_cond_t rfl ?_
                  refine C_region ?_
                  refine L_y rfl (y_move rfl) rfl ?_
                  refine L_y rfl (y_move rfl) rfl ?_
                  refine L_y rfl (y_nilCheck rfl) rfl ?_
                  refine L_y rfl (y_fieldAddr rfl fl_110_0) rfl ?_
                  refine L_y rfl (y_indexA rfl rfl Try.underlying108 sz_107 (by omega) (by omega) (show _ = 0 from rfl)) rfl ?_
                  refine L_y rfl (y_fieldAddr rfl fl_107_1) rfl ?_
                  refine L_y rfl (y_load rfl ag_105 (sees 1 0 rfl) rfl) rfl ?_
                  refine L_y rfl (y_move rfl) rfl ?_
                  refine L_op rfl (op_delete 1 1 rfl rfl rfl Try.underlying105 Try.underlying3 rfl rfl ?_)
                  refine L_nil ?_
                  refine C_region ?_
                  refine L_y rfl (y_add rfl rfl (show _ = (1 : Int) from rfl)) rfl ?_
                  refine L_y rfl (y_move rfl) rfl ?_
                  refine L_nil ?_
                  refine In_round ?_
                  refine C_seq ?_
                  refine C_region ?_
                  refine L_y rfl (y_lss rfl rfl) rfl ?_
                  refine L_nil ?_
                  refine C_seq ?_
                  refine C_cond_t rfl ?_
                  refine C_skip ?_
                  refine C_seq ?_
                  refine C_block ?_
                  refine C_seq ?_
                  refine C_region ?_
                  refine L_y rfl (y_move rfl) rfl ?_
                  refine L_y rfl (y_assign rfl) rfl ?_
                  refine L_nil ?_
                  refine C_seq ?_
                  refine C_region ?_
                  refine L_y rfl (y_move rfl) rfl ?_
                  refine L_y rfl (y_indexA rfl rfl Try.underlying62 sz_4 (by omega) (by omega) (show _ = 1 from rfl)) rfl ?_
                  refine L_y rfl (y_load rfl ag_4 (sees 2 0 rfl) rfl) rfl ?_
                  refine L_nil ?_
                  refine C_cond_t rfl ?_
                  refine C_region ?_
                  refine L_y rfl (y_move rfl) rfl ?_
                  refine L_y rfl (y_move rfl) rfl ?_
                  refine L_y rfl (y_nilCheck rfl) rfl ?_
                  refine L_y rfl (y_fieldAddr rfl fl_110_0) rfl ?_
                  refine L_y rfl (y_indexA rfl rfl Try.underlying108 sz_107 (by omega) (by omega) (show _ = 2 from rfl)) rfl ?_
                  refine L_y rfl (y_fieldAddr rfl fl_107_1) rfl ?_
                  refine L_y rfl (y_load rfl ag_105 (sees 1 0 rfl) rfl) rfl ?_
                  refine L_y rfl (y_move rfl) rfl ?_
                  refine L_op rfl (op_delete 1 2 rfl rfl rfl Try.underlying105 Try.underlying3 rfl rfl ?_)
                  refine L_nil ?_
                  refine C_region ?_
                  refine L_y rfl (y_add rfl rfl (show _ = (2 : Int) from rfl)) rfl ?_
                  refine L_y rfl (y_move rfl) rfl ?_
                  refine L_nil ?_
                  refine In_round ?_
                  refine C_seq ?_
                  refine C_region ?_
                  refine L_y rfl (y_lss rfl rfl) rfl ?_
                  refine L_nil ?_
                  refine C_seq ?_
                  refine C_cond_f rfl ?_
                  refine C_exit ?_
                  refine C_seq ?_
                  refine C_region ?_
                  refine L_y rfl (y_assign rfl) rfl ?_
                  refine L_nil ?_
                  refine C_ret ?_
                  refine B_ret (rv_tmp rfl rv_nil) ((hsub (.cons_cons _ (.cons_cons _ (.cons _ (.cons _ (.refl _)))))).trans (hsub_pick [1, 0] rfl)) ?_
                  have e0 : putD A ask n s false = true := by simp_all [putD, pd]
                  have e1 : putD A ask n s true = true := by simp_all [putD, pd, pA]
                  have ea : putA A ask n s = ((A.write false n s).write true n s) := by simp_all [putA, pA]
                  have em : putm m A ask n s = m.mark n true true := by simp [putm, hn, e0, e1]
                  exact ⟨ret_int (by simp [putE, hn, e0, e1]), D4, h4.to (by simp [putDa, hn, ea]), by rw [em]; rfl⟩
                · skip
                  refine H_y 14 rfl (by kernel_rfl) (by kernel_rfl) (by kernel_rfl) (hsub (.cons _ (.cons _ (.cons _ (.cons _ (.refl _)))))) rfl (y_pick_f rfl rfl) rfl ?_
                  refine H_y 15 rfl (by kernel_rfl) (by kernel_rfl) (by kernel_rfl) (hsub (.cons _ (.cons _ (.cons _ (.cons _ (.refl _)))))) rfl (y_indexA rfl rfl Try.underlying62 sz_4 (by omega) (by omega) (show _ = 1 from rfl)) rfl ?_
                  refine H_one 16 rfl (by kernel_rfl) rfl (op_store1 2 0 rfl rfl rfl sz_4 rfl (Nat.le_of_ble_eq_true rfl) ?_)
                  refine ⟨hsub (.cons _ (.cons _ (.cons _ (.cons _ (.refl _))))), ?_⟩
                  refine H_done (by kernel_rfl) ?_
                  refine C_region ?_
                  refine L_y rfl (y_add rfl rfl (show _ = (2 : Int) from rfl)) rfl ?_
                  refine L_y rfl (y_move rfl) rfl ?_
                  refine L_nil ?_
                  refine In_round ?_
                  refine C_seq ?_
                  refine C_region ?_
                  refine L_y rfl (y_lss rfl rfl) rfl ?_
                  refine L_nil ?_
                  refine C_seq ?_
                  refine C_cond_f rfl ?_
                  refine C_exit ?_
                  refine C_seq ?_
                  refine C_seq ?_
                  refine C_region ?_
                  refine L_y rfl (y_indexA rfl rfl Try.underlying62 sz_4 (by omega) (by omega) (show _ = 0 from rfl)) rfl ?_
                  refine L_y rfl (y_load rfl ag_4 (sees 2 0 rfl) rfl) rfl ?_
                  refine L_y rfl (y_not rfl) rfl ?_
                  refine L_y rfl (y_move rfl) rfl ?_
                  refine L_skip rfl rfl ?_
                  refine L_skip rfl rfl ?_
                  refine L_skip rfl rfl ?_
                  refine L_y rfl (y_pick_f rfl rfl) rfl ?_
                  refine L_nil ?_
                  refine C_cond_f rfl ?_
                  refine C_skip ?_
                  refine C_seq ?_
                  refine C_seq ?_
                  refine C_region ?_
                  refine L_y rfl (y_move rfl) rfl ?_
                  refine L_nil ?_
                  refine C_block ?_
                  refine C_loopIn (In_round ?_)
                  refine C_seq ?_
                  refine C_region ?_
                  refine L_y rfl (y_lss rfl rfl) rfl ?_
                  refine L_nil ?_
                  refine C_seq ?_
                  refine C_cond_t rfl ?_
                  refine C_skip ?_
                  refine C_seq ?_
                  refine C_block ?_
                  refine C_seq ?_
                  refine C_region ?_
                  refine L_y rfl (y_move rfl) rfl ?_
                  refine L_y rfl (y_assign rfl) rfl ?_
                  refine L_nil ?_
                  refine C_seq ?_
                  refine C_region ?_
                  refine L_y rfl (y_move rfl) rfl ?_
                  refine L_y rfl (y_indexA rfl rfl Try.underlying62 sz_4 (by omega) (by omega) (show _ = 0 from rfl)) rfl ?_
                  refine L_y rfl (y_load rfl ag_4 (sees 2 0 rfl) rfl) rfl ?_
                  refine L_nil ?_
                  refine C_cond_t rfl ?_
                  refine C_region ?_
                  refine L_y rfl (y_move rfl) rfl ?_
                  refine L_y rfl (y_move rfl) rfl ?_
                  refine L_y rfl (y_nilCheck rfl) rfl ?_
                  refine L_y rfl (y_fieldAddr rfl fl_110_0) rfl ?_
                  refine L_y rfl (y_indexA rfl rfl Try.underlying108 sz_107 (by omega) (by omega) (show _ = 0 from rfl)) rfl ?_
                  refine L_y rfl (y_fieldAddr rfl fl_107_1) rfl ?_
                  refine L_y rfl (y_load rfl ag_105 (sees 1 0 rfl) rfl) rfl ?_
                  refine L_y rfl (y_move rfl) rfl ?_
                  refine L_op rfl (op_delete 1 1 rfl rfl rfl Try.underlying105 Try.underlying3 rfl rfl ?_)
                  refine L_nil ?_
                  refine C_region ?_
                  refine L_y rfl (y_add rfl rfl (show _ = (1 : Int) from rfl)) rfl ?_
                  refine L_y rfl (y_move rfl) rfl ?_
                  refine L_nil ?_
                  refine In_round ?_
                  refine C_seq ?_
                  refine C_region ?_
                  refine L_y rfl (y_lss rfl rfl) rfl ?_
                  refine L_nil ?_
                  refine C_seq ?_
                  refine C_cond_t rfl ?_
                  refine C_skip ?_
                  refine C_seq ?_
                  refine C_block ?_
                  refine C_seq ?_
                  refine C_region ?_
                  refine L_y rfl (y_move rfl) rfl ?_
                  refine L_y rfl (y_assign rfl) rfl ?_
                  refine L_nil ?_
                  refine C_seq ?_
                  refine C_region ?_
                  refine L_y rfl (y_move rfl) rfl ?_
                  refine L_y rfl (y_indexA rfl rfl Try.underlying62 sz_4 (by omega) (by omega) (show _ = 1 from rfl)) rfl ?_
                  refine L_y rfl (y_load rfl ag_4 (sees 2 0 rfl) rfl) rfl ?_
                  refine L_nil ?_
                  refine C_cond_f rfl ?_
                  refine C_region ?_
                  refine L_y rfl (y_move rfl) rfl ?_
                  refine L_y rfl (y_move rfl) rfl ?_
                  refine L_y rfl (y_nilCheck rfl) rfl ?_
                  refine L_y rfl (y_fieldAddr rfl fl_110_0) rfl ?_
                  refine L_y rfl (y_indexA rfl rfl Try.underlying108 sz_107 (by omega) (by omega) (show _ = 2 from rfl)) rfl ?_
                  refine L_y rfl (y_fieldAddr rfl fl_107_1) rfl ?_
                  refine L_y rfl (y_load rfl ag_105 (sees 1 0 rfl) rfl) rfl ?_
                  refine L_y rfl (y_move rfl) rfl ?_
                  refine L_op rfl (op_mapUpdate 1 2 rfl rfl rfl Try.underlying105 Try.underlying3 rfl rfl ?_)
                  refine L_nil ?_
                  refine C_region ?_
                  refine L_y rfl (y_add rfl rfl (show _ = (2 : Int) from rfl)) rfl ?_
                  refine L_y rfl (y_move rfl) rfl ?_
                  refine L_nil ?_
                  refine In_round ?_
                  refine C_seq ?_
                  refine C_region ?_
                  refine L_y rfl (y_lss rfl rfl) rfl ?_
                  refine L_nil ?_
                  refine C_seq ?_
                  refine C_cond_f rfl ?_
                  refine C_exit ?_
                  refine C_seq ?_
                  refine C_region ?_
                  refine L_y rfl (y_assign rfl) rfl ?_
                  refine L_nil ?_
                  refine C_ret ?_
                  refine B_ret (rv_tmp rfl rv_nil) ((hsub (.cons_cons _ (.cons_cons _ (.cons _ (.cons _ (.refl _)))))).trans (hsub_pick [1, 0] rfl)) ?_
                  have e0 : putD A ask n s false = true := by simp_all [putD, pd]
                  have e1 : putD A ask n s true = false := by simp_all [putD, pd, pA]
                  have ea : putA A ask n s = ((A.write false n s).write true n s) := by simp_all [putA, pA]
                  have em : putm m A ask n s = m.mark n true false := by simp [putm, hn, e0, e1]
                  exact ⟨ret_int (by simp [putE, hn, e0, e1]), D4, h4.to (by simp [putDa, hn, ea]), by rw [em]; rfl⟩
              · refine op_y (y_loadA rfl ag_32 sz_32 (sees 3 0 rfl) (by rw [bs_length, hs]; decide) (bs_whole0 _ hs)) rfl ?_
                refine ⟨hsub (.cons _ (.cons _ (.cons _ (.cons _ (.refl _))))), ?_⟩
                refine H_one 9 rfl (by kernel_rfl) rfl (op_y (y_load rfl ag_24 (sees 0 0 rfl) rfl) rfl ?_)
                refine ⟨hsub (.cons _ (.cons _ (.cons _ (.cons _ (.refl _))))), ?_⟩
                refine H_one 12 rfl (by kernel_rfl) rfl (op_call rfl rfl (fun a w => Try.call62 a w) rfl ?_)
                refine ((write_d h3 true n s hs (by have := hQ true; have q2 := Da.write_many A false n s true; omega)).sub (hsub_pick [1] rfl)).mono ?_
                rintro _ _ ⟨rfl, D5, h5, rfl⟩
                refine ⟨_, rfl, ?_⟩
                refine ⟨hsub (.cons _ (.cons _ (.cons _ (.cons _ (.refl _))))), ?_⟩
                refine H_y 13 rfl (by kernel_rfl) (by kernel_rfl) (by kernel_rfl) (hsub (.cons _ (.cons _ (.cons _ (.cons _ (.refl _)))))) rfl (y_eqi rfl rfl) rfl ?_
                refine H_case 42 rfl (fun hg9_14 => ?_) (fun hg9_14 => ?_)
                · skip
                  refine H_y 14 rfl (by kernel_rfl) (by kernel_rfl) (by kernel_rfl) (hsub (.cons _ (.cons _ (.cons _ (.cons _ (.refl _)))))) rfl (y_pick_f rfl rfl) rfl ?_
                  refine H_y 15 rfl (by kernel_rfl) (by kernel_rfl) (by kernel_rfl) (hsub (.cons _ (.cons _ (.cons _ (.cons _ (.refl _)))))) rfl (y_indexA rfl rfl Try.underlying62 sz_4 (by omega) (by omega) (show _ = 1 from rfl)) rfl ?_
                  refine H_one 16 rfl (by kernel_rfl) rfl (op_store1 2 0 rfl rfl rfl sz_4 rfl (Nat.le_of_ble_eq_true rfl) ?_)
                  refine ⟨hsub (.cons _ (.cons _ (.cons _ (.cons _ (.refl _))))), ?_⟩
                  refine H_done (by kernel_rfl) ?_
                  refine C_region ?_
                  refine L_y rfl (y_add rfl rfl (show _ = (2 : Int) from rfl)) rfl ?_
                  refine L_y rfl (y_move rfl) rfl ?_
                  refine L_nil ?_
                  refine In_round ?_
                  refine C_seq ?_
                  refine C_region ?_
                  refine L_y rfl (y_lss rfl rfl) rfl ?_
                  refine L_nil ?_
                  refine C_seq ?_
                  refine C_cond_f rfl ?_
                  refine C_exit ?_
                  refine C_seq ?_
                  refine C_seq ?_
                  refine C_region ?_
                  refine L_y rfl (y_indexA rfl rfl Try.underlying62 sz_4 (by omega) (by omega) (show _ = 0 from rfl)) rfl ?_
                  refine L_y rfl (y_load rfl ag_4 (sees 2 0 rfl) rfl) rfl ?_
                  refine L_y rfl (y_not rfl) rfl ?_
                  refine L_y rfl (y_move rfl) rfl ?_
                  refine L_skip rfl rfl ?_
                  refine L_skip rfl rfl ?_
                  refine L_skip rfl rfl ?_
                  refine L_y rfl (y_pick_f rfl rfl) rfl ?_
                  refine L_nil ?_
                  refine C_cond_f rfl ?_
                  refine C_skip ?_
                  refine C_seq ?_
                  refine C_seq ?_
                  refine C_region ?_
                  refine L_y rfl (y_move rfl) rfl ?_
                  refine L_nil ?_
                  refine C_block ?_
                  refine C_loopIn (In_round ?_)
                  refine C_seq ?_
                  refine C_region ?_
                  refine L_y rfl (y_lss rfl rfl) rfl ?_
                  refine L_nil ?_
                  refine C_seq ?_
                  refine C_cond_t rfl ?_
                  refine C_skip ?_
                  refine C_seq ?_
                  refine C_block ?_
                  refine C_seq ?_
                  refine C_region ?_
                  refine L_y rfl (y_move rfl) rfl ?_
                  refine L_y rfl (y_assign rfl) rfl ?_
                  refine L_nil ?_
                  refine C_seq ?_
                  refine C_region ?_
                  refine L_y rfl (y_move rfl) rfl ?_
                  refine L_y rfl (y_indexA rfl rfl Try.underlying62 sz_4 (by omega) (by omega) (show _ = 0 from rfl)) rfl ?_
                  refine L_y rfl (y_load rfl ag_4 (sees 2 0 rfl) rfl) rfl ?_
                  refine L_nil ?_
                  refine C_cond_t rfl ?_
                  refine C_region ?_
                  refine L_y rfl (y_move rfl) rfl ?_
                  refine L_y rfl (y_move rfl) rfl ?_
                  refine L_y rfl (y_nilCheck rfl) rfl ?_
                  refine L_y rfl (y_fieldAddr rfl fl_110_0) rfl ?_
                  refine L_y rfl (y_indexA rfl rfl Try.underlying108 sz_107 (by omega) (by omega) (show _ = 0 from rfl)) rfl ?_
                  refine L_y rfl (y_fieldAddr rfl fl_107_1) rfl ?_
                  refine L_y rfl (y_load rfl ag_105 (sees 1 0 rfl) rfl) rfl ?_
                  refine L_y rfl (y_move rfl) rfl ?_
                  refine L_op rfl (op_delete 1 1 rfl rfl rfl Try.underlying105 Try.underlying3 rfl rfl ?_)
                  refine L_nil ?_
                  refine C_region ?_
                  refine L_y rfl (y_add rfl rfl (show _ = (1 : Int) from rfl)) rfl ?_
                  refine L_y rfl (y_move rfl) rfl ?_
                  refine L_nil ?_
                  refine In_round ?_
                  refine C_seq ?_
                  refine C_region ?_
                  refine L_y rfl (y_lss rfl rfl) rfl ?_
                  refine L_nil ?_
                  refine C_seq ?_
                  refine C_cond_t rfl ?_
                  refine C_skip ?_
                  refine C_seq ?_
                  refine C_block ?_
                  refine C_seq ?_
                  refine C_region ?_
                  refine L_y rfl (y_move rfl) rfl ?_
                  refine L_y rfl (y_assign rfl) rfl ?_
                  refine L_nil ?_
                  refine C_seq ?_
                  refine C_region ?_
                  refine L_y rfl (y_move rfl) rfl ?_
                  refine L_y rfl (y_indexA rfl rfl Try.underlying62 sz_4 (by omega) (by omega) (show _ = 1 from rfl)) rfl ?_
                  refine L_y rfl (y_load rfl ag_4 (sees 2 0 rfl) rfl) rfl ?_
                  refine L_nil ?_
                  refine C_cond_t rfl ?_
                  refine C_region ?_
                  refine L_y rfl (y_move rfl) rfl ?_
                  refine L_y rfl (y_move rfl) rfl ?_
                  refine L_y rfl (y_nilCheck rfl) rfl ?_
                  refine L_y rfl (y_fieldAddr rfl fl_110_0) rfl ?_
                  refine L_y rfl (y_indexA rfl rfl Try.underlying108 sz_107 (by omega) (by omega) (show _ = 2 from rfl)) rfl ?_
                  refine L_y rfl (y_fieldAddr rfl fl_107_1) rfl ?_
                  refine L_y rfl (y_load rfl ag_105 (sees 1 0 rfl) rfl) rfl ?_
                  refine L_y rfl (y_move rfl) rfl ?_
                  refine L_op rfl (op_delete 1 2 rfl rfl rfl Try.underlying105 Try.underlying3 rfl rfl ?_)
                  refine L_nil ?_
                  refine C_region ?_
                  refine L_y rfl (y_add rfl rfl (show _ = (2 : Int) from rfl)) rfl ?_
                  refine L_y rfl (y_move rfl) rfl ?_
                  refine L_nil ?_
                  refine In_round ?_
                  refine C_seq ?_
                  refine C_region ?_
                  refine L_y rfl (y_lss rfl rfl) rfl ?_
                  refine L_nil ?_
                  refine C_seq ?_
                  refine C_cond_f rfl ?_
                  refine C_exit ?_
                  refine C_seq ?_
                  refine C_region ?_
                  refine L_y rfl (y_assign rfl) rfl ?_
                  refine L_nil ?_
                  refine C_ret ?_
                  refine B_ret (rv_tmp rfl rv_nil) ((hsub (.cons_cons _ (.cons_cons _ (.cons _ (.cons _ (.refl _)))))).trans (hsub_pick [1, 0] rfl)) ?_
                  have e0 : putD A ask n s false = true := by simp_all [putD, pd]
                  have e1 : putD A ask n s true = true := by simp_all [putD, pd, pA]
                  have ea : putA A ask n s = ((A.write false n s).write true n s) := by simp_all [putA, pA]
                  have em : putm m A ask n s = m.mark n true true := by simp [putm, hn, e0, e1]
                  exact ⟨ret_int (by simp [putE, hn, e0, e1]), D5, h5.to (by simp [putDa, hn, ea]), by rw [em]; rfl⟩
                · skip
                  refine H_y 14 rfl (by kernel_rfl) (by kernel_rfl) (by kernel_rfl) (hsub (.cons _ (.cons _ (.cons _ (.cons _ (.refl _)))))) rfl (y_pick_f rfl rfl) rfl ?_
                  refine H_y 15 rfl (by kernel_rfl) (by kernel_rfl) (by kernel_rfl) (hsub (.cons _ (.cons _ (.cons _ (.cons _ (.refl _)))))) rfl (y_indexA rfl rfl Try.underlying62 sz_4 (by omega) (by omega) (show _ = 1 from rfl)) rfl ?_
                  refine H_one 16 rfl (by kernel_rfl) rfl (op_store1 2 0 rfl rfl rfl sz_4 rfl (Nat.le_of_ble_eq_true rfl) ?_)
                  refine ⟨hsub (.cons _ (.cons _ (.cons _ (.cons _ (.refl _))))), ?_⟩
                  refine H_done (by kernel_rfl) ?_
                  refine C_region ?_
                  refine L_y rfl (y_add rfl rfl (show _ = (2 : Int) from rfl)) rfl ?_
                  refine L_y rfl (y_move rfl) rfl ?_
                  refine L_nil ?_
                  refine In_round ?_
                  refine C_seq ?_
                  refine C_region ?_
                  refine L_y rfl (y_lss rfl rfl) rfl ?_
                  refine L_nil ?_
                  refine C_seq ?_
                  refine C_cond_f rfl ?_
                  refine C_exit ?_
                  refine C_seq ?_
                  refine C_seq ?_
                  refine C_region ?_
                  refine L_y rfl (y_indexA rfl rfl Try.underlying62 sz_4 (by omega) (by omega) (show _ = 0 from rfl)) rfl ?_
                  refine L_y rfl (y_load rfl ag_4 (sees 2 0 rfl) rfl) rfl ?_
                  refine L_y rfl (y_not rfl) rfl ?_
                  refine L_y rfl (y_move rfl) rfl ?_
                  refine L_skip rfl rfl ?_
                  refine L_skip rfl rfl ?_
                  refine L_skip rfl rfl ?_
                  refine L_y rfl (y_pick_f rfl rfl) rfl ?_
                  refine L_nil ?_
                  refine C_cond_f rfl ?_
                  refine C_skip ?_
                  refine C_seq ?_
                  refine C_seq ?_
                  refine C_region ?_
                  refine L_y rfl (y_move rfl) rfl ?_
                  refine L_nil ?_
                  refine C_block ?_
                  refine C_loopIn (In_round ?_)
                  refine C_seq ?_
                  refine C_region ?_
                  refine L_y rfl (y_lss rfl rfl) rfl ?_
                  refine L_nil ?_
                  refine C_seq ?_
                  refine C_cond_t rfl ?_
                  refine C_skip ?_
                  refine C_seq ?_
                  refine C_block ?_
                  refine C_seq ?_
                  refine C_region ?_
                  refine L_y rfl (y_move rfl) rfl ?_
                  refine L_y rfl (y_assign rfl) rfl ?_
                  refine L_nil ?_
                  refine C_seq ?_
                  refine C_region ?_
                  refine L_y rfl (y_move rfl) rfl ?_
                  refine L_y rfl (y_indexA rfl rfl Try.underlying62 sz_4 (by omega) (by omega) (show _ = 0 from rfl)) rfl ?_
                  refine L_y rfl (y_load rfl ag_4 (sees 2 0 rfl) rfl) rfl ?_
                  refine L_nil ?_
                  refine C_cond_t rfl ?_
                  refine C_region ?_
                  refine L_y rfl (y_move rfl) rfl ?_
                  refine L_y rfl (y_move rfl) rfl ?_
                  refine L_y rfl (y_nilCheck rfl) rfl ?_
                  refine L_y rfl (y_fieldAddr rfl fl_110_0) rfl ?_
                  refine L_y rfl (y_indexA rfl rfl Try.underlying108 sz_107 (by omega) (by omega) (show _ = 0 from rfl)) rfl ?_
                  refine L_y rfl (y_fieldAddr rfl fl_107_1) rfl ?_
                  refine L_y rfl (y_load rfl ag_105 (sees 1 0 rfl) rfl) rfl ?_
                  refine L_y rfl (y_move rfl) rfl ?_
                  refine L_op rfl (op_delete 1 1 rfl rfl rfl Try.underlying105 Try.underlying3 rfl rfl ?_)
                  refine L_nil ?_
                  refine C_region ?_
                  refine L_y rfl (y_add rfl rfl (show _ = (1 : Int) from rfl)) rfl ?_
                  refine L_y rfl (y_move rfl) rfl ?_
                  refine L_nil ?_
                  refine In_round ?_
                  refine C_seq ?_
                  refine C_region ?_
                  refine L_y rfl (y_lss rfl rfl) rfl ?_
                  refine L_nil ?_
                  refine C_seq ?_
                  refine C_cond_t rfl ?_
                  refine C_skip ?_
                  refine C_seq ?_
                  refine C_block ?_
                  refine C_seq ?_
                  refine C_region ?_
                  refine L_y rfl (y_move rfl) rfl ?_
                  refine L_y rfl (y_assign rfl) rfl ?_
                  refine L_nil ?_
                  refine C_seq ?_
                  refine C_region ?_
                  refine L_y rfl (y_move rfl) rfl ?_
                  refine L_y rfl (y_indexA rfl rfl Try.underlying62 sz_4 (by omega) (by omega) (show _ = 1 from rfl)) rfl ?_
                  refine L_y rfl (y_load rfl ag_4 (sees 2 0 rfl) rfl) rfl ?_
                  refine L_nil ?_
                  refine C_cond_f rfl ?_
                  refine C_region ?_
                  refine L_y rfl (y_move rfl) rfl ?_
                  refine L_y rfl (y_move rfl) rfl ?_
                  refine L_y rfl (y_nilCheck rfl) rfl ?_
                  refine L_y rfl (y_fieldAddr rfl fl_110_0) rfl ?_
                  refine L_y rfl (y_indexA rfl rfl Try.underlying108 sz_107 (by omega) (by omega) (show _ = 2 from rfl)) rfl ?_
                  refine L_y rfl (y_fieldAddr rfl fl_107_1) rfl ?_
                  refine L_y rfl (y_load rfl ag_105 (sees 1 0 rfl) rfl) rfl ?_
                  refine L_y rfl (y_move rfl) rfl ?_
                  refine L_op rfl (op_mapUpdate 1 2 rfl rfl rfl Try.underlying105 Try.underlying3 rfl rfl ?_)
                  refine L_nil ?_
                  refine C_region ?_
                  refine L_y rfl (y_add rfl rfl (show _ = (2 : Int) from rfl)) rfl ?_
                  refine L_y rfl (y_move rfl) rfl ?_
                  refine L_nil ?_
                  refine In_round ?_
                  refine C_seq ?_
                  refine C_region ?_
                  refine L_y rfl (y_lss rfl rfl) rfl ?_
                  refine L_nil ?_
                  refine C_seq ?_
                  refine C_cond_f rfl ?_
                  refine C_exit ?_
                  refine C_seq ?_
                  refine C_region ?_
                  refine L_y rfl (y_assign rfl) rfl ?_
                  refine L_nil ?_
                  refine C_ret ?_
                  refine B_ret (rv_tmp rfl rv_nil) ((hsub (.cons_cons _ (.cons_cons _ (.cons _ (.cons _ (.refl _)))))).trans (hsub_pick [1, 0] rfl)) ?_
                  have e0 : putD A ask n s false = true := by simp_all [putD, pd]
                  have e1 : putD A ask n s true = false := by simp_all [putD, pd, pA]
                  have ea : putA A ask n s = ((A.write false n s).write true n s) := by simp_all [putA, pA]
                  have em : putm m A ask n s = m.mark n true false := by simp [putm, hn, e0, e1]
                  exact ⟨ret_int (by simp [putE, hn, e0, e1]), D5, h5.to (by simp [putDa, hn, ea]), by rw [em]; rfl⟩
          · skip
            refine C_skip ?_
            refine C_region ?_
            refine L_y rfl (y_add rfl rfl (show _ = (2 : Int) from rfl)) rfl ?_
            refine L_y rfl (y_move rfl) rfl ?_
            refine L_nil ?_
            refine In_round ?_
            refine C_seq ?_
            refine C_region ?_
            refine L_y rfl (y_lss rfl rfl) rfl ?_
            refine L_nil ?_
            refine C_seq ?_
            refine C_cond_f rfl ?_
            refine C_exit ?_
            refine C_seq ?_
            refine C_seq ?_
            refine C_region ?_
            refine L_y rfl (y_indexA rfl rfl Try.underlying62 sz_4 (by omega) (by omega) (show _ = 0 from rfl)) rfl ?_
            refine L_y rfl (y_load rfl ag_4 (sees 2 0 rfl) rfl) rfl ?_
            refine L_y rfl (y_not rfl) rfl ?_
            refine L_y rfl (y_move rfl) rfl ?_
            refine L_skip rfl rfl ?_
            refine L_skip rfl rfl ?_
            refine L_skip rfl rfl ?_
            refine L_y rfl (y_pick_f rfl rfl) rfl ?_
            refine L_nil ?_
            refine C_cond_f rfl ?_
            refine C_skip ?_
            refine C_seq ?_
            refine C_seq ?_
            refine C_region ?_
            refine L_y rfl (y_move rfl) rfl ?_
            refine L_nil ?_
            refine C_block ?_
            refine C_loopIn (In_round ?_)
            refine C_seq ?_
            refine C_region ?_
            refine L_y rfl (y_lss rfl rfl) rfl ?_
            refine L_nil ?_
            refine C_seq ?_
            refine C_cond_t rfl ?_
            refine C_skip ?_
            refine C_seq ?_
            refine C_block ?_
            refine C_seq ?_
            refine C_region ?_
            refine L_y rfl (y_move rfl) rfl ?_
            refine L_y rfl (y_assign rfl) rfl ?_
            refine L_nil ?_
            refine C_seq ?_
            refine C_region ?_
            refine L_y rfl (y_move rfl) rfl ?_
            refine L_y rfl (y_indexA rfl rfl Try.underlying62 sz_4 (by omega) (by omega) (show _ = 0 from rfl)) rfl ?_
            refine L_y rfl (y_load rfl ag_4 (sees 2 0 rfl) rfl) rfl ?_
            refine L_nil ?_
            refine C_cond_t rfl ?_
            refine C_region ?_
            refine L_y rfl (y_move rfl) rfl ?_
            refine L_y rfl (y_move rfl) rfl ?_
            refine L_y rfl (y_nilCheck rfl) rfl ?_
            refine L_y rfl (y_fieldAddr rfl fl_110_0) rfl ?_
            refine L_y rfl (y_indexA rfl rfl Try.underlying108 sz_107 (by omega) (by omega) (show _ = 0 from rfl)) rfl ?_
            refine L_y rfl (y_fieldAddr rfl fl_107_1) rfl ?_
            refine L_y rfl (y_load rfl ag_105 (sees 1 0 rfl) rfl) rfl ?_
            refine L_y rfl (y_move rfl) rfl ?_
            refine L_op rfl (op_delete 1 1 rfl rfl rfl Try.underlying105 Try.underlying3 rfl rfl ?_)
            refine L_nil ?_
            refine C_region ?_
            refine L_y rfl (y_add rfl rfl (show _ = (1 : Int) from rfl)) rfl ?_
            refine L_y rfl (y_move rfl) rfl ?_
            refine L_nil ?_
            refine In_round ?_
            refine C_seq ?_
            refine C_region ?_
            refine L_y rfl (y_lss rfl rfl) rfl ?_
            refine L_nil ?_
            refine C_seq ?_
            refine C_cond_t rfl ?_
            refine C_skip ?_
            refine C_seq ?_
            refine C_block ?_
            refine C_seq ?_
            refine C_region ?_
            refine L_y rfl (y_move rfl) rfl ?_
            refine L_y rfl (y_assign rfl) rfl ?_
            refine L_nil ?_
            refine C_seq ?_
            refine C_region ?_
            refine L_y rfl (y_move rfl) rfl ?_
            refine L_y rfl (y_indexA rfl rfl Try.underlying62 sz_4 (by omega) (by omega) (show _ = 1 from rfl)) rfl ?_
            refine L_y rfl (y_load rfl ag_4 (sees 2 0 rfl) rfl) rfl ?_
            refine L_nil ?_
            refine C_cond_f rfl ?_
            refine C_region ?_
            refine L_y rfl (y_move rfl) rfl ?_
            refine L_y rfl (y_move rfl) rfl ?_
            refine L_y rfl (y_nilCheck rfl) rfl ?_
            refine L_y rfl (y_fieldAddr rfl fl_110_0) rfl ?_
            refine L_y rfl (y_indexA rfl rfl Try.underlying108 sz_107 (by omega) (by omega) (show _ = 2 from rfl)) rfl ?_
            refine L_y rfl (y_fieldAddr rfl fl_107_1) rfl ?_
            refine L_y rfl (y_load rfl ag_105 (sees 1 0 rfl) rfl) rfl ?_
            refine L_y rfl (y_move rfl) rfl ?_
            refine L_op rfl (op_mapUpdate 1 2 rfl rfl rfl Try.underlying105 Try.underlying3 rfl rfl ?_)
            refine L_nil ?_
            refine C_region ?_
            refine L_y rfl (y_add rfl rfl (show _ = (2 : Int) from rfl)) rfl ?_
            refine L_y rfl (y_move rfl) rfl ?_
            refine L_nil ?_
            refine In_round ?_
            refine C_seq ?_
            refine C_region ?_
            refine L_y rfl (y_lss rfl rfl) rfl ?_
            refine L_nil ?_
            refine C_seq ?_
            refine C_cond_f rfl ?_
            refine C_exit ?_
            refine C_seq ?_
            refine C_region ?_
            refine L_y rfl (y_assign rfl) rfl ?_
            refine L_nil ?_
            refine C_ret ?_
            refine B_ret (rv_tmp rfl rv_nil) ((hsub (.cons_cons _ (.cons_cons _ (.cons _ (.cons _ (.refl _)))))).trans (hsub_pick [1, 0] rfl)) ?_
            have e0 : putD A ask n s false = true := by simp_all [putD, pd]
            have e1 : putD A ask n s true = false := by simp_all [putD, pd, pA]
            have ea : putA A ask n s = (A.write false n s) := by simp_all [putA, pA]
            have em : putm m A ask n s = m.mark n true false := by simp [putm, hn, e0, e1]
            exact ⟨ret_int (by simp [putE, hn, e0, e1]), D3, h3.to (by simp [putDa, hn, ea]), by rw [em]; rfl⟩
        · skip
          refine H_y 14 rfl (by kernel_rfl) (by kernel_rfl) (by kernel_rfl) (hsub (.cons _ (.cons _ (.cons _ (.cons _ (.refl _)))))) rfl (y_pick_f rfl rfl) rfl ?_
          refine H_y 15 rfl (by kernel_rfl) (by kernel_rfl) (by kernel_rfl) (hsub (.cons _ (.cons _ (.cons _ (.cons _ (.refl _)))))) rfl (y_indexA rfl rfl Try.underlying62 sz_4 (by omega) (by omega) (show _ = 0 from rfl)) rfl ?_
          refine H_one 16 rfl (by kernel_rfl) rfl (op_store1 2 0 rfl rfl rfl sz_4 rfl (Nat.le_of_ble_eq_true rfl) ?_)
          refine ⟨hsub (.cons _ (.cons _ (.cons _ (.cons _ (.refl _))))), ?_⟩
          refine H_done (by kernel_rfl) ?_
          refine C_region ?_
          refine L_y rfl (y_add rfl rfl (show _ = (1 : Int) from rfl)) rfl ?_
          refine L_y rfl (y_move rfl) rfl ?_
          refine L_nil ?_
          refine In_round ?_
          refine C_seq ?_
          refine C_region ?_
          refine L_y rfl (y_lss rfl rfl) rfl ?_
          refine L_nil ?_
          refine C_seq ?_
          refine C_cond_t rfl ?_
          refine C_skip ?_
          refine C_seq ?_
          refine C_block ?_
          refine C_seq ?_
          refine C_region ?_
          refine L_y rfl (y_move rfl) rfl ?_
          refine L_y rfl (y_assign rfl) rfl ?_
          refine L_nil ?_
          refine C_seq ?_
          refine C_region ?_
          refine L_y rfl (y_move rfl) rfl ?_
          refine L_y rfl (y_move rfl) rfl ?_
          refine L_y rfl (y_nilCheck rfl) rfl ?_
          refine L_y rfl (y_fieldAddr rfl fl_110_0) rfl ?_
          refine L_y rfl (y_indexA rfl rfl Try.underlying108 sz_107 (by omega) (by omega) (show _ = 2 from rfl)) rfl ?_
          refine L_y rfl (y_assign rfl) rfl ?_
          refine L_nil ?_
          refine C_seq ?_
          refine C_region ?_
          refine L_y rfl (y_move rfl) rfl ?_
          refine L_y rfl (y_nilCheck rfl) rfl ?_
          refine L_y rfl (y_loadA rfl ag_107 sz_107 (sees 1 0 rfl) (Nat.le_of_ble_eq_true rfl) rfl) rfl ?_
          refine L_op rfl (op_call rfl rfl (fun a w => Try.call53 a w) rfl ?_)
          refine ((there_d h3 true).sub (hsub_pick [0] rfl)).mono ?_
          rintro _ _ ⟨rfl, rfl⟩
          refine ⟨_, rfl, ?_⟩
          refine L_nil ?_
          refine C_cond rfl (fun hc2 => ?_) (fun hc2 => ?_)
          · skip
            refine C_regionH H (by kernel_rfl) ?_
            refine H_y 0 rfl (by kernel_rfl) (by kernel_rfl) (by kernel_rfl) (hsub (.cons _ (.cons _ (.cons _ (.cons _ (.refl _)))))) rfl (y_move rfl) rfl ?_
            refine H_y 1 rfl (by kernel_rfl) (by kernel_rfl) (by kernel_rfl) (hsub (.cons _ (.cons _ (.cons _ (.cons _ (.refl _)))))) rfl (y_move rfl) rfl ?_
            refine H_y 2 rfl (by kernel_rfl) (by kernel_rfl) (by kernel_rfl) (hsub (.cons _ (.cons _ (.cons _ (.cons _ (.refl _)))))) rfl (y_move rfl) rfl ?_
            refine H_one 3 rfl (by kernel_rfl) rfl (op_call (f := fa) (first := []) (cap := cap) rfl rfl hask.1 rfl ?_)
            refine FnS.mono (FnS.sub (hsub_pick [1, 0] rfl) (hask.2 true _ _ _ h3 (hsub (.cons _ (.cons _ (.refl _)))))) ?_
            rintro _ _ ⟨rfl, rfl⟩
            refine ⟨_, rfl, ?_⟩
            refine ⟨hsub (.cons _ (.cons _ (.cons _ (.cons _ (.refl _))))), ?_⟩
            refine H_y 4 rfl (by kernel_rfl) (by kernel_rfl) (by kernel_rfl) (hsub (.cons _ (.cons _ (.cons _ (.cons _ (.refl _)))))) rfl (y_not rfl) rfl ?_
            refine H_y 5 rfl (by kernel_rfl) (by kernel_rfl) (by kernel_rfl) (hsub (.cons _ (.cons _ (.cons _ (.cons _ (.refl _)))))) rfl (y_move rfl) rfl ?_
            refine H_case 34 rfl (fun hg9_6 => ?_) (fun hg9_6 => ?_)
            · skip
              refine H_skip 6 rfl (by kernel_rfl) (by kernel_rfl) (by kernel_rfl) (hsub (.cons _ (.cons _ (.cons _ (.cons _ (.refl _)))))) rfl rfl ?_
              refine H_skip 7 rfl (by kernel_rfl) (by kernel_rfl) (by kernel_rfl) (hsub (.cons _ (.cons _ (.cons _ (.cons _ (.refl _)))))) rfl rfl ?_
              refine H_skip 8 rfl (by kernel_rfl) (by kernel_rfl) (by kernel_rfl) (hsub (.cons _ (.cons _ (.cons _ (.cons _ (.refl _)))))) rfl rfl ?_
              refine H_skip 9 rfl (by kernel_rfl) (by kernel_rfl) (by kernel_rfl) (hsub (.cons _ (.cons _ (.cons _ (.cons _ (.refl _)))))) rfl rfl ?_
              refine H_skip 10 rfl (by kernel_rfl) (by kernel_rfl) (by kernel_rfl) (hsub (.cons _ (.cons _ (.cons _ (.cons _ (.refl _)))))) rfl rfl ?_
              refine H_skip 11 rfl (by kernel_rfl) (by kernel_rfl) (by kernel_rfl) (hsub (.cons _ (.cons _ (.cons _ (.cons _ (.refl _)))))) rfl rfl ?_
              refine H_skip 12 rfl (by kernel_rfl) (by kernel_rfl) (by kernel_rfl) (hsub (.cons _ (.cons _ (.cons _ (.cons _ (.refl _)))))) rfl rfl ?_
              refine H_skip 13 rfl (by kernel_rfl) (by kernel_rfl) (by kernel_rfl) (hsub (.cons _ (.cons _ (.cons _ (.cons _ (.refl _)))))) rfl rfl ?_
              refine H_y 14 rfl (by kernel_rfl) (by kernel_rfl) (by kernel_rfl) (hsub (.cons _ (.cons _ (.cons _ (.cons _ (.refl _)))))) rfl (y_pick_t rfl rfl) rfl ?_
              refine H_y 15 rfl (by kernel_rfl) (by kernel_rfl) (by kernel_rfl) (hsub (.cons _ (.cons _ (.cons _ (.cons _ (.refl _)))))) rfl (y_indexA rfl rfl Try.underlying62 sz_4 (by omega) (by omega) (show _ = 1 from rfl)) rfl ?_
              refine H_one 16 rfl (by kernel_rfl) rfl (op_store1 2 0 rfl rfl rfl sz_4 rfl (Nat.le_of_ble_eq_true rfl) ?_)
              refine ⟨hsub (.cons _ (.cons _ (.cons _ (.cons _ (.refl _))))), ?_⟩
              refine H_done (by kernel_rfl) ?_
              refine C_region ?_
              refine L_y rfl (y_add rfl rfl (show _ = (2 : Int) from rfl)) rfl ?_
              refine L_y rfl (y_move rfl) rfl ?_
              refine L_nil ?_
              refine In_round ?_
              refine C_seq ?_
              refine C_region ?_
              refine L_y rfl (y_lss rfl rfl) rfl ?_
              refine L_nil ?_
              refine C_seq ?_
              refine C_cond_f rfl ?_
              refine C_exit ?_
              refine C_seq ?_
              refine C_seq ?_
              refine C_region ?_
              refine L_y rfl (y_indexA rfl rfl Try.underlying62 sz_4 (by omega) (by omega) (show _ = 0 from rfl)) rfl ?_
              refine L_y rfl (y_load rfl ag_4 (sees 2 0 rfl) rfl) rfl ?_
              refine L_y rfl (y_not rfl) rfl ?_
              refine L_y rfl (y_move rfl) rfl ?_
              refine L_y rfl (y_indexA rfl rfl Try.underlying62 sz_4 (by omega) (by omega) (show _ = 1 from rfl)) rfl ?_
              refine L_y rfl (y_load rfl ag_4 (sees 2 0 rfl) rfl) rfl ?_
              refine L_y rfl (y_not rfl) rfl ?_
              refine L_y rfl (y_pick_t rfl rfl) rfl ?_
              refine L_nil ?_
              refine C_cond_f rfl ?_
              refine C_skip ?_
              refine C_seq ?_
              refine C_seq ?_
              refine C_region ?_
              refine L_y rfl (y_move rfl) rfl ?_
              refine L_nil ?_
              refine C_block ?_
              refine C_loopIn (In_round ?_)
              refine C_seq ?_
              refine C_region ?_
              refine L_y rfl (y_lss rfl rfl) rfl ?_
              refine L_nil ?_
              refine C_seq ?_
              refine C_cond_t rfl ?_
              refine C_skip ?_
              refine C_seq ?_
              refine C_block ?_
              refine C_seq ?_
              refine C_region ?_
              refine L_y rfl (y_move rfl) rfl ?_
              refine L_y rfl (y_assign rfl) rfl ?_
              refine L_nil ?_
              refine C_seq ?_
              refine C_region ?_
              refine L_y rfl (y_move rfl) rfl ?_
              refine L_y rfl (y_indexA rfl rfl Try.underlying62 sz_4 (by omega) (by omega) (show _ = 0 from rfl)) rfl ?_
              refine L_y rfl (y_load rfl ag_4 (sees 2 0 rfl) rfl) rfl ?_
              refine L_nil ?_
              refine C_cond_f rfl ?_
              refine C_region ?_
              refine L_y rfl (y_move rfl) rfl ?_
              refine L_y rfl (y_move rfl) rfl ?_
              refine L_y rfl (y_nilCheck rfl) rfl ?_
              refine L_y rfl (y_fieldAddr rfl fl_110_0) rfl ?_
              refine L_y rfl (y_indexA rfl rfl Try.underlying108 sz_107 (by omega) (by omega) (show _ = 0 from rfl)) rfl ?_
              refine L_y rfl (y_fieldAddr rfl fl_107_1) rfl ?_
              refine L_y rfl (y_load rfl ag_105 (sees 0 0 rfl) rfl) rfl ?_
              refine L_y rfl (y_move rfl) rfl ?_
              refine L_op rfl (op_mapUpdate 0 1 rfl rfl rfl Try.underlying105 Try.underlying3 rfl rfl ?_)
              refine L_nil ?_
              refine C_region ?_
              refine L_y rfl (y_add rfl rfl (show _ = (1 : Int) from rfl)) rfl ?_
              refine L_y rfl (y_move rfl) rfl ?_
              refine L_nil ?_
              refine In_round ?_
              refine C_seq ?_
              refine C_region ?_
              refine L_y rfl (y_lss rfl rfl) rfl ?_
              refine L_nil ?_
              refine C_seq ?_
              refine C_cond_t rfl ?_
              refine C_skip ?_
              refine C_seq ?_
              refine C_block ?_
              refine C_seq ?_
              refine C_region ?_
              refine L_y rfl (y_move rfl) rfl ?_
              refine L_y rfl (y_assign rfl) rfl ?_
              refine L_nil ?_
              refine C_seq ?_
              refine C_region ?_
              refine L_y rfl (y_move rfl) rfl ?_
              refine L_y rfl (y_indexA rfl rfl Try.underlying62 sz_4 (by omega) (by omega) (show _ = 1 from rfl)) rfl ?_
              refine L_y rfl (y_load rfl ag_4 (sees 2 0 rfl) rfl) rfl ?_
              refine L_nil ?_
              refine C_cond_t rfl ?_
              refine C_region ?_
              refine L_y rfl (y_move rfl) rfl ?_
              refine L_y rfl (y_move rfl) rfl ?_
              refine L_y rfl (y_nilCheck rfl) rfl ?_
              refine L_y rfl (y_fieldAddr rfl fl_110_0) rfl ?_
              refine L_y rfl (y_indexA rfl rfl Try.underlying108 sz_107 (by omega) (by omega) (show _ = 2 from rfl)) rfl ?_
              refine L_y rfl (y_fieldAddr rfl fl_107_1) rfl ?_
              refine L_y rfl (y_load rfl ag_105 (sees 0 0 rfl) rfl) rfl ?_
              refine L_y rfl (y_move rfl) rfl ?_
              refine L_op rfl (op_delete 0 2 rfl rfl rfl Try.underlying105 Try.underlying3 rfl rfl ?_)
              refine L_nil ?_
              refine C_region ?_
              refine L_y rfl (y_add rfl rfl (show _ = (2 : Int) from rfl)) rfl ?_
              refine L_y rfl (y_move rfl) rfl ?_
              refine L_nil ?_
              refine In_round ?_
              refine C_seq ?_
              refine C_region ?_
              refine L_y rfl (y_lss rfl rfl) rfl ?_
              refine L_nil ?_
              refine C_seq ?_
              refine C_cond_f rfl ?_
              refine C_exit ?_
              refine C_seq ?_
              refine C_region ?_
              refine L_y rfl (y_assign rfl) rfl ?_
              refine L_nil ?_
              refine C_ret ?_
              refine B_ret (rv_tmp rfl rv_nil) ((hsub (.cons_cons _ (.cons_cons _ (.cons _ (.cons _ (.refl _)))))).trans (hsub_pick [0, 0] rfl)) ?_
              have e0 : putD A ask n s false = false := by simp_all [putD, pd]
              have e1 : putD A ask n s true = true := by simp_all [putD, pd, pA]
              have ea : putA A ask n s = (A.write false n s) := by simp_all [putA, pA]
              have em : putm m A ask n s = m.mark n false true := by simp [putm, hn, e0, e1]
              exact ⟨ret_int (by simp [putE, hn, e0, e1]), D3, h3.to (by simp [putDa, hn, ea]), by rw [em]; rfl⟩
            · skip
              refine H_y 6 rfl (by kernel_rfl) (by kernel_rfl) (by kernel_rfl) (hsub (.cons _ (.cons _ (.cons _ (.cons _ (.refl _)))))) rfl (y_move rfl) rfl ?_
              refine H_y 7 rfl (by kernel_rfl) (by kernel_rfl) (by kernel_rfl) (hsub (.cons _ (.cons _ (.cons _ (.cons _ (.refl _)))))) rfl (y_nilCheck rfl) rfl ?_
              refine H_y 8 rfl (by kernel_rfl) (by kernel_rfl) (by kernel_rfl) (hsub (.cons _ (.cons _ (.cons _ (.cons _ (.refl _)))))) rfl (y_fieldAddr rfl fl_107_0) rfl ?_
              refine H_y 10 rfl (by kernel_rfl) (by kernel_rfl) (by kernel_rfl) (hsub (.cons _ (.cons _ (.cons _ (.cons _ (.refl _)))))) rfl (y_move rfl) rfl ?_
              refine H_two 9 11 rfl rfl (by kernel_rfl) rfl rfl ?_ ?_
              · refine op_y (y_load rfl ag_24 (sees 0 0 rfl) rfl) rfl ?_
                refine ⟨hsub (.cons _ (.cons _ (.cons _ (.cons _ (.refl _))))), ?_⟩
                refine H_one 11 rfl (by kernel_rfl) rfl (op_y (y_loadA rfl ag_32 sz_32 (sees 3 0 rfl) (by rw [bs_length, hs]; decide) (bs_whole0 _ hs)) rfl ?_)
                refine ⟨hsub (.cons _ (.cons _ (.cons _ (.cons _ (.refl _))))), ?_⟩
                refine H_one 12 rfl (by kernel_rfl) rfl (op_call rfl rfl (fun a w => Try.call62 a w) rfl ?_)
                refine ((write_d h3 true n s hs (by have := hQ true; have q2 := Da.write_many A false n s true; omega)).sub (hsub_pick [1] rfl)).mono ?_
                rintro _ _ ⟨rfl, D6, h6, rfl⟩
                refine ⟨_, rfl, ?_⟩
                refine ⟨hsub (.cons _ (.cons _ (.cons _ (.cons _ (.refl _))))), ?_⟩
                refine H_y 13 rfl (by kernel_rfl) (by kernel_rfl) (by kernel_rfl) (hsub (.cons _ (.cons _ (.cons _ (.cons _ (.refl _)))))) rfl (y_eqi rfl rfl) rfl ?_
                refine H_case 42 rfl (fun hg9_14 => ?_) (fun hg9_14 => ?_)
                · skip
                  refine H_y 14 rfl (by kernel_rfl) (by kernel_rfl) (by kernel_rfl) (hsub (.cons _ (.cons _ (.cons _ (.cons _ (.refl _)))))) rfl (y_pick_f rfl rfl) rfl ?_
                  refine H_y 15 rfl (by kernel_rfl) (by kernel_rfl) (by kernel_rfl) (hsub (.cons _ (.cons _ (.cons _ (.cons _ (.refl _)))))) rfl (y_indexA rfl rfl Try.underlying62 sz_4 (by omega) (by omega) (show _ = 1 from rfl)) rfl ?_
                  refine H_one 16 rfl (by kernel_rfl) rfl (op_store1 2 0 rfl rfl rfl sz_4 rfl (Nat.le_of_ble_eq_true rfl) ?_)
                  refine ⟨hsub (.cons _ (.cons _ (.cons _ (.cons _ (.refl _))))), ?_⟩
                  refine H_done (by kernel_rfl) ?_
                  refine C_region ?_
                  refine L_y rfl (y_add rfl rfl (show _ = (2 : Int) from rfl)) rfl ?_
                  refine L_y rfl (y_move rfl) rfl ?_
                  refine L_nil ?_
                  refine In_round ?_
                  refine C_seq ?_
                  refine C_region ?_
                  refine L_y rfl (y_lss rfl rfl) rfl ?_
                  refine L_nil ?_
                  refine C_seq ?_
                  refine C_cond_f rfl ?_
                  refine C_exit ?_
                  refine C_seq ?_
                  refine C_seq ?_
                  refine C_region ?_
                  refine L_y rfl (y_indexA rfl rfl Try.underlying62 sz_4 (by omega) (by omega) (show _ = 0 from rfl)) rfl ?_
                  refine L_y rfl (y_load rfl ag_4 (sees 2 0 rfl) rfl) rfl ?_
                  refine L_y rfl (y_not rfl) rfl ?_
                  refine L_y rfl (y_move rfl) rfl ?_
                  refine L_y rfl (y_indexA rfl rfl Try.underlying62 sz_4 (by omega) (by omega) (show _ = 1 from rfl)) rfl ?_
                  refine L_y rfl (y_load rfl ag_4 (sees 2 0 rfl) rfl) rfl ?_
                  refine L_y rfl (y_not rfl) rfl ?_
                  refine L_y rfl (y_pick_t rfl rfl) rfl ?_
                  refine L_nil ?_
                  refine C_cond_f rfl ?_
                  refine C_skip ?_
                  refine C_seq ?_
                  refine C_seq ?_
                  refine C_region ?_
                  refine L_y rfl (y_move rfl) rfl ?_
                  refine L_nil ?_
                  refine C_block ?_
                  refine C_loopIn (In_round ?_)
                  refine C_seq ?_
                  refine C_region ?_
                  refine L_y rfl (y_lss rfl rfl) rfl ?_
                  refine L_nil ?_
                  refine C_seq ?_
                  refine C_cond_t rfl ?_
                  refine C_skip ?_
                  refine C_seq ?_
                  refine C_block ?_
                  refine C_seq ?_
                  refine C_region ?_
                  refine L_y rfl (y_move rfl) rfl ?_
                  refine L_y rfl (y_assign rfl) rfl ?_
                  refine L_nil ?_
                  refine C_seq ?_
                  refine C_region ?_
                  refine L_y rfl (y_move rfl) rfl ?_
                  refine L_y rfl (y_indexA rfl rfl Try.underlying62 sz_4 (by omega) (by omega) (show _ = 0 from rfl)) rfl ?_
                  refine L_y rfl (y_load rfl ag_4 (sees 2 0 rfl) rfl) rfl ?_
                  refine L_nil ?_
                  refine C_cond_f rfl ?_
                  refine C_region ?_
                  refine L_y rfl (y_move rfl) rfl ?_
                  refine L_y rfl (y_move rfl) rfl ?_
                  refine L_y rfl (y_nilCheck rfl) rfl ?_
                  refine L_y rfl (y_fieldAddr rfl fl_110_0) rfl ?_
                  refine L_y rfl (y_indexA rfl rfl Try.underlying108 sz_107 (by omega) (by omega) (show _ = 0 from rfl)) rfl ?_
                  refine L_y rfl (y_fieldAddr rfl fl_107_1) rfl ?_
                  refine L_y rfl (y_load rfl ag_105 (sees 1 0 rfl) rfl) rfl ?_
                  refine L_y rfl (y_move rfl) rfl ?_
                  refine L_op rfl (op_mapUpdate 1 1 rfl rfl rfl Try.underlying105 Try.underlying3 rfl rfl ?_)
                  refine L_nil ?_
                  refine C_region ?_
                  refine L_y rfl (y_add rfl rfl (show _ = (1 : Int) from rfl)) rfl ?_
                  refine L_y rfl (y_move rfl) rfl ?_
                  refine L_nil ?_
                  refine In_round ?_
                  refine C_seq ?_
                  refine C_region ?_
                  refine L_y rfl (y_lss rfl rfl) rfl ?_
                  refine L_nil ?_
                  refine C_seq ?_
                  refine C_cond_t rfl ?_
                  refine C_skip ?_
                  refine C_seq ?_
                  refine C_block ?_
                  refine C_seq ?_
                  refine C_region ?_
                  refine L_y rfl (y_move rfl) rfl ?_
                  refine L_y rfl (y_assign rfl) rfl ?_
                  refine L_nil ?_
                  refine C_seq ?_
                  refine C_region ?_
                  refine L_y rfl (y_move rfl) rfl ?_
                  refine L_y rfl (y_indexA rfl rfl Try.underlying62 sz_4 (by omega) (by omega) (show _ = 1 from rfl)) rfl ?_
                  refine L_y rfl (y_load rfl ag_4 (sees 2 0 rfl) rfl) rfl ?_
                  refine L_nil ?_
                  refine C_cond_t rfl ?_
                  refine C_region ?_
                  refine L_y rfl (y_move rfl) rfl ?_
                  refine L_y rfl (y_move rfl) rfl ?_
                  refine L_y rfl (y_nilCheck rfl) rfl ?_
                  refine L_y rfl (y_fieldAddr rfl fl_110_0) rfl ?_
                  refine L_y rfl (y_indexA rfl rfl Try.underlying108 sz_107 (by omega) (by omega) (show _ = 2 from rfl)) rfl ?_
                  refine L_y rfl (y_fieldAddr rfl fl_107_1) rfl ?_
                  refine L_y rfl (y_load rfl ag_105 (sees 1 0 rfl) rfl) rfl ?_
                  refine L_y rfl (y_move rfl) rfl ?_
                  refine L_op rfl (op_delete 1 2 rfl rfl rfl Try.underlying105 Try.underlying3 rfl rfl ?_)
                  refine L_nil ?_
                  refine C_region ?_
                  refine L_y rfl (y_add rfl rfl (show _ = (2 : Int) from rfl)) rfl ?_
                  refine L_y rfl (y_move rfl) rfl ?_
                  refine L_nil ?_
                  refine In_round ?_
                  refine C_seq ?_
                  refine C_region ?_
                  refine L_y rfl (y_lss rfl rfl) rfl ?_
                  refine L_nil ?_
                  refine C_seq ?_
                  refine C_cond_f rfl ?_
                  refine C_exit ?_
                  refine C_seq ?_
                  refine C_region ?_
                  refine L_y rfl (y_assign rfl) rfl ?_
                  refine L_nil ?_
                  refine C_ret ?_
                  refine B_ret (rv_tmp rfl rv_nil) ((hsub (.cons_cons _ (.cons_cons _ (.cons _ (.cons _ (.refl _)))))).trans (hsub_pick [1, 0] rfl)) ?_
                  have e0 : putD A ask n s false = false := by simp_all [putD, pd]
                  have e1 : putD A ask n s true = true := by simp_all [putD, pd, pA]
                  have ea : putA A ask n s = ((A.write false n s).write true n s) := by simp_all [putA, pA]
                  have em : putm m A ask n s = m.mark n false true := by simp [putm, hn, e0, e1]
                  exact ⟨ret_int (by simp [putE, hn, e0, e1]), D6, h6.to (by simp [putDa, hn, ea]), by rw [em]; rfl⟩
                · skip
                  refine H_y 14 rfl (by kernel_rfl) (by kernel_rfl) (by kernel_rfl) (hsub (.cons _ (.cons _ (.cons _ (.cons _ (.refl _)))))) rfl (y_pick_f rfl rfl) rfl ?_
                  refine H_y 15 rfl (by kernel_rfl) (by kernel_rfl) (by kernel_rfl) (hsub (.cons _ (.cons _ (.cons _ (.cons _ (.refl _)))))) rfl (y_indexA rfl rfl Try.underlying62 sz_4 (by omega) (by omega) (show _ = 1 from rfl)) rfl ?_
                  refine H_one 16 rfl (by kernel_rfl) rfl (op_store1 2 0 rfl rfl rfl sz_4 rfl (Nat.le_of_ble_eq_true rfl) ?_)
                  refine ⟨hsub (.cons _ (.cons _ (.cons _ (.cons _ (.refl _))))), ?_⟩
                  refine H_done (by kernel_rfl) ?_
                  refine C_region ?_
                  refine L_y rfl (y_add rfl rfl (show _ = (2 : Int) from rfl)) rfl ?_
                  refine L_y rfl (y_move rfl) rfl ?_
                  refine L_nil ?_
                  refine In_round ?_
                  refine C_seq ?_
                  refine C_region ?_
                  refine L_y rfl (y_lss rfl rfl) rfl ?_
                  refine L_nil ?_
                  refine C_seq ?_
                  refine C_cond_f rfl ?_
                  refine C_exit ?_
                  refine C_seq ?_
                  refine C_seq ?_
                  refine C_region ?_
                  refine L_y rfl (y_indexA rfl rfl Try.underlying62 sz_4 (by omega) (by omega) (show _ = 0 from rfl)) rfl ?_
                  refine L_y rfl (y_load rfl ag_4 (sees 2 0 rfl) rfl) rfl ?_
                  refine L_y rfl (y_not rfl) rfl ?_
                  refine L_y rfl (y_move rfl) rfl ?_
                  refine L_y rfl (y_indexA rfl rfl Try.underlying62 sz_4 (by omega) (by omega) (show _ = 1 from rfl)) rfl ?_
                  refine L_y rfl (y_load rfl ag_4 (sees 2 0 rfl) rfl) rfl ?_
                  refine L_y rfl (y_not rfl) rfl ?_
                  refine L_y rfl (y_pick_t rfl rfl) rfl ?_
                  refine L_nil ?_
                  refine C_cond_t rfl ?_
                  refine C_seq ?_
                  refine C_region ?_
                  refine L_y rfl (y_assign rfl) rfl ?_
                  refine L_nil ?_
                  refine C_ret ?_
                  refine B_ret (rv_tmp rfl rv_nil) ((hsub (.cons_cons _ (.cons_cons _ (.cons _ (.cons _ (.refl _)))))).trans (hsub_pick [1, 0] rfl)) ?_
                  have e0 : putD A ask n s false = false := by simp_all [putD, pd]
                  have e1 : putD A ask n s true = false := by simp_all [putD, pd, pA]
                  have ea : putA A ask n s = ((A.write false n s).write true n s) := by simp_all [putA, pA]
                  have em : putm m A ask n s = m := by simp [putm, hn, e0, e1]
                  exact ⟨ret_int (by simp [putE, hn, e0, e1]), D6, h6.to (by simp [putDa, hn, ea]), by rw [em]; rfl⟩
              · refine op_y (y_loadA rfl ag_32 sz_32 (sees 3 0 rfl) (by rw [bs_length, hs]; decide) (bs_whole0 _ hs)) rfl ?_
                refine ⟨hsub (.cons _ (.cons _ (.cons _ (.cons _ (.refl _))))), ?_⟩
                refine H_one 9 rfl (by kernel_rfl) rfl (op_y (y_load rfl ag_24 (sees 0 0 rfl) rfl) rfl ?_)
                refine ⟨hsub (.cons _ (.cons _ (.cons _ (.cons _ (.refl _))))), ?_⟩
                refine H_one 12 rfl (by kernel_rfl) rfl (op_call rfl rfl (fun a w => Try.call62 a w) rfl ?_)
                refine ((write_d h3 true n s hs (by have := hQ true; have q2 := Da.write_many A false n s true; omega)).sub (hsub_pick [1] rfl)).mono ?_
                rintro _ _ ⟨rfl, D7, h7, rfl⟩
                refine ⟨_, rfl, ?_⟩
                refine ⟨hsub (.cons _ (.cons _ (.cons _ (.cons _ (.refl _))))), ?_⟩
                refine H_y 13 rfl (by kernel_rfl) (by kernel_rfl) (by kernel_rfl) (hsub (.cons _ (.cons _ (.cons _ (.cons _ (.refl _)))))) rfl (y_eqi rfl rfl) rfl ?_
                refine H_case 42 rfl (fun hg9_14 => ?_) (fun hg9_14 => ?_)
                · skip
                  refine H_y 14 rfl (by kernel_rfl) (by kernel_rfl) (by kernel_rfl) (hsub (.cons _ (.cons _ (.cons _ (.cons _ (.refl _)))))) rfl (y_pick_f rfl rfl) rfl ?_
                  refine H_y 15 rfl (by kernel_rfl) (by kernel_rfl) (by kernel_rfl) (hsub (.cons _ (.cons _ (.cons _ (.cons _ (.refl _)))))) rfl (y_indexA rfl rfl Try.underlying62 sz_4 (by omega) (by omega) (show _ = 1 from rfl)) rfl ?_
                  refine H_one 16 rfl (by kernel_rfl) rfl (op_store1 2 0 rfl rfl rfl sz_4 rfl (Nat.le_of_ble_eq_true rfl) ?_)
                  refine ⟨hsub (.cons _ (.cons _ (.cons _ (.cons _ (.refl _))))), ?_⟩
                  refine H_done (by kernel_rfl) ?_
                  refine C_region ?_
                  refine L_y rfl (y_add rfl rfl (show _ = (2 : Int) from rfl)) rfl ?_
                  refine L_y rfl (y_move rfl) rfl ?_
                  refine L_nil ?_
                  refine In_round ?_
                  refine C_seq ?_
                  refine C_region ?_
                  refine L_y rfl (y_lss rfl rfl) rfl ?_
                  refine L_nil ?_
                  refine C_seq ?_
                  refine C_cond_f rfl ?_
                  refine C_exit ?_
                  refine C_seq ?_
                  refine C_seq ?_
                  refine C_region ?_
                  refine L_y rfl (y_indexA rfl rfl Try.underlying62 sz_4 (by omega) (by omega) (show _ = 0 from rfl)) rfl ?_
                  refine L_y rfl (y_load rfl ag_4 (sees 2 0 rfl) rfl) rfl ?_
                  refine L_y rfl (y_not rfl) rfl ?_
                  refine L_y rfl (y_move rfl) rfl ?_
                  refine L_y rfl (y_indexA rfl rfl Try.underlying62 sz_4 (by omega) (by omega) (show _ = 1 from rfl)) rfl ?_
                  refine L_y rfl (y_load rfl ag_4 (sees 2 0 rfl) rfl) rfl ?_
                  refine L_y rfl (y_not rfl) rfl ?_
                  refine L_y rfl (y_pick_t rfl rfl) rfl ?_
                  refine L_nil ?_
                  refine C_cond_f rfl ?_
                  refine C_skip ?_
                  refine C_seq ?_
                  refine C_seq ?_
                  refine C_region ?_
                  refine L_y rfl (y_move rfl) rfl ?_
                  refine L_nil ?_
                  refine C_block ?_
                  refine C_loopIn (In_round ?_)
                  refine C_seq ?_
                  refine C_region ?_
                  refine L_y rfl (y_lss rfl rfl) rfl ?_
                  refine L_nil ?_
                  refine C_seq ?_
                  refine C_cond_t rfl ?_
                  refine C_skip ?_
                  refine C_seq ?_
                  refine C_block ?_
                  refine C_seq ?_
                  refine C_region ?_
                  refine L_y rfl (y_move rfl) rfl ?_
                  refine L_y rfl (y_assign rfl) rfl ?_
                  refine L_nil ?_
                  refine C_seq ?_
                  refine C_region ?_
                  refine L_y rfl (y_move rfl) rfl ?_
                  refine L_y rfl (y_indexA rfl rfl Try.underlying62 sz_4 (by omega) (by omega) (show _ = 0 from rfl)) rfl ?_
                  refine L_y rfl (y_load rfl ag_4 (sees 2 0 rfl) rfl) rfl ?_
                  refine L_nil ?_
                  refine C_cond_f rfl ?_
                  refine C_region ?_
                  refine L_y rfl (y_move rfl) rfl ?_
                  refine L_y rfl (y_move rfl) rfl ?_
                  refine L_y rfl (y_nilCheck rfl) rfl ?_
                  refine L_y rfl (y_fieldAddr rfl fl_110_0) rfl ?_
                  refine L_y rfl (y_indexA rfl rfl Try.underlying108 sz_107 (by omega) (by omega) (show _ = 0 from rfl)) rfl ?_
                  refine L_y rfl (y_fieldAddr rfl fl_107_1) rfl ?_
                  refine L_y rfl (y_load rfl ag_105 (sees 1 0 rfl) rfl) rfl ?_
                  refine L_y rfl (y_move rfl) rfl ?_
                  refine L_op rfl (op_mapUpdate 1 1 rfl rfl rfl Try.underlying105 Try.underlying3 rfl rfl ?_)
                  refine L_nil ?_
                  refine C_region ?_
                  refine L_y rfl (y_add rfl rfl (show _ = (1 : Int) from rfl)) rfl ?_
                  refine L_y rfl (y_move rfl) rfl ?_
                  refine L_nil ?_
                  refine In_round ?_
                  refine C_seq ?_
                  refine C_region ?_
                  refine L_y rfl (y_lss rfl rfl) rfl ?_
                  refine L_nil ?_
                  refine C_seq ?_
                  refine C_cond_t rfl ?_
                  refine C_skip ?_
                  refine C_seq ?_
                  refine C_block ?_
                  refine C_seq ?_
                  refine C_region ?_
                  refine L_y rfl (y_move rfl) rfl ?_
                  refine L_y rfl (y_assign rfl) rfl ?_
                  refine L_nil ?_
                  refine C_seq ?_
                  refine C_region ?_
                  refine L_y rfl (y_move rfl) rfl ?_
                  refine L_y rfl (y_indexA rfl rfl Try.underlying62 sz_4 (by omega) (by omega) (show _ = 1 from rfl)) rfl ?_
                  refine L_y rfl (y_load rfl ag_4 (sees 2 0 rfl) rfl) rfl ?_
                  refine L_nil ?_
                  refine C_cond_t rfl ?_
                  refine C_region ?_
                  refine L_y rfl (y_move rfl) rfl ?_
                  refine L_y rfl (y_move rfl) rfl ?_
                  refine L_y rfl (y_nilCheck rfl) rfl ?_
                  refine L_y rfl (y_fieldAddr rfl fl_110_0) rfl ?_
                  refine L_y rfl (y_indexA rfl rfl Try.underlying108 sz_107 (by omega) (by omega) (show _ = 2 from rfl)) rfl ?_
                  refine L_y rfl (y_fieldAddr rfl fl_107_1) rfl ?_
                  refine L_y rfl (y_load rfl ag_105 (sees 1 0 rfl) rfl) rfl ?_
                  refine L_y rfl (y_move rfl) rfl ?_
                  refine L_op rfl (op_delete 1 2 rfl rfl rfl Try.underlying105 Try.underlying3 rfl rfl ?_)
                  refine L_nil ?_
                  refine C_region ?_
                  refine L_y rfl (y_add rfl rfl (show _ = (2 : Int) from rfl)) rfl ?_
                  refine L_y rfl (y_move rfl) rfl ?_
                  refine L_nil ?_
                  refine In_round ?_
                  refine C_seq ?_
                  refine C_region ?_
                  refine L_y rfl (y_lss rfl rfl) rfl ?_
                  refine L_nil ?_
                  refine C_seq ?_
                  refine C_cond_f rfl ?_
                  refine C_exit ?_
                  refine C_seq ?_
                  refine C_region ?_
                  refine L_y rfl (y_assign rfl) rfl ?_
                  refine L_nil ?_
                  refine C_ret ?_
                  refine B_ret (rv_tmp rfl rv_nil) ((hsub (.cons_cons _ (.cons_cons _ (.cons _ (.cons _ (.refl _)))))).trans (hsub_pick [1, 0] rfl)) ?_
                  have e0 : putD A ask n s false = false := by simp_all [putD, pd]
                  have e1 : putD A ask n s true = true := by simp_all [putD, pd, pA]
                  have ea : putA A ask n s = ((A.write false n s).write true n s) := by simp_all [putA, pA]
                  have em : putm m A ask n s = m.mark n false true := by simp [putm, hn, e0, e1]
                  exact ⟨ret_int (by simp [putE, hn, e0, e1]), D7, h7.to (by simp [putDa, hn, ea]), by rw [em]; rfl⟩
                · skip
                  refine H_y 14 rfl (by kernel_rfl) (by kernel_rfl) (by kernel_rfl) (hsub (.cons _ (.cons _ (.cons _ (.cons _ (.refl _)))))) rfl (y_pick_f rfl rfl) rfl ?_
                  refine H_y 15 rfl (by kernel_rfl) (by kernel_rfl) (by kernel_rfl) (hsub (.cons _ (.cons _ (.cons _ (.cons _ (.refl _)))))) rfl (y_indexA rfl rfl Try.underlying62 sz_4 (by omega) (by omega) (show _ = 1 from rfl)) rfl ?_
                  refine H_one 16 rfl (by kernel_rfl) rfl (op_store1 2 0 rfl rfl rfl sz_4 rfl (Nat.le_of_ble_eq_true rfl) ?_)
                  refine ⟨hsub (.cons _ (.cons _ (.cons _ (.cons _ (.refl _))))), ?_⟩
                  refine H_done (by kernel_rfl) ?_
                  refine C_region ?_
                  refine L_y rfl (y_add rfl rfl (show _ = (2 : Int) from rfl)) rfl ?_
                  refine L_y rfl (y_move rfl) rfl ?_
                  refine L_nil ?_
                  refine In_round ?_
                  refine C_seq ?_
                  refine C_region ?_
                  refine L_y rfl (y_lss rfl rfl) rfl ?_
                  refine L_nil ?_
                  refine C_seq ?_
                  refine C_cond_f rfl ?_
                  refine C_exit ?_
                  refine C_seq ?_
                  refine C_seq ?_
                  refine C_region ?_
                  refine L_y rfl (y_indexA rfl rfl Try.underlying62 sz_4 (by omega) (by omega) (show _ = 0 from rfl)) rfl ?_
                  refine L_y rfl (y_load rfl ag_4 (sees 2 0 rfl) rfl) rfl ?_
                  refine L_y rfl (y_not rfl) rfl ?_
                  refine L_y rfl (y_move rfl) rfl ?_
                  refine L_y rfl (y_indexA rfl rfl Try.underlying62 sz_4 (by omega) (by omega) (show _ = 1 from rfl)) rfl ?_
                  refine L_y rfl (y_load rfl ag_4 (sees 2 0 rfl) rfl) rfl ?_
                  refine L_y rfl (y_not rfl) rfl ?_
                  refine L_y rfl (y_pick_t rfl rfl) rfl ?_
                  refine L_nil ?_
                  refine C_cond_t rfl ?_
                  refine C_seq ?_
                  refine C_region ?_
                  refine L_y rfl (y_assign rfl) rfl ?_
                  refine L_nil ?_
                  refine C_ret ?_
                  refine B_ret (rv_tmp rfl rv_nil) ((hsub (.cons_cons _ (.cons_cons _ (.cons _ (.cons _ (.refl _)))))).trans (hsub_pick [1, 0] rfl)) ?_
                  have e0 : putD A ask n s false = false := by simp_all [putD, pd]
                  have e1 : putD A ask n s true = false := by simp_all [putD, pd, pA]
                  have ea : putA A ask n s = ((A.write false n s).write true n s) := by simp_all [putA, pA]
                  have em : putm m A ask n s = m := by simp [putm, hn, e0, e1]
                  exact ⟨ret_int (by simp [putE, hn, e0, e1]), D7, h7.to (by simp [putDa, hn, ea]), by rw [em]; rfl⟩
          · skip
            refine C_skip ?_
            refine C_region ?_
            refine L_y rfl (y_add rfl rfl (show _ = (2 : Int) from rfl)) rfl ?_
            refine L_y rfl (y_move rfl) rfl ?_
            refine L_nil ?_
            refine In_round ?_
            refine C_seq ?_
            refine C_region ?_
            refine L_y rfl (y_lss rfl rfl) rfl ?_
            refine L_nil ?_
            refine C_seq ?_
            refine C_cond_f rfl ?_
            refine C_exit ?_
            refine C_seq ?_
            refine C_seq ?_
            refine C_region ?_
            refine L_y rfl (y_indexA rfl rfl Try.underlying62 sz_4 (by omega) (by omega) (show _ = 0 from rfl)) rfl ?_
            refine L_y rfl (y_load rfl ag_4 (sees 2 0 rfl) rfl) rfl ?_
            refine L_y rfl (y_not rfl) rfl ?_
            refine L_y rfl (y_move rfl) rfl ?_
            refine L_y rfl (y_indexA rfl rfl Try.underlying62 sz_4 (by omega) (by omega) (show _ = 1 from rfl)) rfl ?_
            refine L_y rfl (y_load rfl ag_4 (sees 2 0 rfl) rfl) rfl ?_
            refine L_y rfl (y_not rfl) rfl ?_
            refine L_y rfl (y_pick_t rfl rfl) rfl ?_
            refine L_nil ?_
            refine C_cond_t rfl ?_
            refine C_seq ?_
            refine C_region ?_
            refine L_y rfl (y_assign rfl) rfl ?_
            refine L_nil ?_
            refine C_ret ?_
            refine B_ret (rv_tmp rfl rv_nil) ((hsub (.cons_cons _ (.cons_cons _ (.cons _ (.cons _ (.refl _)))))).trans (hsub_pick [1, 0] rfl)) ?_
            have e0 : putD A ask n s false = false := by simp_all [putD, pd]
            have e1 : putD A ask n s true = false := by simp_all [putD, pd, pA]
            have ea : putA A ask n s = (A.write false n s) := by simp_all [putA, pA]
            have em : putm m A ask n s = m := by simp [putm, hn, e0, e1]
            exact ⟨ret_int (by simp [putE, hn, e0, e1]), D3, h3.to (by simp [putDa, hn, ea]), by rw [em]; rfl⟩
      · refine op_y (y_loadA rfl ag_32 sz_32 (sees 3 0 rfl) (by rw [bs_length, hs]; decide) (bs_whole0 _ hs)) rfl ?_
        refine ⟨hsub (.cons _ (.cons _ (.cons _ (.cons _ (.refl _))))), ?_⟩
        refine H_one 9 rfl (by kernel_rfl) rfl (op_y (y_load rfl ag_24 (sees 0 0 rfl) rfl) rfl ?_)
        refine ⟨hsub (.cons _ (.cons _ (.cons _ (.cons _ (.refl _))))), ?_⟩
        refine H_one 12 rfl (by kernel_rfl) rfl (op_call rfl rfl (fun a w => Try.call62 a w) rfl ?_)
        refine ((write_d h false n s hs (by have := hQ false; omega)).sub (hsub_pick [1] rfl)).mono ?_
        rintro _ _ ⟨rfl, D8, h8, rfl⟩
        refine ⟨_, rfl, ?_⟩
        refine ⟨hsub (.cons _ (.cons _ (.cons _ (.cons _ (.refl _))))), ?_⟩
        refine H_y 13 rfl (by kernel_rfl) (by kernel_rfl) (by kernel_rfl) (hsub (.cons _ (.cons _ (.cons _ (.cons _ (.refl _)))))) rfl (y_eqi rfl rfl) rfl ?_
        refine H_case 42 rfl (fun hg9_14 => ?_) (fun hg9_14 => ?_)
        · skip
          refine H_y 14 rfl (by kernel_rfl) (by kernel_rfl) (by kernel_rfl) (hsub (.cons _ (.cons _ (.cons _ (.cons _ (.refl _)))))) rfl (y_pick_f rfl rfl) rfl ?_
          refine H_y 15 rfl (by kernel_rfl) (by kernel_rfl) (by kernel_rfl) (hsub (.cons _ (.cons _ (.cons _ (.cons _ (.refl _)))))) rfl (y_indexA rfl rfl Try.underlying62 sz_4 (by omega) (by omega) (show _ = 0 from rfl)) rfl ?_
          refine H_one 16 rfl (by kernel_rfl) rfl (op_store1 2 0 rfl rfl rfl sz_4 rfl (Nat.le_of_ble_eq_true rfl) ?_)
          refine ⟨hsub (.cons _ (.cons _ (.cons _ (.cons _ (.refl _))))), ?_⟩
          refine H_done (by kernel_rfl) ?_
          refine C_region ?_
          refine L_y rfl (y_add rfl rfl (show _ = (1 : Int) from rfl)) rfl ?_
          refine L_y rfl (y_move rfl) rfl ?_
          refine L_nil ?_
          refine In_round ?_
          refine C_seq ?_
          refine C_region ?_
          refine L_y rfl (y_lss rfl rfl) rfl ?_
          refine L_nil ?_
          refine C_seq ?_
          refine C_cond_t rfl ?_
          refine C_skip ?_
          refine C_seq ?_
          refine C_block ?_
          refine C_seq ?_
          refine C_region ?_
          refine L_y rfl (y_move rfl) rfl ?_
          refine L_y rfl (y_assign rfl) rfl ?_
          refine L_nil ?_
          refine C_seq ?_
          refine C_region ?_
          refine L_y rfl (y_move rfl) rfl ?_
          refine L_y rfl (y_move rfl) rfl ?_
          refine L_y rfl (y_nilCheck rfl) rfl ?_
          refine L_y rfl (y_fieldAddr rfl fl_110_0) rfl ?_
          refine L_y rfl (y_indexA rfl rfl Try.underlying108 sz_107 (by omega) (by omega) (show _ = 2 from rfl)) rfl ?_
          refine L_y rfl (y_assign rfl) rfl ?_
          refine L_nil ?_
          refine C_seq ?_
          refine C_region ?_
          refine L_y rfl (y_move rfl) rfl ?_
          refine L_y rfl (y_nilCheck rfl) rfl ?_
          refine L_y rfl (y_loadA rfl ag_107 sz_107 (sees 1 0 rfl) (Nat.le_of_ble_eq_true rfl) rfl) rfl ?_
          refine L_op rfl (op_call rfl rfl (fun a w => Try.call53 a w) rfl ?_)
          refine ((there_d h8 true).sub (hsub_pick [0] rfl)).mono ?_
          rintro _ _ ⟨rfl, rfl⟩
          refine ⟨_, rfl, ?_⟩
          refine L_nil ?_
          refine C_cond rfl (fun hc2 => ?_) (fun hc2 => ?_)
          · skip
            refine C_regionH H (by kernel_rfl) ?_
            refine H_y 0 rfl (by kernel_rfl) (by kernel_rfl) (by kernel_rfl) (hsub (.cons _ (.cons _ (.cons _ (.cons _ (.refl _)))))) rfl (y_move rfl) rfl ?_
            refine H_y 1 rfl (by kernel_rfl) (by kernel_rfl) (by kernel_rfl) (hsub (.cons _ (.cons _ (.cons _ (.cons _ (.refl _)))))) rfl (y_move rfl) rfl ?_
            refine H_y 2 rfl (by kernel_rfl) (by kernel_rfl) (by kernel_rfl) (hsub (.cons _ (.cons _ (.cons _ (.cons _ (.refl _)))))) rfl (y_move rfl) rfl ?_
            refine H_one 3 rfl (by kernel_rfl) rfl (op_call (f := fa) (first := []) (cap := cap) rfl rfl hask.1 rfl ?_)
            refine FnS.mono (FnS.sub (hsub_pick [1, 0] rfl) (hask.2 true _ _ _ h8 (hsub (.cons _ (.cons _ (.refl _)))))) ?_
            rintro _ _ ⟨rfl, rfl⟩
            refine ⟨_, rfl, ?_⟩
            refine ⟨hsub (.cons _ (.cons _ (.cons _ (.cons _ (.refl _))))), ?_⟩
            refine H_y 4 rfl (by kernel_rfl) (by kernel_rfl) (by kernel_rfl) (hsub (.cons _ (.cons _ (.cons _ (.cons _ (.refl _)))))) rfl (y_not rfl) rfl ?_
            refine H_y 5 rfl (by kernel_rfl) (by kernel_rfl) (by kernel_rfl) (hsub (.cons _ (.cons _ (.cons _ (.cons _ (.refl _)))))) rfl (y_move rfl) rfl ?_
            refine H_case 34 rfl (fun hg9_6 => ?_) (fun hg9_6 => ?_)
            · skip
              refine H_skip 6 rfl (by kernel_rfl) (by kernel_rfl) (by kernel_rfl) (hsub (.cons _ (.cons _ (.cons _ (.cons _ (.refl _)))))) rfl rfl ?_
              refine H_skip 7 rfl (by kernel_rfl) (by kernel_rfl) (by kernel_rfl) (hsub (.cons _ (.cons _ (.cons _ (.cons _ (.refl _)))))) rfl rfl ?_
              refine H_skip 8 rfl (by kernel_rfl) (by kernel_rfl) (by kernel_rfl) (hsub (.cons _ (.cons _ (.cons _ (.cons _ (.refl _)))))) rfl rfl ?_
              refine H_skip 9 rfl (by kernel_rfl) (by kernel_rfl) (by kernel_rfl) (hsub (.cons _ (.cons _ (.cons _ (.cons _ (.refl _)))))) rfl rfl ?_
              refine H_skip 10 rfl (by kernel_rfl) (by kernel_rfl) (by kernel_rfl) (hsub (.cons _ (.cons _ (.cons _ (.cons _ (.refl _)))))) rfl rfl ?_
              refine H_skip 11 rfl (by kernel_rfl) (by kernel_rfl) (by kernel_rfl) (hsub (.cons _ (.cons _ (.cons _ (.cons _ (.refl _)))))) rfl rfl ?_
              refine H_skip 12 rfl (by kernel_rfl) (by kernel_rfl) (by kernel_rfl) (hsub (.cons _ (.cons _ (.cons _ (.cons _ (.refl _)))))) rfl rfl ?_
              refine H_skip 13 rfl (by kernel_rfl) (by kernel_rfl) (by kernel_rfl) (hsub (.cons _ (.cons _ (.cons _ (.cons _ (.refl _)))))) rfl rfl ?_
              refine H_y 14 rfl (by kernel_rfl) (by kernel_rfl) (by kernel_rfl) (hsub (.cons _ (.cons _ (.cons _ (.cons _ (.refl _)))))) rfl (y_pick_t rfl rfl) rfl ?_
              refine H_y 15 rfl (by kernel_rfl) (by kernel_rfl) (by kernel_rfl) (hsub (.cons _ (.cons _ (.cons _ (.cons _ (.refl _)))))) rfl (y_indexA rfl rfl Try.underlying62 sz_4 (by omega) (by omega) (show _ = 1 from rfl)) rfl ?_
              refine H_one 16 rfl (by kernel_rfl) rfl (op_store1 2 0 rfl rfl rfl sz_4 rfl (Nat.le_of_ble_eq_true rfl) ?_)
              refine ⟨hsub (.cons _ (.cons _ (.cons _ (.cons _ (.refl _))))), ?_⟩
              refine H_done (by kernel_rfl) ?_
              refine C_region ?_
              refine L_y rfl (y_add rfl rfl (show _ = (2 : Int) from rfl)) rfl ?_
              refine L_y rfl (y_move rfl) rfl ?_
              refine L_nil ?_
              refine In_round ?_
              refine C_seq ?_
              refine C_region ?_
              refine L_y rfl (y_lss rfl rfl) rfl ?_
              refine L_nil ?_
              refine C_seq ?_
              refine C_cond_f rfl ?_
              refine C_exit ?_
              refine C_seq ?_
              refine C_seq ?_
              refine C_region ?_
              refine L_y rfl (y_indexA rfl rfl Try.underlying62 sz_4 (by omega) (by omega) (show _ = 0 from rfl)) rfl ?_
              refine L_y rfl (y_load rfl ag_4 (sees 2 0 rfl) rfl) rfl ?_
              refine L_y rfl (y_not rfl) rfl ?_
              refine L_y rfl (y_move rfl) rfl ?_
              refine L_skip rfl rfl ?_
              refine L_skip rfl rfl ?_
              refine L_skip rfl rfl ?_
              refine L_y rfl (y_pick_f rfl rfl) rfl ?_
              refine L_nil ?_
              refine C_cond_f rfl ?_
              refine C_skip ?_
              refine C_seq ?_
              refine C_seq ?_
              refine C_region ?_
              refine L_y rfl (y_move rfl) rfl ?_
              refine L_nil ?_
              refine C_block ?_
              refine C_loopIn (In_round ?_)
              refine C_seq ?_
              refine C_region ?_
              refine L_y rfl (y_lss rfl rfl) rfl ?_
              refine L_nil ?_
              refine C_seq ?_
              refine C_cond_t rfl ?_
              refine C_skip ?_
              refine C_seq ?_
              refine C_block ?_
              refine C_seq ?_
              refine C_region ?_
              refine L_y rfl (y_move rfl) rfl ?_
              refine L_y rfl (y_assign rfl) rfl ?_
              refine L_nil ?_
              refine C_seq ?_
              refine C_region ?_
              refine L_y rfl (y_move rfl) rfl ?_
              refine L_y rfl (y_indexA rfl rfl Try.underlying62 sz_4 (by omega) (by omega) (show _ = 0 from rfl)) rfl ?_
              refine L_y rfl (y_load rfl ag_4 (sees 2 0 rfl) rfl) rfl ?_
              refine L_nil ?_
              refine C_cond_t rfl ?_
              refine C_region ?_
              refine L_y rfl (y_move rfl) rfl ?_
              refine L_y rfl (y_move rfl) rfl ?_
              refine L_y rfl (y_nilCheck rfl) rfl ?_
              refine L_y rfl (y_fieldAddr rfl fl_110_0) rfl ?_
              refine L_y rfl (y_indexA rfl rfl Try.underlying108 sz_107 (by omega) (by omega) (show _ = 0 from rfl)) rfl ?_
              refine L_y rfl (y_fieldAddr rfl fl_107_1) rfl ?_
              refine L_y rfl (y_load rfl ag_105 (sees 0 0 rfl) rfl) rfl ?_
              refine L_y rfl (y_move rfl) rfl ?_
              refine L_op rfl (op_delete 0 1 rfl rfl rfl Try.underlying105 Try.underlying3 rfl rfl ?_)
              refine L_nil ?_
              refine C_region ?_
              refine L_y rfl (y_add rfl rfl (show _ = (1 : Int) from rfl)) rfl ?_
              refine L_y rfl (y_move rfl) rfl ?_
              refine L_nil ?_
              refine In_round ?_
              refine C_seq ?_
              refine C_region ?_
              refine L_y rfl (y_lss rfl rfl) rfl ?_
              refine L_nil ?_
              refine C_seq ?_
              refine C_cond_t rfl ?_
              refine C_skip ?_
              refine C_seq ?_
              refine C_block ?_
              refine C_seq ?_
              refine C_region ?_
              refine L_y rfl (y_move rfl) rfl ?_
              refine L_y rfl (y_assign rfl) rfl ?_
              refine L_nil ?_
              refine C_seq ?_
              refine C_region ?_
              refine L_y rfl (y_move rfl) rfl ?_
              refine L_y rfl (y_indexA rfl rfl Try.underlying62 sz_4 (by omega) (by omega) (show _ = 1 from rfl)) rfl ?_
              refine L_y rfl (y_load rfl ag_4 (sees 2 0 rfl) rfl) rfl ?_
              refine L_nil ?_
              refine C_cond_t rfl ?_
              refine C_region ?_
              refine L_y rfl (y_move rfl) rfl ?_
              refine L_y rfl (y_move rfl) rfl ?_
              refine L_y rfl (y_nilCheck rfl) rfl ?_
              refine L_y rfl (y_fieldAddr rfl fl_110_0) rfl ?_
              refine L_y rfl (y_indexA rfl rfl Try.underlying108 sz_107 (by omega) (by omega) (show _ = 2 from rfl)) rfl ?_
              refine L_y rfl (y_fieldAddr rfl fl_107_1) rfl ?_
              refine L_y rfl (y_load rfl ag_105 (sees 0 0 rfl) rfl) rfl ?_
              refine L_y rfl (y_move rfl) rfl ?_
              refine L_op rfl (op_delete 0 2 rfl rfl rfl Try.underlying105 Try.underlying3 rfl rfl ?_)
              refine L_nil ?_
              refine C_region ?_
              refine L_y rfl (y_add rfl rfl (show _ = (2 : Int) from rfl)) rfl ?_
              refine L_y rfl (y_move rfl) rfl ?_
              refine L_nil ?_
              refine In_round ?_
              refine C_seq ?_
              refine C_region ?_
              refine L_y rfl (y_lss rfl rfl) rfl ?_
              refine L_nil ?_
              refine C_seq ?_
              refine C_cond_f rfl ?_
              refine C_exit ?_
              refine C_seq ?_
              refine C_region ?_
              refine L_y rfl (y_assign rfl) rfl ?_
              refine L_nil ?_
              refine C_ret ?_
              refine B_ret (rv_tmp rfl rv_nil) ((hsub (.cons_cons _ (.cons_cons _ (.cons _ (.cons _ (.refl _)))))).trans (hsub_pick [0, 0] rfl)) ?_
              have e0 : putD A ask n s false = true := by simp_all [putD, pd]
              have e1 : putD A ask n s true = true := by simp_all [putD, pd, pA]
              have ea : putA A ask n s = (A.write false n s) := by simp_all [putA, pA]
              have em : putm m A ask n s = m.mark n true true := by simp [putm, hn, e0, e1]
              exact ⟨ret_int (by simp [putE, hn, e0, e1]), D8, h8.to (by simp [putDa, hn, ea]), by rw [em]; rfl⟩
            · skip
              refine H_y 6 rfl (by kernel_rfl) (by kernel_rfl) (by kernel_rfl) (hsub (.cons _ (.cons _ (.cons _ (.cons _ (.refl _)))))) rfl (y_move rfl) rfl ?_
              refine H_y 7 rfl (by kernel_rfl) (by kernel_rfl) (by kernel_rfl) (hsub (.cons _ (.cons _ (.cons _ (.cons _ (.refl _)))))) rfl (y_nilCheck rfl) rfl ?_
              refine H_y 8 rfl (by kernel_rfl) (by kernel_rfl) (by kernel_rfl) (hsub (.cons _ (.cons _ (.cons _ (.cons _ (.refl _)))))) rfl (y_fieldAddr rfl fl_107_0) rfl ?_
              refine H_y 10 rfl (by kernel_rfl) (by kernel_rfl) (by kernel_rfl) (hsub (.cons _ (.cons _ (.cons _ (.cons _ (.refl _)))))) rfl (y_move rfl) rfl ?_
              refine H_two 9 11 rfl rfl (by kernel_rfl) rfl rfl ?_ ?_
              · refine op_y (y_load rfl ag_24 (sees 0 0 rfl) rfl) rfl ?_
                refine ⟨hsub (.cons _ (.cons _ (.cons _ (.cons _ (.refl _))))), ?_⟩
                refine H_one 11 rfl (by kernel_rfl) rfl (op_y (y_loadA rfl ag_32 sz_32 (sees 3 0 rfl) (by rw [bs_length, hs]; decide) (bs_whole0 _ hs)) rfl ?_)
                refine ⟨hsub (.cons _ (.cons _ (.cons _ (.cons _ (.refl _))))), ?_⟩
                refine H_one 12 rfl (by kernel_rfl) rfl (op_call rfl rfl (fun a w => Try.call62 a w) rfl ?_)
                refine ((write_d h8 true n s hs (by have := hQ true; have q2 := Da.write_many A false n s true; omega)).sub (hsub_pick [1] rfl)).mono ?_
                rintro _ _ ⟨rfl, D9, h9, rfl⟩
                refine ⟨_, rfl, ?_⟩
                refine ⟨hsub (.cons _ (.cons _ (.cons _ (.cons _ (.refl _))))), ?_⟩
                refine H_y 13 rfl (by kernel_rfl) (by kernel_rfl) (by kernel_rfl) (hsub (.cons _ (.cons _ (.cons _ (.cons _ (.refl _)))))) rfl (y_eqi rfl rfl) rfl ?_
                refine H_case 42 rfl (fun hg9_14 => ?_) (fun hg9_14 => ?_)
                · skip
                  refine H_y 14 rfl (by kernel_rfl) (by kernel_rfl) (by kernel_rfl) (hsub (.cons _ (.cons _ (.cons _ (.cons _ (.refl _)))))) rfl (y_pick_f rfl rfl) rfl ?_
                  refine H_y 15 rfl (by kernel_rfl) (by kernel_rfl) (by kernel_rfl) (hsub (.cons _ (.cons _ (.cons _ (.cons _ (.refl _)))))) rfl (y_indexA rfl rfl Try.underlying62 sz_4 (by omega) (by omega) (show _ = 1 from rfl)) rfl ?_
                  refine H_one 16 rfl (by kernel_rfl) rfl (op_store1 2 0 rfl rfl rfl sz_4 rfl (Nat.le_of_ble_eq_true rfl) ?_)
                  refine ⟨hsub (.cons _ (.cons _ (.cons _ (.cons _ (.refl _))))), ?_⟩
                  refine H_done (by kernel_rfl) ?_
                  refine C_region ?_
                  refine L_y rfl (y_add rfl rfl (show _ = (2 : Int) from rfl)) rfl ?_
                  refine L_y rfl (y_move rfl) rfl ?_
                  refine L_nil ?_
                  refine In_round ?_
                  refine C_seq ?_
                  refine C_region ?_
                  refine L_y rfl (y_lss rfl rfl) rfl ?_
                  refine L_nil ?_
                  refine C_seq ?_
                  refine C_cond_f rfl ?_
                  refine C_exit ?_
                  refine C_seq ?_
                  refine C_seq ?_
                  refine C_region ?_
                  refine L_y rfl (y_indexA rfl rfl Try.underlying62 sz_4 (by omega) (by omega) (show _ = 0 from rfl)) rfl ?_
                  refine L_y rfl (y_load rfl ag_4 (sees 2 0 rfl) rfl) rfl ?_
                  refine L_y rfl (y_not rfl) rfl ?_
                  refine L_y rfl (y_move rfl) rfl ?_
                  refine L_skip rfl rfl ?_
                  refine L_skip rfl rfl ?_
                  refine L_skip rfl rfl ?_
                  refine L_y rfl (y_pick_f rfl rfl) rfl ?_
                  refine L_nil ?_
                  refine C_cond_f rfl ?_
                  refine C_skip ?_
                  refine C_seq ?_
                  refine C_seq ?_
                  refine C_region ?_
                  refine L_y rfl (y_move rfl) rfl ?_
                  refine L_nil ?_
                  refine C_block ?_
                  refine C_loopIn (In_round ?_)
                  refine C_seq ?_
                  refine C_region ?_
                  refine L_y rfl (y_lss rfl rfl) rfl ?_
                  refine L_nil ?_
                  refine C_seq ?_
                  refine C_cond_t rfl ?_
                  refine C_skip ?_
                  refine C_seq ?_
                  refine C_block ?_
                  refine C_seq ?_
                  refine C_region ?_
                  refine L_y rfl (y_move rfl) rfl ?_
                  refine L_y rfl (y_assign rfl) rfl ?_
                  refine L_nil ?_
                  refine C_seq ?_
                  refine C_region ?_
                  refine L_y rfl (y_move rfl) rfl ?_
                  refine L_y rfl (y_indexA rfl rfl Try.underlying62 sz_4 (by omega) (by omega) (show _ = 0 from rfl)) rfl ?_
                  refine L_y rfl (y_load rfl ag_4 (sees 2 0 rfl) rfl) rfl ?_
                  refine L_nil ?_
                  refine C_cond_t rfl ?_
                  refine C_region ?_
                  refine L_y rfl (y_move rfl) rfl ?_
                  refine L_y rfl (y_move rfl) rfl ?_
                  refine L_y rfl (y_nilCheck rfl) rfl ?_
                  refine L_y rfl (y_fieldAddr rfl fl_110_0) rfl ?_
                  refine L_y rfl (y_indexA rfl rfl Try.underlying108 sz_107 (by omega) (by omega) (show _ = 0 from rfl)) rfl ?_
                  refine L_y rfl (y_fieldAddr rfl fl_107_1) rfl ?_
                  refine L_y rfl (y_load rfl ag_105 (sees 1 0 rfl) rfl) rfl ?_
                  refine L_y rfl (y_move rfl) rfl ?_
                  refine L_op rfl (op_delete 1 1 rfl rfl rfl Try.underlying105 Try.underlying3 rfl rfl ?_)
                  refine L_nil ?_
                  refine C_region ?_
                  refine L_y rfl (y_add rfl rfl (show _ = (1 : Int) from rfl)) rfl ?_
                  refine L_y rfl (y_move rfl) rfl ?_
                  refine L_nil ?_
                  refine In_round ?_
                  refine C_seq ?_
                  refine C_region ?_
                  refine L_y rfl (y_lss rfl rfl) rfl ?_
                  refine L_nil ?_
                  refine C_seq ?_
                  refine C_cond_t rfl ?_
                  refine C_skip ?_
                  refine C_seq ?_
                  refine C_block ?_
                  refine C_seq ?_
                  refine C_region ?_
                  refine L_y rfl (y_move rfl) rfl ?_
                  refine L_y rfl (y_assign rfl) rfl ?_
                  refine L_nil ?_
                  refine C_seq ?_
                  refine C_region ?_
                  refine L_y rfl (y_move rfl) rfl ?_
                  refine L_y rfl (y_indexA rfl rfl Try.underlying62 sz_4 (by omega) (by omega) (show _ = 1 from rfl)) rfl ?_
                  refine L_y rfl (y_load rfl ag_4 (sees 2 0 rfl) rfl) rfl ?_
                  refine L_nil ?_
                  refine C_cond_t rfl ?_
                  refine C_region ?_
                  refine L_y rfl (y_move rfl) rfl ?_
                  refine L_y rfl (y_move rfl) rfl ?_
                  refine L_y rfl (y_nilCheck rfl) rfl ?_
                  refine L_y rfl (y_fieldAddr rfl fl_110_0) rfl ?_
                  refine L_y rfl (y_indexA rfl rfl Try.underlying108 sz_107 (by omega) (by omega) (show _ = 2 from rfl)) rfl ?_
                  refine L_y rfl (y_fieldAddr rfl fl_107_1) rfl ?_
                  refine L_y rfl (y_load rfl ag_105 (sees 1 0 rfl) rfl) rfl ?_
                  refine L_y rfl (y_move rfl) rfl ?_
                  refine L_op rfl (op_delete 1 2 rfl rfl rfl Try.underlying105 Try.underlying3 rfl rfl ?_)
                  refine L_nil ?_
                  refine C_region ?_
                  refine L_y rfl (y_add rfl rfl (show _ = (2 : Int) from rfl)) rfl ?_
                  refine L_y rfl (y_move rfl) rfl ?_
                  refine L_nil ?_
                  refine In_round ?_
                  refine C_seq ?_
                  refine C_region ?_
                  refine L_y rfl (y_lss rfl rfl) rfl ?_
                  refine L_nil ?_
                  refine C_seq ?_
                  refine C_cond_f rfl ?_
                  refine C_exit ?_
                  refine C_seq ?_
                  refine C_region ?_
                  refine L_y rfl (y_assign rfl) rfl ?_
                  refine L_nil ?_
                  refine C_ret ?_
                  refine B_ret (rv_tmp rfl rv_nil) ((hsub (.cons_cons _ (.cons_cons _ (.cons _ (.cons _ (.refl _)))))).trans (hsub_pick [1, 0] rfl)) ?_
                  have e0 : putD A ask n s false = true := by simp_all [putD, pd]
                  have e1 : putD A ask n s true = true := by simp_all [putD, pd, pA]
                  have ea : putA A ask n s = ((A.write false n s).write true n s) := by simp_all [putA, pA]
                  have em : putm m A ask n s = m.mark n true true := by simp [putm, hn, e0, e1]
                  exact ⟨ret_int (by simp [putE, hn, e0, e1]), D9, h9.to (by simp [putDa, hn, ea]), by rw [em]; rfl⟩
                · skip
                  refine H_y 14 rfl (by kernel_rfl) (by kernel_rfl) (by kernel_rfl) (hsub (.cons _ (.cons _ (.cons _ (.cons _ (.refl _)))))) rfl (y_pick_f rfl rfl) rfl ?_
                  refine H_y 15 rfl (by kernel_rfl) (by kernel_rfl) (by kernel_rfl) (hsub (.cons _ (.cons _ (.cons _ (.cons _ (.refl _)))))) rfl (y_indexA rfl rfl Try.underlying62 sz_4 (by omega) (by omega) (show _ = 1 from rfl)) rfl ?_
                  refine H_one 16 rfl (by kernel_rfl) rfl (op_store1 2 0 rfl rfl rfl sz_4 rfl (Nat.le_of_ble_eq_true rfl) ?_)
                  refine ⟨hsub (.cons _ (.cons _ (.cons _ (.cons _ (.refl _))))), ?_⟩
                  refine H_done (by kernel_rfl) ?_
                  refine C_region ?_
                  refine L_y rfl (y_add rfl rfl (show _ = (2 : Int) from rfl)) rfl ?_
                  refine L_y rfl (y_move rfl) rfl ?_
                  refine L_nil ?_
                  refine In_round ?_
                  refine C_seq ?_
                  refine C_region ?_
                  refine L_y rfl (y_lss rfl rfl) rfl ?_
                  refine L_nil ?_
                  refine C_seq ?_
                  refine C_cond_f rfl ?_
                  refine C_exit ?_
                  refine C_seq ?_
                  refine C_seq ?_
                  refine C_region ?_
                  refine L_y rfl (y_indexA rfl rfl Try.underlying62 sz_4 (by omega) (by omega) (show _ = 0 from rfl)) rfl ?_
                  refine L_y rfl (y_load rfl ag_4 (sees 2 0 rfl) rfl) rfl ?_
                  refine L_y rfl (y_not rfl) rfl ?_
                  refine L_y rfl (y_move rfl) rfl ?_
                  refine L_skip rfl rfl ?_
                  refine L_skip rfl rfl ?_
                  refine L_skip rfl rfl ?_
                  refine L_y rfl (y_pick_f rfl rfl) rfl ?_
                  refine L_nil ?_
                  refine C_cond_f rfl ?_
                  refine C_skip ?_
                  refine C_seq ?_
                  refine C_seq ?_
                  refine C_region ?_
                  refine L_y rfl (y_move rfl) rfl ?_
                  refine L_nil ?_
                  refine C_block ?_
                  refine C_loopIn (In_round ?_)
                  refine C_seq ?_
                  refine C_region ?_
                  refine L_y rfl (y_lss rfl rfl) rfl ?_
                  refine L_nil ?_
                  refine C_seq ?_
                  refine C_cond_t rfl ?_
                  refine C_skip ?_
                  refine C_seq ?_
                  refine C_block ?_
                  refine C_seq ?_
                  refine C_region ?_
                  refine L_y rfl (y_move rfl) rfl ?_
                  refine L_y rfl (y_assign rfl) rfl ?_
                  refine L_nil ?_
                  refine C_seq ?_
                  refine C_region ?_
                  refine L_y rfl (y_move rfl) rfl ?_
                  refine L_y rfl (y_indexA rfl rfl Try.underlying62 sz_4 (by omega) (by omega) (show _ = 0 from rfl)) rfl ?_
                  refine L_y rfl (y_load rfl ag_4 (sees 2 0 rfl) rfl) rfl ?_
                  refine L_nil ?_
                  refine C_cond_t rfl ?_
                  refine C_region ?_
                  refine L_y rfl (y_move rfl) rfl ?_
                  refine L_y rfl (y_move rfl) rfl ?_
                  refine L_y rfl (y_nilCheck rfl) rfl ?_
                  refine L_y rfl (y_fieldAddr rfl fl_110_0) rfl ?_
                  refine L_y rfl (y_indexA rfl rfl Try.underlying108 sz_107 (by omega) (by omega) (show _ = 0 from rfl)) rfl ?_
                  refine L_y rfl (y_fieldAddr rfl fl_107_1) rfl ?_
                  refine L_y rfl (y_load rfl ag_105 (sees 1 0 rfl) rfl) rfl ?_
                  refine L_y rfl (y_move rfl) rfl ?_
                  refine L_op rfl (op_delete 1 1 rfl rfl rfl Try.underlying105 Try.underlying3 rfl rfl ?_)
                  refine L_nil ?_
                  refine C_region ?_
                  refine L_y rfl (y_add rfl rfl (show _ = (1 : Int) from rfl)) rfl ?_
                  refine L_y rfl (y_move rfl) rfl ?_
                  refine L_nil ?_
                  refine In_round ?_
                  refine C_seq ?_
                  refine C_region ?_
                  refine L_y rfl (y_lss rfl rfl) rfl ?_
                  refine L_nil ?_
                  refine C_seq ?_
                  refine C_cond_t rfl ?_
                  refine C_skip ?_
                  refine C_seq ?_
                  refine C_block ?_
                  refine C_seq ?_
                  refine C_region ?_
                  refine L_y rfl (y_move rfl) rfl ?_
                  refine L_y rfl (y_assign rfl) rfl ?_
                  refine L_nil ?_
                  refine C_seq ?_
                  refine C_region ?_
                  refine L_y rfl (y_move rfl) rfl ?_
                  refine L_y rfl (y_indexA rfl rfl Try.underlying62 sz_4 (by omega) (by omega) (show _ = 1 from rfl)) rfl ?_
                  refine L_y rfl (y_load rfl ag_4 (sees 2 0 rfl) rfl) rfl ?_
                  refine L_nil ?_
                  refine C_cond_f rfl ?_
                  refine C_region ?_
                  refine L_y rfl (y_move rfl) rfl ?_
                  refine L_y rfl (y_move rfl) rfl ?_
                  refine L_y rfl (y_nilCheck rfl) rfl ?_
                  refine L_y rfl (y_fieldAddr rfl fl_110_0) rfl ?_
                  refine L_y rfl (y_indexA rfl rfl Try.underlying108 sz_107 (by omega) (by omega) (show _ = 2 from rfl)) rfl ?_
                  refine L_y rfl (y_fieldAddr rfl fl_107_1) rfl ?_
                  refine L_y rfl (y_load rfl ag_105 (sees 1 0 rfl) rfl) rfl ?_
                  refine L_y rfl (y_move rfl) rfl ?_
                  refine L_op rfl (op_mapUpdate 1 2 rfl rfl rfl Try.underlying105 Try.underlying3 rfl rfl ?_)
                  refine L_nil ?_
                  refine C_region ?_
                  refine L_y rfl (y_add rfl rfl (show _ = (2 : Int) from rfl)) rfl ?_
                  refine L_y rfl (y_move rfl) rfl ?_
                  refine L_nil ?_
                  refine In_round ?_
                  refine C_seq ?_
                  refine C_region ?_
                  refine L_y rfl (y_lss rfl rfl) rfl ?_
                  refine L_nil ?_
                  refine C_seq ?_
                  refine C_cond_f rfl ?_
                  refine C_exit ?_
                  refine C_seq ?_
                  refine C_region ?_
                  refine L_y rfl (y_assign rfl) rfl ?_
                  refine L_nil ?_
                  refine C_ret ?_
                  refine B_ret (rv_tmp rfl rv_nil) ((hsub (.cons_cons _ (.cons_cons _ (.cons _ (.cons _ (.refl _)))))).trans (hsub_pick [1, 0] rfl)) ?_
                  have e0 : putD A ask n s false = true := by simp_all [putD, pd]
                  have e1 : putD A ask n s true = false := by simp_all [putD, pd, pA]
                  have ea : putA A ask n s = ((A.write false n s).write true n s) := by simp_all [putA, pA]
                  have em : putm m A ask n s = m.mark n true false := by simp [putm, hn, e0, e1]
                  exact ⟨ret_int (by simp [putE, hn, e0, e1]), D9, h9.to (by simp [putDa, hn, ea]), by rw [em]; rfl⟩
              · refine op_y (y_loadA rfl ag_32 sz_32 (sees 3 0 rfl) (by rw [bs_length, hs]; decide) (bs_whole0 _ hs)) rfl ?_
                refine ⟨hsub (.cons _ (.cons _ (.cons _ (.cons _ (.refl _))))), ?_⟩
                refine H_one 9 rfl (by kernel_rfl) rfl (op_y (y_load rfl ag_24 (sees 0 0 rfl) rfl) rfl ?_)
                refine ⟨hsub (.cons _ (.cons _ (.cons _ (.cons _ (.refl _))))), ?_⟩
                refine H_one 12 rfl (by kernel_rfl) rfl (op_call rfl rfl (fun a w => Try.call62 a w) rfl ?_)
                refine ((write_d h8 true n s hs (by have := hQ true; have q2 := Da.write_many A false n s true; omega)).sub (hsub_pick [1] rfl)).mono ?_
                rintro _ _ ⟨rfl, D10, h10, rfl⟩
                refine ⟨_, rfl, ?_⟩
                refine ⟨hsub (.cons _ (.cons _ (.cons _ (.cons _ (.refl _))))), ?_⟩
                refine H_y 13 rfl (by kernel_rfl) (by kernel_rfl) (by kernel_rfl) (hsub (.cons _ (.cons _ (.cons _ (.cons _ (.refl _)))))) rfl (y_eqi rfl rfl) rfl ?_
                refine H_case 42 rfl (fun hg9_14 => ?_) (fun hg9_14 => ?_)
                · skip
                  refine H_y 14 rfl (by kernel_rfl) (by kernel_rfl) (by kernel_rfl) (hsub (.cons _ (.cons _ (.cons _ (.cons _ (.refl _)))))) rfl (y_pick_f rfl rfl) rfl ?_
                  refine H_y 15 rfl (by kernel_rfl) (by kernel_rfl) (by kernel_rfl) (hsub (.cons _ (.cons _ (.cons _ (.cons _ (.refl _)))))) rfl (y_indexA rfl rfl Try.underlying62 sz_4 (by omega) (by omega) (show _ = 1 from rfl)) rfl ?_
                  refine H_one 16 rfl (by kernel_rfl) rfl (op_store1 2 0 rfl rfl rfl sz_4 rfl (Nat.le_of_ble_eq_true rfl) ?_)
                  refine ⟨hsub (.cons _ (.cons _ (.cons _ (.cons _ (.refl _))))), ?_⟩
                  refine H_done (by kernel_rfl) ?_
                  refine C_region ?_
                  refine L_y rfl (y_add rfl rfl (show _ = (2 : Int) from rfl)) rfl ?_
                  refine L_y rfl (y_move rfl) rfl ?_
                  refine L_nil ?_
                  refine In_round ?_
                  refine C_seq ?_
                  refine C_region ?_
                  refine L_y rfl (y_lss rfl rfl) rfl ?_
                  refine L_nil ?_
                  refine C_seq ?_
                  refine C_cond_f rfl ?_
                  refine C_exit ?_
                  refine C_seq ?_
                  refine C_seq ?_
                  refine C_region ?_
                  refine L_y rfl (y_indexA rfl rfl Try.underlying62 sz_4 (by omega) (by omega) (show _ = 0 from rfl)) rfl ?_
                  refine L_y rfl (y_load rfl ag_4 (sees 2 0 rfl) rfl) rfl ?_
                  refine L_y rfl (y_not rfl) rfl ?_
                  refine L_y rfl (y_move rfl) rfl ?_
                  refine L_skip rfl rfl ?_
                  refine L_skip rfl rfl ?_
                  refine L_skip rfl rfl ?_
                  refine L_y rfl (y_pick_f rfl rfl) rfl ?_
                  refine L_nil ?_
                  refine C_cond_f rfl ?_
                  refine C_skip ?_
                  refine C_seq ?_
                  refine C_seq ?_
                  refine C_region ?_
                  refine L_y rfl (y_move rfl) rfl ?_
                  refine L_nil ?_
                  refine C_block ?_
                  refine C_loopIn (In_round ?_)
                  refine C_seq ?_
                  refine C_region ?_
                  refine L_y rfl (y_lss rfl rfl) rfl ?_
                  refine L_nil ?_
                  refine C_seq ?_
                  refine C_cond_t rfl ?_
                  refine C_skip ?_
                  refine C_seq ?_
                  refine C_block ?_
                  refine C_seq ?_
                  refine C_region ?_
                  refine L_y rfl (y_move rfl) rfl ?_
                  refine L_y rfl (y_assign rfl) rfl ?_
                  refine L_nil ?_
                  refine C_seq ?_
                  refine C_region ?_
                  refine L_y rfl (y_move rfl) rfl ?_
                  refine L_y rfl (y_indexA rfl rfl Try.underlying62 sz_4 (by omega) (by omega) (show _ = 0 from rfl)) rfl ?_
                  refine L_y rfl (y_load rfl ag_4 (sees 2 0 rfl) rfl) rfl ?_
                  refine L_nil ?_
                  refine C_cond_t rfl ?_
                  refine C_region ?_
                  refine L_y rfl (y_move rfl) rfl ?_
                  refine L_y rfl (y_move rfl) rfl ?_
                  refine L_y rfl (y_nilCheck rfl) rfl ?_
                  refine L_y rfl (y_fieldAddr rfl fl_110_0) rfl ?_
                  refine L_y rfl (y_indexA rfl rfl Try.underlying108 sz_107 (by omega) (by omega) (show _ = 0 from rfl)) rfl ?_
                  refine L_y rfl (y_fieldAddr rfl fl_107_1) rfl ?_
                  refine L_y rfl (y_load rfl ag_105 (sees 1 0 rfl) rfl) rfl ?_
                  refine L_y rfl (y_move rfl) rfl ?_
                  refine L_op rfl (op_delete 1 1 rfl rfl rfl Try.underlying105 Try.underlying3 rfl rfl ?_)
                  refine L_nil ?_
                  refine C_region ?_
                  refine L_y rfl (y_add rfl rfl (show _ = (1 : Int) from rfl)) rfl ?_
                  refine L_y rfl (y_move rfl) rfl ?_
                  refine L_nil ?_
                  refine In_round ?_
                  refine C_seq ?_
                  refine C_region ?_
                  refine L_y rfl (y_lss rfl rfl) rfl ?_
                  refine L_nil ?_
                  refine C_seq ?_
                  refine C_cond_t rfl ?_
                  refine C_skip ?_
                  refine C_seq ?_
                  refine C_block ?_
                  refine C_seq ?_
                  refine C_region ?_
                  refine L_y rfl (y_move rfl) rfl ?_
                  refine L_y rfl (y_assign rfl) rfl ?_
                  refine L_nil ?_
                  refine C_seq ?_
                  refine C_region ?_
                  refine L_y rfl (y_move rfl) rfl ?_
                  refine L_y rfl (y_indexA rfl rfl Try.underlying62 sz_4 (by omega) (by omega) (show _ = 1 from rfl)) rfl ?_
                  refine L_y rfl (y_load rfl ag_4 (sees 2 0 rfl) rfl) rfl ?_
                  refine L_nil ?_
                  refine C_cond_t rfl ?_
                  refine C_region ?_
                  refine L_y rfl (y_move rfl) rfl ?_
                  refine L_y rfl (y_move rfl) rfl ?_
                  refine L_y rfl (y_nilCheck rfl) rfl ?_
                  refine L_y rfl (y_fieldAddr rfl fl_110_0) rfl ?_
                  refine L_y rfl (y_indexA rfl rfl Try.underlying108 sz_107 (by omega) (by omega) (show _ = 2 from rfl)) rfl ?_
                  refine L_y rfl (y_fieldAddr rfl fl_107_1) rfl ?_
                  refine L_y rfl (y_load rfl ag_105 (sees 1 0 rfl) rfl) rfl ?_
                  refine L_y rfl (y_move rfl) rfl ?_
                  refine L_op rfl (op_delete 1 2 rfl rfl rfl Try.underlying105 Try.underlying3 rfl rfl ?_)
                  refine L_nil ?_
                  refine C_region ?_
                  refine L_y rfl (y_add rfl rfl (show _ = (2 : Int) from rfl)) rfl ?_
                  refine L_y rfl (y_move rfl) rfl ?_
                  refine L_nil ?_
                  refine In_round ?_
                  refine C_seq ?_
                  refine C_region ?_
                  refine L_y rfl (y_lss rfl rfl) rfl ?_
                  refine L_nil ?_
                  refine C_seq ?_
                  refine C_cond_f rfl ?_
                  refine C_exit ?_
                  refine C_seq ?_
                  refine C_region ?_
                  refine L_y rfl (y_assign rfl) rfl ?_
                  refine L_nil ?_
                  refine C_ret ?_
                  refine B_ret (rv_tmp rfl rv_nil) ((hsub (.cons_cons _ (.cons_cons _ (.cons _ (.cons _ (.refl _)))))).trans (hsub_pick [1, 0] rfl)) ?_
                  have e0 : putD A ask n s false = true := by simp_all [putD, pd]
                  have e1 : putD A ask n s true = true := by simp_all [putD, pd, pA]
                  have ea : putA A ask n s = ((A.write false n s).write true n s) := by simp_all [putA, pA]
                  have em : putm m A ask n s = m.mark n true true := by simp [putm, hn, e0, e1]
                  exact ⟨ret_int (by simp [putE, hn, e0, e1]), D10, h10.to (by simp [putDa, hn, ea]), by rw [em]; rfl⟩
                · skip
                  refine H_y 14 rfl (by kernel_rfl) (by kernel_rfl) (by kernel_rfl) (hsub (.cons _ (.cons _ (.cons _ (.cons _ (.refl _)))))) rfl (y_pick_f rfl rfl) rfl ?_
                  refine H_y 15 rfl (by kernel_rfl) (by kernel_rfl) (by kernel_rfl) (hsub (.cons _ (.cons _ (.cons _ (.cons _ (.refl _)))))) rfl (y_indexA rfl rfl Try.underlying62 sz_4 (by omega) (by omega) (show _ = 1 from rfl)) rfl ?_
                  refine H_one 16 rfl (by kernel_rfl) rfl (op_store1 2 0 rfl rfl rfl sz_4 rfl (Nat.le_of_ble_eq_true rfl) ?_)
                  refine ⟨hsub (.cons _ (.cons _ (.cons _ (.cons _ (.refl _))))), ?_⟩
                  refine H_done (by kernel_rfl) ?_
                  refine C_region ?_
                  refine L_y rfl (y_add rfl rfl (show _ = (2 : Int) from rfl)) rfl ?_
                  refine L_y rfl (y_move rfl) rfl ?_
                  refine L_nil ?_
                  refine In_round ?_
                  refine C_seq ?_
                  refine C_region ?_
                  refine L_y rfl (y_lss rfl rfl) rfl ?_
                  refine L_nil ?_
                  refine C_seq ?_
                  refine C_cond_f rfl ?_
                  refine C_exit ?_
                  refine C_seq ?_
                  refine C_seq ?_
                  refine C_region ?_
                  refine L_y rfl (y_indexA rfl rfl Try.underlying62 sz_4 (by omega) (by omega) (show _ = 0 from rfl)) rfl ?_
                  refine L_y rfl (y_load rfl ag_4 (sees 2 0 rfl) rfl) rfl ?_
                  refine L_y rfl (y_not rfl) rfl ?_
                  refine L_y rfl (y_move rfl) rfl ?_
                  refine L_skip rfl rfl ?_
                  refine L_skip rfl rfl ?_
                  refine L_skip rfl rfl ?_
                  refine L_y rfl (y_pick_f rfl rfl) rfl ?_
                  refine L_nil ?_
                  refine C_cond_f rfl ?_
                  refine C_skip ?_
                  refine C_seq ?_
                  refine C_seq ?_
                  refine C_region ?_
                  refine L_y rfl (y_move rfl) rfl ?_
                  refine L_nil ?_
                  refine C_block ?_
                  refine C_loopIn (In_round ?_)
                  refine C_seq ?_
                  refine C_region ?_
                  refine L_y rfl (y_lss rfl rfl) rfl ?_
                  refine L_nil ?_
                  refine C_seq ?_
                  refine C_cond_t rfl ?_
                  refine C_skip ?_
                  refine C_seq ?_
                  refine C_block ?_
                  refine C_seq ?_
                  refine C_region ?_
                  refine L_y rfl (y_move rfl) rfl ?_
                  refine L_y rfl (y_assign rfl) rfl ?_
                  refine L_nil ?_
                  refine C_seq ?_
                  refine C_region ?_
                  refine L_y rfl (y_move rfl) rfl ?_
                  refine L_y rfl (y_indexA rfl rfl Try.underlying62 sz_4 (by omega) (by omega) (show _ = 0 from rfl)) rfl ?_
                  refine L_y rfl (y_load rfl ag_4 (sees 2 0 rfl) rfl) rfl ?_
                  refine L_nil ?_
                  refine C_cond_t rfl ?_
                  refine C_region ?_
                  refine L_y rfl (y_move rfl) rfl ?_
                  refine L_y rfl (y_move rfl) rfl ?_
                  refine L_y rfl (y_nilCheck rfl) rfl ?_
                  refine L_y rfl (y_fieldAddr rfl fl_110_0) rfl ?_
                  refine L_y rfl (y_indexA rfl rfl Try.underlying108 sz_107 (by omega) (by omega) (show _ = 0 from rfl)) rfl ?_
                  refine L_y rfl (y_fieldAddr rfl fl_107_1) rfl ?_
                  refine L_y rfl (y_load rfl ag_105 (sees 1 0 rfl) rfl) rfl ?_
                  refine L_y rfl (y_move rfl) rfl ?_
                  refine L_op rfl (op_delete 1 1 rfl rfl rfl Try.underlying105 Try.underlying3 rfl rfl ?_)
                  refine L_nil ?_
                  refine C_region ?_
                  refine L_y rfl (y_add rfl rfl (show _ = (1 : Int) from rfl)) rfl ?_
                  refine L_y rfl (y_move rfl) rfl ?_
                  refine L_nil ?_
                  refine In_round ?_
                  refine C_seq ?_
                  refine C_region ?_
                  refine L_y rfl (y_lss rfl rfl) rfl ?_
                  refine L_nil ?_
                  refine C_seq ?_
                  refine C_cond_t rfl ?_
                  refine C_skip ?_
                  refine C_seq ?_
                  refine C_block ?_
                  refine C_seq ?_
                  refine C_region ?_
                  refine L_y rfl (y_move rfl) rfl ?_
                  refine L_y rfl (y_assign rfl) rfl ?_
                  refine L_nil ?_
                  refine C_seq ?_
                  refine C_region ?_
                  refine L_y rfl (y_move rfl) rfl ?_
                  refine L_y rfl (y_indexA rfl rfl Try.underlying62 sz_4 (by omega) (by omega) (show _ = 1 from rfl)) rfl ?_
                  refine L_y rfl (y_load rfl ag_4 (sees 2 0 rfl) rfl) rfl ?_
                  refine L_nil ?_
                  refine C_cond_f rfl ?_
                  refine C_region ?_
                  refine L_y rfl (y_move rfl) rfl ?_
                  refine L_y rfl (y_move rfl) rfl ?_
                  refine L_y rfl (y_nilCheck rfl) rfl ?_
                  refine L_y rfl (y_fieldAddr rfl fl_110_0) rfl ?_
                  refine L_y rfl (y_indexA rfl rfl Try.underlying108 sz_107 (by omega) (by omega) (show _ = 2 from rfl)) rfl ?_
                  refine L_y rfl (y_fieldAddr rfl fl_107_1) rfl ?_
                  refine L_y rfl (y_load rfl ag_105 (sees 1 0 rfl) rfl) rfl ?_
                  refine L_y rfl (y_move rfl) rfl ?_
                  refine L_op rfl (op_mapUpdate 1 2 rfl rfl rfl Try.underlying105 Try.underlying3 rfl rfl ?_)
                  refine L_nil ?_
                  refine C_region ?_
                  refine L_y rfl (y_add rfl rfl (show _ = (2 : Int) from rfl)) rfl ?_
                  refine L_y rfl (y_move rfl) rfl ?_
                  refine L_nil ?_
                  refine In_round ?_
                  refine C_seq ?_
                  refine C_region ?_
                  refine L_y rfl (y_lss rfl rfl) rfl ?_
                  refine L_nil ?_
                  refine C_seq ?_
                  refine C_cond_f rfl ?_
                  refine C_exit ?_
                  refine C_seq ?_
                  refine C_region ?_
                  refine L_y rfl (y_assign rfl) rfl ?_
                  refine L_nil ?_
                  refine C_ret ?_
                  refine B_ret (rv_tmp rfl rv_nil) ((hsub (.cons_cons _ (.cons_cons _ (.cons _ (.cons _ (.refl _)))))).trans (hsub_pick [1, 0] rfl)) ?_
                  have e0 : putD A ask n s false = true := by simp_all [putD, pd]
                  have e1 : putD A ask n s true = false := by simp_all [putD, pd, pA]
                  have ea : putA A ask n s = ((A.write false n s).write true n s) := by simp_all [putA, pA]
                  have em : putm m A ask n s = m.mark n true false := by simp [putm, hn, e0, e1]
                  exact ⟨ret_int (by simp [putE, hn, e0, e1]), D10, h10.to (by simp [putDa, hn, ea]), by rw [em]; rfl⟩
          · skip
            refine C_skip ?_
            refine C_region ?_
            refine L_y rfl (y_add rfl rfl (show _ = (2 : Int) from rfl)) rfl ?_
            refine L_y rfl (y_move rfl) rfl ?_
            refine L_nil ?_
            refine In_round ?_
            refine C_seq ?_
            refine C_region ?_
            refine L_y rfl (y_lss rfl rfl) rfl ?_
            refine L_nil ?_
            refine C_seq ?_
            refine C_cond_f rfl ?_
            refine C_exit ?_
            refine C_seq ?_
            refine C_seq ?_
            refine C_region ?_
            refine L_y rfl (y_indexA rfl rfl Try.underlying62 sz_4 (by omega) (by omega) (show _ = 0 from rfl)) rfl ?_
            refine L_y rfl (y_load rfl ag_4 (sees 2 0 rfl) rfl) rfl ?_
            refine L_y rfl (y_not rfl) rfl ?_
            refine L_y rfl (y_move rfl) rfl ?_
            refine L_skip rfl rfl ?_
            refine L_skip rfl rfl ?_
            refine L_skip rfl rfl ?_
            refine L_y rfl (y_pick_f rfl rfl) rfl ?_
            refine L_nil ?_
            refine C_cond_f rfl ?_
            refine C_skip ?_
            refine C_seq ?_
            refine C_seq ?_
            refine C_region ?_
            refine L_y rfl (y_move rfl) rfl ?_
            refine L_nil ?_
            refine C_block ?_
            refine C_loopIn (In_round ?_)
            refine C_seq ?_
            refine C_region ?_
            refine L_y rfl (y_lss rfl rfl) rfl ?_
            refine L_nil ?_
            refine C_seq ?_
            refine C_cond_t rfl ?_
            refine C_skip ?_
            refine C_seq ?_
            refine C_block ?_
            refine C_seq ?_
            refine C_region ?_
            refine L_y rfl (y_move rfl) rfl ?_
            refine L_y rfl (y_assign rfl) rfl ?_
            refine L_nil ?_
            refine C_seq ?_
            refine C_region ?_
            refine L_y rfl (y_move rfl) rfl ?_
            refine L_y rfl (y_indexA rfl rfl Try.underlying62 sz_4 (by omega) (by omega) (show _ = 0 from rfl)) rfl ?_
            refine L_y rfl (y_load rfl ag_4 (sees 2 0 rfl) rfl) rfl ?_
            refine L_nil ?_
            refine C_cond_t rfl ?_
            refine C_region ?_
            refine L_y rfl (y_move rfl) rfl ?_
            refine L_y rfl (y_move rfl) rfl ?_
            refine L_y rfl (y_nilCheck rfl) rfl ?_
            refine L_y rfl (y_fieldAddr rfl fl_110_0) rfl ?_
            refine L_y rfl (y_indexA rfl rfl Try.underlying108 sz_107 (by omega) (by omega) (show _ = 0 from rfl)) rfl ?_
            refine L_y rfl (y_fieldAddr rfl fl_107_1) rfl ?_
            refine L_y rfl (y_load rfl ag_105 (sees 1 0 rfl) rfl) rfl ?_
            refine L_y rfl (y_move rfl) rfl ?_
            refine L_op rfl (op_delete 1 1 rfl rfl rfl Try.underlying105 Try.underlying3 rfl rfl ?_)
            refine L_nil ?_
            refine C_region ?_
            refine L_y rfl (y_add rfl rfl (show _ = (1 : Int) from rfl)) rfl ?_
            refine L_y rfl (y_move rfl) rfl ?_
            refine L_nil ?_
            refine In_round ?_
            refine C_seq ?_
            refine C_region ?_
            refine L_y rfl (y_lss rfl rfl) rfl ?_
            refine L_nil ?_
            refine C_seq ?_
            refine C_cond_t rfl ?_
            refine C_skip ?_
            refine C_seq ?_
            refine C_block ?_
            refine C_seq ?_
            refine C_region ?_
            refine L_y rfl (y_move rfl) rfl ?_
            refine L_y rfl (y_assign rfl) rfl ?_
            refine L_nil ?_
            refine C_seq ?_
            refine C_region ?_
            refine L_y rfl (y_move rfl) rfl ?_
            refine L_y rfl (y_indexA rfl rfl Try.underlying62 sz_4 (by omega) (by omega) (show _ = 1 from rfl)) rfl ?_
            refine L_y rfl (y_load rfl ag_4 (sees 2 0 rfl) rfl) rfl ?_
            refine L_nil ?_
            refine C_cond_f rfl ?_
            refine C_region ?_
            refine L_y rfl (y_move rfl) rfl ?_
            refine L_y rfl (y_move rfl) rfl ?_
            refine L_y rfl (y_nilCheck rfl) rfl ?_
            refine L_y rfl (y_fieldAddr rfl fl_110_0) rfl ?_
            refine L_y rfl (y_indexA rfl rfl Try.underlying108 sz_107 (by omega) (by omega) (show _ = 2 from rfl)) rfl ?_
            refine L_y rfl (y_fieldAddr rfl fl_107_1) rfl ?_
            refine L_y rfl (y_load rfl ag_105 (sees 1 0 rfl) rfl) rfl ?_
            refine L_y rfl (y_move rfl) rfl ?_
            refine L_op rfl (op_mapUpdate 1 2 rfl rfl rfl Try.underlying105 Try.underlying3 rfl rfl ?_)
            refine L_nil ?_
            refine C_region ?_
            refine L_y rfl (y_add rfl rfl (show _ = (2 : Int) from rfl)) rfl ?_
            refine L_y rfl (y_move rfl) rfl ?_
            refine L_nil ?_
            refine In_round ?_
            refine C_seq ?_
            refine C_region ?_
            refine L_y rfl (y_lss rfl rfl) rfl ?_
            refine L_nil ?_
            refine C_seq ?_
            refine C_cond_f rfl ?_
            refine C_exit ?_
            refine C_seq ?_
            refine C_region ?_
            refine L_y rfl (y_assign rfl) rfl ?_
            refine L_nil ?_
            refine C_ret ?_
            refine B_ret (rv_tmp rfl rv_nil) ((hsub (.cons_cons _ (.cons_cons _ (.cons _ (.cons _ (.refl _)))))).trans (hsub_pick [1, 0] rfl)) ?_
            have e0 : putD A ask n s false = true := by simp_all [putD, pd]
            have e1 : putD A ask n s true = false := by simp_all [putD, pd, pA]
            have ea : putA A ask n s = (A.write false n s) := by simp_all [putA, pA]
            have em : putm m A ask n s = m.mark n true false := by simp [putm, hn, e0, e1]
            exact ⟨ret_int (by simp [putE, hn, e0, e1]), D8, h8.to (by simp [putDa, hn, ea]), by rw [em]; rfl⟩
        · skip
          refine H_y 14 rfl (by kernel_rfl) (by kernel_rfl) (by kernel_rfl) (hsub (.cons _ (.cons _ (.cons _ (.cons _ (.refl _)))))) rfl (y_pick_f rfl rfl) rfl ?_
          refine H_y 15 rfl (by kernel_rfl) (by kernel_rfl) (by kernel_rfl) (hsub (.cons _ (.cons _ (.cons _ (.cons _ (.refl _)))))) rfl (y_indexA rfl rfl Try.underlying62 sz_4 (by omega) (by omega) (show _ = 0 from rfl)) rfl ?_
          refine H_one 16 rfl (by kernel_rfl) rfl (op_store1 2 0 rfl rfl rfl sz_4 rfl (Nat.le_of_ble_eq_true rfl) ?_)
          refine ⟨hsub (.cons _ (.cons _ (.cons _ (.cons _ (.refl _))))), ?_⟩
          refine H_done (by kernel_rfl) ?_
          refine C_region ?_
          refine L_y rfl (y_add rfl rfl (show _ = (1 : Int) from rfl)) rfl ?_
          refine L_y rfl (y_move rfl) rfl ?_
          refine L_nil ?_
          refine In_round ?_
          refine C_seq ?_
          refine C_region ?_
          refine L_y rfl (y_lss rfl rfl) rfl ?_
          refine L_nil ?_
          refine C_seq ?_
          refine C_cond_t rfl ?_
          refine C_skip ?_
          refine C_seq ?_
          refine C_block ?_
          refine C_seq ?_
          refine C_region ?_
          refine L_y rfl (y_move rfl) rfl ?_
          refine L_y rfl (y_assign rfl) rfl ?_
          refine L_nil ?_
          refine C_seq ?_
          refine C_region ?_
          refine L_y rfl (y_move rfl) rfl ?_
          refine L_y rfl (y_move rfl) rfl ?_
          refine L_y rfl (y_nilCheck rfl) rfl ?_
          refine L_y rfl (y_fieldAddr rfl fl_110_0) rfl ?_
          refine L_y rfl (y_indexA rfl rfl Try.underlying108 sz_107 (by omega) (by omega) (show _ = 2 from rfl)) rfl ?_
          refine L_y rfl (y_assign rfl) rfl ?_
          refine L_nil ?_
          refine C_seq ?_
          refine C_region ?_
          refine L_y rfl (y_move rfl) rfl ?_
          refine L_y rfl (y_nilCheck rfl) rfl ?_
          refine L_y rfl (y_loadA rfl ag_107 sz_107 (sees 1 0 rfl) (Nat.le_of_ble_eq_true rfl) rfl) rfl ?_
          refine L_op rfl (op_call rfl rfl (fun a w => Try.call53 a w) rfl ?_)
          refine ((there_d h8 true).sub (hsub_pick [0] rfl)).mono ?_
          rintro _ _ ⟨rfl, rfl⟩
          refine ⟨_, rfl, ?_⟩
          refine L_nil ?_
          refine C_cond rfl (fun hc2 => ?_) (fun hc2 => ?_)
          · skip
            refine C_regionH H (by kernel_rfl) ?_
            refine H_y 0 rfl (by kernel_rfl) (by kernel_rfl) (by kernel_rfl) (hsub (.cons _ (.cons _ (.cons _ (.cons _ (.refl _)))))) rfl (y_move rfl) rfl ?_
            refine H_y 1 rfl (by kernel_rfl) (by kernel_rfl) (by kernel_rfl) (hsub (.cons _ (.cons _ (.cons _ (.cons _ (.refl _)))))) rfl (y_move rfl) rfl ?_
            refine H_y 2 rfl (by kernel_rfl) (by kernel_rfl) (by kernel_rfl) (hsub (.cons _ (.cons _ (.cons _ (.cons _ (.refl _)))))) rfl (y_move rfl) rfl ?_
            refine H_one 3 rfl (by kernel_rfl) rfl (op_call (f := fa) (first := []) (cap := cap) rfl rfl hask.1 rfl ?_)
            refine FnS.mono (FnS.sub (hsub_pick [1, 0] rfl) (hask.2 true _ _ _ h8 (hsub (.cons _ (.cons _ (.refl _)))))) ?_
            rintro _ _ ⟨rfl, rfl⟩
            refine ⟨_, rfl, ?_⟩
            refine ⟨hsub (.cons _ (.cons _ (.cons _ (.cons _ (.refl _))))), ?_⟩
            refine H_y 4 rfl (by kernel_rfl) (by kernel_rfl) (by kernel_rfl) (hsub (.cons _ (.cons _ (.cons _ (.cons _ (.refl _)))))) rfl (y_not rfl) rfl ?_
            refine H_y 5 rfl (by kernel_rfl) (by kernel_rfl) (by kernel_rfl) (hsub (.cons _ (.cons _ (.cons _ (.cons _ (.refl _)))))) rfl (y_move rfl) rfl ?_
            refine H_case 34 rfl (fun hg9_6 => ?_) (fun hg9_6 => ?_)
            · skip
              refine H_skip 6 rfl (by kernel_rfl) (by kernel_rfl) (by kernel_rfl) (hsub (.cons _ (.cons _ (.cons _ (.cons _ (.refl _)))))) rfl rfl ?_
              refine H_skip 7 rfl (by kernel_rfl) (by kernel_rfl) (by kernel_rfl) (hsub (.cons _ (.cons _ (.cons _ (.cons _ (.refl _)))))) rfl rfl ?_
              refine H_skip 8 rfl (by kernel_rfl) (by kernel_rfl) (by kernel_rfl) (hsub (.cons _ (.cons _ (.cons _ (.cons _ (.refl _)))))) rfl rfl ?_
              refine H_skip 9 rfl (by kernel_rfl) (by kernel_rfl) (by kernel_rfl) (hsub (.cons _ (.cons _ (.cons _ (.cons _ (.refl _)))))) rfl rfl ?_
              refine H_skip 10 rfl (by kernel_rfl) (by kernel_rfl) (by kernel_rfl) (hsub (.cons _ (.cons _ (.cons _ (.cons _ (.refl _)))))) rfl rfl ?_
              refine H_skip 11 rfl (by kernel_rfl) (by kernel_rfl) (by kernel_rfl) (hsub (.cons _ (.cons _ (.cons _ (.cons _ (.refl _)))))) rfl rfl ?_
              refine H_skip 12 rfl (by kernel_rfl) (by kernel_rfl) (by kernel_rfl) (hsub (.cons _ (.cons _ (.cons _ (.cons _ (.refl _)))))) rfl rfl ?_
              refine H_skip 13 rfl (by kernel_rfl) (by kernel_rfl) (by kernel_rfl) (hsub (.cons _ (.cons _ (.cons _ (.cons _ (.refl _)))))) rfl rfl ?_
              refine H_y 14 rfl (by kernel_rfl) (by kernel_rfl) (by kernel_rfl) (hsub (.cons _ (.cons _ (.cons _ (.cons _ (.refl _)))))) rfl (y_pick_t rfl rfl) rfl ?_
              refine H_y 15 rfl (by kernel_rfl) (by kernel_rfl) (by kernel_rfl) (hsub (.cons _ (.cons _ (.cons _ (.cons _ (.refl _)))))) rfl (y_indexA rfl rfl Try.underlying62 sz_4 (by omega) (by omega) (show _ = 1 from rfl)) rfl ?_
              refine H_one 16 rfl (by kernel_rfl) rfl (op_store1 2 0 rfl rfl rfl sz_4 rfl (Nat.le_of_ble_eq_true rfl) ?_)
              refine ⟨hsub (.cons _ (.cons _ (.cons _ (.cons _ (.refl _))))), ?_⟩
              refine H_done (by kernel_rfl) ?_
              refine C_region ?_
              refine L_y rfl (y_add rfl rfl (show _ = (2 : Int) from rfl)) rfl ?_
              refine L_y rfl (y_move rfl) rfl ?_
              refine L_nil ?_
              refine In_round ?_
              refine C_seq ?_
              refine C_region ?_
              refine L_y rfl (y_lss rfl rfl) rfl ?_
              refine L_nil ?_
              refine C_seq ?_
              refine C_cond_f rfl ?_
              refine C_exit ?_
              refine C_seq ?_
              refine C_seq ?_
              refine C_region ?_
              refine L_y rfl (y_indexA rfl rfl Try.underlying62 sz_4 (by omega) (by omega) (show _ = 0 from rfl)) rfl ?_
              refine L_y rfl (y_load rfl ag_4 (sees 2 0 rfl) rfl) rfl ?_
              refine L_y rfl (y_not rfl) rfl ?_
              refine L_y rfl (y_move rfl) rfl ?_
              refine L_y rfl (y_indexA rfl rfl Try.underlying62 sz_4 (by omega) (by omega) (show _ = 1 from rfl)) rfl ?_
              refine L_y rfl (y_load rfl ag_4 (sees 2 0 rfl) rfl) rfl ?_
              refine L_y rfl (y_not rfl) rfl ?_
              refine L_y rfl (y_pick_t rfl rfl) rfl ?_
              refine L_nil ?_
              refine C_cond_f rfl ?_
              refine C_skip ?_
              refine C_seq ?_
              refine C_seq ?_
              refine C_region ?_
              refine L_y rfl (y_move rfl) rfl ?_
              refine L_nil ?_
              refine C_block ?_
              refine C_loopIn (In_round ?_)
              refine C_seq ?_
              refine C_region ?_
              refine L_y rfl (y_lss rfl rfl) rfl ?_
              refine L_nil ?_
              refine C_seq ?_
              refine C_cond_t rfl ?_
              refine C_skip ?_
              refine C_seq ?_
              refine C_block ?_
              refine C_seq ?_
              refine C_region ?_
              refine L_y rfl (y_move rfl) rfl ?_
              refine L_y rfl (y_assign rfl) rfl ?_
              refine L_nil ?_
              refine C_seq ?_
              refine C_region ?_
              refine L_y rfl (y_move rfl) rfl ?_
              refine L_y rfl (y_indexA rfl rfl Try.underlying62 sz_4 (by omega) (by omega) (show _ = 0 from rfl)) rfl ?_
              refine L_y rfl (y_load rfl ag_4 (sees 2 0 rfl) rfl) rfl ?_
              refine L_nil ?_
              refine C_cond_f rfl ?_
              refine C_region ?_
              refine L_y rfl (y_move rfl) rfl ?_
              refine L_y rfl (y_move rfl) rfl ?_
              refine L_y rfl (y_nilCheck rfl) rfl ?_
              refine L_y rfl (y_fieldAddr rfl fl_110_0) rfl ?_
              refine L_y rfl (y_indexA rfl rfl Try.underlying108 sz_107 (by omega) (by omega) (show _ = 0 from rfl)) rfl ?_
              refine L_y rfl (y_fieldAddr rfl fl_107_1) rfl ?_
              refine L_y rfl (y_load rfl ag_105 (sees 0 0 rfl) rfl) rfl ?_
              refine L_y rfl (y_move rfl) rfl ?_
              refine L_op rfl (op_mapUpdate 0 1 rfl rfl rfl Try.underlying105 Try.underlying3 rfl rfl ?_)
              refine L_nil ?_
              refine C_region ?_
              refine L_y rfl (y_add rfl rfl (show _ = (1 : Int) from rfl)) rfl ?_
              refine L_y rfl (y_move rfl) rfl ?_
              refine L_nil ?_
              refine In_round ?_
              refine C_seq ?_
              refine C_region ?_
              refine L_y rfl (y_lss rfl rfl) rfl ?_
              refine L_nil ?_
              refine C_seq ?_
              refine C_cond_t rfl ?_
              refine C_skip ?_
              refine C_seq ?_
              refine C_block ?_
              refine C_seq ?_
              refine C_region ?_
              refine L_y rfl (y_move rfl) rfl ?_
              refine L_y rfl (y_assign rfl) rfl ?_
              refine L_nil ?_
              refine C_seq ?_
              refine C_region ?_
              refine L_y rfl (y_move rfl) rfl ?_
              refine L_y rfl (y_indexA rfl rfl Try.underlying62 sz_4 (by omega) (by omega) (show _ = 1 from rfl)) rfl ?_
              refine L_y rfl (y_load rfl ag_4 (sees 2 0 rfl) rfl) rfl ?_
              refine L_nil ?_
              refine C_cond_t rfl ?_
              refine C_region ?_
              refine L_y rfl (y_move rfl) rfl ?_
              refine L_y rfl (y_move rfl) rfl ?_
              refine L_y rfl (y_nilCheck rfl) rfl ?_
              refine L_y rfl (y_fieldAddr rfl fl_110_0) rfl ?_
              refine L_y rfl (y_indexA rfl rfl Try.underlying108 sz_107 (by omega) (by omega) (show _ = 2 from rfl)) rfl ?_
              refine L_y rfl (y_fieldAddr rfl fl_107_1) rfl ?_
              refine L_y rfl (y_load rfl ag_105 (sees 0 0 rfl) rfl) rfl ?_
              refine L_y rfl (y_move rfl) rfl ?_
              refine L_op rfl (op_delete 0 2 rfl rfl rfl Try.underlying105 Try.underlying3 rfl rfl ?_)
              refine L_nil ?_
              refine C_region ?_
              refine L_y rfl (y_add rfl rfl (show _ = (2 : Int) from rfl)) rfl ?_
              refine L_y rfl (y_move rfl) rfl ?_
              refine L_nil ?_
              refine In_round ?_
              refine C_seq ?_
              refine C_region ?_
              refine L_y rfl (y_lss rfl rfl) rfl ?_
              refine L_nil ?_
              refine C_seq ?_
              refine C_cond_f rfl ?_
              refine C_exit ?_
              refine C_seq ?_
              refine C_region ?_
              refine L_y rfl (y_assign rfl) rfl ?_
              refine L_nil ?_
              refine C_ret ?_
              refine B_ret (rv_tmp rfl rv_nil) ((hsub (.cons_cons _ (.cons_cons _ (.cons _ (.cons _ (.refl _)))))).trans (hsub_pick [0, 0] rfl)) ?_
              have e0 : putD A ask n s false = false := by simp_all [putD, pd]
              have e1 : putD A ask n s true = true := by simp_all [putD, pd, pA]
              have ea : putA A ask n s = (A.write false n s) := by simp_all [putA, pA]
              have em : putm m A ask n s = m.mark n false true := by simp [putm, hn, e0, e1]
              exact ⟨ret_int (by simp [putE, hn, e0, e1]), D8, h8.to (by simp [putDa, hn, ea]), by rw [em]; rfl⟩
            · skip
              refine H_y 6 rfl (by kernel_rfl) (by kernel_rfl) (by kernel_rfl) (hsub (.cons _ (.cons _ (.cons _ (.cons _ (.refl _)))))) rfl (y_move rfl) rfl ?_
              refine H_y 7 rfl (by kernel_rfl) (by kernel_rfl) (by kernel_rfl) (hsub (.cons _ (.cons _ (.cons _ (.cons _ (.refl _)))))) rfl (y_nilCheck rfl) rfl ?_
              refine H_y 8 rfl (by kernel_rfl) (by kernel_rfl) (by kernel_rfl) (hsub (.cons _ (.cons _ (.cons _ (.cons _ (.refl _)))))) rfl (y_fieldAddr rfl fl_107_0) rfl ?_
              refine H_y 10 rfl (by kernel_rfl) (by kernel_rfl) (by kernel_rfl) (hsub (.cons _ (.cons _ (.cons _ (.cons _ (.refl _)))))) rfl (y_move rfl) rfl ?_
              refine H_two 9 11 rfl rfl (by kernel_rfl) rfl rfl ?_ ?_
              · refine op_y (y_load rfl ag_24 (sees 0 0 rfl) rfl) rfl ?_
                refine ⟨hsub (.cons _ (.cons _ (.cons _ (.cons _ (.refl _))))), ?_⟩
                refine H_one 11 rfl (by kernel_rfl) rfl (op_y (y_loadA rfl ag_32 sz_32 (sees 3 0 rfl) (by rw [bs_length, hs]; decide) (bs_whole0 _ hs)) rfl ?_)
                refine ⟨hsub (.cons _ (.cons _ (.cons _ (.cons _ (.refl _))))), ?_⟩
                refine H_one 12 rfl (by kernel_rfl) rfl (op_call rfl rfl (fun a w => Try.call62 a w) rfl ?_)
                refine ((write_d h8 true n s hs (by have := hQ true; have q2 := Da.write_many A false n s true; omega)).sub (hsub_pick [1] rfl)).mono ?_
                rintro _ _ ⟨rfl, D11, h11, rfl⟩
                refine ⟨_, rfl, ?_⟩
                refine ⟨hsub (.cons _ (.cons _ (.cons _ (.cons _ (.refl _))))), ?_⟩
                refine H_y 13 rfl (by kernel_rfl) (by kernel_rfl) (by kernel_rfl) (hsub (.cons _ (.cons _ (.cons _ (.cons _ (.refl _)))))) rfl (y_eqi rfl rfl) rfl ?_
                refine H_case 42 rfl (fun hg9_14 => ?_) (fun hg9_14 => ?_)
                · skip
                  refine H_y 14 rfl (by kernel_rfl) (by kernel_rfl) (by kernel_rfl) (hsub (.cons _ (.cons _ (.cons _ (.cons _ (.refl _)))))) rfl (y_pick_f rfl rfl) rfl ?_
                  refine H_y 15 rfl (by kernel_rfl) (by kernel_rfl) (by kernel_rfl) (hsub (.cons _ (.cons _ (.cons _ (.cons _ (.refl _)))))) rfl (y_indexA rfl rfl Try.underlying62 sz_4 (by omega) (by omega) (show _ = 1 from rfl)) rfl ?_
                  refine H_one 16 rfl (by kernel_rfl) rfl (op_store1 2 0 rfl rfl rfl sz_4 rfl (Nat.le_of_ble_eq_true rfl) ?_)
                  refine ⟨hsub (.cons _ (.cons _ (.cons _ (.cons _ (.refl _))))), ?_⟩
                  refine H_done (by kernel_rfl) ?_
                  refine C_region ?_
                  refine L_y rfl (y_add rfl rfl (show _ = (2 : Int) from rfl)) rfl ?_
                  refine L_y rfl (y_move rfl) rfl ?_
                  refine L_nil ?_
                  refine In_round ?_
                  refine C_seq ?_
                  refine C_region ?_
                  refine L_y rfl (y_lss rfl rfl) rfl ?_
                  refine L_nil ?_
                  refine C_seq ?_
                  refine C_cond_f rfl ?_
                  refine C_exit ?_
                  refine C_seq ?_
                  refine C_seq ?_
                  refine C_region ?_
                  refine L_y rfl (y_indexA rfl rfl Try.underlying62 sz_4 (by omega) (by omega) (show _ = 0 from rfl)) rfl ?_
                  refine L_y rfl (y_load rfl ag_4 (sees 2 0 rfl) rfl) rfl ?_
                  refine L_y rfl (y_not rfl) rfl ?_
                  refine L_y rfl (y_move rfl) rfl ?_
                  refine L_y rfl (y_indexA rfl rfl Try.underlying62 sz_4 (by omega) (by omega) (show _ = 1 from rfl)) rfl ?_
                  refine L_y rfl (y_load rfl ag_4 (sees 2 0 rfl) rfl) rfl ?_
                  refine L_y rfl (y_not rfl) rfl ?_
                  refine L_y rfl (y_pick_t rfl rfl) rfl ?_
                  refine L_nil ?_
                  refine C_cond_f rfl ?_
                  refine C_skip ?_
                  refine C_seq ?_
                  refine C_seq ?_
                  refine C_region ?_
                  refine L_y rfl (y_move rfl) rfl ?_
                  refine L_nil ?_
                  refine C_block ?_
                  refine C_loopIn (In_round ?_)
                  refine C_seq ?_
                  refine C_region ?_
                  refine L_y rfl (y_lss rfl rfl) rfl ?_
                  refine L_nil ?_
                  refine C_seq ?_
                  refine C_cond_t rfl ?_
                  refine C_skip ?_
                  refine C_seq ?_
                  refine C_block ?_
                  refine C_seq ?_
                  refine C_region ?_
                  refine L_y rfl (y_move rfl) rfl ?_
                  refine L_y rfl (y_assign rfl) rfl ?_
                  refine L_nil ?_
                  refine C_seq ?_
                  refine C_region ?_
                  refine L_y rfl (y_move rfl) rfl ?_
                  refine L_y rfl (y_indexA rfl rfl Try.underlying62 sz_4 (by omega) (by omega) (show _ = 0 from rfl)) rfl ?_
                  refine L_y rfl (y_load rfl ag_4 (sees 2 0 rfl) rfl) rfl ?_
                  refine L_nil ?_
                  refine C_cond_f rfl ?_
                  refine C_region ?_
                  refine L_y rfl (y_move rfl) rfl ?_
                  refine L_y rfl (y_move rfl) rfl ?_
                  refine L_y rfl (y_nilCheck rfl) rfl ?_
                  refine L_y rfl (y_fieldAddr rfl fl_110_0) rfl ?_
                  refine L_y rfl (y_indexA rfl rfl Try.underlying108 sz_107 (by omega) (by omega) (show _ = 0 from rfl)) rfl ?_
                  refine L_y rfl (y_fieldAddr rfl fl_107_1) rfl ?_
                  refine L_y rfl (y_load rfl ag_105 (sees 1 0 rfl) rfl) rfl ?_
                  refine L_y rfl (y_move rfl) rfl ?_
                  refine L_op rfl (op_mapUpdate 1 1 rfl rfl rfl Try.underlying105 Try.underlying3 rfl rfl ?_)
                  refine L_nil ?_
                  refine C_region ?_
                  refine L_y rfl (y_add rfl rfl (show _ = (1 : Int) from rfl)) rfl ?_
                  refine L_y rfl (y_move rfl) rfl ?_
                  refine L_nil ?_
                  refine In_round ?_
                  refine C_seq ?_
                  refine C_region ?_
                  refine L_y rfl (y_lss rfl rfl) rfl ?_
                  refine L_nil ?_
                  refine C_seq ?_
                  refine C_cond_t rfl ?_
                  refine C_skip ?_
                  refine C_seq ?_
                  refine C_block ?_
                  refine C_seq ?_
                  refine C_region ?_
                  refine L_y rfl (y_move rfl) rfl ?_
                  refine L_y rfl (y_assign rfl) rfl ?_
                  refine L_nil ?_
                  refine C_seq ?_
                  refine C_region ?_
                  refine L_y rfl (y_move rfl) rfl ?_
                  refine L_y rfl (y_indexA rfl rfl Try.underlying62 sz_4 (by omega) (by omega) (show _ = 1 from rfl)) rfl ?_
                  refine L_y rfl (y_load rfl ag_4 (sees 2 0 rfl) rfl) rfl ?_
                  refine L_nil ?_
                  refine C_cond_t rfl ?_
                  refine C_region ?_
                  refine L_y rfl (y_move rfl) rfl ?_
                  refine L_y rfl (y_move rfl) rfl ?_
                  refine L_y rfl (y_nilCheck rfl) rfl ?_
                  refine L_y rfl (y_fieldAddr rfl fl_110_0) rfl ?_
                  refine L_y rfl (y_indexA rfl rfl Try.underlying108 sz_107 (by omega) (by omega) (show _ = 2 from rfl)) rfl ?_
                  refine L_y rfl (y_fieldAddr rfl fl_107_1) rfl ?_
                  refine L_y rfl (y_load rfl ag_105 (sees 1 0 rfl) rfl) rfl ?_
                  refine L_y rfl (y_move rfl) rfl ?_
                  refine L_op rfl (op_delete 1 2 rfl rfl rfl Try.underlying105 Try.underlying3 rfl rfl ?_)
                  refine L_nil ?_
                  refine C_region ?_
                  refine L_y rfl (y_add rfl rfl (show _ = (2 : Int) from rfl)) rfl ?_
                  refine L_y rfl (y_move rfl) rfl ?_
                  refine L_nil ?_
                  refine In_round ?_
                  refine C_seq ?_
                  refine C_region ?_
                  refine L_y rfl (y_lss rfl rfl) rfl ?_
                  refine L_nil ?_
                  refine C_seq ?_
                  refine C_cond_f rfl ?_
                  refine C_exit ?_
                  refine C_seq ?_
                  refine C_region ?_
                  refine L_y rfl (y_assign rfl) rfl ?_
                  refine L_nil ?_
                  refine C_ret ?_
                  refine B_ret (rv_tmp rfl rv_nil) ((hsub (.cons_cons _ (.cons_cons _ (.cons _ (.cons _ (.refl _)))))).trans (hsub_pick [1, 0] rfl)) ?_
                  have e0 : putD A ask n s false = false := by simp_all [putD, pd]
                  have e1 : putD A ask n s true = true := by simp_all [putD, pd, pA]
                  have ea : putA A ask n s = ((A.write false n s).write true n s) := by simp_all [putA, pA]
                  have em : putm m A ask n s = m.mark n false true := by simp [putm, hn, e0, e1]
                  exact ⟨ret_int (by simp [putE, hn, e0, e1]), D11, h11.to (by simp [putDa, hn, ea]), by rw [em]; rfl⟩
                · skip
                  refine H_y 14 rfl (by kernel_rfl) (by kernel_rfl) (by kernel_rfl) (hsub (.cons _ (.cons _ (.cons _ (.cons _ (.refl _)))))) rfl (y_pick_f rfl rfl) rfl ?_
                  refine H_y 15 rfl (by kernel_rfl) (by kernel_rfl) (by kernel_rfl) (hsub (.cons _ (.cons _ (.cons _ (.cons _ (.refl _)))))) rfl (y_indexA rfl rfl Try.underlying62 sz_4 (by omega) (by omega) (show _ = 1 from rfl)) rfl ?_
                  refine H_one 16 rfl (by kernel_rfl) rfl (op_store1 2 0 rfl rfl rfl sz_4 rfl (Nat.le_of_ble_eq_true rfl) ?_)
                  refine ⟨hsub (.cons _ (.cons _ (.cons _ (.cons _ (.refl _))))), ?_⟩
                  refine H_done (by kernel_rfl) ?_
                  refine C_region ?_
                  refine L_y rfl (y_add rfl rfl (show _ = (2 : Int) from rfl)) rfl ?_
                  refine L_y rfl (y_move rfl) rfl ?_
                  refine L_nil ?_
                  refine In_round ?_
                  refine C_seq ?_
                  refine C_region ?_
                  refine L_y rfl (y_lss rfl rfl) rfl ?_
                  refine L_nil ?_
                  refine C_seq ?_
                  refine C_cond_f rfl ?_
                  refine C_exit ?_
                  refine C_seq ?_
                  refine C_seq ?_
                  refine C_region ?_
                  refine L_y rfl (y_indexA rfl rfl Try.underlying62 sz_4 (by omega) (by omega) (show _ = 0 from rfl)) rfl ?_
                  refine L_y rfl (y_load rfl ag_4 (sees 2 0 rfl) rfl) rfl ?_
                  refine L_y rfl (y_not rfl) rfl ?_
                  refine L_y rfl (y_move rfl) rfl ?_
                  refine L_y rfl (y_indexA rfl rfl Try.underlying62 sz_4 (by omega) (by omega) (show _ = 1 from rfl)) rfl ?_
                  refine L_y rfl (y_load rfl ag_4 (sees 2 0 rfl) rfl) rfl ?_
                  refine L_y rfl (y_not rfl) rfl ?_
                  refine L_y rfl (y_pick_t rfl rfl) rfl ?_
                  refine L_nil ?_
                  refine C_cond_t rfl ?_
                  refine C_seq ?_
                  refine C_region ?_
                  refine L_y rfl (y_assign rfl) rfl ?_
                  refine L_nil ?_
                  refine C_ret ?_
                  refine B_ret (rv_tmp rfl rv_nil) ((hsub (.cons_cons _ (.cons_cons _ (.cons _ (.cons _ (.refl _)))))).trans (hsub_pick [1, 0] rfl)) ?_
                  have e0 : putD A ask n s false = false := by simp_all [putD, pd]
                  have e1 : putD A ask n s true = false := by simp_all [putD, pd, pA]
                  have ea : putA A ask n s = ((A.write false n s).write true n s) := by simp_all [putA, pA]
                  have em : putm m A ask n s = m := by simp [putm, hn, e0, e1]
                  exact ⟨ret_int (by simp [putE, hn, e0, e1]), D11, h11.to (by simp [putDa, hn, ea]), by rw [em]; rfl⟩
              · refine op_y (y_loadA rfl ag_32 sz_32 (sees 3 0 rfl) (by rw [bs_length, hs]; decide) (bs_whole0 _ hs)) rfl ?_
                refine ⟨hsub (.cons _ (.cons _ (.cons _ (.cons _ (.refl _))))), ?_⟩
                refine H_one 9 rfl (by kernel_rfl) rfl (op_y (y_load rfl ag_24 (sees 0 0 rfl) rfl) rfl ?_)
                refine ⟨hsub (.cons _ (.cons _ (.cons _ (.cons _ (.refl _))))), ?_⟩
                refine H_one 12 rfl (by kernel_rfl) rfl (op_call rfl rfl (fun a w => Try.call62 a w) rfl ?_)
                refine ((write_d h8 true n s hs (by have := hQ true; have q2 := Da.write_many A false n s true; omega)).sub (hsub_pick [1] rfl)).mono ?_
                rintro _ _ ⟨rfl, D12, h12, rfl⟩
                refine ⟨_, rfl, ?_⟩
                refine ⟨hsub (.cons _ (.cons _ (.cons _ (.cons _ (.refl _))))), ?_⟩
                refine H_y 13 rfl (by kernel_rfl) (by kernel_rfl) (by kernel_rfl) (hsub (.cons _ (.cons _ (.cons _ (.cons _ (.refl _)))))) rfl (y_eqi rfl rfl) rfl ?_
                refine H_case 42 rfl (fun hg9_14 => ?_) (fun hg9_14 => ?_)
                · skip
                  refine H_y 14 rfl (by kernel_rfl) (by kernel_rfl) (by kernel_rfl) (hsub (.cons _ (.cons _ (.cons _ (.cons _ (.refl _)))))) rfl (y_pick_f rfl rfl) rfl ?_
                  refine H_y 15 rfl (by kernel_rfl) (by kernel_rfl) (by kernel_rfl) (hsub (.cons _ (.cons _ (.cons _ (.cons _ (.refl _)))))) rfl (y_indexA rfl rfl Try.underlying62 sz_4 (by omega) (by omega) (show _ = 1 from rfl)) rfl ?_
                  refine H_one 16 rfl (by kernel_rfl) rfl (op_store1 2 0 rfl rfl rfl sz_4 rfl (Nat.le_of_ble_eq_true rfl) ?_)
                  refine ⟨hsub (.cons _ (.cons _ (.cons _ (.cons _ (.refl _))))), ?_⟩
                  refine H_done (by kernel_rfl) ?_
                  refine C_region ?_
                  refine L_y rfl (y_add rfl rfl (show _ = (2 : Int) from rfl)) rfl ?_
                  refine L_y rfl (y_move rfl) rfl ?_
                  refine L_nil ?_
                  refine In_round ?_
                  refine C_seq ?_
                  refine C_region ?_
                  refine L_y rfl (y_lss rfl rfl) rfl ?_
                  refine L_nil ?_
                  refine C_seq ?_
                  refine C_cond_f rfl ?_
                  refine C_exit ?_
                  refine C_seq ?_
                  refine C_seq ?_
                  refine C_region ?_
                  refine L_y rfl (y_indexA rfl rfl Try.underlying62 sz_4 (by omega) (by omega) (show _ = 0 from rfl)) rfl ?_
                  refine L_y rfl (y_load rfl ag_4 (sees 2 0 rfl) rfl) rfl ?_
                  refine L_y rfl (y_not rfl) rfl ?_
                  refine L_y rfl (y_move rfl) rfl ?_
                  refine L_y rfl (y_indexA rfl rfl Try.underlying62 sz_4 (by omega) (by omega) (show _ = 1 from rfl)) rfl ?_
                  refine L_y rfl (y_load rfl ag_4 (sees 2 0 rfl) rfl) rfl ?_
                  refine L_y rfl (y_not rfl) rfl ?_
                  refine L_y rfl (y_pick_t rfl rfl) rfl ?_
                  refine L_nil ?_
                  refine C_cond_f rfl ?_
                  refine C_skip ?_
                  refine C_seq ?_
                  refine C_seq ?_
                  refine C_region ?_
                  refine L_y rfl (y_move rfl) rfl ?_
                  refine L_nil ?_
                  refine C_block ?_
                  refine C_loopIn (In_round ?_)
                  refine C_seq ?_
                  refine C_region ?_
                  refine L_y rfl (y_lss rfl rfl) rfl ?_
                  refine L_nil ?_
                  refine C_seq ?_
                  refine C_cond_t rfl ?_
                  refine C_skip ?_
                  refine C_seq ?_
                  refine C_block ?_
                  refine C_seq ?_
                  refine C_region ?_
                  refine L_y rfl (y_move rfl) rfl ?_
                  refine L_y rfl (y_assign rfl) rfl ?_
                  refine L_nil ?_
                  refine C_seq ?_
                  refine C_region ?_
                  refine L_y rfl (y_move rfl) rfl ?_
                  refine L_y rfl (y_indexA rfl rfl Try.underlying62 sz_4 (by omega) (by omega) (show _ = 0 from rfl)) rfl ?_
                  refine L_y rfl (y_load rfl ag_4 (sees 2 0 rfl) rfl) rfl ?_
                  refine L_nil ?_
                  refine C_cond_f rfl ?_
                  refine C_region ?_
                  refine L_y rfl (y_move rfl) rfl ?_
                  refine L_y rfl (y_move rfl) rfl ?_
                  refine L_y rfl (y_nilCheck rfl) rfl ?_
                  refine L_y rfl (y_fieldAddr rfl fl_110_0) rfl ?_
                  refine L_y rfl (y_indexA rfl rfl Try.underlying108 sz_107 (by omega) (by omega) (show _ = 0 from rfl)) rfl ?_
                  refine L_y rfl (y_fieldAddr rfl fl_107_1) rfl ?_
                  refine L_y rfl (y_load rfl ag_105 (sees 1 0 rfl) rfl) rfl ?_
                  refine L_y rfl (y_move rfl) rfl ?_
                  refine L_op rfl (op_mapUpdate 1 1 rfl rfl rfl Try.underlying105 Try.underlying3 rfl rfl ?_)
                  refine L_nil ?_
                  refine C_region ?_
                  refine L_y rfl (y_add rfl rfl (show _ = (1 : Int) from rfl)) rfl ?_
                  refine L_y rfl (y_move rfl) rfl ?_
                  refine L_nil ?_
                  refine In_round ?_
                  refine C_seq ?_
                  refine C_region ?_
                  refine L_y rfl (y_lss rfl rfl) rfl ?_
                  refine L_nil ?_
                  refine C_seq ?_
                  refine C_cond_t rfl ?_
                  refine C_skip ?_
                  refine C_seq ?_
                  refine C_block ?_
                  refine C_seq ?_
                  refine C_region ?_
                  refine L_y rfl (y_move rfl) rfl ?_
                  refine L_y rfl (y_assign rfl) rfl ?_
                  refine L_nil ?_
                  refine C_seq ?_
                  refine C_region ?_
                  refine L_y rfl (y_move rfl) rfl ?_
                  refine L_y rfl (y_indexA rfl rfl Try.underlying62 sz_4 (by omega) (by omega) (show _ = 1 from rfl)) rfl ?_
                  refine L_y rfl (y_load rfl ag_4 (sees 2 0 rfl) rfl) rfl ?_
                  refine L_nil ?_
                  refine C_cond_t rfl ?_
                  refine C_region ?_
                  refine L_y rfl (y_move rfl) rfl ?_
                  refine L_y rfl (y_move rfl) rfl ?_
                  refine L_y rfl (y_nilCheck rfl) rfl ?_
                  refine L_y rfl (y_fieldAddr rfl fl_110_0) rfl ?_
                  refine L_y rfl (y_indexA rfl rfl Try.underlying108 sz_107 (by omega) (by omega) (show _ = 2 from rfl)) rfl ?_
                  refine L_y rfl (y_fieldAddr rfl fl_107_1) rfl ?_
                  refine L_y rfl (y_load rfl ag_105 (sees 1 0 rfl) rfl) rfl ?_
                  refine L_y rfl (y_move rfl) rfl ?_
                  refine L_op rfl (op_delete 1 2 rfl rfl rfl Try.underlying105 Try.underlying3 rfl rfl ?_)
                  refine L_nil ?_
                  refine C_region ?_
                  refine L_y rfl (y_add rfl rfl (show _ = (2 : Int) from rfl)) rfl ?_
                  refine L_y rfl (y_move rfl) rfl ?_
                  refine L_nil ?_
                  refine In_round ?_
                  refine C_seq ?_
                  refine C_region ?_
                  refine L_y rfl (y_lss rfl rfl) rfl ?_
                  refine L_nil ?_
                  refine C_seq ?_
                  refine C_cond_f rfl ?_
                  refine C_exit ?_
                  refine C_seq ?_
                  refine C_region ?_
                  refine L_y rfl (y_assign rfl) rfl ?_
                  refine L_nil ?_
                  refine C_ret ?_
                  refine B_ret (rv_tmp rfl rv_nil) ((hsub (.cons_cons _ (.cons_cons _ (.cons _ (.cons _ (.refl _)))))).trans (hsub_pick [1, 0] rfl)) ?_
                  have e0 : putD A ask n s false = false := by simp_all [putD, pd]
                  have e1 : putD A ask n s true = true := by simp_all [putD, pd, pA]
                  have ea : putA A ask n s = ((A.write false n s).write true n s) := by simp_all [putA, pA]
                  have em : putm m A ask n s = m.mark n false true := by simp [putm, hn, e0, e1]
                  exact ⟨ret_int (by simp [putE, hn, e0, e1]), D12, h12.to (by simp [putDa, hn, ea]), by rw [em]; rfl⟩
                · skip
                  refine H_y 14 rfl (by kernel_rfl) (by kernel_rfl) (by kernel_rfl) (hsub (.cons _ (.cons _ (.cons _ (.cons _ (.refl _)))))) rfl (y_pick_f rfl rfl) rfl ?_
                  refine H_y 15 rfl (by kernel_rfl) (by kernel_rfl) (by kernel_rfl) (hsub (.cons _ (.cons _ (.cons _ (.cons _ (.refl _)))))) rfl (y_indexA rfl rfl Try.underlying62 sz_4 (by omega) (by omega) (show _ = 1 from rfl)) rfl ?_
                  refine H_one 16 rfl (by kernel_rfl) rfl (op_store1 2 0 rfl rfl rfl sz_4 rfl (Nat.le_of_ble_eq_true rfl) ?_)
                  refine ⟨hsub (.cons _ (.cons _ (.cons _ (.cons _ (.refl _))))), ?_⟩
                  refine H_done (by kernel_rfl) ?_
                  refine C_region ?_
                  refine L_y rfl (y_add rfl rfl (show _ = (2 : Int) from rfl)) rfl ?_
                  refine L_y rfl (y_move rfl) rfl ?_
                  refine L_nil ?_
                  refine In_round ?_
                  refine C_seq ?_
                  refine C_region ?_
                  refine L_y rfl (y_lss rfl rfl) rfl ?_
                  refine L_nil ?_
                  refine C_seq ?_
                  refine C_cond_f rfl ?_
                  refine C_exit ?_
                  refine C_seq ?_
                  refine C_seq ?_
                  refine C_region ?_
                  refine L_y rfl (y_indexA rfl rfl Try.underlying62 sz_4 (by omega) (by omega) (show _ = 0 from rfl)) rfl ?_
                  refine L_y rfl (y_load rfl ag_4 (sees 2 0 rfl) rfl) rfl ?_
                  refine L_y rfl (y_not rfl) rfl ?_
                  refine L_y rfl (y_move rfl) rfl ?_
                  refine L_y rfl (y_indexA rfl rfl Try.underlying62 sz_4 (by omega) (by omega) (show _ = 1 from rfl)) rfl ?_
                  refine L_y rfl (y_load rfl ag_4 (sees 2 0 rfl) rfl) rfl ?_
                  refine L_y rfl (y_not rfl) rfl ?_
                  refine L_y rfl (y_pick_t rfl rfl) rfl ?_
                  refine L_nil ?_
                  refine C_cond_t rfl ?_
                  refine C_seq ?_
                  refine C_region ?_
                  refine L_y rfl (y_assign rfl) rfl ?_
                  refine L_nil ?_
                  refine C_ret ?_
                  refine B_ret (rv_tmp rfl rv_nil) ((hsub (.cons_cons _ (.cons_cons _ (.cons _ (.cons _ (.refl _)))))).trans (hsub_pick [1, 0] rfl)) ?_
                  have e0 : putD A ask n s false = false := by simp_all [putD, pd]
                  have e1 : putD A ask n s true = false := by simp_all [putD, pd, pA]
                  have ea : putA A ask n s = ((A.write false n s).write true n s) := by simp_all [putA, pA]
                  have em : putm m A ask n s = m := by simp [putm, hn, e0, e1]
                  exact ⟨ret_int (by simp [putE, hn, e0, e1]), D12, h12.to (by simp [putDa, hn, ea]), by rw [em]; rfl⟩
          · skip
            refine C_skip ?_
            refine C_region ?_
            refine L_y rfl (y_add rfl rfl (show _ = (2 : Int) from rfl)) rfl ?_
            refine L_y rfl (y_move rfl) rfl ?_
            refine L_nil ?_
            refine In_round ?_
            refine C_seq ?_
            refine C_region ?_
            refine L_y rfl (y_lss rfl rfl) rfl ?_
            refine L_nil ?_
            refine C_seq ?_
            refine C_cond_f rfl ?_
            refine C_exit ?_
            refine C_seq ?_
            refine C_seq ?_
            refine C_region ?_
            refine L_y rfl (y_indexA rfl rfl Try.underlying62 sz_4 (by omega) (by omega) (show _ = 0 from rfl)) rfl ?_
            refine L_y rfl (y_load rfl ag_4 (sees 2 0 rfl) rfl) rfl ?_
            refine L_y rfl (y_not rfl) rfl ?_
            refine L_y rfl (y_move rfl) rfl ?_
            refine L_y rfl (y_indexA rfl rfl Try.underlying62 sz_4 (by omega) (by omega) (show _ = 1 from rfl)) rfl ?_
            refine L_y rfl (y_load rfl ag_4 (sees 2 0 rfl) rfl) rfl ?_
            refine L_y rfl (y_not rfl) rfl ?_
            refine L_y rfl (y_pick_t rfl rfl) rfl ?_
            refine L_nil ?_
            refine C_cond_t rfl ?_
            refine C_seq ?_
            refine C_region ?_
            refine L_y rfl (y_assign rfl) rfl ?_
            refine L_nil ?_
            refine C_ret ?_
            refine B_ret (rv_tmp rfl rv_nil) ((hsub (.cons_cons _ (.cons_cons _ (.cons _ (.cons _ (.refl _)))))).trans (hsub_pick [1, 0] rfl)) ?_
            have e0 : putD A ask n s false = false := by simp_all [putD, pd]
            have e1 : putD A ask n s true = false := by simp_all [putD, pd, pA]
            have ea : putA A ask n s = (A.write false n s) := by simp_all [putA, pA]
            have em : putm m A ask n s = m := by simp [putm, hn, e0, e1]
            exact ⟨ret_int (by simp [putE, hn, e0, e1]), D8, h8.to (by simp [putDa, hn, ea]), by rw [em]; rfl⟩
  · skip
    refine C_skip ?_
    refine C_region ?_
    refine L_y rfl (y_add rfl rfl (show _ = (1 : Int) from rfl)) rfl ?_
    refine L_y rfl (y_move rfl) rfl ?_
    refine L_nil ?_
    refine In_round ?_
    refine C_seq ?_
    refine C_region ?_
    refine L_y rfl (y_lss rfl rfl) rfl ?_
    refine L_nil ?_
    refine C_seq ?_
    refine C_cond_t rfl ?_
    refine C_skip ?_
    refine C_seq ?_
    refine C_block ?_
    refine C_seq ?_
    refine C_region ?_
    refine L_y rfl (y_move rfl) rfl ?_
    refine L_y rfl (y_assign rfl) rfl ?_
    refine L_nil ?_
    refine C_seq ?_
    refine C_region ?_
    refine L_y rfl (y_move rfl) rfl ?_
    refine L_y rfl (y_move rfl) rfl ?_
    refine L_y rfl (y_nilCheck rfl) rfl ?_
    refine L_y rfl (y_fieldAddr rfl fl_110_0) rfl ?_
    refine L_y rfl (y_indexA rfl rfl Try.underlying108 sz_107 (by omega) (by omega) (show _ = 2 from rfl)) rfl ?_
    refine L_y rfl (y_assign rfl) rfl ?_
    refine L_nil ?_
    refine C_seq ?_
    refine C_region ?_
    refine L_y rfl (y_move rfl) rfl ?_
    refine L_y rfl (y_nilCheck rfl) rfl ?_
    refine L_y rfl (y_loadA rfl ag_107 sz_107 (sees 3 0 rfl) (Nat.le_of_ble_eq_true rfl) rfl) rfl ?_
    refine L_op rfl (op_call rfl rfl (fun a w => Try.call53 a w) rfl ?_)
    refine ((there_d h true).sub (hsub_pick [0] rfl)).mono ?_
    rintro _ _ ⟨rfl, rfl⟩
    refine ⟨_, rfl, ?_⟩
    refine L_nil ?_
    refine C_cond rfl (fun hc2 => ?_) (fun hc2 => ?_)
    · skip
      refine C_regionH H (by kernel_rfl) ?_
      refine H_y 0 rfl (by kernel_rfl) (by kernel_rfl) (by kernel_rfl) (hsub (.cons _ (.cons _ (.cons _ (.cons _ (.refl _)))))) rfl (y_move rfl) rfl ?_
      refine H_y 1 rfl (by kernel_rfl) (by kernel_rfl) (by kernel_rfl) (hsub (.cons _ (.cons _ (.cons _ (.cons _ (.refl _)))))) rfl (y_move rfl) rfl ?_
      refine H_y 2 rfl (by kernel_rfl) (by kernel_rfl) (by kernel_rfl) (hsub (.cons _ (.cons _ (.cons _ (.cons _ (.refl _)))))) rfl (y_move rfl) rfl ?_
      refine H_one 3 rfl (by kernel_rfl) rfl (op_call (f := fa) (first := []) (cap := cap) rfl rfl hask.1 rfl ?_)
      refine FnS.mono (FnS.sub (hsub_pick [3, 0] rfl) (hask.2 true _ _ _ h (hsub (.cons _ (.cons _ (.refl _)))))) ?_
      rintro _ _ ⟨rfl, rfl⟩
      refine ⟨_, rfl, ?_⟩
      refine ⟨hsub (.cons _ (.cons _ (.cons _ (.cons _ (.refl _))))), ?_⟩
      refine H_y 4 rfl (by kernel_rfl) (by kernel_rfl) (by kernel_rfl) (hsub (.cons _ (.cons _ (.cons _ (.cons _ (.refl _)))))) rfl (y_not rfl) rfl ?_
      refine H_y 5 rfl (by kernel_rfl) (by kernel_rfl) (by kernel_rfl) (hsub (.cons _ (.cons _ (.cons _ (.cons _ (.refl _)))))) rfl (y_move rfl) rfl ?_
      refine H_case 34 rfl (fun hg9_6 => ?_) (fun hg9_6 => ?_)
      · skip
        refine H_skip 6 rfl (by kernel_rfl) (by kernel_rfl) (by kernel_rfl) (hsub (.cons _ (.cons _ (.cons _ (.cons _ (.refl _)))))) rfl rfl ?_
        refine H_skip 7 rfl (by kernel_rfl) (by kernel_rfl) (by kernel_rfl) (hsub (.cons _ (.cons _ (.cons _ (.cons _ (.refl _)))))) rfl rfl ?_
        refine H_skip 8 rfl (by kernel_rfl) (by kernel_rfl) (by kernel_rfl) (hsub (.cons _ (.cons _ (.cons _ (.cons _ (.refl _)))))) rfl rfl ?_
        refine H_skip 9 rfl (by kernel_rfl) (by kernel_rfl) (by kernel_rfl) (hsub (.cons _ (.cons _ (.cons _ (.cons _ (.refl _)))))) rfl rfl ?_
        refine H_skip 10 rfl (by kernel_rfl) (by kernel_rfl) (by kernel_rfl) (hsub (.cons _ (.cons _ (.cons _ (.cons _ (.refl _)))))) rfl rfl ?_
        refine H_skip 11 rfl (by kernel_rfl) (by kernel_rfl) (by kernel_rfl) (hsub (.cons _ (.cons _ (.cons _ (.cons _ (.refl _)))))) rfl rfl ?_
        refine H_skip 12 rfl (by kernel_rfl) (by kernel_rfl) (by kernel_rfl) (hsub (.cons _ (.cons _ (.cons _ (.cons _ (.refl _)))))) rfl rfl ?_
        refine H_skip 13 rfl (by kernel_rfl) (by kernel_rfl) (by kernel_rfl) (hsub (.cons _ (.cons _ (.cons _ (.cons _ (.refl _)))))) rfl rfl ?_
        refine H_y 14 rfl (by kernel_rfl) (by kernel_rfl) (by kernel_rfl) (hsub (.cons _ (.cons _ (.cons _ (.cons _ (.refl _)))))) rfl (y_pick_t rfl rfl) rfl ?_
        refine H_y 15 rfl (by kernel_rfl) (by kernel_rfl) (by kernel_rfl) (hsub (.cons _ (.cons _ (.cons _ (.cons _ (.refl _)))))) rfl (y_indexA rfl rfl Try.underlying62 sz_4 (by omega) (by omega) (show _ = 1 from rfl)) rfl ?_
        refine H_one 16 rfl (by kernel_rfl) rfl (op_store1 2 0 rfl rfl rfl sz_4 rfl (Nat.le_of_ble_eq_true rfl) ?_)
        refine ⟨hsub (.cons _ (.cons _ (.cons _ (.cons _ (.refl _))))), ?_⟩
        refine H_done (by kernel_rfl) ?_
        refine C_region ?_
        refine L_y rfl (y_add rfl rfl (show _ = (2 : Int) from rfl)) rfl ?_
        refine L_y rfl (y_move rfl) rfl ?_
        refine L_nil ?_
        refine In_round ?_
        refine C_seq ?_
        refine C_region ?_
        refine L_y rfl (y_lss rfl rfl) rfl ?_
        refine L_nil ?_
        refine C_seq ?_
        refine C_cond_f rfl ?_
        refine C_exit ?_
        refine C_seq ?_
        refine C_seq ?_
        refine C_region ?_
        refine L_y rfl (y_indexA rfl rfl Try.underlying62 sz_4 (by omega) (by omega) (show _ = 0 from rfl)) rfl ?_
        refine L_y rfl (y_load rfl ag_4 (sees 2 0 rfl) rfl) rfl ?_
        refine L_y rfl (y_not rfl) rfl ?_
        refine L_y rfl (y_move rfl) rfl ?_
        refine L_y rfl (y_indexA rfl rfl Try.underlying62 sz_4 (by omega) (by omega) (show _ = 1 from rfl)) rfl ?_
        refine L_y rfl (y_load rfl ag_4 (sees 2 0 rfl) rfl) rfl ?_
        refine L_y rfl (y_not rfl) rfl ?_
        refine L_y rfl (y_pick_t rfl rfl) rfl ?_
        refine L_nil ?_
        refine C_cond_f rfl ?_
        refine C_skip ?_
        refine C_seq ?_
        refine C_seq ?_
        refine C_region ?_
        refine L_y rfl (y_move rfl) rfl ?_
        refine L_nil ?_
        refine C_block ?_
        refine C_loopIn (In_round ?_)
        refine C_seq ?_
        refine C_region ?_
        refine L_y rfl (y_lss rfl rfl) rfl ?_
        refine L_nil ?_
        refine C_seq ?_
        refine C_cond_t rfl ?_
        refine C_skip ?_
        refine C_seq ?_
        refine C_block ?_
        refine C_seq ?_
        refine C_region ?_
        refine L_y rfl (y_move rfl) rfl ?_
        refine L_y rfl (y_assign rfl) rfl ?_
        refine L_nil ?_
        refine C_seq ?_
        refine C_region ?_
        refine L_y rfl (y_move rfl) rfl ?_
        refine L_y rfl (y_indexA rfl rfl Try.underlying62 sz_4 (by omega) (by omega) (show _ = 0 from rfl)) rfl ?_
        refine L_y rfl (y_load rfl ag_4 (sees 2 0 rfl) rfl) rfl ?_
        refine L_nil ?_
        refine C_cond_f rfl ?_
        refine C_region ?_
        refine L_y rfl (y_move rfl) rfl ?_
        refine L_y rfl (y_move rfl) rfl ?_
        refine L_y rfl (y_nilCheck rfl) rfl ?_
        refine L_y rfl (y_fieldAddr rfl fl_110_0) rfl ?_
        refine L_y rfl (y_indexA rfl rfl Try.underlying108 sz_107 (by omega) (by omega) (show _ = 0 from rfl)) rfl ?_
        refine L_y rfl (y_fieldAddr rfl fl_107_1) rfl ?_
        refine L_y rfl (y_load rfl ag_105 (sees 0 0 rfl) rfl) rfl ?_
        refine L_y rfl (y_move rfl) rfl ?_
        refine L_op rfl (op_mapUpdate 0 1 rfl rfl rfl Try.underlying105 Try.underlying3 rfl rfl ?_)
        refine L_nil ?_
        refine C_region ?_
        refine L_y rfl (y_add rfl rfl (show _ = (1 : Int) from rfl)) rfl ?_
        refine L_y rfl (y_move rfl) rfl ?_
        refine L_nil ?_
        refine In_round ?_
        refine C_seq ?_
        refine C_region ?_
        refine L_y rfl (y_lss rfl rfl) rfl ?_
        refine L_nil ?_
        refine C_seq ?_
        refine C_cond_t rfl ?_
        refine C_skip ?_
        refine C_seq ?_
        refine C_block ?_
        refine C_seq ?_
        refine C_region ?_
        refine L_y rfl (y_move rfl) rfl ?_
        refine L_y rfl (y_assign rfl) rfl ?_
        refine L_nil ?_
        refine C_seq ?_
        refine C_region ?_
        refine L_y rfl (y_move rfl) rfl ?_
        refine L_y rfl (y_indexA rfl rfl Try.underlying62 sz_4 (by omega) (by omega) (show _ = 1 from rfl)) rfl ?_
        refine L_y rfl (y_load rfl ag_4 (sees 2 0 rfl) rfl) rfl ?_
        refine L_nil ?_
        refine C_cond_t rfl ?_
        refine C_region ?_
        refine L_y rfl (y_move rfl) rfl ?_
        refine L_y rfl (y_move rfl) rfl ?_
        refine L_y rfl (y_nilCheck rfl) rfl ?_
        refine L_y rfl (y_fieldAddr rfl fl_110_0) rfl ?_
        refine L_y rfl (y_indexA rfl rfl Try.underlying108 sz_107 (by omega) (by omega) (show _ = 2 from rfl)) rfl ?_
        refine L_y rfl (y_fieldAddr rfl fl_107_1) rfl ?_
        refine L_y rfl (y_load rfl ag_105 (sees 0 0 rfl) rfl) rfl ?_
        refine L_y rfl (y_move rfl) rfl ?_
        refine L_op rfl (op_delete 0 2 rfl rfl rfl Try.underlying105 Try.underlying3 rfl rfl ?_)
        refine L_nil ?_
        refine C_region ?_
        refine L_y rfl (y_add rfl rfl (show _ = (2 : Int) from rfl)) rfl ?_
        refine L_y rfl (y_move rfl) rfl ?_
        refine L_nil ?_
        refine In_round ?_
        refine C_seq ?_
        refine C_region ?_
        refine L_y rfl (y_lss rfl rfl) rfl ?_
        refine L_nil ?_
        refine C_seq ?_
        refine C_cond_f rfl ?_
        refine C_exit ?_
        refine C_seq ?_
        refine C_region ?_
        refine L_y rfl (y_assign rfl) rfl ?_
        refine L_nil ?_
        refine C_ret ?_
        refine B_ret (rv_tmp rfl rv_nil) ((hsub (.cons_cons _ (.cons_cons _ (.cons _ (.cons _ (.refl _)))))).trans (hsub_pick [0, 0] rfl)) ?_
        have e0 : putD A ask n s false = false := by simp_all [putD, pd]
        have e1 : putD A ask n s true = true := by simp_all [putD, pd, pA]
        have ea : putA A ask n s = A := by simp_all [putA, pA]
        have em : putm m A ask n s = m.mark n false true := by simp [putm, hn, e0, e1]
        exact ⟨ret_int (by simp [putE, hn, e0, e1]), D, h.to (by simp [putDa, hn, ea]), by rw [em]; rfl⟩
      · skip
        refine H_y 6 rfl (by kernel_rfl) (by kernel_rfl) (by kernel_rfl) (hsub (.cons _ (.cons _ (.cons _ (.cons _ (.refl _)))))) rfl (y_move rfl) rfl ?_
        refine H_y 7 rfl (by kernel_rfl) (by kernel_rfl) (by kernel_rfl) (hsub (.cons _ (.cons _ (.cons _ (.cons _ (.refl _)))))) rfl (y_nilCheck rfl) rfl ?_
        refine H_y 8 rfl (by kernel_rfl) (by kernel_rfl) (by kernel_rfl) (hsub (.cons _ (.cons _ (.cons _ (.cons _ (.refl _)))))) rfl (y_fieldAddr rfl fl_107_0) rfl ?_
        refine H_y 10 rfl (by kernel_rfl) (by kernel_rfl) (by kernel_rfl) (hsub (.cons _ (.cons _ (.cons _ (.cons _ (.refl _)))))) rfl (y_move rfl) rfl ?_
        refine H_two 9 11 rfl rfl (by kernel_rfl) rfl rfl ?_ ?_
        · refine op_y (y_load rfl ag_24 (sees 0 0 rfl) rfl) rfl ?_
          refine ⟨hsub (.cons _ (.cons _ (.cons _ (.cons _ (.refl _))))), ?_⟩
          refine H_one 11 rfl (by kernel_rfl) rfl (op_y (y_loadA rfl ag_32 sz_32 (sees 3 0 rfl) (by rw [bs_length, hs]; decide) (bs_whole0 _ hs)) rfl ?_)
          refine ⟨hsub (.cons _ (.cons _ (.cons _ (.cons _ (.refl _))))), ?_⟩
          refine H_one 12 rfl (by kernel_rfl) rfl (op_call rfl rfl (fun a w => Try.call62 a w) rfl ?_)
          refine ((write_d h true n s hs (by have := hQ true; omega)).sub (hsub_pick [1] rfl)).mono ?_
          rintro _ _ ⟨rfl, D13, h13, rfl⟩
          refine ⟨_, rfl, ?_⟩
          refine ⟨hsub (.cons _ (.cons _ (.cons _ (.cons _ (.refl _))))), ?_⟩
          refine H_y 13 rfl (by kernel_rfl) (by kernel_rfl) (by kernel_rfl) (hsub (.cons _ (.cons _ (.cons _ (.cons _ (.refl _)))))) rfl (y_eqi rfl rfl) rfl ?_
          refine H_case 42 rfl (fun hg9_14 => ?_) (fun hg9_14 => ?_)
          · skip
            refine H_y 14 rfl (by kernel_rfl) (by kernel_rfl) (by kernel_rfl) (hsub (.cons _ (.cons _ (.cons _ (.cons _ (.refl _)))))) rfl (y_pick_f rfl rfl) rfl ?_
            refine H_y 15 rfl (by kernel_rfl) (by kernel_rfl) (by kernel_rfl) (hsub (.cons _ (.cons _ (.cons _ (.cons _ (.refl _)))))) rfl (y_indexA rfl rfl Try.underlying62 sz_4 (by omega) (by omega) (show _ = 1 from rfl)) rfl ?_
            refine H_one 16 rfl (by kernel_rfl) rfl (op_store1 2 0 rfl rfl rfl sz_4 rfl (Nat.le_of_ble_eq_true rfl) ?_)
            refine ⟨hsub (.cons _ (.cons _ (.cons _ (.cons _ (.refl _))))), ?_⟩
            refine H_done (by kernel_rfl) ?_
            refine C_region ?_
            refine L_y rfl (y_add rfl rfl (show _ = (2 : Int) from rfl)) rfl ?_
            refine L_y rfl (y_move rfl) rfl ?_
            refine L_nil ?_
            refine In_round ?_
            refine C_seq ?_
            refine C_region ?_
            refine L_y rfl (y_lss rfl rfl) rfl ?_
            refine L_nil ?_
            refine C_seq ?_
            refine C_cond_f rfl ?_
            refine C_exit ?_
            refine C_seq ?_
            refine C_seq ?_
            refine C_region ?_
            refine L_y rfl (y_indexA rfl rfl Try.underlying62 sz_4 (by omega) (by omega) (show _ = 0 from rfl)) rfl ?_
            refine L_y rfl (y_load rfl ag_4 (sees 2 0 rfl) rfl) rfl ?_
            refine L_y rfl (y_not rfl) rfl ?_
            refine L_y rfl (y_move rfl) rfl ?_
            refine L_y rfl (y_indexA rfl rfl Try.underlying62 sz_4 (by omega) (by omega) (show _ = 1 from rfl)) rfl ?_
            refine L_y rfl (y_load rfl ag_4 (sees 2 0 rfl) rfl) rfl ?_
            refine L_y rfl (y_not rfl) rfl ?_
            refine L_y rfl (y_pick_t rfl rfl) rfl ?_
            refine L_nil ?_
            refine C_cond_f rfl ?_
            refine C_skip ?_
            refine C_seq ?_
            refine C_seq ?_
            refine C_region ?_
            refine L_y rfl (y_move rfl) rfl ?_
            refine L_nil ?_
            refine C_block ?_
            refine C_loopIn (In_round ?_)
            refine C_seq ?_
            refine C_region ?_
            refine L_y rfl (y_lss rfl rfl) rfl ?_
            refine L_nil ?_
            refine C_seq ?_
            refine C_cond_t rfl ?_
            refine C_skip ?_
            refine C_seq ?_
            refine C_block ?_
            refine C_seq ?_
            refine C_region ?_
            refine L_y rfl (y_move rfl) rfl ?_
            refine L_y rfl (y_assign rfl) rfl ?_
            refine L_nil ?_
            refine C_seq ?_
            refine C_region ?_
            refine L_y rfl (y_move rfl) rfl ?_
            refine L_y rfl (y_indexA rfl rfl Try.underlying62 sz_4 (by omega) (by omega) (show _ = 0 from rfl)) rfl ?_
            refine L_y rfl (y_load rfl ag_4 (sees 2 0 rfl) rfl) rfl ?_
            refine L_nil ?_
            refine C_cond_f rfl ?_
            refine C_region ?_
            refine L_y rfl (y_move rfl) rfl ?_
            refine L_y rfl (y_move rfl) rfl ?_
            refine L_y rfl (y_nilCheck rfl) rfl ?_
            refine L_y rfl (y_fieldAddr rfl fl_110_0) rfl ?_
            refine L_y rfl (y_indexA rfl rfl Try.underlying108 sz_107 (by omega) (by omega) (show _ = 0 from rfl)) rfl ?_
            refine L_y rfl (y_fieldAddr rfl fl_107_1) rfl ?_
            refine L_y rfl (y_load rfl ag_105 (sees 1 0 rfl) rfl) rfl ?_
            refine L_y rfl (y_move rfl) rfl ?_
            refine L_op rfl (op_mapUpdate 1 1 rfl rfl rfl Try.underlying105 Try.underlying3 rfl rfl ?_)
            refine L_nil ?_
            refine C_region ?_
            refine L_y rfl (y_add rfl rfl (show _ = (1 : Int) from rfl)) rfl ?_
            refine L_y rfl (y_move rfl) rfl ?_
            refine L_nil ?_
            refine In_round ?_
            refine C_seq ?_
            refine C_region ?_
            refine L_y rfl (y_lss rfl rfl) rfl ?_
            refine L_nil ?_
            refine C_seq ?_
            refine C_cond_t rfl ?_
            refine C_skip ?_
            refine C_seq ?_
            refine C_block ?_
            refine C_seq ?_
            refine C_region ?_
            refine L_y rfl (y_move rfl) rfl ?_
            refine L_y rfl (y_assign rfl) rfl ?_
            refine L_nil ?_
            refine C_seq ?_
            refine C_region ?_
            refine L_y rfl (y_move rfl) rfl ?_
            refine L_y rfl (y_indexA rfl rfl Try.underlying62 sz_4 (by omega) (by omega) (show _ = 1 from rfl)) rfl ?_
            refine L_y rfl (y_load rfl ag_4 (sees 2 0 rfl) rfl) rfl ?_
            refine L_nil ?_
            refine C_cond_t rfl ?_
            refine C_region ?_
            refine L_y rfl (y_move rfl) rfl ?_
            refine L_y rfl (y_move rfl) rfl ?_
            refine L_y rfl (y_nilCheck rfl) rfl ?_
            refine L_y rfl (y_fieldAddr rfl fl_110_0) rfl ?_
            refine L_y rfl (y_indexA rfl rfl Try.underlying108 sz_107 (by omega) (by omega) (show _ = 2 from rfl)) rfl ?_
            refine L_y rfl (y_fieldAddr rfl fl_107_1) rfl ?_
            refine L_y rfl (y_load rfl ag_105 (sees 1 0 rfl) rfl) rfl ?_
            refine L_y rfl (y_move rfl) rfl ?_
            refine L_op rfl (op_delete 1 2 rfl rfl rfl Try.underlying105 Try.underlying3 rfl rfl ?_)
            refine L_nil ?_
            refine C_region ?_
            refine L_y rfl (y_add rfl rfl (show _ = (2 : Int) from rfl)) rfl ?_
            refine L_y rfl (y_move rfl) rfl ?_
            refine L_nil ?_
            refine In_round ?_
            refine C_seq ?_
            refine C_region ?_
            refine L_y rfl (y_lss rfl rfl) rfl ?_
            refine L_nil ?_
            refine C_seq ?_
            refine C_cond_f rfl ?_
            refine C_exit ?_
            refine C_seq ?_
            refine C_region ?_
            refine L_y rfl (y_assign rfl) rfl ?_
            refine L_nil ?_
            refine C_ret ?_
            refine B_ret (rv_tmp rfl rv_nil) ((hsub (.cons_cons _ (.cons_cons _ (.cons _ (.cons _ (.refl _)))))).trans (hsub_pick [1, 0] rfl)) ?_
            have e0 : putD A ask n s false = false := by simp_all [putD, pd]
            have e1 : putD A ask n s true = true := by simp_all [putD, pd, pA]
            have ea : putA A ask n s = (A.write true n s) := by simp_all [putA, pA]
            have em : putm m A ask n s = m.mark n false true := by simp [putm, hn, e0, e1]
            exact ⟨ret_int (by simp [putE, hn, e0, e1]), D13, h13.to (by simp [putDa, hn, ea]), by rw [em]; rfl⟩
          · skip
            refine H_y 14 rfl (by kernel_rfl) (by kernel_rfl) (by kernel_rfl) (hsub (.cons _ (.cons _ (.cons _ (.cons _ (.refl _)))))) rfl (y_pick_f rfl rfl) rfl ?_
            refine H_y 15 rfl (by kernel_rfl) (by kernel_rfl) (by kernel_rfl) (hsub (.cons _ (.cons _ (.cons _ (.cons _ (.refl _)))))) rfl (y_indexA rfl rfl Try.underlying62 sz_4 (by omega) (by omega) (show _ = 1 from rfl)) rfl ?_
            refine H_one 16 rfl (by kernel_rfl) rfl (op_store1 2 0 rfl rfl rfl sz_4 rfl (Nat.le_of_ble_eq_true rfl) ?_)
            refine ⟨hsub (.cons _ (.cons _ (.cons _ (.cons _ (.refl _))))), ?_⟩
            refine H_done (by kernel_rfl) ?_
            refine C_region ?_
            refine L_y rfl (y_add rfl rfl (show _ = (2 : Int) from rfl)) rfl ?_
            refine L_y rfl (y_move rfl) rfl ?_
            refine L_nil ?_
            refine In_round ?_
            refine C_seq ?_
            refine C_region ?_
            refine L_y rfl (y_lss rfl rfl) rfl ?_
            refine L_nil ?_
            refine C_seq ?_
            refine C_cond_f rfl ?_
            refine C_exit ?_
            refine C_seq ?_
            refine C_seq ?_
            refine C_region ?_
            refine L_y rfl (y_indexA rfl rfl Try.underlying62 sz_4 (by omega) (by omega) (show _ = 0 from rfl)) rfl ?_
            refine L_y rfl (y_load rfl ag_4 (sees 2 0 rfl) rfl) rfl ?_
            refine L_y rfl (y_not rfl) rfl ?_
            refine L_y rfl (y_move rfl) rfl ?_
            refine L_y rfl (y_indexA rfl rfl Try.underlying62 sz_4 (by omega) (by omega) (show _ = 1 from rfl)) rfl ?_
            refine L_y rfl (y_load rfl ag_4 (sees 2 0 rfl) rfl) rfl ?_
            refine L_y rfl (y_not rfl) rfl ?_
            refine L_y rfl (y_pick_t rfl rfl) rfl ?_
            refine L_nil ?_
            refine C_cond_t rfl ?_
            refine C_seq ?_
            refine C_region ?_
            refine L_y rfl (y_assign rfl) rfl ?_
            refine L_nil ?_
            refine C_ret ?_
            refine B_ret (rv_tmp rfl rv_nil) ((hsub (.cons_cons _ (.cons_cons _ (.cons _ (.cons _ (.refl _)))))).trans (hsub_pick [1, 0] rfl)) ?_
            have e0 : putD A ask n s false = false := by simp_all [putD, pd]
            have e1 : putD A ask n s true = false := by simp_all [putD, pd, pA]
            have ea : putA A ask n s = (A.write true n s) := by simp_all [putA, pA]
            have em : putm m A ask n s = m := by simp [putm, hn, e0, e1]
            exact ⟨ret_int (by simp [putE, hn, e0, e1]), D13, h13.to (by simp [putDa, hn, ea]), by rw [em]; rfl⟩
        · refine op_y (y_loadA rfl ag_32 sz_32 (sees 3 0 rfl) (by rw [bs_length, hs]; decide) (bs_whole0 _ hs)) rfl ?_
          refine ⟨hsub (.cons _ (.cons _ (.cons _ (.cons _ (.refl _))))), ?_⟩
          refine H_one 9 rfl (by kernel_rfl) rfl (op_y (y_load rfl ag_24 (sees 0 0 rfl) rfl) rfl ?_)
          refine ⟨hsub (.cons _ (.cons _ (.cons _ (.cons _ (.refl _))))), ?_⟩
          refine H_one 12 rfl (by kernel_rfl) rfl (op_call rfl rfl (fun a w => Try.call62 a w) rfl ?_)
          refine ((write_d h true n s hs (by have := hQ true; omega)).sub (hsub_pick [1] rfl)).mono ?_
          rintro _ _ ⟨rfl, D14, h14, rfl⟩
          refine ⟨_, rfl, ?_⟩
          refine ⟨hsub (.cons _ (.cons _ (.cons _ (.cons _ (.refl _))))), ?_⟩
          refine H_y 13 rfl (by kernel_rfl) (by kernel_rfl) (by kernel_rfl) (hsub (.cons _ (.cons _ (.cons _ (.cons _ (.refl _)))))) rfl (y_eqi rfl rfl) rfl ?_
          refine H_case 42 rfl (fun hg9_14 => ?_) (fun hg9_14 => ?_)
          · skip
            refine H_y 14 rfl (by kernel_rfl) (by kernel_rfl) (by kernel_rfl) (hsub (.cons _ (.cons _ (.cons _ (.cons _ (.refl _)))))) rfl (y_pick_f rfl rfl) rfl ?_
            refine H_y 15 rfl (by kernel_rfl) (by kernel_rfl) (by kernel_rfl) (hsub (.cons _ (.cons _ (.cons _ (.cons _ (.refl _)))))) rfl (y_indexA rfl rfl Try.underlying62 sz_4 (by omega) (by omega) (show _ = 1 from rfl)) rfl ?_
            refine H_one 16 rfl (by kernel_rfl) rfl (op_store1 2 0 rfl rfl rfl sz_4 rfl (Nat.le_of_ble_eq_true rfl) ?_)
            refine ⟨hsub (.cons _ (.cons _ (.cons _ (.cons _ (.refl _))))), ?_⟩
            refine H_done (by kernel_rfl) ?_
            refine C_region ?_
            refine L_y rfl (y_add rfl rfl (show _ = (2 : Int) from rfl)) rfl ?_
            refine L_y rfl (y_move rfl) rfl ?_
            refine L_nil ?_
            refine In_round ?_
            refine C_seq ?_
            refine C_region ?_
            refine L_y rfl (y_lss rfl rfl) rfl ?_
            refine L_nil ?_
            refine C_seq ?_
            refine C_cond_f rfl ?_
            refine C_exit ?_
            refine C_seq ?_
            refine C_seq ?_
            refine C_region ?_
            refine L_y rfl (y_indexA rfl rfl Try.underlying62 sz_4 (by omega) (by omega) (show _ = 0 from rfl)) rfl ?_
            refine L_y rfl (y_load rfl ag_4 (sees 2 0 rfl) rfl) rfl ?_
            refine L_y rfl (y_not rfl) rfl ?_
            refine L_y rfl (y_move rfl) rfl ?_
            refine L_y rfl (y_indexA rfl rfl Try.underlying62 sz_4 (by omega) (by omega) (show _ = 1 from rfl)) rfl ?_
            refine L_y rfl (y_load rfl ag_4 (sees 2 0 rfl) rfl) rfl ?_
            refine L_y rfl (y_not rfl) rfl ?_
            refine L_y rfl (y_pick_t rfl rfl) rfl ?_
            refine L_nil ?_
            refine C_cond_f rfl ?_
            refine C_skip ?_
            refine C_seq ?_
            refine C_seq ?_
            refine C_region ?_
            refine L_y rfl (y_move rfl) rfl ?_
            refine L_nil ?_
            refine C_block ?_
            refine C_loopIn (In_round ?_)
            refine C_seq ?_
            refine C_region ?_
            refine L_y rfl (y_lss rfl rfl) rfl ?_
            refine L_nil ?_
            refine C_seq ?_
            refine C_cond_t rfl ?_
            refine C_skip ?_
            refine C_seq ?_
            refine C_block ?_
            refine C_seq ?_
            refine C_region ?_
            refine L_y rfl (y_move rfl) rfl ?_
            refine L_y rfl (y_assign rfl) rfl ?_
            refine L_nil ?_
            refine C_seq ?_
            refine C_region ?_
            refine L_y rfl (y_move rfl) rfl ?_
            refine L_y rfl (y_indexA rfl rfl Try.underlying62 sz_4 (by omega) (by omega) (show _ = 0 from rfl)) rfl ?_
            refine L_y rfl (y_load rfl ag_4 (sees 2 0 rfl) rfl) rfl ?_
            refine L_nil ?_
            refine C_cond_f rfl ?_
            refine C_region ?_
            refine L_y rfl (y_move rfl) rfl ?_
            refine L_y rfl (y_move rfl) rfl ?_
            refine L_y rfl (y_nilCheck rfl) rfl ?_
            refine L_y rfl (y_fieldAddr rfl fl_110_0) rfl ?_
            refine L_y rfl (y_indexA rfl rfl Try.underlying108 sz_107 (by omega) (by omega) (show _ = 0 from rfl)) rfl ?_
            refine L_y rfl (y_fieldAddr rfl fl_107_1) rfl ?_
            refine L_y rfl (y_load rfl ag_105 (sees 1 0 rfl) rfl) rfl ?_
            refine L_y rfl (y_move rfl) rfl ?_
            refine L_op rfl (op_mapUpdate 1 1 rfl rfl rfl Try.underlying105 Try.underlying3 rfl rfl ?_)
            refine L_nil ?_
            refine C_region ?_
            refine L_y rfl (y_add rfl rfl (show _ = (1 : Int) from rfl)) rfl ?_
            refine L_y rfl (y_move rfl) rfl ?_
            refine L_nil ?_
            refine In_round ?_
            refine C_seq ?_
            refine C_region ?_
            refine L_y rfl (y_lss rfl rfl) rfl ?_
            refine L_nil ?_
            refine C_seq ?_
            refine C_cond_t rfl ?_
            refine C_skip ?_
            refine C_seq ?_
            refine C_block ?_
            refine C_seq ?_
            refine C_region ?_
            refine L_y rfl (y_move rfl) rfl ?_
            refine L_y rfl (y_assign rfl) rfl ?_
            refine L_nil ?_
            refine C_seq ?_
            refine C_region ?_
            refine L_y rfl (y_move rfl) rfl ?_
            refine L_y rfl (y_indexA rfl rfl Try.underlying62 sz_4 (by omega) (by omega) (show _ = 1 from rfl)) rfl ?_
            refine L_y rfl (y_load rfl ag_4 (sees 2 0 rfl) rfl) rfl ?_
            refine L_nil ?_
            refine C_cond_t rfl ?_
            refine C_region ?_
            refine L_y rfl (y_move rfl) rfl ?_
            refine L_y rfl (y_move rfl) rfl ?_
            refine L_y rfl (y_nilCheck rfl) rfl ?_
            refine L_y rfl (y_fieldAddr rfl fl_110_0) rfl ?_
            refine L_y rfl (y_indexA rfl rfl Try.underlying108 sz_107 (by omega) (by omega) (show _ = 2 from rfl)) rfl ?_
            refine L_y rfl (y_fieldAddr rfl fl_107_1) rfl ?_
            refine L_y rfl (y_load rfl ag_105 (sees 1 0 rfl) rfl) rfl ?_
            refine L_y rfl (y_move rfl) rfl ?_
            refine L_op rfl (op_delete 1 2 rfl rfl rfl Try.underlying105 Try.underlying3 rfl rfl ?_)
            refine L_nil ?_
            refine C_region ?_
            refine L_y rfl (y_add rfl rfl (show _ = (2 : Int) from rfl)) rfl ?_
            refine L_y rfl (y_move rfl) rfl ?_
            refine L_nil ?_
            refine In_round ?_
            refine C_seq ?_
            refine C_region ?_
            refine L_y rfl (y_lss rfl rfl) rfl ?_
            refine L_nil ?_
            refine C_seq ?_
            refine C_cond_f rfl ?_
            refine C_exit ?_
            refine C_seq ?_
            refine C_region ?_
            refine L_y rfl (y_assign rfl) rfl ?_
            refine L_nil ?_
            refine C_ret ?_
            refine B_ret (rv_tmp rfl rv_nil) ((hsub (.cons_cons _ (.cons_cons _ (.cons _ (.cons _ (.refl _)))))).trans (hsub_pick [1, 0] rfl)) ?_
            have e0 : putD A ask n s false = false := by simp_all [putD, pd]
            have e1 : putD A ask n s true = true := by simp_all [putD, pd, pA]
            have ea : putA A ask n s = (A.write true n s) := by simp_all [putA, pA]
            have em : putm m A ask n s = m.mark n false true := by simp [putm, hn, e0, e1]
            exact ⟨ret_int (by simp [putE, hn, e0, e1]), D14, h14.to (by simp [putDa, hn, ea]), by rw [em]; rfl⟩
          · skip
            refine H_y 14 rfl (by kernel_rfl) (by kernel_rfl) (by kernel_rfl) (hsub (.cons _ (.cons _ (.cons _ (.cons _ (.refl _)))))) rfl (y_pick_f rfl rfl) rfl ?_
            refine H_y 15 rfl (by kernel_rfl) (by kernel_rfl) (by kernel_rfl) (hsub (.cons _ (.cons _ (.cons _ (.cons _ (.refl _)))))) rfl (y_indexA rfl rfl Try.underlying62 sz_4 (by omega) (by omega) (show _ = 1 from rfl)) rfl ?_
            refine H_one 16 rfl (by kernel_rfl) rfl (op_store1 2 0 rfl rfl rfl sz_4 rfl (Nat.le_of_ble_eq_true rfl) ?_)
            refine ⟨hsub (.cons _ (.cons _ (.cons _ (.cons _ (.refl _))))), ?_⟩
            refine H_done (by kernel_rfl) ?_
            refine C_region ?_
            refine L_y rfl (y_add rfl rfl (show _ = (2 : Int) from rfl)) rfl ?_
            refine L_y rfl (y_move rfl) rfl ?_
            refine L_nil ?_
            refine In_round ?_
            refine C_seq ?_
            refine C_region ?_
            refine L_y rfl (y_lss rfl rfl) rfl ?_
            refine L_nil ?_
            refine C_seq ?_
            refine C_cond_f rfl ?_
            refine C_exit ?_
            refine C_seq ?_
            refine C_seq ?_
            refine C_region ?_
            refine L_y rfl (y_indexA rfl rfl Try.underlying62 sz_4 (by omega) (by omega) (show _ = 0 from rfl)) rfl ?_
            refine L_y rfl (y_load rfl ag_4 (sees 2 0 rfl) rfl) rfl ?_
            refine L_y rfl (y_not rfl) rfl ?_
            refine L_y rfl (y_move rfl) rfl ?_
            refine L_y rfl (y_indexA rfl rfl Try.underlying62 sz_4 (by omega) (by omega) (show _ = 1 from rfl)) rfl ?_
            refine L_y rfl (y_load rfl ag_4 (sees 2 0 rfl) rfl) rfl ?_
            refine L_y rfl (y_not rfl) rfl ?_
            refine L_y rfl (y_pick_t rfl rfl) rfl ?_
            refine L_nil ?_
            refine C_cond_t rfl ?_
            refine C_seq ?_
            refine C_region ?_
            refine L_y rfl (y_assign rfl) rfl ?_
            refine L_nil ?_
            refine C_ret ?_
            refine B_ret (rv_tmp rfl rv_nil) ((hsub (.cons_cons _ (.cons_cons _ (.cons _ (.cons _ (.refl _)))))).trans (hsub_pick [1, 0] rfl)) ?_
            have e0 : putD A ask n s false = false := by simp_all [putD, pd]
            have e1 : putD A ask n s true = false := by simp_all [putD, pd, pA]
            have ea : putA A ask n s = (A.write true n s) := by simp_all [putA, pA]
            have em : putm m A ask n s = m := by simp [putm, hn, e0, e1]
            exact ⟨ret_int (by simp [putE, hn, e0, e1]), D14, h14.to (by simp [putDa, hn, ea]), by rw [em]; rfl⟩
    · skip
      refine C_skip ?_
      refine C_region ?_
      refine L_y rfl (y_add rfl rfl (show _ = (2 : Int) from rfl)) rfl ?_
      refine L_y rfl (y_move rfl) rfl ?_
      refine L_nil ?_
      refine In_round ?_
      refine C_seq ?_
      refine C_region ?_
      refine L_y rfl (y_lss rfl rfl) rfl ?_
      refine L_nil ?_
      refine C_seq ?_
      refine C_cond_f rfl ?_
      refine C_exit ?_
      refine C_seq ?_
      refine C_seq ?_
      refine C_region ?_
      refine L_y rfl (y_indexA rfl rfl Try.underlying62 sz_4 (by omega) (by omega) (show _ = 0 from rfl)) rfl ?_
      refine L_y rfl (y_load rfl ag_4 (sees 1 0 rfl) rfl) rfl ?_
      refine L_y rfl (y_not rfl) rfl ?_
      refine L_y rfl (y_move rfl) rfl ?_
      refine L_y rfl (y_indexA rfl rfl Try.underlying62 sz_4 (by omega) (by omega) (show _ = 1 from rfl)) rfl ?_
      refine L_y rfl (y_load rfl ag_4 (sees 1 0 rfl) rfl) rfl ?_
      refine L_y rfl (y_not rfl) rfl ?_
      refine L_y rfl (y_pick_t rfl rfl) rfl ?_
      refine L_nil ?_
      refine C_cond_t rfl ?_
      refine C_seq ?_
      refine C_region ?_
      refine L_y rfl (y_assign rfl) rfl ?_
      refine L_nil ?_
      refine C_ret ?_
      refine B_ret (rv_tmp rfl rv_nil) ((hsub (.cons_cons _ (.cons_cons _ (.cons _ (.cons _ (.refl _)))))).trans (hsub_pick [3, 0] rfl)) ?_
      have e0 : putD A ask n s false = false := by simp_all [putD, pd]
      have e1 : putD A ask n s true = false := by simp_all [putD, pd, pA]
      have ea : putA A ask n s = A := by simp_all [putA, pA]
      have em : putm m A ask n s = m := by simp [putm, hn, e0, e1]
      exact ⟨ret_int (by simp [putE, hn, e0, e1]), D, h.to (by simp [putDa, hn, ea]), by rw [em]; rfl⟩

theorem put_m {w0 : World} {H : Hp} {D : Duo} {A : Da} {bp : Nat} {m : Mi} (h : Two dt D A m.bx m.bys bp) (n : Int) (s : Sec) (hs : s.length = 128) {fa : Nat} {cap : List Value} {ask : Da → Bool → Bool} (hask : AskAt Try.prog dt 110 w0 H m bp fa cap ask) (hQ : ∀ i, (A.dev i).Q.length < 99990) : FnS Try.prog w0 54 #[ptr m.b, .int .i64 n, .agg (bs s).toArray, .func (.func fa) #[] cap.toArray] (m.seg 110 :: D.seg dt :: H) (fun e H' => e = .returned (.int .i64 (putE m A ask n s)) ∧ ∃ D', Two dt D' (putDa m A ask n s) m.bx m.bys bp ∧ H' = (putm m A ask n s).seg 110 :: D'.seg dt :: H) := by
  cases hn : m.has n
  · exact put_no h n s hs hask hQ hn
  · exact put_yes h n s hs hask hQ hn

end Go.Proofs.Ytjjiclgbdenkkaa

