/- walks (own work; the walks' lines by a program of this repo). -/
import Derived.Test.YtoaalclbplgegaaMpW
set_option linter.unusedVariables false
set_option linter.unusedSimpArgs false
set_option maxRecDepth 20000
namespace Go.Proofs.Ytoaalclbplgegaa
open Go.Sl
attribute [local irreducible] BodyQ WpC WpL WpS WpH OpW FnS


theorem ask_all {w0 : World} {H : Hp} {v : Value} : FnS Try.prog w0 53 #[v] H (fun e H' => e = .returned (.bool true) ∧ H' = H) := by
  refine FnS_intro (n := 3) (rs := [.tmp 2]) (vs := [v]) Try.func53 rfl Try.ntmps53 rfl rfl ?_
  refine C_seq ?_
  refine C_region ?_
  refine L_y rfl (y_assign rfl) rfl ?_
  refine L_nil ?_
  refine C_seq ?_
  refine C_region ?_
  refine L_y rfl (y_assign rfl) rfl ?_
  refine L_nil ?_
  refine C_ret ?_
  refine B_ret (rv_tmp rfl rv_nil) (HSub.refl _) ?_
  exact ⟨rfl, rfl⟩

theorem mwrite_m {w0 : World} {H : Hp} {D : Duo} {A : Da} {bp : Nat} {m : Mi} (h : Two dt D A m.bx m.bys bp) (n : Int) (s : Sec) (hs : s.length = 128) (hQ : ∀ i, (A.dev i).Q.length < 99990) : FnS Try.prog w0 27 #[ptr m.b, .int .i64 n, .agg (bs s).toArray] (m.seg 109 :: D.seg dt :: H) (fun e H' => e = .returned (.int .i64 (putE m A askAll n s)) ∧ ∃ D', Two dt D' (putDa m A askAll n s) m.bx m.bys bp ∧ H' = (putm m A askAll n s).seg 109 :: D'.seg dt :: H) := by
  refine FnS_intro (n := 11) (rs := [.tmp 6]) (vs := [ptr m.b, .int .i64 n, .agg (bs s).toArray]) Try.func27 rfl Try.ntmps27 rfl rfl ?_
  refine C_seq ?_
  refine C_region ?_
  refine L_op rfl (op_box rfl rfl rfl (fun B1 => ?_))
  refine L_y rfl (y_assign rfl) rfl ?_
  refine L_nil ?_
  refine C_seq ?_
  refine C_region ?_
  refine L_y rfl (y_move rfl) rfl ?_
  refine L_y rfl (y_move rfl) rfl ?_
  refine L_y rfl (y_loadA rfl ag_37 sz_37 (sees 0 0 rfl) (by rw [bs_length, hs]; decide) (bs_whole0 _ hs)) rfl ?_
  refine L_op rfl (op_call rfl rfl (fun a w => Try.call52 a w) rfl ?_)
  refine (FnS.sub (hsub_pick [1, 1] rfl) (put_m h n s hs (cap := []) ⟨fun a w => Try.call53 a w, fun i D A X _ _ => ask_all⟩ hQ)).mono ?_
  rintro _ _ ⟨rfl, D1, h1, rfl⟩
  refine ⟨_, rfl, ?_⟩
  refine L_y rfl (y_assign rfl) rfl ?_
  refine L_nil ?_
  refine C_ret ?_
  refine B_ret (rv_tmp rfl rv_nil) (hsub (.cons_cons _ (.cons_cons _ (.cons _ (.refl _))))) ?_
  exact ⟨rfl, D1, h1, rfl⟩

theorem sflush_f {w0 : World} {H : Hp} {D : Duo} {A : Da} {bp : Nat} {m : Mi} (h : Two dt D A m.bx m.bys bp) : FnS Try.prog w0 58 #[.pointer (some ⟨m.b, 0, none⟩)] (m.seg 109 :: D.seg dt :: H) (fun e H' => e = .returned (.int .i64 (A.fE false)) ∧ ∃ D', Two dt D' (A.flush false) m.bx m.bys bp ∧ H' = m.seg 109 :: D'.seg dt :: H) := by
  refine FnS_intro (n := 11) (rs := [.tmp 2]) (vs := [.pointer (some ⟨m.b, 0, none⟩)]) Try.func58 rfl Try.ntmps58 rfl rfl ?_
  refine C_seq ?_
  refine C_region ?_
  refine L_y rfl (y_assign rfl) rfl ?_
  refine L_nil ?_
  refine C_seq ?_
  refine C_region ?_
  refine L_y rfl (y_move rfl) rfl ?_
  refine L_y rfl (y_nilCheck rfl) rfl ?_
  refine L_y rfl (y_fieldAddr rfl fl_106_0) rfl ?_
  refine L_y rfl (y_load rfl ag_24 (sees 0 0 rfl) rfl) rfl ?_
  refine L_y rfl (y_makeFunc rfl rfl) rfl ?_
  refine L_y rfl (y_assign rfl) rfl ?_
  refine L_nil ?_
  refine C_seq ?_
  refine C_region ?_
  refine L_y rfl (y_move rfl) rfl ?_
  refine L_op rfl (op_call rfl rfl (fun a w => Try.call42 a w) rfl ?_)
  refine ((flush_d h false).sub (hsub_pick [1] rfl)).mono ?_
  rintro _ _ ⟨rfl, D1, h1, rfl⟩
  refine ⟨_, rfl, ?_⟩
  refine L_y rfl (y_assign rfl) rfl ?_
  refine L_nil ?_
  refine C_ret ?_
  refine B_ret (rv_tmp rfl rv_nil) ((hsub (.cons_cons _ (.cons_cons _ (.refl _)))).trans (hsub_pick [1, 0] rfl)) ?_
  exact ⟨rfl, D1, h1, rfl⟩

theorem sflush_t {w0 : World} {H : Hp} {D : Duo} {A : Da} {bp : Nat} {m : Mi} (h : Two dt D A m.bx m.bys bp) : FnS Try.prog w0 58 #[.pointer (some ⟨m.b, 2, none⟩)] (m.seg 109 :: D.seg dt :: H) (fun e H' => e = .returned (.int .i64 (A.fE true)) ∧ ∃ D', Two dt D' (A.flush true) m.bx m.bys bp ∧ H' = m.seg 109 :: D'.seg dt :: H) := by
  refine FnS_intro (n := 11) (rs := [.tmp 2]) (vs := [.pointer (some ⟨m.b, 2, none⟩)]) Try.func58 rfl Try.ntmps58 rfl rfl ?_
  refine C_seq ?_
  refine C_region ?_
  refine L_y rfl (y_assign rfl) rfl ?_
  refine L_nil ?_
  refine C_seq ?_
  refine C_region ?_
  refine L_y rfl (y_move rfl) rfl ?_
  refine L_y rfl (y_nilCheck rfl) rfl ?_
  refine L_y rfl (y_fieldAddr rfl fl_106_0) rfl ?_
  refine L_y rfl (y_load rfl ag_24 (sees 0 0 rfl) rfl) rfl ?_
  refine L_y rfl (y_makeFunc rfl rfl) rfl ?_
  refine L_y rfl (y_assign rfl) rfl ?_
  refine L_nil ?_
  refine C_seq ?_
  refine C_region ?_
  refine L_y rfl (y_move rfl) rfl ?_
  refine L_op rfl (op_call rfl rfl (fun a w => Try.call42 a w) rfl ?_)
  refine ((flush_d h true).sub (hsub_pick [1] rfl)).mono ?_
  rintro _ _ ⟨rfl, D1, h1, rfl⟩
  refine ⟨_, rfl, ?_⟩
  refine L_y rfl (y_assign rfl) rfl ?_
  refine L_nil ?_
  refine C_ret ?_
  refine B_ret (rv_tmp rfl rv_nil) ((hsub (.cons_cons _ (.cons_cons _ (.refl _)))).trans (hsub_pick [1, 0] rfl)) ?_
  exact ⟨rfl, D1, h1, rfl⟩

theorem all_tt {w0 : World} {H : Hp} {D : Duo} {A : Da} {bp : Nat} {m : Mi} (h : Two dt D A m.bx m.bys bp) (hp : thr A false = true) (hq : thr A true = true) : FnS Try.prog w0 57 #[ptr m.b, .func (.func 58) #[] #[]] (m.seg 109 :: D.seg dt :: H) (fun e H' => e = .returned (.int .i64 (mfl A).2) ∧ ∃ D', Two dt D' (mfl A).1 m.bx m.bys bp ∧ H' = m.seg 109 :: D'.seg dt :: H) := by
  refine FnS_intro (n := 30) (rs := [.tmp 4]) (vs := [ptr m.b, .func (.func 58) #[] #[]]) Try.func57 rfl Try.ntmps57 rfl rfl ?_
  refine C_seq ?_
  refine C_region ?_
  refine L_y rfl (y_assign rfl) rfl ?_
  refine L_nil ?_
  refine C_seq ?_
  refine C_region ?_
  refine L_y rfl (y_move rfl) rfl ?_
  refine L_op rfl (op_call rfl rfl (fun a w => Try.call50 a w) rfl ?_)
  refine ((present_tt h hp hq).sub (hsub_pick [0, 0] rfl)).mono ?_
  rintro _ _ ⟨g1, hg1, rfl, rfl⟩
  cases g1 with
  | none => exact slOk_none hg1 (by decide)
  | some g1 => ?_
  refine ⟨_, rfl, ?_⟩
  refine L_y rfl (y_assign rfl) rfl ?_
  refine L_nil ?_
  refine C_seq ?_
  refine C_seq ?_
  refine C_region ?_
  refine L_y rfl (y_move rfl) rfl ?_
  refine L_y rfl (y_lenS rfl rfl Try.underlying103) rfl ?_
  refine L_y rfl (y_eqi rfl rfl) rfl ?_
  refine L_nil ?_
  refine C_cond_f rfl ?_
  refine C_skip ?_
  refine C_seq ?_
  refine C_region ?_
  refine L_y rfl (y_assign rfl) rfl ?_
  refine L_nil ?_
  refine C_seq ?_
  refine C_seq ?_
  refine C_region ?_
  refine L_y rfl (y_move rfl) rfl ?_
  refine L_y rfl (y_lenS rfl rfl Try.underlying103) rfl ?_
  refine L_y rfl (y_move rfl) rfl ?_
  refine L_nil ?_
  refine C_block ?_
  refine C_loopIn (In_round ?_)
  refine C_seq ?_
  refine C_region ?_
  refine L_y rfl (y_lss rfl rfl) rfl ?_
  refine L_nil ?_
  refine C_seq ?_
  refine C_cond_t rfl ?_
  refine C_skip ?_
  refine C_seq ?_
  refine C_block ?_
  refine C_seq ?_
  refine C_region ?_
  refine L_y rfl (y_indexS rfl rfl Try.underlying103 sz_3 (by omega) (by omega) (show _ = 0 from rfl)) rfl ?_
  refine L_y rfl (y_load rfl ag_3 (sees 0 0 rfl) rfl) rfl ?_
  refine L_y rfl (y_assign rfl) rfl ?_
  refine L_nil ?_
  refine C_seq ?_
  refine C_region ?_
  refine L_y rfl (y_move rfl) rfl ?_
  refine L_y rfl (y_move rfl) rfl ?_
  refine L_y rfl (y_move rfl) rfl ?_
  refine L_y rfl (y_nilCheck rfl) rfl ?_
  refine L_y rfl (y_fieldAddr rfl fl_109_0) rfl ?_
  refine L_y rfl (y_indexA rfl rfl Try.underlying107 sz_106 (by omega) (by omega) (show _ = 0 from rfl)) rfl ?_
  refine L_op rfl (op_call rfl rfl (fun a w => Try.call58 a w) rfl ?_)
  refine (FnS.sub (hsub_pick [1, 1] rfl) (sflush_f h)).mono ?_
  rintro _ _ ⟨rfl, D2, h2, rfl⟩
  refine ⟨_, rfl, ?_⟩
  refine L_y rfl (y_nei rfl rfl) rfl ?_
  refine L_nil ?_
  refine C_cond rfl (fun hc2 => ?_) (fun hc2 => ?_)
  · skip
    refine C_region ?_
    refine L_y rfl (y_assign rfl) rfl ?_
    refine L_nil ?_
    refine C_region ?_
    refine L_y rfl (y_add rfl rfl (show _ = (1 : Int) from rfl)) rfl ?_
    refine L_y rfl (y_move rfl) rfl ?_
    refine L_nil ?_
    refine In_round ?_
    refine C_seq ?_
    refine C_region ?_
    refine L_y rfl (y_lss rfl rfl) rfl ?_
    refine L_nil ?_
    refine C_seq ?_
    refine C_cond_t rfl ?_
    refine C_skip ?_
    refine C_seq ?_
    refine C_block ?_
    refine C_seq ?_
    refine C_region ?_
    refine L_y rfl (y_indexS rfl rfl Try.underlying103 sz_3 (by omega) (by omega) (show _ = 1 from rfl)) rfl ?_
    refine L_y rfl (y_load rfl ag_3 (sees 2 0 rfl) rfl) rfl ?_
    refine L_y rfl (y_assign rfl) rfl ?_
    refine L_nil ?_
    refine C_seq ?_
    refine C_region ?_
    refine L_y rfl (y_move rfl) rfl ?_
    refine L_y rfl (y_move rfl) rfl ?_
    refine L_y rfl (y_move rfl) rfl ?_
    refine L_y rfl (y_nilCheck rfl) rfl ?_
    refine L_y rfl (y_fieldAddr rfl fl_109_0) rfl ?_
    refine L_y rfl (y_indexA rfl rfl Try.underlying107 sz_106 (by omega) (by omega) (show _ = 2 from rfl)) rfl ?_
    refine L_op rfl (op_call rfl rfl (fun a w => Try.call58 a w) rfl ?_)
    refine (FnS.sub (hsub_pick [0, 0] rfl) (sflush_t h2)).mono ?_
    rintro _ _ ⟨rfl, D3, h3, rfl⟩
    refine ⟨_, rfl, ?_⟩
    refine L_y rfl (y_nei rfl rfl) rfl ?_
    refine L_nil ?_
    refine C_cond rfl (fun hc2 => ?_) (fun hc2 => ?_)
    · skip
      refine C_region ?_
      refine L_y rfl (y_assign rfl) rfl ?_
      refine L_nil ?_
      refine C_region ?_
      refine L_y rfl (y_add rfl rfl (show _ = (2 : Int) from rfl)) rfl ?_
      refine L_y rfl (y_move rfl) rfl ?_
      refine L_nil ?_
      refine In_round ?_
      refine C_seq ?_
      refine C_region ?_
      refine L_y rfl (y_lss rfl rfl) rfl ?_
      refine L_nil ?_
      refine C_seq ?_
      refine C_cond_f rfl ?_
      refine C_exit ?_
      refine C_seq ?_
      refine C_region ?_
      refine L_y rfl (y_move rfl) rfl ?_
      refine L_y rfl (y_assign rfl) rfl ?_
      refine L_nil ?_
      refine C_ret ?_
      refine B_ret (rv_tmp rfl rv_nil) ((hsub (.cons_cons _ (.cons_cons _ (.cons _ (.refl _))))).trans (hsub_pick [0, 0] rfl)) ?_
      exact ⟨ret_int (by simp_all [mfl, fl1]), D3, h3.to (by simp_all [mfl, fl1]), rfl⟩
    · skip
      refine C_skip ?_
      refine C_region ?_
      refine L_y rfl (y_add rfl rfl (show _ = (2 : Int) from rfl)) rfl ?_
      refine L_y rfl (y_move rfl) rfl ?_
      refine L_nil ?_
      refine In_round ?_
      refine C_seq ?_
      refine C_region ?_
      refine L_y rfl (y_lss rfl rfl) rfl ?_
      refine L_nil ?_
      refine C_seq ?_
      refine C_cond_f rfl ?_
      refine C_exit ?_
      refine C_seq ?_
      refine C_region ?_
      refine L_y rfl (y_move rfl) rfl ?_
      refine L_y rfl (y_assign rfl) rfl ?_
      refine L_nil ?_
      refine C_ret ?_
      refine B_ret (rv_tmp rfl rv_nil) ((hsub (.cons_cons _ (.cons_cons _ (.cons _ (.refl _))))).trans (hsub_pick [0, 0] rfl)) ?_
      exact ⟨ret_int (by simp_all [mfl, fl1]), D3, h3.to (by simp_all [mfl, fl1]), rfl⟩
  · skip
    refine C_skip ?_
    refine C_region ?_
    refine L_y rfl (y_add rfl rfl (show _ = (1 : Int) from rfl)) rfl ?_
    refine L_y rfl (y_move rfl) rfl ?_
    refine L_nil ?_
    refine In_round ?_
    refine C_seq ?_
    refine C_region ?_
    refine L_y rfl (y_lss rfl rfl) rfl ?_
    refine L_nil ?_
    refine C_seq ?_
    refine C_cond_t rfl ?_
    refine C_skip ?_
    refine C_seq ?_
    refine C_block ?_
    refine C_seq ?_
    refine C_region ?_
    refine L_y rfl (y_indexS rfl rfl Try.underlying103 sz_3 (by omega) (by omega) (show _ = 1 from rfl)) rfl ?_
    refine L_y rfl (y_load rfl ag_3 (sees 2 0 rfl) rfl) rfl ?_
    refine L_y rfl (y_assign rfl) rfl ?_
    refine L_nil ?_
    refine C_seq ?_
    refine C_region ?_
    refine L_y rfl (y_move rfl) rfl ?_
    refine L_y rfl (y_move rfl) rfl ?_
    refine L_y rfl (y_move rfl) rfl ?_
    refine L_y rfl (y_nilCheck rfl) rfl ?_
    refine L_y rfl (y_fieldAddr rfl fl_109_0) rfl ?_
    refine L_y rfl (y_indexA rfl rfl Try.underlying107 sz_106 (by omega) (by omega) (show _ = 2 from rfl)) rfl ?_
    refine L_op rfl (op_call rfl rfl (fun a w => Try.call58 a w) rfl ?_)
    refine (FnS.sub (hsub_pick [0, 0] rfl) (sflush_t h2)).mono ?_
    rintro _ _ ⟨rfl, D4, h4, rfl⟩
    refine ⟨_, rfl, ?_⟩
    refine L_y rfl (y_nei rfl rfl) rfl ?_
    refine L_nil ?_
    refine C_cond rfl (fun hc2 => ?_) (fun hc2 => ?_)
    · skip
      refine C_region ?_
      refine L_y rfl (y_assign rfl) rfl ?_
      refine L_nil ?_
      refine C_region ?_
      refine L_y rfl (y_add rfl rfl (show _ = (2 : Int) from rfl)) rfl ?_
      refine L_y rfl (y_move rfl) rfl ?_
      refine L_nil ?_
      refine In_round ?_
      refine C_seq ?_
      refine C_region ?_
      refine L_y rfl (y_lss rfl rfl) rfl ?_
      refine L_nil ?_
      refine C_seq ?_
      refine C_cond_f rfl ?_
      refine C_exit ?_
      refine C_seq ?_
      refine C_region ?_
      refine L_y rfl (y_move rfl) rfl ?_
      refine L_y rfl (y_assign rfl) rfl ?_
      refine L_nil ?_
      refine C_ret ?_
      refine B_ret (rv_tmp rfl rv_nil) ((hsub (.cons_cons _ (.cons_cons _ (.cons _ (.refl _))))).trans (hsub_pick [0, 0] rfl)) ?_
      exact ⟨ret_int (by simp_all [mfl, fl1]), D4, h4.to (by simp_all [mfl, fl1]), rfl⟩
    · skip
      refine C_skip ?_
      refine C_region ?_
      refine L_y rfl (y_add rfl rfl (show _ = (2 : Int) from rfl)) rfl ?_
      refine L_y rfl (y_move rfl) rfl ?_
      refine L_nil ?_
      refine In_round ?_
      refine C_seq ?_
      refine C_region ?_
      refine L_y rfl (y_lss rfl rfl) rfl ?_
      refine L_nil ?_
      refine C_seq ?_
      refine C_cond_f rfl ?_
      refine C_exit ?_
      refine C_seq ?_
      refine C_region ?_
      refine L_y rfl (y_move rfl) rfl ?_
      refine L_y rfl (y_assign rfl) rfl ?_
      refine L_nil ?_
      refine C_ret ?_
      refine B_ret (rv_tmp rfl rv_nil) ((hsub (.cons_cons _ (.cons_cons _ (.cons _ (.refl _))))).trans (hsub_pick [0, 0] rfl)) ?_
      exact ⟨ret_int (by simp_all [mfl, fl1]), D4, h4.to (by simp_all [mfl, fl1]), rfl⟩

theorem all_tf {w0 : World} {H : Hp} {D : Duo} {A : Da} {bp : Nat} {m : Mi} (h : Two dt D A m.bx m.bys bp) (hp : thr A false = true) (hq : thr A true = false) : FnS Try.prog w0 57 #[ptr m.b, .func (.func 58) #[] #[]] (m.seg 109 :: D.seg dt :: H) (fun e H' => e = .returned (.int .i64 (mfl A).2) ∧ ∃ D', Two dt D' (mfl A).1 m.bx m.bys bp ∧ H' = m.seg 109 :: D'.seg dt :: H) := by
  refine FnS_intro (n := 30) (rs := [.tmp 4]) (vs := [ptr m.b, .func (.func 58) #[] #[]]) Try.func57 rfl Try.ntmps57 rfl rfl ?_
  refine C_seq ?_
  refine C_region ?_
  refine L_y rfl (y_assign rfl) rfl ?_
  refine L_nil ?_
  refine C_seq ?_
  refine C_region ?_
  refine L_y rfl (y_move rfl) rfl ?_
  refine L_op rfl (op_call rfl rfl (fun a w => Try.call50 a w) rfl ?_)
  refine ((present_tf h hp hq).sub (hsub_pick [0, 0] rfl)).mono ?_
  rintro _ _ ⟨g1, hg1, rfl, rfl⟩
  cases g1 with
  | none => exact slOk_none hg1 (by decide)
  | some g1 => ?_
  refine ⟨_, rfl, ?_⟩
  refine L_y rfl (y_assign rfl) rfl ?_
  refine L_nil ?_
  refine C_seq ?_
  refine C_seq ?_
  refine C_region ?_
  refine L_y rfl (y_move rfl) rfl ?_
  refine L_y rfl (y_lenS rfl rfl Try.underlying103) rfl ?_
  refine L_y rfl (y_eqi rfl rfl) rfl ?_
  refine L_nil ?_
  refine C_cond_f rfl ?_
  refine C_skip ?_
  refine C_seq ?_
  refine C_region ?_
  refine L_y rfl (y_assign rfl) rfl ?_
  refine L_nil ?_
  refine C_seq ?_
  refine C_seq ?_
  refine C_region ?_
  refine L_y rfl (y_move rfl) rfl ?_
  refine L_y rfl (y_lenS rfl rfl Try.underlying103) rfl ?_
  refine L_y rfl (y_move rfl) rfl ?_
  refine L_nil ?_
  refine C_block ?_
  refine C_loopIn (In_round ?_)
  refine C_seq ?_
  refine C_region ?_
  refine L_y rfl (y_lss rfl rfl) rfl ?_
  refine L_nil ?_
  refine C_seq ?_
  refine C_cond_t rfl ?_
  refine C_skip ?_
  refine C_seq ?_
  refine C_block ?_
  refine C_seq ?_
  refine C_region ?_
  refine L_y rfl (y_indexS rfl rfl Try.underlying103 sz_3 (by omega) (by omega) (show _ = 0 from rfl)) rfl ?_
  refine L_y rfl (y_load rfl ag_3 (sees 0 0 rfl) rfl) rfl ?_
  refine L_y rfl (y_assign rfl) rfl ?_
  refine L_nil ?_
  refine C_seq ?_
  refine C_region ?_
  refine L_y rfl (y_move rfl) rfl ?_
  refine L_y rfl (y_move rfl) rfl ?_
  refine L_y rfl (y_move rfl) rfl ?_
  refine L_y rfl (y_nilCheck rfl) rfl ?_
  refine L_y rfl (y_fieldAddr rfl fl_109_0) rfl ?_
  refine L_y rfl (y_indexA rfl rfl Try.underlying107 sz_106 (by omega) (by omega) (show _ = 0 from rfl)) rfl ?_
  refine L_op rfl (op_call rfl rfl (fun a w => Try.call58 a w) rfl ?_)
  refine (FnS.sub (hsub_pick [1, 1] rfl) (sflush_f h)).mono ?_
  rintro _ _ ⟨rfl, D2, h2, rfl⟩
  refine ⟨_, rfl, ?_⟩
  refine L_y rfl (y_nei rfl rfl) rfl ?_
  refine L_nil ?_
  refine C_cond rfl (fun hc2 => ?_) (fun hc2 => ?_)
  · skip
    refine C_region ?_
    refine L_y rfl (y_assign rfl) rfl ?_
    refine L_nil ?_
    refine C_region ?_
    refine L_y rfl (y_add rfl rfl (show _ = (1 : Int) from rfl)) rfl ?_
    refine L_y rfl (y_move rfl) rfl ?_
    refine L_nil ?_
    refine In_round ?_
    refine C_seq ?_
    refine C_region ?_
    refine L_y rfl (y_lss rfl rfl) rfl ?_
    refine L_nil ?_
    refine C_seq ?_
    refine C_cond_f rfl ?_
    refine C_exit ?_
    refine C_seq ?_
    refine C_region ?_
    refine L_y rfl (y_move rfl) rfl ?_
    refine L_y rfl (y_assign rfl) rfl ?_
    refine L_nil ?_
    refine C_ret ?_
    refine B_ret (rv_tmp rfl rv_nil) ((hsub (.cons_cons _ (.cons_cons _ (.cons _ (.refl _))))).trans (hsub_pick [0, 0] rfl)) ?_
    exact ⟨ret_int (by simp_all [mfl, fl1]), D2, h2.to (by simp_all [mfl, fl1]), rfl⟩
  · skip
    refine C_skip ?_
    refine C_region ?_
    refine L_y rfl (y_add rfl rfl (show _ = (1 : Int) from rfl)) rfl ?_
    refine L_y rfl (y_move rfl) rfl ?_
    refine L_nil ?_
    refine In_round ?_
    refine C_seq ?_
    refine C_region ?_
    refine L_y rfl (y_lss rfl rfl) rfl ?_
    refine L_nil ?_
    refine C_seq ?_
    refine C_cond_f rfl ?_
    refine C_exit ?_
    refine C_seq ?_
    refine C_region ?_
    refine L_y rfl (y_move rfl) rfl ?_
    refine L_y rfl (y_assign rfl) rfl ?_
    refine L_nil ?_
    refine C_ret ?_
    refine B_ret (rv_tmp rfl rv_nil) ((hsub (.cons_cons _ (.cons_cons _ (.cons _ (.refl _))))).trans (hsub_pick [0, 0] rfl)) ?_
    exact ⟨ret_int (by simp_all [mfl, fl1]), D2, h2.to (by simp_all [mfl, fl1]), rfl⟩

theorem all_ft {w0 : World} {H : Hp} {D : Duo} {A : Da} {bp : Nat} {m : Mi} (h : Two dt D A m.bx m.bys bp) (hp : thr A false = false) (hq : thr A true = true) : FnS Try.prog w0 57 #[ptr m.b, .func (.func 58) #[] #[]] (m.seg 109 :: D.seg dt :: H) (fun e H' => e = .returned (.int .i64 (mfl A).2) ∧ ∃ D', Two dt D' (mfl A).1 m.bx m.bys bp ∧ H' = m.seg 109 :: D'.seg dt :: H) := by
  refine FnS_intro (n := 30) (rs := [.tmp 4]) (vs := [ptr m.b, .func (.func 58) #[] #[]]) Try.func57 rfl Try.ntmps57 rfl rfl ?_
  refine C_seq ?_
  refine C_region ?_
  refine L_y rfl (y_assign rfl) rfl ?_
  refine L_nil ?_
  refine C_seq ?_
  refine C_region ?_
  refine L_y rfl (y_move rfl) rfl ?_
  refine L_op rfl (op_call rfl rfl (fun a w => Try.call50 a w) rfl ?_)
  refine ((present_ft h hp hq).sub (hsub_pick [0, 0] rfl)).mono ?_
  rintro _ _ ⟨g1, hg1, rfl, rfl⟩
  cases g1 with
  | none => exact slOk_none hg1 (by decide)
  | some g1 => ?_
  refine ⟨_, rfl, ?_⟩
  refine L_y rfl (y_assign rfl) rfl ?_
  refine L_nil ?_
  refine C_seq ?_
  refine C_seq ?_
  refine C_region ?_
  refine L_y rfl (y_move rfl) rfl ?_
  refine L_y rfl (y_lenS rfl rfl Try.underlying103) rfl ?_
  refine L_y rfl (y_eqi rfl rfl) rfl ?_
  refine L_nil ?_
  refine C_cond_f rfl ?_
  refine C_skip ?_
  refine C_seq ?_
  refine C_region ?_
  refine L_y rfl (y_assign rfl) rfl ?_
  refine L_nil ?_
  refine C_seq ?_
  refine C_seq ?_
  refine C_region ?_
  refine L_y rfl (y_move rfl) rfl ?_
  refine L_y rfl (y_lenS rfl rfl Try.underlying103) rfl ?_
  refine L_y rfl (y_move rfl) rfl ?_
  refine L_nil ?_
  refine C_block ?_
  refine C_loopIn (In_round ?_)
  refine C_seq ?_
  refine C_region ?_
  refine L_y rfl (y_lss rfl rfl) rfl ?_
  refine L_nil ?_
  refine C_seq ?_
  refine C_cond_t rfl ?_
  refine C_skip ?_
  refine C_seq ?_
  refine C_block ?_
  refine C_seq ?_
  refine C_region ?_
  refine L_y rfl (y_indexS rfl rfl Try.underlying103 sz_3 (by omega) (by omega) (show _ = 0 from rfl)) rfl ?_
  refine L_y rfl (y_load rfl ag_3 (sees 0 0 rfl) rfl) rfl ?_
  refine L_y rfl (y_assign rfl) rfl ?_
  refine L_nil ?_
  refine C_seq ?_
  refine C_region ?_
  refine L_y rfl (y_move rfl) rfl ?_
  refine L_y rfl (y_move rfl) rfl ?_
  refine L_y rfl (y_move rfl) rfl ?_
  refine L_y rfl (y_nilCheck rfl) rfl ?_
  refine L_y rfl (y_fieldAddr rfl fl_109_0) rfl ?_
  refine L_y rfl (y_indexA rfl rfl Try.underlying107 sz_106 (by omega) (by omega) (show _ = 2 from rfl)) rfl ?_
  refine L_op rfl (op_call rfl rfl (fun a w => Try.call58 a w) rfl ?_)
  refine (FnS.sub (hsub_pick [1, 1] rfl) (sflush_t h)).mono ?_
  rintro _ _ ⟨rfl, D2, h2, rfl⟩
  refine ⟨_, rfl, ?_⟩
  refine L_y rfl (y_nei rfl rfl) rfl ?_
  refine L_nil ?_
  refine C_cond rfl (fun hc2 => ?_) (fun hc2 => ?_)
  · skip
    refine C_region ?_
    refine L_y rfl (y_assign rfl) rfl ?_
    refine L_nil ?_
    refine C_region ?_
    refine L_y rfl (y_add rfl rfl (show _ = (1 : Int) from rfl)) rfl ?_
    refine L_y rfl (y_move rfl) rfl ?_
    refine L_nil ?_
    refine In_round ?_
    refine C_seq ?_
    refine C_region ?_
    refine L_y rfl (y_lss rfl rfl) rfl ?_
    refine L_nil ?_
    refine C_seq ?_
    refine C_cond_f rfl ?_
    refine C_exit ?_
    refine C_seq ?_
    refine C_region ?_
    refine L_y rfl (y_move rfl) rfl ?_
    refine L_y rfl (y_assign rfl) rfl ?_
    refine L_nil ?_
    refine C_ret ?_
    refine B_ret (rv_tmp rfl rv_nil) ((hsub (.cons_cons _ (.cons_cons _ (.cons _ (.refl _))))).trans (hsub_pick [0, 0] rfl)) ?_
    exact ⟨ret_int (by simp_all [mfl, fl1]), D2, h2.to (by simp_all [mfl, fl1]), rfl⟩
  · skip
    refine C_skip ?_
    refine C_region ?_
    refine L_y rfl (y_add rfl rfl (show _ = (1 : Int) from rfl)) rfl ?_
    refine L_y rfl (y_move rfl) rfl ?_
    refine L_nil ?_
    refine In_round ?_
    refine C_seq ?_
    refine C_region ?_
    refine L_y rfl (y_lss rfl rfl) rfl ?_
    refine L_nil ?_
    refine C_seq ?_
    refine C_cond_f rfl ?_
    refine C_exit ?_
    refine C_seq ?_
    refine C_region ?_
    refine L_y rfl (y_move rfl) rfl ?_
    refine L_y rfl (y_assign rfl) rfl ?_
    refine L_nil ?_
    refine C_ret ?_
    refine B_ret (rv_tmp rfl rv_nil) ((hsub (.cons_cons _ (.cons_cons _ (.cons _ (.refl _))))).trans (hsub_pick [0, 0] rfl)) ?_
    exact ⟨ret_int (by simp_all [mfl, fl1]), D2, h2.to (by simp_all [mfl, fl1]), rfl⟩

theorem all_ff {w0 : World} {H : Hp} {D : Duo} {A : Da} {bp : Nat} {m : Mi} (h : Two dt D A m.bx m.bys bp) (hp : thr A false = false) (hq : thr A true = false) : FnS Try.prog w0 57 #[ptr m.b, .func (.func 58) #[] #[]] (m.seg 109 :: D.seg dt :: H) (fun e H' => e = .returned (.int .i64 (mfl A).2) ∧ ∃ D', Two dt D' (mfl A).1 m.bx m.bys bp ∧ H' = m.seg 109 :: D'.seg dt :: H) := by
  refine FnS_intro (n := 30) (rs := [.tmp 4]) (vs := [ptr m.b, .func (.func 58) #[] #[]]) Try.func57 rfl Try.ntmps57 rfl rfl ?_
  refine C_seq ?_
  refine C_region ?_
  refine L_y rfl (y_assign rfl) rfl ?_
  refine L_nil ?_
  refine C_seq ?_
  refine C_region ?_
  refine L_y rfl (y_move rfl) rfl ?_
  refine L_op rfl (op_call rfl rfl (fun a w => Try.call50 a w) rfl ?_)
  refine ((present_ff h hp hq).sub (hsub_pick [0, 0] rfl)).mono ?_
  rintro _ _ ⟨rfl, rfl⟩
  refine ⟨_, rfl, ?_⟩
  refine L_y rfl (y_assign rfl) rfl ?_
  refine L_nil ?_
  refine C_seq ?_
  refine C_seq ?_
  refine C_region ?_
  refine L_y rfl (y_move rfl) rfl ?_
  refine L_y rfl (y_lenS rfl rfl Try.underlying103) rfl ?_
  refine L_y rfl (y_eqi rfl rfl) rfl ?_
  refine L_nil ?_
  refine C_cond_t rfl ?_
  refine C_seq ?_
  refine C_region ?_
  refine L_y rfl (y_assign rfl) rfl ?_
  refine L_nil ?_
  refine C_ret ?_
  refine B_ret (rv_tmp rfl rv_nil) ((hsub (.cons_cons _ (.cons_cons _ (.refl _)))).trans (hsub_pick [0, 0] rfl)) ?_
  exact ⟨ret_int (by simp_all [mfl, fl1]), D, h.to (by simp_all [mfl, fl1]), rfl⟩

theorem all_m {w0 : World} {H : Hp} {D : Duo} {A : Da} {bp : Nat} {m : Mi} (h : Two dt D A m.bx m.bys bp) : FnS Try.prog w0 57 #[ptr m.b, .func (.func 58) #[] #[]] (m.seg 109 :: D.seg dt :: H) (fun e H' => e = .returned (.int .i64 (mfl A).2) ∧ ∃ D', Two dt D' (mfl A).1 m.bx m.bys bp ∧ H' = m.seg 109 :: D'.seg dt :: H) := by
  cases hp : thr A false <;> cases hq : thr A true
  · exact all_ff h hp hq
  · exact all_ft h hp hq
  · exact all_tf h hp hq
  · exact all_tt h hp hq

theorem mflush_m {w0 : World} {H : Hp} {D : Duo} {A : Da} {bp : Nat} {m : Mi} (h : Two dt D A m.bx m.bys bp) : FnS Try.prog w0 34 #[ptr m.b] (m.seg 109 :: D.seg dt :: H) (fun e H' => e = .returned (.int .i64 (mfl A).2) ∧ ∃ D', Two dt D' (mfl A).1 m.bx m.bys bp ∧ H' = m.seg 109 :: D'.seg dt :: H) := by
  refine FnS_intro (n := 7) (rs := [.tmp 2]) (vs := [ptr m.b]) Try.func34 rfl Try.ntmps34 rfl rfl ?_
  refine C_seq ?_
  refine C_region ?_
  refine L_y rfl (y_assign rfl) rfl ?_
  refine L_nil ?_
  refine C_seq ?_
  refine C_seq ?_
  refine C_region ?_
  refine L_y rfl (y_move rfl) rfl ?_
  refine L_y rfl (y_eqp rfl rfl Try.underlying25) rfl ?_
  refine L_nil ?_
  refine C_cond_f rfl ?_
  refine C_skip ?_
  refine C_seq ?_
  refine C_region ?_
  refine L_y rfl (y_move rfl) rfl ?_
  refine L_op rfl (op_call rfl rfl (fun a w => Try.call57 a w) rfl ?_)
  refine (all_m h).mono ?_
  rintro _ _ ⟨rfl, D1, h1, rfl⟩
  refine ⟨_, rfl, ?_⟩
  refine L_y rfl (y_assign rfl) rfl ?_
  refine L_nil ?_
  refine C_ret ?_
  refine B_ret (rv_tmp rfl rv_nil) (HSub.refl _) ?_
  exact ⟨rfl, D1, h1, rfl⟩

theorem mflush_nil {w0 : World} {H : Hp}  : FnS Try.prog w0 34 #[.pointer none] H (fun e H' => e = .returned (.int .i64 13) ∧ H' = H) := by
  refine FnS_intro (n := 7) (rs := [.tmp 2]) (vs := [.pointer none]) Try.func34 rfl Try.ntmps34 rfl rfl ?_
  refine C_seq ?_
  refine C_region ?_
  refine L_y rfl (y_assign rfl) rfl ?_
  refine L_nil ?_
  refine C_seq ?_
  refine C_seq ?_
  refine C_region ?_
  refine L_y rfl (y_move rfl) rfl ?_
  refine L_y rfl (y_eqp rfl rfl Try.underlying25) rfl ?_
  refine L_nil ?_
  refine C_cond_t rfl ?_
  refine C_seq ?_
  refine C_region ?_
  refine L_y rfl (y_assign rfl) rfl ?_
  refine L_nil ?_
  refine C_ret ?_
  refine B_ret (rv_tmp rfl rv_nil) (HSub.refl _) ?_
  exact ⟨rfl, rfl⟩

end Go.Proofs.Ytoaalclbplgegaa
