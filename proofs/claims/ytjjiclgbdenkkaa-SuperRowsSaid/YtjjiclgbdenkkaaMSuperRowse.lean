/- Own work: texts MfW, VwW, MbW, MeW, Sy, MyW, VqW, Ls, Ss, Ft, SqW, Sz, Sx, put together. -/
import Derived.Test.YtjjiclgbdenkkaaProg
import Derived.Test.YtjjiclgbdenkkaaMSuperRowsd
/- walks (own work; the walks' lines by a program of this repo). -/
set_option linter.unusedVariables false
set_option linter.unusedSimpArgs false
set_option maxRecDepth 20000
namespace Go.Proofs.Ytjjiclgbdenkkaa
open Go.Sl
attribute [local irreducible] BodyQ WpC WpL WpS WpH OpW FnS


theorem ask_all {w0 : World} {H : Hp} {v : Value} : FnS Try.prog w0 55 #[v] H (fun e H' => e = .returned (.bool true) ∧ H' = H) := by
  refine FnS_intro (n := 3) (rs := [.tmp 2]) (vs := [v]) Try.func55 rfl Try.ntmps55 rfl rfl ?_
  refine C_seq ?_
  refine C_region ?_
  refine L_y rfl (y_assign rfl) rfl ?_
  refine L_nil ?_
  refine C_seq ?_
  refine C_region ?_
  refine L_y rfl (y_assign rfl) rfl ?_
  refine L_nil ?_
  refine C_ret ?_
  refine B_ret (rv_tmp rfl rv_nil) (HSub.refl _) ?_
  exact ⟨rfl, rfl⟩

theorem mwrite_m {w0 : World} {H : Hp} {D : Duo} {A : Da} {bp : Nat} {m : Mi} (h : Two dt D A m.bx m.bys bp) (n : Int) (s : Sec) (hs : s.length = 128) (hQ : ∀ i, (A.dev i).Q.length < 99990) : FnS Try.prog w0 19 #[ptr m.b, .int .i64 n, .agg (bs s).toArray] (m.seg 110 :: D.seg dt :: H) (fun e H' => e = .returned (.int .i64 (putE m A askAll n s)) ∧ ∃ D', Two dt D' (putDa m A askAll n s) m.bx m.bys bp ∧ H' = (putm m A askAll n s).seg 110 :: D'.seg dt :: H) := by
  refine FnS_intro (n := 11) (rs := [.tmp 6]) (vs := [ptr m.b, .int .i64 n, .agg (bs s).toArray]) Try.func19 rfl Try.ntmps19 rfl rfl ?_
  refine C_seq ?_
  refine C_region ?_
  refine L_op rfl (op_box rfl rfl rfl (fun B1 => ?_))
  refine L_y rfl (y_assign rfl) rfl ?_
  refine L_nil ?_
  refine C_seq ?_
  refine C_region ?_
  refine L_y rfl (y_move rfl) rfl ?_
  refine L_y rfl (y_move rfl) rfl ?_
  refine L_y rfl (y_loadA rfl ag_32 sz_32 (sees 0 0 rfl) (by rw [bs_length, hs]; decide) (bs_whole0 _ hs)) rfl ?_
  refine L_op rfl (op_call rfl rfl (fun a w => Try.call54 a w) rfl ?_)
  refine (FnS.sub (hsub_pick [1, 1] rfl) (put_m h n s hs (cap := []) ⟨fun a w => Try.call55 a w, fun i D A X _ _ => ask_all⟩ hQ)).mono ?_
  rintro _ _ ⟨rfl, D1, h1, rfl⟩
  refine ⟨_, rfl, ?_⟩
  refine L_y rfl (y_assign rfl) rfl ?_
  refine L_nil ?_
  refine C_ret ?_
  refine B_ret (rv_tmp rfl rv_nil) (hsub (.cons_cons _ (.cons_cons _ (.cons _ (.refl _))))) ?_
  exact ⟨rfl, D1, h1, rfl⟩

theorem sflush_f {w0 : World} {H : Hp} {D : Duo} {A : Da} {bp : Nat} {m : Mi} (h : Two dt D A m.bx m.bys bp) : FnS Try.prog w0 57 #[.pointer (some ⟨m.b, 0, none⟩)] (m.seg 110 :: D.seg dt :: H) (fun e H' => e = .returned (.int .i64 (A.fE false)) ∧ ∃ D', Two dt D' (A.flush false) m.bx m.bys bp ∧ H' = m.seg 110 :: D'.seg dt :: H) := by
  refine FnS_intro (n := 11) (rs := [.tmp 2]) (vs := [.pointer (some ⟨m.b, 0, none⟩)]) Try.func57 rfl Try.ntmps57 rfl rfl ?_
  refine C_seq ?_
  refine C_region ?_
  refine L_y rfl (y_assign rfl) rfl ?_
  refine L_nil ?_
  refine C_seq ?_
  refine C_region ?_
  refine L_y rfl (y_move rfl) rfl ?_
  refine L_y rfl (y_nilCheck rfl) rfl ?_
  refine L_y rfl (y_fieldAddr rfl fl_107_0) rfl ?_
  refine L_y rfl (y_load rfl ag_24 (sees 0 0 rfl) rfl) rfl ?_
  refine L_y rfl (y_makeFunc rfl rfl) rfl ?_
  refine L_y rfl (y_assign rfl) rfl ?_
  refine L_nil ?_
  refine C_seq ?_
  refine C_region ?_
  refine L_y rfl (y_move rfl) rfl ?_
  refine L_op rfl (op_call rfl rfl (fun a w => Try.call86 a w) rfl ?_)
  refine ((flush_d h false).sub (hsub_pick [1] rfl)).mono ?_
  rintro _ _ ⟨rfl, D1, h1, rfl⟩
  refine ⟨_, rfl, ?_⟩
  refine L_y rfl (y_assign rfl) rfl ?_
  refine L_nil ?_
  refine C_ret ?_
  refine B_ret (rv_tmp rfl rv_nil) ((hsub (.cons_cons _ (.cons_cons _ (.refl _)))).trans (hsub_pick [1, 0] rfl)) ?_
  exact ⟨rfl, D1, h1, rfl⟩

theorem sflush_t {w0 : World} {H : Hp} {D : Duo} {A : Da} {bp : Nat} {m : Mi} (h : Two dt D A m.bx m.bys bp) : FnS Try.prog w0 57 #[.pointer (some ⟨m.b, 2, none⟩)] (m.seg 110 :: D.seg dt :: H) (fun e H' => e = .returned (.int .i64 (A.fE true)) ∧ ∃ D', Two dt D' (A.flush true) m.bx m.bys bp ∧ H' = m.seg 110 :: D'.seg dt :: H) := by
  refine FnS_intro (n := 11) (rs := [.tmp 2]) (vs := [.pointer (some ⟨m.b, 2, none⟩)]) Try.func57 rfl Try.ntmps57 rfl rfl ?_
  refine C_seq ?_
  refine C_region ?_
  refine L_y rfl (y_assign rfl) rfl ?_
  refine L_nil ?_
  refine C_seq ?_
  refine C_region ?_
  refine L_y rfl (y_move rfl) rfl ?_
  refine L_y rfl (y_nilCheck rfl) rfl ?_
  refine L_y rfl (y_fieldAddr rfl fl_107_0) rfl ?_
  refine L_y rfl (y_load rfl ag_24 (sees 0 0 rfl) rfl) rfl ?_
  refine L_y rfl (y_makeFunc rfl rfl) rfl ?_
  refine L_y rfl (y_assign rfl) rfl ?_
  refine L_nil ?_
  refine C_seq ?_
  refine C_region ?_
  refine L_y rfl (y_move rfl) rfl ?_
  refine L_op rfl (op_call rfl rfl (fun a w => Try.call86 a w) rfl ?_)
  refine ((flush_d h true).sub (hsub_pick [1] rfl)).mono ?_
  rintro _ _ ⟨rfl, D1, h1, rfl⟩
  refine ⟨_, rfl, ?_⟩
  refine L_y rfl (y_assign rfl) rfl ?_
  refine L_nil ?_
  refine C_ret ?_
  refine B_ret (rv_tmp rfl rv_nil) ((hsub (.cons_cons _ (.cons_cons _ (.refl _)))).trans (hsub_pick [1, 0] rfl)) ?_
  exact ⟨rfl, D1, h1, rfl⟩

theorem all_tt {w0 : World} {H : Hp} {D : Duo} {A : Da} {bp : Nat} {m : Mi} (h : Two dt D A m.bx m.bys bp) (hp : thr A false = true) (hq : thr A true = true) : FnS Try.prog w0 56 #[ptr m.b, .func (.func 57) #[] #[]] (m.seg 110 :: D.seg dt :: H) (fun e H' => e = .returned (.int .i64 (mfl A).2) ∧ ∃ D', Two dt D' (mfl A).1 m.bx m.bys bp ∧ H' = m.seg 110 :: D'.seg dt :: H) := by
  refine FnS_intro (n := 30) (rs := [.tmp 4]) (vs := [ptr m.b, .func (.func 57) #[] #[]]) Try.func56 rfl Try.ntmps56 rfl rfl ?_
  refine C_seq ?_
  refine C_region ?_
  refine L_y rfl (y_assign rfl) rfl ?_
  refine L_nil ?_
  refine C_seq ?_
  refine C_region ?_
  refine L_y rfl (y_move rfl) rfl ?_
  refine L_op rfl (op_call rfl rfl (fun a w => Try.call59 a w) rfl ?_)
  refine ((present_tt h hp hq).sub (hsub_pick [0, 0] rfl)).mono ?_
  rintro _ _ ⟨g1, hg1, rfl, rfl⟩
  cases g1 with
  | none => exact slOk_none hg1 (by decide)
  | some g1 => ?_
  refine ⟨_, rfl, ?_⟩
  refine L_y rfl (y_assign rfl) rfl ?_
  refine L_nil ?_
  refine C_seq ?_
  refine C_seq ?_
  refine C_region ?_
  refine L_y rfl (y_move rfl) rfl ?_
  refine L_y rfl (y_lenS rfl rfl Try.underlying118) rfl ?_
  refine L_y rfl (y_eqi rfl rfl) rfl ?_
  refine L_nil ?_
  refine C_cond_f rfl ?_
  refine C_skip ?_
  refine C_seq ?_
  refine C_region ?_
  refine L_y rfl (y_assign rfl) rfl ?_
  refine L_nil ?_
  refine C_seq ?_
  refine C_seq ?_
  refine C_region ?_
  refine L_y rfl (y_move rfl) rfl ?_
  refine L_y rfl (y_lenS rfl rfl Try.underlying118) rfl ?_
  refine L_y rfl (y_move rfl) rfl ?_
  refine L_nil ?_
  refine C_block ?_
  refine C_loopIn (In_round ?_)
  refine C_seq ?_
  refine C_region ?_
  refine L_y rfl (y_lss rfl rfl) rfl ?_
  refine L_nil ?_
  refine C_seq ?_
  refine C_cond_t rfl ?_
  refine C_skip ?_
  refine C_seq ?_
  refine C_block ?_
  refine C_seq ?_
  refine C_region ?_
  refine L_y rfl (y_indexS rfl rfl Try.underlying118 sz_3 (by omega) (by omega) (show _ = 0 from rfl)) rfl ?_
  refine L_y rfl (y_load rfl ag_3 (sees 0 0 rfl) rfl) rfl ?_
  refine L_y rfl (y_assign rfl) rfl ?_
  refine L_nil ?_
  refine C_seq ?_
  refine C_region ?_
  refine L_y rfl (y_move rfl) rfl ?_
  refine L_y rfl (y_move rfl) rfl ?_
  refine L_y rfl (y_move rfl) rfl ?_
  refine L_y rfl (y_nilCheck rfl) rfl ?_
  refine L_y rfl (y_fieldAddr rfl fl_110_0) rfl ?_
  refine L_y rfl (y_indexA rfl rfl Try.underlying108 sz_107 (by omega) (by omega) (show _ = 0 from rfl)) rfl ?_
  refine L_op rfl (op_call rfl rfl (fun a w => Try.call57 a w) rfl ?_)
  refine (FnS.sub (hsub_pick [1, 1] rfl) (sflush_f h)).mono ?_
  rintro _ _ ⟨rfl, D2, h2, rfl⟩
  refine ⟨_, rfl, ?_⟩
  refine L_y rfl (y_nei rfl rfl) rfl ?_
  refine L_nil ?_
  refine C_cond rfl (fun hc2 => ?_) (fun hc2 => ?_)
  · skip
    refine C_region ?_
    refine L_y rfl (y_assign rfl) rfl ?_
    refine L_nil ?_
    refine C_region ?_
    refine L_y rfl (y_add rfl rfl (show _ = (1 : Int) from rfl)) rfl ?_
    refine L_y rfl (y_move rfl) rfl ?_
    refine L_nil ?_
    refine In_round ?_
    refine C_seq ?_
    refine C_region ?_
    refine L_y rfl (y_lss rfl rfl) rfl ?_
    refine L_nil ?_
    refine C_seq ?_
    refine C_cond_t rfl ?_
    refine C_skip ?_
    refine C_seq ?_
    refine C_block ?_
    refine C_seq ?_
    refine C_region ?_
    refine L_y rfl (y_indexS rfl rfl Try.underlying118 sz_3 (by omega) (by omega) (show _ = 1 from rfl)) rfl ?_
    refine L_y rfl (y_load rfl ag_3 (sees 2 0 rfl) rfl) rfl ?_
    refine L_y rfl (y_assign rfl) rfl ?_
    refine L_nil ?_
    refine C_seq ?_
    refine C_region ?_
    refine L_y rfl (y_move rfl) rfl ?_
    refine L_y rfl (y_move rfl) rfl ?_
    refine L_y rfl (y_move rfl) rfl ?_
    refine L_y rfl (y_nilCheck rfl) rfl ?_
    refine L_y rfl (y_fieldAddr rfl fl_110_0) rfl ?_
    refine L_y rfl (y_indexA rfl rfl Try.underlying108 sz_107 (by omega) (by omega) (show _ = 2 from rfl)) rfl ?_
    refine L_op rfl (op_call rfl rfl (fun a w => Try.call57 a w) rfl ?_)
    refine (FnS.sub (hsub_pick [0, 0] rfl) (sflush_t h2)).mono ?_
    rintro _ _ ⟨rfl, D3, h3, rfl⟩
    refine ⟨_, rfl, ?_⟩
    refine L_y rfl (y_nei rfl rfl) rfl ?_
    refine L_nil ?_
    refine C_cond rfl (fun hc2 => ?_) (fun hc2 => ?_)
    · skip
      refine C_region ?_
      refine L_y rfl (y_assign rfl) rfl ?_
      refine L_nil ?_
      refine C_region ?_
      refine L_y rfl (y_add rfl rfl (show _ = (2 : Int) from rfl)) rfl ?_
      refine L_y rfl (y_move rfl) rfl ?_
      refine L_nil ?_
      refine In_round ?_
      refine C_seq ?_
      refine C_region ?_
      refine L_y rfl (y_lss rfl rfl) rfl ?_
      refine L_nil ?_
      refine C_seq ?_
      refine C_cond_f rfl ?_
      refine C_exit ?_
      refine C_seq ?_
      refine C_region ?_
      refine L_y rfl (y_move rfl) rfl ?_
      refine L_y rfl (y_assign rfl) rfl ?_
      refine L_nil ?_
      refine C_ret ?_
      refine B_ret (rv_tmp rfl rv_nil) ((hsub (.cons_cons _ (.cons_cons _ (.cons _ (.refl _))))).trans (hsub_pick [0, 0] rfl)) ?_
      exact ⟨ret_int (by simp_all [mfl, fl1]), D3, h3.to (by simp_all [mfl, fl1]), rfl⟩
    · skip
      refine C_skip ?_
      refine C_region ?_
      refine L_y rfl (y_add rfl rfl (show _ = (2 : Int) from rfl)) rfl ?_
      refine L_y rfl (y_move rfl) rfl ?_
      refine L_nil ?_
      refine In_round ?_
      refine C_seq ?_
      refine C_region ?_
      refine L_y rfl (y_lss rfl rfl) rfl ?_
      refine L_nil ?_
      refine C_seq ?_
      refine C_cond_f rfl ?_
      refine C_exit ?_
      refine C_seq ?_
      refine C_region ?_
      refine L_y rfl (y_move rfl) rfl ?_
      refine L_y rfl (y_assign rfl) rfl ?_
      refine L_nil ?_
      refine C_ret ?_
      refine B_ret (rv_tmp rfl rv_nil) ((hsub (.cons_cons _ (.cons_cons _ (.cons _ (.refl _))))).trans (hsub_pick [0, 0] rfl)) ?_
      exact ⟨ret_int (by simp_all [mfl, fl1]), D3, h3.to (by simp_all [mfl, fl1]), rfl⟩
  · skip
    refine C_skip ?_
    refine C_region ?_
    refine L_y rfl (y_add rfl rfl (show _ = (1 : Int) from rfl)) rfl ?_
    refine L_y rfl (y_move rfl) rfl ?_
    refine L_nil ?_
    refine In_round ?_
    refine C_seq ?_
    refine C_region ?_
    refine L_y rfl (y_lss rfl rfl) rfl ?_
    refine L_nil ?_
    refine C_seq ?_
    refine C_cond_t rfl ?_
    refine C_skip ?_
    refine C_seq ?_
    refine C_block ?_
    refine C_seq ?_
    refine C_region ?_
    refine L_y rfl (y_indexS rfl rfl Try.underlying118 sz_3 (by omega) (by omega) (show _ = 1 from rfl)) rfl ?_
    refine L_y rfl (y_load rfl ag_3 (sees 2 0 rfl) rfl) rfl ?_
    refine L_y rfl (y_assign rfl) rfl ?_
    refine L_nil ?_
    refine C_seq ?_
    refine C_region ?_
    refine L_y rfl (y_move rfl) rfl ?_
    refine L_y rfl (y_move rfl) rfl ?_
    refine L_y rfl (y_move rfl) rfl ?_
    refine L_y rfl (y_nilCheck rfl) rfl ?_
    refine L_y rfl (y_fieldAddr rfl fl_110_0) rfl ?_
    refine L_y rfl (y_indexA rfl rfl Try.underlying108 sz_107 (by omega) (by omega) (show _ = 2 from rfl)) rfl ?_
    refine L_op rfl (op_call rfl rfl (fun a w => Try.call57 a w) rfl ?_)
    refine (FnS.sub (hsub_pick [0, 0] rfl) (sflush_t h2)).mono ?_
    rintro _ _ ⟨rfl, D4, h4, rfl⟩
    refine ⟨_, rfl, ?_⟩
    refine L_y rfl (y_nei rfl rfl) rfl ?_
    refine L_nil ?_
    refine C_cond rfl (fun hc2 => ?_) (fun hc2 => ?_)
    · skip
      refine C_region ?_
      refine L_y rfl (y_assign rfl) rfl ?_
      refine L_nil ?_
      refine C_region ?_
      refine L_y rfl (y_add rfl rfl (show _ = (2 : Int) from rfl)) rfl ?_
      refine L_y rfl (y_move rfl) rfl ?_
      refine L_nil ?_
      refine In_round ?_
      refine C_seq ?_
      refine C_region ?_
      refine L_y rfl (y_lss rfl rfl) rfl ?_
      refine L_nil ?_
      refine C_seq ?_
      refine C_cond_f rfl ?_
      refine C_exit ?_
      refine C_seq ?_
      refine C_region ?_
      refine L_y rfl (y_move rfl) rfl ?_
      refine L_y rfl (y_assign rfl) rfl ?_
      refine L_nil ?_
      refine C_ret ?_
      refine B_ret (rv_tmp rfl rv_nil) ((hsub (.cons_cons _ (.cons_cons _ (.cons _ (.refl _))))).trans (hsub_pick [0, 0] rfl)) ?_
      exact ⟨ret_int (by simp_all [mfl, fl1]), D4, h4.to (by simp_all [mfl, fl1]), rfl⟩
    · skip
      refine C_skip ?_
      refine C_region ?_
      refine L_y rfl (y_add rfl rfl (show _ = (2 : Int) from rfl)) rfl ?_
      refine L_y rfl (y_move rfl) rfl ?_
      refine L_nil ?_
      refine In_round ?_
      refine C_seq ?_
      refine C_region ?_
      refine L_y rfl (y_lss rfl rfl) rfl ?_
      refine L_nil ?_
      refine C_seq ?_
      refine C_cond_f rfl ?_
      refine C_exit ?_
      refine C_seq ?_
      refine C_region ?_
      refine L_y rfl (y_move rfl) rfl ?_
      refine L_y rfl (y_assign rfl) rfl ?_
      refine L_nil ?_
      refine C_ret ?_
      refine B_ret (rv_tmp rfl rv_nil) ((hsub (.cons_cons _ (.cons_cons _ (.cons _ (.refl _))))).trans (hsub_pick [0, 0] rfl)) ?_
      exact ⟨ret_int (by simp_all [mfl, fl1]), D4, h4.to (by simp_all [mfl, fl1]), rfl⟩

theorem all_tf {w0 : World} {H : Hp} {D : Duo} {A : Da} {bp : Nat} {m : Mi} (h : Two dt D A m.bx m.bys bp) (hp : thr A false = true) (hq : thr A true = false) : FnS Try.prog w0 56 #[ptr m.b, .func (.func 57) #[] #[]] (m.seg 110 :: D.seg dt :: H) (fun e H' => e = .returned (.int .i64 (mfl A).2) ∧ ∃ D', Two dt D' (mfl A).1 m.bx m.bys bp ∧ H' = m.seg 110 :: D'.seg dt :: H) := by
  refine FnS_intro (n := 30) (rs := [.tmp 4]) (vs := [ptr m.b, .func (.func 57) #[] #[]]) Try.func56 rfl Try.ntmps56 rfl rfl ?_
  refine C_seq ?_
  refine C_region ?_
  refine L_y rfl (y_assign rfl) rfl ?_
  refine L_nil ?_
  refine C_seq ?_
  refine C_region ?_
  refine L_y rfl (y_move rfl) rfl ?_
  refine L_op rfl (op_call rfl rfl (fun a w => Try.call59 a w) rfl ?_)
  refine ((present_tf h hp hq).sub (hsub_pick [0, 0] rfl)).mono ?_
  rintro _ _ ⟨g1, hg1, rfl, rfl⟩
  cases g1 with
  | none => exact slOk_none hg1 (by decide)
  | some g1 => ?_
  refine ⟨_, rfl, ?_⟩
  refine L_y rfl (y_assign rfl) rfl ?_
  refine L_nil ?_
  refine C_seq ?_
  refine C_seq ?_
  refine C_region ?_
  refine L_y rfl (y_move rfl) rfl ?_
  refine L_y rfl (y_lenS rfl rfl Try.underlying118) rfl ?_
  refine L_y rfl (y_eqi rfl rfl) rfl ?_
  refine L_nil ?_
  refine C_cond_f rfl ?_
  refine C_skip ?_
  refine C_seq ?_
  refine C_region ?_
  refine L_y rfl (y_assign rfl) rfl ?_
  refine L_nil ?_
  refine C_seq ?_
  refine C_seq ?_
  refine C_region ?_
  refine L_y rfl (y_move rfl) rfl ?_
  refine L_y rfl (y_lenS rfl rfl Try.underlying118) rfl ?_
  refine L_y rfl (y_move rfl) rfl ?_
  refine L_nil ?_
  refine C_block ?_
  refine C_loopIn (In_round ?_)
  refine C_seq ?_
  refine C_region ?_
  refine L_y rfl (y_lss rfl rfl) rfl ?_
  refine L_nil ?_
  refine C_seq ?_
  refine C_cond_t rfl ?_
  refine C_skip ?_
  refine C_seq ?_
  refine C_block ?_
  refine C_seq ?_
  refine C_region ?_
  refine L_y rfl (y_indexS rfl rfl Try.underlying118 sz_3 (by omega) (by omega) (show _ = 0 from rfl)) rfl ?_
  refine L_y rfl (y_load rfl ag_3 (sees 0 0 rfl) rfl) rfl ?_
  refine L_y rfl (y_assign rfl) rfl ?_
  refine L_nil ?_
  refine C_seq ?_
  refine C_region ?_
  refine L_y rfl (y_move rfl) rfl ?_
  refine L_y rfl (y_move rfl) rfl ?_
  refine L_y rfl (y_move rfl) rfl ?_
  refine L_y rfl (y_nilCheck rfl) rfl ?_
  refine L_y rfl (y_fieldAddr rfl fl_110_0) rfl ?_
  refine L_y rfl (y_indexA rfl rfl Try.underlying108 sz_107 (by omega) (by omega) (show _ = 0 from rfl)) rfl ?_
  refine L_op rfl (op_call rfl rfl (fun a w => Try.call57 a w) rfl ?_)
  refine (FnS.sub (hsub_pick [1, 1] rfl) (sflush_f h)).mono ?_
  rintro _ _ ⟨rfl, D2, h2, rfl⟩
  refine ⟨_, rfl, ?_⟩
  refine L_y rfl (y_nei rfl rfl) rfl ?_
  refine L_nil ?_
  refine C_cond rfl (fun hc2 => ?_) (fun hc2 => ?_)
  · skip
    refine C_region ?_
    refine L_y rfl (y_assign rfl) rfl ?_
    refine L_nil ?_
    refine C_region ?_
    refine L_y rfl (y_add rfl rfl (show _ = (1 : Int) from rfl)) rfl ?_
    refine L_y rfl (y_move rfl) rfl ?_
    refine L_nil ?_
    refine In_round ?_
    refine C_seq ?_
    refine C_region ?_
    refine L_y rfl (y_lss rfl rfl) rfl ?_
    refine L_nil ?_
    refine C_seq ?_
    refine C_cond_f rfl ?_
    refine C_exit ?_
    refine C_seq ?_
    refine C_region ?_
    refine L_y rfl (y_move rfl) rfl ?_
    refine L_y rfl (y_assign rfl) rfl ?_
    refine L_nil ?_
    refine C_ret ?_
    refine B_ret (rv_tmp rfl rv_nil) ((hsub (.cons_cons _ (.cons_cons _ (.cons _ (.refl _))))).trans (hsub_pick [0, 0] rfl)) ?_
    exact ⟨ret_int (by simp_all [mfl, fl1]), D2, h2.to (by simp_all [mfl, fl1]), rfl⟩
  · skip
    refine C_skip ?_
    refine C_region ?_
    refine L_y rfl (y_add rfl rfl (show _ = (1 : Int) from rfl)) rfl ?_
    refine L_y rfl (y_move rfl) rfl ?_
    refine L_nil ?_
    refine In_round ?_
    refine C_seq ?_
    refine C_region ?_
    refine L_y rfl (y_lss rfl rfl) rfl ?_
    refine L_nil ?_
    refine C_seq ?_
    refine C_cond_f rfl ?_
    refine C_exit ?_
    refine C_seq ?_
    refine C_region ?_
    refine L_y rfl (y_move rfl) rfl ?_
    refine L_y rfl (y_assign rfl) rfl ?_
    refine L_nil ?_
    refine C_ret ?_
    refine B_ret (rv_tmp rfl rv_nil) ((hsub (.cons_cons _ (.cons_cons _ (.cons _ (.refl _))))).trans (hsub_pick [0, 0] rfl)) ?_
    exact ⟨ret_int (by simp_all [mfl, fl1]), D2, h2.to (by simp_all [mfl, fl1]), rfl⟩

theorem all_ft {w0 : World} {H : Hp} {D : Duo} {A : Da} {bp : Nat} {m : Mi} (h : Two dt D A m.bx m.bys bp) (hp : thr A false = false) (hq : thr A true = true) : FnS Try.prog w0 56 #[ptr m.b, .func (.func 57) #[] #[]] (m.seg 110 :: D.seg dt :: H) (fun e H' => e = .returned (.int .i64 (mfl A).2) ∧ ∃ D', Two dt D' (mfl A).1 m.bx m.bys bp ∧ H' = m.seg 110 :: D'.seg dt :: H) := by
  refine FnS_intro (n := 30) (rs := [.tmp 4]) (vs := [ptr m.b, .func (.func 57) #[] #[]]) Try.func56 rfl Try.ntmps56 rfl rfl ?_
  refine C_seq ?_
  refine C_region ?_
  refine L_y rfl (y_assign rfl) rfl ?_
  refine L_nil ?_
  refine C_seq ?_
  refine C_region ?_
  refine L_y rfl (y_move rfl) rfl ?_
  refine L_op rfl (op_call rfl rfl (fun a w => Try.call59 a w) rfl ?_)
  refine ((present_ft h hp hq).sub (hsub_pick [0, 0] rfl)).mono ?_
  rintro _ _ ⟨g1, hg1, rfl, rfl⟩
  cases g1 with
  | none => exact slOk_none hg1 (by decide)
  | some g1 => ?_
  refine ⟨_, rfl, ?_⟩
  refine L_y rfl (y_assign rfl) rfl ?_
  refine L_nil ?_
  refine C_seq ?_
  refine C_seq ?_
  refine C_region ?_
  refine L_y rfl (y_move rfl) rfl ?_
  refine L_y rfl (y_lenS rfl rfl Try.underlying118) rfl ?_
  refine L_y rfl (y_eqi rfl rfl) rfl ?_
  refine L_nil ?_
  refine C_cond_f rfl ?_
  refine C_skip ?_
  refine C_seq ?_
  refine C_region ?_
  refine L_y rfl (y_assign rfl) rfl ?_
  refine L_nil ?_
  refine C_seq ?_
  refine C_seq ?_
  refine C_region ?_
  refine L_y rfl (y_move rfl) rfl ?_
  refine L_y rfl (y_lenS rfl rfl Try.underlying118) rfl ?_
  refine L_y rfl (y_move rfl) rfl ?_
  refine L_nil ?_
  refine C_block ?_
  refine C_loopIn (In_round ?_)
  refine C_seq ?_
  refine C_region ?_
  refine L_y rfl (y_lss rfl rfl) rfl ?_
  refine L_nil ?_
  refine C_seq ?_
  refine C_cond_t rfl ?_
  refine C_skip ?_
  refine C_seq ?_
  refine C_block ?_
  refine C_seq ?_
  refine C_region ?_
  refine L_y rfl (y_indexS rfl rfl Try.underlying118 sz_3 (by omega) (by omega) (show _ = 0 from rfl)) rfl ?_
  refine L_y rfl (y_load rfl ag_3 (sees 0 0 rfl) rfl) rfl ?_
  refine L_y rfl (y_assign rfl) rfl ?_
  refine L_nil ?_
  refine C_seq ?_
  refine C_region ?_
  refine L_y rfl (y_move rfl) rfl ?_
  refine L_y rfl (y_move rfl) rfl ?_
  refine L_y rfl (y_move rfl) rfl ?_
  refine L_y rfl (y_nilCheck rfl) rfl ?_
  refine L_y rfl (y_fieldAddr rfl fl_110_0) rfl ?_
  refine L_y rfl (y_indexA rfl rfl Try.underlying108 sz_107 (by omega) (by omega) (show _ = 2 from rfl)) rfl ?_
  refine L_op rfl (op_call rfl rfl (fun a w => Try.call57 a w) rfl ?_)
  refine (FnS.sub (hsub_pick [1, 1] rfl) (sflush_t h)).mono ?_
  rintro _ _ ⟨rfl, D2, h2, rfl⟩
  refine ⟨_, rfl, ?_⟩
  refine L_y rfl (y_nei rfl rfl) rfl ?_
  refine L_nil ?_
  refine C_cond rfl (fun hc2 => ?_) (fun hc2 => ?_)
  · skip
    refine C_region ?_
    refine L_y rfl (y_assign rfl) rfl ?_
    refine L_nil ?_
    refine C_region ?_
    refine L_y rfl (y_add rfl rfl (show _ = (1 : Int) from rfl)) rfl ?_
    refine L_y rfl (y_move rfl) rfl ?_
    refine L_nil ?_
    refine In_round ?_
    refine C_seq ?_
    refine C_region ?_
    refine L_y rfl (y_lss rfl rfl) rfl ?_
    refine L_nil ?_
    refine C_seq ?_
    refine C_cond_f rfl ?_
    refine C_exit ?_
    refine C_seq ?_
    refine C_region ?_
    refine L_y rfl (y_move rfl) rfl ?_
    refine L_y rfl (y_assign rfl) rfl ?_
    refine L_nil ?_
    refine C_ret ?_
    refine B_ret (rv_tmp rfl rv_nil) ((hsub (.cons_cons _ (.cons_cons _ (.cons _ (.refl _))))).trans (hsub_pick [0, 0] rfl)) ?_
    exact ⟨ret_int (by simp_all [mfl, fl1]), D2, h2.to (by simp_all [mfl, fl1]), rfl⟩
  · skip
    refine C_skip ?_
    refine C_region ?_
    refine L_y rfl (y_add rfl rfl (show _ = (1 : Int) from rfl)) rfl ?_
    refine L_y rfl (y_move rfl) rfl ?_
    refine L_nil ?_
    refine In_round ?_
    refine C_seq ?_
    refine C_region ?_
    refine L_y rfl (y_lss rfl rfl) rfl ?_
    refine L_nil ?_
    refine C_seq ?_
    refine C_cond_f rfl ?_
    refine C_exit ?_
    refine C_seq ?_
    refine C_region ?_
    refine L_y rfl (y_move rfl) rfl ?_
    refine L_y rfl (y_assign rfl) rfl ?_
    refine L_nil ?_
    refine C_ret ?_
    refine B_ret (rv_tmp rfl rv_nil) ((hsub (.cons_cons _ (.cons_cons _ (.cons _ (.refl _))))).trans (hsub_pick [0, 0] rfl)) ?_
    exact ⟨ret_int (by simp_all [mfl, fl1]), D2, h2.to (by simp_all [mfl, fl1]), rfl⟩

theorem all_ff {w0 : World} {H : Hp} {D : Duo} {A : Da} {bp : Nat} {m : Mi} (h : Two dt D A m.bx m.bys bp) (hp : thr A false = false) (hq : thr A true = false) : FnS Try.prog w0 56 #[ptr m.b, .func (.func 57) #[] #[]] (m.seg 110 :: D.seg dt :: H) (fun e H' => e = .returned (.int .i64 (mfl A).2) ∧ ∃ D', Two dt D' (mfl A).1 m.bx m.bys bp ∧ H' = m.seg 110 :: D'.seg dt :: H) := by
  refine FnS_intro (n := 30) (rs := [.tmp 4]) (vs := [ptr m.b, .func (.func 57) #[] #[]]) Try.func56 rfl Try.ntmps56 rfl rfl ?_
  refine C_seq ?_
  refine C_region ?_
  refine L_y rfl (y_assign rfl) rfl ?_
  refine L_nil ?_
  refine C_seq ?_
  refine C_region ?_
  refine L_y rfl (y_move rfl) rfl ?_
  refine L_op rfl (op_call rfl rfl (fun a w => Try.call59 a w) rfl ?_)
  refine ((present_ff h hp hq).sub (hsub_pick [0, 0] rfl)).mono ?_
  rintro _ _ ⟨rfl, rfl⟩
  refine ⟨_, rfl, ?_⟩
  refine L_y rfl (y_assign rfl) rfl ?_
  refine L_nil ?_
  refine C_seq ?_
  refine C_seq ?_
  refine C_region ?_
  refine L_y rfl (y_move rfl) rfl ?_
  refine L_y rfl (y_lenS rfl rfl Try.underlying118) rfl ?_
  refine L_y rfl (y_eqi rfl rfl) rfl ?_
  refine L_nil ?_
  refine C_cond_t rfl ?_
  refine C_seq ?_
  refine C_region ?_
  refine L_y rfl (y_assign rfl) rfl ?_
  refine L_nil ?_
  refine C_ret ?_
  refine B_ret (rv_tmp rfl rv_nil) ((hsub (.cons_cons _ (.cons_cons _ (.refl _)))).trans (hsub_pick [0, 0] rfl)) ?_
  exact ⟨ret_int (by simp_all [mfl, fl1]), D, h.to (by simp_all [mfl, fl1]), rfl⟩

theorem all_m {w0 : World} {H : Hp} {D : Duo} {A : Da} {bp : Nat} {m : Mi} (h : Two dt D A m.bx m.bys bp) : FnS Try.prog w0 56 #[ptr m.b, .func (.func 57) #[] #[]] (m.seg 110 :: D.seg dt :: H) (fun e H' => e = .returned (.int .i64 (mfl A).2) ∧ ∃ D', Two dt D' (mfl A).1 m.bx m.bys bp ∧ H' = m.seg 110 :: D'.seg dt :: H) := by
  cases hp : thr A false <;> cases hq : thr A true
  · exact all_ff h hp hq
  · exact all_ft h hp hq
  · exact all_tf h hp hq
  · exact all_tt h hp hq

theorem mflush_m {w0 : World} {H : Hp} {D : Duo} {A : Da} {bp : Nat} {m : Mi} (h : Two dt D A m.bx m.bys bp) : FnS Try.prog w0 21 #[ptr m.b] (m.seg 110 :: D.seg dt :: H) (fun e H' => e = .returned (.int .i64 (mfl A).2) ∧ ∃ D', Two dt D' (mfl A).1 m.bx m.bys bp ∧ H' = m.seg 110 :: D'.seg dt :: H) := by
  refine FnS_intro (n := 7) (rs := [.tmp 2]) (vs := [ptr m.b]) Try.func21 rfl Try.ntmps21 rfl rfl ?_
  refine C_seq ?_
  refine C_region ?_
  refine L_y rfl (y_assign rfl) rfl ?_
  refine L_nil ?_
  refine C_seq ?_
  refine C_seq ?_
  refine C_region ?_
  refine L_y rfl (y_move rfl) rfl ?_
  refine L_y rfl (y_eqp rfl rfl Try.underlying26) rfl ?_
  refine L_nil ?_
  refine C_cond_f rfl ?_
  refine C_skip ?_
  refine C_seq ?_
  refine C_region ?_
  refine L_y rfl (y_move rfl) rfl ?_
  refine L_op rfl (op_call rfl rfl (fun a w => Try.call56 a w) rfl ?_)
  refine (all_m h).mono ?_
  rintro _ _ ⟨rfl, D1, h1, rfl⟩
  refine ⟨_, rfl, ?_⟩
  refine L_y rfl (y_assign rfl) rfl ?_
  refine L_nil ?_
  refine C_ret ?_
  refine B_ret (rv_tmp rfl rv_nil) (HSub.refl _) ?_
  exact ⟨rfl, D1, h1, rfl⟩

end Go.Proofs.Ytjjiclgbdenkkaa

/- walks (own work; the walks' lines by a program of this repo). -/
set_option linter.unusedVariables false
set_option linter.unusedSimpArgs false
set_option maxRecDepth 20000
namespace Go.Proofs.Ytjjiclgbdenkkaa
open Go.Sl
attribute [local irreducible] BodyQ WpC WpL WpS WpH OpW FnS


theorem write_v {w0 : World} {H : Hp} {gv : Value} {D : Duo} {A : Da} {m : Mi} {K : Nat} {X Y : List Sec} {k0 k1 mb bx bys bp : Nat} (h : Ms dt gv D A m K X Y k0 k1 mb bx bys bp) {n : Nat} {s : Sec} (hn : n < K) (hs : s.length = 128) (h0 : k0 < 99990) (h1 : k1 < 99990) : FnS Try.prog w0 19 #[ptr mb, .int .i64 (n : Int), .agg (bs s).toArray] (m.seg 110 :: D.seg dt :: H) (fun e H' => e = .returned (.int .i64 0) ∧ ∃ D' A', Ms dt gv D' A' m K (X.set n s) (Y.set n s) (k0 + 1) (k1 + 1) mb bx bys bp ∧ H' = m.seg 110 :: D'.seg dt :: H) := by
  have hT : Two dt D A m.bx m.bys bp := by rw [h.bx, h.bys]; exact h.two
  obtain ⟨e0, e1, v⟩ := h.vw.put (m := m) h.n h.s0 h.s1 hn hs (askok_all K n s)
  have hq : ∀ i, (A.dev i).Q.length < 99990 := fun i => by cases i; exact Nat.lt_of_le_of_lt (h.vw.dev false).many h0; exact Nat.lt_of_le_of_lt (h.vw.dev true).many h1
  have := mwrite_m (w0 := w0) (H := H) hT (n : Int) s hs hq
  rw [e0, e1, h.mb, h.bx, h.bys] at this
  refine this.mono ?_
  rintro _ _ ⟨rfl, D', hT', rfl⟩
  exact ⟨rfl, D', _, h.with hT' v (set_ok2 h.okX hs) (set_ok2 h.okY hs), rfl⟩

theorem flush_v {w0 : World} {H : Hp} {gv : Value} {D : Duo} {A : Da} {m : Mi} {K : Nat} {X Y : List Sec} {k0 k1 mb bx bys bp : Nat} (h : Ms dt gv D A m K X Y k0 k1 mb bx bys bp) : FnS Try.prog w0 21 #[ptr mb] (m.seg 110 :: D.seg dt :: H) (fun e H' => e = .returned (.int .i64 0) ∧ ∃ D' A', Ms dt gv D' A' m K X Y 0 0 mb bx bys bp ∧ H' = m.seg 110 :: D'.seg dt :: H) := by
  have hT : Two dt D A m.bx m.bys bp := by rw [h.bx, h.bys]; exact h.two
  obtain ⟨e0, v⟩ := h.vw.mfl
  have := mflush_m (w0 := w0) (H := H) hT
  rw [e0, h.mb, h.bx, h.bys] at this
  refine this.mono ?_
  rintro _ _ ⟨rfl, D', hT', rfl⟩
  exact ⟨rfl, D', _, h.with hT' v h.okX h.okY, rfl⟩

end Go.Proofs.Ytjjiclgbdenkkaa

/- walks (own work; the walks' lines by a program of this repo). -/
set_option linter.unusedVariables false
set_option linter.unusedSimpArgs false
set_option maxRecDepth 20000
namespace Go.Proofs.Ytjjiclgbdenkkaa
open Go.Sl
attribute [local irreducible] BodyQ WpC WpL WpS WpH OpW FnS



set_option maxHeartbeats 4000000 in

theorem both_no {w0 : World} {H : Hp} {D : Duo} {A : Da} {bp : Nat} {m : Mi} (h : Two dt D A m.bx m.bys bp) {p : Int → Sec → Bool} (hG : GoodAt Try.prog w0 H m.gv p) (n : Int) (hn : m.has n = false) : FnS Try.prog w0 25 #[ptr m.b, .int .i64 n] (m.seg 110 :: D.seg dt :: H) (fun e H' => ∃ g, slOk 128 g (bothS m A p n).length (bs (bothS m A p n).flatten) ∧ e = .returned (slV g (bothS m A p n).length) ∧ H' = slSeg 32 g (bs (bothS m A p n).flatten) :: m.seg 110 :: D.seg dt :: H) := by
  refine FnS_intro (n := 47) (rs := [.tmp 4]) (vs := [ptr m.b, .int .i64 n]) Try.func25 rfl Try.ntmps25 rfl rfl ?_
  refine C_seq ?_
  refine C_region ?_
  refine L_y rfl (y_assign rfl) rfl ?_
  refine L_nil ?_
  refine C_seq ?_
  refine C_region ?_
  refine L_y rfl (y_assign rfl) rfl ?_
  refine L_nil ?_
  refine C_seq ?_
  refine C_seq ?_
  refine C_region ?_
  refine L_y rfl (y_move rfl) rfl ?_
  refine L_y rfl (y_move rfl) rfl ?_
  refine L_op rfl (op_call rfl rfl (fun a w => Try.call58 a w) rfl ?_)
  refine (has_m _ (sees 0 0 rfl)).mono ?_
  rintro _ _ ⟨rfl, rfl⟩
  rw [hn]
  refine ⟨_, rfl, ?_⟩
  refine L_y rfl (y_not rfl) rfl ?_
  refine L_nil ?_
  refine C_cond_t rfl ?_
  refine C_seq ?_
  refine C_region ?_
  refine L_y rfl (y_assign rfl) rfl ?_
  refine L_nil ?_
  refine C_ret ?_
  refine B_ret (rv_tmp rfl rv_nil) (hsub_nil0.trans ((hsub (.cons_cons _ (.cons_cons _ (.refl _)))).trans (hsub_pick [0, 0] rfl))) ?_
  have e0 : bothS m A p n = [] := by simp_all [bothS]
  rw [e0]
  exact ⟨none, ⟨rfl, rfl⟩, rfl, rfl⟩

set_option maxHeartbeats 4000000 in

theorem both_tt {w0 : World} {H : Hp} {D : Duo} {A : Da} {bp : Nat} {m : Mi} (h : Two dt D A m.bx m.bys bp) {p : Int → Sec → Bool} (hG : GoodAt Try.prog w0 H m.gv p) (n : Int) (hn : m.has n = true) (hp : thr A false = true) (hq : thr A true = true) : FnS Try.prog w0 25 #[ptr m.b, .int .i64 n] (m.seg 110 :: D.seg dt :: H) (fun e H' => ∃ g, slOk 128 g (bothS m A p n).length (bs (bothS m A p n).flatten) ∧ e = .returned (slV g (bothS m A p n).length) ∧ H' = slSeg 32 g (bs (bothS m A p n).flatten) :: m.seg 110 :: D.seg dt :: H) := by
  refine FnS_intro (n := 47) (rs := [.tmp 4]) (vs := [ptr m.b, .int .i64 n]) Try.func25 rfl Try.ntmps25 rfl rfl ?_
  refine C_seq ?_
  refine C_region ?_
  refine L_y rfl (y_assign rfl) rfl ?_
  refine L_nil ?_
  refine C_seq ?_
  refine C_region ?_
  refine L_y rfl (y_assign rfl) rfl ?_
  refine L_nil ?_
  refine C_seq ?_
  refine C_seq ?_
  refine C_region ?_
  refine L_y rfl (y_move rfl) rfl ?_
  refine L_y rfl (y_move rfl) rfl ?_
  refine L_op rfl (op_call rfl rfl (fun a w => Try.call58 a w) rfl ?_)
  refine (has_m _ (sees 0 0 rfl)).mono ?_
  rintro _ _ ⟨rfl, rfl⟩
  rw [hn]
  refine ⟨_, rfl, ?_⟩
  refine L_y rfl (y_not rfl) rfl ?_
  refine L_nil ?_
  refine C_cond_f rfl ?_
  refine C_skip ?_
  refine C_seq ?_
  refine C_seq ?_
  refine C_region ?_
  refine L_y rfl (y_move rfl) rfl ?_
  refine L_op rfl (op_call rfl rfl (fun a w => Try.call59 a w) rfl ?_)
  refine ((present_tt h hp hq).sub (hsub_pick [0, 0] rfl)).mono ?_
  rintro _ _ ⟨g1, hg1, rfl, rfl⟩
  cases g1 with
  | none => exact slOk_none hg1 (by decide)
  | some g1 => ?_
  refine ⟨_, rfl, ?_⟩
  refine L_y rfl (y_lenS rfl rfl Try.underlying118) rfl ?_
  refine L_y rfl (y_move rfl) rfl ?_
  refine L_nil ?_
  refine C_block ?_
  refine C_loopIn (In_round ?_)
  refine C_seq ?_
  refine C_region ?_
  refine L_y rfl (y_lss rfl rfl) rfl ?_
  refine L_nil ?_
  refine C_seq ?_
  refine C_cond_t rfl ?_
  refine C_skip ?_
  refine C_seq ?_
  refine C_block ?_
  refine C_seq ?_
  refine C_region ?_
  refine L_y rfl (y_indexS rfl rfl Try.underlying118 sz_3 (by omega) (by omega) (show _ = 0 from rfl)) rfl ?_
  refine L_y rfl (y_load rfl ag_3 (sees 0 0 rfl) rfl) rfl ?_
  refine L_y rfl (y_assign rfl) rfl ?_
  refine L_nil ?_
  refine C_seq ?_
  refine C_region ?_
  refine L_y rfl (y_move rfl) rfl ?_
  refine L_y rfl (y_move rfl) rfl ?_
  refine L_y rfl (y_nilCheck rfl) rfl ?_
  refine L_y rfl (y_fieldAddr rfl fl_110_0) rfl ?_
  refine L_y rfl (y_indexA rfl rfl Try.underlying108 sz_107 (by omega) (by omega) (show _ = 0 from rfl)) rfl ?_
  refine L_y rfl (y_fieldAddr rfl fl_107_0) rfl ?_
  refine L_y rfl (y_load rfl ag_24 (sees 1 0 rfl) rfl) rfl ?_
  refine L_y rfl (y_move rfl) rfl ?_
  refine L_op rfl (op_call rfl rfl (fun a w => Try.call60 a w) rfl ?_)
  refine ((read_d h false (n)).sub (hsub_pick [2] rfl)).mono ?_
  rintro _ _ ⟨rfl, rfl⟩
  refine ⟨_, rfl, ?_⟩
  refine L_y rfl (y_move rfl) rfl ?_
  refine L_y rfl (y_extract rfl rfl) rfl ?_
  refine L_y rfl (y_extract rfl rfl) rfl ?_
  refine L_op rfl (op_alloc zl_32 rfl (fun B1 => ?_))
  refine L_op rfl (op_storeA 0 0 rfl rfl rfl sz_32 (by rw [bs_length, (rS_len false h.oks)]) rfl (bs_one _) (by simp) ?_)
  refine L_y rfl (y_assign rfl) rfl ?_
  refine L_nil ?_
  refine C_seq ?_
  refine C_region ?_
  refine L_y rfl (y_move rfl) rfl ?_
  refine L_y rfl (y_eqi rfl rfl) rfl ?_
  refine L_y rfl (y_move rfl) rfl ?_
  refine L_case 35 rfl (fun hg8_3 => ?_) (fun hg8_3 => ?_)
  · skip
    refine L_y rfl (y_move rfl) rfl ?_
    refine L_y rfl (y_move rfl) rfl ?_
    refine L_y rfl (y_loadA rfl ag_32 sz_32 (sees 0 0 rfl) (by rw [bs_length, rS_len _ h.oks]; decide) (bs_whole0 _ (rS_len _ h.oks))) rfl ?_
    refine L_op rfl (op_call rfl rfl (fun a w => Try.call61 a w) rfl ?_)
    refine FnS.mono (right_m (sees 3 0 rfl) (hG.sub (hsub (.cons _ (.cons _ (.cons _ (.cons _ (.refl _))))))) n _ (rS_len _ h.oks)) ?_
    rintro _ _ ⟨rfl, e⟩
    obtain rfl := e.symm
    refine ⟨_, rfl, ?_⟩
    refine L_y rfl (y_pick_t rfl rfl) rfl ?_
    refine L_nil ?_
    refine C_cond rfl (fun hc2 => ?_) (fun hc2 => ?_)
    · skip
      refine C_region ?_
      refine L_y rfl (y_move rfl) rfl ?_
      refine L_y rfl (y_loadA rfl ag_32 sz_32 (sees 0 0 rfl) (by rw [bs_length, rS_len _ h.oks]; decide) (bs_whole0 _ (rS_len _ h.oks))) rfl ?_
      refine L_op rfl (op_buildSlice (vs := [(0, _)]) rfl Try.underlying40 sz_32 zl_32 rfl (by decide) (fill_one rfl (by rw [bs_length, rS_len _ h.oks]) rfl) rfl (fun B2 => ?_))
      refine L_op rfl (op_append0 (m := 1) (vs := bs (A.rS false n)) rfl rfl (src_slice (vs := bs (A.rS false n)) (sees 0 0 rfl) (by rw [bs_length, rS_len _ h.oks]; decide) (bs_whole0 _ (rS_len _ h.oks))) (by rw [bs_length, rS_len _ h.oks]) (bs_one _) Try.underlying40 ni_40 sz_32 by_32 (by decide) zl_32 rfl (by decide) rfl (fun r1 hr1 => ?_))
      refine L_y rfl (y_assign rfl) rfl ?_
      refine L_nil ?_
      refine C_region ?_
      refine L_y rfl (y_add rfl rfl (show _ = (1 : Int) from rfl)) rfl ?_
      refine L_y rfl (y_move rfl) rfl ?_
      refine L_nil ?_
      refine In_round ?_
      refine C_seq ?_
      refine C_region ?_
      refine L_y rfl (y_lss rfl rfl) rfl ?_
      refine L_nil ?_
      refine C_seq ?_
      refine C_cond_t rfl ?_
      refine C_skip ?_
      refine C_seq ?_
      refine C_block ?_
      refine C_seq ?_
      refine C_region ?_
      refine L_y rfl (y_indexS rfl rfl Try.underlying118 sz_3 (by omega) (by omega) (show _ = 1 from rfl)) rfl ?_
      refine L_y rfl (y_load rfl ag_3 (sees 4 0 rfl) rfl) rfl ?_
      refine L_y rfl (y_assign rfl) rfl ?_
      refine L_nil ?_
      refine C_seq ?_
      refine C_region ?_
      refine L_y rfl (y_move rfl) rfl ?_
      refine L_y rfl (y_move rfl) rfl ?_
      refine L_y rfl (y_nilCheck rfl) rfl ?_
      refine L_y rfl (y_fieldAddr rfl fl_110_0) rfl ?_
      refine L_y rfl (y_indexA rfl rfl Try.underlying108 sz_107 (by omega) (by omega) (show _ = 2 from rfl)) rfl ?_
      refine L_y rfl (y_fieldAddr rfl fl_107_0) rfl ?_
      refine L_y rfl (y_load rfl ag_24 (sees 5 0 rfl) rfl) rfl ?_
      refine L_y rfl (y_move rfl) rfl ?_
      refine L_op rfl (op_call rfl rfl (fun a w => Try.call60 a w) rfl ?_)
      refine ((read_d h true (n)).sub (hsub_pick [3] rfl)).mono ?_
      rintro _ _ ⟨rfl, rfl⟩
      refine ⟨_, rfl, ?_⟩
      refine L_y rfl (y_move rfl) rfl ?_
      refine L_y rfl (y_extract rfl rfl) rfl ?_
      refine L_y rfl (y_extract rfl rfl) rfl ?_
      refine L_op rfl (op_alloc zl_32 rfl (fun B3 => ?_))
      refine L_op rfl (op_storeA 0 0 rfl rfl rfl sz_32 (by rw [bs_length, (rS_len true h.oks)]) rfl (bs_one _) (by simp) ?_)
      refine L_y rfl (y_assign rfl) rfl ?_
      refine L_nil ?_
      refine C_seq ?_
      refine C_region ?_
      refine L_y rfl (y_move rfl) rfl ?_
      refine L_y rfl (y_eqi rfl rfl) rfl ?_
      refine L_y rfl (y_move rfl) rfl ?_
      refine L_case 35 rfl (fun hg8_3 => ?_) (fun hg8_3 => ?_)
      · skip
        refine L_y rfl (y_move rfl) rfl ?_
        refine L_y rfl (y_move rfl) rfl ?_
        refine L_y rfl (y_loadA rfl ag_32 sz_32 (sees 0 0 rfl) (by rw [bs_length, rS_len _ h.oks]; decide) (bs_whole0 _ (rS_len _ h.oks))) rfl ?_
        refine L_op rfl (op_call rfl rfl (fun a w => Try.call61 a w) rfl ?_)
        refine FnS.mono (right_m (sees 6 0 rfl) (hG.sub (hsub (.cons _ (.cons _ (.cons _ (.cons _ (.cons _ (.cons _ (.cons _ (.refl _)))))))))) n _ (rS_len _ h.oks)) ?_
        rintro _ _ ⟨rfl, e⟩
        obtain rfl := e.symm
        refine ⟨_, rfl, ?_⟩
        refine L_y rfl (y_pick_t rfl rfl) rfl ?_
        refine L_nil ?_
        refine C_cond rfl (fun hc2 => ?_) (fun hc2 => ?_)
        · skip
          refine C_region ?_
          refine L_y rfl (y_move rfl) rfl ?_
          refine L_y rfl (y_loadA rfl ag_32 sz_32 (sees 0 0 rfl) (by rw [bs_length, rS_len _ h.oks]; decide) (bs_whole0 _ (rS_len _ h.oks))) rfl ?_
          refine L_op rfl (op_buildSlice (vs := [(0, _)]) rfl Try.underlying40 sz_32 zl_32 rfl (by decide) (fill_one rfl (by rw [bs_length, rS_len _ h.oks]) rfl) rfl (fun B4 => ?_))
          refine L_op rfl (op_append (gs := r1) (len := 1) (m := 1) (xs := bs (A.rS false n)) (vs := bs (A.rS true n)) 3 rfl rfl rfl hr1 (src_slice (vs := bs (A.rS true n)) (sees 0 0 rfl) (by rw [bs_length, rS_len _ h.oks]; decide) (bs_whole0 _ (rS_len _ h.oks))) (by rw [bs_length, rS_len _ h.oks]) (bs_one _) Try.underlying40 ni_40 sz_32 by_32 (by decide) zl_32 rfl (by decide) rfl (fun r2 hr2 => ?_))
          refine L_y rfl (y_assign rfl) rfl ?_
          refine L_nil ?_
          refine C_region ?_
          refine L_y rfl (y_add rfl rfl (show _ = (2 : Int) from rfl)) rfl ?_
          refine L_y rfl (y_move rfl) rfl ?_
          refine L_nil ?_
          refine In_round ?_
          refine C_seq ?_
          refine C_region ?_
          refine L_y rfl (y_lss rfl rfl) rfl ?_
          refine L_nil ?_
          refine C_seq ?_
          refine C_cond_f rfl ?_
          refine C_exit ?_
          refine C_seq ?_
          refine C_region ?_
          refine L_y rfl (y_move rfl) rfl ?_
          refine L_y rfl (y_assign rfl) rfl ?_
          refine L_nil ?_
          refine C_ret ?_
          refine B_ret (rv_tmp rfl rv_nil) ((hsub (.cons_cons _ (.cons_cons _ (.cons_cons _ (.cons _ (.cons _ (.cons _ (.cons _ (.cons _ (.refl _)))))))))).trans (hsub_pick [3, 6, 2] rfl)) ?_
          have e0 : bothS m A p n = [(A.rS false n), (A.rS true n)] := by simp_all [bothS]
          rw [e0, show List.flatten [(A.rS false n), (A.rS true n)] = (A.rS false n) ++ (A.rS true n) from by simp]
          rw [← bs_append] at hr2 ⊢
          exact ⟨r2, hr2, rfl, rfl⟩
        · skip
          refine C_skip ?_
          refine C_region ?_
          refine L_y rfl (y_add rfl rfl (show _ = (2 : Int) from rfl)) rfl ?_
          refine L_y rfl (y_move rfl) rfl ?_
          refine L_nil ?_
          refine In_round ?_
          refine C_seq ?_
          refine C_region ?_
          refine L_y rfl (y_lss rfl rfl) rfl ?_
          refine L_nil ?_
          refine C_seq ?_
          refine C_cond_f rfl ?_
          refine C_exit ?_
          refine C_seq ?_
          refine C_region ?_
          refine L_y rfl (y_move rfl) rfl ?_
          refine L_y rfl (y_assign rfl) rfl ?_
          refine L_nil ?_
          refine C_ret ?_
          refine B_ret (rv_tmp rfl rv_nil) ((hsub (.cons_cons _ (.cons_cons _ (.cons_cons _ (.cons _ (.cons _ (.cons _ (.cons _ (.refl _))))))))).trans (hsub_pick [2, 5, 1] rfl)) ?_
          have e0 : bothS m A p n = [(A.rS false n)] := by simp_all [bothS]
          rw [e0, show List.flatten [(A.rS false n)] = (A.rS false n) from by simp]
          exact ⟨r1, hr1, rfl, rfl⟩
      · skip
        refine L_skip rfl rfl ?_
        refine L_skip rfl rfl ?_
        refine L_skip rfl rfl ?_
        refine L_skip rfl rfl ?_
        refine L_y rfl (y_pick_f rfl rfl) rfl ?_
        refine L_nil ?_
        refine C_cond_f rfl ?_
        refine C_skip ?_
        refine C_region ?_
        refine L_y rfl (y_add rfl rfl (show _ = (2 : Int) from rfl)) rfl ?_
        refine L_y rfl (y_move rfl) rfl ?_
        refine L_nil ?_
        refine In_round ?_
        refine C_seq ?_
        refine C_region ?_
        refine L_y rfl (y_lss rfl rfl) rfl ?_
        refine L_nil ?_
        refine C_seq ?_
        refine C_cond_f rfl ?_
        refine C_exit ?_
        refine C_seq ?_
        refine C_region ?_
        refine L_y rfl (y_move rfl) rfl ?_
        refine L_y rfl (y_assign rfl) rfl ?_
        refine L_nil ?_
        refine C_ret ?_
        refine B_ret (rv_tmp rfl rv_nil) ((hsub (.cons_cons _ (.cons_cons _ (.cons_cons _ (.cons _ (.cons _ (.cons _ (.cons _ (.refl _))))))))).trans (hsub_pick [2, 5, 1] rfl)) ?_
        have e0 : bothS m A p n = [(A.rS false n)] := by simp_all [bothS]
        rw [e0, show List.flatten [(A.rS false n)] = (A.rS false n) from by simp]
        exact ⟨r1, hr1, rfl, rfl⟩
    · skip
      refine C_skip ?_
      refine C_region ?_
      refine L_y rfl (y_add rfl rfl (show _ = (1 : Int) from rfl)) rfl ?_
      refine L_y rfl (y_move rfl) rfl ?_
      refine L_nil ?_
      refine In_round ?_
      refine C_seq ?_
      refine C_region ?_
      refine L_y rfl (y_lss rfl rfl) rfl ?_
      refine L_nil ?_
      refine C_seq ?_
      refine C_cond_t rfl ?_
      refine C_skip ?_
      refine C_seq ?_
      refine C_block ?_
      refine C_seq ?_
      refine C_region ?_
      refine L_y rfl (y_indexS rfl rfl Try.underlying118 sz_3 (by omega) (by omega) (show _ = 1 from rfl)) rfl ?_
      refine L_y rfl (y_load rfl ag_3 (sees 2 0 rfl) rfl) rfl ?_
      refine L_y rfl (y_assign rfl) rfl ?_
      refine L_nil ?_
      refine C_seq ?_
      refine C_region ?_
      refine L_y rfl (y_move rfl) rfl ?_
      refine L_y rfl (y_move rfl) rfl ?_
      refine L_y rfl (y_nilCheck rfl) rfl ?_
      refine L_y rfl (y_fieldAddr rfl fl_110_0) rfl ?_
      refine L_y rfl (y_indexA rfl rfl Try.underlying108 sz_107 (by omega) (by omega) (show _ = 2 from rfl)) rfl ?_
      refine L_y rfl (y_fieldAddr rfl fl_107_0) rfl ?_
      refine L_y rfl (y_load rfl ag_24 (sees 3 0 rfl) rfl) rfl ?_
      refine L_y rfl (y_move rfl) rfl ?_
      refine L_op rfl (op_call rfl rfl (fun a w => Try.call60 a w) rfl ?_)
      refine ((read_d h true (n)).sub (hsub_pick [1] rfl)).mono ?_
      rintro _ _ ⟨rfl, rfl⟩
      refine ⟨_, rfl, ?_⟩
      refine L_y rfl (y_move rfl) rfl ?_
      refine L_y rfl (y_extract rfl rfl) rfl ?_
      refine L_y rfl (y_extract rfl rfl) rfl ?_
      refine L_op rfl (op_alloc zl_32 rfl (fun B5 => ?_))
      refine L_op rfl (op_storeA 0 0 rfl rfl rfl sz_32 (by rw [bs_length, (rS_len true h.oks)]) rfl (bs_one _) (by simp) ?_)
      refine L_y rfl (y_assign rfl) rfl ?_
      refine L_nil ?_
      refine C_seq ?_
      refine C_region ?_
      refine L_y rfl (y_move rfl) rfl ?_
      refine L_y rfl (y_eqi rfl rfl) rfl ?_
      refine L_y rfl (y_move rfl) rfl ?_
      refine L_case 35 rfl (fun hg8_3 => ?_) (fun hg8_3 => ?_)
      · skip
        refine L_y rfl (y_move rfl) rfl ?_
        refine L_y rfl (y_move rfl) rfl ?_
        refine L_y rfl (y_loadA rfl ag_32 sz_32 (sees 0 0 rfl) (by rw [bs_length, rS_len _ h.oks]; decide) (bs_whole0 _ (rS_len _ h.oks))) rfl ?_
        refine L_op rfl (op_call rfl rfl (fun a w => Try.call61 a w) rfl ?_)
        refine FnS.mono (right_m (sees 4 0 rfl) (hG.sub (hsub (.cons _ (.cons _ (.cons _ (.cons _ (.cons _ (.refl _)))))))) n _ (rS_len _ h.oks)) ?_
        rintro _ _ ⟨rfl, e⟩
        obtain rfl := e.symm
        refine ⟨_, rfl, ?_⟩
        refine L_y rfl (y_pick_t rfl rfl) rfl ?_
        refine L_nil ?_
        refine C_cond rfl (fun hc2 => ?_) (fun hc2 => ?_)
        · skip
          refine C_region ?_
          refine L_y rfl (y_move rfl) rfl ?_
          refine L_y rfl (y_loadA rfl ag_32 sz_32 (sees 0 0 rfl) (by rw [bs_length, rS_len _ h.oks]; decide) (bs_whole0 _ (rS_len _ h.oks))) rfl ?_
          refine L_op rfl (op_buildSlice (vs := [(0, _)]) rfl Try.underlying40 sz_32 zl_32 rfl (by decide) (fill_one rfl (by rw [bs_length, rS_len _ h.oks]) rfl) rfl (fun B6 => ?_))
          refine L_op rfl (op_append0 (m := 1) (vs := bs (A.rS true n)) rfl rfl (src_slice (vs := bs (A.rS true n)) (sees 0 0 rfl) (by rw [bs_length, rS_len _ h.oks]; decide) (bs_whole0 _ (rS_len _ h.oks))) (by rw [bs_length, rS_len _ h.oks]) (bs_one _) Try.underlying40 ni_40 sz_32 by_32 (by decide) zl_32 rfl (by decide) rfl (fun r1 hr1 => ?_))
          refine L_y rfl (y_assign rfl) rfl ?_
          refine L_nil ?_
          refine C_region ?_
          refine L_y rfl (y_add rfl rfl (show _ = (2 : Int) from rfl)) rfl ?_
          refine L_y rfl (y_move rfl) rfl ?_
          refine L_nil ?_
          refine In_round ?_
          refine C_seq ?_
          refine C_region ?_
          refine L_y rfl (y_lss rfl rfl) rfl ?_
          refine L_nil ?_
          refine C_seq ?_
          refine C_cond_f rfl ?_
          refine C_exit ?_
          refine C_seq ?_
          refine C_region ?_
          refine L_y rfl (y_move rfl) rfl ?_
          refine L_y rfl (y_assign rfl) rfl ?_
          refine L_nil ?_
          refine C_ret ?_
          refine B_ret (rv_tmp rfl rv_nil) ((hsub (.cons_cons _ (.cons_cons _ (.cons_cons _ (.cons _ (.cons _ (.cons _ (.cons _ (.refl _))))))))).trans (hsub_pick [0, 5, 2] rfl)) ?_
          have e0 : bothS m A p n = [(A.rS true n)] := by simp_all [bothS]
          rw [e0, show List.flatten [(A.rS true n)] = (A.rS true n) from by simp]
          exact ⟨r1, hr1, rfl, rfl⟩
        · skip
          refine C_skip ?_
          refine C_region ?_
          refine L_y rfl (y_add rfl rfl (show _ = (2 : Int) from rfl)) rfl ?_
          refine L_y rfl (y_move rfl) rfl ?_
          refine L_nil ?_
          refine In_round ?_
          refine C_seq ?_
          refine C_region ?_
          refine L_y rfl (y_lss rfl rfl) rfl ?_
          refine L_nil ?_
          refine C_seq ?_
          refine C_cond_f rfl ?_
          refine C_exit ?_
          refine C_seq ?_
          refine C_region ?_
          refine L_y rfl (y_move rfl) rfl ?_
          refine L_y rfl (y_assign rfl) rfl ?_
          refine L_nil ?_
          refine C_ret ?_
          refine B_ret (rv_tmp rfl rv_nil) (hsub_nil0.trans ((hsub (.cons_cons _ (.cons_cons _ (.cons _ (.cons _ (.cons _ (.refl _))))))).trans (hsub_pick [4, 1] rfl))) ?_
          have e0 : bothS m A p n = [] := by simp_all [bothS]
          rw [e0]
          exact ⟨none, ⟨rfl, rfl⟩, rfl, rfl⟩
      · skip
        refine L_skip rfl rfl ?_
        refine L_skip rfl rfl ?_
        refine L_skip rfl rfl ?_
        refine L_skip rfl rfl ?_
        refine L_y rfl (y_pick_f rfl rfl) rfl ?_
        refine L_nil ?_
        refine C_cond_f rfl ?_
        refine C_skip ?_
        refine C_region ?_
        refine L_y rfl (y_add rfl rfl (show _ = (2 : Int) from rfl)) rfl ?_
        refine L_y rfl (y_move rfl) rfl ?_
        refine L_nil ?_
        refine In_round ?_
        refine C_seq ?_
        refine C_region ?_
        refine L_y rfl (y_lss rfl rfl) rfl ?_
        refine L_nil ?_
        refine C_seq ?_
        refine C_cond_f rfl ?_
        refine C_exit ?_
        refine C_seq ?_
        refine C_region ?_
        refine L_y rfl (y_move rfl) rfl ?_
        refine L_y rfl (y_assign rfl) rfl ?_
        refine L_nil ?_
        refine C_ret ?_
        refine B_ret (rv_tmp rfl rv_nil) (hsub_nil0.trans ((hsub (.cons_cons _ (.cons_cons _ (.cons _ (.cons _ (.cons _ (.refl _))))))).trans (hsub_pick [4, 1] rfl))) ?_
        have e0 : bothS m A p n = [] := by simp_all [bothS]
        rw [e0]
        exact ⟨none, ⟨rfl, rfl⟩, rfl, rfl⟩
  · skip
    refine L_skip rfl rfl ?_
    refine L_skip rfl rfl ?_
    refine L_skip rfl rfl ?_
    refine L_skip rfl rfl ?_
    refine L_y rfl (y_pick_f rfl rfl) rfl ?_
    refine L_nil ?_
    refine C_cond_f rfl ?_
    refine C_skip ?_
    refine C_region ?_
    refine L_y rfl (y_add rfl rfl (show _ = (1 : Int) from rfl)) rfl ?_
    refine L_y rfl (y_move rfl) rfl ?_
    refine L_nil ?_
    refine In_round ?_
    refine C_seq ?_
    refine C_region ?_
    refine L_y rfl (y_lss rfl rfl) rfl ?_
    refine L_nil ?_
    refine C_seq ?_
    refine C_cond_t rfl ?_
    refine C_skip ?_
    refine C_seq ?_
    refine C_block ?_
    refine C_seq ?_
    refine C_region ?_
    refine L_y rfl (y_indexS rfl rfl Try.underlying118 sz_3 (by omega) (by omega) (show _ = 1 from rfl)) rfl ?_
    refine L_y rfl (y_load rfl ag_3 (sees 2 0 rfl) rfl) rfl ?_
    refine L_y rfl (y_assign rfl) rfl ?_
    refine L_nil ?_
    refine C_seq ?_
    refine C_region ?_
    refine L_y rfl (y_move rfl) rfl ?_
    refine L_y rfl (y_move rfl) rfl ?_
    refine L_y rfl (y_nilCheck rfl) rfl ?_
    refine L_y rfl (y_fieldAddr rfl fl_110_0) rfl ?_
    refine L_y rfl (y_indexA rfl rfl Try.underlying108 sz_107 (by omega) (by omega) (show _ = 2 from rfl)) rfl ?_
    refine L_y rfl (y_fieldAddr rfl fl_107_0) rfl ?_
    refine L_y rfl (y_load rfl ag_24 (sees 3 0 rfl) rfl) rfl ?_
    refine L_y rfl (y_move rfl) rfl ?_
    refine L_op rfl (op_call rfl rfl (fun a w => Try.call60 a w) rfl ?_)
    refine ((read_d h true (n)).sub (hsub_pick [1] rfl)).mono ?_
    rintro _ _ ⟨rfl, rfl⟩
    refine ⟨_, rfl, ?_⟩
    refine L_y rfl (y_move rfl) rfl ?_
    refine L_y rfl (y_extract rfl rfl) rfl ?_
    refine L_y rfl (y_extract rfl rfl) rfl ?_
    refine L_op rfl (op_alloc zl_32 rfl (fun B7 => ?_))
    refine L_op rfl (op_storeA 0 0 rfl rfl rfl sz_32 (by rw [bs_length, (rS_len true h.oks)]) rfl (bs_one _) (by simp) ?_)
    refine L_y rfl (y_assign rfl) rfl ?_
    refine L_nil ?_
    refine C_seq ?_
    refine C_region ?_
    refine L_y rfl (y_move rfl) rfl ?_
    refine L_y rfl (y_eqi rfl rfl) rfl ?_
    refine L_y rfl (y_move rfl) rfl ?_
    refine L_case 35 rfl (fun hg8_3 => ?_) (fun hg8_3 => ?_)
    · skip
      refine L_y rfl (y_move rfl) rfl ?_
      refine L_y rfl (y_move rfl) rfl ?_
      refine L_y rfl (y_loadA rfl ag_32 sz_32 (sees 0 0 rfl) (by rw [bs_length, rS_len _ h.oks]; decide) (bs_whole0 _ (rS_len _ h.oks))) rfl ?_
      refine L_op rfl (op_call rfl rfl (fun a w => Try.call61 a w) rfl ?_)
      refine FnS.mono (right_m (sees 4 0 rfl) (hG.sub (hsub (.cons _ (.cons _ (.cons _ (.cons _ (.cons _ (.refl _)))))))) n _ (rS_len _ h.oks)) ?_
      rintro _ _ ⟨rfl, e⟩
      obtain rfl := e.symm
      refine ⟨_, rfl, ?_⟩
      refine L_y rfl (y_pick_t rfl rfl) rfl ?_
      refine L_nil ?_
      refine C_cond rfl (fun hc2 => ?_) (fun hc2 => ?_)
      · skip
        refine C_region ?_
        refine L_y rfl (y_move rfl) rfl ?_
        refine L_y rfl (y_loadA rfl ag_32 sz_32 (sees 0 0 rfl) (by rw [bs_length, rS_len _ h.oks]; decide) (bs_whole0 _ (rS_len _ h.oks))) rfl ?_
        refine L_op rfl (op_buildSlice (vs := [(0, _)]) rfl Try.underlying40 sz_32 zl_32 rfl (by decide) (fill_one rfl (by rw [bs_length, rS_len _ h.oks]) rfl) rfl (fun B8 => ?_))
        refine L_op rfl (op_append0 (m := 1) (vs := bs (A.rS true n)) rfl rfl (src_slice (vs := bs (A.rS true n)) (sees 0 0 rfl) (by rw [bs_length, rS_len _ h.oks]; decide) (bs_whole0 _ (rS_len _ h.oks))) (by rw [bs_length, rS_len _ h.oks]) (bs_one _) Try.underlying40 ni_40 sz_32 by_32 (by decide) zl_32 rfl (by decide) rfl (fun r1 hr1 => ?_))
        refine L_y rfl (y_assign rfl) rfl ?_
        refine L_nil ?_
        refine C_region ?_
        refine L_y rfl (y_add rfl rfl (show _ = (2 : Int) from rfl)) rfl ?_
        refine L_y rfl (y_move rfl) rfl ?_
        refine L_nil ?_
        refine In_round ?_
        refine C_seq ?_
        refine C_region ?_
        refine L_y rfl (y_lss rfl rfl) rfl ?_
        refine L_nil ?_
        refine C_seq ?_
        refine C_cond_f rfl ?_
        refine C_exit ?_
        refine C_seq ?_
        refine C_region ?_
        refine L_y rfl (y_move rfl) rfl ?_
        refine L_y rfl (y_assign rfl) rfl ?_
        refine L_nil ?_
        refine C_ret ?_
        refine B_ret (rv_tmp rfl rv_nil) ((hsub (.cons_cons _ (.cons_cons _ (.cons_cons _ (.cons _ (.cons _ (.cons _ (.cons _ (.refl _))))))))).trans (hsub_pick [0, 5, 2] rfl)) ?_
        have e0 : bothS m A p n = [(A.rS true n)] := by simp_all [bothS]
        rw [e0, show List.flatten [(A.rS true n)] = (A.rS true n) from by simp]
        exact ⟨r1, hr1, rfl, rfl⟩
      · skip
        refine C_skip ?_
        refine C_region ?_
        refine L_y rfl (y_add rfl rfl (show _ = (2 : Int) from rfl)) rfl ?_
        refine L_y rfl (y_move rfl) rfl ?_
        refine L_nil ?_
        refine In_round ?_
        refine C_seq ?_
        refine C_region ?_
        refine L_y rfl (y_lss rfl rfl) rfl ?_
        refine L_nil ?_
        refine C_seq ?_
        refine C_cond_f rfl ?_
        refine C_exit ?_
        refine C_seq ?_
        refine C_region ?_
        refine L_y rfl (y_move rfl) rfl ?_
        refine L_y rfl (y_assign rfl) rfl ?_
        refine L_nil ?_
        refine C_ret ?_
        refine B_ret (rv_tmp rfl rv_nil) (hsub_nil0.trans ((hsub (.cons_cons _ (.cons_cons _ (.cons _ (.cons _ (.cons _ (.refl _))))))).trans (hsub_pick [4, 1] rfl))) ?_
        have e0 : bothS m A p n = [] := by simp_all [bothS]
        rw [e0]
        exact ⟨none, ⟨rfl, rfl⟩, rfl, rfl⟩
    · skip
      refine L_skip rfl rfl ?_
      refine L_skip rfl rfl ?_
      refine L_skip rfl rfl ?_
      refine L_skip rfl rfl ?_
      refine L_y rfl (y_pick_f rfl rfl) rfl ?_
      refine L_nil ?_
      refine C_cond_f rfl ?_
      refine C_skip ?_
      refine C_region ?_
      refine L_y rfl (y_add rfl rfl (show _ = (2 : Int) from rfl)) rfl ?_
      refine L_y rfl (y_move rfl) rfl ?_
      refine L_nil ?_
      refine In_round ?_
      refine C_seq ?_
      refine C_region ?_
      refine L_y rfl (y_lss rfl rfl) rfl ?_
      refine L_nil ?_
      refine C_seq ?_
      refine C_cond_f rfl ?_
      refine C_exit ?_
      refine C_seq ?_
      refine C_region ?_
      refine L_y rfl (y_move rfl) rfl ?_
      refine L_y rfl (y_assign rfl) rfl ?_
      refine L_nil ?_
      refine C_ret ?_
      refine B_ret (rv_tmp rfl rv_nil) (hsub_nil0.trans ((hsub (.cons_cons _ (.cons_cons _ (.cons _ (.cons _ (.cons _ (.refl _))))))).trans (hsub_pick [4, 1] rfl))) ?_
      have e0 : bothS m A p n = [] := by simp_all [bothS]
      rw [e0]
      exact ⟨none, ⟨rfl, rfl⟩, rfl, rfl⟩

set_option maxHeartbeats 4000000 in

theorem both_tf {w0 : World} {H : Hp} {D : Duo} {A : Da} {bp : Nat} {m : Mi} (h : Two dt D A m.bx m.bys bp) {p : Int → Sec → Bool} (hG : GoodAt Try.prog w0 H m.gv p) (n : Int) (hn : m.has n = true) (hp : thr A false = true) (hq : thr A true = false) : FnS Try.prog w0 25 #[ptr m.b, .int .i64 n] (m.seg 110 :: D.seg dt :: H) (fun e H' => ∃ g, slOk 128 g (bothS m A p n).length (bs (bothS m A p n).flatten) ∧ e = .returned (slV g (bothS m A p n).length) ∧ H' = slSeg 32 g (bs (bothS m A p n).flatten) :: m.seg 110 :: D.seg dt :: H) := by
  refine FnS_intro (n := 47) (rs := [.tmp 4]) (vs := [ptr m.b, .int .i64 n]) Try.func25 rfl Try.ntmps25 rfl rfl ?_
  refine C_seq ?_
  refine C_region ?_
  refine L_y rfl (y_assign rfl) rfl ?_
  refine L_nil ?_
  refine C_seq ?_
  refine C_region ?_
  refine L_y rfl (y_assign rfl) rfl ?_
  refine L_nil ?_
  refine C_seq ?_
  refine C_seq ?_
  refine C_region ?_
  refine L_y rfl (y_move rfl) rfl ?_
  refine L_y rfl (y_move rfl) rfl ?_
  refine L_op rfl (op_call rfl rfl (fun a w => Try.call58 a w) rfl ?_)
  refine (has_m _ (sees 0 0 rfl)).mono ?_
  rintro _ _ ⟨rfl, rfl⟩
  rw [hn]
  refine ⟨_, rfl, ?_⟩
  refine L_y rfl (y_not rfl) rfl ?_
  refine L_nil ?_
  refine C_cond_f rfl ?_
  refine C_skip ?_
  refine C_seq ?_
  refine C_seq ?_
  refine C_region ?_
  refine L_y rfl (y_move rfl) rfl ?_
  refine L_op rfl (op_call rfl rfl (fun a w => Try.call59 a w) rfl ?_)
  refine ((present_tf h hp hq).sub (hsub_pick [0, 0] rfl)).mono ?_
  rintro _ _ ⟨g1, hg1, rfl, rfl⟩
  cases g1 with
  | none => exact slOk_none hg1 (by decide)
  | some g1 => ?_
  refine ⟨_, rfl, ?_⟩
  refine L_y rfl (y_lenS rfl rfl Try.underlying118) rfl ?_
  refine L_y rfl (y_move rfl) rfl ?_
  refine L_nil ?_
  refine C_block ?_
  refine C_loopIn (In_round ?_)
  refine C_seq ?_
  refine C_region ?_
  refine L_y rfl (y_lss rfl rfl) rfl ?_
  refine L_nil ?_
  refine C_seq ?_
  refine C_cond_t rfl ?_
  refine C_skip ?_
  refine C_seq ?_
  refine C_block ?_
  refine C_seq ?_
  refine C_region ?_
  refine L_y rfl (y_indexS rfl rfl Try.underlying118 sz_3 (by omega) (by omega) (show _ = 0 from rfl)) rfl ?_
  refine L_y rfl (y_load rfl ag_3 (sees 0 0 rfl) rfl) rfl ?_
  refine L_y rfl (y_assign rfl) rfl ?_
  refine L_nil ?_
  refine C_seq ?_
  refine C_region ?_
  refine L_y rfl (y_move rfl) rfl ?_
  refine L_y rfl (y_move rfl) rfl ?_
  refine L_y rfl (y_nilCheck rfl) rfl ?_
  refine L_y rfl (y_fieldAddr rfl fl_110_0) rfl ?_
  refine L_y rfl (y_indexA rfl rfl Try.underlying108 sz_107 (by omega) (by omega) (show _ = 0 from rfl)) rfl ?_
  refine L_y rfl (y_fieldAddr rfl fl_107_0) rfl ?_
  refine L_y rfl (y_load rfl ag_24 (sees 1 0 rfl) rfl) rfl ?_
  refine L_y rfl (y_move rfl) rfl ?_
  refine L_op rfl (op_call rfl rfl (fun a w => Try.call60 a w) rfl ?_)
  refine ((read_d h false (n)).sub (hsub_pick [2] rfl)).mono ?_
  rintro _ _ ⟨rfl, rfl⟩
  refine ⟨_, rfl, ?_⟩
  refine L_y rfl (y_move rfl) rfl ?_
  refine L_y rfl (y_extract rfl rfl) rfl ?_
  refine L_y rfl (y_extract rfl rfl) rfl ?_
  refine L_op rfl (op_alloc zl_32 rfl (fun B1 => ?_))
  refine L_op rfl (op_storeA 0 0 rfl rfl rfl sz_32 (by rw [bs_length, (rS_len false h.oks)]) rfl (bs_one _) (by simp) ?_)
  refine L_y rfl (y_assign rfl) rfl ?_
  refine L_nil ?_
  refine C_seq ?_
  refine C_region ?_
  refine L_y rfl (y_move rfl) rfl ?_
  refine L_y rfl (y_eqi rfl rfl) rfl ?_
  refine L_y rfl (y_move rfl) rfl ?_
  refine L_case 35 rfl (fun hg8_3 => ?_) (fun hg8_3 => ?_)
  · skip
    refine L_y rfl (y_move rfl) rfl ?_
    refine L_y rfl (y_move rfl) rfl ?_
    refine L_y rfl (y_loadA rfl ag_32 sz_32 (sees 0 0 rfl) (by rw [bs_length, rS_len _ h.oks]; decide) (bs_whole0 _ (rS_len _ h.oks))) rfl ?_
    refine L_op rfl (op_call rfl rfl (fun a w => Try.call61 a w) rfl ?_)
    refine FnS.mono (right_m (sees 3 0 rfl) (hG.sub (hsub (.cons _ (.cons _ (.cons _ (.cons _ (.refl _))))))) n _ (rS_len _ h.oks)) ?_
    rintro _ _ ⟨rfl, e⟩
    obtain rfl := e.symm
    refine ⟨_, rfl, ?_⟩
    refine L_y rfl (y_pick_t rfl rfl) rfl ?_
    refine L_nil ?_
    refine C_cond rfl (fun hc2 => ?_) (fun hc2 => ?_)
    · skip
      refine C_region ?_
      refine L_y rfl (y_move rfl) rfl ?_
      refine L_y rfl (y_loadA rfl ag_32 sz_32 (sees 0 0 rfl) (by rw [bs_length, rS_len _ h.oks]; decide) (bs_whole0 _ (rS_len _ h.oks))) rfl ?_
      refine L_op rfl (op_buildSlice (vs := [(0, _)]) rfl Try.underlying40 sz_32 zl_32 rfl (by decide) (fill_one rfl (by rw [bs_length, rS_len _ h.oks]) rfl) rfl (fun B2 => ?_))
      refine L_op rfl (op_append0 (m := 1) (vs := bs (A.rS false n)) rfl rfl (src_slice (vs := bs (A.rS false n)) (sees 0 0 rfl) (by rw [bs_length, rS_len _ h.oks]; decide) (bs_whole0 _ (rS_len _ h.oks))) (by rw [bs_length, rS_len _ h.oks]) (bs_one _) Try.underlying40 ni_40 sz_32 by_32 (by decide) zl_32 rfl (by decide) rfl (fun r1 hr1 => ?_))
      refine L_y rfl (y_assign rfl) rfl ?_
      refine L_nil ?_
      refine C_region ?_
      refine L_y rfl (y_add rfl rfl (show _ = (1 : Int) from rfl)) rfl ?_
      refine L_y rfl (y_move rfl) rfl ?_
      refine L_nil ?_
      refine In_round ?_
      refine C_seq ?_
      refine C_region ?_
      refine L_y rfl (y_lss rfl rfl) rfl ?_
      refine L_nil ?_
      refine C_seq ?_
      refine C_cond_f rfl ?_
      refine C_exit ?_
      refine C_seq ?_
      refine C_region ?_
      refine L_y rfl (y_move rfl) rfl ?_
      refine L_y rfl (y_assign rfl) rfl ?_
      refine L_nil ?_
      refine C_ret ?_
      refine B_ret (rv_tmp rfl rv_nil) ((hsub (.cons_cons _ (.cons_cons _ (.cons_cons _ (.cons _ (.cons _ (.cons _ (.refl _)))))))).trans (hsub_pick [0, 4, 2] rfl)) ?_
      have e0 : bothS m A p n = [(A.rS false n)] := by simp_all [bothS]
      rw [e0, show List.flatten [(A.rS false n)] = (A.rS false n) from by simp]
      exact ⟨r1, hr1, rfl, rfl⟩
    · skip
      refine C_skip ?_
      refine C_region ?_
      refine L_y rfl (y_add rfl rfl (show _ = (1 : Int) from rfl)) rfl ?_
      refine L_y rfl (y_move rfl) rfl ?_
      refine L_nil ?_
      refine In_round ?_
      refine C_seq ?_
      refine C_region ?_
      refine L_y rfl (y_lss rfl rfl) rfl ?_
      refine L_nil ?_
      refine C_seq ?_
      refine C_cond_f rfl ?_
      refine C_exit ?_
      refine C_seq ?_
      refine C_region ?_
      refine L_y rfl (y_move rfl) rfl ?_
      refine L_y rfl (y_assign rfl) rfl ?_
      refine L_nil ?_
      refine C_ret ?_
      refine B_ret (rv_tmp rfl rv_nil) (hsub_nil0.trans ((hsub (.cons_cons _ (.cons_cons _ (.cons _ (.cons _ (.refl _)))))).trans (hsub_pick [3, 1] rfl))) ?_
      have e0 : bothS m A p n = [] := by simp_all [bothS]
      rw [e0]
      exact ⟨none, ⟨rfl, rfl⟩, rfl, rfl⟩
  · skip
    refine L_skip rfl rfl ?_
    refine L_skip rfl rfl ?_
    refine L_skip rfl rfl ?_
    refine L_skip rfl rfl ?_
    refine L_y rfl (y_pick_f rfl rfl) rfl ?_
    refine L_nil ?_
    refine C_cond_f rfl ?_
    refine C_skip ?_
    refine C_region ?_
    refine L_y rfl (y_add rfl rfl (show _ = (1 : Int) from rfl)) rfl ?_
    refine L_y rfl (y_move rfl) rfl ?_
    refine L_nil ?_
    refine In_round ?_
    refine C_seq ?_
    refine C_region ?_
    refine L_y rfl (y_lss rfl rfl) rfl ?_
    refine L_nil ?_
    refine C_seq ?_
    refine C_cond_f rfl ?_
    refine C_exit ?_
    refine C_seq ?_
    refine C_region ?_
    refine L_y rfl (y_move rfl) rfl ?_
    refine L_y rfl (y_assign rfl) rfl ?_
    refine L_nil ?_
    refine C_ret ?_
    refine B_ret (rv_tmp rfl rv_nil) (hsub_nil0.trans ((hsub (.cons_cons _ (.cons_cons _ (.cons _ (.cons _ (.refl _)))))).trans (hsub_pick [3, 1] rfl))) ?_
    have e0 : bothS m A p n = [] := by simp_all [bothS]
    rw [e0]
    exact ⟨none, ⟨rfl, rfl⟩, rfl, rfl⟩

set_option maxHeartbeats 4000000 in

theorem both_ft {w0 : World} {H : Hp} {D : Duo} {A : Da} {bp : Nat} {m : Mi} (h : Two dt D A m.bx m.bys bp) {p : Int → Sec → Bool} (hG : GoodAt Try.prog w0 H m.gv p) (n : Int) (hn : m.has n = true) (hp : thr A false = false) (hq : thr A true = true) : FnS Try.prog w0 25 #[ptr m.b, .int .i64 n] (m.seg 110 :: D.seg dt :: H) (fun e H' => ∃ g, slOk 128 g (bothS m A p n).length (bs (bothS m A p n).flatten) ∧ e = .returned (slV g (bothS m A p n).length) ∧ H' = slSeg 32 g (bs (bothS m A p n).flatten) :: m.seg 110 :: D.seg dt :: H) := by
  refine FnS_intro (n := 47) (rs := [.tmp 4]) (vs := [ptr m.b, .int .i64 n]) Try.func25 rfl Try.ntmps25 rfl rfl ?_
  refine C_seq ?_
  refine C_region ?_
  refine L_y rfl (y_assign rfl) rfl ?_
  refine L_nil ?_
  refine C_seq ?_
  refine C_region ?_
  refine L_y rfl (y_assign rfl) rfl ?_
  refine L_nil ?_
  refine C_seq ?_
  refine C_seq ?_
  refine C_region ?_
  refine L_y rfl (y_move rfl) rfl ?_
  refine L_y rfl (y_move rfl) rfl ?_
  refine L_op rfl (op_call rfl rfl (fun a w => Try.call58 a w) rfl ?_)
  refine (has_m _ (sees 0 0 rfl)).mono ?_
  rintro _ _ ⟨rfl, rfl⟩
  rw [hn]
  refine ⟨_, rfl, ?_⟩
  refine L_y rfl (y_not rfl) rfl ?_
  refine L_nil ?_
  refine C_cond_f rfl ?_
  refine C_skip ?_
  refine C_seq ?_
  refine C_seq ?_
  refine C_region ?_
  refine L_y rfl (y_move rfl) rfl ?_
  refine L_op rfl (op_call rfl rfl (fun a w => Try.call59 a w) rfl ?_)
  refine ((present_ft h hp hq).sub (hsub_pick [0, 0] rfl)).mono ?_
  rintro _ _ ⟨g1, hg1, rfl, rfl⟩
  cases g1 with
  | none => exact slOk_none hg1 (by decide)
  | some g1 => ?_
  refine ⟨_, rfl, ?_⟩
  refine L_y rfl (y_lenS rfl rfl Try.underlying118) rfl ?_
  refine L_y rfl (y_move rfl) rfl ?_
  refine L_nil ?_
  refine C_block ?_
  refine C_loopIn (In_round ?_)
  refine C_seq ?_
  refine C_region ?_
  refine L_y rfl (y_lss rfl rfl) rfl ?_
  refine L_nil ?_
  refine C_seq ?_
  refine C_cond_t rfl ?_
  refine C_skip ?_
  refine C_seq ?_
  refine C_block ?_
  refine C_seq ?_
  refine C_region ?_
  refine L_y rfl (y_indexS rfl rfl Try.underlying118 sz_3 (by omega) (by omega) (show _ = 0 from rfl)) rfl ?_
  refine L_y rfl (y_load rfl ag_3 (sees 0 0 rfl) rfl) rfl ?_
  refine L_y rfl (y_assign rfl) rfl ?_
  refine L_nil ?_
  refine C_seq ?_
  refine C_region ?_
  refine L_y rfl (y_move rfl) rfl ?_
  refine L_y rfl (y_move rfl) rfl ?_
  refine L_y rfl (y_nilCheck rfl) rfl ?_
  refine L_y rfl (y_fieldAddr rfl fl_110_0) rfl ?_
  refine L_y rfl (y_indexA rfl rfl Try.underlying108 sz_107 (by omega) (by omega) (show _ = 2 from rfl)) rfl ?_
  refine L_y rfl (y_fieldAddr rfl fl_107_0) rfl ?_
  refine L_y rfl (y_load rfl ag_24 (sees 1 0 rfl) rfl) rfl ?_
  refine L_y rfl (y_move rfl) rfl ?_
  refine L_op rfl (op_call rfl rfl (fun a w => Try.call60 a w) rfl ?_)
  refine ((read_d h true (n)).sub (hsub_pick [2] rfl)).mono ?_
  rintro _ _ ⟨rfl, rfl⟩
  refine ⟨_, rfl, ?_⟩
  refine L_y rfl (y_move rfl) rfl ?_
  refine L_y rfl (y_extract rfl rfl) rfl ?_
  refine L_y rfl (y_extract rfl rfl) rfl ?_
  refine L_op rfl (op_alloc zl_32 rfl (fun B1 => ?_))
  refine L_op rfl (op_storeA 0 0 rfl rfl rfl sz_32 (by rw [bs_length, (rS_len true h.oks)]) rfl (bs_one _) (by simp) ?_)
  refine L_y rfl (y_assign rfl) rfl ?_
  refine L_nil ?_
  refine C_seq ?_
  refine C_region ?_
  refine L_y rfl (y_move rfl) rfl ?_
  refine L_y rfl (y_eqi rfl rfl) rfl ?_
  refine L_y rfl (y_move rfl) rfl ?_
  refine L_case 35 rfl (fun hg8_3 => ?_) (fun hg8_3 => ?_)
  · skip
    refine L_y rfl (y_move rfl) rfl ?_
    refine L_y rfl (y_move rfl) rfl ?_
    refine L_y rfl (y_loadA rfl ag_32 sz_32 (sees 0 0 rfl) (by rw [bs_length, rS_len _ h.oks]; decide) (bs_whole0 _ (rS_len _ h.oks))) rfl ?_
    refine L_op rfl (op_call rfl rfl (fun a w => Try.call61 a w) rfl ?_)
    refine FnS.mono (right_m (sees 3 0 rfl) (hG.sub (hsub (.cons _ (.cons _ (.cons _ (.cons _ (.refl _))))))) n _ (rS_len _ h.oks)) ?_
    rintro _ _ ⟨rfl, e⟩
    obtain rfl := e.symm
    refine ⟨_, rfl, ?_⟩
    refine L_y rfl (y_pick_t rfl rfl) rfl ?_
    refine L_nil ?_
    refine C_cond rfl (fun hc2 => ?_) (fun hc2 => ?_)
    · skip
      refine C_region ?_
      refine L_y rfl (y_move rfl) rfl ?_
      refine L_y rfl (y_loadA rfl ag_32 sz_32 (sees 0 0 rfl) (by rw [bs_length, rS_len _ h.oks]; decide) (bs_whole0 _ (rS_len _ h.oks))) rfl ?_
      refine L_op rfl (op_buildSlice (vs := [(0, _)]) rfl Try.underlying40 sz_32 zl_32 rfl (by decide) (fill_one rfl (by rw [bs_length, rS_len _ h.oks]) rfl) rfl (fun B2 => ?_))
      refine L_op rfl (op_append0 (m := 1) (vs := bs (A.rS true n)) rfl rfl (src_slice (vs := bs (A.rS true n)) (sees 0 0 rfl) (by rw [bs_length, rS_len _ h.oks]; decide) (bs_whole0 _ (rS_len _ h.oks))) (by rw [bs_length, rS_len _ h.oks]) (bs_one _) Try.underlying40 ni_40 sz_32 by_32 (by decide) zl_32 rfl (by decide) rfl (fun r1 hr1 => ?_))
      refine L_y rfl (y_assign rfl) rfl ?_
      refine L_nil ?_
      refine C_region ?_
      refine L_y rfl (y_add rfl rfl (show _ = (1 : Int) from rfl)) rfl ?_
      refine L_y rfl (y_move rfl) rfl ?_
      refine L_nil ?_
      refine In_round ?_
      refine C_seq ?_
      refine C_region ?_
      refine L_y rfl (y_lss rfl rfl) rfl ?_
      refine L_nil ?_
      refine C_seq ?_
      refine C_cond_f rfl ?_
      refine C_exit ?_
      refine C_seq ?_
      refine C_region ?_
      refine L_y rfl (y_move rfl) rfl ?_
      refine L_y rfl (y_assign rfl) rfl ?_
      refine L_nil ?_
      refine C_ret ?_
      refine B_ret (rv_tmp rfl rv_nil) ((hsub (.cons_cons _ (.cons_cons _ (.cons_cons _ (.cons _ (.cons _ (.cons _ (.refl _)))))))).trans (hsub_pick [0, 4, 2] rfl)) ?_
      have e0 : bothS m A p n = [(A.rS true n)] := by simp_all [bothS]
      rw [e0, show List.flatten [(A.rS true n)] = (A.rS true n) from by simp]
      exact ⟨r1, hr1, rfl, rfl⟩
    · skip
      refine C_skip ?_
      refine C_region ?_
      refine L_y rfl (y_add rfl rfl (show _ = (1 : Int) from rfl)) rfl ?_
      refine L_y rfl (y_move rfl) rfl ?_
      refine L_nil ?_
      refine In_round ?_
      refine C_seq ?_
      refine C_region ?_
      refine L_y rfl (y_lss rfl rfl) rfl ?_
      refine L_nil ?_
      refine C_seq ?_
      refine C_cond_f rfl ?_
      refine C_exit ?_
      refine C_seq ?_
      refine C_region ?_
      refine L_y rfl (y_move rfl) rfl ?_
      refine L_y rfl (y_assign rfl) rfl ?_
      refine L_nil ?_
      refine C_ret ?_
      refine B_ret (rv_tmp rfl rv_nil) (hsub_nil0.trans ((hsub (.cons_cons _ (.cons_cons _ (.cons _ (.cons _ (.refl _)))))).trans (hsub_pick [3, 1] rfl))) ?_
      have e0 : bothS m A p n = [] := by simp_all [bothS]
      rw [e0]
      exact ⟨none, ⟨rfl, rfl⟩, rfl, rfl⟩
  · skip
    refine L_skip rfl rfl ?_
    refine L_skip rfl rfl ?_
    refine L_skip rfl rfl ?_
    refine L_skip rfl rfl ?_
    refine L_y rfl (y_pick_f rfl rfl) rfl ?_
    refine L_nil ?_
    refine C_cond_f rfl ?_
    refine C_skip ?_
    refine C_region ?_
    refine L_y rfl (y_add rfl rfl (show _ = (1 : Int) from rfl)) rfl ?_
    refine L_y rfl (y_move rfl) rfl ?_
    refine L_nil ?_
    refine In_round ?_
    refine C_seq ?_
    refine C_region ?_
    refine L_y rfl (y_lss rfl rfl) rfl ?_
    refine L_nil ?_
    refine C_seq ?_
    refine C_cond_f rfl ?_
    refine C_exit ?_
    refine C_seq ?_
    refine C_region ?_
    refine L_y rfl (y_move rfl) rfl ?_
    refine L_y rfl (y_assign rfl) rfl ?_
    refine L_nil ?_
    refine C_ret ?_
    refine B_ret (rv_tmp rfl rv_nil) (hsub_nil0.trans ((hsub (.cons_cons _ (.cons_cons _ (.cons _ (.cons _ (.refl _)))))).trans (hsub_pick [3, 1] rfl))) ?_
    have e0 : bothS m A p n = [] := by simp_all [bothS]
    rw [e0]
    exact ⟨none, ⟨rfl, rfl⟩, rfl, rfl⟩

set_option maxHeartbeats 4000000 in

theorem both_ff {w0 : World} {H : Hp} {D : Duo} {A : Da} {bp : Nat} {m : Mi} (h : Two dt D A m.bx m.bys bp) {p : Int → Sec → Bool} (hG : GoodAt Try.prog w0 H m.gv p) (n : Int) (hn : m.has n = true) (hp : thr A false = false) (hq : thr A true = false) : FnS Try.prog w0 25 #[ptr m.b, .int .i64 n] (m.seg 110 :: D.seg dt :: H) (fun e H' => ∃ g, slOk 128 g (bothS m A p n).length (bs (bothS m A p n).flatten) ∧ e = .returned (slV g (bothS m A p n).length) ∧ H' = slSeg 32 g (bs (bothS m A p n).flatten) :: m.seg 110 :: D.seg dt :: H) := by
  refine FnS_intro (n := 47) (rs := [.tmp 4]) (vs := [ptr m.b, .int .i64 n]) Try.func25 rfl Try.ntmps25 rfl rfl ?_
  refine C_seq ?_
  refine C_region ?_
  refine L_y rfl (y_assign rfl) rfl ?_
  refine L_nil ?_
  refine C_seq ?_
  refine C_region ?_
  refine L_y rfl (y_assign rfl) rfl ?_
  refine L_nil ?_
  refine C_seq ?_
  refine C_seq ?_
  refine C_region ?_
  refine L_y rfl (y_move rfl) rfl ?_
  refine L_y rfl (y_move rfl) rfl ?_
  refine L_op rfl (op_call rfl rfl (fun a w => Try.call58 a w) rfl ?_)
  refine (has_m _ (sees 0 0 rfl)).mono ?_
  rintro _ _ ⟨rfl, rfl⟩
  rw [hn]
  refine ⟨_, rfl, ?_⟩
  refine L_y rfl (y_not rfl) rfl ?_
  refine L_nil ?_
  refine C_cond_f rfl ?_
  refine C_skip ?_
  refine C_seq ?_
  refine C_seq ?_
  refine C_region ?_
  refine L_y rfl (y_move rfl) rfl ?_
  refine L_op rfl (op_call rfl rfl (fun a w => Try.call59 a w) rfl ?_)
  refine ((present_ff h hp hq).sub (hsub_pick [0, 0] rfl)).mono ?_
  rintro _ _ ⟨rfl, rfl⟩
  refine ⟨_, rfl, ?_⟩
  refine L_y rfl (y_lenS rfl rfl Try.underlying118) rfl ?_
  refine L_y rfl (y_move rfl) rfl ?_
  refine L_nil ?_
  refine C_block ?_
  refine C_loopIn (In_round ?_)
  refine C_seq ?_
  refine C_region ?_
  refine L_y rfl (y_lss rfl rfl) rfl ?_
  refine L_nil ?_
  refine C_seq ?_
  refine C_cond_f rfl ?_
  refine C_exit ?_
  refine C_seq ?_
  refine C_region ?_
  refine L_y rfl (y_move rfl) rfl ?_
  refine L_y rfl (y_assign rfl) rfl ?_
  refine L_nil ?_
  refine C_ret ?_
  refine B_ret (rv_tmp rfl rv_nil) (hsub_nil0.trans ((hsub (.cons_cons _ (.cons_cons _ (.refl _)))).trans (hsub_pick [0, 0] rfl))) ?_
  have e0 : bothS m A p n = [] := by simp_all [bothS]
  rw [e0]
  exact ⟨none, ⟨rfl, rfl⟩, rfl, rfl⟩

theorem both_m {w0 : World} {H : Hp} {D : Duo} {A : Da} {bp : Nat} {m : Mi} (h : Two dt D A m.bx m.bys bp) {p : Int → Sec → Bool} (hG : GoodAt Try.prog w0 H m.gv p) (n : Int) : FnS Try.prog w0 25 #[ptr m.b, .int .i64 n] (m.seg 110 :: D.seg dt :: H) (fun e H' => ∃ g, slOk 128 g (bothS m A p n).length (bs (bothS m A p n).flatten) ∧ e = .returned (slV g (bothS m A p n).length) ∧ H' = slSeg 32 g (bs (bothS m A p n).flatten) :: m.seg 110 :: D.seg dt :: H) := by
  cases hn : m.has n
  · exact both_no h hG n hn
  · cases hp : thr A false <;> cases hq : thr A true
    · exact both_ff h hG n hn hp hq
    · exact both_ft h hG n hn hp hq
    · exact both_tf h hG n hn hp hq
    · exact both_tt h hG n hn hp hq

end Go.Proofs.Ytjjiclgbdenkkaa

/- walks (own work; the walks' lines by a program of this repo). -/
set_option linter.unusedVariables false
set_option linter.unusedSimpArgs false
set_option maxRecDepth 20000
namespace Go.Proofs.Ytjjiclgbdenkkaa
open Go.Sl
attribute [local irreducible] BodyQ WpC WpL WpS WpH OpW FnS


theorem mread_no {w0 : World} {H : Hp} {D : Duo} {A : Da} {bp : Nat} {m : Mi} (h : Two dt D A m.bx m.bys bp) {p : Int → Sec → Bool} (hG : GoodAt Try.prog w0 H m.gv p) (n : Int) (hn : m.has n = false) : FnS Try.prog w0 22 #[ptr m.b, .int .i64 n] (m.seg 110 :: D.seg dt :: H) (fun e H' => e = .returned (.tuple #[.agg (bs (mrS m A p n)).toArray, .int .i64 (mrE m A p n)]) ∧ H' = m.seg 110 :: D.seg dt :: H) := by
  refine FnS_intro (n := 63) (rs := [.cell 4 32, .tmp 5]) (vs := [ptr m.b, .int .i64 n]) Try.func22 rfl Try.ntmps22 rfl rfl ?_
  refine C_seq ?_
  refine C_region ?_
  refine L_op rfl (op_alloc zl_32 rfl (fun B1 => ?_))
  refine L_y rfl (y_assign rfl) rfl ?_
  refine L_nil ?_
  refine C_seq ?_
  refine C_seq ?_
  refine C_region ?_
  refine L_y rfl (y_move rfl) rfl ?_
  refine L_y rfl (y_move rfl) rfl ?_
  refine L_op rfl (op_call rfl rfl (fun a w => Try.call58 a w) rfl ?_)
  refine (has_m _ (sees 1 0 rfl)).mono ?_
  rintro _ _ ⟨rfl, rfl⟩
  rw [hn]
  refine ⟨_, rfl, ?_⟩
  refine L_y rfl (y_not rfl) rfl ?_
  refine L_nil ?_
  refine C_cond_t rfl ?_
  refine C_seq ?_
  refine C_region ?_
  refine L_y rfl (y_buildA0 Try.underlying32 sz_5 zl_32) rfl ?_
  refine L_op rfl (op_storeA 0 0 rfl rfl rfl sz_32 (by rw [zsec, bs_length, secOf_len]) rfl (by rw [zsec]; exact bs_one _) (by simp) ?_)
  rw [zsec]
  refine L_y rfl (y_assign rfl) rfl ?_
  refine L_nil ?_
  refine C_ret ?_
  refine B_ret (rv_cellA rfl ag_32 sz_32 (sees 0 0 rfl) (by first | (rw [bs_length, rS_len _ h.oks]; decide) | (rw [bs_length, secOf_len]; decide)) (by first | exact bs_whole0 _ (rS_len _ h.oks) | exact bs_whole0 _ (secOf_len 0)) (rv_tmp rfl rv_nil)) ((hsub (.cons_cons _ (.cons_cons _ (.cons _ (.refl _))))).trans (hsub_pick [1, 1] rfl)) ?_
  exact ⟨by simp_all [mrE, mrS, okAt] <;> rfl, rfl⟩

theorem mread_tt {w0 : World} {H : Hp} {D : Duo} {A : Da} {bp : Nat} {m : Mi} (h : Two dt D A m.bx m.bys bp) {p : Int → Sec → Bool} (hG : GoodAt Try.prog w0 H m.gv p) (n : Int) (hn : m.has n = true) (hp : thr A false = true) (hq : thr A true = true) : FnS Try.prog w0 22 #[ptr m.b, .int .i64 n] (m.seg 110 :: D.seg dt :: H) (fun e H' => e = .returned (.tuple #[.agg (bs (mrS m A p n)).toArray, .int .i64 (mrE m A p n)]) ∧ H' = m.seg 110 :: D.seg dt :: H) := by
  refine FnS_intro (n := 63) (rs := [.cell 4 32, .tmp 5]) (vs := [ptr m.b, .int .i64 n]) Try.func22 rfl Try.ntmps22 rfl rfl ?_
  refine C_seq ?_
  refine C_region ?_
  refine L_op rfl (op_alloc zl_32 rfl (fun B1 => ?_))
  refine L_y rfl (y_assign rfl) rfl ?_
  refine L_nil ?_
  refine C_seq ?_
  refine C_seq ?_
  refine C_region ?_
  refine L_y rfl (y_move rfl) rfl ?_
  refine L_y rfl (y_move rfl) rfl ?_
  refine L_op rfl (op_call rfl rfl (fun a w => Try.call58 a w) rfl ?_)
  refine (has_m _ (sees 1 0 rfl)).mono ?_
  rintro _ _ ⟨rfl, rfl⟩
  rw [hn]
  refine ⟨_, rfl, ?_⟩
  refine L_y rfl (y_not rfl) rfl ?_
  refine L_nil ?_
  refine C_cond_f rfl ?_
  refine C_skip ?_
  refine C_seq ?_
  refine C_region ?_
  refine L_y rfl (y_move rfl) rfl ?_
  refine L_op rfl (op_call rfl rfl (fun a w => Try.call59 a w) rfl ?_)
  refine ((present_tt h hp hq).sub (hsub_pick [1, 1] rfl)).mono ?_
  rintro _ _ ⟨g1, hg1, rfl, rfl⟩
  cases g1 with
  | none => exact slOk_none hg1 (by decide)
  | some g1 => ?_
  refine ⟨_, rfl, ?_⟩
  refine L_y rfl (y_assign rfl) rfl ?_
  refine L_nil ?_
  refine C_seq ?_
  refine C_seq ?_
  refine C_region ?_
  refine L_y rfl (y_move rfl) rfl ?_
  refine L_y rfl (y_lenS rfl rfl Try.underlying118) rfl ?_
  refine L_y rfl (y_eqi rfl rfl) rfl ?_
  refine L_nil ?_
  refine C_cond_f rfl ?_
  refine C_skip ?_
  refine C_seq ?_
  refine C_seq ?_
  refine C_region ?_
  refine L_y rfl (y_move rfl) rfl ?_
  refine L_y rfl (y_lenS rfl rfl Try.underlying118) rfl ?_
  refine L_y rfl (y_move rfl) rfl ?_
  refine L_nil ?_
  refine C_block ?_
  refine C_loopIn (In_round ?_)
  refine C_seq ?_
  refine C_region ?_
  refine L_y rfl (y_lss rfl rfl) rfl ?_
  refine L_nil ?_
  refine C_seq ?_
  refine C_cond_t rfl ?_
  refine C_skip ?_
  refine C_seq ?_
  refine C_block ?_
  refine C_seq ?_
  refine C_region ?_
  refine L_y rfl (y_indexS rfl rfl Try.underlying118 sz_3 (by omega) (by omega) (show _ = 0 from rfl)) rfl ?_
  refine L_y rfl (y_load rfl ag_3 (sees 0 0 rfl) rfl) rfl ?_
  refine L_y rfl (y_assign rfl) rfl ?_
  refine L_nil ?_
  refine C_seq ?_
  refine C_region ?_
  refine L_y rfl (y_move rfl) rfl ?_
  refine L_y rfl (y_move rfl) rfl ?_
  refine L_y rfl (y_nilCheck rfl) rfl ?_
  refine L_y rfl (y_fieldAddr rfl fl_110_0) rfl ?_
  refine L_y rfl (y_indexA rfl rfl Try.underlying108 sz_107 (by omega) (by omega) (show _ = 0 from rfl)) rfl ?_
  refine L_y rfl (y_fieldAddr rfl fl_107_0) rfl ?_
  refine L_y rfl (y_load rfl ag_24 (sees 1 0 rfl) rfl) rfl ?_
  refine L_y rfl (y_move rfl) rfl ?_
  refine L_op rfl (op_call rfl rfl (fun a w => Try.call60 a w) rfl ?_)
  refine ((read_d h false (n)).sub (hsub_pick [2] rfl)).mono ?_
  rintro _ _ ⟨rfl, rfl⟩
  refine ⟨_, rfl, ?_⟩
  refine L_y rfl (y_move rfl) rfl ?_
  refine L_y rfl (y_extract rfl rfl) rfl ?_
  refine L_y rfl (y_extract rfl rfl) rfl ?_
  refine L_op rfl (op_alloc zl_32 rfl (fun B2 => ?_))
  refine L_op rfl (op_storeA 0 0 rfl rfl rfl sz_32 (by rw [bs_length, (rS_len false h.oks)]) rfl (bs_one _) (by simp) ?_)
  refine L_y rfl (y_assign rfl) rfl ?_
  refine L_nil ?_
  refine C_seq ?_
  refine C_region ?_
  refine L_y rfl (y_move rfl) rfl ?_
  refine L_y rfl (y_eqi rfl rfl) rfl ?_
  refine L_y rfl (y_move rfl) rfl ?_
  refine L_case 42 rfl (fun hg10_3 => ?_) (fun hg10_3 => ?_)
  · skip
    refine L_y rfl (y_move rfl) rfl ?_
    refine L_y rfl (y_move rfl) rfl ?_
    refine L_y rfl (y_nilCheck rfl) rfl ?_
    refine L_y rfl (y_fieldAddr rfl fl_110_0) rfl ?_
    refine L_y rfl (y_indexA rfl rfl Try.underlying108 sz_107 (by omega) (by omega) (show _ = 0 from rfl)) rfl ?_
    refine L_y rfl (y_fieldAddr rfl fl_107_1) rfl ?_
    refine L_y rfl (y_load rfl ag_105 (sees 3 0 rfl) rfl) rfl ?_
    refine L_y rfl (y_move rfl) rfl ?_
    refine L_y rfl (y_lookup rfl rfl Try.underlying105 Try.underlying3 zt_4 (sees 3 1 rfl)) rfl ?_
    refine L_y rfl (y_not rfl) rfl ?_
    refine L_y rfl (y_pick_t rfl rfl) rfl ?_
    refine L_y rfl (y_move rfl) rfl ?_
    refine L_case 54 rfl (fun hg10_15 => ?_) (fun hg10_15 => ?_)
    · skip
      refine L_y rfl (y_move rfl) rfl ?_
      refine L_y rfl (y_move rfl) rfl ?_
      refine L_y rfl (y_loadA rfl ag_32 sz_32 (sees 0 0 rfl) (by rw [bs_length, rS_len _ h.oks]; decide) (bs_whole0 _ (rS_len _ h.oks))) rfl ?_
      refine L_op rfl (op_call rfl rfl (fun a w => Try.call61 a w) rfl ?_)
      refine FnS.mono (right_m (sees 3 0 rfl) (hG.sub (hsub (.cons _ (.cons _ (.cons _ (.cons _ (.cons _ (.refl _)))))))) n _ (rS_len _ h.oks)) ?_
      rintro _ _ ⟨rfl, e⟩
      obtain rfl := e.symm
      refine ⟨_, rfl, ?_⟩
      refine L_y rfl (y_pick_t rfl rfl) rfl ?_
      refine L_nil ?_
      refine C_cond rfl (fun hc3 => ?_) (fun hc3 => ?_)
      · skip
        refine C_seq ?_
        refine C_region ?_
        refine L_y rfl (y_loadA rfl ag_32 sz_32 (sees 0 0 rfl) (by rw [bs_length, rS_len _ h.oks]; decide) (bs_whole0 _ (rS_len _ h.oks))) rfl ?_
        refine L_op rfl (op_storeA 4 0 rfl rfl rfl sz_32 (by rw [bs_length, rS_len _ h.oks]) rfl (bs_one _) (by simp) ?_)
        refine L_y rfl (y_assign rfl) rfl ?_
        refine L_nil ?_
        refine C_ret ?_
        refine B_ret (rv_cellA rfl ag_32 sz_32 (sees 4 0 rfl) (by first | (rw [bs_length, rS_len _ h.oks]; decide) | (rw [bs_length, secOf_len]; decide)) (by first | exact bs_whole0 _ (rS_len _ h.oks) | exact bs_whole0 _ (secOf_len 0)) (rv_tmp rfl rv_nil)) ((hsub (.cons_cons _ (.cons_cons _ (.cons _ (.cons _ (.cons _ (.refl _))))))).trans (hsub_pick [3, 1] rfl)) ?_
        exact ⟨by simp_all [mrE, mrS, okAt] <;> rfl, rfl⟩
      · skip
        refine C_skip ?_
        refine C_region ?_
        refine L_y rfl (y_add rfl rfl (show _ = (1 : Int) from rfl)) rfl ?_
        refine L_y rfl (y_move rfl) rfl ?_
        refine L_nil ?_
        refine In_round ?_
        refine C_seq ?_
        refine C_region ?_
        refine L_y rfl (y_lss rfl rfl) rfl ?_
        refine L_nil ?_
        refine C_seq ?_
        refine C_cond_t rfl ?_
        refine C_skip ?_
        refine C_seq ?_
        refine C_block ?_
        refine C_seq ?_
        refine C_region ?_
        refine L_y rfl (y_indexS rfl rfl Try.underlying118 sz_3 (by omega) (by omega) (show _ = 1 from rfl)) rfl ?_
        refine L_y rfl (y_load rfl ag_3 (sees 2 0 rfl) rfl) rfl ?_
        refine L_y rfl (y_assign rfl) rfl ?_
        refine L_nil ?_
        refine C_seq ?_
        refine C_region ?_
        refine L_y rfl (y_move rfl) rfl ?_
        refine L_y rfl (y_move rfl) rfl ?_
        refine L_y rfl (y_nilCheck rfl) rfl ?_
        refine L_y rfl (y_fieldAddr rfl fl_110_0) rfl ?_
        refine L_y rfl (y_indexA rfl rfl Try.underlying108 sz_107 (by omega) (by omega) (show _ = 2 from rfl)) rfl ?_
        refine L_y rfl (y_fieldAddr rfl fl_107_0) rfl ?_
        refine L_y rfl (y_load rfl ag_24 (sees 3 0 rfl) rfl) rfl ?_
        refine L_y rfl (y_move rfl) rfl ?_
        refine L_op rfl (op_call rfl rfl (fun a w => Try.call60 a w) rfl ?_)
        refine ((read_d h true (n)).sub (hsub_pick [1] rfl)).mono ?_
        rintro _ _ ⟨rfl, rfl⟩
        refine ⟨_, rfl, ?_⟩
        refine L_y rfl (y_move rfl) rfl ?_
        refine L_y rfl (y_extract rfl rfl) rfl ?_
        refine L_y rfl (y_extract rfl rfl) rfl ?_
        refine L_op rfl (op_alloc zl_32 rfl (fun B3 => ?_))
        refine L_op rfl (op_storeA 0 0 rfl rfl rfl sz_32 (by rw [bs_length, (rS_len true h.oks)]) rfl (bs_one _) (by simp) ?_)
        refine L_y rfl (y_assign rfl) rfl ?_
        refine L_nil ?_
        refine C_seq ?_
        refine C_region ?_
        refine L_y rfl (y_move rfl) rfl ?_
        refine L_y rfl (y_eqi rfl rfl) rfl ?_
        refine L_y rfl (y_move rfl) rfl ?_
        refine L_case 42 rfl (fun hg10_3 => ?_) (fun hg10_3 => ?_)
        · skip
          refine L_y rfl (y_move rfl) rfl ?_
          refine L_y rfl (y_move rfl) rfl ?_
          refine L_y rfl (y_nilCheck rfl) rfl ?_
          refine L_y rfl (y_fieldAddr rfl fl_110_0) rfl ?_
          refine L_y rfl (y_indexA rfl rfl Try.underlying108 sz_107 (by omega) (by omega) (show _ = 2 from rfl)) rfl ?_
          refine L_y rfl (y_fieldAddr rfl fl_107_1) rfl ?_
          refine L_y rfl (y_load rfl ag_105 (sees 4 0 rfl) rfl) rfl ?_
          refine L_y rfl (y_move rfl) rfl ?_
          refine L_y rfl (y_lookup rfl rfl Try.underlying105 Try.underlying3 zt_4 (sees 4 2 rfl)) rfl ?_
          refine L_y rfl (y_not rfl) rfl ?_
          refine L_y rfl (y_pick_t rfl rfl) rfl ?_
          refine L_y rfl (y_move rfl) rfl ?_
          refine L_case 54 rfl (fun hg10_15 => ?_) (fun hg10_15 => ?_)
          · skip
            refine L_y rfl (y_move rfl) rfl ?_
            refine L_y rfl (y_move rfl) rfl ?_
            refine L_y rfl (y_loadA rfl ag_32 sz_32 (sees 0 0 rfl) (by rw [bs_length, rS_len _ h.oks]; decide) (bs_whole0 _ (rS_len _ h.oks))) rfl ?_
            refine L_op rfl (op_call rfl rfl (fun a w => Try.call61 a w) rfl ?_)
            refine FnS.mono (right_m (sees 4 0 rfl) (hG.sub (hsub (.cons _ (.cons _ (.cons _ (.cons _ (.cons _ (.cons _ (.refl _))))))))) n _ (rS_len _ h.oks)) ?_
            rintro _ _ ⟨rfl, e⟩
            obtain rfl := e.symm
            refine ⟨_, rfl, ?_⟩
            refine L_y rfl (y_pick_t rfl rfl) rfl ?_
            refine L_nil ?_
            refine C_cond rfl (fun hc3 => ?_) (fun hc3 => ?_)
            · skip
              refine C_seq ?_
              refine C_region ?_
              refine L_y rfl (y_loadA rfl ag_32 sz_32 (sees 0 0 rfl) (by rw [bs_length, rS_len _ h.oks]; decide) (bs_whole0 _ (rS_len _ h.oks))) rfl ?_
              refine L_op rfl (op_storeA 5 0 rfl rfl rfl sz_32 (by rw [bs_length, rS_len _ h.oks]) rfl (bs_one _) (by simp) ?_)
              refine L_y rfl (y_assign rfl) rfl ?_
              refine L_nil ?_
              refine C_ret ?_
              refine B_ret (rv_cellA rfl ag_32 sz_32 (sees 5 0 rfl) (by first | (rw [bs_length, rS_len _ h.oks]; decide) | (rw [bs_length, secOf_len]; decide)) (by first | exact bs_whole0 _ (rS_len _ h.oks) | exact bs_whole0 _ (secOf_len 0)) (rv_tmp rfl rv_nil)) ((hsub (.cons_cons _ (.cons_cons _ (.cons _ (.cons _ (.cons _ (.cons _ (.refl _)))))))).trans (hsub_pick [4, 1] rfl)) ?_
              exact ⟨by simp_all [mrE, mrS, okAt] <;> rfl, rfl⟩
            · skip
              refine C_skip ?_
              refine C_region ?_
              refine L_y rfl (y_add rfl rfl (show _ = (2 : Int) from rfl)) rfl ?_
              refine L_y rfl (y_move rfl) rfl ?_
              refine L_nil ?_
              refine In_round ?_
              refine C_seq ?_
              refine C_region ?_
              refine L_y rfl (y_lss rfl rfl) rfl ?_
              refine L_nil ?_
              refine C_seq ?_
              refine C_cond_f rfl ?_
              refine C_exit ?_
              refine C_seq ?_
              refine C_region ?_
              refine L_y rfl (y_buildA0 Try.underlying32 sz_5 zl_32) rfl ?_
              refine L_op rfl (op_storeA 5 0 rfl rfl rfl sz_32 (by rw [zsec, bs_length, secOf_len]) rfl (by rw [zsec]; exact bs_one _) (by simp) ?_)
              rw [zsec]
              refine L_y rfl (y_assign rfl) rfl ?_
              refine L_nil ?_
              refine C_ret ?_
              refine B_ret (rv_cellA rfl ag_32 sz_32 (sees 5 0 rfl) (by first | (rw [bs_length, rS_len _ h.oks]; decide) | (rw [bs_length, secOf_len]; decide)) (by first | exact bs_whole0 _ (rS_len _ h.oks) | exact bs_whole0 _ (secOf_len 0)) (rv_tmp rfl rv_nil)) ((hsub (.cons_cons _ (.cons_cons _ (.cons _ (.cons _ (.cons _ (.cons _ (.refl _)))))))).trans (hsub_pick [4, 1] rfl)) ?_
              exact ⟨by simp_all [mrE, mrS, okAt] <;> rfl, rfl⟩
          · skip
            refine L_skip rfl rfl ?_
            refine L_skip rfl rfl ?_
            refine L_skip rfl rfl ?_
            refine L_skip rfl rfl ?_
            refine L_y rfl (y_pick_f rfl rfl) rfl ?_
            refine L_nil ?_
            refine C_cond_f rfl ?_
            refine C_skip ?_
            refine C_region ?_
            refine L_y rfl (y_add rfl rfl (show _ = (2 : Int) from rfl)) rfl ?_
            refine L_y rfl (y_move rfl) rfl ?_
            refine L_nil ?_
            refine In_round ?_
            refine C_seq ?_
            refine C_region ?_
            refine L_y rfl (y_lss rfl rfl) rfl ?_
            refine L_nil ?_
            refine C_seq ?_
            refine C_cond_f rfl ?_
            refine C_exit ?_
            refine C_seq ?_
            refine C_region ?_
            refine L_y rfl (y_buildA0 Try.underlying32 sz_5 zl_32) rfl ?_
            refine L_op rfl (op_storeA 5 0 rfl rfl rfl sz_32 (by rw [zsec, bs_length, secOf_len]) rfl (by rw [zsec]; exact bs_one _) (by simp) ?_)
            rw [zsec]
            refine L_y rfl (y_assign rfl) rfl ?_
            refine L_nil ?_
            refine C_ret ?_
            refine B_ret (rv_cellA rfl ag_32 sz_32 (sees 5 0 rfl) (by first | (rw [bs_length, rS_len _ h.oks]; decide) | (rw [bs_length, secOf_len]; decide)) (by first | exact bs_whole0 _ (rS_len _ h.oks) | exact bs_whole0 _ (secOf_len 0)) (rv_tmp rfl rv_nil)) ((hsub (.cons_cons _ (.cons_cons _ (.cons _ (.cons _ (.cons _ (.cons _ (.refl _)))))))).trans (hsub_pick [4, 1] rfl)) ?_
            exact ⟨by simp_all [mrE, mrS, okAt] <;> rfl, rfl⟩
        · skip
          refine L_skip rfl rfl ?_
          refine L_skip rfl rfl ?_
          refine L_skip rfl rfl ?_
          refine L_skip rfl rfl ?_
          refine L_skip rfl rfl ?_
          refine L_skip rfl rfl ?_
          refine L_skip rfl rfl ?_
          refine L_skip rfl rfl ?_
          refine L_skip rfl rfl ?_
          refine L_skip rfl rfl ?_
          refine L_y rfl (y_pick_f rfl rfl) rfl ?_
          refine L_y rfl (y_move rfl) rfl ?_
          refine L_skip rfl rfl ?_
          refine L_skip rfl rfl ?_
          refine L_skip rfl rfl ?_
          refine L_skip rfl rfl ?_
          refine L_y rfl (y_pick_f rfl rfl) rfl ?_
          refine L_nil ?_
          refine C_cond_f rfl ?_
          refine C_skip ?_
          refine C_region ?_
          refine L_y rfl (y_add rfl rfl (show _ = (2 : Int) from rfl)) rfl ?_
          refine L_y rfl (y_move rfl) rfl ?_
          refine L_nil ?_
          refine In_round ?_
          refine C_seq ?_
          refine C_region ?_
          refine L_y rfl (y_lss rfl rfl) rfl ?_
          refine L_nil ?_
          refine C_seq ?_
          refine C_cond_f rfl ?_
          refine C_exit ?_
          refine C_seq ?_
          refine C_region ?_
          refine L_y rfl (y_buildA0 Try.underlying32 sz_5 zl_32) rfl ?_
          refine L_op rfl (op_storeA 5 0 rfl rfl rfl sz_32 (by rw [zsec, bs_length, secOf_len]) rfl (by rw [zsec]; exact bs_one _) (by simp) ?_)
          rw [zsec]
          refine L_y rfl (y_assign rfl) rfl ?_
          refine L_nil ?_
          refine C_ret ?_
          refine B_ret (rv_cellA rfl ag_32 sz_32 (sees 5 0 rfl) (by first | (rw [bs_length, rS_len _ h.oks]; decide) | (rw [bs_length, secOf_len]; decide)) (by first | exact bs_whole0 _ (rS_len _ h.oks) | exact bs_whole0 _ (secOf_len 0)) (rv_tmp rfl rv_nil)) ((hsub (.cons_cons _ (.cons_cons _ (.cons _ (.cons _ (.cons _ (.cons _ (.refl _)))))))).trans (hsub_pick [4, 1] rfl)) ?_
          exact ⟨by simp_all [mrE, mrS, okAt] <;> rfl, rfl⟩
    · skip
      refine L_skip rfl rfl ?_
      refine L_skip rfl rfl ?_
      refine L_skip rfl rfl ?_
      refine L_skip rfl rfl ?_
      refine L_y rfl (y_pick_f rfl rfl) rfl ?_
      refine L_nil ?_
      refine C_cond_f rfl ?_
      refine C_skip ?_
      refine C_region ?_
      refine L_y rfl (y_add rfl rfl (show _ = (1 : Int) from rfl)) rfl ?_
      refine L_y rfl (y_move rfl) rfl ?_
      refine L_nil ?_
      refine In_round ?_
      refine C_seq ?_
      refine C_region ?_
      refine L_y rfl (y_lss rfl rfl) rfl ?_
      refine L_nil ?_
      refine C_seq ?_
      refine C_cond_t rfl ?_
      refine C_skip ?_
      refine C_seq ?_
      refine C_block ?_
      refine C_seq ?_
      refine C_region ?_
      refine L_y rfl (y_indexS rfl rfl Try.underlying118 sz_3 (by omega) (by omega) (show _ = 1 from rfl)) rfl ?_
      refine L_y rfl (y_load rfl ag_3 (sees 2 0 rfl) rfl) rfl ?_
      refine L_y rfl (y_assign rfl) rfl ?_
      refine L_nil ?_
      refine C_seq ?_
      refine C_region ?_
      refine L_y rfl (y_move rfl) rfl ?_
      refine L_y rfl (y_move rfl) rfl ?_
      refine L_y rfl (y_nilCheck rfl) rfl ?_
      refine L_y rfl (y_fieldAddr rfl fl_110_0) rfl ?_
      refine L_y rfl (y_indexA rfl rfl Try.underlying108 sz_107 (by omega) (by omega) (show _ = 2 from rfl)) rfl ?_
      refine L_y rfl (y_fieldAddr rfl fl_107_0) rfl ?_
      refine L_y rfl (y_load rfl ag_24 (sees 3 0 rfl) rfl) rfl ?_
      refine L_y rfl (y_move rfl) rfl ?_
      refine L_op rfl (op_call rfl rfl (fun a w => Try.call60 a w) rfl ?_)
      refine ((read_d h true (n)).sub (hsub_pick [1] rfl)).mono ?_
      rintro _ _ ⟨rfl, rfl⟩
      refine ⟨_, rfl, ?_⟩
      refine L_y rfl (y_move rfl) rfl ?_
      refine L_y rfl (y_extract rfl rfl) rfl ?_
      refine L_y rfl (y_extract rfl rfl) rfl ?_
      refine L_op rfl (op_alloc zl_32 rfl (fun B4 => ?_))
      refine L_op rfl (op_storeA 0 0 rfl rfl rfl sz_32 (by rw [bs_length, (rS_len true h.oks)]) rfl (bs_one _) (by simp) ?_)
      refine L_y rfl (y_assign rfl) rfl ?_
      refine L_nil ?_
      refine C_seq ?_
      refine C_region ?_
      refine L_y rfl (y_move rfl) rfl ?_
      refine L_y rfl (y_eqi rfl rfl) rfl ?_
      refine L_y rfl (y_move rfl) rfl ?_
      refine L_case 42 rfl (fun hg10_3 => ?_) (fun hg10_3 => ?_)
      · skip
        refine L_y rfl (y_move rfl) rfl ?_
        refine L_y rfl (y_move rfl) rfl ?_
        refine L_y rfl (y_nilCheck rfl) rfl ?_
        refine L_y rfl (y_fieldAddr rfl fl_110_0) rfl ?_
        refine L_y rfl (y_indexA rfl rfl Try.underlying108 sz_107 (by omega) (by omega) (show _ = 2 from rfl)) rfl ?_
        refine L_y rfl (y_fieldAddr rfl fl_107_1) rfl ?_
        refine L_y rfl (y_load rfl ag_105 (sees 4 0 rfl) rfl) rfl ?_
        refine L_y rfl (y_move rfl) rfl ?_
        refine L_y rfl (y_lookup rfl rfl Try.underlying105 Try.underlying3 zt_4 (sees 4 2 rfl)) rfl ?_
        refine L_y rfl (y_not rfl) rfl ?_
        refine L_y rfl (y_pick_t rfl rfl) rfl ?_
        refine L_y rfl (y_move rfl) rfl ?_
        refine L_case 54 rfl (fun hg10_15 => ?_) (fun hg10_15 => ?_)
        · skip
          refine L_y rfl (y_move rfl) rfl ?_
          refine L_y rfl (y_move rfl) rfl ?_
          refine L_y rfl (y_loadA rfl ag_32 sz_32 (sees 0 0 rfl) (by rw [bs_length, rS_len _ h.oks]; decide) (bs_whole0 _ (rS_len _ h.oks))) rfl ?_
          refine L_op rfl (op_call rfl rfl (fun a w => Try.call61 a w) rfl ?_)
          refine FnS.mono (right_m (sees 4 0 rfl) (hG.sub (hsub (.cons _ (.cons _ (.cons _ (.cons _ (.cons _ (.cons _ (.refl _))))))))) n _ (rS_len _ h.oks)) ?_
          rintro _ _ ⟨rfl, e⟩
          obtain rfl := e.symm
          refine ⟨_, rfl, ?_⟩
          refine L_y rfl (y_pick_t rfl rfl) rfl ?_
          refine L_nil ?_
          refine C_cond rfl (fun hc3 => ?_) (fun hc3 => ?_)
          · skip
            refine C_seq ?_
            refine C_region ?_
            refine L_y rfl (y_loadA rfl ag_32 sz_32 (sees 0 0 rfl) (by rw [bs_length, rS_len _ h.oks]; decide) (bs_whole0 _ (rS_len _ h.oks))) rfl ?_
            refine L_op rfl (op_storeA 5 0 rfl rfl rfl sz_32 (by rw [bs_length, rS_len _ h.oks]) rfl (bs_one _) (by simp) ?_)
            refine L_y rfl (y_assign rfl) rfl ?_
            refine L_nil ?_
            refine C_ret ?_
            refine B_ret (rv_cellA rfl ag_32 sz_32 (sees 5 0 rfl) (by first | (rw [bs_length, rS_len _ h.oks]; decide) | (rw [bs_length, secOf_len]; decide)) (by first | exact bs_whole0 _ (rS_len _ h.oks) | exact bs_whole0 _ (secOf_len 0)) (rv_tmp rfl rv_nil)) ((hsub (.cons_cons _ (.cons_cons _ (.cons _ (.cons _ (.cons _ (.cons _ (.refl _)))))))).trans (hsub_pick [4, 1] rfl)) ?_
            exact ⟨by simp_all [mrE, mrS, okAt] <;> rfl, rfl⟩
          · skip
            refine C_skip ?_
            refine C_region ?_
            refine L_y rfl (y_add rfl rfl (show _ = (2 : Int) from rfl)) rfl ?_
            refine L_y rfl (y_move rfl) rfl ?_
            refine L_nil ?_
            refine In_round ?_
            refine C_seq ?_
            refine C_region ?_
            refine L_y rfl (y_lss rfl rfl) rfl ?_
            refine L_nil ?_
            refine C_seq ?_
            refine C_cond_f rfl ?_
            refine C_exit ?_
            refine C_seq ?_
            refine C_region ?_
            refine L_y rfl (y_buildA0 Try.underlying32 sz_5 zl_32) rfl ?_
            refine L_op rfl (op_storeA 5 0 rfl rfl rfl sz_32 (by rw [zsec, bs_length, secOf_len]) rfl (by rw [zsec]; exact bs_one _) (by simp) ?_)
            rw [zsec]
            refine L_y rfl (y_assign rfl) rfl ?_
            refine L_nil ?_
            refine C_ret ?_
            refine B_ret (rv_cellA rfl ag_32 sz_32 (sees 5 0 rfl) (by first | (rw [bs_length, rS_len _ h.oks]; decide) | (rw [bs_length, secOf_len]; decide)) (by first | exact bs_whole0 _ (rS_len _ h.oks) | exact bs_whole0 _ (secOf_len 0)) (rv_tmp rfl rv_nil)) ((hsub (.cons_cons _ (.cons_cons _ (.cons _ (.cons _ (.cons _ (.cons _ (.refl _)))))))).trans (hsub_pick [4, 1] rfl)) ?_
            exact ⟨by simp_all [mrE, mrS, okAt] <;> rfl, rfl⟩
        · skip
          refine L_skip rfl rfl ?_
          refine L_skip rfl rfl ?_
          refine L_skip rfl rfl ?_
          refine L_skip rfl rfl ?_
          refine L_y rfl (y_pick_f rfl rfl) rfl ?_
          refine L_nil ?_
          refine C_cond_f rfl ?_
          refine C_skip ?_
          refine C_region ?_
          refine L_y rfl (y_add rfl rfl (show _ = (2 : Int) from rfl)) rfl ?_
          refine L_y rfl (y_move rfl) rfl ?_
          refine L_nil ?_
          refine In_round ?_
          refine C_seq ?_
          refine C_region ?_
          refine L_y rfl (y_lss rfl rfl) rfl ?_
          refine L_nil ?_
          refine C_seq ?_
          refine C_cond_f rfl ?_
          refine C_exit ?_
          refine C_seq ?_
          refine C_region ?_
          refine L_y rfl (y_buildA0 Try.underlying32 sz_5 zl_32) rfl ?_
          refine L_op rfl (op_storeA 5 0 rfl rfl rfl sz_32 (by rw [zsec, bs_length, secOf_len]) rfl (by rw [zsec]; exact bs_one _) (by simp) ?_)
          rw [zsec]
          refine L_y rfl (y_assign rfl) rfl ?_
          refine L_nil ?_
          refine C_ret ?_
          refine B_ret (rv_cellA rfl ag_32 sz_32 (sees 5 0 rfl) (by first | (rw [bs_length, rS_len _ h.oks]; decide) | (rw [bs_length, secOf_len]; decide)) (by first | exact bs_whole0 _ (rS_len _ h.oks) | exact bs_whole0 _ (secOf_len 0)) (rv_tmp rfl rv_nil)) ((hsub (.cons_cons _ (.cons_cons _ (.cons _ (.cons _ (.cons _ (.cons _ (.refl _)))))))).trans (hsub_pick [4, 1] rfl)) ?_
          exact ⟨by simp_all [mrE, mrS, okAt] <;> rfl, rfl⟩
      · skip
        refine L_skip rfl rfl ?_
        refine L_skip rfl rfl ?_
        refine L_skip rfl rfl ?_
        refine L_skip rfl rfl ?_
        refine L_skip rfl rfl ?_
        refine L_skip rfl rfl ?_
        refine L_skip rfl rfl ?_
        refine L_skip rfl rfl ?_
        refine L_skip rfl rfl ?_
        refine L_skip rfl rfl ?_
        refine L_y rfl (y_pick_f rfl rfl) rfl ?_
        refine L_y rfl (y_move rfl) rfl ?_
        refine L_skip rfl rfl ?_
        refine L_skip rfl rfl ?_
        refine L_skip rfl rfl ?_
        refine L_skip rfl rfl ?_
        refine L_y rfl (y_pick_f rfl rfl) rfl ?_
        refine L_nil ?_
        refine C_cond_f rfl ?_
        refine C_skip ?_
        refine C_region ?_
        refine L_y rfl (y_add rfl rfl (show _ = (2 : Int) from rfl)) rfl ?_
        refine L_y rfl (y_move rfl) rfl ?_
        refine L_nil ?_
        refine In_round ?_
        refine C_seq ?_
        refine C_region ?_
        refine L_y rfl (y_lss rfl rfl) rfl ?_
        refine L_nil ?_
        refine C_seq ?_
        refine C_cond_f rfl ?_
        refine C_exit ?_
        refine C_seq ?_
        refine C_region ?_
        refine L_y rfl (y_buildA0 Try.underlying32 sz_5 zl_32) rfl ?_
        refine L_op rfl (op_storeA 5 0 rfl rfl rfl sz_32 (by rw [zsec, bs_length, secOf_len]) rfl (by rw [zsec]; exact bs_one _) (by simp) ?_)
        rw [zsec]
        refine L_y rfl (y_assign rfl) rfl ?_
        refine L_nil ?_
        refine C_ret ?_
        refine B_ret (rv_cellA rfl ag_32 sz_32 (sees 5 0 rfl) (by first | (rw [bs_length, rS_len _ h.oks]; decide) | (rw [bs_length, secOf_len]; decide)) (by first | exact bs_whole0 _ (rS_len _ h.oks) | exact bs_whole0 _ (secOf_len 0)) (rv_tmp rfl rv_nil)) ((hsub (.cons_cons _ (.cons_cons _ (.cons _ (.cons _ (.cons _ (.cons _ (.refl _)))))))).trans (hsub_pick [4, 1] rfl)) ?_
        exact ⟨by simp_all [mrE, mrS, okAt] <;> rfl, rfl⟩
  · skip
    refine L_skip rfl rfl ?_
    refine L_skip rfl rfl ?_
    refine L_skip rfl rfl ?_
    refine L_skip rfl rfl ?_
    refine L_skip rfl rfl ?_
    refine L_skip rfl rfl ?_
    refine L_skip rfl rfl ?_
    refine L_skip rfl rfl ?_
    refine L_skip rfl rfl ?_
    refine L_skip rfl rfl ?_
    refine L_y rfl (y_pick_f rfl rfl) rfl ?_
    refine L_y rfl (y_move rfl) rfl ?_
    refine L_skip rfl rfl ?_
    refine L_skip rfl rfl ?_
    refine L_skip rfl rfl ?_
    refine L_skip rfl rfl ?_
    refine L_y rfl (y_pick_f rfl rfl) rfl ?_
    refine L_nil ?_
    refine C_cond_f rfl ?_
    refine C_skip ?_
    refine C_region ?_
    refine L_y rfl (y_add rfl rfl (show _ = (1 : Int) from rfl)) rfl ?_
    refine L_y rfl (y_move rfl) rfl ?_
    refine L_nil ?_
    refine In_round ?_
    refine C_seq ?_
    refine C_region ?_
    refine L_y rfl (y_lss rfl rfl) rfl ?_
    refine L_nil ?_
    refine C_seq ?_
    refine C_cond_t rfl ?_
    refine C_skip ?_
    refine C_seq ?_
    refine C_block ?_
    refine C_seq ?_
    refine C_region ?_
    refine L_y rfl (y_indexS rfl rfl Try.underlying118 sz_3 (by omega) (by omega) (show _ = 1 from rfl)) rfl ?_
    refine L_y rfl (y_load rfl ag_3 (sees 2 0 rfl) rfl) rfl ?_
    refine L_y rfl (y_assign rfl) rfl ?_
    refine L_nil ?_
    refine C_seq ?_
    refine C_region ?_
    refine L_y rfl (y_move rfl) rfl ?_
    refine L_y rfl (y_move rfl) rfl ?_
    refine L_y rfl (y_nilCheck rfl) rfl ?_
    refine L_y rfl (y_fieldAddr rfl fl_110_0) rfl ?_
    refine L_y rfl (y_indexA rfl rfl Try.underlying108 sz_107 (by omega) (by omega) (show _ = 2 from rfl)) rfl ?_
    refine L_y rfl (y_fieldAddr rfl fl_107_0) rfl ?_
    refine L_y rfl (y_load rfl ag_24 (sees 3 0 rfl) rfl) rfl ?_
    refine L_y rfl (y_move rfl) rfl ?_
    refine L_op rfl (op_call rfl rfl (fun a w => Try.call60 a w) rfl ?_)
    refine ((read_d h true (n)).sub (hsub_pick [1] rfl)).mono ?_
    rintro _ _ ⟨rfl, rfl⟩
    refine ⟨_, rfl, ?_⟩
    refine L_y rfl (y_move rfl) rfl ?_
    refine L_y rfl (y_extract rfl rfl) rfl ?_
    refine L_y rfl (y_extract rfl rfl) rfl ?_
    refine L_op rfl (op_alloc zl_32 rfl (fun B5 => ?_))
    refine L_op rfl (op_storeA 0 0 rfl rfl rfl sz_32 (by rw [bs_length, (rS_len true h.oks)]) rfl (bs_one _) (by simp) ?_)
    refine L_y rfl (y_assign rfl) rfl ?_
    refine L_nil ?_
    refine C_seq ?_
    refine C_region ?_
    refine L_y rfl (y_move rfl) rfl ?_
    refine L_y rfl (y_eqi rfl rfl) rfl ?_
    refine L_y rfl (y_move rfl) rfl ?_
    refine L_case 42 rfl (fun hg10_3 => ?_) (fun hg10_3 => ?_)
    · skip
      refine L_y rfl (y_move rfl) rfl ?_
      refine L_y rfl (y_move rfl) rfl ?_
      refine L_y rfl (y_nilCheck rfl) rfl ?_
      refine L_y rfl (y_fieldAddr rfl fl_110_0) rfl ?_
      refine L_y rfl (y_indexA rfl rfl Try.underlying108 sz_107 (by omega) (by omega) (show _ = 2 from rfl)) rfl ?_
      refine L_y rfl (y_fieldAddr rfl fl_107_1) rfl ?_
      refine L_y rfl (y_load rfl ag_105 (sees 4 0 rfl) rfl) rfl ?_
      refine L_y rfl (y_move rfl) rfl ?_
      refine L_y rfl (y_lookup rfl rfl Try.underlying105 Try.underlying3 zt_4 (sees 4 2 rfl)) rfl ?_
      refine L_y rfl (y_not rfl) rfl ?_
      refine L_y rfl (y_pick_t rfl rfl) rfl ?_
      refine L_y rfl (y_move rfl) rfl ?_
      refine L_case 54 rfl (fun hg10_15 => ?_) (fun hg10_15 => ?_)
      · skip
        refine L_y rfl (y_move rfl) rfl ?_
        refine L_y rfl (y_move rfl) rfl ?_
        refine L_y rfl (y_loadA rfl ag_32 sz_32 (sees 0 0 rfl) (by rw [bs_length, rS_len _ h.oks]; decide) (bs_whole0 _ (rS_len _ h.oks))) rfl ?_
        refine L_op rfl (op_call rfl rfl (fun a w => Try.call61 a w) rfl ?_)
        refine FnS.mono (right_m (sees 4 0 rfl) (hG.sub (hsub (.cons _ (.cons _ (.cons _ (.cons _ (.cons _ (.cons _ (.refl _))))))))) n _ (rS_len _ h.oks)) ?_
        rintro _ _ ⟨rfl, e⟩
        obtain rfl := e.symm
        refine ⟨_, rfl, ?_⟩
        refine L_y rfl (y_pick_t rfl rfl) rfl ?_
        refine L_nil ?_
        refine C_cond rfl (fun hc3 => ?_) (fun hc3 => ?_)
        · skip
          refine C_seq ?_
          refine C_region ?_
          refine L_y rfl (y_loadA rfl ag_32 sz_32 (sees 0 0 rfl) (by rw [bs_length, rS_len _ h.oks]; decide) (bs_whole0 _ (rS_len _ h.oks))) rfl ?_
          refine L_op rfl (op_storeA 5 0 rfl rfl rfl sz_32 (by rw [bs_length, rS_len _ h.oks]) rfl (bs_one _) (by simp) ?_)
          refine L_y rfl (y_assign rfl) rfl ?_
          refine L_nil ?_
          refine C_ret ?_
          refine B_ret (rv_cellA rfl ag_32 sz_32 (sees 5 0 rfl) (by first | (rw [bs_length, rS_len _ h.oks]; decide) | (rw [bs_length, secOf_len]; decide)) (by first | exact bs_whole0 _ (rS_len _ h.oks) | exact bs_whole0 _ (secOf_len 0)) (rv_tmp rfl rv_nil)) ((hsub (.cons_cons _ (.cons_cons _ (.cons _ (.cons _ (.cons _ (.cons _ (.refl _)))))))).trans (hsub_pick [4, 1] rfl)) ?_
          exact ⟨by simp_all [mrE, mrS, okAt] <;> rfl, rfl⟩
        · skip
          refine C_skip ?_
          refine C_region ?_
          refine L_y rfl (y_add rfl rfl (show _ = (2 : Int) from rfl)) rfl ?_
          refine L_y rfl (y_move rfl) rfl ?_
          refine L_nil ?_
          refine In_round ?_
          refine C_seq ?_
          refine C_region ?_
          refine L_y rfl (y_lss rfl rfl) rfl ?_
          refine L_nil ?_
          refine C_seq ?_
          refine C_cond_f rfl ?_
          refine C_exit ?_
          refine C_seq ?_
          refine C_region ?_
          refine L_y rfl (y_buildA0 Try.underlying32 sz_5 zl_32) rfl ?_
          refine L_op rfl (op_storeA 5 0 rfl rfl rfl sz_32 (by rw [zsec, bs_length, secOf_len]) rfl (by rw [zsec]; exact bs_one _) (by simp) ?_)
          rw [zsec]
          refine L_y rfl (y_assign rfl) rfl ?_
          refine L_nil ?_
          refine C_ret ?_
          refine B_ret (rv_cellA rfl ag_32 sz_32 (sees 5 0 rfl) (by first | (rw [bs_length, rS_len _ h.oks]; decide) | (rw [bs_length, secOf_len]; decide)) (by first | exact bs_whole0 _ (rS_len _ h.oks) | exact bs_whole0 _ (secOf_len 0)) (rv_tmp rfl rv_nil)) ((hsub (.cons_cons _ (.cons_cons _ (.cons _ (.cons _ (.cons _ (.cons _ (.refl _)))))))).trans (hsub_pick [4, 1] rfl)) ?_
          exact ⟨by simp_all [mrE, mrS, okAt] <;> rfl, rfl⟩
      · skip
        refine L_skip rfl rfl ?_
        refine L_skip rfl rfl ?_
        refine L_skip rfl rfl ?_
        refine L_skip rfl rfl ?_
        refine L_y rfl (y_pick_f rfl rfl) rfl ?_
        refine L_nil ?_
        refine C_cond_f rfl ?_
        refine C_skip ?_
        refine C_region ?_
        refine L_y rfl (y_add rfl rfl (show _ = (2 : Int) from rfl)) rfl ?_
        refine L_y rfl (y_move rfl) rfl ?_
        refine L_nil ?_
        refine In_round ?_
        refine C_seq ?_
        refine C_region ?_
        refine L_y rfl (y_lss rfl rfl) rfl ?_
        refine L_nil ?_
        refine C_seq ?_
        refine C_cond_f rfl ?_
        refine C_exit ?_
        refine C_seq ?_
        refine C_region ?_
        refine L_y rfl (y_buildA0 Try.underlying32 sz_5 zl_32) rfl ?_
        refine L_op rfl (op_storeA 5 0 rfl rfl rfl sz_32 (by rw [zsec, bs_length, secOf_len]) rfl (by rw [zsec]; exact bs_one _) (by simp) ?_)
        rw [zsec]
        refine L_y rfl (y_assign rfl) rfl ?_
        refine L_nil ?_
        refine C_ret ?_
        refine B_ret (rv_cellA rfl ag_32 sz_32 (sees 5 0 rfl) (by first | (rw [bs_length, rS_len _ h.oks]; decide) | (rw [bs_length, secOf_len]; decide)) (by first | exact bs_whole0 _ (rS_len _ h.oks) | exact bs_whole0 _ (secOf_len 0)) (rv_tmp rfl rv_nil)) ((hsub (.cons_cons _ (.cons_cons _ (.cons _ (.cons _ (.cons _ (.cons _ (.refl _)))))))).trans (hsub_pick [4, 1] rfl)) ?_
        exact ⟨by simp_all [mrE, mrS, okAt] <;> rfl, rfl⟩
    · skip
      refine L_skip rfl rfl ?_
      refine L_skip rfl rfl ?_
      refine L_skip rfl rfl ?_
      refine L_skip rfl rfl ?_
      refine L_skip rfl rfl ?_
      refine L_skip rfl rfl ?_
      refine L_skip rfl rfl ?_
      refine L_skip rfl rfl ?_
      refine L_skip rfl rfl ?_
      refine L_skip rfl rfl ?_
      refine L_y rfl (y_pick_f rfl rfl) rfl ?_
      refine L_y rfl (y_move rfl) rfl ?_
      refine L_skip rfl rfl ?_
      refine L_skip rfl rfl ?_
      refine L_skip rfl rfl ?_
      refine L_skip rfl rfl ?_
      refine L_y rfl (y_pick_f rfl rfl) rfl ?_
      refine L_nil ?_
      refine C_cond_f rfl ?_
      refine C_skip ?_
      refine C_region ?_
      refine L_y rfl (y_add rfl rfl (show _ = (2 : Int) from rfl)) rfl ?_
      refine L_y rfl (y_move rfl) rfl ?_
      refine L_nil ?_
      refine In_round ?_
      refine C_seq ?_
      refine C_region ?_
      refine L_y rfl (y_lss rfl rfl) rfl ?_
      refine L_nil ?_
      refine C_seq ?_
      refine C_cond_f rfl ?_
      refine C_exit ?_
      refine C_seq ?_
      refine C_region ?_
      refine L_y rfl (y_buildA0 Try.underlying32 sz_5 zl_32) rfl ?_
      refine L_op rfl (op_storeA 5 0 rfl rfl rfl sz_32 (by rw [zsec, bs_length, secOf_len]) rfl (by rw [zsec]; exact bs_one _) (by simp) ?_)
      rw [zsec]
      refine L_y rfl (y_assign rfl) rfl ?_
      refine L_nil ?_
      refine C_ret ?_
      refine B_ret (rv_cellA rfl ag_32 sz_32 (sees 5 0 rfl) (by first | (rw [bs_length, rS_len _ h.oks]; decide) | (rw [bs_length, secOf_len]; decide)) (by first | exact bs_whole0 _ (rS_len _ h.oks) | exact bs_whole0 _ (secOf_len 0)) (rv_tmp rfl rv_nil)) ((hsub (.cons_cons _ (.cons_cons _ (.cons _ (.cons _ (.cons _ (.cons _ (.refl _)))))))).trans (hsub_pick [4, 1] rfl)) ?_
      exact ⟨by simp_all [mrE, mrS, okAt] <;> rfl, rfl⟩

theorem mread_tf {w0 : World} {H : Hp} {D : Duo} {A : Da} {bp : Nat} {m : Mi} (h : Two dt D A m.bx m.bys bp) {p : Int → Sec → Bool} (hG : GoodAt Try.prog w0 H m.gv p) (n : Int) (hn : m.has n = true) (hp : thr A false = true) (hq : thr A true = false) : FnS Try.prog w0 22 #[ptr m.b, .int .i64 n] (m.seg 110 :: D.seg dt :: H) (fun e H' => e = .returned (.tuple #[.agg (bs (mrS m A p n)).toArray, .int .i64 (mrE m A p n)]) ∧ H' = m.seg 110 :: D.seg dt :: H) := by
  refine FnS_intro (n := 63) (rs := [.cell 4 32, .tmp 5]) (vs := [ptr m.b, .int .i64 n]) Try.func22 rfl Try.ntmps22 rfl rfl ?_
  refine C_seq ?_
  refine C_region ?_
  refine L_op rfl (op_alloc zl_32 rfl (fun B1 => ?_))
  refine L_y rfl (y_assign rfl) rfl ?_
  refine L_nil ?_
  refine C_seq ?_
  refine C_seq ?_
  refine C_region ?_
  refine L_y rfl (y_move rfl) rfl ?_
  refine L_y rfl (y_move rfl) rfl ?_
  refine L_op rfl (op_call rfl rfl (fun a w => Try.call58 a w) rfl ?_)
  refine (has_m _ (sees 1 0 rfl)).mono ?_
  rintro _ _ ⟨rfl, rfl⟩
  rw [hn]
  refine ⟨_, rfl, ?_⟩
  refine L_y rfl (y_not rfl) rfl ?_
  refine L_nil ?_
  refine C_cond_f rfl ?_
  refine C_skip ?_
  refine C_seq ?_
  refine C_region ?_
  refine L_y rfl (y_move rfl) rfl ?_
  refine L_op rfl (op_call rfl rfl (fun a w => Try.call59 a w) rfl ?_)
  refine ((present_tf h hp hq).sub (hsub_pick [1, 1] rfl)).mono ?_
  rintro _ _ ⟨g1, hg1, rfl, rfl⟩
  cases g1 with
  | none => exact slOk_none hg1 (by decide)
  | some g1 => ?_
  refine ⟨_, rfl, ?_⟩
  refine L_y rfl (y_assign rfl) rfl ?_
  refine L_nil ?_
  refine C_seq ?_
  refine C_seq ?_
  refine C_region ?_
  refine L_y rfl (y_move rfl) rfl ?_
  refine L_y rfl (y_lenS rfl rfl Try.underlying118) rfl ?_
  refine L_y rfl (y_eqi rfl rfl) rfl ?_
  refine L_nil ?_
  refine C_cond_f rfl ?_
  refine C_skip ?_
  refine C_seq ?_
  refine C_seq ?_
  refine C_region ?_
  refine L_y rfl (y_move rfl) rfl ?_
  refine L_y rfl (y_lenS rfl rfl Try.underlying118) rfl ?_
  refine L_y rfl (y_move rfl) rfl ?_
  refine L_nil ?_
  refine C_block ?_
  refine C_loopIn (In_round ?_)
  refine C_seq ?_
  refine C_region ?_
  refine L_y rfl (y_lss rfl rfl) rfl ?_
  refine L_nil ?_
  refine C_seq ?_
  refine C_cond_t rfl ?_
  refine C_skip ?_
  refine C_seq ?_
  refine C_block ?_
  refine C_seq ?_
  refine C_region ?_
  refine L_y rfl (y_indexS rfl rfl Try.underlying118 sz_3 (by omega) (by omega) (show _ = 0 from rfl)) rfl ?_
  refine L_y rfl (y_load rfl ag_3 (sees 0 0 rfl) rfl) rfl ?_
  refine L_y rfl (y_assign rfl) rfl ?_
  refine L_nil ?_
  refine C_seq ?_
  refine C_region ?_
  refine L_y rfl (y_move rfl) rfl ?_
  refine L_y rfl (y_move rfl) rfl ?_
  refine L_y rfl (y_nilCheck rfl) rfl ?_
  refine L_y rfl (y_fieldAddr rfl fl_110_0) rfl ?_
  refine L_y rfl (y_indexA rfl rfl Try.underlying108 sz_107 (by omega) (by omega) (show _ = 0 from rfl)) rfl ?_
  refine L_y rfl (y_fieldAddr rfl fl_107_0) rfl ?_
  refine L_y rfl (y_load rfl ag_24 (sees 1 0 rfl) rfl) rfl ?_
  refine L_y rfl (y_move rfl) rfl ?_
  refine L_op rfl (op_call rfl rfl (fun a w => Try.call60 a w) rfl ?_)
  refine ((read_d h false (n)).sub (hsub_pick [2] rfl)).mono ?_
  rintro _ _ ⟨rfl, rfl⟩
  refine ⟨_, rfl, ?_⟩
  refine L_y rfl (y_move rfl) rfl ?_
  refine L_y rfl (y_extract rfl rfl) rfl ?_
  refine L_y rfl (y_extract rfl rfl) rfl ?_
  refine L_op rfl (op_alloc zl_32 rfl (fun B2 => ?_))
  refine L_op rfl (op_storeA 0 0 rfl rfl rfl sz_32 (by rw [bs_length, (rS_len false h.oks)]) rfl (bs_one _) (by simp) ?_)
  refine L_y rfl (y_assign rfl) rfl ?_
  refine L_nil ?_
  refine C_seq ?_
  refine C_region ?_
  refine L_y rfl (y_move rfl) rfl ?_
  refine L_y rfl (y_eqi rfl rfl) rfl ?_
  refine L_y rfl (y_move rfl) rfl ?_
  refine L_case 42 rfl (fun hg10_3 => ?_) (fun hg10_3 => ?_)
  · skip
    refine L_y rfl (y_move rfl) rfl ?_
    refine L_y rfl (y_move rfl) rfl ?_
    refine L_y rfl (y_nilCheck rfl) rfl ?_
    refine L_y rfl (y_fieldAddr rfl fl_110_0) rfl ?_
    refine L_y rfl (y_indexA rfl rfl Try.underlying108 sz_107 (by omega) (by omega) (show _ = 0 from rfl)) rfl ?_
    refine L_y rfl (y_fieldAddr rfl fl_107_1) rfl ?_
    refine L_y rfl (y_load rfl ag_105 (sees 3 0 rfl) rfl) rfl ?_
    refine L_y rfl (y_move rfl) rfl ?_
    refine L_y rfl (y_lookup rfl rfl Try.underlying105 Try.underlying3 zt_4 (sees 3 1 rfl)) rfl ?_
    refine L_y rfl (y_not rfl) rfl ?_
    refine L_y rfl (y_pick_t rfl rfl) rfl ?_
    refine L_y rfl (y_move rfl) rfl ?_
    refine L_case 54 rfl (fun hg10_15 => ?_) (fun hg10_15 => ?_)
    · skip
      refine L_y rfl (y_move rfl) rfl ?_
      refine L_y rfl (y_move rfl) rfl ?_
      refine L_y rfl (y_loadA rfl ag_32 sz_32 (sees 0 0 rfl) (by rw [bs_length, rS_len _ h.oks]; decide) (bs_whole0 _ (rS_len _ h.oks))) rfl ?_
      refine L_op rfl (op_call rfl rfl (fun a w => Try.call61 a w) rfl ?_)
      refine FnS.mono (right_m (sees 3 0 rfl) (hG.sub (hsub (.cons _ (.cons _ (.cons _ (.cons _ (.cons _ (.refl _)))))))) n _ (rS_len _ h.oks)) ?_
      rintro _ _ ⟨rfl, e⟩
      obtain rfl := e.symm
      refine ⟨_, rfl, ?_⟩
      refine L_y rfl (y_pick_t rfl rfl) rfl ?_
      refine L_nil ?_
      refine C_cond rfl (fun hc3 => ?_) (fun hc3 => ?_)
      · skip
        refine C_seq ?_
        refine C_region ?_
        refine L_y rfl (y_loadA rfl ag_32 sz_32 (sees 0 0 rfl) (by rw [bs_length, rS_len _ h.oks]; decide) (bs_whole0 _ (rS_len _ h.oks))) rfl ?_
        refine L_op rfl (op_storeA 4 0 rfl rfl rfl sz_32 (by rw [bs_length, rS_len _ h.oks]) rfl (bs_one _) (by simp) ?_)
        refine L_y rfl (y_assign rfl) rfl ?_
        refine L_nil ?_
        refine C_ret ?_
        refine B_ret (rv_cellA rfl ag_32 sz_32 (sees 4 0 rfl) (by first | (rw [bs_length, rS_len _ h.oks]; decide) | (rw [bs_length, secOf_len]; decide)) (by first | exact bs_whole0 _ (rS_len _ h.oks) | exact bs_whole0 _ (secOf_len 0)) (rv_tmp rfl rv_nil)) ((hsub (.cons_cons _ (.cons_cons _ (.cons _ (.cons _ (.cons _ (.refl _))))))).trans (hsub_pick [3, 1] rfl)) ?_
        exact ⟨by simp_all [mrE, mrS, okAt] <;> rfl, rfl⟩
      · skip
        refine C_skip ?_
        refine C_region ?_
        refine L_y rfl (y_add rfl rfl (show _ = (1 : Int) from rfl)) rfl ?_
        refine L_y rfl (y_move rfl) rfl ?_
        refine L_nil ?_
        refine In_round ?_
        refine C_seq ?_
        refine C_region ?_
        refine L_y rfl (y_lss rfl rfl) rfl ?_
        refine L_nil ?_
        refine C_seq ?_
        refine C_cond_f rfl ?_
        refine C_exit ?_
        refine C_seq ?_
        refine C_region ?_
        refine L_y rfl (y_buildA0 Try.underlying32 sz_5 zl_32) rfl ?_
        refine L_op rfl (op_storeA 4 0 rfl rfl rfl sz_32 (by rw [zsec, bs_length, secOf_len]) rfl (by rw [zsec]; exact bs_one _) (by simp) ?_)
        rw [zsec]
        refine L_y rfl (y_assign rfl) rfl ?_
        refine L_nil ?_
        refine C_ret ?_
        refine B_ret (rv_cellA rfl ag_32 sz_32 (sees 4 0 rfl) (by first | (rw [bs_length, rS_len _ h.oks]; decide) | (rw [bs_length, secOf_len]; decide)) (by first | exact bs_whole0 _ (rS_len _ h.oks) | exact bs_whole0 _ (secOf_len 0)) (rv_tmp rfl rv_nil)) ((hsub (.cons_cons _ (.cons_cons _ (.cons _ (.cons _ (.cons _ (.refl _))))))).trans (hsub_pick [3, 1] rfl)) ?_
        exact ⟨by simp_all [mrE, mrS, okAt] <;> rfl, rfl⟩
    · skip
      refine L_skip rfl rfl ?_
      refine L_skip rfl rfl ?_
      refine L_skip rfl rfl ?_
      refine L_skip rfl rfl ?_
      refine L_y rfl (y_pick_f rfl rfl) rfl ?_
      refine L_nil ?_
      refine C_cond_f rfl ?_
      refine C_skip ?_
      refine C_region ?_
      refine L_y rfl (y_add rfl rfl (show _ = (1 : Int) from rfl)) rfl ?_
      refine L_y rfl (y_move rfl) rfl ?_
      refine L_nil ?_
      refine In_round ?_
      refine C_seq ?_
      refine C_region ?_
      refine L_y rfl (y_lss rfl rfl) rfl ?_
      refine L_nil ?_
      refine C_seq ?_
      refine C_cond_f rfl ?_
      refine C_exit ?_
      refine C_seq ?_
      refine C_region ?_
      refine L_y rfl (y_buildA0 Try.underlying32 sz_5 zl_32) rfl ?_
      refine L_op rfl (op_storeA 4 0 rfl rfl rfl sz_32 (by rw [zsec, bs_length, secOf_len]) rfl (by rw [zsec]; exact bs_one _) (by simp) ?_)
      rw [zsec]
      refine L_y rfl (y_assign rfl) rfl ?_
      refine L_nil ?_
      refine C_ret ?_
      refine B_ret (rv_cellA rfl ag_32 sz_32 (sees 4 0 rfl) (by first | (rw [bs_length, rS_len _ h.oks]; decide) | (rw [bs_length, secOf_len]; decide)) (by first | exact bs_whole0 _ (rS_len _ h.oks) | exact bs_whole0 _ (secOf_len 0)) (rv_tmp rfl rv_nil)) ((hsub (.cons_cons _ (.cons_cons _ (.cons _ (.cons _ (.cons _ (.refl _))))))).trans (hsub_pick [3, 1] rfl)) ?_
      exact ⟨by simp_all [mrE, mrS, okAt] <;> rfl, rfl⟩
  · skip
    refine L_skip rfl rfl ?_
    refine L_skip rfl rfl ?_
    refine L_skip rfl rfl ?_
    refine L_skip rfl rfl ?_
    refine L_skip rfl rfl ?_
    refine L_skip rfl rfl ?_
    refine L_skip rfl rfl ?_
    refine L_skip rfl rfl ?_
    refine L_skip rfl rfl ?_
    refine L_skip rfl rfl ?_
    refine L_y rfl (y_pick_f rfl rfl) rfl ?_
    refine L_y rfl (y_move rfl) rfl ?_
    refine L_skip rfl rfl ?_
    refine L_skip rfl rfl ?_
    refine L_skip rfl rfl ?_
    refine L_skip rfl rfl ?_
    refine L_y rfl (y_pick_f rfl rfl) rfl ?_
    refine L_nil ?_
    refine C_cond_f rfl ?_
    refine C_skip ?_
    refine C_region ?_
    refine L_y rfl (y_add rfl rfl (show _ = (1 : Int) from rfl)) rfl ?_
    refine L_y rfl (y_move rfl) rfl ?_
    refine L_nil ?_
    refine In_round ?_
    refine C_seq ?_
    refine C_region ?_
    refine L_y rfl (y_lss rfl rfl) rfl ?_
    refine L_nil ?_
    refine C_seq ?_
    refine C_cond_f rfl ?_
    refine C_exit ?_
    refine C_seq ?_
    refine C_region ?_
    refine L_y rfl (y_buildA0 Try.underlying32 sz_5 zl_32) rfl ?_
    refine L_op rfl (op_storeA 4 0 rfl rfl rfl sz_32 (by rw [zsec, bs_length, secOf_len]) rfl (by rw [zsec]; exact bs_one _) (by simp) ?_)
    rw [zsec]
    refine L_y rfl (y_assign rfl) rfl ?_
    refine L_nil ?_
    refine C_ret ?_
    refine B_ret (rv_cellA rfl ag_32 sz_32 (sees 4 0 rfl) (by first | (rw [bs_length, rS_len _ h.oks]; decide) | (rw [bs_length, secOf_len]; decide)) (by first | exact bs_whole0 _ (rS_len _ h.oks) | exact bs_whole0 _ (secOf_len 0)) (rv_tmp rfl rv_nil)) ((hsub (.cons_cons _ (.cons_cons _ (.cons _ (.cons _ (.cons _ (.refl _))))))).trans (hsub_pick [3, 1] rfl)) ?_
    exact ⟨by simp_all [mrE, mrS, okAt] <;> rfl, rfl⟩

theorem mread_ft {w0 : World} {H : Hp} {D : Duo} {A : Da} {bp : Nat} {m : Mi} (h : Two dt D A m.bx m.bys bp) {p : Int → Sec → Bool} (hG : GoodAt Try.prog w0 H m.gv p) (n : Int) (hn : m.has n = true) (hp : thr A false = false) (hq : thr A true = true) : FnS Try.prog w0 22 #[ptr m.b, .int .i64 n] (m.seg 110 :: D.seg dt :: H) (fun e H' => e = .returned (.tuple #[.agg (bs (mrS m A p n)).toArray, .int .i64 (mrE m A p n)]) ∧ H' = m.seg 110 :: D.seg dt :: H) := by
  refine FnS_intro (n := 63) (rs := [.cell 4 32, .tmp 5]) (vs := [ptr m.b, .int .i64 n]) Try.func22 rfl Try.ntmps22 rfl rfl ?_
  refine C_seq ?_
  refine C_region ?_
  refine L_op rfl (op_alloc zl_32 rfl (fun B1 => ?_))
  refine L_y rfl (y_assign rfl) rfl ?_
  refine L_nil ?_
  refine C_seq ?_
  refine C_seq ?_
  refine C_region ?_
  refine L_y rfl (y_move rfl) rfl ?_
  refine L_y rfl (y_move rfl) rfl ?_
  refine L_op rfl (op_call rfl rfl (fun a w => Try.call58 a w) rfl ?_)
  refine (has_m _ (sees 1 0 rfl)).mono ?_
  rintro _ _ ⟨rfl, rfl⟩
  rw [hn]
  refine ⟨_, rfl, ?_⟩
  refine L_y rfl (y_not rfl) rfl ?_
  refine L_nil ?_
  refine C_cond_f rfl ?_
  refine C_skip ?_
  refine C_seq ?_
  refine C_region ?_
  refine L_y rfl (y_move rfl) rfl ?_
  refine L_op rfl (op_call rfl rfl (fun a w => Try.call59 a w) rfl ?_)
  refine ((present_ft h hp hq).sub (hsub_pick [1, 1] rfl)).mono ?_
  rintro _ _ ⟨g1, hg1, rfl, rfl⟩
  cases g1 with
  | none => exact slOk_none hg1 (by decide)
  | some g1 => ?_
  refine ⟨_, rfl, ?_⟩
  refine L_y rfl (y_assign rfl) rfl ?_
  refine L_nil ?_
  refine C_seq ?_
  refine C_seq ?_
  refine C_region ?_
  refine L_y rfl (y_move rfl) rfl ?_
  refine L_y rfl (y_lenS rfl rfl Try.underlying118) rfl ?_
  refine L_y rfl (y_eqi rfl rfl) rfl ?_
  refine L_nil ?_
  refine C_cond_f rfl ?_
  refine C_skip ?_
  refine C_seq ?_
  refine C_seq ?_
  refine C_region ?_
  refine L_y rfl (y_move rfl) rfl ?_
  refine L_y rfl (y_lenS rfl rfl Try.underlying118) rfl ?_
  refine L_y rfl (y_move rfl) rfl ?_
  refine L_nil ?_
  refine C_block ?_
  refine C_loopIn (In_round ?_)
  refine C_seq ?_
  refine C_region ?_
  refine L_y rfl (y_lss rfl rfl) rfl ?_
  refine L_nil ?_
  refine C_seq ?_
  refine C_cond_t rfl ?_
  refine C_skip ?_
  refine C_seq ?_
  refine C_block ?_
  refine C_seq ?_
  refine C_region ?_
  refine L_y rfl (y_indexS rfl rfl Try.underlying118 sz_3 (by omega) (by omega) (show _ = 0 from rfl)) rfl ?_
  refine L_y rfl (y_load rfl ag_3 (sees 0 0 rfl) rfl) rfl ?_
  refine L_y rfl (y_assign rfl) rfl ?_
  refine L_nil ?_
  refine C_seq ?_
  refine C_region ?_
  refine L_y rfl (y_move rfl) rfl ?_
  refine L_y rfl (y_move rfl) rfl ?_
  refine L_y rfl (y_nilCheck rfl) rfl ?_
  refine L_y rfl (y_fieldAddr rfl fl_110_0) rfl ?_
  refine L_y rfl (y_indexA rfl rfl Try.underlying108 sz_107 (by omega) (by omega) (show _ = 2 from rfl)) rfl ?_
  refine L_y rfl (y_fieldAddr rfl fl_107_0) rfl ?_
  refine L_y rfl (y_load rfl ag_24 (sees 1 0 rfl) rfl) rfl ?_
  refine L_y rfl (y_move rfl) rfl ?_
  refine L_op rfl (op_call rfl rfl (fun a w => Try.call60 a w) rfl ?_)
  refine ((read_d h true (n)).sub (hsub_pick [2] rfl)).mono ?_
  rintro _ _ ⟨rfl, rfl⟩
  refine ⟨_, rfl, ?_⟩
  refine L_y rfl (y_move rfl) rfl ?_
  refine L_y rfl (y_extract rfl rfl) rfl ?_
  refine L_y rfl (y_extract rfl rfl) rfl ?_
  refine L_op rfl (op_alloc zl_32 rfl (fun B2 => ?_))
  refine L_op rfl (op_storeA 0 0 rfl rfl rfl sz_32 (by rw [bs_length, (rS_len true h.oks)]) rfl (bs_one _) (by simp) ?_)
  refine L_y rfl (y_assign rfl) rfl ?_
  refine L_nil ?_
  refine C_seq ?_
  refine C_region ?_
  refine L_y rfl (y_move rfl) rfl ?_
  refine L_y rfl (y_eqi rfl rfl) rfl ?_
  refine L_y rfl (y_move rfl) rfl ?_
  refine L_case 42 rfl (fun hg10_3 => ?_) (fun hg10_3 => ?_)
  · skip
    refine L_y rfl (y_move rfl) rfl ?_
    refine L_y rfl (y_move rfl) rfl ?_
    refine L_y rfl (y_nilCheck rfl) rfl ?_
    refine L_y rfl (y_fieldAddr rfl fl_110_0) rfl ?_
    refine L_y rfl (y_indexA rfl rfl Try.underlying108 sz_107 (by omega) (by omega) (show _ = 2 from rfl)) rfl ?_
    refine L_y rfl (y_fieldAddr rfl fl_107_1) rfl ?_
    refine L_y rfl (y_load rfl ag_105 (sees 3 0 rfl) rfl) rfl ?_
    refine L_y rfl (y_move rfl) rfl ?_
    refine L_y rfl (y_lookup rfl rfl Try.underlying105 Try.underlying3 zt_4 (sees 3 2 rfl)) rfl ?_
    refine L_y rfl (y_not rfl) rfl ?_
    refine L_y rfl (y_pick_t rfl rfl) rfl ?_
    refine L_y rfl (y_move rfl) rfl ?_
    refine L_case 54 rfl (fun hg10_15 => ?_) (fun hg10_15 => ?_)
    · skip
      refine L_y rfl (y_move rfl) rfl ?_
      refine L_y rfl (y_move rfl) rfl ?_
      refine L_y rfl (y_loadA rfl ag_32 sz_32 (sees 0 0 rfl) (by rw [bs_length, rS_len _ h.oks]; decide) (bs_whole0 _ (rS_len _ h.oks))) rfl ?_
      refine L_op rfl (op_call rfl rfl (fun a w => Try.call61 a w) rfl ?_)
      refine FnS.mono (right_m (sees 3 0 rfl) (hG.sub (hsub (.cons _ (.cons _ (.cons _ (.cons _ (.cons _ (.refl _)))))))) n _ (rS_len _ h.oks)) ?_
      rintro _ _ ⟨rfl, e⟩
      obtain rfl := e.symm
      refine ⟨_, rfl, ?_⟩
      refine L_y rfl (y_pick_t rfl rfl) rfl ?_
      refine L_nil ?_
      refine C_cond rfl (fun hc3 => ?_) (fun hc3 => ?_)
      · skip
        refine C_seq ?_
        refine C_region ?_
        refine L_y rfl (y_loadA rfl ag_32 sz_32 (sees 0 0 rfl) (by rw [bs_length, rS_len _ h.oks]; decide) (bs_whole0 _ (rS_len _ h.oks))) rfl ?_
        refine L_op rfl (op_storeA 4 0 rfl rfl rfl sz_32 (by rw [bs_length, rS_len _ h.oks]) rfl (bs_one _) (by simp) ?_)
        refine L_y rfl (y_assign rfl) rfl ?_
        refine L_nil ?_
        refine C_ret ?_
        refine B_ret (rv_cellA rfl ag_32 sz_32 (sees 4 0 rfl) (by first | (rw [bs_length, rS_len _ h.oks]; decide) | (rw [bs_length, secOf_len]; decide)) (by first | exact bs_whole0 _ (rS_len _ h.oks) | exact bs_whole0 _ (secOf_len 0)) (rv_tmp rfl rv_nil)) ((hsub (.cons_cons _ (.cons_cons _ (.cons _ (.cons _ (.cons _ (.refl _))))))).trans (hsub_pick [3, 1] rfl)) ?_
        exact ⟨by simp_all [mrE, mrS, okAt] <;> rfl, rfl⟩
      · skip
        refine C_skip ?_
        refine C_region ?_
        refine L_y rfl (y_add rfl rfl (show _ = (1 : Int) from rfl)) rfl ?_
        refine L_y rfl (y_move rfl) rfl ?_
        refine L_nil ?_
        refine In_round ?_
        refine C_seq ?_
        refine C_region ?_
        refine L_y rfl (y_lss rfl rfl) rfl ?_
        refine L_nil ?_
        refine C_seq ?_
        refine C_cond_f rfl ?_
        refine C_exit ?_
        refine C_seq ?_
        refine C_region ?_
        refine L_y rfl (y_buildA0 Try.underlying32 sz_5 zl_32) rfl ?_
        refine L_op rfl (op_storeA 4 0 rfl rfl rfl sz_32 (by rw [zsec, bs_length, secOf_len]) rfl (by rw [zsec]; exact bs_one _) (by simp) ?_)
        rw [zsec]
        refine L_y rfl (y_assign rfl) rfl ?_
        refine L_nil ?_
        refine C_ret ?_
        refine B_ret (rv_cellA rfl ag_32 sz_32 (sees 4 0 rfl) (by first | (rw [bs_length, rS_len _ h.oks]; decide) | (rw [bs_length, secOf_len]; decide)) (by first | exact bs_whole0 _ (rS_len _ h.oks) | exact bs_whole0 _ (secOf_len 0)) (rv_tmp rfl rv_nil)) ((hsub (.cons_cons _ (.cons_cons _ (.cons _ (.cons _ (.cons _ (.refl _))))))).trans (hsub_pick [3, 1] rfl)) ?_
        exact ⟨by simp_all [mrE, mrS, okAt] <;> rfl, rfl⟩
    · skip
      refine L_skip rfl rfl ?_
      refine L_skip rfl rfl ?_
      refine L_skip rfl rfl ?_
      refine L_skip rfl rfl ?_
      refine L_y rfl (y_pick_f rfl rfl) rfl ?_
      refine L_nil ?_
      refine C_cond_f rfl ?_
      refine C_skip ?_
      refine C_region ?_
      refine L_y rfl (y_add rfl rfl (show _ = (1 : Int) from rfl)) rfl ?_
      refine L_y rfl (y_move rfl) rfl ?_
      refine L_nil ?_
      refine In_round ?_
      refine C_seq ?_
      refine C_region ?_
      refine L_y rfl (y_lss rfl rfl) rfl ?_
      refine L_nil ?_
      refine C_seq ?_
      refine C_cond_f rfl ?_
      refine C_exit ?_
      refine C_seq ?_
      refine C_region ?_
      refine L_y rfl (y_buildA0 Try.underlying32 sz_5 zl_32) rfl ?_
      refine L_op rfl (op_storeA 4 0 rfl rfl rfl sz_32 (by rw [zsec, bs_length, secOf_len]) rfl (by rw [zsec]; exact bs_one _) (by simp) ?_)
      rw [zsec]
      refine L_y rfl (y_assign rfl) rfl ?_
      refine L_nil ?_
      refine C_ret ?_
      refine B_ret (rv_cellA rfl ag_32 sz_32 (sees 4 0 rfl) (by first | (rw [bs_length, rS_len _ h.oks]; decide) | (rw [bs_length, secOf_len]; decide)) (by first | exact bs_whole0 _ (rS_len _ h.oks) | exact bs_whole0 _ (secOf_len 0)) (rv_tmp rfl rv_nil)) ((hsub (.cons_cons _ (.cons_cons _ (.cons _ (.cons _ (.cons _ (.refl _))))))).trans (hsub_pick [3, 1] rfl)) ?_
      exact ⟨by simp_all [mrE, mrS, okAt] <;> rfl, rfl⟩
  · skip
    refine L_skip rfl rfl ?_
    refine L_skip rfl rfl ?_
    refine L_skip rfl rfl ?_
    refine L_skip rfl rfl ?_
    refine L_skip rfl rfl ?_
    refine L_skip rfl rfl ?_
    refine L_skip rfl rfl ?_
    refine L_skip rfl rfl ?_
    refine L_skip rfl rfl ?_
    refine L_skip rfl rfl ?_
    refine L_y rfl (y_pick_f rfl rfl) rfl ?_
    refine L_y rfl (y_move rfl) rfl ?_
    refine L_skip rfl rfl ?_
    refine L_skip rfl rfl ?_
    refine L_skip rfl rfl ?_
    refine L_skip rfl rfl ?_
    refine L_y rfl (y_pick_f rfl rfl) rfl ?_
    refine L_nil ?_
    refine C_cond_f rfl ?_
    refine C_skip ?_
    refine C_region ?_
    refine L_y rfl (y_add rfl rfl (show _ = (1 : Int) from rfl)) rfl ?_
    refine L_y rfl (y_move rfl) rfl ?_
    refine L_nil ?_
    refine In_round ?_
    refine C_seq ?_
    refine C_region ?_
    refine L_y rfl (y_lss rfl rfl) rfl ?_
    refine L_nil ?_
    refine C_seq ?_
    refine C_cond_f rfl ?_
    refine C_exit ?_
    refine C_seq ?_
    refine C_region ?_
    refine L_y rfl (y_buildA0 Try.underlying32 sz_5 zl_32) rfl ?_
    refine L_op rfl (op_storeA 4 0 rfl rfl rfl sz_32 (by rw [zsec, bs_length, secOf_len]) rfl (by rw [zsec]; exact bs_one _) (by simp) ?_)
    rw [zsec]
    refine L_y rfl (y_assign rfl) rfl ?_
    refine L_nil ?_
    refine C_ret ?_
    refine B_ret (rv_cellA rfl ag_32 sz_32 (sees 4 0 rfl) (by first | (rw [bs_length, rS_len _ h.oks]; decide) | (rw [bs_length, secOf_len]; decide)) (by first | exact bs_whole0 _ (rS_len _ h.oks) | exact bs_whole0 _ (secOf_len 0)) (rv_tmp rfl rv_nil)) ((hsub (.cons_cons _ (.cons_cons _ (.cons _ (.cons _ (.cons _ (.refl _))))))).trans (hsub_pick [3, 1] rfl)) ?_
    exact ⟨by simp_all [mrE, mrS, okAt] <;> rfl, rfl⟩

theorem mread_ff {w0 : World} {H : Hp} {D : Duo} {A : Da} {bp : Nat} {m : Mi} (h : Two dt D A m.bx m.bys bp) {p : Int → Sec → Bool} (hG : GoodAt Try.prog w0 H m.gv p) (n : Int) (hn : m.has n = true) (hp : thr A false = false) (hq : thr A true = false) : FnS Try.prog w0 22 #[ptr m.b, .int .i64 n] (m.seg 110 :: D.seg dt :: H) (fun e H' => e = .returned (.tuple #[.agg (bs (mrS m A p n)).toArray, .int .i64 (mrE m A p n)]) ∧ H' = m.seg 110 :: D.seg dt :: H) := by
  refine FnS_intro (n := 63) (rs := [.cell 4 32, .tmp 5]) (vs := [ptr m.b, .int .i64 n]) Try.func22 rfl Try.ntmps22 rfl rfl ?_
  refine C_seq ?_
  refine C_region ?_
  refine L_op rfl (op_alloc zl_32 rfl (fun B1 => ?_))
  refine L_y rfl (y_assign rfl) rfl ?_
  refine L_nil ?_
  refine C_seq ?_
  refine C_seq ?_
  refine C_region ?_
  refine L_y rfl (y_move rfl) rfl ?_
  refine L_y rfl (y_move rfl) rfl ?_
  refine L_op rfl (op_call rfl rfl (fun a w => Try.call58 a w) rfl ?_)
  refine (has_m _ (sees 1 0 rfl)).mono ?_
  rintro _ _ ⟨rfl, rfl⟩
  rw [hn]
  refine ⟨_, rfl, ?_⟩
  refine L_y rfl (y_not rfl) rfl ?_
  refine L_nil ?_
  refine C_cond_f rfl ?_
  refine C_skip ?_
  refine C_seq ?_
  refine C_region ?_
  refine L_y rfl (y_move rfl) rfl ?_
  refine L_op rfl (op_call rfl rfl (fun a w => Try.call59 a w) rfl ?_)
  refine ((present_ff h hp hq).sub (hsub_pick [1, 1] rfl)).mono ?_
  rintro _ _ ⟨rfl, rfl⟩
  refine ⟨_, rfl, ?_⟩
  refine L_y rfl (y_assign rfl) rfl ?_
  refine L_nil ?_
  refine C_seq ?_
  refine C_seq ?_
  refine C_region ?_
  refine L_y rfl (y_move rfl) rfl ?_
  refine L_y rfl (y_lenS rfl rfl Try.underlying118) rfl ?_
  refine L_y rfl (y_eqi rfl rfl) rfl ?_
  refine L_nil ?_
  refine C_cond_t rfl ?_
  refine C_seq ?_
  refine C_region ?_
  refine L_y rfl (y_buildA0 Try.underlying32 sz_5 zl_32) rfl ?_
  refine L_op rfl (op_storeA 2 0 rfl rfl rfl sz_32 (by rw [zsec, bs_length, secOf_len]) rfl (by rw [zsec]; exact bs_one _) (by simp) ?_)
  rw [zsec]
  refine L_y rfl (y_assign rfl) rfl ?_
  refine L_nil ?_
  refine C_ret ?_
  refine B_ret (rv_cellA rfl ag_32 sz_32 (sees 2 0 rfl) (by first | (rw [bs_length, rS_len _ h.oks]; decide) | (rw [bs_length, secOf_len]; decide)) (by first | exact bs_whole0 _ (rS_len _ h.oks) | exact bs_whole0 _ (secOf_len 0)) (rv_tmp rfl rv_nil)) ((hsub (.cons_cons _ (.cons_cons _ (.cons _ (.refl _))))).trans (hsub_pick [0, 0] rfl)) ?_
  exact ⟨by simp_all [mrE, mrS, okAt] <;> rfl, rfl⟩

theorem mread_m {w0 : World} {H : Hp} {D : Duo} {A : Da} {bp : Nat} {m : Mi} (h : Two dt D A m.bx m.bys bp) {p : Int → Sec → Bool} (hG : GoodAt Try.prog w0 H m.gv p) (n : Int) : FnS Try.prog w0 22 #[ptr m.b, .int .i64 n] (m.seg 110 :: D.seg dt :: H) (fun e H' => e = .returned (.tuple #[.agg (bs (mrS m A p n)).toArray, .int .i64 (mrE m A p n)]) ∧ H' = m.seg 110 :: D.seg dt :: H) := by
  cases hn : m.has n
  · exact mread_no h hG n hn
  · cases hp : thr A false <;> cases hq : thr A true
    · exact mread_ff h hG n hn hp hq
    · exact mread_ft h hG n hn hp hq
    · exact mread_tf h hG n hn hp hq
    · exact mread_tt h hG n hn hp hq

end Go.Proofs.Ytjjiclgbdenkkaa

/- Sync of a mirror: the plain model (own work). -/
set_option linter.unusedVariables false
set_option linter.unusedSimpArgs false
namespace Go.Sl
def Mi.ks (m : Mi) : Bool → List (Int × Nat)
  | false => m.k0
  | true => m.k1
def Mi.del (m : Mi) (i : Bool) (n : Int) : Mi := match i with
  | false => { m with k0 := kDel m.k0 n }
  | true => { m with k1 := kDel m.k1 n }
/-- Is a place of a side copied from the other one? -/
def syOk (m : Mi) (A : Da) (p : Int → Sec → Bool) (i : Bool) (n : Int) : Bool := kHas (m.ks i) n && !kHas (m.ks (!i)) n && (decide (A.rE (!i) n = 0) && p n (A.rS (!i) n))
def sy1 (p : Int → Sec → Bool) (i : Bool) (q : Da × Mi) (n : Int) : Da × Mi :=
  if syOk q.2 q.1 p i n then (q.1.write i n (q.1.rS (!i) n), if q.1.wE i n = 0 then q.2.del i n else q.2) else q
def syN (p : Int → Sec → Bool) (i : Bool) (q : Da × Mi) : Nat → Da × Mi
  | 0 => q
  | k + 1 => sy1 p i (syN p i q k) k
def syncQ (m : Mi) (A : Da) (p : Int → Sec → Bool) : Da × Mi := syN p true (syN p false (A, m) m.n) m.n
def syncE (m : Mi) (A : Da) (p : Int → Sec → Bool) : Int := if thr A false && thr A true then (if (syncQ m A p).2.k0.length + (syncQ m A p).2.k1.length = 0 then 0 else 9) else 13
def syncA (m : Mi) (A : Da) (p : Int → Sec → Bool) : Da := if thr A false && thr A true then (mfl (syncQ m A p).1).1 else A
def syncM (m : Mi) (A : Da) (p : Int → Sec → Bool) : Mi := if thr A false && thr A true then (syncQ m A p).2 else m
end Go.Sl

/- walks (own work; the walks' lines by a program of this repo). -/
set_option linter.unusedVariables false
set_option linter.unusedSimpArgs false
set_option maxRecDepth 20000
namespace Go.Proofs.Ytjjiclgbdenkkaa
open Go.Sl
attribute [local irreducible] BodyQ WpC WpL WpS WpH OpW FnS



end Go.Proofs.Ytjjiclgbdenkkaa

/- walks (own work; the walks' lines by a program of this repo). -/
set_option linter.unusedVariables false
set_option linter.unusedSimpArgs false
set_option maxRecDepth 20000
namespace Go.Proofs.Ytjjiclgbdenkkaa
open Go.Sl
attribute [local irreducible] BodyQ WpC WpL WpS WpH OpW FnS


theorem mrS_len {A : Da} {m : Mi} {p : Int → Sec → Bool} {n : Int} (h : ∀ i, (A.dev i).ok) : (mrS m A p n).length = 128 := by
  unfold mrS
  split
  · split
    · exact rS_len _ h
    · split
      · exact rS_len _ h
      · exact secOf_len _
  · exact secOf_len _

end Go.Proofs.Ytjjiclgbdenkkaa

/- The little cipher's sum tells two texts apart that differ in one byte (own work). -/
set_option linter.unusedVariables false
set_option linter.unusedSimpArgs false
namespace Go.Sl
abbrev P40 : Nat := 1099511628211
abbrev A63 : Nat := 6364136223846793005
abbrev B56 : Nat := 72057594037927936
/-- m and n are d apart, but for multiples of the word's size. -/
def Dz (m n : Nat) (d : Int) : Prop := (M64 : Int) ∣ ((m : Int) - n - d)
theorem dz_emod (x : Nat) : (M64 : Int) ∣ (((x % M64 : Nat) : Int) - x) := by
  rw [Int.natCast_emod]
  exact ⟨-((x : Int) / M64), by have := Int.emod_add_mul_ediv (x : Int) (M64 : Int); rw [Int.mul_neg]; omega⟩
theorem Dz.mod {m n : Nat} {d : Int} (h : Dz m n d) : Dz (m % M64) (n % M64) d := by
  have h1 := dz_emod m
  have h2 := dz_emod n
  have := Int.dvd_sub (Int.dvd_add h h1) h2
  unfold Dz
  refine (Int.dvd_iff_emod_eq_zero).2 ?_
  have h3 := (Int.dvd_iff_emod_eq_zero).1 this
  rw [← h3]; congr 1; omega
theorem Dz.add {m n : Nat} {d : Int} (h : Dz m n d) (k : Nat) : Dz (m + k) (n + k) d := by
  unfold Dz at h ⊢
  have e : (((m + k : Nat) : Int) - ((n + k : Nat) : Int) - d) = ((m : Int) - n - d) := by omega
  rw [e]; exact h
theorem Dz.mul {m n : Nat} {d : Int} (h : Dz m n d) (k : Nat) : Dz (m * k) (n * k) (d * k) := by
  unfold Dz at h ⊢
  have e : (((m * k : Nat) : Int) - ((n * k : Nat) : Int) - d * k) = ((m : Int) - n - d) * k := by
    rw [Int.natCast_mul, Int.natCast_mul, Int.sub_mul, Int.sub_mul]
  rw [e]; exact Int.dvd_mul_of_dvd_left h
theorem Dz.step {m n : Nat} {d : Int} (h : Dz m n d) (b : UInt8) : Dz (l2s m b) (l2s n b) (d * P40) := by
  unfold l2s
  exact ((((h.add b.toNat).mod.add 1).mod).mul P40).mod
theorem Dz.first (x : Nat) (v b : UInt8) : Dz (l2s x v) (l2s x b) (((v.toNat : Int) - b.toNat) * P40) := by
  have h : Dz (x + v.toNat) (x + b.toNat) ((v.toNat : Int) - b.toNat) := by
    unfold Dz
    have e : (((x + v.toNat : Nat) : Int) - ((x + b.toNat : Nat) : Int) - ((v.toNat : Int) - b.toNat)) = 0 := by omega
    rw [e]; exact Int.dvd_zero _
  unfold l2s
  exact (((h.mod.add 1).mod).mul P40).mod
/-! ### The search -/
def bigN (y : Nat) : Bool := Nat.ble B56 y && Nat.ble y (M64 - B56)
def ok1 (N : Nat) : Nat → Nat → Bool
  | 0, _ => false
  | i + 1, a => bigN (N * a % M64) || ok1 N i (a * A63 % M64)
def okD (pk : Nat) : Nat → Bool
  | 0 => true
  | d + 1 => ok1 ((d + 1) * pk % M64) 16 A63 && okD pk d
def okK : Nat → Nat → Bool
  | 0, _ => true
  | k + 1, pk => okD pk 255 && okK k (pk * P40 % M64)
end Go.Sl

/- What is read of two superblocks (own work). -/
set_option linter.unusedVariables false
set_option linter.unusedSimpArgs false
namespace Go.Sl
abbrev Sp3 := Nat × Int × Nat
def sDec (u : List UInt8) : Sp3 × Bool := if u.length = 14 then ((gV u, (gN u : Int), gT u), gOk u) else ((0, 0, 0), false)
def sVal (q : Option Sp3) : Sp3 := q.getD (0, 0, 0)
abbrev sCells (s : Sp3) : List Value := [.int .u64 (s.1 : Int), .int .i64 s.2.1, .int .u64 (s.2.2 : Int)]
/-- Is a sector at the place what is read, behind what was? -/
def sTake (a : Nat) (q : Option Sp3) (x : Sec) : Prop := isS a x ∧ (sDec (unpB a x)).2 = true ∧ (sDec (unpB a x)).1.1 = unpG a x ∧ unpG a x % 2 = a ∧ ¬ (q.isSome = true ∧ (sDec (unpB a x)).1.1 < (sVal q).1)
instance (a : Nat) (q : Option Sp3) (x : Sec) : Decidable (sTake a q x) := by unfold sTake; exact inferInstance
def sst (a : Nat) (q : Option Sp3) (x : Sec) : Option Sp3 := if sTake a q x then some (sDec (unpB a x)).1 else q
def sB (a : Nat) (q : Option Sp3) (l : List Sec) : Option Sp3 := l.foldl (sst a) q
def sRd (e0 : Int) (B0 B1 : List Sec) : Int × Sp3 := if e0 = 13 then (13, (0, 0, 0)) else match sB 1 (sB 0 none B0) B1 with
  | none => (4, (0, 0, 0))
  | some s => (0, s)
theorem sB_take {a : Nat} {q : Option Sp3} {l : List Sec} {j : Nat} {x : Sec} (h : l[j]? = some x) : sB a q (l.take (j + 1)) = sst a (sB a q (l.take j)) x := by
  obtain ⟨hj, rfl⟩ := List.getElem?_eq_some_iff.1 h
  unfold sB
  rw [List.take_succ_eq_append_getElem hj, List.foldl_append]; rfl
theorem sst_yes {a : Nat} {q : Option Sp3} {x : Sec} (h : sTake a q x) : sst a q x = some (sDec (unpB a x)).1 := if_pos h
theorem sst_no {a : Nat} {q : Option Sp3} {x : Sec} (h : ¬ sTake a q x) : sst a q x = q := if_neg h
/-- A sector that is never read there. -/
def Dead (a : Nat) (x : Sec) : Prop := ∀ q, sst a q x = q
theorem dead_len {a : Nat} {x : Sec} (h : isS a x → (bodyS x).length ≠ 14) : Dead a x := fun q => sst_no fun ht => by
  obtain ⟨h1, h2, _⟩ := ht
  have e : unpB a x = bodyS x := if_pos h1
  rw [e] at h2
  unfold sDec at h2
  rw [if_neg (h h1)] at h2
  cases h2
theorem dead_not {a : Nat} {x : Sec} (h : ¬ isS a x) : Dead a x := dead_len fun h1 => absurd h1 h
theorem dead_zero (a : Nat) : Dead a (secOf 0) := dead_len fun _ => by decide
/-- The sector of a super. -/
def supS (v : Nat) (now : Int) (top : Nat) : Sec := packR ((v % 2 : Nat) : Int) v (enc v now top)
theorem supS_len {v : Nat} {now : Int} {top : Nat} : (supS v now top).length = 128 := packR_len _ _ _
section
variable {v : Nat} {now : Int} {top : Nat}
theorem supS_is (hv : v < M64) : isS ((v % 2 : Nat) : Int) (supS v now top) ∧ unpG ((v % 2 : Nat) : Int) (supS v now top) = v ∧ unpB ((v % 2 : Nat) : Int) (supS v now top) = enc v now top :=
  unp_packR ⟨by omega, by omega, by rw [enc_length]; decide⟩ hv
theorem supS_dec (hv : v < M64) (hm : mayS now top = true) : sDec (enc v now top) = ((v, now, top), true) := by
  obtain ⟨h1, h2, h3⟩ := d_enc (v := v) hv hm
  obtain ⟨_, hn, _⟩ := mayS_spec hm
  have hd : dN (enc v now top) ≤ 1073741824 := by omega
  unfold sDec
  rw [if_pos (enc_length _ _ _)]
  simp only [gV, gN, gT, gOk, hd, if_true, h1, h2, h3, decide_true]
theorem supS_st (hv : v < M64) (hm : mayS now top = true) (q : Option Sp3) (hq : q = none ∨ (sVal q).1 ≤ v) : sst (v % 2) q (supS v now top) = some (v, now, top) := by
  obtain ⟨h1, h2, h3⟩ := supS_is (now := now) (top := top) hv
  have hd := supS_dec hv hm
  rw [sst_yes]
  · rw [h3, hd]
  · refine ⟨h1, by rw [h3, hd], by rw [h3, hd, h2], by rw [h2], ?_⟩
    rw [h3, hd]
    rintro ⟨a, b⟩
    rcases hq with rfl | hq
    · cases a
    · simp only at b; omega
theorem supS_old (hv : v < M64) (hm : mayS now top = true) {s : Sp3} (hq : v < s.1) : sst (v % 2) (some s) (supS v now top) = some s := by
  obtain ⟨h1, h2, h3⟩ := supS_is (now := now) (top := top) hv
  have hd := supS_dec hv hm
  refine sst_no fun ht => ht.2.2.2.2 ⟨rfl, ?_⟩
  rw [h3, hd]; exact hq
end
theorem gl_two (a : Nat) (x y : Sec) (q : Option Sp3) : sB a q (gl sP a x y) = sst a (sst a q x) y := by
  unfold gl sB
  by_cases h : isS a x
  · have h1 : sP a x = true := decide_eq_true h
    by_cases h2 : isS a y
    · have : sP a y = true := decide_eq_true h2
      rw [h1, this]; rfl
    · have : sP a y = false := decide_eq_false h2
      rw [h1, this, dead_not h2]; rfl
  · have h1 : sP a x = false := decide_eq_false h
    rw [h1, dead_not h]
    by_cases h2 : isS a y
    · have : sP a y = true := decide_eq_true h2
      rw [this]; rfl
    · have : sP a y = false := decide_eq_false h2
      rw [this, dead_not h2]; rfl
theorem bothS_ok {A : Da} {m : Mi} {p : Int → Sec → Bool} {n : Int} (h : ∀ i, (A.dev i).ok) : (∀ s ∈ bothS m A p n, s.length = 128) ∧ (bothS m A p n).length ≤ 2 := by
  unfold bothS
  split
  · constructor
    · intro s hs
      rcases List.mem_append.1 hs with h1 | h1 <;> (split at h1 <;> simp at h1; rw [h1])
      · exact rS_len _ h
      · exact rS_len _ h
    · rw [List.length_append]; split <;> split <;> simp
  · exact ⟨fun s hs => (by cases hs), by simp⟩
theorem getH_of : ∀ {H : Hp} {s : Nat} {S : List (Nat × Obj)} {k : Nat}, H[s]? = some S → getH H s k = S[k]?
  | [], s, S, k, h => by simp at h
  | T :: H, 0, S, k, h => by simp at h; subst h; rfl
  | T :: H, s + 1, S, k, h => by
    simp only [List.getElem?_cons_succ] at h
    exact getH_of (H := H) h
def sOut (q : Option Sp3) : Int := if q.isSome then 0 else 4
/-- The four sectors, in their order. -/
def ch (x0 y0 x1 y1 : Sec) : Option Sp3 := sst 1 (sst 1 (sst 0 (sst 0 none x0) y0) x1) y1
theorem sRd_ch {e0 : Int} (he : e0 ≠ 13) (x0 y0 x1 y1 : Sec) : sRd e0 (gl sP ((0 : Nat) : Int) x0 y0) (gl sP ((1 : Nat) : Int) x1 y1) = (sOut (ch x0 y0 x1 y1), sVal (ch x0 y0 x1 y1)) := by
  unfold sRd
  rw [if_neg he, gl_two, gl_two]
  show (match ch x0 y0 x1 y1 with | none => _ | some s => _) = _
  cases ch x0 y0 x1 y1 <;> rfl
section
variable {v w : Nat} {now now' : Int} {top top' : Nat} {x y z u : Sec}
attribute [local irreducible] supS
/-- Is it the super's sector, or never read there? -/
def Cpy (a : Nat) (s x : Sec) : Prop := x = s ∨ Dead a x
theorem sst_cpy (hv : v < M64) (hm : mayS now top = true) (q : Option Sp3) (hq : q = none ∨ q = some (v, now, top)) (h : Cpy (v % 2) (supS v now top) x) : sst (v % 2) q x = q ∨ sst (v % 2) q x = some (v, now, top) := by
  rcases h with h | h
  · right
    rw [h]
    refine supS_st hv hm q ?_
    rcases hq with rfl | rfl
    · exact .inl rfl
    · exact .inr (Nat.le_refl _)
  · left; exact h q
/-- One super, of which one copy at least is there. -/
theorem sst_pair (hv : v < M64) (hm : mayS now top = true) (hx : Cpy (v % 2) (supS v now top) x) (hy : Cpy (v % 2) (supS v now top) y) (h : x = supS v now top ∨ y = supS v now top) : sst (v % 2) (sst (v % 2) none x) y = some (v, now, top) := by
  rcases h with h | h
  · rw [h, supS_st hv hm none (.inl rfl)]
    rcases sst_cpy hv hm (some (v, now, top)) (.inr rfl) hy with e | e <;> exact e
  · rcases sst_cpy hv hm none (.inl rfl) hx with e | e
    · rw [e, h]; exact supS_st hv hm none (.inl rfl)
    · rw [e, h]; exact supS_st hv hm _ (.inr (Nat.le_refl _))
theorem ch_one (hv : v < M64) (hm : mayS now top = true) (f : Nat → Sec × Sec) (h0 : Cpy (v % 2) (supS v now top) (f (v % 2)).1) (h1 : Cpy (v % 2) (supS v now top) (f (v % 2)).2) (h : (f (v % 2)).1 = supS v now top ∨ (f (v % 2)).2 = supS v now top)
    (d : ∀ a, a < 2 → a ≠ v % 2 → Dead a (f a).1 ∧ Dead a (f a).2) : ch (f 0).1 (f 0).2 (f 1).1 (f 1).2 = some (v, now, top) := by
  have hp := sst_pair hv hm h0 h1 h
  unfold ch
  rcases Nat.mod_two_eq_zero_or_one v with e | e
  · rw [e] at hp
    obtain ⟨d0, d1⟩ := d 1 (by decide) (by omega)
    rw [hp, d0, d1]
  · rw [e] at hp
    obtain ⟨d0, d1⟩ := d 0 (by decide) (by omega)
    rw [d0, d1, hp]
/-- Two supers, at unlike places. -/
theorem ch_two (hv : v < M64) (hm : mayS now top = true) (hw : w < M64) (hm' : mayS now' top' = true) (hne : v % 2 ≠ w % 2) (f : Nat → Sec) (h0 : f (v % 2) = supS v now top) (h1 : f (w % 2) = supS w now' top') :
    ch (f 0) (f 0) (f 1) (f 1) = if v < w then some (w, now', top') else some (v, now, top) := by
  have s1 : ∀ q, sst (v % 2) q (supS v now top) = (if q.isSome = true ∧ v < (sVal q).1 then q else some (v, now, top)) := by
    intro q
    cases q with
    | none => rw [if_neg (by simp)]; exact supS_st hv hm none (.inl rfl)
    | some q =>
      by_cases h : v < q.1
      · rw [if_pos ⟨rfl, h⟩]; exact supS_old hv hm h
      · rw [if_neg (fun h2 => h h2.2)]; exact supS_st hv hm _ (.inr (Nat.le_of_not_lt h))
  have s2 : ∀ q, sst (w % 2) q (supS w now' top') = (if q.isSome = true ∧ w < (sVal q).1 then q else some (w, now', top')) := by
    intro q
    cases q with
    | none => rw [if_neg (by simp)]; exact supS_st hw hm' none (.inl rfl)
    | some q =>
      by_cases h : w < q.1
      · rw [if_pos ⟨rfl, h⟩]; exact supS_old hw hm' h
      · rw [if_neg (fun h2 => h h2.2)]; exact supS_st hw hm' _ (.inr (Nat.le_of_not_lt h))
  have hvw : v ≠ w := fun e => hne (by rw [e])
  unfold ch
  rcases Nat.mod_two_eq_zero_or_one v with e | e
  · have e2 : w % 2 = 1 := by omega
    rw [e] at h0 s1; rw [e2] at h1 s2
    rw [h0, h1, s1, s1, s2, s2]
    by_cases h : v < w
    · simp [sVal, h, show ¬ w < v by omega]
    · simp [sVal, h, show w < v by omega]
  · have e2 : w % 2 = 0 := by omega
    rw [e] at h0 s1; rw [e2] at h1 s2
    rw [h0, h1, s2, s2, s1, s1]
    by_cases h : v < w
    · simp [sVal, h, show ¬ w < v by omega]
    · simp [sVal, h, show w < v by omega]
end
/-! ### What rots -/
end Go.Sl

/- Facts of the translation's types, for the kernel (own work, by a program of this repo). -/
namespace Go.Proofs.Ytjjiclgbdenkkaa
open Go.Sl
theorem eg_70 : Try.prog.eqGuardType Try.prog.depth 70 = false := by kernel_rfl
theorem fi_70 : intFieldsT Try.prog 70 = some [.u64, .i64, .u64] := by kernel_rfl
theorem sz_68 : szT Try.prog 68 = some 1 := by kernel_rfl
theorem us_85 : (Try.prog.underlying 85).isSome = true := by kernel_rfl
end Go.Proofs.Ytjjiclgbdenkkaa

/- walks (own work; the walks' lines by a program of this repo). -/
set_option linter.unusedVariables false
set_option linter.unusedSimpArgs false
set_option maxRecDepth 20000
namespace Go.Proofs.Ytjjiclgbdenkkaa
open Go.Sl
attribute [local irreducible] BodyQ WpC WpL WpS WpH OpW FnS


theorem decode_g {w0 : World} {H : Hp} {g : Option SlG} {u : List UInt8} {s e : Nat} (hs : H[s]? = some (slSeg e g (bs u))) (ok : slOk 1 g u.length (bs u)) : FnS Try.prog w0 78 #[slV g u.length] H (fun e H' => e = .returned (.tuple #[supV (sDec u).1.1 (sDec u).1.2.1 (sDec u).1.2.2, .bool (sDec u).2]) ∧ H' = H) := by
  unfold sDec
  by_cases hl : u.length = 14
  · cases g with
    | none => exact slOk_none ok (by omega)
    | some g =>
      have e1 : slV (some g) u.length = .slice (some ⟨g.b, 0, none⟩) 14 g.cap := by rw [hl]; rfl
      rw [e1, if_pos hl]
      exact decode_s u (sees s 0 (by rw [getH_of hs]; rfl)) (by rw [List.drop_zero, List.take_left' (by rw [bs_length, hl])]) hl (by have := ok.2.2; omega)
  · obtain ⟨a, cap, e1, _⟩ := holds_sl (w0 := w0) hs ok
    rw [e1, if_neg hl]
    exact decode_no hl

set_option maxHeartbeats 1000000 in

theorem swrite_v {w0 : World} {H : Hp} {zc : List Value} {gv : Value} {D : Duo} {A : Da} {m : Mi} {X Y : List Sec} {k0 k1 mb bx bys bp : Nat} (h : Ms dt gv D A m 4 X Y k0 k1 mb bx bys bp) (v : Nat) (now : Int) (top : Nat) (hv : v < M64) (hmay : mayS now top = true) (h0 : k0 < 99990) (h1 : k1 < 99990) : FnS Try.prog w0 41 #[ptr mb, .iface 78 (.agg zc.toArray), supV v now top] (m.seg 110 :: D.seg dt :: H) (fun e H' => e = .returned (.int .i64 0) ∧ ∃ D' A', Ms dt gv D' A' m 4 (X.set (v % 2) (supS v now top)) (Y.set (v % 2) (supS v now top)) 0 0 mb bx bys bp ∧ H' = m.seg 110 :: D'.seg dt :: H) := by
  refine FnS_intro (n := 43) (rs := [.tmp 6]) (vs := [ptr mb, .iface 78 (.agg zc.toArray), supV v now top]) Try.func41 rfl Try.ntmps41 rfl rfl ?_
  refine C_seq ?_
  refine C_region ?_
  refine L_op rfl (op_box rfl rfl rfl (fun B1 => ?_))
  refine L_y rfl (y_assign rfl) rfl ?_
  refine L_nil ?_
  refine C_seq ?_
  refine C_seq ?_
  refine C_region ?_
  refine L_y rfl (y_move rfl) rfl ?_
  refine L_y rfl (y_eqp rfl rfl Try.underlying26) rfl ?_
  refine L_y rfl (y_move rfl) rfl ?_
  refine L_y rfl (y_move rfl) rfl ?_
  refine L_y rfl (y_eqIf rfl rfl if_134) rfl ?_
  refine L_y rfl (y_pick_f rfl rfl) rfl ?_
  refine L_nil ?_
  refine C_cond_f rfl ?_
  refine C_skip ?_
  refine C_seq ?_
  refine C_seq ?_
  refine C_region ?_
  refine L_y rfl (y_loadA rfl ag_70 sz_70 (sees 0 0 rfl) (Nat.le_of_ble_eq_true rfl) rfl) rfl ?_
  refine L_op rfl (op_call rfl rfl (fun a w => Try.call74 a w) rfl ?_)
  refine (may_s v now top).mono ?_
  rintro _ _ ⟨rfl, e⟩
  obtain rfl := e.symm
  clear e
  rw [hmay]
  refine ⟨_, rfl, ?_⟩
  refine L_y rfl (y_not rfl) rfl ?_
  refine L_nil ?_
  refine C_cond_f rfl ?_
  refine C_skip ?_
  refine C_seq ?_
  refine C_region ?_
  refine L_y rfl (y_fieldAddr rfl fl_70_0) rfl ?_
  refine L_y rfl (y_load rfl ag_68 (sees 0 0 rfl) rfl) rfl ?_
  refine L_y rfl (y_rem rfl rfl (by decide) (show _ = ((v % 2 : Nat) : Int) from rfl)) rfl ?_
  refine L_y rfl (y_conv rfl us_68 Try.underlying3 (wi64 (by omega) (by omega))) rfl ?_
  refine L_y rfl (y_assign rfl) rfl ?_
  refine L_nil ?_
  refine C_seq ?_
  refine C_regionH ([(B1, .cells (sCells (v, now, top)).toArray 70)] :: H) (by kernel_rfl) ?_
  refine H_y 0 rfl (by kernel_rfl) (by kernel_rfl) (by kernel_rfl) (((hsub (.cons_cons _ (.cons _ (.cons _ (.refl _))))).trans (hsub_pick [0] rfl))) rfl (y_move rfl) rfl ?_
  refine H_y 1 rfl (by kernel_rfl) (by kernel_rfl) (by kernel_rfl) (((hsub (.cons_cons _ (.cons _ (.cons _ (.refl _))))).trans (hsub_pick [0] rfl))) rfl (y_move rfl) rfl ?_
  refine H_y 2 rfl (by kernel_rfl) (by kernel_rfl) (by kernel_rfl) (((hsub (.cons_cons _ (.cons _ (.cons _ (.refl _))))).trans (hsub_pick [0] rfl))) rfl (y_fieldAddr rfl fl_70_0) rfl ?_
  refine H_y 3 rfl (by kernel_rfl) (by kernel_rfl) (by kernel_rfl) (((hsub (.cons_cons _ (.cons _ (.cons _ (.refl _))))).trans (hsub_pick [0] rfl))) rfl (y_load rfl ag_68 (sees 0 0 rfl) rfl) rfl ?_
  refine H_y 4 rfl (by kernel_rfl) (by kernel_rfl) (by kernel_rfl) (((hsub (.cons_cons _ (.cons _ (.cons _ (.refl _))))).trans (hsub_pick [0] rfl))) rfl (y_loadA rfl ag_70 sz_70 (sees 0 0 rfl) (Nat.le_of_ble_eq_true rfl) rfl) rfl ?_
  refine H_two 5 10 rfl rfl (by kernel_rfl) rfl rfl ?_ ?_
  · refine op_call rfl rfl (fun a w => Try.call73 a w) rfl ?_
    refine (encode_s v now top hv hmay).mono ?_
    rintro _ _ ⟨gr, hgr, rfl, rfl⟩
    refine ⟨_, rfl, ?_⟩
    refine ⟨((hsub (.cons_cons _ (.cons _ (.cons _ (.cons _ (.refl _)))))).trans (hsub_pick [1] rfl)), ?_⟩
    refine H_two 6 10 rfl rfl (by kernel_rfl) rfl rfl ?_ ?_
    · refine op_call rfl rfl (fun a w => Try.call49 a w) rfl ?_
      refine FnS.mono (pack_v v hv (enc v now top) (slh_v 0 rfl hgr (enc_length _ _ _)) ((v % 2 : Nat) : Int)) ?_
      rintro _ _ ⟨rfl, e⟩
      obtain rfl := e.symm
      rw [show decide (packOk ((v % 2 : Nat) : Int) (enc v now top)) = true from decide_eq_true ⟨by omega, by omega, by rw [enc_length]; decide⟩]
      refine ⟨_, rfl, ?_⟩
      refine ⟨((hsub (.cons_cons _ (.cons _ (.cons _ (.cons _ (.refl _)))))).trans (hsub_pick [1] rfl)), ?_⟩
      refine H_y 7 rfl (by kernel_rfl) (by kernel_rfl) (by kernel_rfl) (((hsub (.cons_cons _ (.cons _ (.cons _ (.cons _ (.refl _)))))).trans (hsub_pick [1] rfl))) rfl (y_move rfl) rfl ?_
      refine H_y 8 rfl (by kernel_rfl) (by kernel_rfl) (by kernel_rfl) (((hsub (.cons_cons _ (.cons _ (.cons _ (.cons _ (.refl _)))))).trans (hsub_pick [1] rfl))) rfl (y_extract rfl rfl) rfl ?_
      refine H_y 9 rfl (by kernel_rfl) (by kernel_rfl) (by kernel_rfl) (((hsub (.cons_cons _ (.cons _ (.cons _ (.cons _ (.refl _)))))).trans (hsub_pick [1] rfl))) rfl (y_extract rfl rfl) rfl ?_
      refine H_one 10 rfl (by kernel_rfl) rfl (op_alloc zl_32 rfl (fun B2 => ?_))
      refine ⟨((hsub (.cons_cons _ (.cons _ (.cons _ (.cons _ (.cons _ (.refl _))))))).trans (hsub_pick [2] rfl)), ?_⟩
      refine H_one 11 rfl (by kernel_rfl) rfl (op_storeA 0 0 rfl rfl rfl sz_32 (by rw [bs_length, packR_len _ _ _]) rfl (bs_one _) (by simp) ?_)
      refine ⟨((hsub (.cons_cons _ (.cons _ (.cons _ (.cons _ (.cons _ (.refl _))))))).trans (hsub_pick [2] rfl)), ?_⟩
      refine H_y 12 rfl (by kernel_rfl) (by kernel_rfl) (by kernel_rfl) (((hsub (.cons_cons _ (.cons _ (.cons _ (.cons _ (.cons _ (.refl _))))))).trans (hsub_pick [2] rfl))) rfl (y_assign rfl) rfl ?_
      refine H_done (by kernel_rfl) ?_
      refine C_seq ?_
      refine C_seq ?_
      refine C_region ?_
      refine L_y rfl (y_move rfl) rfl ?_
      refine L_y rfl (y_move rfl) rfl ?_
      refine L_y rfl (y_loadA rfl ag_32 sz_32 (sees 0 0 rfl) (by rw [bs_length, packR_len _ _ _]; decide) (bs_whole0 _ (packR_len _ _ _))) rfl ?_
      refine L_op rfl (op_call rfl rfl (fun a w => Try.call19 a w) rfl ?_)
      refine (FnS.sub (hsub_pick [3, 3] rfl) (write_v h (n := v % 2) (s := (packR ((v % 2 : Nat) : Int) v (enc v now top))) (by omega) (packR_len _ _ _) h0 h1)).mono ?_
      rintro _ _ ⟨rfl, D2, A2, h2, rfl⟩
      refine ⟨_, rfl, ?_⟩
      refine L_y rfl (y_assign rfl) rfl ?_
      refine L_nil ?_
      refine C_seq ?_
      refine C_region ?_
      refine L_y rfl (y_move rfl) rfl ?_
      refine L_y rfl (y_nei rfl rfl) rfl ?_
      refine L_nil ?_
      refine C_cond_f rfl ?_
      refine C_skip ?_
      refine C_seq ?_
      refine C_region ?_
      refine L_y rfl (y_move rfl) rfl ?_
      refine L_op rfl (op_call rfl rfl (fun a w => Try.call21 a w) rfl ?_)
      refine (FnS.sub (hsub_pick [0, 0] rfl) (flush_v h2)).mono ?_
      rintro _ _ ⟨rfl, D3, A3, h3, rfl⟩
      refine ⟨_, rfl, ?_⟩
      refine L_y rfl (y_assign rfl) rfl ?_
      refine L_nil ?_
      refine C_ret ?_
      refine B_ret (rv_tmp rfl rv_nil) ((hsub (.cons_cons _ (.cons_cons _ (.cons _ (.cons _ (.cons _ (.refl _))))))).trans (hsub_pick [0, 0] rfl)) ?_
      exact ⟨rfl, D3, A3, h3, rfl⟩
    · refine op_alloc zl_32 rfl (fun B3 => ?_)
      refine ⟨((hsub (.cons_cons _ (.cons _ (.cons _ (.cons _ (.cons _ (.refl _))))))).trans (hsub_pick [2] rfl)), ?_⟩
      refine H_one 6 rfl (by kernel_rfl) rfl (op_call rfl rfl (fun a w => Try.call49 a w) rfl ?_)
      refine FnS.mono (pack_v v hv (enc v now top) (slh_v 1 rfl hgr (enc_length _ _ _)) ((v % 2 : Nat) : Int)) ?_
      rintro _ _ ⟨rfl, e⟩
      obtain rfl := e.symm
      rw [show decide (packOk ((v % 2 : Nat) : Int) (enc v now top)) = true from decide_eq_true ⟨by omega, by omega, by rw [enc_length]; decide⟩]
      refine ⟨_, rfl, ?_⟩
      refine ⟨((hsub (.cons_cons _ (.cons _ (.cons _ (.cons _ (.cons _ (.refl _))))))).trans (hsub_pick [2] rfl)), ?_⟩
      refine H_y 7 rfl (by kernel_rfl) (by kernel_rfl) (by kernel_rfl) (((hsub (.cons_cons _ (.cons _ (.cons _ (.cons _ (.cons _ (.refl _))))))).trans (hsub_pick [2] rfl))) rfl (y_move rfl) rfl ?_
      refine H_y 8 rfl (by kernel_rfl) (by kernel_rfl) (by kernel_rfl) (((hsub (.cons_cons _ (.cons _ (.cons _ (.cons _ (.cons _ (.refl _))))))).trans (hsub_pick [2] rfl))) rfl (y_extract rfl rfl) rfl ?_
      refine H_y 9 rfl (by kernel_rfl) (by kernel_rfl) (by kernel_rfl) (((hsub (.cons_cons _ (.cons _ (.cons _ (.cons _ (.cons _ (.refl _))))))).trans (hsub_pick [2] rfl))) rfl (y_extract rfl rfl) rfl ?_
      refine H_one 11 rfl (by kernel_rfl) rfl (op_storeA 0 0 rfl rfl rfl sz_32 (by rw [bs_length, packR_len _ _ _]) rfl (bs_one _) (by simp) ?_)
      refine ⟨((hsub (.cons_cons _ (.cons _ (.cons _ (.cons _ (.cons _ (.refl _))))))).trans (hsub_pick [2] rfl)), ?_⟩
      refine H_y 12 rfl (by kernel_rfl) (by kernel_rfl) (by kernel_rfl) (((hsub (.cons_cons _ (.cons _ (.cons _ (.cons _ (.cons _ (.refl _))))))).trans (hsub_pick [2] rfl))) rfl (y_assign rfl) rfl ?_
      refine H_done (by kernel_rfl) ?_
      refine C_seq ?_
      refine C_seq ?_
      refine C_region ?_
      refine L_y rfl (y_move rfl) rfl ?_
      refine L_y rfl (y_move rfl) rfl ?_
      refine L_y rfl (y_loadA rfl ag_32 sz_32 (sees 0 0 rfl) (by rw [bs_length, packR_len _ _ _]; decide) (bs_whole0 _ (packR_len _ _ _))) rfl ?_
      refine L_op rfl (op_call rfl rfl (fun a w => Try.call19 a w) rfl ?_)
      refine (FnS.sub (hsub_pick [3, 3] rfl) (write_v h (n := v % 2) (s := (packR ((v % 2 : Nat) : Int) v (enc v now top))) (by omega) (packR_len _ _ _) h0 h1)).mono ?_
      rintro _ _ ⟨rfl, D2, A2, h2, rfl⟩
      refine ⟨_, rfl, ?_⟩
      refine L_y rfl (y_assign rfl) rfl ?_
      refine L_nil ?_
      refine C_seq ?_
      refine C_region ?_
      refine L_y rfl (y_move rfl) rfl ?_
      refine L_y rfl (y_nei rfl rfl) rfl ?_
      refine L_nil ?_
      refine C_cond_f rfl ?_
      refine C_skip ?_
      refine C_seq ?_
      refine C_region ?_
      refine L_y rfl (y_move rfl) rfl ?_
      refine L_op rfl (op_call rfl rfl (fun a w => Try.call21 a w) rfl ?_)
      refine (FnS.sub (hsub_pick [0, 0] rfl) (flush_v h2)).mono ?_
      rintro _ _ ⟨rfl, D3, A3, h3, rfl⟩
      refine ⟨_, rfl, ?_⟩
      refine L_y rfl (y_assign rfl) rfl ?_
      refine L_nil ?_
      refine C_ret ?_
      refine B_ret (rv_tmp rfl rv_nil) ((hsub (.cons_cons _ (.cons_cons _ (.cons _ (.cons _ (.cons _ (.refl _))))))).trans (hsub_pick [0, 0] rfl)) ?_
      exact ⟨rfl, D3, A3, h3, rfl⟩
  · refine op_alloc zl_32 rfl (fun B4 => ?_)
    refine ⟨((hsub (.cons_cons _ (.cons _ (.cons _ (.cons _ (.refl _)))))).trans (hsub_pick [1] rfl)), ?_⟩
    refine H_one 5 rfl (by kernel_rfl) rfl (op_call rfl rfl (fun a w => Try.call73 a w) rfl ?_)
    refine (encode_s v now top hv hmay).mono ?_
    rintro _ _ ⟨gr, hgr, rfl, rfl⟩
    refine ⟨_, rfl, ?_⟩
    refine ⟨((hsub (.cons_cons _ (.cons _ (.cons _ (.cons _ (.cons _ (.refl _))))))).trans (hsub_pick [2] rfl)), ?_⟩
    refine H_one 6 rfl (by kernel_rfl) rfl (op_call rfl rfl (fun a w => Try.call49 a w) rfl ?_)
    refine FnS.mono (pack_v v hv (enc v now top) (slh_v 0 rfl hgr (enc_length _ _ _)) ((v % 2 : Nat) : Int)) ?_
    rintro _ _ ⟨rfl, e⟩
    obtain rfl := e.symm
    rw [show decide (packOk ((v % 2 : Nat) : Int) (enc v now top)) = true from decide_eq_true ⟨by omega, by omega, by rw [enc_length]; decide⟩]
    refine ⟨_, rfl, ?_⟩
    refine ⟨((hsub (.cons_cons _ (.cons _ (.cons _ (.cons _ (.cons _ (.refl _))))))).trans (hsub_pick [2] rfl)), ?_⟩
    refine H_y 7 rfl (by kernel_rfl) (by kernel_rfl) (by kernel_rfl) (((hsub (.cons_cons _ (.cons _ (.cons _ (.cons _ (.cons _ (.refl _))))))).trans (hsub_pick [2] rfl))) rfl (y_move rfl) rfl ?_
    refine H_y 8 rfl (by kernel_rfl) (by kernel_rfl) (by kernel_rfl) (((hsub (.cons_cons _ (.cons _ (.cons _ (.cons _ (.cons _ (.refl _))))))).trans (hsub_pick [2] rfl))) rfl (y_extract rfl rfl) rfl ?_
    refine H_y 9 rfl (by kernel_rfl) (by kernel_rfl) (by kernel_rfl) (((hsub (.cons_cons _ (.cons _ (.cons _ (.cons _ (.cons _ (.refl _))))))).trans (hsub_pick [2] rfl))) rfl (y_extract rfl rfl) rfl ?_
    refine H_one 11 rfl (by kernel_rfl) rfl (op_storeA 1 0 rfl rfl rfl sz_32 (by rw [bs_length, packR_len _ _ _]) rfl (bs_one _) (by simp) ?_)
    refine ⟨((hsub (.cons_cons _ (.cons _ (.cons _ (.cons _ (.cons _ (.refl _))))))).trans (hsub_pick [2] rfl)), ?_⟩
    refine H_y 12 rfl (by kernel_rfl) (by kernel_rfl) (by kernel_rfl) (((hsub (.cons_cons _ (.cons _ (.cons _ (.cons _ (.cons _ (.refl _))))))).trans (hsub_pick [2] rfl))) rfl (y_assign rfl) rfl ?_
    refine H_done (by kernel_rfl) ?_
    refine C_seq ?_
    refine C_seq ?_
    refine C_region ?_
    refine L_y rfl (y_move rfl) rfl ?_
    refine L_y rfl (y_move rfl) rfl ?_
    refine L_y rfl (y_loadA rfl ag_32 sz_32 (sees 1 0 rfl) (by rw [bs_length, packR_len _ _ _]; decide) (bs_whole0 _ (packR_len _ _ _))) rfl ?_
    refine L_op rfl (op_call rfl rfl (fun a w => Try.call19 a w) rfl ?_)
    refine (FnS.sub (hsub_pick [3, 3] rfl) (write_v h (n := v % 2) (s := (packR ((v % 2 : Nat) : Int) v (enc v now top))) (by omega) (packR_len _ _ _) h0 h1)).mono ?_
    rintro _ _ ⟨rfl, D2, A2, h2, rfl⟩
    refine ⟨_, rfl, ?_⟩
    refine L_y rfl (y_assign rfl) rfl ?_
    refine L_nil ?_
    refine C_seq ?_
    refine C_region ?_
    refine L_y rfl (y_move rfl) rfl ?_
    refine L_y rfl (y_nei rfl rfl) rfl ?_
    refine L_nil ?_
    refine C_cond_f rfl ?_
    refine C_skip ?_
    refine C_seq ?_
    refine C_region ?_
    refine L_y rfl (y_move rfl) rfl ?_
    refine L_op rfl (op_call rfl rfl (fun a w => Try.call21 a w) rfl ?_)
    refine (FnS.sub (hsub_pick [0, 0] rfl) (flush_v h2)).mono ?_
    rintro _ _ ⟨rfl, D3, A3, h3, rfl⟩
    refine ⟨_, rfl, ?_⟩
    refine L_y rfl (y_assign rfl) rfl ?_
    refine L_nil ?_
    refine C_ret ?_
    refine B_ret (rv_tmp rfl rv_nil) ((hsub (.cons_cons _ (.cons_cons _ (.cons _ (.cons _ (.cons _ (.refl _))))))).trans (hsub_pick [0, 0] rfl)) ?_
    exact ⟨rfl, D3, A3, h3, rfl⟩

set_option maxHeartbeats 1000000 in

theorem sread_m {w0 : World} {H : Hp} {zc : List Value} {D : Duo} {A : Da} {m : Mi} {bp : Nat} (h : Two dt D A m.bx m.bys bp) (hG : GoodAt Try.prog w0 H m.gv sP) : FnS Try.prog w0 45 #[ptr m.b, .iface 78 (.agg zc.toArray)] (m.seg 110 :: D.seg dt :: H) (fun e H' => e = .returned (.tuple #[supV (sRd (mrE m A sP 0) (bothS m A sP 0) (bothS m A sP 1)).2.1 (sRd (mrE m A sP 0) (bothS m A sP 0) (bothS m A sP 1)).2.2.1 (sRd (mrE m A sP 0) (bothS m A sP 0) (bothS m A sP 1)).2.2.2, .int .i64 (sRd (mrE m A sP 0) (bothS m A sP 0) (bothS m A sP 1)).1]) ∧ H' = m.seg 110 :: D.seg dt :: H) := by
  refine FnS_intro (n := 94) (rs := [.cell 4 70, .tmp 5]) (vs := [ptr m.b, .iface 78 (.agg zc.toArray)]) Try.func45 rfl Try.ntmps45 rfl rfl ?_
  refine C_seq ?_
  refine C_region ?_
  refine L_op rfl (op_alloc zl_70 rfl (fun B1 => ?_))
  refine L_y rfl (y_assign rfl) rfl ?_
  refine L_nil ?_
  refine C_seq ?_
  refine C_seq ?_
  refine C_region ?_
  refine L_y rfl (y_move rfl) rfl ?_
  refine L_y rfl (y_eqp rfl rfl Try.underlying26) rfl ?_
  refine L_y rfl (y_move rfl) rfl ?_
  refine L_y rfl (y_move rfl) rfl ?_
  refine L_y rfl (y_eqIf rfl rfl if_134) rfl ?_
  refine L_y rfl (y_pick_f rfl rfl) rfl ?_
  refine L_nil ?_
  refine C_cond_f rfl ?_
  refine C_skip ?_
  refine C_seq ?_
  refine C_seq ?_
  refine C_region ?_
  refine L_y rfl (y_move rfl) rfl ?_
  refine L_op rfl (op_call rfl rfl (fun a w => Try.call22 a w) rfl ?_)
  refine (FnS.sub (hsub_pick [1, 1] rfl) (mread_m h (hG.sub (hsub (.cons _ (.refl _)))) 0)).mono ?_
  rintro _ _ ⟨rfl, rfl⟩
  refine ⟨_, rfl, ?_⟩
  refine L_y rfl (y_move rfl) rfl ?_
  refine L_y rfl (y_extract rfl rfl) rfl ?_
  refine L_y rfl (y_extract rfl rfl) rfl ?_
  refine L_op rfl (op_alloc zl_32 rfl (fun B2 => ?_))
  refine L_op rfl (op_storeA 0 0 rfl rfl rfl sz_32 (by rw [bs_length, mrS_len h.oks]) rfl (bs_one _) (by simp) ?_)
  refine L_y rfl (y_assign rfl) rfl ?_
  refine L_nil ?_
  refine C_seq ?_
  refine C_region ?_
  refine L_y rfl (y_move rfl) rfl ?_
  refine L_y rfl (y_eqi rfl rfl) rfl ?_
  refine L_nil ?_
  refine C_cond rfl (fun hc1 => ?_) (fun hc1 => ?_)
  · replace hc1 := of_decide_eq_true hc1
    refine C_seq ?_
    refine C_region ?_
    refine L_y rfl (y_build0 pl_70 zl_70) rfl ?_
    refine L_op rfl (op_store 3 0 rfl rfl rfl sz_70 rfl rfl (ones rfl) (by decide) ?_)
    skip
    refine L_y rfl (y_assign rfl) rfl ?_
    refine L_nil ?_
    refine C_ret ?_
    refine B_ret (rv_cellA rfl ag_70 sz_70 (sees 3 0 rfl) (Nat.le_of_ble_eq_true rfl) rfl (rv_tmp rfl rv_nil)) ((hsub (.cons_cons _ (.cons_cons _ (.cons _ (.cons _ (.refl _)))))).trans (hsub_pick [1, 1] rfl)) ?_
    exact ⟨by unfold sRd; rw [if_pos hc1]; rfl, rfl⟩
  · replace hc1 := of_decide_eq_false hc1
    refine C_skip ?_
    refine C_seq ?_
    refine C_region ?_
    refine L_y rfl (y_build0 pl_70 zl_70) rfl ?_
    refine L_op rfl (op_alloc zl_70 rfl (fun B3 => ?_))
    refine L_op rfl (op_store 0 0 rfl rfl rfl sz_70 rfl rfl (ones rfl) (by decide) ?_)
    skip
    refine L_y rfl (y_assign rfl) rfl ?_
    refine L_nil ?_
    refine C_seq ?_
    refine C_seq ?_
    refine C_region ?_
    refine L_y rfl (y_move rfl) rfl ?_
    refine L_nil ?_
    refine C_block ?_
    refine C_loopIn (In_round ?_)
    refine C_seq ?_
    refine C_region ?_
    refine L_y rfl (y_lss rfl rfl) rfl ?_
    refine L_nil ?_
    refine C_seq ?_
    refine C_cond_t rfl ?_
    refine C_skip ?_
    refine C_seq ?_
    refine C_block ?_
    refine C_seq ?_
    refine C_region ?_
    refine L_y rfl (y_move rfl) rfl ?_
    refine L_y rfl (y_assign rfl) rfl ?_
    refine L_nil ?_
    refine C_seq ?_
    refine C_region ?_
    refine L_y rfl (y_move rfl) rfl ?_
    refine L_y rfl (y_move rfl) rfl ?_
    refine L_op rfl (op_call rfl rfl (fun a w => Try.call25 a w) rfl ?_)
    refine (FnS.sub (hsub_pick [2, 2] rfl) (both_m h (hG.sub (hsub (.cons _ (.cons _ (.cons _ (.refl _)))))) 0)).mono ?_
    rintro _ _ ⟨gl0, hgl0, rfl, rfl⟩
    obtain ⟨okl0, hle0⟩ := bothS_ok (m := m) (p := sP) (n := 0) h.oks
    refine ⟨_, rfl, ?_⟩
    refine L_y rfl (y_lenV hgl0 rfl rfl Try.underlying40) rfl ?_
    refine L_y rfl (y_move rfl) rfl ?_
    refine L_nil ?_
    refine C_block ?_
    refine C_loop (ι := Nat) (fun j => [(0, ptr m.b), (1, .iface 78 (.agg zc.toArray)), (4, ptr B1), (5, .int .i64 0), (8, ptr B3), (9, .bool (sB 0 none ((bothS m A sP 0).take j)).isSome), (10, .int .i64 0), (34, .int .i64 0), (39, slV gl0 (bothS m A sP 0).length), (40, .int .i64 ((bothS m A sP 0).length : Int)), (41, .int .i64 (j : Int))]) (fun j => m.seg 110 :: D.seg dt :: [(B1, .cells (sCells (0, 0, 0)).toArray 70)] :: [(B3, .cells (sCells (sVal (sB 0 none ((bothS m A sP 0).take j)))).toArray 70)] :: slSeg 32 gl0 (bs (bothS m A sP 0).flatten) :: H) (fun j => j ≤ (bothS m A sP 0).length) (fun j => (bothS m A sP 0).length - j) 0 (Nat.zero_le _) ⟨rfl, rfl, rfl, rfl, rfl, rfl, rfl, rfl, rfl, rfl, rfl, trivial⟩ ((hsub (.cons_cons _ (.cons_cons _ (.cons_cons _ (.cons_cons _ (.cons_cons _ (.cons _ (.refl _)))))))).trans (hsub_pick [1, 1, 3, 1, 0] rfl)) (fun j hj => ?_)
    skip
    refine C_seq ?_
    refine C_region ?_
    refine L_y rfl (y_lss rfl rfl) rfl ?_
    refine L_nil ?_
    refine C_seq ?_
    refine C_cond rfl (fun hc3 => ?_) (fun hc3 => ?_)
    · replace hj : j < (bothS m A sP 0).length := by have := of_decide_eq_true hc3; omega
      refine C_skip ?_
      refine C_seq ?_
      refine C_block ?_
      refine C_seq ?_
      obtain ⟨x, hx⟩ : ∃ x, (bothS m A sP 0)[j]? = some x := ⟨_, List.getElem?_eq_getElem hj⟩
      have hxl := okl0 x (List.mem_of_getElem? hx)
      cases gl0 with
      | none => exact slOk_none hgl0 (by omega)
      | some gl0 => ?_
      have hfl := flat_len okl0
      refine C_region ?_
      refine L_y rfl (y_indexS rfl rfl Try.underlying40 sz_32 (by omega) (by omega) (show _ = 0 + j * 128 from by simp)) rfl ?_
      refine L_y rfl (y_loadA rfl ag_32 sz_32 (sees 4 0 rfl) (by rw [List.length_append, bs_length, hfl]; omega) (sec_at (n := 0) okl0 (by simp) hx)) rfl ?_
      refine L_op rfl (op_alloc zl_32 rfl (fun B4 => ?_))
      refine L_op rfl (op_storeA 0 0 rfl rfl rfl sz_32 (by rw [bs_length, hxl]) rfl (bs_one _) (by simp) ?_)
      refine L_nil ?_
      refine C_seq ?_
      refine C_region ?_
      refine L_y rfl (y_move rfl) rfl ?_
      refine L_y rfl (y_move rfl) rfl ?_
      refine L_y rfl (y_loadA rfl ag_32 sz_32 (sees 0 0 rfl) (by rw [bs_length, hxl]; decide) (bs_whole0 _ (hxl))) rfl ?_
      refine L_op rfl (op_call rfl rfl (fun a w => Try.call77 a w) rfl ?_)
      refine FnS.mono (unpack_u ((0 : Nat) : Int) x hxl) ?_
      rintro _ _ ⟨g1, hg1, rfl, rfl⟩
      refine ⟨_, rfl, ?_⟩
      refine L_y rfl (y_move rfl) rfl ?_
      refine L_y rfl (y_extract rfl rfl) rfl ?_
      refine L_y rfl (y_extract rfl rfl) rfl ?_
      refine L_y rfl (y_extract rfl rfl) rfl ?_
      refine L_y rfl (y_assign rfl) rfl ?_
      refine L_y rfl (y_assign rfl) rfl ?_
      refine L_y rfl (y_assign rfl) rfl ?_
      refine L_nil ?_
      refine C_seq ?_
      refine C_region ?_
      refine L_y rfl (y_move rfl) rfl ?_
      refine L_op rfl (op_call rfl rfl (fun a w => Try.call78 a w) rfl ?_)
      refine (decode_g (s := 0) rfl hg1).mono ?_
      rintro _ _ ⟨rfl, e⟩
      obtain rfl := e.symm
      clear e
      refine ⟨_, rfl, ?_⟩
      refine L_y rfl (y_move rfl) rfl ?_
      refine L_y rfl (y_extract rfl rfl) rfl ?_
      refine L_y rfl (y_extract rfl rfl) rfl ?_
      refine L_op rfl (op_alloc zl_70 rfl (fun B5 => ?_))
      refine L_op rfl (op_store 0 0 rfl rfl rfl sz_70 rfl rfl (ones rfl) (by decide) ?_)
      skip
      refine L_y rfl (y_assign rfl) rfl ?_
      refine L_nil ?_
      refine C_seq ?_
      refine C_seq ?_
      refine C_region ?_
      refine L_y rfl (y_move rfl) rfl ?_
      refine L_y rfl (y_not rfl) rfl ?_
      refine L_y rfl (y_move rfl) rfl ?_
      refine L_case 60 rfl (fun hg15_3 => ?_) (fun hg15_3 => ?_)
      · have n1 : ¬ isS ((0 : Nat) : Int) x := fun h => by rw [decide_eq_true h] at hg15_3; exact absurd hg15_3 (by decide)
        refine L_skip rfl rfl ?_
        refine L_skip rfl rfl ?_
        refine L_y rfl (y_pick_t rfl rfl) rfl ?_
        refine L_y rfl (y_move rfl) rfl ?_
        refine L_skip rfl rfl ?_
        refine L_skip rfl rfl ?_
        refine L_skip rfl rfl ?_
        refine L_skip rfl rfl ?_
        refine L_y rfl (y_pick_t rfl rfl) rfl ?_
        refine L_y rfl (y_move rfl) rfl ?_
        refine L_skip rfl rfl ?_
        refine L_skip rfl rfl ?_
        refine L_skip rfl rfl ?_
        refine L_skip rfl rfl ?_
        refine L_skip rfl rfl ?_
        refine L_y rfl (y_pick_t rfl rfl) rfl ?_
        refine L_y rfl (y_move rfl) rfl ?_
        refine L_skip rfl rfl ?_
        refine L_skip rfl rfl ?_
        refine L_skip rfl rfl ?_
        refine L_skip rfl rfl ?_
        refine L_skip rfl rfl ?_
        refine L_skip rfl rfl ?_
        refine L_skip rfl rfl ?_
        refine L_skip rfl rfl ?_
        refine L_y rfl (y_pick_t rfl rfl) rfl ?_
        refine L_nil ?_
        refine C_cond_t rfl ?_
        refine C_exit ?_
        have hno : ¬ sTake 0 (sB 0 none ((bothS m A sP 0).take j)) x := by
          first
          | exact fun ht => n1 ht.1
          | exact fun ht => absurd ht.2.1 (by rw [n2]; decide)
          | exact fun ht => n3 ht.2.2.1
          | exact fun ht => n4 ht.2.2.2.1
          | exact fun ht => ht.2.2.2.2 ⟨f5, n6⟩
        refine C_region ?_
        refine L_y rfl (y_add rfl rfl (wi64 (by omega) (by omega))) rfl ?_
        refine L_y rfl (y_move rfl) rfl ?_
        refine L_nil ?_
        refine ⟨j + 1, by omega, by omega, ?_⟩
        rw [sB_take hx]
        rw [sst_no hno]
        exact ⟨⟨rfl, rfl, rfl, rfl, rfl, rfl, rfl, rfl, rfl, rfl, rfl, trivial⟩, ((hsub (.cons_cons _ (.cons_cons _ (.cons_cons _ (.cons_cons _ (.cons_cons _ (.cons _ (.cons _ (.cons _ (.refl _)))))))))).trans (hsub_pick [3, 3, 3, 3, 3] rfl))⟩
      · have f1 : isS ((0 : Nat) : Int) x := Classical.byContradiction fun h => by rw [decide_eq_false h] at hg15_3; exact absurd hg15_3 (by decide)
        refine L_y rfl (y_move rfl) rfl ?_
        refine L_y rfl (y_not rfl) rfl ?_
        refine L_y rfl (y_pick_f rfl rfl) rfl ?_
        refine L_y rfl (y_move rfl) rfl ?_
        refine L_case 64 rfl (fun hg15_7 => ?_) (fun hg15_7 => ?_)
        · have n2 : (sDec (unpB ((0 : Nat) : Int) x)).2 = false := by simpa using hg15_7
          refine L_skip rfl rfl ?_
          refine L_skip rfl rfl ?_
          refine L_skip rfl rfl ?_
          refine L_skip rfl rfl ?_
          refine L_y rfl (y_pick_t rfl rfl) rfl ?_
          refine L_y rfl (y_move rfl) rfl ?_
          refine L_skip rfl rfl ?_
          refine L_skip rfl rfl ?_
          refine L_skip rfl rfl ?_
          refine L_skip rfl rfl ?_
          refine L_skip rfl rfl ?_
          refine L_y rfl (y_pick_t rfl rfl) rfl ?_
          refine L_y rfl (y_move rfl) rfl ?_
          refine L_skip rfl rfl ?_
          refine L_skip rfl rfl ?_
          refine L_skip rfl rfl ?_
          refine L_skip rfl rfl ?_
          refine L_skip rfl rfl ?_
          refine L_skip rfl rfl ?_
          refine L_skip rfl rfl ?_
          refine L_skip rfl rfl ?_
          refine L_y rfl (y_pick_t rfl rfl) rfl ?_
          refine L_nil ?_
          refine C_cond_t rfl ?_
          refine C_exit ?_
          have hno : ¬ sTake 0 (sB 0 none ((bothS m A sP 0).take j)) x := by
            first
            | exact fun ht => n1 ht.1
            | exact fun ht => absurd ht.2.1 (by rw [n2]; decide)
            | exact fun ht => n3 ht.2.2.1
            | exact fun ht => n4 ht.2.2.2.1
            | exact fun ht => ht.2.2.2.2 ⟨f5, n6⟩
          refine C_region ?_
          refine L_y rfl (y_add rfl rfl (wi64 (by omega) (by omega))) rfl ?_
          refine L_y rfl (y_move rfl) rfl ?_
          refine L_nil ?_
          refine ⟨j + 1, by omega, by omega, ?_⟩
          rw [sB_take hx]
          rw [sst_no hno]
          exact ⟨⟨rfl, rfl, rfl, rfl, rfl, rfl, rfl, rfl, rfl, rfl, rfl, trivial⟩, ((hsub (.cons_cons _ (.cons_cons _ (.cons_cons _ (.cons_cons _ (.cons_cons _ (.cons _ (.cons _ (.cons _ (.refl _)))))))))).trans (hsub_pick [3, 3, 3, 3, 3] rfl))⟩
        · have f2 : (sDec (unpB ((0 : Nat) : Int) x)).2 = true := by simpa using hg15_7
          refine L_y rfl (y_fieldAddr rfl fl_70_0) rfl ?_
          refine L_y rfl (y_load rfl ag_68 (sees 0 0 rfl) rfl) rfl ?_
          refine L_y rfl (y_move rfl) rfl ?_
          refine L_y rfl (y_nei rfl rfl) rfl ?_
          refine L_y rfl (y_pick_f rfl rfl) rfl ?_
          refine L_y rfl (y_move rfl) rfl ?_
          refine L_case 70 rfl (fun hg15_13 => ?_) (fun hg15_13 => ?_)
          · have n3 : ¬ (sDec (unpB ((0 : Nat) : Int) x)).1.1 = (unpG ((0 : Nat) : Int) x) := by have h2 := hg15_13; rw [Bool.not_eq_true', decide_eq_false_iff_not] at h2; omega
            refine L_skip rfl rfl ?_
            refine L_skip rfl rfl ?_
            refine L_skip rfl rfl ?_
            refine L_skip rfl rfl ?_
            refine L_skip rfl rfl ?_
            refine L_y rfl (y_pick_t rfl rfl) rfl ?_
            refine L_y rfl (y_move rfl) rfl ?_
            refine L_skip rfl rfl ?_
            refine L_skip rfl rfl ?_
            refine L_skip rfl rfl ?_
            refine L_skip rfl rfl ?_
            refine L_skip rfl rfl ?_
            refine L_skip rfl rfl ?_
            refine L_skip rfl rfl ?_
            refine L_skip rfl rfl ?_
            refine L_y rfl (y_pick_t rfl rfl) rfl ?_
            refine L_nil ?_
            refine C_cond_t rfl ?_
            refine C_exit ?_
            have hno : ¬ sTake 0 (sB 0 none ((bothS m A sP 0).take j)) x := by
              first
              | exact fun ht => n1 ht.1
              | exact fun ht => absurd ht.2.1 (by rw [n2]; decide)
              | exact fun ht => n3 ht.2.2.1
              | exact fun ht => n4 ht.2.2.2.1
              | exact fun ht => ht.2.2.2.2 ⟨f5, n6⟩
            refine C_region ?_
            refine L_y rfl (y_add rfl rfl (wi64 (by omega) (by omega))) rfl ?_
            refine L_y rfl (y_move rfl) rfl ?_
            refine L_nil ?_
            refine ⟨j + 1, by omega, by omega, ?_⟩
            rw [sB_take hx]
            rw [sst_no hno]
            exact ⟨⟨rfl, rfl, rfl, rfl, rfl, rfl, rfl, rfl, rfl, rfl, rfl, trivial⟩, ((hsub (.cons_cons _ (.cons_cons _ (.cons_cons _ (.cons_cons _ (.cons_cons _ (.cons _ (.cons _ (.cons _ (.refl _)))))))))).trans (hsub_pick [3, 3, 3, 3, 3] rfl))⟩
          · have f3 : (sDec (unpB ((0 : Nat) : Int) x)).1.1 = (unpG ((0 : Nat) : Int) x) := by have h2 := hg15_13; rw [Bool.not_eq_false', decide_eq_true_eq] at h2; omega
            refine L_y rfl (y_move rfl) rfl ?_
            refine L_y rfl (y_rem rfl rfl (by decide) (show _ = (((unpG ((0 : Nat) : Int) x) % 2 : Nat) : Int) from rfl)) rfl ?_
            refine L_y rfl (y_conv rfl us_68 Try.underlying3 (wi64 (by omega) (by omega))) rfl ?_
            refine L_y rfl (y_move rfl) rfl ?_
            refine L_y rfl (y_nei rfl rfl) rfl ?_
            refine L_y rfl (y_pick_f rfl rfl) rfl ?_
            refine L_y rfl (y_move rfl) rfl ?_
            refine L_case 77 rfl (fun hg15_20 => ?_) (fun hg15_20 => ?_)
            · have n4 : ¬ (unpG ((0 : Nat) : Int) x) % 2 = 0 := by have h2 := hg15_20; rw [Bool.not_eq_true', decide_eq_false_iff_not] at h2; omega
              refine L_skip rfl rfl ?_
              refine L_skip rfl rfl ?_
              refine L_skip rfl rfl ?_
              refine L_skip rfl rfl ?_
              refine L_skip rfl rfl ?_
              refine L_skip rfl rfl ?_
              refine L_skip rfl rfl ?_
              refine L_skip rfl rfl ?_
              refine L_y rfl (y_pick_t rfl rfl) rfl ?_
              refine L_nil ?_
              refine C_cond_t rfl ?_
              refine C_exit ?_
              have hno : ¬ sTake 0 (sB 0 none ((bothS m A sP 0).take j)) x := by
                first
                | exact fun ht => n1 ht.1
                | exact fun ht => absurd ht.2.1 (by rw [n2]; decide)
                | exact fun ht => n3 ht.2.2.1
                | exact fun ht => n4 ht.2.2.2.1
                | exact fun ht => ht.2.2.2.2 ⟨f5, n6⟩
              refine C_region ?_
              refine L_y rfl (y_add rfl rfl (wi64 (by omega) (by omega))) rfl ?_
              refine L_y rfl (y_move rfl) rfl ?_
              refine L_nil ?_
              refine ⟨j + 1, by omega, by omega, ?_⟩
              rw [sB_take hx]
              rw [sst_no hno]
              exact ⟨⟨rfl, rfl, rfl, rfl, rfl, rfl, rfl, rfl, rfl, rfl, rfl, trivial⟩, ((hsub (.cons_cons _ (.cons_cons _ (.cons_cons _ (.cons_cons _ (.cons_cons _ (.cons _ (.cons _ (.cons _ (.refl _)))))))))).trans (hsub_pick [3, 3, 3, 3, 3] rfl))⟩
            · have f4 : (unpG ((0 : Nat) : Int) x) % 2 = 0 := by have h2 := hg15_20; rw [Bool.not_eq_false', decide_eq_true_eq] at h2; omega
              refine L_y rfl (y_move rfl) rfl ?_
              refine L_y rfl (y_move rfl) rfl ?_
              refine L_case 79 rfl (fun hg15_22 => ?_) (fun hg15_22 => ?_)
              · have f5 : ((sB 0 none ((bothS m A sP 0).take j))).isSome = true := hg15_22
                refine L_y rfl (y_fieldAddr rfl fl_70_0) rfl ?_
                refine L_y rfl (y_load rfl ag_68 (sees 0 0 rfl) rfl) rfl ?_
                refine L_y rfl (y_fieldAddr rfl fl_70_0) rfl ?_
                refine L_y rfl (y_load rfl ag_68 (sees 6 0 rfl) rfl) rfl ?_
                refine L_y rfl (y_lss rfl rfl) rfl ?_
                refine L_y rfl (y_pick_t rfl rfl) rfl ?_
                refine L_y rfl (y_pick_f rfl rfl) rfl ?_
                refine L_nil ?_
                refine C_cond rfl (fun hc4 => ?_) (fun hc4 => ?_)
                · have n6 : (sDec (unpB ((0 : Nat) : Int) x)).1.1 < (sVal (sB 0 none ((bothS m A sP 0).take j))).1 := by have h2 := of_decide_eq_true hc4; omega
                  refine C_exit ?_
                  have hno : ¬ sTake 0 (sB 0 none ((bothS m A sP 0).take j)) x := by
                    first
                    | exact fun ht => n1 ht.1
                    | exact fun ht => absurd ht.2.1 (by rw [n2]; decide)
                    | exact fun ht => n3 ht.2.2.1
                    | exact fun ht => n4 ht.2.2.2.1
                    | exact fun ht => ht.2.2.2.2 ⟨f5, n6⟩
                  refine C_region ?_
                  refine L_y rfl (y_add rfl rfl (wi64 (by omega) (by omega))) rfl ?_
                  refine L_y rfl (y_move rfl) rfl ?_
                  refine L_nil ?_
                  refine ⟨j + 1, by omega, by omega, ?_⟩
                  rw [sB_take hx]
                  rw [sst_no hno]
                  exact ⟨⟨rfl, rfl, rfl, rfl, rfl, rfl, rfl, rfl, rfl, rfl, rfl, trivial⟩, ((hsub (.cons_cons _ (.cons_cons _ (.cons_cons _ (.cons_cons _ (.cons_cons _ (.cons _ (.cons _ (.cons _ (.refl _)))))))))).trans (hsub_pick [3, 3, 3, 3, 3] rfl))⟩
                · have f6 : ¬ (sDec (unpB ((0 : Nat) : Int) x)).1.1 < (sVal (sB 0 none ((bothS m A sP 0).take j))).1 := by have h2 := of_decide_eq_false hc4; omega
                  refine C_skip ?_
                  have hyes : sTake 0 (sB 0 none ((bothS m A sP 0).take j)) x := ⟨f1, f2, f3, f4, fun h2 => by
                    first
                    | exact f6 h2.2
                    | (rw [n5] at h2; exact absurd h2.1 (by decide))⟩
                  refine C_region ?_
                  refine L_y rfl (y_loadA rfl ag_70 sz_70 (sees 0 0 rfl) (Nat.le_of_ble_eq_true rfl) rfl) rfl ?_
                  refine L_op rfl (op_store 6 0 rfl rfl rfl sz_70 rfl rfl (ones rfl) (Nat.le_refl 3) ?_)
                  skip
                  refine L_y rfl (y_assign rfl) rfl ?_
                  refine L_nil ?_
                  skip
                  refine C_region ?_
                  refine L_y rfl (y_add rfl rfl (wi64 (by omega) (by omega))) rfl ?_
                  refine L_y rfl (y_move rfl) rfl ?_
                  refine L_nil ?_
                  refine ⟨j + 1, by omega, by omega, ?_⟩
                  rw [sB_take hx]
                  rw [sst_yes hyes]
                  exact ⟨⟨rfl, rfl, rfl, rfl, rfl, rfl, rfl, rfl, rfl, rfl, rfl, trivial⟩, ((hsub (.cons_cons _ (.cons_cons _ (.cons_cons _ (.cons_cons _ (.cons_cons _ (.cons _ (.cons _ (.cons _ (.refl _)))))))))).trans (hsub_pick [3, 3, 3, 3, 3] rfl))⟩
              · have n5 : ((sB 0 none ((bothS m A sP 0).take j))).isSome = false := hg15_22
                refine L_skip rfl rfl ?_
                refine L_skip rfl rfl ?_
                refine L_skip rfl rfl ?_
                refine L_skip rfl rfl ?_
                refine L_skip rfl rfl ?_
                refine L_y rfl (y_pick_f rfl rfl) rfl ?_
                refine L_y rfl (y_pick_f rfl rfl) rfl ?_
                refine L_nil ?_
                refine C_cond_f rfl ?_
                refine C_skip ?_
                have hyes : sTake 0 (sB 0 none ((bothS m A sP 0).take j)) x := ⟨f1, f2, f3, f4, fun h2 => by
                  first
                  | exact f6 h2.2
                  | (rw [n5] at h2; exact absurd h2.1 (by decide))⟩
                refine C_region ?_
                refine L_y rfl (y_loadA rfl ag_70 sz_70 (sees 0 0 rfl) (Nat.le_of_ble_eq_true rfl) rfl) rfl ?_
                refine L_op rfl (op_store 6 0 rfl rfl rfl sz_70 rfl rfl (ones rfl) (Nat.le_refl 3) ?_)
                skip
                refine L_y rfl (y_assign rfl) rfl ?_
                refine L_nil ?_
                skip
                refine C_region ?_
                refine L_y rfl (y_add rfl rfl (wi64 (by omega) (by omega))) rfl ?_
                refine L_y rfl (y_move rfl) rfl ?_
                refine L_nil ?_
                refine ⟨j + 1, by omega, by omega, ?_⟩
                rw [sB_take hx]
                rw [sst_yes hyes]
                exact ⟨⟨rfl, rfl, rfl, rfl, rfl, rfl, rfl, rfl, rfl, rfl, rfl, trivial⟩, ((hsub (.cons_cons _ (.cons_cons _ (.cons_cons _ (.cons_cons _ (.cons_cons _ (.cons _ (.cons _ (.cons _ (.refl _)))))))))).trans (hsub_pick [3, 3, 3, 3, 3] rfl))⟩
    · rw [show j = (bothS m A sP 0).length from by have := of_decide_eq_false hc3; omega, List.take_length]
      refine C_exit ?_
      refine C_region ?_
      refine L_y rfl (y_add rfl rfl (show _ = (1 : Int) from rfl)) rfl ?_
      refine L_y rfl (y_move rfl) rfl ?_
      refine L_nil ?_
      refine In_round ?_
      refine C_seq ?_
      refine C_region ?_
      refine L_y rfl (y_lss rfl rfl) rfl ?_
      refine L_nil ?_
      refine C_seq ?_
      refine C_cond_t rfl ?_
      refine C_skip ?_
      refine C_seq ?_
      refine C_block ?_
      refine C_seq ?_
      refine C_region ?_
      refine L_y rfl (y_move rfl) rfl ?_
      refine L_y rfl (y_assign rfl) rfl ?_
      refine L_nil ?_
      refine C_seq ?_
      refine C_region ?_
      refine L_y rfl (y_move rfl) rfl ?_
      refine L_y rfl (y_move rfl) rfl ?_
      refine L_op rfl (op_call rfl rfl (fun a w => Try.call25 a w) rfl ?_)
      refine (FnS.sub (hsub_pick [0, 0] rfl) (both_m h (hG.sub (hsub (.cons _ (.cons _ (.cons _ (.refl _)))))) 1)).mono ?_
      rintro _ _ ⟨gl1, hgl1, rfl, rfl⟩
      obtain ⟨okl1, hle1⟩ := bothS_ok (m := m) (p := sP) (n := 1) h.oks
      refine ⟨_, rfl, ?_⟩
      refine L_y rfl (y_lenV hgl1 rfl rfl Try.underlying40) rfl ?_
      refine L_y rfl (y_move rfl) rfl ?_
      refine L_nil ?_
      refine C_block ?_
      refine C_loop (ι := Nat) (fun j => [(0, ptr m.b), (1, .iface 78 (.agg zc.toArray)), (4, ptr B1), (5, .int .i64 0), (8, ptr B3), (9, .bool (sB 1 (sB 0 none (bothS m A sP 0)) ((bothS m A sP 1).take j)).isSome), (10, .int .i64 1), (34, .int .i64 1), (39, slV gl1 (bothS m A sP 1).length), (40, .int .i64 ((bothS m A sP 1).length : Int)), (41, .int .i64 (j : Int))]) (fun j => m.seg 110 :: D.seg dt :: [(B1, .cells (sCells (0, 0, 0)).toArray 70)] :: [(B3, .cells (sCells (sVal (sB 1 (sB 0 none (bothS m A sP 0)) ((bothS m A sP 1).take j)))).toArray 70)] :: slSeg 32 gl1 (bs (bothS m A sP 1).flatten) :: H) (fun j => j ≤ (bothS m A sP 1).length) (fun j => (bothS m A sP 1).length - j) 0 (Nat.zero_le _) ⟨rfl, rfl, rfl, rfl, rfl, rfl, rfl, rfl, rfl, rfl, rfl, trivial⟩ ((hsub (.cons_cons _ (.cons_cons _ (.cons_cons _ (.cons_cons _ (.cons_cons _ (.cons _ (.refl _)))))))).trans (hsub_pick [1, 1, 1, 1, 0] rfl)) (fun j hj => ?_)
      skip
      refine C_seq ?_
      refine C_region ?_
      refine L_y rfl (y_lss rfl rfl) rfl ?_
      refine L_nil ?_
      refine C_seq ?_
      refine C_cond rfl (fun hc3 => ?_) (fun hc3 => ?_)
      · replace hj : j < (bothS m A sP 1).length := by have := of_decide_eq_true hc3; omega
        refine C_skip ?_
        refine C_seq ?_
        refine C_block ?_
        refine C_seq ?_
        obtain ⟨x, hx⟩ : ∃ x, (bothS m A sP 1)[j]? = some x := ⟨_, List.getElem?_eq_getElem hj⟩
        have hxl := okl1 x (List.mem_of_getElem? hx)
        cases gl1 with
        | none => exact slOk_none hgl1 (by omega)
        | some gl1 => ?_
        have hfl := flat_len okl1
        refine C_region ?_
        refine L_y rfl (y_indexS rfl rfl Try.underlying40 sz_32 (by omega) (by omega) (show _ = 0 + j * 128 from by simp)) rfl ?_
        refine L_y rfl (y_loadA rfl ag_32 sz_32 (sees 4 0 rfl) (by rw [List.length_append, bs_length, hfl]; omega) (sec_at (n := 0) okl1 (by simp) hx)) rfl ?_
        refine L_op rfl (op_alloc zl_32 rfl (fun B6 => ?_))
        refine L_op rfl (op_storeA 0 0 rfl rfl rfl sz_32 (by rw [bs_length, hxl]) rfl (bs_one _) (by simp) ?_)
        refine L_nil ?_
        refine C_seq ?_
        refine C_region ?_
        refine L_y rfl (y_move rfl) rfl ?_
        refine L_y rfl (y_move rfl) rfl ?_
        refine L_y rfl (y_loadA rfl ag_32 sz_32 (sees 0 0 rfl) (by rw [bs_length, hxl]; decide) (bs_whole0 _ (hxl))) rfl ?_
        refine L_op rfl (op_call rfl rfl (fun a w => Try.call77 a w) rfl ?_)
        refine FnS.mono (unpack_u ((1 : Nat) : Int) x hxl) ?_
        rintro _ _ ⟨g2, hg2, rfl, rfl⟩
        refine ⟨_, rfl, ?_⟩
        refine L_y rfl (y_move rfl) rfl ?_
        refine L_y rfl (y_extract rfl rfl) rfl ?_
        refine L_y rfl (y_extract rfl rfl) rfl ?_
        refine L_y rfl (y_extract rfl rfl) rfl ?_
        refine L_y rfl (y_assign rfl) rfl ?_
        refine L_y rfl (y_assign rfl) rfl ?_
        refine L_y rfl (y_assign rfl) rfl ?_
        refine L_nil ?_
        refine C_seq ?_
        refine C_region ?_
        refine L_y rfl (y_move rfl) rfl ?_
        refine L_op rfl (op_call rfl rfl (fun a w => Try.call78 a w) rfl ?_)
        refine (decode_g (s := 0) rfl hg2).mono ?_
        rintro _ _ ⟨rfl, e⟩
        obtain rfl := e.symm
        clear e
        refine ⟨_, rfl, ?_⟩
        refine L_y rfl (y_move rfl) rfl ?_
        refine L_y rfl (y_extract rfl rfl) rfl ?_
        refine L_y rfl (y_extract rfl rfl) rfl ?_
        refine L_op rfl (op_alloc zl_70 rfl (fun B7 => ?_))
        refine L_op rfl (op_store 0 0 rfl rfl rfl sz_70 rfl rfl (ones rfl) (by decide) ?_)
        skip
        refine L_y rfl (y_assign rfl) rfl ?_
        refine L_nil ?_
        refine C_seq ?_
        refine C_seq ?_
        refine C_region ?_
        refine L_y rfl (y_move rfl) rfl ?_
        refine L_y rfl (y_not rfl) rfl ?_
        refine L_y rfl (y_move rfl) rfl ?_
        refine L_case 60 rfl (fun hg15_3 => ?_) (fun hg15_3 => ?_)
        · have n1 : ¬ isS ((1 : Nat) : Int) x := fun h => by rw [decide_eq_true h] at hg15_3; exact absurd hg15_3 (by decide)
          refine L_skip rfl rfl ?_
          refine L_skip rfl rfl ?_
          refine L_y rfl (y_pick_t rfl rfl) rfl ?_
          refine L_y rfl (y_move rfl) rfl ?_
          refine L_skip rfl rfl ?_
          refine L_skip rfl rfl ?_
          refine L_skip rfl rfl ?_
          refine L_skip rfl rfl ?_
          refine L_y rfl (y_pick_t rfl rfl) rfl ?_
          refine L_y rfl (y_move rfl) rfl ?_
          refine L_skip rfl rfl ?_
          refine L_skip rfl rfl ?_
          refine L_skip rfl rfl ?_
          refine L_skip rfl rfl ?_
          refine L_skip rfl rfl ?_
          refine L_y rfl (y_pick_t rfl rfl) rfl ?_
          refine L_y rfl (y_move rfl) rfl ?_
          refine L_skip rfl rfl ?_
          refine L_skip rfl rfl ?_
          refine L_skip rfl rfl ?_
          refine L_skip rfl rfl ?_
          refine L_skip rfl rfl ?_
          refine L_skip rfl rfl ?_
          refine L_skip rfl rfl ?_
          refine L_skip rfl rfl ?_
          refine L_y rfl (y_pick_t rfl rfl) rfl ?_
          refine L_nil ?_
          refine C_cond_t rfl ?_
          refine C_exit ?_
          have hno : ¬ sTake 1 (sB 1 (sB 0 none (bothS m A sP 0)) ((bothS m A sP 1).take j)) x := by
            first
            | exact fun ht => n1 ht.1
            | exact fun ht => absurd ht.2.1 (by rw [n2]; decide)
            | exact fun ht => n3 ht.2.2.1
            | exact fun ht => n4 ht.2.2.2.1
            | exact fun ht => ht.2.2.2.2 ⟨f5, n6⟩
          refine C_region ?_
          refine L_y rfl (y_add rfl rfl (wi64 (by omega) (by omega))) rfl ?_
          refine L_y rfl (y_move rfl) rfl ?_
          refine L_nil ?_
          refine ⟨j + 1, by omega, by omega, ?_⟩
          rw [sB_take hx]
          rw [sst_no hno]
          exact ⟨⟨rfl, rfl, rfl, rfl, rfl, rfl, rfl, rfl, rfl, rfl, rfl, trivial⟩, ((hsub (.cons_cons _ (.cons_cons _ (.cons_cons _ (.cons_cons _ (.cons_cons _ (.cons _ (.cons _ (.cons _ (.refl _)))))))))).trans (hsub_pick [3, 3, 3, 3, 3] rfl))⟩
        · have f1 : isS ((1 : Nat) : Int) x := Classical.byContradiction fun h => by rw [decide_eq_false h] at hg15_3; exact absurd hg15_3 (by decide)
          refine L_y rfl (y_move rfl) rfl ?_
          refine L_y rfl (y_not rfl) rfl ?_
          refine L_y rfl (y_pick_f rfl rfl) rfl ?_
          refine L_y rfl (y_move rfl) rfl ?_
          refine L_case 64 rfl (fun hg15_7 => ?_) (fun hg15_7 => ?_)
          · have n2 : (sDec (unpB ((1 : Nat) : Int) x)).2 = false := by simpa using hg15_7
            refine L_skip rfl rfl ?_
            refine L_skip rfl rfl ?_
            refine L_skip rfl rfl ?_
            refine L_skip rfl rfl ?_
            refine L_y rfl (y_pick_t rfl rfl) rfl ?_
            refine L_y rfl (y_move rfl) rfl ?_
            refine L_skip rfl rfl ?_
            refine L_skip rfl rfl ?_
            refine L_skip rfl rfl ?_
            refine L_skip rfl rfl ?_
            refine L_skip rfl rfl ?_
            refine L_y rfl (y_pick_t rfl rfl) rfl ?_
            refine L_y rfl (y_move rfl) rfl ?_
            refine L_skip rfl rfl ?_
            refine L_skip rfl rfl ?_
            refine L_skip rfl rfl ?_
            refine L_skip rfl rfl ?_
            refine L_skip rfl rfl ?_
            refine L_skip rfl rfl ?_
            refine L_skip rfl rfl ?_
            refine L_skip rfl rfl ?_
            refine L_y rfl (y_pick_t rfl rfl) rfl ?_
            refine L_nil ?_
            refine C_cond_t rfl ?_
            refine C_exit ?_
            have hno : ¬ sTake 1 (sB 1 (sB 0 none (bothS m A sP 0)) ((bothS m A sP 1).take j)) x := by
              first
              | exact fun ht => n1 ht.1
              | exact fun ht => absurd ht.2.1 (by rw [n2]; decide)
              | exact fun ht => n3 ht.2.2.1
              | exact fun ht => n4 ht.2.2.2.1
              | exact fun ht => ht.2.2.2.2 ⟨f5, n6⟩
            refine C_region ?_
            refine L_y rfl (y_add rfl rfl (wi64 (by omega) (by omega))) rfl ?_
            refine L_y rfl (y_move rfl) rfl ?_
            refine L_nil ?_
            refine ⟨j + 1, by omega, by omega, ?_⟩
            rw [sB_take hx]
            rw [sst_no hno]
            exact ⟨⟨rfl, rfl, rfl, rfl, rfl, rfl, rfl, rfl, rfl, rfl, rfl, trivial⟩, ((hsub (.cons_cons _ (.cons_cons _ (.cons_cons _ (.cons_cons _ (.cons_cons _ (.cons _ (.cons _ (.cons _ (.refl _)))))))))).trans (hsub_pick [3, 3, 3, 3, 3] rfl))⟩
          · have f2 : (sDec (unpB ((1 : Nat) : Int) x)).2 = true := by simpa using hg15_7
            refine L_y rfl (y_fieldAddr rfl fl_70_0) rfl ?_
            refine L_y rfl (y_load rfl ag_68 (sees 0 0 rfl) rfl) rfl ?_
            refine L_y rfl (y_move rfl) rfl ?_
            refine L_y rfl (y_nei rfl rfl) rfl ?_
            refine L_y rfl (y_pick_f rfl rfl) rfl ?_
            refine L_y rfl (y_move rfl) rfl ?_
            refine L_case 70 rfl (fun hg15_13 => ?_) (fun hg15_13 => ?_)
            · have n3 : ¬ (sDec (unpB ((1 : Nat) : Int) x)).1.1 = (unpG ((1 : Nat) : Int) x) := by have h2 := hg15_13; rw [Bool.not_eq_true', decide_eq_false_iff_not] at h2; omega
              refine L_skip rfl rfl ?_
              refine L_skip rfl rfl ?_
              refine L_skip rfl rfl ?_
              refine L_skip rfl rfl ?_
              refine L_skip rfl rfl ?_
              refine L_y rfl (y_pick_t rfl rfl) rfl ?_
              refine L_y rfl (y_move rfl) rfl ?_
              refine L_skip rfl rfl ?_
              refine L_skip rfl rfl ?_
              refine L_skip rfl rfl ?_
              refine L_skip rfl rfl ?_
              refine L_skip rfl rfl ?_
              refine L_skip rfl rfl ?_
              refine L_skip rfl rfl ?_
              refine L_skip rfl rfl ?_
              refine L_y rfl (y_pick_t rfl rfl) rfl ?_
              refine L_nil ?_
              refine C_cond_t rfl ?_
              refine C_exit ?_
              have hno : ¬ sTake 1 (sB 1 (sB 0 none (bothS m A sP 0)) ((bothS m A sP 1).take j)) x := by
                first
                | exact fun ht => n1 ht.1
                | exact fun ht => absurd ht.2.1 (by rw [n2]; decide)
                | exact fun ht => n3 ht.2.2.1
                | exact fun ht => n4 ht.2.2.2.1
                | exact fun ht => ht.2.2.2.2 ⟨f5, n6⟩
              refine C_region ?_
              refine L_y rfl (y_add rfl rfl (wi64 (by omega) (by omega))) rfl ?_
              refine L_y rfl (y_move rfl) rfl ?_
              refine L_nil ?_
              refine ⟨j + 1, by omega, by omega, ?_⟩
              rw [sB_take hx]
              rw [sst_no hno]
              exact ⟨⟨rfl, rfl, rfl, rfl, rfl, rfl, rfl, rfl, rfl, rfl, rfl, trivial⟩, ((hsub (.cons_cons _ (.cons_cons _ (.cons_cons _ (.cons_cons _ (.cons_cons _ (.cons _ (.cons _ (.cons _ (.refl _)))))))))).trans (hsub_pick [3, 3, 3, 3, 3] rfl))⟩
            · have f3 : (sDec (unpB ((1 : Nat) : Int) x)).1.1 = (unpG ((1 : Nat) : Int) x) := by have h2 := hg15_13; rw [Bool.not_eq_false', decide_eq_true_eq] at h2; omega
              refine L_y rfl (y_move rfl) rfl ?_
              refine L_y rfl (y_rem rfl rfl (by decide) (show _ = (((unpG ((1 : Nat) : Int) x) % 2 : Nat) : Int) from rfl)) rfl ?_
              refine L_y rfl (y_conv rfl us_68 Try.underlying3 (wi64 (by omega) (by omega))) rfl ?_
              refine L_y rfl (y_move rfl) rfl ?_
              refine L_y rfl (y_nei rfl rfl) rfl ?_
              refine L_y rfl (y_pick_f rfl rfl) rfl ?_
              refine L_y rfl (y_move rfl) rfl ?_
              refine L_case 77 rfl (fun hg15_20 => ?_) (fun hg15_20 => ?_)
              · have n4 : ¬ (unpG ((1 : Nat) : Int) x) % 2 = 1 := by have h2 := hg15_20; rw [Bool.not_eq_true', decide_eq_false_iff_not] at h2; omega
                refine L_skip rfl rfl ?_
                refine L_skip rfl rfl ?_
                refine L_skip rfl rfl ?_
                refine L_skip rfl rfl ?_
                refine L_skip rfl rfl ?_
                refine L_skip rfl rfl ?_
                refine L_skip rfl rfl ?_
                refine L_skip rfl rfl ?_
                refine L_y rfl (y_pick_t rfl rfl) rfl ?_
                refine L_nil ?_
                refine C_cond_t rfl ?_
                refine C_exit ?_
                have hno : ¬ sTake 1 (sB 1 (sB 0 none (bothS m A sP 0)) ((bothS m A sP 1).take j)) x := by
                  first
                  | exact fun ht => n1 ht.1
                  | exact fun ht => absurd ht.2.1 (by rw [n2]; decide)
                  | exact fun ht => n3 ht.2.2.1
                  | exact fun ht => n4 ht.2.2.2.1
                  | exact fun ht => ht.2.2.2.2 ⟨f5, n6⟩
                refine C_region ?_
                refine L_y rfl (y_add rfl rfl (wi64 (by omega) (by omega))) rfl ?_
                refine L_y rfl (y_move rfl) rfl ?_
                refine L_nil ?_
                refine ⟨j + 1, by omega, by omega, ?_⟩
                rw [sB_take hx]
                rw [sst_no hno]
                exact ⟨⟨rfl, rfl, rfl, rfl, rfl, rfl, rfl, rfl, rfl, rfl, rfl, trivial⟩, ((hsub (.cons_cons _ (.cons_cons _ (.cons_cons _ (.cons_cons _ (.cons_cons _ (.cons _ (.cons _ (.cons _ (.refl _)))))))))).trans (hsub_pick [3, 3, 3, 3, 3] rfl))⟩
              · have f4 : (unpG ((1 : Nat) : Int) x) % 2 = 1 := by have h2 := hg15_20; rw [Bool.not_eq_false', decide_eq_true_eq] at h2; omega
                refine L_y rfl (y_move rfl) rfl ?_
                refine L_y rfl (y_move rfl) rfl ?_
                refine L_case 79 rfl (fun hg15_22 => ?_) (fun hg15_22 => ?_)
                · have f5 : ((sB 1 (sB 0 none (bothS m A sP 0)) ((bothS m A sP 1).take j))).isSome = true := hg15_22
                  refine L_y rfl (y_fieldAddr rfl fl_70_0) rfl ?_
                  refine L_y rfl (y_load rfl ag_68 (sees 0 0 rfl) rfl) rfl ?_
                  refine L_y rfl (y_fieldAddr rfl fl_70_0) rfl ?_
                  refine L_y rfl (y_load rfl ag_68 (sees 6 0 rfl) rfl) rfl ?_
                  refine L_y rfl (y_lss rfl rfl) rfl ?_
                  refine L_y rfl (y_pick_t rfl rfl) rfl ?_
                  refine L_y rfl (y_pick_f rfl rfl) rfl ?_
                  refine L_nil ?_
                  refine C_cond rfl (fun hc4 => ?_) (fun hc4 => ?_)
                  · have n6 : (sDec (unpB ((1 : Nat) : Int) x)).1.1 < (sVal (sB 1 (sB 0 none (bothS m A sP 0)) ((bothS m A sP 1).take j))).1 := by have h2 := of_decide_eq_true hc4; omega
                    refine C_exit ?_
                    have hno : ¬ sTake 1 (sB 1 (sB 0 none (bothS m A sP 0)) ((bothS m A sP 1).take j)) x := by
                      first
                      | exact fun ht => n1 ht.1
                      | exact fun ht => absurd ht.2.1 (by rw [n2]; decide)
                      | exact fun ht => n3 ht.2.2.1
                      | exact fun ht => n4 ht.2.2.2.1
                      | exact fun ht => ht.2.2.2.2 ⟨f5, n6⟩
                    refine C_region ?_
                    refine L_y rfl (y_add rfl rfl (wi64 (by omega) (by omega))) rfl ?_
                    refine L_y rfl (y_move rfl) rfl ?_
                    refine L_nil ?_
                    refine ⟨j + 1, by omega, by omega, ?_⟩
                    rw [sB_take hx]
                    rw [sst_no hno]
                    exact ⟨⟨rfl, rfl, rfl, rfl, rfl, rfl, rfl, rfl, rfl, rfl, rfl, trivial⟩, ((hsub (.cons_cons _ (.cons_cons _ (.cons_cons _ (.cons_cons _ (.cons_cons _ (.cons _ (.cons _ (.cons _ (.refl _)))))))))).trans (hsub_pick [3, 3, 3, 3, 3] rfl))⟩
                  · have f6 : ¬ (sDec (unpB ((1 : Nat) : Int) x)).1.1 < (sVal (sB 1 (sB 0 none (bothS m A sP 0)) ((bothS m A sP 1).take j))).1 := by have h2 := of_decide_eq_false hc4; omega
                    refine C_skip ?_
                    have hyes : sTake 1 (sB 1 (sB 0 none (bothS m A sP 0)) ((bothS m A sP 1).take j)) x := ⟨f1, f2, f3, f4, fun h2 => by
                      first
                      | exact f6 h2.2
                      | (rw [n5] at h2; exact absurd h2.1 (by decide))⟩
                    refine C_region ?_
                    refine L_y rfl (y_loadA rfl ag_70 sz_70 (sees 0 0 rfl) (Nat.le_of_ble_eq_true rfl) rfl) rfl ?_
                    refine L_op rfl (op_store 6 0 rfl rfl rfl sz_70 rfl rfl (ones rfl) (Nat.le_refl 3) ?_)
                    skip
                    refine L_y rfl (y_assign rfl) rfl ?_
                    refine L_nil ?_
                    skip
                    refine C_region ?_
                    refine L_y rfl (y_add rfl rfl (wi64 (by omega) (by omega))) rfl ?_
                    refine L_y rfl (y_move rfl) rfl ?_
                    refine L_nil ?_
                    refine ⟨j + 1, by omega, by omega, ?_⟩
                    rw [sB_take hx]
                    rw [sst_yes hyes]
                    exact ⟨⟨rfl, rfl, rfl, rfl, rfl, rfl, rfl, rfl, rfl, rfl, rfl, trivial⟩, ((hsub (.cons_cons _ (.cons_cons _ (.cons_cons _ (.cons_cons _ (.cons_cons _ (.cons _ (.cons _ (.cons _ (.refl _)))))))))).trans (hsub_pick [3, 3, 3, 3, 3] rfl))⟩
                · have n5 : ((sB 1 (sB 0 none (bothS m A sP 0)) ((bothS m A sP 1).take j))).isSome = false := hg15_22
                  refine L_skip rfl rfl ?_
                  refine L_skip rfl rfl ?_
                  refine L_skip rfl rfl ?_
                  refine L_skip rfl rfl ?_
                  refine L_skip rfl rfl ?_
                  refine L_y rfl (y_pick_f rfl rfl) rfl ?_
                  refine L_y rfl (y_pick_f rfl rfl) rfl ?_
                  refine L_nil ?_
                  refine C_cond_f rfl ?_
                  refine C_skip ?_
                  have hyes : sTake 1 (sB 1 (sB 0 none (bothS m A sP 0)) ((bothS m A sP 1).take j)) x := ⟨f1, f2, f3, f4, fun h2 => by
                    first
                    | exact f6 h2.2
                    | (rw [n5] at h2; exact absurd h2.1 (by decide))⟩
                  refine C_region ?_
                  refine L_y rfl (y_loadA rfl ag_70 sz_70 (sees 0 0 rfl) (Nat.le_of_ble_eq_true rfl) rfl) rfl ?_
                  refine L_op rfl (op_store 6 0 rfl rfl rfl sz_70 rfl rfl (ones rfl) (Nat.le_refl 3) ?_)
                  skip
                  refine L_y rfl (y_assign rfl) rfl ?_
                  refine L_nil ?_
                  skip
                  refine C_region ?_
                  refine L_y rfl (y_add rfl rfl (wi64 (by omega) (by omega))) rfl ?_
                  refine L_y rfl (y_move rfl) rfl ?_
                  refine L_nil ?_
                  refine ⟨j + 1, by omega, by omega, ?_⟩
                  rw [sB_take hx]
                  rw [sst_yes hyes]
                  exact ⟨⟨rfl, rfl, rfl, rfl, rfl, rfl, rfl, rfl, rfl, rfl, rfl, trivial⟩, ((hsub (.cons_cons _ (.cons_cons _ (.cons_cons _ (.cons_cons _ (.cons_cons _ (.cons _ (.cons _ (.cons _ (.refl _)))))))))).trans (hsub_pick [3, 3, 3, 3, 3] rfl))⟩
      · rw [show j = (bothS m A sP 1).length from by have := of_decide_eq_false hc3; omega, List.take_length]
        refine C_exit ?_
        refine C_region ?_
        refine L_y rfl (y_add rfl rfl (show _ = (2 : Int) from rfl)) rfl ?_
        refine L_y rfl (y_move rfl) rfl ?_
        refine L_nil ?_
        refine In_round ?_
        refine C_seq ?_
        refine C_region ?_
        refine L_y rfl (y_lss rfl rfl) rfl ?_
        refine L_nil ?_
        refine C_seq ?_
        refine C_cond_f rfl ?_
        refine C_exit ?_
        refine C_seq ?_
        refine C_seq ?_
        refine C_region ?_
        refine L_y rfl (y_move rfl) rfl ?_
        refine L_y rfl (y_not rfl) rfl ?_
        refine L_nil ?_
        refine C_cond rfl (fun hc5 => ?_) (fun hc5 => ?_)
        · skip
          refine C_seq ?_
          refine C_region ?_
          refine L_y rfl (y_build0 pl_70 zl_70) rfl ?_
          refine L_op rfl (op_store 2 0 rfl rfl rfl sz_70 rfl rfl (ones rfl) (by decide) ?_)
          skip
          refine L_y rfl (y_assign rfl) rfl ?_
          refine L_nil ?_
          refine C_ret ?_
          refine B_ret (rv_cellA rfl ag_70 sz_70 (sees 2 0 rfl) (Nat.le_of_ble_eq_true rfl) rfl (rv_tmp rfl rv_nil)) ((hsub (.cons_cons _ (.cons_cons _ (.cons _ (.cons _ (.cons _ (.refl _))))))).trans (hsub_pick [0, 0] rfl)) ?_
          refine ⟨?_, rfl⟩
          unfold sRd
          rw [if_neg hc1]
          obtain ⟨q, hq⟩ : ∃ q, sB 1 (sB 0 none (bothS m A sP 0)) (bothS m A sP 1) = q := ⟨_, rfl⟩
          rw [hq] at hc5 ⊢
          cases q with
          | none => rfl
          | some q => exact absurd hc5 (by simp)
        · skip
          refine C_skip ?_
          refine C_seq ?_
          refine C_region ?_
          refine L_y rfl (y_loadA rfl ag_70 sz_70 (sees 3 0 rfl) (Nat.le_of_ble_eq_true rfl) rfl) rfl ?_
          refine L_op rfl (op_store 2 0 rfl rfl rfl sz_70 rfl rfl (ones rfl) (by decide) ?_)
          skip
          refine L_y rfl (y_assign rfl) rfl ?_
          refine L_nil ?_
          refine C_ret ?_
          refine B_ret (rv_cellA rfl ag_70 sz_70 (sees 2 0 rfl) (Nat.le_of_ble_eq_true rfl) rfl (rv_tmp rfl rv_nil)) ((hsub (.cons_cons _ (.cons_cons _ (.cons _ (.cons _ (.cons _ (.refl _))))))).trans (hsub_pick [0, 0] rfl)) ?_
          refine ⟨?_, rfl⟩
          unfold sRd
          rw [if_neg hc1]
          obtain ⟨q, hq⟩ : ∃ q, sB 1 (sB 0 none (bothS m A sP 0)) (bothS m A sP 1) = q := ⟨_, rfl⟩
          rw [hq] at hc5 ⊢
          cases q with
          | none => exact absurd hc5 (by simp)
          | some q => rfl

end Go.Proofs.Ytjjiclgbdenkkaa

/- A mirror of which one device missed something (own work). -/
set_option linter.unusedVariables false
set_option linter.unusedSimpArgs false
namespace Go.Sl
section
variable {m : Mi} {A : Da} {p : Int → Sec → Bool} {K : Nat} {X Y : List Sec} {k0 k1 t c : Nat} {s : Sec}
/-- What is written and flushed while the first device is out; it is in again then. -/
theorem missed (h : Vw A K X Y 0 k1) (ht : t < K) (hs : s.length = 128) (hm : m.n = K) (z0 : m.k0 = []) (z1 : m.k1 = []) :
    putE m (A.setd false ((A.dev false).outs true)) askAll t s = 0 ∧
    Vw ((mfl (putDa m (A.setd false ((A.dev false).outs true)) askAll t s)).1.setd false (((mfl (putDa m (A.setd false ((A.dev false).outs true)) askAll t s)).1.dev false).outs false)) K X (Y.set t s) 0 0 ∧
    (putm m (A.setd false ((A.dev false).outs true)) askAll t s).k0 = [((t : Int), m.c0)] ∧ (putm m (A.setd false ((A.dev false).outs true)) askAll t s).k1 = [] ∧
    (putm m (A.setd false ((A.dev false).outs true)) askAll t s).b = m.b ∧ (putm m (A.setd false ((A.dev false).outs true)) askAll t s).bx = m.bx ∧ (putm m (A.setd false ((A.dev false).outs true)) askAll t s).bys = m.bys ∧
    (putm m (A.setd false ((A.dev false).outs true)) askAll t s).n = m.n ∧ (putm m (A.setd false ((A.dev false).outs true)) askAll t s).gv = m.gv := by
  obtain ⟨p0, p1, p2⟩ := put_out (s := s) h ht hm z0 z1
  refine ⟨p0, ?_, p2⟩
  have hh := has_of hm ht
  obtain ⟨w1, w2⟩ := h.write (n := t) (s := s) true ht hs
  obtain ⟨f1, f2⟩ := w2.flush true
  simp only [if_true] at f2
  generalize hA : A.setd false ((A.dev false).outs true) = A' at *
  have c2 : A'.calm := by rw [← hA]; exact Da.calm_setd h.calm false _
  have to : thr A' false = false := by rw [← hA]; simp [thr, Da.setd, Da.dev, Ab.outs, Ab.down]
  have ti : thr A' true = true := by rw [← hA]; exact h.thr true
  have pa : pA A' false askAll t s = A' := by unfold pA; rw [to]; rfl
  have pB : putDa m A' askAll t s = A'.write true t s := by
    unfold putDa putA; rw [hh, if_pos rfl, pa]; unfold pA; rw [ti]; rfl
  have hB : (A'.write true t s).dev false = A'.dev false := by
    rw [(Da.write_calm c2 true (t : Int) s).1]
    split <;> rfl
  have cB := Da.write_calm2 c2 true (t : Int) s
  rw [pB] at p1 ⊢
  generalize hB2 : A'.write true (t : Int) s = B at *
  have tB : thr B false = false := by
    unfold thr Ab.down
    rw [hB, ← hA]
    simp [Da.setd, Da.dev, Ab.outs]
  have eB : B.setd false ((B.dev false).outs false) = A.write true t s := p1
  have oB : (B.dev true).out = false := by
    have : (A.write true t s).dev true = B.dev true := by rw [← eB]; rfl
    rw [← this]; exact (w2.dev true).out
  have tB1 : thr B true = true := by
    unfold thr Ab.down
    rw [oB, (Da.calm_pow cB true).1]; rfl
  have fl : B.flush true = B.setd true ((B.dev true).flush) := by rw [(Da.flush_calm cB true).1, oB]; rfl
  have fA : (A.write true t s).flush true = (A.write true t s).setd true (((A.write true t s).dev true).flush) := by
    rw [(Da.flush_calm w2.calm true).1, (w2.dev true).out]; rfl
  have key : (mfl B).1.setd false (((mfl B).1.dev false).outs false) = (A.write true t s).flush true := by
    unfold mfl fl1
    rw [tB, tB1]
    simp only [Bool.false_eq_true, if_false, if_true]
    rw [fl, fA, ← eB]
    rfl
  rw [key]
  exact f2
end
end Go.Sl

/- What the laws of superblocks ask (own work). -/
set_option linter.unusedVariables false
set_option linter.unusedSimpArgs false
namespace Go.Sl
abbrev Z4 : List Sec := List.replicate 4 (secOf 0)
theorem Z4_ok : ∀ s ∈ Z4, s.length = 128 := fun s hs => by rw [List.eq_of_mem_replicate hs]; exact secOf_len _
theorem gt_z {a : Nat} (h : a < 4) : gt Z4 a = secOf 0 := by
  unfold gt
  rw [List.getD_eq_getElem?_getD, List.getElem?_replicate, if_pos h]; rfl
theorem gt_set {X : List Sec} {n a : Nat} {s : Sec} (hn : n < X.length) : gt (X.set n s) a = if a = n then s else gt X a := by
  unfold gt
  rw [List.getD_eq_getElem?_getD, List.getD_eq_getElem?_getD, List.getElem?_set]
  by_cases e : n = a
  · subst e; simp [hn]
  · simp [e, Ne.symm e]
attribute [local irreducible] supS
section
variable {t : DT} {gv : Value} {D : Duo} {A : Da} {m : Mi} {K : Nat} {X Y : List Sec} {k0 k1 mb bx bys bp : Nat} {p : Int → Sec → Bool} {n : Nat} {u : Sec}
end
section
variable {v w : Nat} {now now' : Int} {top top' : Nat}
theorem gt_w1 (v : Nat) (s : Sec) (a : Nat) (ha : a < 4) : gt (Z4.set (v % 2) s) a = if a = v % 2 then s else secOf 0 := by
  rw [gt_set (by simp; omega), gt_z ha]
theorem ch_w1 (hv : v < M64) (hm : mayS now top = true) {X : List Sec} (hX : X = Z4.set (v % 2) (supS v now top)) : ch (gt X 0) (gt X 0) (gt X 1) (gt X 1) = some (v, now, top) := by
  subst hX
  have e : ∀ a, a < 2 → gt (Z4.set (v % 2) (supS v now top)) a = if a = v % 2 then supS v now top else secOf 0 := fun a ha => gt_w1 v _ a (by omega)
  refine ch_one hv hm (fun a => (gt (Z4.set (v % 2) (supS v now top)) a, gt (Z4.set (v % 2) (supS v now top)) a)) ?_ ?_ ?_ ?_
  · try simp only
    rw [e _ (by omega), if_pos rfl]; exact .inl rfl
  · try simp only
    rw [e _ (by omega), if_pos rfl]; exact .inl rfl
  · try simp only
    rw [e _ (by omega), if_pos rfl]; exact .inl rfl
  · intro a ha hne
    try simp only
    rw [e _ ha, if_neg hne]; exact ⟨dead_zero a, dead_zero a⟩
/-- One that was written over what may stand there. -/
theorem ch_w2 (hv : v < M64) (hm : mayS now top = true) (hw : w < M64) (hm' : mayS now' top' = true) {X : List Sec} (hl : X.length = 4) (h0 : gt X (v % 2) = supS v now top) (hne : v % 2 ≠ w % 2) :
    ch (gt (X.set (w % 2) (supS w now' top')) 0) (gt (X.set (w % 2) (supS w now' top')) 0) (gt (X.set (w % 2) (supS w now' top')) 1) (gt (X.set (w % 2) (supS w now' top')) 1) = if v < w then some (w, now', top') else some (v, now, top) := by
  refine ch_two hv hm hw hm' hne (fun a => gt (X.set (w % 2) (supS w now' top')) a) ?_ ?_
  · try simp only
    rw [gt_set (by omega), if_neg hne]; exact h0
  · try simp only
    rw [gt_set (by omega), if_pos rfl]
end
/-! ### Slices of supers -/
def sups (l : List Sp3) : List Value := (l.map sCells).flatten
theorem sups_len (l : List Sp3) : (sups l).length = l.length * 3 := by
  induction l with
  | nil => rfl
  | cons x l ih => simp only [sups, List.map_cons, List.flatten_cons, List.length_append, List.length_cons] at ih ⊢; rw [ih]; simp; omega
theorem sups_get : ∀ {l : List Sp3} {i : Nat} {a : Sp3}, l[i]? = some a → ((sups l).drop (i * 3)).take 3 = sCells a
  | [], i, a, h => by simp at h
  | b :: l, 0, a, h => by
    simp at h; subst h
    simp only [sups, List.map_cons, List.flatten_cons, Nat.zero_mul, List.drop_zero]
    rfl
  | b :: l, i + 1, a, h => by
    simp only [List.getElem?_cons_succ] at h
    have := sups_get h
    simp only [sups, List.map_cons, List.flatten_cons] at this ⊢
    rw [show (i + 1) * 3 = 3 + i * 3 by omega, ← List.drop_drop]
    exact this
theorem sup_at {l : List Value} {off i : Nat} {al : List Sp3} {a : Sp3} (hv : (l.drop off).take (sups al).length = sups al) (hi : al[i]? = some a) : (l.drop (off + i * 3)).take 3 = sCells a := by
  have hlt := (List.getElem?_eq_some_iff.1 hi).1
  rw [← sups_get hi, ← hv, List.drop_take, List.take_take, List.drop_drop, sups_len]
  congr 1
  omega
end Go.Sl

