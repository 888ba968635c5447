/- Own work: texts MfW, VwW, MnW, VnW, Sc, MeW, VrW, MhW, VhW, VdW, Sd, LaW, Sy, MyW, VqW, Fl, Sz, put together. -/
import Derived.Test.YtjjiclgbdenkkaaMMirrorFlushc
/- walks (own work; the walks' lines by a program of this repo). -/
set_option linter.unusedVariables false
set_option linter.unusedSimpArgs false
set_option maxRecDepth 20000
namespace Go.Proofs.Ytjjiclgbdenkkaa
open Go.Sl
attribute [local irreducible] BodyQ WpC WpL WpS WpH OpW FnS


theorem ask_all {w0 : World} {H : Hp} {v : Value} : FnS Try.prog w0 55 #[v] H (fun e H' => e = .returned (.bool true) ∧ H' = H) := by
  refine FnS_intro (n := 3) (rs := [.tmp 2]) (vs := [v]) Try.func55 rfl Try.ntmps55 rfl rfl ?_
  refine C_seq ?_
  refine C_region ?_
  refine L_y rfl (y_assign rfl) rfl ?_
  refine L_nil ?_
  refine C_seq ?_
  refine C_region ?_
  refine L_y rfl (y_assign rfl) rfl ?_
  refine L_nil ?_
  refine C_ret ?_
  refine B_ret (rv_tmp rfl rv_nil) (HSub.refl _) ?_
  exact ⟨rfl, rfl⟩

theorem mwrite_m {w0 : World} {H : Hp} {D : Duo} {A : Da} {bp : Nat} {m : Mi} (h : Two dt D A m.bx m.bys bp) (n : Int) (s : Sec) (hs : s.length = 128) (hQ : ∀ i, (A.dev i).Q.length < 99990) : FnS Try.prog w0 19 #[ptr m.b, .int .i64 n, .agg (bs s).toArray] (m.seg 110 :: D.seg dt :: H) (fun e H' => e = .returned (.int .i64 (putE m A askAll n s)) ∧ ∃ D', Two dt D' (putDa m A askAll n s) m.bx m.bys bp ∧ H' = (putm m A askAll n s).seg 110 :: D'.seg dt :: H) := by
  refine FnS_intro (n := 11) (rs := [.tmp 6]) (vs := [ptr m.b, .int .i64 n, .agg (bs s).toArray]) Try.func19 rfl Try.ntmps19 rfl rfl ?_
  refine C_seq ?_
  refine C_region ?_
  refine L_op rfl (op_box rfl rfl rfl (fun B1 => ?_))
  refine L_y rfl (y_assign rfl) rfl ?_
  refine L_nil ?_
  refine C_seq ?_
  refine C_region ?_
  refine L_y rfl (y_move rfl) rfl ?_
  refine L_y rfl (y_move rfl) rfl ?_
  refine L_y rfl (y_loadA rfl ag_32 sz_32 (sees 0 0 rfl) (by rw [bs_length, hs]; decide) (bs_whole0 _ hs)) rfl ?_
  refine L_op rfl (op_call rfl rfl (fun a w => Try.call54 a w) rfl ?_)
  refine (FnS.sub (hsub_pick [1, 1] rfl) (put_m h n s hs (cap := []) ⟨fun a w => Try.call55 a w, fun i D A X _ _ => ask_all⟩ hQ)).mono ?_
  rintro _ _ ⟨rfl, D1, h1, rfl⟩
  refine ⟨_, rfl, ?_⟩
  refine L_y rfl (y_assign rfl) rfl ?_
  refine L_nil ?_
  refine C_ret ?_
  refine B_ret (rv_tmp rfl rv_nil) (hsub (.cons_cons _ (.cons_cons _ (.cons _ (.refl _))))) ?_
  exact ⟨rfl, D1, h1, rfl⟩

theorem sflush_f {w0 : World} {H : Hp} {D : Duo} {A : Da} {bp : Nat} {m : Mi} (h : Two dt D A m.bx m.bys bp) : FnS Try.prog w0 57 #[.pointer (some ⟨m.b, 0, none⟩)] (m.seg 110 :: D.seg dt :: H) (fun e H' => e = .returned (.int .i64 (A.fE false)) ∧ ∃ D', Two dt D' (A.flush false) m.bx m.bys bp ∧ H' = m.seg 110 :: D'.seg dt :: H) := by
  refine FnS_intro (n := 11) (rs := [.tmp 2]) (vs := [.pointer (some ⟨m.b, 0, none⟩)]) Try.func57 rfl Try.ntmps57 rfl rfl ?_
  refine C_seq ?_
  refine C_region ?_
  refine L_y rfl (y_assign rfl) rfl ?_
  refine L_nil ?_
  refine C_seq ?_
  refine C_region ?_
  refine L_y rfl (y_move rfl) rfl ?_
  refine L_y rfl (y_nilCheck rfl) rfl ?_
  refine L_y rfl (y_fieldAddr rfl fl_107_0) rfl ?_
  refine L_y rfl (y_load rfl ag_24 (sees 0 0 rfl) rfl) rfl ?_
  refine L_y rfl (y_makeFunc rfl rfl) rfl ?_
  refine L_y rfl (y_assign rfl) rfl ?_
  refine L_nil ?_
  refine C_seq ?_
  refine C_region ?_
  refine L_y rfl (y_move rfl) rfl ?_
  refine L_op rfl (op_call rfl rfl (fun a w => Try.call86 a w) rfl ?_)
  refine ((flush_d h false).sub (hsub_pick [1] rfl)).mono ?_
  rintro _ _ ⟨rfl, D1, h1, rfl⟩
  refine ⟨_, rfl, ?_⟩
  refine L_y rfl (y_assign rfl) rfl ?_
  refine L_nil ?_
  refine C_ret ?_
  refine B_ret (rv_tmp rfl rv_nil) ((hsub (.cons_cons _ (.cons_cons _ (.refl _)))).trans (hsub_pick [1, 0] rfl)) ?_
  exact ⟨rfl, D1, h1, rfl⟩

theorem sflush_t {w0 : World} {H : Hp} {D : Duo} {A : Da} {bp : Nat} {m : Mi} (h : Two dt D A m.bx m.bys bp) : FnS Try.prog w0 57 #[.pointer (some ⟨m.b, 2, none⟩)] (m.seg 110 :: D.seg dt :: H) (fun e H' => e = .returned (.int .i64 (A.fE true)) ∧ ∃ D', Two dt D' (A.flush true) m.bx m.bys bp ∧ H' = m.seg 110 :: D'.seg dt :: H) := by
  refine FnS_intro (n := 11) (rs := [.tmp 2]) (vs := [.pointer (some ⟨m.b, 2, none⟩)]) Try.func57 rfl Try.ntmps57 rfl rfl ?_
  refine C_seq ?_
  refine C_region ?_
  refine L_y rfl (y_assign rfl) rfl ?_
  refine L_nil ?_
  refine C_seq ?_
  refine C_region ?_
  refine L_y rfl (y_move rfl) rfl ?_
  refine L_y rfl (y_nilCheck rfl) rfl ?_
  refine L_y rfl (y_fieldAddr rfl fl_107_0) rfl ?_
  refine L_y rfl (y_load rfl ag_24 (sees 0 0 rfl) rfl) rfl ?_
  refine L_y rfl (y_makeFunc rfl rfl) rfl ?_
  refine L_y rfl (y_assign rfl) rfl ?_
  refine L_nil ?_
  refine C_seq ?_
  refine C_region ?_
  refine L_y rfl (y_move rfl) rfl ?_
  refine L_op rfl (op_call rfl rfl (fun a w => Try.call86 a w) rfl ?_)
  refine ((flush_d h true).sub (hsub_pick [1] rfl)).mono ?_
  rintro _ _ ⟨rfl, D1, h1, rfl⟩
  refine ⟨_, rfl, ?_⟩
  refine L_y rfl (y_assign rfl) rfl ?_
  refine L_nil ?_
  refine C_ret ?_
  refine B_ret (rv_tmp rfl rv_nil) ((hsub (.cons_cons _ (.cons_cons _ (.refl _)))).trans (hsub_pick [1, 0] rfl)) ?_
  exact ⟨rfl, D1, h1, rfl⟩

theorem all_tt {w0 : World} {H : Hp} {D : Duo} {A : Da} {bp : Nat} {m : Mi} (h : Two dt D A m.bx m.bys bp) (hp : thr A false = true) (hq : thr A true = true) : FnS Try.prog w0 56 #[ptr m.b, .func (.func 57) #[] #[]] (m.seg 110 :: D.seg dt :: H) (fun e H' => e = .returned (.int .i64 (mfl A).2) ∧ ∃ D', Two dt D' (mfl A).1 m.bx m.bys bp ∧ H' = m.seg 110 :: D'.seg dt :: H) := by
  refine FnS_intro (n := 30) (rs := [.tmp 4]) (vs := [ptr m.b, .func (.func 57) #[] #[]]) Try.func56 rfl Try.ntmps56 rfl rfl ?_
  refine C_seq ?_
  refine C_region ?_
  refine L_y rfl (y_assign rfl) rfl ?_
  refine L_nil ?_
  refine C_seq ?_
  refine C_region ?_
  refine L_y rfl (y_move rfl) rfl ?_
  refine L_op rfl (op_call rfl rfl (fun a w => Try.call59 a w) rfl ?_)
  refine ((present_tt h hp hq).sub (hsub_pick [0, 0] rfl)).mono ?_
  rintro _ _ ⟨g1, hg1, rfl, rfl⟩
  cases g1 with
  | none => exact slOk_none hg1 (by decide)
  | some g1 => ?_
  refine ⟨_, rfl, ?_⟩
  refine L_y rfl (y_assign rfl) rfl ?_
  refine L_nil ?_
  refine C_seq ?_
  refine C_seq ?_
  refine C_region ?_
  refine L_y rfl (y_move rfl) rfl ?_
  refine L_y rfl (y_lenS rfl rfl Try.underlying118) rfl ?_
  refine L_y rfl (y_eqi rfl rfl) rfl ?_
  refine L_nil ?_
  refine C_cond_f rfl ?_
  refine C_skip ?_
  refine C_seq ?_
  refine C_region ?_
  refine L_y rfl (y_assign rfl) rfl ?_
  refine L_nil ?_
  refine C_seq ?_
  refine C_seq ?_
  refine C_region ?_
  refine L_y rfl (y_move rfl) rfl ?_
  refine L_y rfl (y_lenS rfl rfl Try.underlying118) rfl ?_
  refine L_y rfl (y_move rfl) rfl ?_
  refine L_nil ?_
  refine C_block ?_
  refine C_loopIn (In_round ?_)
  refine C_seq ?_
  refine C_region ?_
  refine L_y rfl (y_lss rfl rfl) rfl ?_
  refine L_nil ?_
  refine C_seq ?_
  refine C_cond_t rfl ?_
  refine C_skip ?_
  refine C_seq ?_
  refine C_block ?_
  refine C_seq ?_
  refine C_region ?_
  refine L_y rfl (y_indexS rfl rfl Try.underlying118 sz_3 (by omega) (by omega) (show _ = 0 from rfl)) rfl ?_
  refine L_y rfl (y_load rfl ag_3 (sees 0 0 rfl) rfl) rfl ?_
  refine L_y rfl (y_assign rfl) rfl ?_
  refine L_nil ?_
  refine C_seq ?_
  refine C_region ?_
  refine L_y rfl (y_move rfl) rfl ?_
  refine L_y rfl (y_move rfl) rfl ?_
  refine L_y rfl (y_move rfl) rfl ?_
  refine L_y rfl (y_nilCheck rfl) rfl ?_
  refine L_y rfl (y_fieldAddr rfl fl_110_0) rfl ?_
  refine L_y rfl (y_indexA rfl rfl Try.underlying108 sz_107 (by omega) (by omega) (show _ = 0 from rfl)) rfl ?_
  refine L_op rfl (op_call rfl rfl (fun a w => Try.call57 a w) rfl ?_)
  refine (FnS.sub (hsub_pick [1, 1] rfl) (sflush_f h)).mono ?_
  rintro _ _ ⟨rfl, D2, h2, rfl⟩
  refine ⟨_, rfl, ?_⟩
  refine L_y rfl (y_nei rfl rfl) rfl ?_
  refine L_nil ?_
  refine C_cond rfl (fun hc2 => ?_) (fun hc2 => ?_)
  · skip
    refine C_region ?_
    refine L_y rfl (y_assign rfl) rfl ?_
    refine L_nil ?_
    refine C_region ?_
    refine L_y rfl (y_add rfl rfl (show _ = (1 : Int) from rfl)) rfl ?_
    refine L_y rfl (y_move rfl) rfl ?_
    refine L_nil ?_
    refine In_round ?_
    refine C_seq ?_
    refine C_region ?_
    refine L_y rfl (y_lss rfl rfl) rfl ?_
    refine L_nil ?_
    refine C_seq ?_
    refine C_cond_t rfl ?_
    refine C_skip ?_
    refine C_seq ?_
    refine C_block ?_
    refine C_seq ?_
    refine C_region ?_
    refine L_y rfl (y_indexS rfl rfl Try.underlying118 sz_3 (by omega) (by omega) (show _ = 1 from rfl)) rfl ?_
    refine L_y rfl (y_load rfl ag_3 (sees 2 0 rfl) rfl) rfl ?_
    refine L_y rfl (y_assign rfl) rfl ?_
    refine L_nil ?_
    refine C_seq ?_
    refine C_region ?_
    refine L_y rfl (y_move rfl) rfl ?_
    refine L_y rfl (y_move rfl) rfl ?_
    refine L_y rfl (y_move rfl) rfl ?_
    refine L_y rfl (y_nilCheck rfl) rfl ?_
    refine L_y rfl (y_fieldAddr rfl fl_110_0) rfl ?_
    refine L_y rfl (y_indexA rfl rfl Try.underlying108 sz_107 (by omega) (by omega) (show _ = 2 from rfl)) rfl ?_
    refine L_op rfl (op_call rfl rfl (fun a w => Try.call57 a w) rfl ?_)
    refine (FnS.sub (hsub_pick [0, 0] rfl) (sflush_t h2)).mono ?_
    rintro _ _ ⟨rfl, D3, h3, rfl⟩
    refine ⟨_, rfl, ?_⟩
    refine L_y rfl (y_nei rfl rfl) rfl ?_
    refine L_nil ?_
    refine C_cond rfl (fun hc2 => ?_) (fun hc2 => ?_)
    · skip
      refine C_region ?_
      refine L_y rfl (y_assign rfl) rfl ?_
      refine L_nil ?_
      refine C_region ?_
      refine L_y rfl (y_add rfl rfl (show _ = (2 : Int) from rfl)) rfl ?_
      refine L_y rfl (y_move rfl) rfl ?_
      refine L_nil ?_
      refine In_round ?_
      refine C_seq ?_
      refine C_region ?_
      refine L_y rfl (y_lss rfl rfl) rfl ?_
      refine L_nil ?_
      refine C_seq ?_
      refine C_cond_f rfl ?_
      refine C_exit ?_
      refine C_seq ?_
      refine C_region ?_
      refine L_y rfl (y_move rfl) rfl ?_
      refine L_y rfl (y_assign rfl) rfl ?_
      refine L_nil ?_
      refine C_ret ?_
      refine B_ret (rv_tmp rfl rv_nil) ((hsub (.cons_cons _ (.cons_cons _ (.cons _ (.refl _))))).trans (hsub_pick [0, 0] rfl)) ?_
      exact ⟨ret_int (by simp_all [mfl, fl1]), D3, h3.to (by simp_all [mfl, fl1]), rfl⟩
    · skip
      refine C_skip ?_
      refine C_region ?_
      refine L_y rfl (y_add rfl rfl (show _ = (2 : Int) from rfl)) rfl ?_
      refine L_y rfl (y_move rfl) rfl ?_
      refine L_nil ?_
      refine In_round ?_
      refine C_seq ?_
      refine C_region ?_
      refine L_y rfl (y_lss rfl rfl) rfl ?_
      refine L_nil ?_
      refine C_seq ?_
      refine C_cond_f rfl ?_
      refine C_exit ?_
      refine C_seq ?_
      refine C_region ?_
      refine L_y rfl (y_move rfl) rfl ?_
      refine L_y rfl (y_assign rfl) rfl ?_
      refine L_nil ?_
      refine C_ret ?_
      refine B_ret (rv_tmp rfl rv_nil) ((hsub (.cons_cons _ (.cons_cons _ (.cons _ (.refl _))))).trans (hsub_pick [0, 0] rfl)) ?_
      exact ⟨ret_int (by simp_all [mfl, fl1]), D3, h3.to (by simp_all [mfl, fl1]), rfl⟩
  · skip
    refine C_skip ?_
    refine C_region ?_
    refine L_y rfl (y_add rfl rfl (show _ = (1 : Int) from rfl)) rfl ?_
    refine L_y rfl (y_move rfl) rfl ?_
    refine L_nil ?_
    refine In_round ?_
    refine C_seq ?_
    refine C_region ?_
    refine L_y rfl (y_lss rfl rfl) rfl ?_
    refine L_nil ?_
    refine C_seq ?_
    refine C_cond_t rfl ?_
    refine C_skip ?_
    refine C_seq ?_
    refine C_block ?_
    refine C_seq ?_
    refine C_region ?_
    refine L_y rfl (y_indexS rfl rfl Try.underlying118 sz_3 (by omega) (by omega) (show _ = 1 from rfl)) rfl ?_
    refine L_y rfl (y_load rfl ag_3 (sees 2 0 rfl) rfl) rfl ?_
    refine L_y rfl (y_assign rfl) rfl ?_
    refine L_nil ?_
    refine C_seq ?_
    refine C_region ?_
    refine L_y rfl (y_move rfl) rfl ?_
    refine L_y rfl (y_move rfl) rfl ?_
    refine L_y rfl (y_move rfl) rfl ?_
    refine L_y rfl (y_nilCheck rfl) rfl ?_
    refine L_y rfl (y_fieldAddr rfl fl_110_0) rfl ?_
    refine L_y rfl (y_indexA rfl rfl Try.underlying108 sz_107 (by omega) (by omega) (show _ = 2 from rfl)) rfl ?_
    refine L_op rfl (op_call rfl rfl (fun a w => Try.call57 a w) rfl ?_)
    refine (FnS.sub (hsub_pick [0, 0] rfl) (sflush_t h2)).mono ?_
    rintro _ _ ⟨rfl, D4, h4, rfl⟩
    refine ⟨_, rfl, ?_⟩
    refine L_y rfl (y_nei rfl rfl) rfl ?_
    refine L_nil ?_
    refine C_cond rfl (fun hc2 => ?_) (fun hc2 => ?_)
    · skip
      refine C_region ?_
      refine L_y rfl (y_assign rfl) rfl ?_
      refine L_nil ?_
      refine C_region ?_
      refine L_y rfl (y_add rfl rfl (show _ = (2 : Int) from rfl)) rfl ?_
      refine L_y rfl (y_move rfl) rfl ?_
      refine L_nil ?_
      refine In_round ?_
      refine C_seq ?_
      refine C_region ?_
      refine L_y rfl (y_lss rfl rfl) rfl ?_
      refine L_nil ?_
      refine C_seq ?_
      refine C_cond_f rfl ?_
      refine C_exit ?_
      refine C_seq ?_
      refine C_region ?_
      refine L_y rfl (y_move rfl) rfl ?_
      refine L_y rfl (y_assign rfl) rfl ?_
      refine L_nil ?_
      refine C_ret ?_
      refine B_ret (rv_tmp rfl rv_nil) ((hsub (.cons_cons _ (.cons_cons _ (.cons _ (.refl _))))).trans (hsub_pick [0, 0] rfl)) ?_
      exact ⟨ret_int (by simp_all [mfl, fl1]), D4, h4.to (by simp_all [mfl, fl1]), rfl⟩
    · skip
      refine C_skip ?_
      refine C_region ?_
      refine L_y rfl (y_add rfl rfl (show _ = (2 : Int) from rfl)) rfl ?_
      refine L_y rfl (y_move rfl) rfl ?_
      refine L_nil ?_
      refine In_round ?_
      refine C_seq ?_
      refine C_region ?_
      refine L_y rfl (y_lss rfl rfl) rfl ?_
      refine L_nil ?_
      refine C_seq ?_
      refine C_cond_f rfl ?_
      refine C_exit ?_
      refine C_seq ?_
      refine C_region ?_
      refine L_y rfl (y_move rfl) rfl ?_
      refine L_y rfl (y_assign rfl) rfl ?_
      refine L_nil ?_
      refine C_ret ?_
      refine B_ret (rv_tmp rfl rv_nil) ((hsub (.cons_cons _ (.cons_cons _ (.cons _ (.refl _))))).trans (hsub_pick [0, 0] rfl)) ?_
      exact ⟨ret_int (by simp_all [mfl, fl1]), D4, h4.to (by simp_all [mfl, fl1]), rfl⟩

theorem all_tf {w0 : World} {H : Hp} {D : Duo} {A : Da} {bp : Nat} {m : Mi} (h : Two dt D A m.bx m.bys bp) (hp : thr A false = true) (hq : thr A true = false) : FnS Try.prog w0 56 #[ptr m.b, .func (.func 57) #[] #[]] (m.seg 110 :: D.seg dt :: H) (fun e H' => e = .returned (.int .i64 (mfl A).2) ∧ ∃ D', Two dt D' (mfl A).1 m.bx m.bys bp ∧ H' = m.seg 110 :: D'.seg dt :: H) := by
  refine FnS_intro (n := 30) (rs := [.tmp 4]) (vs := [ptr m.b, .func (.func 57) #[] #[]]) Try.func56 rfl Try.ntmps56 rfl rfl ?_
  refine C_seq ?_
  refine C_region ?_
  refine L_y rfl (y_assign rfl) rfl ?_
  refine L_nil ?_
  refine C_seq ?_
  refine C_region ?_
  refine L_y rfl (y_move rfl) rfl ?_
  refine L_op rfl (op_call rfl rfl (fun a w => Try.call59 a w) rfl ?_)
  refine ((present_tf h hp hq).sub (hsub_pick [0, 0] rfl)).mono ?_
  rintro _ _ ⟨g1, hg1, rfl, rfl⟩
  cases g1 with
  | none => exact slOk_none hg1 (by decide)
  | some g1 => ?_
  refine ⟨_, rfl, ?_⟩
  refine L_y rfl (y_assign rfl) rfl ?_
  refine L_nil ?_
  refine C_seq ?_
  refine C_seq ?_
  refine C_region ?_
  refine L_y rfl (y_move rfl) rfl ?_
  refine L_y rfl (y_lenS rfl rfl Try.underlying118) rfl ?_
  refine L_y rfl (y_eqi rfl rfl) rfl ?_
  refine L_nil ?_
  refine C_cond_f rfl ?_
  refine C_skip ?_
  refine C_seq ?_
  refine C_region ?_
  refine L_y rfl (y_assign rfl) rfl ?_
  refine L_nil ?_
  refine C_seq ?_
  refine C_seq ?_
  refine C_region ?_
  refine L_y rfl (y_move rfl) rfl ?_
  refine L_y rfl (y_lenS rfl rfl Try.underlying118) rfl ?_
  refine L_y rfl (y_move rfl) rfl ?_
  refine L_nil ?_
  refine C_block ?_
  refine C_loopIn (In_round ?_)
  refine C_seq ?_
  refine C_region ?_
  refine L_y rfl (y_lss rfl rfl) rfl ?_
  refine L_nil ?_
  refine C_seq ?_
  refine C_cond_t rfl ?_
  refine C_skip ?_
  refine C_seq ?_
  refine C_block ?_
  refine C_seq ?_
  refine C_region ?_
  refine L_y rfl (y_indexS rfl rfl Try.underlying118 sz_3 (by omega) (by omega) (show _ = 0 from rfl)) rfl ?_
  refine L_y rfl (y_load rfl ag_3 (sees 0 0 rfl) rfl) rfl ?_
  refine L_y rfl (y_assign rfl) rfl ?_
  refine L_nil ?_
  refine C_seq ?_
  refine C_region ?_
  refine L_y rfl (y_move rfl) rfl ?_
  refine L_y rfl (y_move rfl) rfl ?_
  refine L_y rfl (y_move rfl) rfl ?_
  refine L_y rfl (y_nilCheck rfl) rfl ?_
  refine L_y rfl (y_fieldAddr rfl fl_110_0) rfl ?_
  refine L_y rfl (y_indexA rfl rfl Try.underlying108 sz_107 (by omega) (by omega) (show _ = 0 from rfl)) rfl ?_
  refine L_op rfl (op_call rfl rfl (fun a w => Try.call57 a w) rfl ?_)
  refine (FnS.sub (hsub_pick [1, 1] rfl) (sflush_f h)).mono ?_
  rintro _ _ ⟨rfl, D2, h2, rfl⟩
  refine ⟨_, rfl, ?_⟩
  refine L_y rfl (y_nei rfl rfl) rfl ?_
  refine L_nil ?_
  refine C_cond rfl (fun hc2 => ?_) (fun hc2 => ?_)
  · skip
    refine C_region ?_
    refine L_y rfl (y_assign rfl) rfl ?_
    refine L_nil ?_
    refine C_region ?_
    refine L_y rfl (y_add rfl rfl (show _ = (1 : Int) from rfl)) rfl ?_
    refine L_y rfl (y_move rfl) rfl ?_
    refine L_nil ?_
    refine In_round ?_
    refine C_seq ?_
    refine C_region ?_
    refine L_y rfl (y_lss rfl rfl) rfl ?_
    refine L_nil ?_
    refine C_seq ?_
    refine C_cond_f rfl ?_
    refine C_exit ?_
    refine C_seq ?_
    refine C_region ?_
    refine L_y rfl (y_move rfl) rfl ?_
    refine L_y rfl (y_assign rfl) rfl ?_
    refine L_nil ?_
    refine C_ret ?_
    refine B_ret (rv_tmp rfl rv_nil) ((hsub (.cons_cons _ (.cons_cons _ (.cons _ (.refl _))))).trans (hsub_pick [0, 0] rfl)) ?_
    exact ⟨ret_int (by simp_all [mfl, fl1]), D2, h2.to (by simp_all [mfl, fl1]), rfl⟩
  · skip
    refine C_skip ?_
    refine C_region ?_
    refine L_y rfl (y_add rfl rfl (show _ = (1 : Int) from rfl)) rfl ?_
    refine L_y rfl (y_move rfl) rfl ?_
    refine L_nil ?_
    refine In_round ?_
    refine C_seq ?_
    refine C_region ?_
    refine L_y rfl (y_lss rfl rfl) rfl ?_
    refine L_nil ?_
    refine C_seq ?_
    refine C_cond_f rfl ?_
    refine C_exit ?_
    refine C_seq ?_
    refine C_region ?_
    refine L_y rfl (y_move rfl) rfl ?_
    refine L_y rfl (y_assign rfl) rfl ?_
    refine L_nil ?_
    refine C_ret ?_
    refine B_ret (rv_tmp rfl rv_nil) ((hsub (.cons_cons _ (.cons_cons _ (.cons _ (.refl _))))).trans (hsub_pick [0, 0] rfl)) ?_
    exact ⟨ret_int (by simp_all [mfl, fl1]), D2, h2.to (by simp_all [mfl, fl1]), rfl⟩

theorem all_ft {w0 : World} {H : Hp} {D : Duo} {A : Da} {bp : Nat} {m : Mi} (h : Two dt D A m.bx m.bys bp) (hp : thr A false = false) (hq : thr A true = true) : FnS Try.prog w0 56 #[ptr m.b, .func (.func 57) #[] #[]] (m.seg 110 :: D.seg dt :: H) (fun e H' => e = .returned (.int .i64 (mfl A).2) ∧ ∃ D', Two dt D' (mfl A).1 m.bx m.bys bp ∧ H' = m.seg 110 :: D'.seg dt :: H) := by
  refine FnS_intro (n := 30) (rs := [.tmp 4]) (vs := [ptr m.b, .func (.func 57) #[] #[]]) Try.func56 rfl Try.ntmps56 rfl rfl ?_
  refine C_seq ?_
  refine C_region ?_
  refine L_y rfl (y_assign rfl) rfl ?_
  refine L_nil ?_
  refine C_seq ?_
  refine C_region ?_
  refine L_y rfl (y_move rfl) rfl ?_
  refine L_op rfl (op_call rfl rfl (fun a w => Try.call59 a w) rfl ?_)
  refine ((present_ft h hp hq).sub (hsub_pick [0, 0] rfl)).mono ?_
  rintro _ _ ⟨g1, hg1, rfl, rfl⟩
  cases g1 with
  | none => exact slOk_none hg1 (by decide)
  | some g1 => ?_
  refine ⟨_, rfl, ?_⟩
  refine L_y rfl (y_assign rfl) rfl ?_
  refine L_nil ?_
  refine C_seq ?_
  refine C_seq ?_
  refine C_region ?_
  refine L_y rfl (y_move rfl) rfl ?_
  refine L_y rfl (y_lenS rfl rfl Try.underlying118) rfl ?_
  refine L_y rfl (y_eqi rfl rfl) rfl ?_
  refine L_nil ?_
  refine C_cond_f rfl ?_
  refine C_skip ?_
  refine C_seq ?_
  refine C_region ?_
  refine L_y rfl (y_assign rfl) rfl ?_
  refine L_nil ?_
  refine C_seq ?_
  refine C_seq ?_
  refine C_region ?_
  refine L_y rfl (y_move rfl) rfl ?_
  refine L_y rfl (y_lenS rfl rfl Try.underlying118) rfl ?_
  refine L_y rfl (y_move rfl) rfl ?_
  refine L_nil ?_
  refine C_block ?_
  refine C_loopIn (In_round ?_)
  refine C_seq ?_
  refine C_region ?_
  refine L_y rfl (y_lss rfl rfl) rfl ?_
  refine L_nil ?_
  refine C_seq ?_
  refine C_cond_t rfl ?_
  refine C_skip ?_
  refine C_seq ?_
  refine C_block ?_
  refine C_seq ?_
  refine C_region ?_
  refine L_y rfl (y_indexS rfl rfl Try.underlying118 sz_3 (by omega) (by omega) (show _ = 0 from rfl)) rfl ?_
  refine L_y rfl (y_load rfl ag_3 (sees 0 0 rfl) rfl) rfl ?_
  refine L_y rfl (y_assign rfl) rfl ?_
  refine L_nil ?_
  refine C_seq ?_
  refine C_region ?_
  refine L_y rfl (y_move rfl) rfl ?_
  refine L_y rfl (y_move rfl) rfl ?_
  refine L_y rfl (y_move rfl) rfl ?_
  refine L_y rfl (y_nilCheck rfl) rfl ?_
  refine L_y rfl (y_fieldAddr rfl fl_110_0) rfl ?_
  refine L_y rfl (y_indexA rfl rfl Try.underlying108 sz_107 (by omega) (by omega) (show _ = 2 from rfl)) rfl ?_
  refine L_op rfl (op_call rfl rfl (fun a w => Try.call57 a w) rfl ?_)
  refine (FnS.sub (hsub_pick [1, 1] rfl) (sflush_t h)).mono ?_
  rintro _ _ ⟨rfl, D2, h2, rfl⟩
  refine ⟨_, rfl, ?_⟩
  refine L_y rfl (y_nei rfl rfl) rfl ?_
  refine L_nil ?_
  refine C_cond rfl (fun hc2 => ?_) (fun hc2 => ?_)
  · skip
    refine C_region ?_
    refine L_y rfl (y_assign rfl) rfl ?_
    refine L_nil ?_
    refine C_region ?_
    refine L_y rfl (y_add rfl rfl (show _ = (1 : Int) from rfl)) rfl ?_
    refine L_y rfl (y_move rfl) rfl ?_
    refine L_nil ?_
    refine In_round ?_
    refine C_seq ?_
    refine C_region ?_
    refine L_y rfl (y_lss rfl rfl) rfl ?_
    refine L_nil ?_
    refine C_seq ?_
    refine C_cond_f rfl ?_
    refine C_exit ?_
    refine C_seq ?_
    refine C_region ?_
    refine L_y rfl (y_move rfl) rfl ?_
    refine L_y rfl (y_assign rfl) rfl ?_
    refine L_nil ?_
    refine C_ret ?_
    refine B_ret (rv_tmp rfl rv_nil) ((hsub (.cons_cons _ (.cons_cons _ (.cons _ (.refl _))))).trans (hsub_pick [0, 0] rfl)) ?_
    exact ⟨ret_int (by simp_all [mfl, fl1]), D2, h2.to (by simp_all [mfl, fl1]), rfl⟩
  · skip
    refine C_skip ?_
    refine C_region ?_
    refine L_y rfl (y_add rfl rfl (show _ = (1 : Int) from rfl)) rfl ?_
    refine L_y rfl (y_move rfl) rfl ?_
    refine L_nil ?_
    refine In_round ?_
    refine C_seq ?_
    refine C_region ?_
    refine L_y rfl (y_lss rfl rfl) rfl ?_
    refine L_nil ?_
    refine C_seq ?_
    refine C_cond_f rfl ?_
    refine C_exit ?_
    refine C_seq ?_
    refine C_region ?_
    refine L_y rfl (y_move rfl) rfl ?_
    refine L_y rfl (y_assign rfl) rfl ?_
    refine L_nil ?_
    refine C_ret ?_
    refine B_ret (rv_tmp rfl rv_nil) ((hsub (.cons_cons _ (.cons_cons _ (.cons _ (.refl _))))).trans (hsub_pick [0, 0] rfl)) ?_
    exact ⟨ret_int (by simp_all [mfl, fl1]), D2, h2.to (by simp_all [mfl, fl1]), rfl⟩

theorem all_ff {w0 : World} {H : Hp} {D : Duo} {A : Da} {bp : Nat} {m : Mi} (h : Two dt D A m.bx m.bys bp) (hp : thr A false = false) (hq : thr A true = false) : FnS Try.prog w0 56 #[ptr m.b, .func (.func 57) #[] #[]] (m.seg 110 :: D.seg dt :: H) (fun e H' => e = .returned (.int .i64 (mfl A).2) ∧ ∃ D', Two dt D' (mfl A).1 m.bx m.bys bp ∧ H' = m.seg 110 :: D'.seg dt :: H) := by
  refine FnS_intro (n := 30) (rs := [.tmp 4]) (vs := [ptr m.b, .func (.func 57) #[] #[]]) Try.func56 rfl Try.ntmps56 rfl rfl ?_
  refine C_seq ?_
  refine C_region ?_
  refine L_y rfl (y_assign rfl) rfl ?_
  refine L_nil ?_
  refine C_seq ?_
  refine C_region ?_
  refine L_y rfl (y_move rfl) rfl ?_
  refine L_op rfl (op_call rfl rfl (fun a w => Try.call59 a w) rfl ?_)
  refine ((present_ff h hp hq).sub (hsub_pick [0, 0] rfl)).mono ?_
  rintro _ _ ⟨rfl, rfl⟩
  refine ⟨_, rfl, ?_⟩
  refine L_y rfl (y_assign rfl) rfl ?_
  refine L_nil ?_
  refine C_seq ?_
  refine C_seq ?_
  refine C_region ?_
  refine L_y rfl (y_move rfl) rfl ?_
  refine L_y rfl (y_lenS rfl rfl Try.underlying118) rfl ?_
  refine L_y rfl (y_eqi rfl rfl) rfl ?_
  refine L_nil ?_
  refine C_cond_t rfl ?_
  refine C_seq ?_
  refine C_region ?_
  refine L_y rfl (y_assign rfl) rfl ?_
  refine L_nil ?_
  refine C_ret ?_
  refine B_ret (rv_tmp rfl rv_nil) ((hsub (.cons_cons _ (.cons_cons _ (.refl _)))).trans (hsub_pick [0, 0] rfl)) ?_
  exact ⟨ret_int (by simp_all [mfl, fl1]), D, h.to (by simp_all [mfl, fl1]), rfl⟩

theorem all_m {w0 : World} {H : Hp} {D : Duo} {A : Da} {bp : Nat} {m : Mi} (h : Two dt D A m.bx m.bys bp) : FnS Try.prog w0 56 #[ptr m.b, .func (.func 57) #[] #[]] (m.seg 110 :: D.seg dt :: H) (fun e H' => e = .returned (.int .i64 (mfl A).2) ∧ ∃ D', Two dt D' (mfl A).1 m.bx m.bys bp ∧ H' = m.seg 110 :: D'.seg dt :: H) := by
  cases hp : thr A false <;> cases hq : thr A true
  · exact all_ff h hp hq
  · exact all_ft h hp hq
  · exact all_tf h hp hq
  · exact all_tt h hp hq

theorem mflush_m {w0 : World} {H : Hp} {D : Duo} {A : Da} {bp : Nat} {m : Mi} (h : Two dt D A m.bx m.bys bp) : FnS Try.prog w0 21 #[ptr m.b] (m.seg 110 :: D.seg dt :: H) (fun e H' => e = .returned (.int .i64 (mfl A).2) ∧ ∃ D', Two dt D' (mfl A).1 m.bx m.bys bp ∧ H' = m.seg 110 :: D'.seg dt :: H) := by
  refine FnS_intro (n := 7) (rs := [.tmp 2]) (vs := [ptr m.b]) Try.func21 rfl Try.ntmps21 rfl rfl ?_
  refine C_seq ?_
  refine C_region ?_
  refine L_y rfl (y_assign rfl) rfl ?_
  refine L_nil ?_
  refine C_seq ?_
  refine C_seq ?_
  refine C_region ?_
  refine L_y rfl (y_move rfl) rfl ?_
  refine L_y rfl (y_eqp rfl rfl Try.underlying26) rfl ?_
  refine L_nil ?_
  refine C_cond_f rfl ?_
  refine C_skip ?_
  refine C_seq ?_
  refine C_region ?_
  refine L_y rfl (y_move rfl) rfl ?_
  refine L_op rfl (op_call rfl rfl (fun a w => Try.call56 a w) rfl ?_)
  refine (all_m h).mono ?_
  rintro _ _ ⟨rfl, D1, h1, rfl⟩
  refine ⟨_, rfl, ?_⟩
  refine L_y rfl (y_assign rfl) rfl ?_
  refine L_nil ?_
  refine C_ret ?_
  refine B_ret (rv_tmp rfl rv_nil) (HSub.refl _) ?_
  exact ⟨rfl, D1, h1, rfl⟩

end Go.Proofs.Ytjjiclgbdenkkaa

/- walks (own work; the walks' lines by a program of this repo). -/
set_option linter.unusedVariables false
set_option linter.unusedSimpArgs false
set_option maxRecDepth 20000
namespace Go.Proofs.Ytjjiclgbdenkkaa
open Go.Sl
attribute [local irreducible] BodyQ WpC WpL WpS WpH OpW FnS


theorem write_v {w0 : World} {H : Hp} {gv : Value} {D : Duo} {A : Da} {m : Mi} {K : Nat} {X Y : List Sec} {k0 k1 mb bx bys bp : Nat} (h : Ms dt gv D A m K X Y k0 k1 mb bx bys bp) {n : Nat} {s : Sec} (hn : n < K) (hs : s.length = 128) (h0 : k0 < 99990) (h1 : k1 < 99990) : FnS Try.prog w0 19 #[ptr mb, .int .i64 (n : Int), .agg (bs s).toArray] (m.seg 110 :: D.seg dt :: H) (fun e H' => e = .returned (.int .i64 0) ∧ ∃ D' A', Ms dt gv D' A' m K (X.set n s) (Y.set n s) (k0 + 1) (k1 + 1) mb bx bys bp ∧ H' = m.seg 110 :: D'.seg dt :: H) := by
  have hT : Two dt D A m.bx m.bys bp := by rw [h.bx, h.bys]; exact h.two
  obtain ⟨e0, e1, v⟩ := h.vw.put (m := m) h.n h.s0 h.s1 hn hs (askok_all K n s)
  have hq : ∀ i, (A.dev i).Q.length < 99990 := fun i => by cases i; exact Nat.lt_of_le_of_lt (h.vw.dev false).many h0; exact Nat.lt_of_le_of_lt (h.vw.dev true).many h1
  have := mwrite_m (w0 := w0) (H := H) hT (n : Int) s hs hq
  rw [e0, e1, h.mb, h.bx, h.bys] at this
  refine this.mono ?_
  rintro _ _ ⟨rfl, D', hT', rfl⟩
  exact ⟨rfl, D', _, h.with hT' v (set_ok2 h.okX hs) (set_ok2 h.okY hs), rfl⟩

theorem flush_v {w0 : World} {H : Hp} {gv : Value} {D : Duo} {A : Da} {m : Mi} {K : Nat} {X Y : List Sec} {k0 k1 mb bx bys bp : Nat} (h : Ms dt gv D A m K X Y k0 k1 mb bx bys bp) : FnS Try.prog w0 21 #[ptr mb] (m.seg 110 :: D.seg dt :: H) (fun e H' => e = .returned (.int .i64 0) ∧ ∃ D' A', Ms dt gv D' A' m K X Y 0 0 mb bx bys bp ∧ H' = m.seg 110 :: D'.seg dt :: H) := by
  have hT : Two dt D A m.bx m.bys bp := by rw [h.bx, h.bys]; exact h.two
  obtain ⟨e0, v⟩ := h.vw.mfl
  have := mflush_m (w0 := w0) (H := H) hT
  rw [e0, h.mb, h.bx, h.bys] at this
  refine this.mono ?_
  rintro _ _ ⟨rfl, D', hT', rfl⟩
  exact ⟨rfl, D', _, h.with hT' v h.okX h.okY, rfl⟩

end Go.Proofs.Ytjjiclgbdenkkaa

/- walks (own work; the walks' lines by a program of this repo). -/
set_option linter.unusedVariables false
set_option linter.unusedSimpArgs false
set_option maxRecDepth 20000
namespace Go.Proofs.Ytjjiclgbdenkkaa
open Go.Sl
attribute [local irreducible] BodyQ WpC WpL WpS WpH OpW FnS



set_option maxHeartbeats 4000000 in

theorem new_fn_tt {w0 : World} {H : Hp} {f : Nat} {cap : List Value} {D : Duo} {A : Da} {bx bys bp : Nat} (h : Two dt D A bx bys bp) (hp : thr A false = true) (hq : thr A true = true) : FnS Try.prog w0 17 #[ptr bx, ptr bys, .func (.func f) #[] cap.toArray] (D.seg dt :: H) (fun e H' => ∃ b r0 r1, e = .returned (ptr b) ∧ H' = (mnew A bx bys (.func (.func f) #[] cap.toArray) b r0 r1).seg 110 :: D.seg dt :: H) := by
  have hlen : A.a.S.length ≤ 4096 := (h.oks false).2.1
  refine FnS_intro (n := 64) (rs := [.tmp 6]) (vs := [ptr bx, ptr bys, .func (.func f) #[] cap.toArray]) Try.func17 rfl Try.ntmps17 rfl rfl ?_
  refine C_seq ?_
  refine C_region ?_
  refine L_y rfl (y_assign rfl) rfl ?_
  refine L_nil ?_
  refine C_seq ?_
  refine C_region ?_
  refine L_y rfl (y_move rfl) rfl ?_
  refine L_op rfl (op_call rfl rfl (fun a w => Try.call52 a w) rfl ?_)
  refine ((len_d h false).sub (hsub_pick [0] rfl)).mono ?_
  rintro _ _ ⟨rfl, rfl⟩
  refine ⟨_, rfl, ?_⟩
  refine L_y rfl (y_move rfl) rfl ?_
  refine L_op rfl (op_call rfl rfl (fun a w => Try.call52 a w) rfl ?_)
  refine ((len_d h true).sub (hsub_pick [0] rfl)).mono ?_
  rintro _ _ ⟨rfl, rfl⟩
  refine ⟨_, rfl, ?_⟩
  refine L_y rfl (y_minN rfl rfl) rfl ?_
  refine L_y rfl (y_move rfl) rfl ?_
  refine L_y rfl (y_build (vs := [(1, _), (2, _)]) (l := [.pointer none, .map none, .pointer none, .map none, .int .i64 (((min A.a.S.length A.b.S.length) : Nat) : Int), .func (.func f) #[] cap.toArray]) rfl pl_110 zl_110 (fill_cons (off := 4) (m := 1) (vs := [_]) rfl rfl rfl (Nat.le_of_ble_eq_true rfl) (fill_cons (off := 5) (m := 1) (vs := [_]) rfl rfl rfl (Nat.le_of_ble_eq_true rfl) rfl))) rfl ?_
  refine L_op rfl (op_box rfl rfl rfl (fun B1 => ?_))
  refine L_y rfl (y_assign rfl) rfl ?_
  refine L_nil ?_
  refine C_seq ?_
  refine C_seq ?_
  refine C_region ?_
  refine L_y rfl (y_move rfl) rfl ?_
  refine L_y rfl (y_move rfl) rfl ?_
  refine L_op rfl (op_buildSlice (vs := [(0, _), (1, _)]) rfl Try.underlying111 sz_24 zl_24 rfl (by decide) rfl rfl (fun B2 => ?_))
  refine L_y rfl (y_lenS rfl rfl Try.underlying111) rfl ?_
  refine L_y rfl (y_move rfl) rfl ?_
  refine L_nil ?_
  refine C_block ?_
  refine C_loopIn (In_round ?_)
  refine C_seq ?_
  refine C_region ?_
  refine L_y rfl (y_lss rfl rfl) rfl ?_
  refine L_nil ?_
  refine C_seq ?_
  refine C_cond_t rfl ?_
  refine C_skip ?_
  refine C_seq ?_
  refine C_block ?_
  refine C_seq ?_
  refine C_region ?_
  refine L_y rfl (y_move rfl) rfl ?_
  refine L_y rfl (y_indexS rfl rfl Try.underlying111 sz_24 (by omega) (by omega) (show _ = 0 from rfl)) rfl ?_
  refine L_y rfl (y_load rfl ag_24 (sees 0 0 rfl) rfl) rfl ?_
  refine L_y rfl (y_assign rfl) rfl ?_
  refine L_y rfl (y_assign rfl) rfl ?_
  refine L_nil ?_
  refine C_seq ?_
  refine C_region ?_
  refine L_y rfl (y_move rfl) rfl ?_
  refine L_y rfl (y_move rfl) rfl ?_
  refine L_y rfl (y_move rfl) rfl ?_
  refine L_op rfl (op_makeMap rfl (fun B3 => ?_))
  refine L_y rfl (y_build (vs := [(0, _), (1, _)]) (l := [ptr bx, .map (some B3)]) rfl pl_107 zl_107 (fill_cons (off := 0) (m := 1) (vs := [_]) rfl rfl rfl (Nat.le_of_ble_eq_true rfl) (fill_cons (off := 1) (m := 1) (vs := [_]) rfl rfl rfl (Nat.le_of_ble_eq_true rfl) rfl))) rfl ?_
  refine L_y rfl (y_nilCheck rfl) rfl ?_
  refine L_y rfl (y_fieldAddr rfl fl_110_0) rfl ?_
  refine L_y rfl (y_indexA rfl rfl Try.underlying108 sz_107 (by omega) (by omega) (show _ = 0 from rfl)) rfl ?_
  refine L_op rfl (op_store (vs := [ptr bx, .map (some B3)]) 2 0 rfl rfl rfl sz_107 rfl rfl (ones rfl) (Nat.le_of_ble_eq_true rfl) ?_)
  rw [show spl [.pointer none, .map none, .pointer none, .map none, .int .i64 (((min A.a.S.length A.b.S.length) : Nat) : Int), .func (.func f) #[] cap.toArray] 0 [ptr bx, .map (some B3)] = [ptr bx, .map (some B3), .pointer none, .map none, .int .i64 (((min A.a.S.length A.b.S.length) : Nat) : Int), .func (.func f) #[] cap.toArray] from rfl]
  refine L_nil ?_
  refine C_seq ?_
  refine C_region ?_
  refine L_y rfl (y_assign rfl) rfl ?_
  refine L_nil ?_
  refine C_block ?_
  refine C_loopIn (In_round ?_)
  refine C_seq ?_
  refine C_seq ?_
  refine C_region ?_
  refine L_y rfl (y_move rfl) rfl ?_
  refine L_y rfl (y_move rfl) rfl ?_
  refine L_y rfl (y_nilCheck rfl) rfl ?_
  refine L_y rfl (y_fieldAddr rfl fl_110_1) rfl ?_
  refine L_y rfl (y_load rfl ag_3 (sees 2 0 rfl) rfl) rfl ?_
  refine L_y rfl (y_lss rfl rfl) rfl ?_
  refine L_y rfl (y_move rfl) rfl ?_
  refine L_case 42 rfl (fun hg7_7 => ?_) (fun hg7_7 => ?_)
  · have hj := of_decide_eq_true hg7_7
    refine L_y rfl (y_move rfl) rfl ?_
    refine L_y rfl (y_move rfl) rfl ?_
    refine L_y rfl (y_nilCheck rfl) rfl ?_
    refine L_y rfl (y_fieldAddr rfl fl_110_0) rfl ?_
    refine L_y rfl (y_indexA rfl rfl Try.underlying108 sz_107 (by omega) (by omega) (show _ = 0 from rfl)) rfl ?_
    refine L_y rfl (y_loadA rfl ag_107 sz_107 (sees 2 0 rfl) (Nat.le_of_ble_eq_true rfl) rfl) rfl ?_
    refine L_op rfl (op_call rfl rfl (fun a w => Try.call53 a w) rfl ?_)
    refine ((there_d h false).sub (hsub_pick [3] rfl)).mono ?_
    rintro _ _ ⟨rfl, rfl⟩
    rw [hp]
    refine ⟨_, rfl, ?_⟩
    refine L_y rfl (y_not rfl) rfl ?_
    refine L_y rfl (y_pick_t rfl rfl) rfl ?_
    refine L_nil ?_
    refine C_cond_f rfl ?_
    refine C_exit ?_
    refine C_region ?_
    refine L_y rfl (y_add rfl rfl (show _ = (1 : Int) from rfl)) rfl ?_
    refine L_y rfl (y_move rfl) rfl ?_
    refine L_nil ?_
    refine In_round ?_
    refine C_seq ?_
    refine C_region ?_
    refine L_y rfl (y_lss rfl rfl) rfl ?_
    refine L_nil ?_
    refine C_seq ?_
    refine C_cond_t rfl ?_
    refine C_skip ?_
    refine C_seq ?_
    refine C_block ?_
    refine C_seq ?_
    refine C_region ?_
    refine L_y rfl (y_move rfl) rfl ?_
    refine L_y rfl (y_indexS rfl rfl Try.underlying111 sz_24 (by omega) (by omega) (show _ = 1 from rfl)) rfl ?_
    refine L_y rfl (y_load rfl ag_24 (sees 2 0 rfl) rfl) rfl ?_
    refine L_y rfl (y_assign rfl) rfl ?_
    refine L_y rfl (y_assign rfl) rfl ?_
    refine L_nil ?_
    refine C_seq ?_
    refine C_region ?_
    refine L_y rfl (y_move rfl) rfl ?_
    refine L_y rfl (y_move rfl) rfl ?_
    refine L_y rfl (y_move rfl) rfl ?_
    refine L_op rfl (op_makeMap rfl (fun B4 => ?_))
    refine L_y rfl (y_build (vs := [(0, _), (1, _)]) (l := [ptr bys, .map (some B4)]) rfl pl_107 zl_107 (fill_cons (off := 0) (m := 1) (vs := [_]) rfl rfl rfl (Nat.le_of_ble_eq_true rfl) (fill_cons (off := 1) (m := 1) (vs := [_]) rfl rfl rfl (Nat.le_of_ble_eq_true rfl) rfl))) rfl ?_
    refine L_y rfl (y_nilCheck rfl) rfl ?_
    refine L_y rfl (y_fieldAddr rfl fl_110_0) rfl ?_
    refine L_y rfl (y_indexA rfl rfl Try.underlying108 sz_107 (by omega) (by omega) (show _ = 2 from rfl)) rfl ?_
    refine L_op rfl (op_store (vs := [ptr bys, .map (some B4)]) 4 0 rfl rfl rfl sz_107 rfl rfl (ones rfl) (Nat.le_of_ble_eq_true rfl) ?_)
    rw [show spl [ptr bx, .map (some B3), .pointer none, .map none, .int .i64 (((min A.a.S.length A.b.S.length) : Nat) : Int), .func (.func f) #[] cap.toArray] 2 [ptr bys, .map (some B4)] = [ptr bx, .map (some B3), ptr bys, .map (some B4), .int .i64 (((min A.a.S.length A.b.S.length) : Nat) : Int), .func (.func f) #[] cap.toArray] from rfl]
    refine L_nil ?_
    refine C_seq ?_
    refine C_region ?_
    refine L_y rfl (y_assign rfl) rfl ?_
    refine L_nil ?_
    refine C_block ?_
    refine C_loopIn (In_round ?_)
    refine C_seq ?_
    refine C_seq ?_
    refine C_region ?_
    refine L_y rfl (y_move rfl) rfl ?_
    refine L_y rfl (y_move rfl) rfl ?_
    refine L_y rfl (y_nilCheck rfl) rfl ?_
    refine L_y rfl (y_fieldAddr rfl fl_110_1) rfl ?_
    refine L_y rfl (y_load rfl ag_3 (sees 4 0 rfl) rfl) rfl ?_
    refine L_y rfl (y_lss rfl rfl) rfl ?_
    refine L_y rfl (y_move rfl) rfl ?_
    refine L_case 42 rfl (fun hg7_7 => ?_) (fun hg7_7 => ?_)
    · have hj := of_decide_eq_true hg7_7
      refine L_y rfl (y_move rfl) rfl ?_
      refine L_y rfl (y_move rfl) rfl ?_
      refine L_y rfl (y_nilCheck rfl) rfl ?_
      refine L_y rfl (y_fieldAddr rfl fl_110_0) rfl ?_
      refine L_y rfl (y_indexA rfl rfl Try.underlying108 sz_107 (by omega) (by omega) (show _ = 2 from rfl)) rfl ?_
      refine L_y rfl (y_loadA rfl ag_107 sz_107 (sees 4 0 rfl) (Nat.le_of_ble_eq_true rfl) rfl) rfl ?_
      refine L_op rfl (op_call rfl rfl (fun a w => Try.call53 a w) rfl ?_)
      refine ((there_d h true).sub (hsub_pick [1] rfl)).mono ?_
      rintro _ _ ⟨rfl, rfl⟩
      rw [hq]
      refine ⟨_, rfl, ?_⟩
      refine L_y rfl (y_not rfl) rfl ?_
      refine L_y rfl (y_pick_t rfl rfl) rfl ?_
      refine L_nil ?_
      refine C_cond_f rfl ?_
      refine C_exit ?_
      refine C_region ?_
      refine L_y rfl (y_add rfl rfl (show _ = (2 : Int) from rfl)) rfl ?_
      refine L_y rfl (y_move rfl) rfl ?_
      refine L_nil ?_
      refine In_round ?_
      refine C_seq ?_
      refine C_region ?_
      refine L_y rfl (y_lss rfl rfl) rfl ?_
      refine L_nil ?_
      refine C_seq ?_
      refine C_cond_f rfl ?_
      refine C_exit ?_
      refine C_seq ?_
      refine C_region ?_
      refine L_y rfl (y_move rfl) rfl ?_
      refine L_y rfl (y_assign rfl) rfl ?_
      refine L_nil ?_
      refine C_ret ?_
      refine B_ret (rv_tmp rfl rv_nil) ((hsub_flat (H := [_] :: [_] :: [_] :: D.seg dt :: H) (H' := Mi.seg 110 ⟨B1, B3, B4, bx, bys, (min A.a.S.length A.b.S.length), .func (.func f) #[] cap.toArray, stale0 true (min A.a.S.length A.b.S.length), (if true then 0 else (min A.a.S.length A.b.S.length)), stale0 true (min A.a.S.length A.b.S.length), (if true then 0 else (min A.a.S.length A.b.S.length))⟩ :: D.seg dt :: H) rfl).trans ((hsub (.cons_cons _ (.cons_cons _ (.cons_cons _ (.cons_cons _ (.cons _ (.refl _))))))).trans (hsub_pick [4, 2, 1, 0] rfl))) ?_
      exact ⟨B1, B3, B4, rfl, by simp only [mnew, stale0, hp, hq] <;> rfl⟩
    · have hj := of_decide_eq_false hg7_7
      refine L_skip rfl rfl ?_
      refine L_skip rfl rfl ?_
      refine L_skip rfl rfl ?_
      refine L_skip rfl rfl ?_
      refine L_skip rfl rfl ?_
      refine L_skip rfl rfl ?_
      refine L_skip rfl rfl ?_
      refine L_skip rfl rfl ?_
      refine L_y rfl (y_pick_f rfl rfl) rfl ?_
      refine L_nil ?_
      refine C_cond_f rfl ?_
      refine C_exit ?_
      refine C_region ?_
      refine L_y rfl (y_add rfl rfl (show _ = (2 : Int) from rfl)) rfl ?_
      refine L_y rfl (y_move rfl) rfl ?_
      refine L_nil ?_
      refine In_round ?_
      refine C_seq ?_
      refine C_region ?_
      refine L_y rfl (y_lss rfl rfl) rfl ?_
      refine L_nil ?_
      refine C_seq ?_
      refine C_cond_f rfl ?_
      refine C_exit ?_
      refine C_seq ?_
      refine C_region ?_
      refine L_y rfl (y_move rfl) rfl ?_
      refine L_y rfl (y_assign rfl) rfl ?_
      refine L_nil ?_
      refine C_ret ?_
      refine B_ret (rv_tmp rfl rv_nil) ((hsub_flat (H := [_] :: [_] :: [_] :: D.seg dt :: H) (H' := Mi.seg 110 ⟨B1, B3, B4, bx, bys, (min A.a.S.length A.b.S.length), .func (.func f) #[] cap.toArray, stale0 true (min A.a.S.length A.b.S.length), (if true then 0 else (min A.a.S.length A.b.S.length)), stale0 true (min A.a.S.length A.b.S.length), (if true then 0 else (min A.a.S.length A.b.S.length))⟩ :: D.seg dt :: H) rfl).trans ((hsub (.cons_cons _ (.cons_cons _ (.cons_cons _ (.cons_cons _ (.cons _ (.refl _))))))).trans (hsub_pick [4, 2, 0, 0] rfl))) ?_
      exact ⟨B1, B3, B4, rfl, by simp only [mnew, stale0, hp, hq] <;> rfl⟩
  · have hj := of_decide_eq_false hg7_7
    refine L_skip rfl rfl ?_
    refine L_skip rfl rfl ?_
    refine L_skip rfl rfl ?_
    refine L_skip rfl rfl ?_
    refine L_skip rfl rfl ?_
    refine L_skip rfl rfl ?_
    refine L_skip rfl rfl ?_
    refine L_skip rfl rfl ?_
    refine L_y rfl (y_pick_f rfl rfl) rfl ?_
    refine L_nil ?_
    refine C_cond_f rfl ?_
    refine C_exit ?_
    refine C_region ?_
    refine L_y rfl (y_add rfl rfl (show _ = (1 : Int) from rfl)) rfl ?_
    refine L_y rfl (y_move rfl) rfl ?_
    refine L_nil ?_
    refine In_round ?_
    refine C_seq ?_
    refine C_region ?_
    refine L_y rfl (y_lss rfl rfl) rfl ?_
    refine L_nil ?_
    refine C_seq ?_
    refine C_cond_t rfl ?_
    refine C_skip ?_
    refine C_seq ?_
    refine C_block ?_
    refine C_seq ?_
    refine C_region ?_
    refine L_y rfl (y_move rfl) rfl ?_
    refine L_y rfl (y_indexS rfl rfl Try.underlying111 sz_24 (by omega) (by omega) (show _ = 1 from rfl)) rfl ?_
    refine L_y rfl (y_load rfl ag_24 (sees 1 0 rfl) rfl) rfl ?_
    refine L_y rfl (y_assign rfl) rfl ?_
    refine L_y rfl (y_assign rfl) rfl ?_
    refine L_nil ?_
    refine C_seq ?_
    refine C_region ?_
    refine L_y rfl (y_move rfl) rfl ?_
    refine L_y rfl (y_move rfl) rfl ?_
    refine L_y rfl (y_move rfl) rfl ?_
    refine L_op rfl (op_makeMap rfl (fun B5 => ?_))
    refine L_y rfl (y_build (vs := [(0, _), (1, _)]) (l := [ptr bys, .map (some B5)]) rfl pl_107 zl_107 (fill_cons (off := 0) (m := 1) (vs := [_]) rfl rfl rfl (Nat.le_of_ble_eq_true rfl) (fill_cons (off := 1) (m := 1) (vs := [_]) rfl rfl rfl (Nat.le_of_ble_eq_true rfl) rfl))) rfl ?_
    refine L_y rfl (y_nilCheck rfl) rfl ?_
    refine L_y rfl (y_fieldAddr rfl fl_110_0) rfl ?_
    refine L_y rfl (y_indexA rfl rfl Try.underlying108 sz_107 (by omega) (by omega) (show _ = 2 from rfl)) rfl ?_
    refine L_op rfl (op_store (vs := [ptr bys, .map (some B5)]) 3 0 rfl rfl rfl sz_107 rfl rfl (ones rfl) (Nat.le_of_ble_eq_true rfl) ?_)
    rw [show spl [ptr bx, .map (some B3), .pointer none, .map none, .int .i64 (((min A.a.S.length A.b.S.length) : Nat) : Int), .func (.func f) #[] cap.toArray] 2 [ptr bys, .map (some B5)] = [ptr bx, .map (some B3), ptr bys, .map (some B5), .int .i64 (((min A.a.S.length A.b.S.length) : Nat) : Int), .func (.func f) #[] cap.toArray] from rfl]
    refine L_nil ?_
    refine C_seq ?_
    refine C_region ?_
    refine L_y rfl (y_assign rfl) rfl ?_
    refine L_nil ?_
    refine C_block ?_
    refine C_loopIn (In_round ?_)
    refine C_seq ?_
    refine C_seq ?_
    refine C_region ?_
    refine L_y rfl (y_move rfl) rfl ?_
    refine L_y rfl (y_move rfl) rfl ?_
    refine L_y rfl (y_nilCheck rfl) rfl ?_
    refine L_y rfl (y_fieldAddr rfl fl_110_1) rfl ?_
    refine L_y rfl (y_load rfl ag_3 (sees 3 0 rfl) rfl) rfl ?_
    refine L_y rfl (y_lss rfl rfl) rfl ?_
    refine L_y rfl (y_move rfl) rfl ?_
    refine L_case 42 rfl (fun hg7_7 => ?_) (fun hg7_7 => ?_)
    · have hj := of_decide_eq_true hg7_7
      refine L_y rfl (y_move rfl) rfl ?_
      refine L_y rfl (y_move rfl) rfl ?_
      refine L_y rfl (y_nilCheck rfl) rfl ?_
      refine L_y rfl (y_fieldAddr rfl fl_110_0) rfl ?_
      refine L_y rfl (y_indexA rfl rfl Try.underlying108 sz_107 (by omega) (by omega) (show _ = 2 from rfl)) rfl ?_
      refine L_y rfl (y_loadA rfl ag_107 sz_107 (sees 3 0 rfl) (Nat.le_of_ble_eq_true rfl) rfl) rfl ?_
      refine L_op rfl (op_call rfl rfl (fun a w => Try.call53 a w) rfl ?_)
      refine ((there_d h true).sub (hsub_pick [4] rfl)).mono ?_
      rintro _ _ ⟨rfl, rfl⟩
      rw [hq]
      refine ⟨_, rfl, ?_⟩
      refine L_y rfl (y_not rfl) rfl ?_
      refine L_y rfl (y_pick_t rfl rfl) rfl ?_
      refine L_nil ?_
      refine C_cond_f rfl ?_
      refine C_exit ?_
      refine C_region ?_
      refine L_y rfl (y_add rfl rfl (show _ = (2 : Int) from rfl)) rfl ?_
      refine L_y rfl (y_move rfl) rfl ?_
      refine L_nil ?_
      refine In_round ?_
      refine C_seq ?_
      refine C_region ?_
      refine L_y rfl (y_lss rfl rfl) rfl ?_
      refine L_nil ?_
      refine C_seq ?_
      refine C_cond_f rfl ?_
      refine C_exit ?_
      refine C_seq ?_
      refine C_region ?_
      refine L_y rfl (y_move rfl) rfl ?_
      refine L_y rfl (y_assign rfl) rfl ?_
      refine L_nil ?_
      refine C_ret ?_
      refine B_ret (rv_tmp rfl rv_nil) ((hsub_flat (H := [_] :: [_] :: [_] :: D.seg dt :: H) (H' := Mi.seg 110 ⟨B1, B3, B5, bx, bys, (min A.a.S.length A.b.S.length), .func (.func f) #[] cap.toArray, stale0 true (min A.a.S.length A.b.S.length), (if true then 0 else (min A.a.S.length A.b.S.length)), stale0 true (min A.a.S.length A.b.S.length), (if true then 0 else (min A.a.S.length A.b.S.length))⟩ :: D.seg dt :: H) rfl).trans ((hsub (.cons_cons _ (.cons_cons _ (.cons_cons _ (.cons_cons _ (.cons _ (.refl _))))))).trans (hsub_pick [4, 2, 1, 0] rfl))) ?_
      exact ⟨B1, B3, B5, rfl, by simp only [mnew, stale0, hp, hq] <;> rfl⟩
    · have hj := of_decide_eq_false hg7_7
      refine L_skip rfl rfl ?_
      refine L_skip rfl rfl ?_
      refine L_skip rfl rfl ?_
      refine L_skip rfl rfl ?_
      refine L_skip rfl rfl ?_
      refine L_skip rfl rfl ?_
      refine L_skip rfl rfl ?_
      refine L_skip rfl rfl ?_
      refine L_y rfl (y_pick_f rfl rfl) rfl ?_
      refine L_nil ?_
      refine C_cond_f rfl ?_
      refine C_exit ?_
      refine C_region ?_
      refine L_y rfl (y_add rfl rfl (show _ = (2 : Int) from rfl)) rfl ?_
      refine L_y rfl (y_move rfl) rfl ?_
      refine L_nil ?_
      refine In_round ?_
      refine C_seq ?_
      refine C_region ?_
      refine L_y rfl (y_lss rfl rfl) rfl ?_
      refine L_nil ?_
      refine C_seq ?_
      refine C_cond_f rfl ?_
      refine C_exit ?_
      refine C_seq ?_
      refine C_region ?_
      refine L_y rfl (y_move rfl) rfl ?_
      refine L_y rfl (y_assign rfl) rfl ?_
      refine L_nil ?_
      refine C_ret ?_
      refine B_ret (rv_tmp rfl rv_nil) ((hsub_flat (H := [_] :: [_] :: [_] :: D.seg dt :: H) (H' := Mi.seg 110 ⟨B1, B3, B5, bx, bys, (min A.a.S.length A.b.S.length), .func (.func f) #[] cap.toArray, stale0 true (min A.a.S.length A.b.S.length), (if true then 0 else (min A.a.S.length A.b.S.length)), stale0 true (min A.a.S.length A.b.S.length), (if true then 0 else (min A.a.S.length A.b.S.length))⟩ :: D.seg dt :: H) rfl).trans ((hsub (.cons_cons _ (.cons_cons _ (.cons_cons _ (.cons_cons _ (.cons _ (.refl _))))))).trans (hsub_pick [3, 1, 0, 1] rfl))) ?_
      exact ⟨B1, B3, B5, rfl, by simp only [mnew, stale0, hp, hq] <;> rfl⟩

set_option maxHeartbeats 4000000 in

theorem new_fn_tf {w0 : World} {H : Hp} {f : Nat} {cap : List Value} {D : Duo} {A : Da} {bx bys bp : Nat} (h : Two dt D A bx bys bp) (hp : thr A false = true) (hq : thr A true = false) : FnS Try.prog w0 17 #[ptr bx, ptr bys, .func (.func f) #[] cap.toArray] (D.seg dt :: H) (fun e H' => ∃ b r0 r1, e = .returned (ptr b) ∧ H' = (mnew A bx bys (.func (.func f) #[] cap.toArray) b r0 r1).seg 110 :: D.seg dt :: H) := by
  have hlen : A.a.S.length ≤ 4096 := (h.oks false).2.1
  refine FnS_intro (n := 64) (rs := [.tmp 6]) (vs := [ptr bx, ptr bys, .func (.func f) #[] cap.toArray]) Try.func17 rfl Try.ntmps17 rfl rfl ?_
  refine C_seq ?_
  refine C_region ?_
  refine L_y rfl (y_assign rfl) rfl ?_
  refine L_nil ?_
  refine C_seq ?_
  refine C_region ?_
  refine L_y rfl (y_move rfl) rfl ?_
  refine L_op rfl (op_call rfl rfl (fun a w => Try.call52 a w) rfl ?_)
  refine ((len_d h false).sub (hsub_pick [0] rfl)).mono ?_
  rintro _ _ ⟨rfl, rfl⟩
  refine ⟨_, rfl, ?_⟩
  refine L_y rfl (y_move rfl) rfl ?_
  refine L_op rfl (op_call rfl rfl (fun a w => Try.call52 a w) rfl ?_)
  refine ((len_d h true).sub (hsub_pick [0] rfl)).mono ?_
  rintro _ _ ⟨rfl, rfl⟩
  refine ⟨_, rfl, ?_⟩
  refine L_y rfl (y_minN rfl rfl) rfl ?_
  refine L_y rfl (y_move rfl) rfl ?_
  refine L_y rfl (y_build (vs := [(1, _), (2, _)]) (l := [.pointer none, .map none, .pointer none, .map none, .int .i64 (((min A.a.S.length A.b.S.length) : Nat) : Int), .func (.func f) #[] cap.toArray]) rfl pl_110 zl_110 (fill_cons (off := 4) (m := 1) (vs := [_]) rfl rfl rfl (Nat.le_of_ble_eq_true rfl) (fill_cons (off := 5) (m := 1) (vs := [_]) rfl rfl rfl (Nat.le_of_ble_eq_true rfl) rfl))) rfl ?_
  refine L_op rfl (op_box rfl rfl rfl (fun B1 => ?_))
  refine L_y rfl (y_assign rfl) rfl ?_
  refine L_nil ?_
  refine C_seq ?_
  refine C_seq ?_
  refine C_region ?_
  refine L_y rfl (y_move rfl) rfl ?_
  refine L_y rfl (y_move rfl) rfl ?_
  refine L_op rfl (op_buildSlice (vs := [(0, _), (1, _)]) rfl Try.underlying111 sz_24 zl_24 rfl (by decide) rfl rfl (fun B2 => ?_))
  refine L_y rfl (y_lenS rfl rfl Try.underlying111) rfl ?_
  refine L_y rfl (y_move rfl) rfl ?_
  refine L_nil ?_
  refine C_block ?_
  refine C_loopIn (In_round ?_)
  refine C_seq ?_
  refine C_region ?_
  refine L_y rfl (y_lss rfl rfl) rfl ?_
  refine L_nil ?_
  refine C_seq ?_
  refine C_cond_t rfl ?_
  refine C_skip ?_
  refine C_seq ?_
  refine C_block ?_
  refine C_seq ?_
  refine C_region ?_
  refine L_y rfl (y_move rfl) rfl ?_
  refine L_y rfl (y_indexS rfl rfl Try.underlying111 sz_24 (by omega) (by omega) (show _ = 0 from rfl)) rfl ?_
  refine L_y rfl (y_load rfl ag_24 (sees 0 0 rfl) rfl) rfl ?_
  refine L_y rfl (y_assign rfl) rfl ?_
  refine L_y rfl (y_assign rfl) rfl ?_
  refine L_nil ?_
  refine C_seq ?_
  refine C_region ?_
  refine L_y rfl (y_move rfl) rfl ?_
  refine L_y rfl (y_move rfl) rfl ?_
  refine L_y rfl (y_move rfl) rfl ?_
  refine L_op rfl (op_makeMap rfl (fun B3 => ?_))
  refine L_y rfl (y_build (vs := [(0, _), (1, _)]) (l := [ptr bx, .map (some B3)]) rfl pl_107 zl_107 (fill_cons (off := 0) (m := 1) (vs := [_]) rfl rfl rfl (Nat.le_of_ble_eq_true rfl) (fill_cons (off := 1) (m := 1) (vs := [_]) rfl rfl rfl (Nat.le_of_ble_eq_true rfl) rfl))) rfl ?_
  refine L_y rfl (y_nilCheck rfl) rfl ?_
  refine L_y rfl (y_fieldAddr rfl fl_110_0) rfl ?_
  refine L_y rfl (y_indexA rfl rfl Try.underlying108 sz_107 (by omega) (by omega) (show _ = 0 from rfl)) rfl ?_
  refine L_op rfl (op_store (vs := [ptr bx, .map (some B3)]) 2 0 rfl rfl rfl sz_107 rfl rfl (ones rfl) (Nat.le_of_ble_eq_true rfl) ?_)
  rw [show spl [.pointer none, .map none, .pointer none, .map none, .int .i64 (((min A.a.S.length A.b.S.length) : Nat) : Int), .func (.func f) #[] cap.toArray] 0 [ptr bx, .map (some B3)] = [ptr bx, .map (some B3), .pointer none, .map none, .int .i64 (((min A.a.S.length A.b.S.length) : Nat) : Int), .func (.func f) #[] cap.toArray] from rfl]
  refine L_nil ?_
  refine C_seq ?_
  refine C_region ?_
  refine L_y rfl (y_assign rfl) rfl ?_
  refine L_nil ?_
  refine C_block ?_
  refine C_loopIn (In_round ?_)
  refine C_seq ?_
  refine C_seq ?_
  refine C_region ?_
  refine L_y rfl (y_move rfl) rfl ?_
  refine L_y rfl (y_move rfl) rfl ?_
  refine L_y rfl (y_nilCheck rfl) rfl ?_
  refine L_y rfl (y_fieldAddr rfl fl_110_1) rfl ?_
  refine L_y rfl (y_load rfl ag_3 (sees 2 0 rfl) rfl) rfl ?_
  refine L_y rfl (y_lss rfl rfl) rfl ?_
  refine L_y rfl (y_move rfl) rfl ?_
  refine L_case 42 rfl (fun hg7_7 => ?_) (fun hg7_7 => ?_)
  · have hj := of_decide_eq_true hg7_7
    refine L_y rfl (y_move rfl) rfl ?_
    refine L_y rfl (y_move rfl) rfl ?_
    refine L_y rfl (y_nilCheck rfl) rfl ?_
    refine L_y rfl (y_fieldAddr rfl fl_110_0) rfl ?_
    refine L_y rfl (y_indexA rfl rfl Try.underlying108 sz_107 (by omega) (by omega) (show _ = 0 from rfl)) rfl ?_
    refine L_y rfl (y_loadA rfl ag_107 sz_107 (sees 2 0 rfl) (Nat.le_of_ble_eq_true rfl) rfl) rfl ?_
    refine L_op rfl (op_call rfl rfl (fun a w => Try.call53 a w) rfl ?_)
    refine ((there_d h false).sub (hsub_pick [3] rfl)).mono ?_
    rintro _ _ ⟨rfl, rfl⟩
    rw [hp]
    refine ⟨_, rfl, ?_⟩
    refine L_y rfl (y_not rfl) rfl ?_
    refine L_y rfl (y_pick_t rfl rfl) rfl ?_
    refine L_nil ?_
    refine C_cond_f rfl ?_
    refine C_exit ?_
    refine C_region ?_
    refine L_y rfl (y_add rfl rfl (show _ = (1 : Int) from rfl)) rfl ?_
    refine L_y rfl (y_move rfl) rfl ?_
    refine L_nil ?_
    refine In_round ?_
    refine C_seq ?_
    refine C_region ?_
    refine L_y rfl (y_lss rfl rfl) rfl ?_
    refine L_nil ?_
    refine C_seq ?_
    refine C_cond_t rfl ?_
    refine C_skip ?_
    refine C_seq ?_
    refine C_block ?_
    refine C_seq ?_
    refine C_region ?_
    refine L_y rfl (y_move rfl) rfl ?_
    refine L_y rfl (y_indexS rfl rfl Try.underlying111 sz_24 (by omega) (by omega) (show _ = 1 from rfl)) rfl ?_
    refine L_y rfl (y_load rfl ag_24 (sees 2 0 rfl) rfl) rfl ?_
    refine L_y rfl (y_assign rfl) rfl ?_
    refine L_y rfl (y_assign rfl) rfl ?_
    refine L_nil ?_
    refine C_seq ?_
    refine C_region ?_
    refine L_y rfl (y_move rfl) rfl ?_
    refine L_y rfl (y_move rfl) rfl ?_
    refine L_y rfl (y_move rfl) rfl ?_
    refine L_op rfl (op_makeMap rfl (fun B4 => ?_))
    refine L_y rfl (y_build (vs := [(0, _), (1, _)]) (l := [ptr bys, .map (some B4)]) rfl pl_107 zl_107 (fill_cons (off := 0) (m := 1) (vs := [_]) rfl rfl rfl (Nat.le_of_ble_eq_true rfl) (fill_cons (off := 1) (m := 1) (vs := [_]) rfl rfl rfl (Nat.le_of_ble_eq_true rfl) rfl))) rfl ?_
    refine L_y rfl (y_nilCheck rfl) rfl ?_
    refine L_y rfl (y_fieldAddr rfl fl_110_0) rfl ?_
    refine L_y rfl (y_indexA rfl rfl Try.underlying108 sz_107 (by omega) (by omega) (show _ = 2 from rfl)) rfl ?_
    refine L_op rfl (op_store (vs := [ptr bys, .map (some B4)]) 4 0 rfl rfl rfl sz_107 rfl rfl (ones rfl) (Nat.le_of_ble_eq_true rfl) ?_)
    rw [show spl [ptr bx, .map (some B3), .pointer none, .map none, .int .i64 (((min A.a.S.length A.b.S.length) : Nat) : Int), .func (.func f) #[] cap.toArray] 2 [ptr bys, .map (some B4)] = [ptr bx, .map (some B3), ptr bys, .map (some B4), .int .i64 (((min A.a.S.length A.b.S.length) : Nat) : Int), .func (.func f) #[] cap.toArray] from rfl]
    refine L_nil ?_
    refine C_seq ?_
    refine C_region ?_
    refine L_y rfl (y_assign rfl) rfl ?_
    refine L_nil ?_
    refine C_block ?_
    refine C_loop (ι := Nat) (fun j => [(7, ptr B1), (8, .int .i64 1), (10, .int .i64 (j : Int)), (21, .slice (some ⟨B2, 0, none⟩) 2 2), (22, .int .i64 2), (23, .int .i64 1)]) (fun j => [(B4, mapO (stN j) j)] :: [(B1, .cells [ptr bx, .map (some B3), ptr bys, .map (some B4), .int .i64 (((min A.a.S.length A.b.S.length) : Nat) : Int), .func (.func f) #[] cap.toArray].toArray 110)] :: [(B2, .cells [ptr bx, ptr bys].toArray 24)] :: D.seg dt :: [(B3, mapO (stale0 true (min A.a.S.length A.b.S.length)) (if true then 0 else (min A.a.S.length A.b.S.length)))] :: H) (fun j => j ≤ (min A.a.S.length A.b.S.length)) (fun j => (min A.a.S.length A.b.S.length) - j) 0 (Nat.zero_le _) ⟨rfl, rfl, rfl, rfl, rfl, rfl, trivial⟩ (hsub_pick [0, 3, 2, 0, 0] rfl) (fun j hj => ?_)
    skip
    refine C_seq ?_
    refine C_seq ?_
    refine C_region ?_
    refine L_y rfl (y_move rfl) rfl ?_
    refine L_y rfl (y_move rfl) rfl ?_
    refine L_y rfl (y_nilCheck rfl) rfl ?_
    refine L_y rfl (y_fieldAddr rfl fl_110_1) rfl ?_
    refine L_y rfl (y_load rfl ag_3 (sees 1 0 rfl) rfl) rfl ?_
    refine L_y rfl (y_lss rfl rfl) rfl ?_
    refine L_y rfl (y_move rfl) rfl ?_
    refine L_case 42 rfl (fun hg7_7 => ?_) (fun hg7_7 => ?_)
    · have hj := of_decide_eq_true hg7_7
      refine L_y rfl (y_move rfl) rfl ?_
      refine L_y rfl (y_move rfl) rfl ?_
      refine L_y rfl (y_nilCheck rfl) rfl ?_
      refine L_y rfl (y_fieldAddr rfl fl_110_0) rfl ?_
      refine L_y rfl (y_indexA rfl rfl Try.underlying108 sz_107 (by omega) (by omega) (show _ = 2 from rfl)) rfl ?_
      refine L_y rfl (y_loadA rfl ag_107 sz_107 (sees 1 0 rfl) (Nat.le_of_ble_eq_true rfl) rfl) rfl ?_
      refine L_op rfl (op_call rfl rfl (fun a w => Try.call53 a w) rfl ?_)
      refine ((there_d h true).sub (hsub_pick [3] rfl)).mono ?_
      rintro _ _ ⟨rfl, rfl⟩
      rw [hq]
      refine ⟨_, rfl, ?_⟩
      refine L_y rfl (y_not rfl) rfl ?_
      refine L_y rfl (y_pick_t rfl rfl) rfl ?_
      refine L_nil ?_
      refine C_cond_t rfl ?_
      refine C_skip ?_
      refine C_seq ?_
      refine C_block ?_
      refine C_region ?_
      refine L_y rfl (y_move rfl) rfl ?_
      refine L_y rfl (y_move rfl) rfl ?_
      refine L_y rfl (y_nilCheck rfl) rfl ?_
      refine L_y rfl (y_fieldAddr rfl fl_110_0) rfl ?_
      refine L_y rfl (y_indexA rfl rfl Try.underlying108 sz_107 (by omega) (by omega) (show _ = 2 from rfl)) rfl ?_
      refine L_y rfl (y_fieldAddr rfl fl_107_1) rfl ?_
      refine L_y rfl (y_load rfl ag_105 (sees 2 0 rfl) rfl) rfl ?_
      refine L_y rfl (y_move rfl) rfl ?_
      refine L_op rfl (op_mapUpdate 1 0 rfl rfl rfl Try.underlying105 Try.underlying3 rfl rfl ?_)
      refine L_nil ?_
      refine C_region ?_
      refine L_y rfl (y_move rfl) rfl ?_
      refine L_y rfl (y_add rfl rfl (wi64 (by omega) (by omega))) rfl ?_
      refine L_y rfl (y_assign rfl) rfl ?_
      refine L_nil ?_
      refine ⟨j + 1, by omega, by omega, ⟨rfl, rfl, rfl, rfl, rfl, rfl, trivial⟩, ?_⟩
      rw [← (stN_put j).1, show mapO (kPut (stN j) j (j : Int)) (j + 1) = mapO (kPut (stN j) j (j : Int)) (kClk (stN j) j (j : Int)) from by rw [(stN_put j).2]]
      exact ((hsub (.cons_cons _ (.cons_cons _ (.cons_cons _ (.cons_cons _ (.cons_cons _ (.refl _))))))).trans (hsub_pick [1, 1, 1, 0, 0] rfl))
    · have hj := of_decide_eq_false hg7_7
      refine L_skip rfl rfl ?_
      refine L_skip rfl rfl ?_
      refine L_skip rfl rfl ?_
      refine L_skip rfl rfl ?_
      refine L_skip rfl rfl ?_
      refine L_skip rfl rfl ?_
      refine L_skip rfl rfl ?_
      refine L_skip rfl rfl ?_
      refine L_y rfl (y_pick_f rfl rfl) rfl ?_
      refine L_nil ?_
      refine C_cond_f rfl ?_
      refine C_exit ?_
      obtain rfl : j = (min A.a.S.length A.b.S.length) := by omega
      refine C_region ?_
      refine L_y rfl (y_add rfl rfl (show _ = (2 : Int) from rfl)) rfl ?_
      refine L_y rfl (y_move rfl) rfl ?_
      refine L_nil ?_
      refine In_round ?_
      refine C_seq ?_
      refine C_region ?_
      refine L_y rfl (y_lss rfl rfl) rfl ?_
      refine L_nil ?_
      refine C_seq ?_
      refine C_cond_f rfl ?_
      refine C_exit ?_
      refine C_seq ?_
      refine C_region ?_
      refine L_y rfl (y_move rfl) rfl ?_
      refine L_y rfl (y_assign rfl) rfl ?_
      refine L_nil ?_
      refine C_ret ?_
      refine B_ret (rv_tmp rfl rv_nil) ((hsub_flat (H := [_] :: [_] :: [_] :: D.seg dt :: H) (H' := Mi.seg 110 ⟨B1, B3, B4, bx, bys, (min A.a.S.length A.b.S.length), .func (.func f) #[] cap.toArray, stale0 true (min A.a.S.length A.b.S.length), (if true then 0 else (min A.a.S.length A.b.S.length)), stale0 false (min A.a.S.length A.b.S.length), (if false then 0 else (min A.a.S.length A.b.S.length))⟩ :: D.seg dt :: H) rfl).trans ((hsub (.cons_cons _ (.cons_cons _ (.cons_cons _ (.cons_cons _ (.cons _ (.refl _))))))).trans (hsub_pick [1, 3, 0, 1] rfl))) ?_
      exact ⟨B1, B3, B4, rfl, by simp only [mnew, stale0, hp, hq] <;> rfl⟩
  · have hj := of_decide_eq_false hg7_7
    refine L_skip rfl rfl ?_
    refine L_skip rfl rfl ?_
    refine L_skip rfl rfl ?_
    refine L_skip rfl rfl ?_
    refine L_skip rfl rfl ?_
    refine L_skip rfl rfl ?_
    refine L_skip rfl rfl ?_
    refine L_skip rfl rfl ?_
    refine L_y rfl (y_pick_f rfl rfl) rfl ?_
    refine L_nil ?_
    refine C_cond_f rfl ?_
    refine C_exit ?_
    refine C_region ?_
    refine L_y rfl (y_add rfl rfl (show _ = (1 : Int) from rfl)) rfl ?_
    refine L_y rfl (y_move rfl) rfl ?_
    refine L_nil ?_
    refine In_round ?_
    refine C_seq ?_
    refine C_region ?_
    refine L_y rfl (y_lss rfl rfl) rfl ?_
    refine L_nil ?_
    refine C_seq ?_
    refine C_cond_t rfl ?_
    refine C_skip ?_
    refine C_seq ?_
    refine C_block ?_
    refine C_seq ?_
    refine C_region ?_
    refine L_y rfl (y_move rfl) rfl ?_
    refine L_y rfl (y_indexS rfl rfl Try.underlying111 sz_24 (by omega) (by omega) (show _ = 1 from rfl)) rfl ?_
    refine L_y rfl (y_load rfl ag_24 (sees 1 0 rfl) rfl) rfl ?_
    refine L_y rfl (y_assign rfl) rfl ?_
    refine L_y rfl (y_assign rfl) rfl ?_
    refine L_nil ?_
    refine C_seq ?_
    refine C_region ?_
    refine L_y rfl (y_move rfl) rfl ?_
    refine L_y rfl (y_move rfl) rfl ?_
    refine L_y rfl (y_move rfl) rfl ?_
    refine L_op rfl (op_makeMap rfl (fun B5 => ?_))
    refine L_y rfl (y_build (vs := [(0, _), (1, _)]) (l := [ptr bys, .map (some B5)]) rfl pl_107 zl_107 (fill_cons (off := 0) (m := 1) (vs := [_]) rfl rfl rfl (Nat.le_of_ble_eq_true rfl) (fill_cons (off := 1) (m := 1) (vs := [_]) rfl rfl rfl (Nat.le_of_ble_eq_true rfl) rfl))) rfl ?_
    refine L_y rfl (y_nilCheck rfl) rfl ?_
    refine L_y rfl (y_fieldAddr rfl fl_110_0) rfl ?_
    refine L_y rfl (y_indexA rfl rfl Try.underlying108 sz_107 (by omega) (by omega) (show _ = 2 from rfl)) rfl ?_
    refine L_op rfl (op_store (vs := [ptr bys, .map (some B5)]) 3 0 rfl rfl rfl sz_107 rfl rfl (ones rfl) (Nat.le_of_ble_eq_true rfl) ?_)
    rw [show spl [ptr bx, .map (some B3), .pointer none, .map none, .int .i64 (((min A.a.S.length A.b.S.length) : Nat) : Int), .func (.func f) #[] cap.toArray] 2 [ptr bys, .map (some B5)] = [ptr bx, .map (some B3), ptr bys, .map (some B5), .int .i64 (((min A.a.S.length A.b.S.length) : Nat) : Int), .func (.func f) #[] cap.toArray] from rfl]
    refine L_nil ?_
    refine C_seq ?_
    refine C_region ?_
    refine L_y rfl (y_assign rfl) rfl ?_
    refine L_nil ?_
    refine C_block ?_
    refine C_loop (ι := Nat) (fun j => [(7, ptr B1), (8, .int .i64 1), (10, .int .i64 (j : Int)), (21, .slice (some ⟨B2, 0, none⟩) 2 2), (22, .int .i64 2), (23, .int .i64 1)]) (fun j => [(B5, mapO (stN j) j)] :: [(B1, .cells [ptr bx, .map (some B3), ptr bys, .map (some B5), .int .i64 (((min A.a.S.length A.b.S.length) : Nat) : Int), .func (.func f) #[] cap.toArray].toArray 110)] :: [(B2, .cells [ptr bx, ptr bys].toArray 24)] :: D.seg dt :: [(B3, mapO (stale0 true (min A.a.S.length A.b.S.length)) (if true then 0 else (min A.a.S.length A.b.S.length)))] :: H) (fun j => j ≤ (min A.a.S.length A.b.S.length)) (fun j => (min A.a.S.length A.b.S.length) - j) 0 (Nat.zero_le _) ⟨rfl, rfl, rfl, rfl, rfl, rfl, trivial⟩ (hsub_pick [0, 2, 1, 1, 0] rfl) (fun j hj => ?_)
    skip
    refine C_seq ?_
    refine C_seq ?_
    refine C_region ?_
    refine L_y rfl (y_move rfl) rfl ?_
    refine L_y rfl (y_move rfl) rfl ?_
    refine L_y rfl (y_nilCheck rfl) rfl ?_
    refine L_y rfl (y_fieldAddr rfl fl_110_1) rfl ?_
    refine L_y rfl (y_load rfl ag_3 (sees 1 0 rfl) rfl) rfl ?_
    refine L_y rfl (y_lss rfl rfl) rfl ?_
    refine L_y rfl (y_move rfl) rfl ?_
    refine L_case 42 rfl (fun hg7_7 => ?_) (fun hg7_7 => ?_)
    · have hj := of_decide_eq_true hg7_7
      refine L_y rfl (y_move rfl) rfl ?_
      refine L_y rfl (y_move rfl) rfl ?_
      refine L_y rfl (y_nilCheck rfl) rfl ?_
      refine L_y rfl (y_fieldAddr rfl fl_110_0) rfl ?_
      refine L_y rfl (y_indexA rfl rfl Try.underlying108 sz_107 (by omega) (by omega) (show _ = 2 from rfl)) rfl ?_
      refine L_y rfl (y_loadA rfl ag_107 sz_107 (sees 1 0 rfl) (Nat.le_of_ble_eq_true rfl) rfl) rfl ?_
      refine L_op rfl (op_call rfl rfl (fun a w => Try.call53 a w) rfl ?_)
      refine ((there_d h true).sub (hsub_pick [3] rfl)).mono ?_
      rintro _ _ ⟨rfl, rfl⟩
      rw [hq]
      refine ⟨_, rfl, ?_⟩
      refine L_y rfl (y_not rfl) rfl ?_
      refine L_y rfl (y_pick_t rfl rfl) rfl ?_
      refine L_nil ?_
      refine C_cond_t rfl ?_
      refine C_skip ?_
      refine C_seq ?_
      refine C_block ?_
      refine C_region ?_
      refine L_y rfl (y_move rfl) rfl ?_
      refine L_y rfl (y_move rfl) rfl ?_
      refine L_y rfl (y_nilCheck rfl) rfl ?_
      refine L_y rfl (y_fieldAddr rfl fl_110_0) rfl ?_
      refine L_y rfl (y_indexA rfl rfl Try.underlying108 sz_107 (by omega) (by omega) (show _ = 2 from rfl)) rfl ?_
      refine L_y rfl (y_fieldAddr rfl fl_107_1) rfl ?_
      refine L_y rfl (y_load rfl ag_105 (sees 2 0 rfl) rfl) rfl ?_
      refine L_y rfl (y_move rfl) rfl ?_
      refine L_op rfl (op_mapUpdate 1 0 rfl rfl rfl Try.underlying105 Try.underlying3 rfl rfl ?_)
      refine L_nil ?_
      refine C_region ?_
      refine L_y rfl (y_move rfl) rfl ?_
      refine L_y rfl (y_add rfl rfl (wi64 (by omega) (by omega))) rfl ?_
      refine L_y rfl (y_assign rfl) rfl ?_
      refine L_nil ?_
      refine ⟨j + 1, by omega, by omega, ⟨rfl, rfl, rfl, rfl, rfl, rfl, trivial⟩, ?_⟩
      rw [← (stN_put j).1, show mapO (kPut (stN j) j (j : Int)) (j + 1) = mapO (kPut (stN j) j (j : Int)) (kClk (stN j) j (j : Int)) from by rw [(stN_put j).2]]
      exact ((hsub (.cons_cons _ (.cons_cons _ (.cons_cons _ (.cons_cons _ (.cons_cons _ (.refl _))))))).trans (hsub_pick [1, 1, 1, 0, 0] rfl))
    · have hj := of_decide_eq_false hg7_7
      refine L_skip rfl rfl ?_
      refine L_skip rfl rfl ?_
      refine L_skip rfl rfl ?_
      refine L_skip rfl rfl ?_
      refine L_skip rfl rfl ?_
      refine L_skip rfl rfl ?_
      refine L_skip rfl rfl ?_
      refine L_skip rfl rfl ?_
      refine L_y rfl (y_pick_f rfl rfl) rfl ?_
      refine L_nil ?_
      refine C_cond_f rfl ?_
      refine C_exit ?_
      obtain rfl : j = (min A.a.S.length A.b.S.length) := by omega
      refine C_region ?_
      refine L_y rfl (y_add rfl rfl (show _ = (2 : Int) from rfl)) rfl ?_
      refine L_y rfl (y_move rfl) rfl ?_
      refine L_nil ?_
      refine In_round ?_
      refine C_seq ?_
      refine C_region ?_
      refine L_y rfl (y_lss rfl rfl) rfl ?_
      refine L_nil ?_
      refine C_seq ?_
      refine C_cond_f rfl ?_
      refine C_exit ?_
      refine C_seq ?_
      refine C_region ?_
      refine L_y rfl (y_move rfl) rfl ?_
      refine L_y rfl (y_assign rfl) rfl ?_
      refine L_nil ?_
      refine C_ret ?_
      refine B_ret (rv_tmp rfl rv_nil) ((hsub_flat (H := [_] :: [_] :: [_] :: D.seg dt :: H) (H' := Mi.seg 110 ⟨B1, B3, B5, bx, bys, (min A.a.S.length A.b.S.length), .func (.func f) #[] cap.toArray, stale0 true (min A.a.S.length A.b.S.length), (if true then 0 else (min A.a.S.length A.b.S.length)), stale0 false (min A.a.S.length A.b.S.length), (if false then 0 else (min A.a.S.length A.b.S.length))⟩ :: D.seg dt :: H) rfl).trans ((hsub (.cons_cons _ (.cons_cons _ (.cons_cons _ (.cons_cons _ (.cons _ (.refl _))))))).trans (hsub_pick [1, 3, 0, 1] rfl))) ?_
      exact ⟨B1, B3, B5, rfl, by simp only [mnew, stale0, hp, hq] <;> rfl⟩

set_option maxHeartbeats 4000000 in

theorem new_fn_ft {w0 : World} {H : Hp} {f : Nat} {cap : List Value} {D : Duo} {A : Da} {bx bys bp : Nat} (h : Two dt D A bx bys bp) (hp : thr A false = false) (hq : thr A true = true) : FnS Try.prog w0 17 #[ptr bx, ptr bys, .func (.func f) #[] cap.toArray] (D.seg dt :: H) (fun e H' => ∃ b r0 r1, e = .returned (ptr b) ∧ H' = (mnew A bx bys (.func (.func f) #[] cap.toArray) b r0 r1).seg 110 :: D.seg dt :: H) := by
  have hlen : A.a.S.length ≤ 4096 := (h.oks false).2.1
  refine FnS_intro (n := 64) (rs := [.tmp 6]) (vs := [ptr bx, ptr bys, .func (.func f) #[] cap.toArray]) Try.func17 rfl Try.ntmps17 rfl rfl ?_
  refine C_seq ?_
  refine C_region ?_
  refine L_y rfl (y_assign rfl) rfl ?_
  refine L_nil ?_
  refine C_seq ?_
  refine C_region ?_
  refine L_y rfl (y_move rfl) rfl ?_
  refine L_op rfl (op_call rfl rfl (fun a w => Try.call52 a w) rfl ?_)
  refine ((len_d h false).sub (hsub_pick [0] rfl)).mono ?_
  rintro _ _ ⟨rfl, rfl⟩
  refine ⟨_, rfl, ?_⟩
  refine L_y rfl (y_move rfl) rfl ?_
  refine L_op rfl (op_call rfl rfl (fun a w => Try.call52 a w) rfl ?_)
  refine ((len_d h true).sub (hsub_pick [0] rfl)).mono ?_
  rintro _ _ ⟨rfl, rfl⟩
  refine ⟨_, rfl, ?_⟩
  refine L_y rfl (y_minN rfl rfl) rfl ?_
  refine L_y rfl (y_move rfl) rfl ?_
  refine L_y rfl (y_build (vs := [(1, _), (2, _)]) (l := [.pointer none, .map none, .pointer none, .map none, .int .i64 (((min A.a.S.length A.b.S.length) : Nat) : Int), .func (.func f) #[] cap.toArray]) rfl pl_110 zl_110 (fill_cons (off := 4) (m := 1) (vs := [_]) rfl rfl rfl (Nat.le_of_ble_eq_true rfl) (fill_cons (off := 5) (m := 1) (vs := [_]) rfl rfl rfl (Nat.le_of_ble_eq_true rfl) rfl))) rfl ?_
  refine L_op rfl (op_box rfl rfl rfl (fun B1 => ?_))
  refine L_y rfl (y_assign rfl) rfl ?_
  refine L_nil ?_
  refine C_seq ?_
  refine C_seq ?_
  refine C_region ?_
  refine L_y rfl (y_move rfl) rfl ?_
  refine L_y rfl (y_move rfl) rfl ?_
  refine L_op rfl (op_buildSlice (vs := [(0, _), (1, _)]) rfl Try.underlying111 sz_24 zl_24 rfl (by decide) rfl rfl (fun B2 => ?_))
  refine L_y rfl (y_lenS rfl rfl Try.underlying111) rfl ?_
  refine L_y rfl (y_move rfl) rfl ?_
  refine L_nil ?_
  refine C_block ?_
  refine C_loopIn (In_round ?_)
  refine C_seq ?_
  refine C_region ?_
  refine L_y rfl (y_lss rfl rfl) rfl ?_
  refine L_nil ?_
  refine C_seq ?_
  refine C_cond_t rfl ?_
  refine C_skip ?_
  refine C_seq ?_
  refine C_block ?_
  refine C_seq ?_
  refine C_region ?_
  refine L_y rfl (y_move rfl) rfl ?_
  refine L_y rfl (y_indexS rfl rfl Try.underlying111 sz_24 (by omega) (by omega) (show _ = 0 from rfl)) rfl ?_
  refine L_y rfl (y_load rfl ag_24 (sees 0 0 rfl) rfl) rfl ?_
  refine L_y rfl (y_assign rfl) rfl ?_
  refine L_y rfl (y_assign rfl) rfl ?_
  refine L_nil ?_
  refine C_seq ?_
  refine C_region ?_
  refine L_y rfl (y_move rfl) rfl ?_
  refine L_y rfl (y_move rfl) rfl ?_
  refine L_y rfl (y_move rfl) rfl ?_
  refine L_op rfl (op_makeMap rfl (fun B3 => ?_))
  refine L_y rfl (y_build (vs := [(0, _), (1, _)]) (l := [ptr bx, .map (some B3)]) rfl pl_107 zl_107 (fill_cons (off := 0) (m := 1) (vs := [_]) rfl rfl rfl (Nat.le_of_ble_eq_true rfl) (fill_cons (off := 1) (m := 1) (vs := [_]) rfl rfl rfl (Nat.le_of_ble_eq_true rfl) rfl))) rfl ?_
  refine L_y rfl (y_nilCheck rfl) rfl ?_
  refine L_y rfl (y_fieldAddr rfl fl_110_0) rfl ?_
  refine L_y rfl (y_indexA rfl rfl Try.underlying108 sz_107 (by omega) (by omega) (show _ = 0 from rfl)) rfl ?_
  refine L_op rfl (op_store (vs := [ptr bx, .map (some B3)]) 2 0 rfl rfl rfl sz_107 rfl rfl (ones rfl) (Nat.le_of_ble_eq_true rfl) ?_)
  rw [show spl [.pointer none, .map none, .pointer none, .map none, .int .i64 (((min A.a.S.length A.b.S.length) : Nat) : Int), .func (.func f) #[] cap.toArray] 0 [ptr bx, .map (some B3)] = [ptr bx, .map (some B3), .pointer none, .map none, .int .i64 (((min A.a.S.length A.b.S.length) : Nat) : Int), .func (.func f) #[] cap.toArray] from rfl]
  refine L_nil ?_
  refine C_seq ?_
  refine C_region ?_
  refine L_y rfl (y_assign rfl) rfl ?_
  refine L_nil ?_
  refine C_block ?_
  refine C_loop (ι := Nat) (fun j => [(7, ptr B1), (8, .int .i64 0), (10, .int .i64 (j : Int)), (21, .slice (some ⟨B2, 0, none⟩) 2 2), (22, .int .i64 2), (23, .int .i64 0)]) (fun j => [(B3, mapO (stN j) j)] :: [(B1, .cells [ptr bx, .map (some B3), .pointer none, .map none, .int .i64 (((min A.a.S.length A.b.S.length) : Nat) : Int), .func (.func f) #[] cap.toArray].toArray 110)] :: [(B2, .cells [ptr bx, ptr bys].toArray 24)] :: D.seg dt :: H) (fun j => j ≤ (min A.a.S.length A.b.S.length)) (fun j => (min A.a.S.length A.b.S.length) - j) 0 (Nat.zero_le _) ⟨rfl, rfl, rfl, rfl, rfl, rfl, trivial⟩ (hsub_pick [0, 1, 0, 0] rfl) (fun j hj => ?_)
  skip
  refine C_seq ?_
  refine C_seq ?_
  refine C_region ?_
  refine L_y rfl (y_move rfl) rfl ?_
  refine L_y rfl (y_move rfl) rfl ?_
  refine L_y rfl (y_nilCheck rfl) rfl ?_
  refine L_y rfl (y_fieldAddr rfl fl_110_1) rfl ?_
  refine L_y rfl (y_load rfl ag_3 (sees 1 0 rfl) rfl) rfl ?_
  refine L_y rfl (y_lss rfl rfl) rfl ?_
  refine L_y rfl (y_move rfl) rfl ?_
  refine L_case 42 rfl (fun hg7_7 => ?_) (fun hg7_7 => ?_)
  · have hj := of_decide_eq_true hg7_7
    refine L_y rfl (y_move rfl) rfl ?_
    refine L_y rfl (y_move rfl) rfl ?_
    refine L_y rfl (y_nilCheck rfl) rfl ?_
    refine L_y rfl (y_fieldAddr rfl fl_110_0) rfl ?_
    refine L_y rfl (y_indexA rfl rfl Try.underlying108 sz_107 (by omega) (by omega) (show _ = 0 from rfl)) rfl ?_
    refine L_y rfl (y_loadA rfl ag_107 sz_107 (sees 1 0 rfl) (Nat.le_of_ble_eq_true rfl) rfl) rfl ?_
    refine L_op rfl (op_call rfl rfl (fun a w => Try.call53 a w) rfl ?_)
    refine ((there_d h false).sub (hsub_pick [3] rfl)).mono ?_
    rintro _ _ ⟨rfl, rfl⟩
    rw [hp]
    refine ⟨_, rfl, ?_⟩
    refine L_y rfl (y_not rfl) rfl ?_
    refine L_y rfl (y_pick_t rfl rfl) rfl ?_
    refine L_nil ?_
    refine C_cond_t rfl ?_
    refine C_skip ?_
    refine C_seq ?_
    refine C_block ?_
    refine C_region ?_
    refine L_y rfl (y_move rfl) rfl ?_
    refine L_y rfl (y_move rfl) rfl ?_
    refine L_y rfl (y_nilCheck rfl) rfl ?_
    refine L_y rfl (y_fieldAddr rfl fl_110_0) rfl ?_
    refine L_y rfl (y_indexA rfl rfl Try.underlying108 sz_107 (by omega) (by omega) (show _ = 0 from rfl)) rfl ?_
    refine L_y rfl (y_fieldAddr rfl fl_107_1) rfl ?_
    refine L_y rfl (y_load rfl ag_105 (sees 2 0 rfl) rfl) rfl ?_
    refine L_y rfl (y_move rfl) rfl ?_
    refine L_op rfl (op_mapUpdate 1 0 rfl rfl rfl Try.underlying105 Try.underlying3 rfl rfl ?_)
    refine L_nil ?_
    refine C_region ?_
    refine L_y rfl (y_move rfl) rfl ?_
    refine L_y rfl (y_add rfl rfl (wi64 (by omega) (by omega))) rfl ?_
    refine L_y rfl (y_assign rfl) rfl ?_
    refine L_nil ?_
    refine ⟨j + 1, by omega, by omega, ⟨rfl, rfl, rfl, rfl, rfl, rfl, trivial⟩, ?_⟩
    rw [← (stN_put j).1, show mapO (kPut (stN j) j (j : Int)) (j + 1) = mapO (kPut (stN j) j (j : Int)) (kClk (stN j) j (j : Int)) from by rw [(stN_put j).2]]
    exact ((hsub (.cons_cons _ (.cons_cons _ (.cons_cons _ (.cons_cons _ (.refl _)))))).trans (hsub_pick [1, 1, 1, 0] rfl))
  · have hj := of_decide_eq_false hg7_7
    refine L_skip rfl rfl ?_
    refine L_skip rfl rfl ?_
    refine L_skip rfl rfl ?_
    refine L_skip rfl rfl ?_
    refine L_skip rfl rfl ?_
    refine L_skip rfl rfl ?_
    refine L_skip rfl rfl ?_
    refine L_skip rfl rfl ?_
    refine L_y rfl (y_pick_f rfl rfl) rfl ?_
    refine L_nil ?_
    refine C_cond_f rfl ?_
    refine C_exit ?_
    obtain rfl : j = (min A.a.S.length A.b.S.length) := by omega
    refine C_region ?_
    refine L_y rfl (y_add rfl rfl (show _ = (1 : Int) from rfl)) rfl ?_
    refine L_y rfl (y_move rfl) rfl ?_
    refine L_nil ?_
    refine In_round ?_
    refine C_seq ?_
    refine C_region ?_
    refine L_y rfl (y_lss rfl rfl) rfl ?_
    refine L_nil ?_
    refine C_seq ?_
    refine C_cond_t rfl ?_
    refine C_skip ?_
    refine C_seq ?_
    refine C_block ?_
    refine C_seq ?_
    refine C_region ?_
    refine L_y rfl (y_move rfl) rfl ?_
    refine L_y rfl (y_indexS rfl rfl Try.underlying111 sz_24 (by omega) (by omega) (show _ = 1 from rfl)) rfl ?_
    refine L_y rfl (y_load rfl ag_24 (sees 2 0 rfl) rfl) rfl ?_
    refine L_y rfl (y_assign rfl) rfl ?_
    refine L_y rfl (y_assign rfl) rfl ?_
    refine L_nil ?_
    refine C_seq ?_
    refine C_region ?_
    refine L_y rfl (y_move rfl) rfl ?_
    refine L_y rfl (y_move rfl) rfl ?_
    refine L_y rfl (y_move rfl) rfl ?_
    refine L_op rfl (op_makeMap rfl (fun B4 => ?_))
    refine L_y rfl (y_build (vs := [(0, _), (1, _)]) (l := [ptr bys, .map (some B4)]) rfl pl_107 zl_107 (fill_cons (off := 0) (m := 1) (vs := [_]) rfl rfl rfl (Nat.le_of_ble_eq_true rfl) (fill_cons (off := 1) (m := 1) (vs := [_]) rfl rfl rfl (Nat.le_of_ble_eq_true rfl) rfl))) rfl ?_
    refine L_y rfl (y_nilCheck rfl) rfl ?_
    refine L_y rfl (y_fieldAddr rfl fl_110_0) rfl ?_
    refine L_y rfl (y_indexA rfl rfl Try.underlying108 sz_107 (by omega) (by omega) (show _ = 2 from rfl)) rfl ?_
    refine L_op rfl (op_store (vs := [ptr bys, .map (some B4)]) 2 0 rfl rfl rfl sz_107 rfl rfl (ones rfl) (Nat.le_of_ble_eq_true rfl) ?_)
    rw [show spl [ptr bx, .map (some B3), .pointer none, .map none, .int .i64 (((min A.a.S.length A.b.S.length) : Nat) : Int), .func (.func f) #[] cap.toArray] 2 [ptr bys, .map (some B4)] = [ptr bx, .map (some B3), ptr bys, .map (some B4), .int .i64 (((min A.a.S.length A.b.S.length) : Nat) : Int), .func (.func f) #[] cap.toArray] from rfl]
    refine L_nil ?_
    refine C_seq ?_
    refine C_region ?_
    refine L_y rfl (y_assign rfl) rfl ?_
    refine L_nil ?_
    refine C_block ?_
    refine C_loopIn (In_round ?_)
    refine C_seq ?_
    refine C_seq ?_
    refine C_region ?_
    refine L_y rfl (y_move rfl) rfl ?_
    refine L_y rfl (y_move rfl) rfl ?_
    refine L_y rfl (y_nilCheck rfl) rfl ?_
    refine L_y rfl (y_fieldAddr rfl fl_110_1) rfl ?_
    refine L_y rfl (y_load rfl ag_3 (sees 2 0 rfl) rfl) rfl ?_
    refine L_y rfl (y_lss rfl rfl) rfl ?_
    refine L_y rfl (y_move rfl) rfl ?_
    refine L_case 42 rfl (fun hg7_7 => ?_) (fun hg7_7 => ?_)
    · have hj := of_decide_eq_true hg7_7
      refine L_y rfl (y_move rfl) rfl ?_
      refine L_y rfl (y_move rfl) rfl ?_
      refine L_y rfl (y_nilCheck rfl) rfl ?_
      refine L_y rfl (y_fieldAddr rfl fl_110_0) rfl ?_
      refine L_y rfl (y_indexA rfl rfl Try.underlying108 sz_107 (by omega) (by omega) (show _ = 2 from rfl)) rfl ?_
      refine L_y rfl (y_loadA rfl ag_107 sz_107 (sees 2 0 rfl) (Nat.le_of_ble_eq_true rfl) rfl) rfl ?_
      refine L_op rfl (op_call rfl rfl (fun a w => Try.call53 a w) rfl ?_)
      refine ((there_d h true).sub (hsub_pick [4] rfl)).mono ?_
      rintro _ _ ⟨rfl, rfl⟩
      rw [hq]
      refine ⟨_, rfl, ?_⟩
      refine L_y rfl (y_not rfl) rfl ?_
      refine L_y rfl (y_pick_t rfl rfl) rfl ?_
      refine L_nil ?_
      refine C_cond_f rfl ?_
      refine C_exit ?_
      refine C_region ?_
      refine L_y rfl (y_add rfl rfl (show _ = (2 : Int) from rfl)) rfl ?_
      refine L_y rfl (y_move rfl) rfl ?_
      refine L_nil ?_
      refine In_round ?_
      refine C_seq ?_
      refine C_region ?_
      refine L_y rfl (y_lss rfl rfl) rfl ?_
      refine L_nil ?_
      refine C_seq ?_
      refine C_cond_f rfl ?_
      refine C_exit ?_
      refine C_seq ?_
      refine C_region ?_
      refine L_y rfl (y_move rfl) rfl ?_
      refine L_y rfl (y_assign rfl) rfl ?_
      refine L_nil ?_
      refine C_ret ?_
      refine B_ret (rv_tmp rfl rv_nil) ((hsub_flat (H := [_] :: [_] :: [_] :: D.seg dt :: H) (H' := Mi.seg 110 ⟨B1, B3, B4, bx, bys, (min A.a.S.length A.b.S.length), .func (.func f) #[] cap.toArray, stale0 false (min A.a.S.length A.b.S.length), (if false then 0 else (min A.a.S.length A.b.S.length)), stale0 true (min A.a.S.length A.b.S.length), (if true then 0 else (min A.a.S.length A.b.S.length))⟩ :: D.seg dt :: H) rfl).trans ((hsub (.cons_cons _ (.cons_cons _ (.cons_cons _ (.cons_cons _ (.cons _ (.refl _))))))).trans (hsub_pick [3, 2, 1, 0] rfl))) ?_
      exact ⟨B1, B3, B4, rfl, by simp only [mnew, stale0, hp, hq] <;> rfl⟩
    · have hj := of_decide_eq_false hg7_7
      refine L_skip rfl rfl ?_
      refine L_skip rfl rfl ?_
      refine L_skip rfl rfl ?_
      refine L_skip rfl rfl ?_
      refine L_skip rfl rfl ?_
      refine L_skip rfl rfl ?_
      refine L_skip rfl rfl ?_
      refine L_skip rfl rfl ?_
      refine L_y rfl (y_pick_f rfl rfl) rfl ?_
      refine L_nil ?_
      refine C_cond_f rfl ?_
      refine C_exit ?_
      refine C_region ?_
      refine L_y rfl (y_add rfl rfl (show _ = (2 : Int) from rfl)) rfl ?_
      refine L_y rfl (y_move rfl) rfl ?_
      refine L_nil ?_
      refine In_round ?_
      refine C_seq ?_
      refine C_region ?_
      refine L_y rfl (y_lss rfl rfl) rfl ?_
      refine L_nil ?_
      refine C_seq ?_
      refine C_cond_f rfl ?_
      refine C_exit ?_
      refine C_seq ?_
      refine C_region ?_
      refine L_y rfl (y_move rfl) rfl ?_
      refine L_y rfl (y_assign rfl) rfl ?_
      refine L_nil ?_
      refine C_ret ?_
      refine B_ret (rv_tmp rfl rv_nil) ((hsub_flat (H := [_] :: [_] :: [_] :: D.seg dt :: H) (H' := Mi.seg 110 ⟨B1, B3, B4, bx, bys, (min A.a.S.length A.b.S.length), .func (.func f) #[] cap.toArray, stale0 false (min A.a.S.length A.b.S.length), (if false then 0 else (min A.a.S.length A.b.S.length)), stale0 true (min A.a.S.length A.b.S.length), (if true then 0 else (min A.a.S.length A.b.S.length))⟩ :: D.seg dt :: H) rfl).trans ((hsub (.cons_cons _ (.cons_cons _ (.cons_cons _ (.cons_cons _ (.cons _ (.refl _))))))).trans (hsub_pick [2, 1, 0, 1] rfl))) ?_
      exact ⟨B1, B3, B4, rfl, by simp only [mnew, stale0, hp, hq] <;> rfl⟩

set_option maxHeartbeats 4000000 in

theorem new_fn_ff {w0 : World} {H : Hp} {f : Nat} {cap : List Value} {D : Duo} {A : Da} {bx bys bp : Nat} (h : Two dt D A bx bys bp) (hp : thr A false = false) (hq : thr A true = false) : FnS Try.prog w0 17 #[ptr bx, ptr bys, .func (.func f) #[] cap.toArray] (D.seg dt :: H) (fun e H' => ∃ b r0 r1, e = .returned (ptr b) ∧ H' = (mnew A bx bys (.func (.func f) #[] cap.toArray) b r0 r1).seg 110 :: D.seg dt :: H) := by
  have hlen : A.a.S.length ≤ 4096 := (h.oks false).2.1
  refine FnS_intro (n := 64) (rs := [.tmp 6]) (vs := [ptr bx, ptr bys, .func (.func f) #[] cap.toArray]) Try.func17 rfl Try.ntmps17 rfl rfl ?_
  refine C_seq ?_
  refine C_region ?_
  refine L_y rfl (y_assign rfl) rfl ?_
  refine L_nil ?_
  refine C_seq ?_
  refine C_region ?_
  refine L_y rfl (y_move rfl) rfl ?_
  refine L_op rfl (op_call rfl rfl (fun a w => Try.call52 a w) rfl ?_)
  refine ((len_d h false).sub (hsub_pick [0] rfl)).mono ?_
  rintro _ _ ⟨rfl, rfl⟩
  refine ⟨_, rfl, ?_⟩
  refine L_y rfl (y_move rfl) rfl ?_
  refine L_op rfl (op_call rfl rfl (fun a w => Try.call52 a w) rfl ?_)
  refine ((len_d h true).sub (hsub_pick [0] rfl)).mono ?_
  rintro _ _ ⟨rfl, rfl⟩
  refine ⟨_, rfl, ?_⟩
  refine L_y rfl (y_minN rfl rfl) rfl ?_
  refine L_y rfl (y_move rfl) rfl ?_
  refine L_y rfl (y_build (vs := [(1, _), (2, _)]) (l := [.pointer none, .map none, .pointer none, .map none, .int .i64 (((min A.a.S.length A.b.S.length) : Nat) : Int), .func (.func f) #[] cap.toArray]) rfl pl_110 zl_110 (fill_cons (off := 4) (m := 1) (vs := [_]) rfl rfl rfl (Nat.le_of_ble_eq_true rfl) (fill_cons (off := 5) (m := 1) (vs := [_]) rfl rfl rfl (Nat.le_of_ble_eq_true rfl) rfl))) rfl ?_
  refine L_op rfl (op_box rfl rfl rfl (fun B1 => ?_))
  refine L_y rfl (y_assign rfl) rfl ?_
  refine L_nil ?_
  refine C_seq ?_
  refine C_seq ?_
  refine C_region ?_
  refine L_y rfl (y_move rfl) rfl ?_
  refine L_y rfl (y_move rfl) rfl ?_
  refine L_op rfl (op_buildSlice (vs := [(0, _), (1, _)]) rfl Try.underlying111 sz_24 zl_24 rfl (by decide) rfl rfl (fun B2 => ?_))
  refine L_y rfl (y_lenS rfl rfl Try.underlying111) rfl ?_
  refine L_y rfl (y_move rfl) rfl ?_
  refine L_nil ?_
  refine C_block ?_
  refine C_loopIn (In_round ?_)
  refine C_seq ?_
  refine C_region ?_
  refine L_y rfl (y_lss rfl rfl) rfl ?_
  refine L_nil ?_
  refine C_seq ?_
  refine C_cond_t rfl ?_
  refine C_skip ?_
  refine C_seq ?_
  refine C_block ?_
  refine C_seq ?_
  refine C_region ?_
  refine L_y rfl (y_move rfl) rfl ?_
  refine L_y rfl (y_indexS rfl rfl Try.underlying111 sz_24 (by omega) (by omega) (show _ = 0 from rfl)) rfl ?_
  refine L_y rfl (y_load rfl ag_24 (sees 0 0 rfl) rfl) rfl ?_
  refine L_y rfl (y_assign rfl) rfl ?_
  refine L_y rfl (y_assign rfl) rfl ?_
  refine L_nil ?_
  refine C_seq ?_
  refine C_region ?_
  refine L_y rfl (y_move rfl) rfl ?_
  refine L_y rfl (y_move rfl) rfl ?_
  refine L_y rfl (y_move rfl) rfl ?_
  refine L_op rfl (op_makeMap rfl (fun B3 => ?_))
  refine L_y rfl (y_build (vs := [(0, _), (1, _)]) (l := [ptr bx, .map (some B3)]) rfl pl_107 zl_107 (fill_cons (off := 0) (m := 1) (vs := [_]) rfl rfl rfl (Nat.le_of_ble_eq_true rfl) (fill_cons (off := 1) (m := 1) (vs := [_]) rfl rfl rfl (Nat.le_of_ble_eq_true rfl) rfl))) rfl ?_
  refine L_y rfl (y_nilCheck rfl) rfl ?_
  refine L_y rfl (y_fieldAddr rfl fl_110_0) rfl ?_
  refine L_y rfl (y_indexA rfl rfl Try.underlying108 sz_107 (by omega) (by omega) (show _ = 0 from rfl)) rfl ?_
  refine L_op rfl (op_store (vs := [ptr bx, .map (some B3)]) 2 0 rfl rfl rfl sz_107 rfl rfl (ones rfl) (Nat.le_of_ble_eq_true rfl) ?_)
  rw [show spl [.pointer none, .map none, .pointer none, .map none, .int .i64 (((min A.a.S.length A.b.S.length) : Nat) : Int), .func (.func f) #[] cap.toArray] 0 [ptr bx, .map (some B3)] = [ptr bx, .map (some B3), .pointer none, .map none, .int .i64 (((min A.a.S.length A.b.S.length) : Nat) : Int), .func (.func f) #[] cap.toArray] from rfl]
  refine L_nil ?_
  refine C_seq ?_
  refine C_region ?_
  refine L_y rfl (y_assign rfl) rfl ?_
  refine L_nil ?_
  refine C_block ?_
  refine C_loop (ι := Nat) (fun j => [(7, ptr B1), (8, .int .i64 0), (10, .int .i64 (j : Int)), (21, .slice (some ⟨B2, 0, none⟩) 2 2), (22, .int .i64 2), (23, .int .i64 0)]) (fun j => [(B3, mapO (stN j) j)] :: [(B1, .cells [ptr bx, .map (some B3), .pointer none, .map none, .int .i64 (((min A.a.S.length A.b.S.length) : Nat) : Int), .func (.func f) #[] cap.toArray].toArray 110)] :: [(B2, .cells [ptr bx, ptr bys].toArray 24)] :: D.seg dt :: H) (fun j => j ≤ (min A.a.S.length A.b.S.length)) (fun j => (min A.a.S.length A.b.S.length) - j) 0 (Nat.zero_le _) ⟨rfl, rfl, rfl, rfl, rfl, rfl, trivial⟩ (hsub_pick [0, 1, 0, 0] rfl) (fun j hj => ?_)
  skip
  refine C_seq ?_
  refine C_seq ?_
  refine C_region ?_
  refine L_y rfl (y_move rfl) rfl ?_
  refine L_y rfl (y_move rfl) rfl ?_
  refine L_y rfl (y_nilCheck rfl) rfl ?_
  refine L_y rfl (y_fieldAddr rfl fl_110_1) rfl ?_
  refine L_y rfl (y_load rfl ag_3 (sees 1 0 rfl) rfl) rfl ?_
  refine L_y rfl (y_lss rfl rfl) rfl ?_
  refine L_y rfl (y_move rfl) rfl ?_
  refine L_case 42 rfl (fun hg7_7 => ?_) (fun hg7_7 => ?_)
  · have hj := of_decide_eq_true hg7_7
    refine L_y rfl (y_move rfl) rfl ?_
    refine L_y rfl (y_move rfl) rfl ?_
    refine L_y rfl (y_nilCheck rfl) rfl ?_
    refine L_y rfl (y_fieldAddr rfl fl_110_0) rfl ?_
    refine L_y rfl (y_indexA rfl rfl Try.underlying108 sz_107 (by omega) (by omega) (show _ = 0 from rfl)) rfl ?_
    refine L_y rfl (y_loadA rfl ag_107 sz_107 (sees 1 0 rfl) (Nat.le_of_ble_eq_true rfl) rfl) rfl ?_
    refine L_op rfl (op_call rfl rfl (fun a w => Try.call53 a w) rfl ?_)
    refine ((there_d h false).sub (hsub_pick [3] rfl)).mono ?_
    rintro _ _ ⟨rfl, rfl⟩
    rw [hp]
    refine ⟨_, rfl, ?_⟩
    refine L_y rfl (y_not rfl) rfl ?_
    refine L_y rfl (y_pick_t rfl rfl) rfl ?_
    refine L_nil ?_
    refine C_cond_t rfl ?_
    refine C_skip ?_
    refine C_seq ?_
    refine C_block ?_
    refine C_region ?_
    refine L_y rfl (y_move rfl) rfl ?_
    refine L_y rfl (y_move rfl) rfl ?_
    refine L_y rfl (y_nilCheck rfl) rfl ?_
    refine L_y rfl (y_fieldAddr rfl fl_110_0) rfl ?_
    refine L_y rfl (y_indexA rfl rfl Try.underlying108 sz_107 (by omega) (by omega) (show _ = 0 from rfl)) rfl ?_
    refine L_y rfl (y_fieldAddr rfl fl_107_1) rfl ?_
    refine L_y rfl (y_load rfl ag_105 (sees 2 0 rfl) rfl) rfl ?_
    refine L_y rfl (y_move rfl) rfl ?_
    refine L_op rfl (op_mapUpdate 1 0 rfl rfl rfl Try.underlying105 Try.underlying3 rfl rfl ?_)
    refine L_nil ?_
    refine C_region ?_
    refine L_y rfl (y_move rfl) rfl ?_
    refine L_y rfl (y_add rfl rfl (wi64 (by omega) (by omega))) rfl ?_
    refine L_y rfl (y_assign rfl) rfl ?_
    refine L_nil ?_
    refine ⟨j + 1, by omega, by omega, ⟨rfl, rfl, rfl, rfl, rfl, rfl, trivial⟩, ?_⟩
    rw [← (stN_put j).1, show mapO (kPut (stN j) j (j : Int)) (j + 1) = mapO (kPut (stN j) j (j : Int)) (kClk (stN j) j (j : Int)) from by rw [(stN_put j).2]]
    exact ((hsub (.cons_cons _ (.cons_cons _ (.cons_cons _ (.cons_cons _ (.refl _)))))).trans (hsub_pick [1, 1, 1, 0] rfl))
  · have hj := of_decide_eq_false hg7_7
    refine L_skip rfl rfl ?_
    refine L_skip rfl rfl ?_
    refine L_skip rfl rfl ?_
    refine L_skip rfl rfl ?_
    refine L_skip rfl rfl ?_
    refine L_skip rfl rfl ?_
    refine L_skip rfl rfl ?_
    refine L_skip rfl rfl ?_
    refine L_y rfl (y_pick_f rfl rfl) rfl ?_
    refine L_nil ?_
    refine C_cond_f rfl ?_
    refine C_exit ?_
    obtain rfl : j = (min A.a.S.length A.b.S.length) := by omega
    refine C_region ?_
    refine L_y rfl (y_add rfl rfl (show _ = (1 : Int) from rfl)) rfl ?_
    refine L_y rfl (y_move rfl) rfl ?_
    refine L_nil ?_
    refine In_round ?_
    refine C_seq ?_
    refine C_region ?_
    refine L_y rfl (y_lss rfl rfl) rfl ?_
    refine L_nil ?_
    refine C_seq ?_
    refine C_cond_t rfl ?_
    refine C_skip ?_
    refine C_seq ?_
    refine C_block ?_
    refine C_seq ?_
    refine C_region ?_
    refine L_y rfl (y_move rfl) rfl ?_
    refine L_y rfl (y_indexS rfl rfl Try.underlying111 sz_24 (by omega) (by omega) (show _ = 1 from rfl)) rfl ?_
    refine L_y rfl (y_load rfl ag_24 (sees 2 0 rfl) rfl) rfl ?_
    refine L_y rfl (y_assign rfl) rfl ?_
    refine L_y rfl (y_assign rfl) rfl ?_
    refine L_nil ?_
    refine C_seq ?_
    refine C_region ?_
    refine L_y rfl (y_move rfl) rfl ?_
    refine L_y rfl (y_move rfl) rfl ?_
    refine L_y rfl (y_move rfl) rfl ?_
    refine L_op rfl (op_makeMap rfl (fun B4 => ?_))
    refine L_y rfl (y_build (vs := [(0, _), (1, _)]) (l := [ptr bys, .map (some B4)]) rfl pl_107 zl_107 (fill_cons (off := 0) (m := 1) (vs := [_]) rfl rfl rfl (Nat.le_of_ble_eq_true rfl) (fill_cons (off := 1) (m := 1) (vs := [_]) rfl rfl rfl (Nat.le_of_ble_eq_true rfl) rfl))) rfl ?_
    refine L_y rfl (y_nilCheck rfl) rfl ?_
    refine L_y rfl (y_fieldAddr rfl fl_110_0) rfl ?_
    refine L_y rfl (y_indexA rfl rfl Try.underlying108 sz_107 (by omega) (by omega) (show _ = 2 from rfl)) rfl ?_
    refine L_op rfl (op_store (vs := [ptr bys, .map (some B4)]) 2 0 rfl rfl rfl sz_107 rfl rfl (ones rfl) (Nat.le_of_ble_eq_true rfl) ?_)
    rw [show spl [ptr bx, .map (some B3), .pointer none, .map none, .int .i64 (((min A.a.S.length A.b.S.length) : Nat) : Int), .func (.func f) #[] cap.toArray] 2 [ptr bys, .map (some B4)] = [ptr bx, .map (some B3), ptr bys, .map (some B4), .int .i64 (((min A.a.S.length A.b.S.length) : Nat) : Int), .func (.func f) #[] cap.toArray] from rfl]
    refine L_nil ?_
    refine C_seq ?_
    refine C_region ?_
    refine L_y rfl (y_assign rfl) rfl ?_
    refine L_nil ?_
    refine C_block ?_
    refine C_loop (ι := Nat) (fun j => [(7, ptr B1), (8, .int .i64 1), (10, .int .i64 (j : Int)), (21, .slice (some ⟨B2, 0, none⟩) 2 2), (22, .int .i64 2), (23, .int .i64 1)]) (fun j => [(B4, mapO (stN j) j)] :: [(B1, .cells [ptr bx, .map (some B3), ptr bys, .map (some B4), .int .i64 (((min A.a.S.length A.b.S.length) : Nat) : Int), .func (.func f) #[] cap.toArray].toArray 110)] :: [(B2, .cells [ptr bx, ptr bys].toArray 24)] :: D.seg dt :: [(B3, mapO (stale0 false (min A.a.S.length A.b.S.length)) (if false then 0 else (min A.a.S.length A.b.S.length)))] :: H) (fun j => j ≤ (min A.a.S.length A.b.S.length)) (fun j => (min A.a.S.length A.b.S.length) - j) 0 (Nat.zero_le _) ⟨rfl, rfl, rfl, rfl, rfl, rfl, trivial⟩ (hsub_pick [0, 1, 1, 1, 0] rfl) (fun j hj => ?_)
    skip
    refine C_seq ?_
    refine C_seq ?_
    refine C_region ?_
    refine L_y rfl (y_move rfl) rfl ?_
    refine L_y rfl (y_move rfl) rfl ?_
    refine L_y rfl (y_nilCheck rfl) rfl ?_
    refine L_y rfl (y_fieldAddr rfl fl_110_1) rfl ?_
    refine L_y rfl (y_load rfl ag_3 (sees 1 0 rfl) rfl) rfl ?_
    refine L_y rfl (y_lss rfl rfl) rfl ?_
    refine L_y rfl (y_move rfl) rfl ?_
    refine L_case 42 rfl (fun hg7_7 => ?_) (fun hg7_7 => ?_)
    · have hj := of_decide_eq_true hg7_7
      refine L_y rfl (y_move rfl) rfl ?_
      refine L_y rfl (y_move rfl) rfl ?_
      refine L_y rfl (y_nilCheck rfl) rfl ?_
      refine L_y rfl (y_fieldAddr rfl fl_110_0) rfl ?_
      refine L_y rfl (y_indexA rfl rfl Try.underlying108 sz_107 (by omega) (by omega) (show _ = 2 from rfl)) rfl ?_
      refine L_y rfl (y_loadA rfl ag_107 sz_107 (sees 1 0 rfl) (Nat.le_of_ble_eq_true rfl) rfl) rfl ?_
      refine L_op rfl (op_call rfl rfl (fun a w => Try.call53 a w) rfl ?_)
      refine ((there_d h true).sub (hsub_pick [3] rfl)).mono ?_
      rintro _ _ ⟨rfl, rfl⟩
      rw [hq]
      refine ⟨_, rfl, ?_⟩
      refine L_y rfl (y_not rfl) rfl ?_
      refine L_y rfl (y_pick_t rfl rfl) rfl ?_
      refine L_nil ?_
      refine C_cond_t rfl ?_
      refine C_skip ?_
      refine C_seq ?_
      refine C_block ?_
      refine C_region ?_
      refine L_y rfl (y_move rfl) rfl ?_
      refine L_y rfl (y_move rfl) rfl ?_
      refine L_y rfl (y_nilCheck rfl) rfl ?_
      refine L_y rfl (y_fieldAddr rfl fl_110_0) rfl ?_
      refine L_y rfl (y_indexA rfl rfl Try.underlying108 sz_107 (by omega) (by omega) (show _ = 2 from rfl)) rfl ?_
      refine L_y rfl (y_fieldAddr rfl fl_107_1) rfl ?_
      refine L_y rfl (y_load rfl ag_105 (sees 2 0 rfl) rfl) rfl ?_
      refine L_y rfl (y_move rfl) rfl ?_
      refine L_op rfl (op_mapUpdate 1 0 rfl rfl rfl Try.underlying105 Try.underlying3 rfl rfl ?_)
      refine L_nil ?_
      refine C_region ?_
      refine L_y rfl (y_move rfl) rfl ?_
      refine L_y rfl (y_add rfl rfl (wi64 (by omega) (by omega))) rfl ?_
      refine L_y rfl (y_assign rfl) rfl ?_
      refine L_nil ?_
      refine ⟨j + 1, by omega, by omega, ⟨rfl, rfl, rfl, rfl, rfl, rfl, trivial⟩, ?_⟩
      rw [← (stN_put j).1, show mapO (kPut (stN j) j (j : Int)) (j + 1) = mapO (kPut (stN j) j (j : Int)) (kClk (stN j) j (j : Int)) from by rw [(stN_put j).2]]
      exact ((hsub (.cons_cons _ (.cons_cons _ (.cons_cons _ (.cons_cons _ (.cons_cons _ (.refl _))))))).trans (hsub_pick [1, 1, 1, 0, 0] rfl))
    · have hj := of_decide_eq_false hg7_7
      refine L_skip rfl rfl ?_
      refine L_skip rfl rfl ?_
      refine L_skip rfl rfl ?_
      refine L_skip rfl rfl ?_
      refine L_skip rfl rfl ?_
      refine L_skip rfl rfl ?_
      refine L_skip rfl rfl ?_
      refine L_skip rfl rfl ?_
      refine L_y rfl (y_pick_f rfl rfl) rfl ?_
      refine L_nil ?_
      refine C_cond_f rfl ?_
      refine C_exit ?_
      obtain rfl : j = (min A.a.S.length A.b.S.length) := by omega
      refine C_region ?_
      refine L_y rfl (y_add rfl rfl (show _ = (2 : Int) from rfl)) rfl ?_
      refine L_y rfl (y_move rfl) rfl ?_
      refine L_nil ?_
      refine In_round ?_
      refine C_seq ?_
      refine C_region ?_
      refine L_y rfl (y_lss rfl rfl) rfl ?_
      refine L_nil ?_
      refine C_seq ?_
      refine C_cond_f rfl ?_
      refine C_exit ?_
      refine C_seq ?_
      refine C_region ?_
      refine L_y rfl (y_move rfl) rfl ?_
      refine L_y rfl (y_assign rfl) rfl ?_
      refine L_nil ?_
      refine C_ret ?_
      refine B_ret (rv_tmp rfl rv_nil) ((hsub_flat (H := [_] :: [_] :: [_] :: D.seg dt :: H) (H' := Mi.seg 110 ⟨B1, B3, B4, bx, bys, (min A.a.S.length A.b.S.length), .func (.func f) #[] cap.toArray, stale0 false (min A.a.S.length A.b.S.length), (if false then 0 else (min A.a.S.length A.b.S.length)), stale0 false (min A.a.S.length A.b.S.length), (if false then 0 else (min A.a.S.length A.b.S.length))⟩ :: D.seg dt :: H) rfl).trans ((hsub (.cons_cons _ (.cons_cons _ (.cons_cons _ (.cons_cons _ (.cons _ (.refl _))))))).trans (hsub_pick [1, 3, 0, 1] rfl))) ?_
      exact ⟨B1, B3, B4, rfl, by simp only [mnew, stale0, hp, hq] <;> rfl⟩

theorem mnew_fn {w0 : World} {H : Hp} {f : Nat} {cap : List Value} {D : Duo} {A : Da} {bx bys bp : Nat} (h : Two dt D A bx bys bp) : FnS Try.prog w0 17 #[ptr bx, ptr bys, .func (.func f) #[] cap.toArray] (D.seg dt :: H) (fun e H' => ∃ b r0 r1, e = .returned (ptr b) ∧ H' = (mnew A bx bys (.func (.func f) #[] cap.toArray) b r0 r1).seg 110 :: D.seg dt :: H) := by
  cases hp : thr A false <;> cases hq : thr A true
  · exact new_fn_ff h hp hq
  · exact new_fn_ft h hp hq
  · exact new_fn_tf h hp hq
  · exact new_fn_tt h hp hq

end Go.Proofs.Ytjjiclgbdenkkaa

/- walks (own work; the walks' lines by a program of this repo). -/
set_option linter.unusedVariables false
set_option linter.unusedSimpArgs false
set_option maxRecDepth 20000
namespace Go.Proofs.Ytjjiclgbdenkkaa
open Go.Sl
attribute [local irreducible] BodyQ WpC WpL WpS WpH OpW FnS


theorem new_v {w0 : World} {H : Hp} {f : Nat} {cap : List Value} {D : Duo} {A : Da} {K : Nat} {X Y : List Sec} {k0 k1 bx bys bp : Nat} (hT : Two dt D A bx bys bp) (hv : Vw A K X Y k0 k1) (hX : ∀ s ∈ X, s.length = 128) (hY : ∀ s ∈ Y, s.length = 128) : FnS Try.prog w0 17 #[ptr bx, ptr bys, .func (.func f) #[] cap.toArray] (D.seg dt :: H) (fun e H' => ∃ mb m, Ms dt (.func (.func f) #[] cap.toArray) D A m K X Y k0 k1 mb bx bys bp ∧ e = .returned (ptr mb) ∧ H' = m.seg 110 :: D.seg dt :: H) := by
  refine (mnew_fn hT).mono ?_
  rintro _ _ ⟨b, r0, r1, rfl, rfl⟩
  exact ⟨b, _, Ms.new hT hv b r0 r1 hX hY, rfl, rfl⟩

end Go.Proofs.Ytjjiclgbdenkkaa

/- Scrubbing: what the laws say of it (own work). -/
set_option linter.unusedVariables false
set_option linter.unusedSimpArgs false
namespace Go.Sl
section
variable {p : Int → Sec → Bool} {n : Nat} {a b s t : Sec}
def rdv (p : Int → Sec → Bool) (n : Int) (s t : Sec) : Sec := if p n s then s else if p n t then t else secOf 0
def rde (p : Int → Sec → Bool) (n : Int) (s t : Sec) : Int := if p n s || p n t then 0 else 9
/-- What both tell. -/
def gl (p : Int → Sec → Bool) (n : Int) (s t : Sec) : List Sec := (if p n s then [s] else []) ++ (if p n t then [t] else [])
end
section
variable {t : DT} {gv : Value} {D : Duo} {A : Da} {m : Mi} {K : Nat} {X Y : List Sec} {k0 k1 mb bx bys bp : Nat} {p : Int → Sec → Bool} {n : Nat} {u v : Sec}
theorem Ms.has (h : Ms t gv D A m K X Y k0 k1 mb bx bys bp) (hn : n < K) : m.has (n : Int) = true := by
  have := h.n
  simp [Mi.has]; omega
theorem Ms.rd (h : Ms t gv D A m K X Y k0 k1 mb bx bys bp) (hu : X[n]? = some u) (hv : Y[n]? = some v) : mrS m A p n = rdv p n u v ∧ mrE m A p n = rde p n u v := by
  have hn : n < K := by have := (List.getElem?_eq_some_iff.1 hu).1; have := h.vw.a.wlen; omega
  obtain ⟨r0, e0⟩ := h.vw.reads false (s := u) hu
  obtain ⟨r1, e1⟩ := h.vw.reads true (s := v) hv
  have z0 : kHas m.k0 (n : Int) = false := by rw [h.s0]; rfl
  have z1 : kHas m.k1 (n : Int) = false := by rw [h.s1]; rfl
  have o0 : okAt A false m.k0 p n = p n u := by simp [okAt, e0, z0, r0]
  have o1 : okAt A true m.k1 p n = p n v := by simp [okAt, e1, z1, r1]
  unfold mrS mrE rdv rde
  rw [h.has hn, h.vw.thr false, h.vw.thr true, o0, o1, r0, r1]
  cases p n u <;> cases p n v <;> simp
theorem Ms.both (h : Ms t gv D A m K X Y k0 k1 mb bx bys bp) (hu : X[n]? = some u) (hv : Y[n]? = some v) : bothS m A p n = gl p n u v := by
  have hn : n < K := by have := (List.getElem?_eq_some_iff.1 hu).1; have := h.vw.a.wlen; omega
  obtain ⟨r0, e0⟩ := h.vw.reads false (s := u) hu
  obtain ⟨r1, e1⟩ := h.vw.reads true (s := v) hv
  unfold bothS gl
  rw [h.has hn, h.vw.thr false, h.vw.thr true, e0, e1, r0, r1]
  simp
end
end Go.Sl
namespace Go.Sl
/-- What is read, place by place. -/
def rvs (p : Int → Sec → Bool) (X Y : List Sec) (k : Nat) : List Sec := (List.range k).map fun (j : Nat) => rdv p (j : Int) (gt X j) (gt Y j)
def res (p : Int → Sec → Bool) (X Y : List Sec) (k : Nat) : List Int := (List.range k).map fun (j : Nat) => rde p (j : Int) (gt X j) (gt Y j)
section
variable {p : Int → Sec → Bool} {X Y : List Sec} {k n : Nat} {s t : Sec}
theorem gt_is (hs : X[k]? = some s) : gt X k = s := by simp [gt, List.getD, hs]
end
end Go.Sl

/- walks (own work; the walks' lines by a program of this repo). -/
set_option linter.unusedVariables false
set_option linter.unusedSimpArgs false
set_option maxRecDepth 20000
namespace Go.Proofs.Ytjjiclgbdenkkaa
open Go.Sl
attribute [local irreducible] BodyQ WpC WpL WpS WpH OpW FnS


theorem mread_no {w0 : World} {H : Hp} {D : Duo} {A : Da} {bp : Nat} {m : Mi} (h : Two dt D A m.bx m.bys bp) {p : Int → Sec → Bool} (hG : GoodAt Try.prog w0 H m.gv p) (n : Int) (hn : m.has n = false) : FnS Try.prog w0 22 #[ptr m.b, .int .i64 n] (m.seg 110 :: D.seg dt :: H) (fun e H' => e = .returned (.tuple #[.agg (bs (mrS m A p n)).toArray, .int .i64 (mrE m A p n)]) ∧ H' = m.seg 110 :: D.seg dt :: H) := by
  refine FnS_intro (n := 63) (rs := [.cell 4 32, .tmp 5]) (vs := [ptr m.b, .int .i64 n]) Try.func22 rfl Try.ntmps22 rfl rfl ?_
  refine C_seq ?_
  refine C_region ?_
  refine L_op rfl (op_alloc zl_32 rfl (fun B1 => ?_))
  refine L_y rfl (y_assign rfl) rfl ?_
  refine L_nil ?_
  refine C_seq ?_
  refine C_seq ?_
  refine C_region ?_
  refine L_y rfl (y_move rfl) rfl ?_
  refine L_y rfl (y_move rfl) rfl ?_
  refine L_op rfl (op_call rfl rfl (fun a w => Try.call58 a w) rfl ?_)
  refine (has_m _ (sees 1 0 rfl)).mono ?_
  rintro _ _ ⟨rfl, rfl⟩
  rw [hn]
  refine ⟨_, rfl, ?_⟩
  refine L_y rfl (y_not rfl) rfl ?_
  refine L_nil ?_
  refine C_cond_t rfl ?_
  refine C_seq ?_
  refine C_region ?_
  refine L_y rfl (y_buildA0 Try.underlying32 sz_5 zl_32) rfl ?_
  refine L_op rfl (op_storeA 0 0 rfl rfl rfl sz_32 (by rw [zsec, bs_length, secOf_len]) rfl (by rw [zsec]; exact bs_one _) (by simp) ?_)
  rw [zsec]
  refine L_y rfl (y_assign rfl) rfl ?_
  refine L_nil ?_
  refine C_ret ?_
  refine B_ret (rv_cellA rfl ag_32 sz_32 (sees 0 0 rfl) (by first | (rw [bs_length, rS_len _ h.oks]; decide) | (rw [bs_length, secOf_len]; decide)) (by first | exact bs_whole0 _ (rS_len _ h.oks) | exact bs_whole0 _ (secOf_len 0)) (rv_tmp rfl rv_nil)) ((hsub (.cons_cons _ (.cons_cons _ (.cons _ (.refl _))))).trans (hsub_pick [1, 1] rfl)) ?_
  exact ⟨by simp_all [mrE, mrS, okAt] <;> rfl, rfl⟩

theorem mread_tt {w0 : World} {H : Hp} {D : Duo} {A : Da} {bp : Nat} {m : Mi} (h : Two dt D A m.bx m.bys bp) {p : Int → Sec → Bool} (hG : GoodAt Try.prog w0 H m.gv p) (n : Int) (hn : m.has n = true) (hp : thr A false = true) (hq : thr A true = true) : FnS Try.prog w0 22 #[ptr m.b, .int .i64 n] (m.seg 110 :: D.seg dt :: H) (fun e H' => e = .returned (.tuple #[.agg (bs (mrS m A p n)).toArray, .int .i64 (mrE m A p n)]) ∧ H' = m.seg 110 :: D.seg dt :: H) := by
  refine FnS_intro (n := 63) (rs := [.cell 4 32, .tmp 5]) (vs := [ptr m.b, .int .i64 n]) Try.func22 rfl Try.ntmps22 rfl rfl ?_
  refine C_seq ?_
  refine C_region ?_
  refine L_op rfl (op_alloc zl_32 rfl (fun B1 => ?_))
  refine L_y rfl (y_assign rfl) rfl ?_
  refine L_nil ?_
  refine C_seq ?_
  refine C_seq ?_
  refine C_region ?_
  refine L_y rfl (y_move rfl) rfl ?_
  refine L_y rfl (y_move rfl) rfl ?_
  refine L_op rfl (op_call rfl rfl (fun a w => Try.call58 a w) rfl ?_)
  refine (has_m _ (sees 1 0 rfl)).mono ?_
  rintro _ _ ⟨rfl, rfl⟩
  rw [hn]
  refine ⟨_, rfl, ?_⟩
  refine L_y rfl (y_not rfl) rfl ?_
  refine L_nil ?_
  refine C_cond_f rfl ?_
  refine C_skip ?_
  refine C_seq ?_
  refine C_region ?_
  refine L_y rfl (y_move rfl) rfl ?_
  refine L_op rfl (op_call rfl rfl (fun a w => Try.call59 a w) rfl ?_)
  refine ((present_tt h hp hq).sub (hsub_pick [1, 1] rfl)).mono ?_
  rintro _ _ ⟨g1, hg1, rfl, rfl⟩
  cases g1 with
  | none => exact slOk_none hg1 (by decide)
  | some g1 => ?_
  refine ⟨_, rfl, ?_⟩
  refine L_y rfl (y_assign rfl) rfl ?_
  refine L_nil ?_
  refine C_seq ?_
  refine C_seq ?_
  refine C_region ?_
  refine L_y rfl (y_move rfl) rfl ?_
  refine L_y rfl (y_lenS rfl rfl Try.underlying118) rfl ?_
  refine L_y rfl (y_eqi rfl rfl) rfl ?_
  refine L_nil ?_
  refine C_cond_f rfl ?_
  refine C_skip ?_
  refine C_seq ?_
  refine C_seq ?_
  refine C_region ?_
  refine L_y rfl (y_move rfl) rfl ?_
  refine L_y rfl (y_lenS rfl rfl Try.underlying118) rfl ?_
  refine L_y rfl (y_move rfl) rfl ?_
  refine L_nil ?_
  refine C_block ?_
  refine C_loopIn (In_round ?_)
  refine C_seq ?_
  refine C_region ?_
  refine L_y rfl (y_lss rfl rfl) rfl ?_
  refine L_nil ?_
  refine C_seq ?_
  refine C_cond_t rfl ?_
  refine C_skip ?_
  refine C_seq ?_
  refine C_block ?_
  refine C_seq ?_
  refine C_region ?_
  refine L_y rfl (y_indexS rfl rfl Try.underlying118 sz_3 (by omega) (by omega) (show _ = 0 from rfl)) rfl ?_
  refine L_y rfl (y_load rfl ag_3 (sees 0 0 rfl) rfl) rfl ?_
  refine L_y rfl (y_assign rfl) rfl ?_
  refine L_nil ?_
  refine C_seq ?_
  refine C_region ?_
  refine L_y rfl (y_move rfl) rfl ?_
  refine L_y rfl (y_move rfl) rfl ?_
  refine L_y rfl (y_nilCheck rfl) rfl ?_
  refine L_y rfl (y_fieldAddr rfl fl_110_0) rfl ?_
  refine L_y rfl (y_indexA rfl rfl Try.underlying108 sz_107 (by omega) (by omega) (show _ = 0 from rfl)) rfl ?_
  refine L_y rfl (y_fieldAddr rfl fl_107_0) rfl ?_
  refine L_y rfl (y_load rfl ag_24 (sees 1 0 rfl) rfl) rfl ?_
  refine L_y rfl (y_move rfl) rfl ?_
  refine L_op rfl (op_call rfl rfl (fun a w => Try.call60 a w) rfl ?_)
  refine ((read_d h false (n)).sub (hsub_pick [2] rfl)).mono ?_
  rintro _ _ ⟨rfl, rfl⟩
  refine ⟨_, rfl, ?_⟩
  refine L_y rfl (y_move rfl) rfl ?_
  refine L_y rfl (y_extract rfl rfl) rfl ?_
  refine L_y rfl (y_extract rfl rfl) rfl ?_
  refine L_op rfl (op_alloc zl_32 rfl (fun B2 => ?_))
  refine L_op rfl (op_storeA 0 0 rfl rfl rfl sz_32 (by rw [bs_length, (rS_len false h.oks)]) rfl (bs_one _) (by simp) ?_)
  refine L_y rfl (y_assign rfl) rfl ?_
  refine L_nil ?_
  refine C_seq ?_
  refine C_region ?_
  refine L_y rfl (y_move rfl) rfl ?_
  refine L_y rfl (y_eqi rfl rfl) rfl ?_
  refine L_y rfl (y_move rfl) rfl ?_
  refine L_case 42 rfl (fun hg10_3 => ?_) (fun hg10_3 => ?_)
  · skip
    refine L_y rfl (y_move rfl) rfl ?_
    refine L_y rfl (y_move rfl) rfl ?_
    refine L_y rfl (y_nilCheck rfl) rfl ?_
    refine L_y rfl (y_fieldAddr rfl fl_110_0) rfl ?_
    refine L_y rfl (y_indexA rfl rfl Try.underlying108 sz_107 (by omega) (by omega) (show _ = 0 from rfl)) rfl ?_
    refine L_y rfl (y_fieldAddr rfl fl_107_1) rfl ?_
    refine L_y rfl (y_load rfl ag_105 (sees 3 0 rfl) rfl) rfl ?_
    refine L_y rfl (y_move rfl) rfl ?_
    refine L_y rfl (y_lookup rfl rfl Try.underlying105 Try.underlying3 zt_4 (sees 3 1 rfl)) rfl ?_
    refine L_y rfl (y_not rfl) rfl ?_
    refine L_y rfl (y_pick_t rfl rfl) rfl ?_
    refine L_y rfl (y_move rfl) rfl ?_
    refine L_case 54 rfl (fun hg10_15 => ?_) (fun hg10_15 => ?_)
    · skip
      refine L_y rfl (y_move rfl) rfl ?_
      refine L_y rfl (y_move rfl) rfl ?_
      refine L_y rfl (y_loadA rfl ag_32 sz_32 (sees 0 0 rfl) (by rw [bs_length, rS_len _ h.oks]; decide) (bs_whole0 _ (rS_len _ h.oks))) rfl ?_
      refine L_op rfl (op_call rfl rfl (fun a w => Try.call61 a w) rfl ?_)
      refine FnS.mono (right_m (sees 3 0 rfl) (hG.sub (hsub (.cons _ (.cons _ (.cons _ (.cons _ (.cons _ (.refl _)))))))) n _ (rS_len _ h.oks)) ?_
      rintro _ _ ⟨rfl, e⟩
      obtain rfl := e.symm
      refine ⟨_, rfl, ?_⟩
      refine L_y rfl (y_pick_t rfl rfl) rfl ?_
      refine L_nil ?_
      refine C_cond rfl (fun hc3 => ?_) (fun hc3 => ?_)
      · skip
        refine C_seq ?_
        refine C_region ?_
        refine L_y rfl (y_loadA rfl ag_32 sz_32 (sees 0 0 rfl) (by rw [bs_length, rS_len _ h.oks]; decide) (bs_whole0 _ (rS_len _ h.oks))) rfl ?_
        refine L_op rfl (op_storeA 4 0 rfl rfl rfl sz_32 (by rw [bs_length, rS_len _ h.oks]) rfl (bs_one _) (by simp) ?_)
        refine L_y rfl (y_assign rfl) rfl ?_
        refine L_nil ?_
        refine C_ret ?_
        refine B_ret (rv_cellA rfl ag_32 sz_32 (sees 4 0 rfl) (by first | (rw [bs_length, rS_len _ h.oks]; decide) | (rw [bs_length, secOf_len]; decide)) (by first | exact bs_whole0 _ (rS_len _ h.oks) | exact bs_whole0 _ (secOf_len 0)) (rv_tmp rfl rv_nil)) ((hsub (.cons_cons _ (.cons_cons _ (.cons _ (.cons _ (.cons _ (.refl _))))))).trans (hsub_pick [3, 1] rfl)) ?_
        exact ⟨by simp_all [mrE, mrS, okAt] <;> rfl, rfl⟩
      · skip
        refine C_skip ?_
        refine C_region ?_
        refine L_y rfl (y_add rfl rfl (show _ = (1 : Int) from rfl)) rfl ?_
        refine L_y rfl (y_move rfl) rfl ?_
        refine L_nil ?_
        refine In_round ?_
        refine C_seq ?_
        refine C_region ?_
        refine L_y rfl (y_lss rfl rfl) rfl ?_
        refine L_nil ?_
        refine C_seq ?_
        refine C_cond_t rfl ?_
        refine C_skip ?_
        refine C_seq ?_
        refine C_block ?_
        refine C_seq ?_
        refine C_region ?_
        refine L_y rfl (y_indexS rfl rfl Try.underlying118 sz_3 (by omega) (by omega) (show _ = 1 from rfl)) rfl ?_
        refine L_y rfl (y_load rfl ag_3 (sees 2 0 rfl) rfl) rfl ?_
        refine L_y rfl (y_assign rfl) rfl ?_
        refine L_nil ?_
        refine C_seq ?_
        refine C_region ?_
        refine L_y rfl (y_move rfl) rfl ?_
        refine L_y rfl (y_move rfl) rfl ?_
        refine L_y rfl (y_nilCheck rfl) rfl ?_
        refine L_y rfl (y_fieldAddr rfl fl_110_0) rfl ?_
        refine L_y rfl (y_indexA rfl rfl Try.underlying108 sz_107 (by omega) (by omega) (show _ = 2 from rfl)) rfl ?_
        refine L_y rfl (y_fieldAddr rfl fl_107_0) rfl ?_
        refine L_y rfl (y_load rfl ag_24 (sees 3 0 rfl) rfl) rfl ?_
        refine L_y rfl (y_move rfl) rfl ?_
        refine L_op rfl (op_call rfl rfl (fun a w => Try.call60 a w) rfl ?_)
        refine ((read_d h true (n)).sub (hsub_pick [1] rfl)).mono ?_
        rintro _ _ ⟨rfl, rfl⟩
        refine ⟨_, rfl, ?_⟩
        refine L_y rfl (y_move rfl) rfl ?_
        refine L_y rfl (y_extract rfl rfl) rfl ?_
        refine L_y rfl (y_extract rfl rfl) rfl ?_
        refine L_op rfl (op_alloc zl_32 rfl (fun B3 => ?_))
        refine L_op rfl (op_storeA 0 0 rfl rfl rfl sz_32 (by rw [bs_length, (rS_len true h.oks)]) rfl (bs_one _) (by simp) ?_)
        refine L_y rfl (y_assign rfl) rfl ?_
        refine L_nil ?_
        refine C_seq ?_
        refine C_region ?_
        refine L_y rfl (y_move rfl) rfl ?_
        refine L_y rfl (y_eqi rfl rfl) rfl ?_
        refine L_y rfl (y_move rfl) rfl ?_
        refine L_case 42 rfl (fun hg10_3 => ?_) (fun hg10_3 => ?_)
        · skip
          refine L_y rfl (y_move rfl) rfl ?_
          refine L_y rfl (y_move rfl) rfl ?_
          refine L_y rfl (y_nilCheck rfl) rfl ?_
          refine L_y rfl (y_fieldAddr rfl fl_110_0) rfl ?_
          refine L_y rfl (y_indexA rfl rfl Try.underlying108 sz_107 (by omega) (by omega) (show _ = 2 from rfl)) rfl ?_
          refine L_y rfl (y_fieldAddr rfl fl_107_1) rfl ?_
          refine L_y rfl (y_load rfl ag_105 (sees 4 0 rfl) rfl) rfl ?_
          refine L_y rfl (y_move rfl) rfl ?_
          refine L_y rfl (y_lookup rfl rfl Try.underlying105 Try.underlying3 zt_4 (sees 4 2 rfl)) rfl ?_
          refine L_y rfl (y_not rfl) rfl ?_
          refine L_y rfl (y_pick_t rfl rfl) rfl ?_
          refine L_y rfl (y_move rfl) rfl ?_
          refine L_case 54 rfl (fun hg10_15 => ?_) (fun hg10_15 => ?_)
          · skip
            refine L_y rfl (y_move rfl) rfl ?_
            refine L_y rfl (y_move rfl) rfl ?_
            refine L_y rfl (y_loadA rfl ag_32 sz_32 (sees 0 0 rfl) (by rw [bs_length, rS_len _ h.oks]; decide) (bs_whole0 _ (rS_len _ h.oks))) rfl ?_
            refine L_op rfl (op_call rfl rfl (fun a w => Try.call61 a w) rfl ?_)
            refine FnS.mono (right_m (sees 4 0 rfl) (hG.sub (hsub (.cons _ (.cons _ (.cons _ (.cons _ (.cons _ (.cons _ (.refl _))))))))) n _ (rS_len _ h.oks)) ?_
            rintro _ _ ⟨rfl, e⟩
            obtain rfl := e.symm
            refine ⟨_, rfl, ?_⟩
            refine L_y rfl (y_pick_t rfl rfl) rfl ?_
            refine L_nil ?_
            refine C_cond rfl (fun hc3 => ?_) (fun hc3 => ?_)
            · skip
              refine C_seq ?_
              refine C_region ?_
              refine L_y rfl (y_loadA rfl ag_32 sz_32 (sees 0 0 rfl) (by rw [bs_length, rS_len _ h.oks]; decide) (bs_whole0 _ (rS_len _ h.oks))) rfl ?_
              refine L_op rfl (op_storeA 5 0 rfl rfl rfl sz_32 (by rw [bs_length, rS_len _ h.oks]) rfl (bs_one _) (by simp) ?_)
              refine L_y rfl (y_assign rfl) rfl ?_
              refine L_nil ?_
              refine C_ret ?_
              refine B_ret (rv_cellA rfl ag_32 sz_32 (sees 5 0 rfl) (by first | (rw [bs_length, rS_len _ h.oks]; decide) | (rw [bs_length, secOf_len]; decide)) (by first | exact bs_whole0 _ (rS_len _ h.oks) | exact bs_whole0 _ (secOf_len 0)) (rv_tmp rfl rv_nil)) ((hsub (.cons_cons _ (.cons_cons _ (.cons _ (.cons _ (.cons _ (.cons _ (.refl _)))))))).trans (hsub_pick [4, 1] rfl)) ?_
              exact ⟨by simp_all [mrE, mrS, okAt] <;> rfl, rfl⟩
            · skip
              refine C_skip ?_
              refine C_region ?_
              refine L_y rfl (y_add rfl rfl (show _ = (2 : Int) from rfl)) rfl ?_
              refine L_y rfl (y_move rfl) rfl ?_
              refine L_nil ?_
              refine In_round ?_
              refine C_seq ?_
              refine C_region ?_
              refine L_y rfl (y_lss rfl rfl) rfl ?_
              refine L_nil ?_
              refine C_seq ?_
              refine C_cond_f rfl ?_
              refine C_exit ?_
              refine C_seq ?_
              refine C_region ?_
              refine L_y rfl (y_buildA0 Try.underlying32 sz_5 zl_32) rfl ?_
              refine L_op rfl (op_storeA 5 0 rfl rfl rfl sz_32 (by rw [zsec, bs_length, secOf_len]) rfl (by rw [zsec]; exact bs_one _) (by simp) ?_)
              rw [zsec]
              refine L_y rfl (y_assign rfl) rfl ?_
              refine L_nil ?_
              refine C_ret ?_
              refine B_ret (rv_cellA rfl ag_32 sz_32 (sees 5 0 rfl) (by first | (rw [bs_length, rS_len _ h.oks]; decide) | (rw [bs_length, secOf_len]; decide)) (by first | exact bs_whole0 _ (rS_len _ h.oks) | exact bs_whole0 _ (secOf_len 0)) (rv_tmp rfl rv_nil)) ((hsub (.cons_cons _ (.cons_cons _ (.cons _ (.cons _ (.cons _ (.cons _ (.refl _)))))))).trans (hsub_pick [4, 1] rfl)) ?_
              exact ⟨by simp_all [mrE, mrS, okAt] <;> rfl, rfl⟩
          · skip
            refine L_skip rfl rfl ?_
            refine L_skip rfl rfl ?_
            refine L_skip rfl rfl ?_
            refine L_skip rfl rfl ?_
            refine L_y rfl (y_pick_f rfl rfl) rfl ?_
            refine L_nil ?_
            refine C_cond_f rfl ?_
            refine C_skip ?_
            refine C_region ?_
            refine L_y rfl (y_add rfl rfl (show _ = (2 : Int) from rfl)) rfl ?_
            refine L_y rfl (y_move rfl) rfl ?_
            refine L_nil ?_
            refine In_round ?_
            refine C_seq ?_
            refine C_region ?_
            refine L_y rfl (y_lss rfl rfl) rfl ?_
            refine L_nil ?_
            refine C_seq ?_
            refine C_cond_f rfl ?_
            refine C_exit ?_
            refine C_seq ?_
            refine C_region ?_
            refine L_y rfl (y_buildA0 Try.underlying32 sz_5 zl_32) rfl ?_
            refine L_op rfl (op_storeA 5 0 rfl rfl rfl sz_32 (by rw [zsec, bs_length, secOf_len]) rfl (by rw [zsec]; exact bs_one _) (by simp) ?_)
            rw [zsec]
            refine L_y rfl (y_assign rfl) rfl ?_
            refine L_nil ?_
            refine C_ret ?_
            refine B_ret (rv_cellA rfl ag_32 sz_32 (sees 5 0 rfl) (by first | (rw [bs_length, rS_len _ h.oks]; decide) | (rw [bs_length, secOf_len]; decide)) (by first | exact bs_whole0 _ (rS_len _ h.oks) | exact bs_whole0 _ (secOf_len 0)) (rv_tmp rfl rv_nil)) ((hsub (.cons_cons _ (.cons_cons _ (.cons _ (.cons _ (.cons _ (.cons _ (.refl _)))))))).trans (hsub_pick [4, 1] rfl)) ?_
            exact ⟨by simp_all [mrE, mrS, okAt] <;> rfl, rfl⟩
        · skip
          refine L_skip rfl rfl ?_
          refine L_skip rfl rfl ?_
          refine L_skip rfl rfl ?_
          refine L_skip rfl rfl ?_
          refine L_skip rfl rfl ?_
          refine L_skip rfl rfl ?_
          refine L_skip rfl rfl ?_
          refine L_skip rfl rfl ?_
          refine L_skip rfl rfl ?_
          refine L_skip rfl rfl ?_
          refine L_y rfl (y_pick_f rfl rfl) rfl ?_
          refine L_y rfl (y_move rfl) rfl ?_
          refine L_skip rfl rfl ?_
          refine L_skip rfl rfl ?_
          refine L_skip rfl rfl ?_
          refine L_skip rfl rfl ?_
          refine L_y rfl (y_pick_f rfl rfl) rfl ?_
          refine L_nil ?_
          refine C_cond_f rfl ?_
          refine C_skip ?_
          refine C_region ?_
          refine L_y rfl (y_add rfl rfl (show _ = (2 : Int) from rfl)) rfl ?_
          refine L_y rfl (y_move rfl) rfl ?_
          refine L_nil ?_
          refine In_round ?_
          refine C_seq ?_
          refine C_region ?_
          refine L_y rfl (y_lss rfl rfl) rfl ?_
          refine L_nil ?_
          refine C_seq ?_
          refine C_cond_f rfl ?_
          refine C_exit ?_
          refine C_seq ?_
          refine C_region ?_
          refine L_y rfl (y_buildA0 Try.underlying32 sz_5 zl_32) rfl ?_
          refine L_op rfl (op_storeA 5 0 rfl rfl rfl sz_32 (by rw [zsec, bs_length, secOf_len]) rfl (by rw [zsec]; exact bs_one _) (by simp) ?_)
          rw [zsec]
          refine L_y rfl (y_assign rfl) rfl ?_
          refine L_nil ?_
          refine C_ret ?_
          refine B_ret (rv_cellA rfl ag_32 sz_32 (sees 5 0 rfl) (by first | (rw [bs_length, rS_len _ h.oks]; decide) | (rw [bs_length, secOf_len]; decide)) (by first | exact bs_whole0 _ (rS_len _ h.oks) | exact bs_whole0 _ (secOf_len 0)) (rv_tmp rfl rv_nil)) ((hsub (.cons_cons _ (.cons_cons _ (.cons _ (.cons _ (.cons _ (.cons _ (.refl _)))))))).trans (hsub_pick [4, 1] rfl)) ?_
          exact ⟨by simp_all [mrE, mrS, okAt] <;> rfl, rfl⟩
    · skip
      refine L_skip rfl rfl ?_
      refine L_skip rfl rfl ?_
      refine L_skip rfl rfl ?_
      refine L_skip rfl rfl ?_
      refine L_y rfl (y_pick_f rfl rfl) rfl ?_
      refine L_nil ?_
      refine C_cond_f rfl ?_
      refine C_skip ?_
      refine C_region ?_
      refine L_y rfl (y_add rfl rfl (show _ = (1 : Int) from rfl)) rfl ?_
      refine L_y rfl (y_move rfl) rfl ?_
      refine L_nil ?_
      refine In_round ?_
      refine C_seq ?_
      refine C_region ?_
      refine L_y rfl (y_lss rfl rfl) rfl ?_
      refine L_nil ?_
      refine C_seq ?_
      refine C_cond_t rfl ?_
      refine C_skip ?_
      refine C_seq ?_
      refine C_block ?_
      refine C_seq ?_
      refine C_region ?_
      refine L_y rfl (y_indexS rfl rfl Try.underlying118 sz_3 (by omega) (by omega) (show _ = 1 from rfl)) rfl ?_
      refine L_y rfl (y_load rfl ag_3 (sees 2 0 rfl) rfl) rfl ?_
      refine L_y rfl (y_assign rfl) rfl ?_
      refine L_nil ?_
      refine C_seq ?_
      refine C_region ?_
      refine L_y rfl (y_move rfl) rfl ?_
      refine L_y rfl (y_move rfl) rfl ?_
      refine L_y rfl (y_nilCheck rfl) rfl ?_
      refine L_y rfl (y_fieldAddr rfl fl_110_0) rfl ?_
      refine L_y rfl (y_indexA rfl rfl Try.underlying108 sz_107 (by omega) (by omega) (show _ = 2 from rfl)) rfl ?_
      refine L_y rfl (y_fieldAddr rfl fl_107_0) rfl ?_
      refine L_y rfl (y_load rfl ag_24 (sees 3 0 rfl) rfl) rfl ?_
      refine L_y rfl (y_move rfl) rfl ?_
      refine L_op rfl (op_call rfl rfl (fun a w => Try.call60 a w) rfl ?_)
      refine ((read_d h true (n)).sub (hsub_pick [1] rfl)).mono ?_
      rintro _ _ ⟨rfl, rfl⟩
      refine ⟨_, rfl, ?_⟩
      refine L_y rfl (y_move rfl) rfl ?_
      refine L_y rfl (y_extract rfl rfl) rfl ?_
      refine L_y rfl (y_extract rfl rfl) rfl ?_
      refine L_op rfl (op_alloc zl_32 rfl (fun B4 => ?_))
      refine L_op rfl (op_storeA 0 0 rfl rfl rfl sz_32 (by rw [bs_length, (rS_len true h.oks)]) rfl (bs_one _) (by simp) ?_)
      refine L_y rfl (y_assign rfl) rfl ?_
      refine L_nil ?_
      refine C_seq ?_
      refine C_region ?_
      refine L_y rfl (y_move rfl) rfl ?_
      refine L_y rfl (y_eqi rfl rfl) rfl ?_
      refine L_y rfl (y_move rfl) rfl ?_
      refine L_case 42 rfl (fun hg10_3 => ?_) (fun hg10_3 => ?_)
      · skip
        refine L_y rfl (y_move rfl) rfl ?_
        refine L_y rfl (y_move rfl) rfl ?_
        refine L_y rfl (y_nilCheck rfl) rfl ?_
        refine L_y rfl (y_fieldAddr rfl fl_110_0) rfl ?_
        refine L_y rfl (y_indexA rfl rfl Try.underlying108 sz_107 (by omega) (by omega) (show _ = 2 from rfl)) rfl ?_
        refine L_y rfl (y_fieldAddr rfl fl_107_1) rfl ?_
        refine L_y rfl (y_load rfl ag_105 (sees 4 0 rfl) rfl) rfl ?_
        refine L_y rfl (y_move rfl) rfl ?_
        refine L_y rfl (y_lookup rfl rfl Try.underlying105 Try.underlying3 zt_4 (sees 4 2 rfl)) rfl ?_
        refine L_y rfl (y_not rfl) rfl ?_
        refine L_y rfl (y_pick_t rfl rfl) rfl ?_
        refine L_y rfl (y_move rfl) rfl ?_
        refine L_case 54 rfl (fun hg10_15 => ?_) (fun hg10_15 => ?_)
        · skip
          refine L_y rfl (y_move rfl) rfl ?_
          refine L_y rfl (y_move rfl) rfl ?_
          refine L_y rfl (y_loadA rfl ag_32 sz_32 (sees 0 0 rfl) (by rw [bs_length, rS_len _ h.oks]; decide) (bs_whole0 _ (rS_len _ h.oks))) rfl ?_
          refine L_op rfl (op_call rfl rfl (fun a w => Try.call61 a w) rfl ?_)
          refine FnS.mono (right_m (sees 4 0 rfl) (hG.sub (hsub (.cons _ (.cons _ (.cons _ (.cons _ (.cons _ (.cons _ (.refl _))))))))) n _ (rS_len _ h.oks)) ?_
          rintro _ _ ⟨rfl, e⟩
          obtain rfl := e.symm
          refine ⟨_, rfl, ?_⟩
          refine L_y rfl (y_pick_t rfl rfl) rfl ?_
          refine L_nil ?_
          refine C_cond rfl (fun hc3 => ?_) (fun hc3 => ?_)
          · skip
            refine C_seq ?_
            refine C_region ?_
            refine L_y rfl (y_loadA rfl ag_32 sz_32 (sees 0 0 rfl) (by rw [bs_length, rS_len _ h.oks]; decide) (bs_whole0 _ (rS_len _ h.oks))) rfl ?_
            refine L_op rfl (op_storeA 5 0 rfl rfl rfl sz_32 (by rw [bs_length, rS_len _ h.oks]) rfl (bs_one _) (by simp) ?_)
            refine L_y rfl (y_assign rfl) rfl ?_
            refine L_nil ?_
            refine C_ret ?_
            refine B_ret (rv_cellA rfl ag_32 sz_32 (sees 5 0 rfl) (by first | (rw [bs_length, rS_len _ h.oks]; decide) | (rw [bs_length, secOf_len]; decide)) (by first | exact bs_whole0 _ (rS_len _ h.oks) | exact bs_whole0 _ (secOf_len 0)) (rv_tmp rfl rv_nil)) ((hsub (.cons_cons _ (.cons_cons _ (.cons _ (.cons _ (.cons _ (.cons _ (.refl _)))))))).trans (hsub_pick [4, 1] rfl)) ?_
            exact ⟨by simp_all [mrE, mrS, okAt] <;> rfl, rfl⟩
          · skip
            refine C_skip ?_
            refine C_region ?_
            refine L_y rfl (y_add rfl rfl (show _ = (2 : Int) from rfl)) rfl ?_
            refine L_y rfl (y_move rfl) rfl ?_
            refine L_nil ?_
            refine In_round ?_
            refine C_seq ?_
            refine C_region ?_
            refine L_y rfl (y_lss rfl rfl) rfl ?_
            refine L_nil ?_
            refine C_seq ?_
            refine C_cond_f rfl ?_
            refine C_exit ?_
            refine C_seq ?_
            refine C_region ?_
            refine L_y rfl (y_buildA0 Try.underlying32 sz_5 zl_32) rfl ?_
            refine L_op rfl (op_storeA 5 0 rfl rfl rfl sz_32 (by rw [zsec, bs_length, secOf_len]) rfl (by rw [zsec]; exact bs_one _) (by simp) ?_)
            rw [zsec]
            refine L_y rfl (y_assign rfl) rfl ?_
            refine L_nil ?_
            refine C_ret ?_
            refine B_ret (rv_cellA rfl ag_32 sz_32 (sees 5 0 rfl) (by first | (rw [bs_length, rS_len _ h.oks]; decide) | (rw [bs_length, secOf_len]; decide)) (by first | exact bs_whole0 _ (rS_len _ h.oks) | exact bs_whole0 _ (secOf_len 0)) (rv_tmp rfl rv_nil)) ((hsub (.cons_cons _ (.cons_cons _ (.cons _ (.cons _ (.cons _ (.cons _ (.refl _)))))))).trans (hsub_pick [4, 1] rfl)) ?_
            exact ⟨by simp_all [mrE, mrS, okAt] <;> rfl, rfl⟩
        · skip
          refine L_skip rfl rfl ?_
          refine L_skip rfl rfl ?_
          refine L_skip rfl rfl ?_
          refine L_skip rfl rfl ?_
          refine L_y rfl (y_pick_f rfl rfl) rfl ?_
          refine L_nil ?_
          refine C_cond_f rfl ?_
          refine C_skip ?_
          refine C_region ?_
          refine L_y rfl (y_add rfl rfl (show _ = (2 : Int) from rfl)) rfl ?_
          refine L_y rfl (y_move rfl) rfl ?_
          refine L_nil ?_
          refine In_round ?_
          refine C_seq ?_
          refine C_region ?_
          refine L_y rfl (y_lss rfl rfl) rfl ?_
          refine L_nil ?_
          refine C_seq ?_
          refine C_cond_f rfl ?_
          refine C_exit ?_
          refine C_seq ?_
          refine C_region ?_
          refine L_y rfl (y_buildA0 Try.underlying32 sz_5 zl_32) rfl ?_
          refine L_op rfl (op_storeA 5 0 rfl rfl rfl sz_32 (by rw [zsec, bs_length, secOf_len]) rfl (by rw [zsec]; exact bs_one _) (by simp) ?_)
          rw [zsec]
          refine L_y rfl (y_assign rfl) rfl ?_
          refine L_nil ?_
          refine C_ret ?_
          refine B_ret (rv_cellA rfl ag_32 sz_32 (sees 5 0 rfl) (by first | (rw [bs_length, rS_len _ h.oks]; decide) | (rw [bs_length, secOf_len]; decide)) (by first | exact bs_whole0 _ (rS_len _ h.oks) | exact bs_whole0 _ (secOf_len 0)) (rv_tmp rfl rv_nil)) ((hsub (.cons_cons _ (.cons_cons _ (.cons _ (.cons _ (.cons _ (.cons _ (.refl _)))))))).trans (hsub_pick [4, 1] rfl)) ?_
          exact ⟨by simp_all [mrE, mrS, okAt] <;> rfl, rfl⟩
      · skip
        refine L_skip rfl rfl ?_
        refine L_skip rfl rfl ?_
        refine L_skip rfl rfl ?_
        refine L_skip rfl rfl ?_
        refine L_skip rfl rfl ?_
        refine L_skip rfl rfl ?_
        refine L_skip rfl rfl ?_
        refine L_skip rfl rfl ?_
        refine L_skip rfl rfl ?_
        refine L_skip rfl rfl ?_
        refine L_y rfl (y_pick_f rfl rfl) rfl ?_
        refine L_y rfl (y_move rfl) rfl ?_
        refine L_skip rfl rfl ?_
        refine L_skip rfl rfl ?_
        refine L_skip rfl rfl ?_
        refine L_skip rfl rfl ?_
        refine L_y rfl (y_pick_f rfl rfl) rfl ?_
        refine L_nil ?_
        refine C_cond_f rfl ?_
        refine C_skip ?_
        refine C_region ?_
        refine L_y rfl (y_add rfl rfl (show _ = (2 : Int) from rfl)) rfl ?_
        refine L_y rfl (y_move rfl) rfl ?_
        refine L_nil ?_
        refine In_round ?_
        refine C_seq ?_
        refine C_region ?_
        refine L_y rfl (y_lss rfl rfl) rfl ?_
        refine L_nil ?_
        refine C_seq ?_
        refine C_cond_f rfl ?_
        refine C_exit ?_
        refine C_seq ?_
        refine C_region ?_
        refine L_y rfl (y_buildA0 Try.underlying32 sz_5 zl_32) rfl ?_
        refine L_op rfl (op_storeA 5 0 rfl rfl rfl sz_32 (by rw [zsec, bs_length, secOf_len]) rfl (by rw [zsec]; exact bs_one _) (by simp) ?_)
        rw [zsec]
        refine L_y rfl (y_assign rfl) rfl ?_
        refine L_nil ?_
        refine C_ret ?_
        refine B_ret (rv_cellA rfl ag_32 sz_32 (sees 5 0 rfl) (by first | (rw [bs_length, rS_len _ h.oks]; decide) | (rw [bs_length, secOf_len]; decide)) (by first | exact bs_whole0 _ (rS_len _ h.oks) | exact bs_whole0 _ (secOf_len 0)) (rv_tmp rfl rv_nil)) ((hsub (.cons_cons _ (.cons_cons _ (.cons _ (.cons _ (.cons _ (.cons _ (.refl _)))))))).trans (hsub_pick [4, 1] rfl)) ?_
        exact ⟨by simp_all [mrE, mrS, okAt] <;> rfl, rfl⟩
  · skip
    refine L_skip rfl rfl ?_
    refine L_skip rfl rfl ?_
    refine L_skip rfl rfl ?_
    refine L_skip rfl rfl ?_
    refine L_skip rfl rfl ?_
    refine L_skip rfl rfl ?_
    refine L_skip rfl rfl ?_
    refine L_skip rfl rfl ?_
    refine L_skip rfl rfl ?_
    refine L_skip rfl rfl ?_
    refine L_y rfl (y_pick_f rfl rfl) rfl ?_
    refine L_y rfl (y_move rfl) rfl ?_
    refine L_skip rfl rfl ?_
    refine L_skip rfl rfl ?_
    refine L_skip rfl rfl ?_
    refine L_skip rfl rfl ?_
    refine L_y rfl (y_pick_f rfl rfl) rfl ?_
    refine L_nil ?_
    refine C_cond_f rfl ?_
    refine C_skip ?_
    refine C_region ?_
    refine L_y rfl (y_add rfl rfl (show _ = (1 : Int) from rfl)) rfl ?_
    refine L_y rfl (y_move rfl) rfl ?_
    refine L_nil ?_
    refine In_round ?_
    refine C_seq ?_
    refine C_region ?_
    refine L_y rfl (y_lss rfl rfl) rfl ?_
    refine L_nil ?_
    refine C_seq ?_
    refine C_cond_t rfl ?_
    refine C_skip ?_
    refine C_seq ?_
    refine C_block ?_
    refine C_seq ?_
    refine C_region ?_
    refine L_y rfl (y_indexS rfl rfl Try.underlying118 sz_3 (by omega) (by omega) (show _ = 1 from rfl)) rfl ?_
    refine L_y rfl (y_load rfl ag_3 (sees 2 0 rfl) rfl) rfl ?_
    refine L_y rfl (y_assign rfl) rfl ?_
    refine L_nil ?_
    refine C_seq ?_
    refine C_region ?_
    refine L_y rfl (y_move rfl) rfl ?_
    refine L_y rfl (y_move rfl) rfl ?_
    refine L_y rfl (y_nilCheck rfl) rfl ?_
    refine L_y rfl (y_fieldAddr rfl fl_110_0) rfl ?_
    refine L_y rfl (y_indexA rfl rfl Try.underlying108 sz_107 (by omega) (by omega) (show _ = 2 from rfl)) rfl ?_
    refine L_y rfl (y_fieldAddr rfl fl_107_0) rfl ?_
    refine L_y rfl (y_load rfl ag_24 (sees 3 0 rfl) rfl) rfl ?_
    refine L_y rfl (y_move rfl) rfl ?_
    refine L_op rfl (op_call rfl rfl (fun a w => Try.call60 a w) rfl ?_)
    refine ((read_d h true (n)).sub (hsub_pick [1] rfl)).mono ?_
    rintro _ _ ⟨rfl, rfl⟩
    refine ⟨_, rfl, ?_⟩
    refine L_y rfl (y_move rfl) rfl ?_
    refine L_y rfl (y_extract rfl rfl) rfl ?_
    refine L_y rfl (y_extract rfl rfl) rfl ?_
    refine L_op rfl (op_alloc zl_32 rfl (fun B5 => ?_))
    refine L_op rfl (op_storeA 0 0 rfl rfl rfl sz_32 (by rw [bs_length, (rS_len true h.oks)]) rfl (bs_one _) (by simp) ?_)
    refine L_y rfl (y_assign rfl) rfl ?_
    refine L_nil ?_
    refine C_seq ?_
    refine C_region ?_
    refine L_y rfl (y_move rfl) rfl ?_
    refine L_y rfl (y_eqi rfl rfl) rfl ?_
    refine L_y rfl (y_move rfl) rfl ?_
    refine L_case 42 rfl (fun hg10_3 => ?_) (fun hg10_3 => ?_)
    · skip
      refine L_y rfl (y_move rfl) rfl ?_
      refine L_y rfl (y_move rfl) rfl ?_
      refine L_y rfl (y_nilCheck rfl) rfl ?_
      refine L_y rfl (y_fieldAddr rfl fl_110_0) rfl ?_
      refine L_y rfl (y_indexA rfl rfl Try.underlying108 sz_107 (by omega) (by omega) (show _ = 2 from rfl)) rfl ?_
      refine L_y rfl (y_fieldAddr rfl fl_107_1) rfl ?_
      refine L_y rfl (y_load rfl ag_105 (sees 4 0 rfl) rfl) rfl ?_
      refine L_y rfl (y_move rfl) rfl ?_
      refine L_y rfl (y_lookup rfl rfl Try.underlying105 Try.underlying3 zt_4 (sees 4 2 rfl)) rfl ?_
      refine L_y rfl (y_not rfl) rfl ?_
      refine L_y rfl (y_pick_t rfl rfl) rfl ?_
      refine L_y rfl (y_move rfl) rfl ?_
      refine L_case 54 rfl (fun hg10_15 => ?_) (fun hg10_15 => ?_)
      · skip
        refine L_y rfl (y_move rfl) rfl ?_
        refine L_y rfl (y_move rfl) rfl ?_
        refine L_y rfl (y_loadA rfl ag_32 sz_32 (sees 0 0 rfl) (by rw [bs_length, rS_len _ h.oks]; decide) (bs_whole0 _ (rS_len _ h.oks))) rfl ?_
        refine L_op rfl (op_call rfl rfl (fun a w => Try.call61 a w) rfl ?_)
        refine FnS.mono (right_m (sees 4 0 rfl) (hG.sub (hsub (.cons _ (.cons _ (.cons _ (.cons _ (.cons _ (.cons _ (.refl _))))))))) n _ (rS_len _ h.oks)) ?_
        rintro _ _ ⟨rfl, e⟩
        obtain rfl := e.symm
        refine ⟨_, rfl, ?_⟩
        refine L_y rfl (y_pick_t rfl rfl) rfl ?_
        refine L_nil ?_
        refine C_cond rfl (fun hc3 => ?_) (fun hc3 => ?_)
        · skip
          refine C_seq ?_
          refine C_region ?_
          refine L_y rfl (y_loadA rfl ag_32 sz_32 (sees 0 0 rfl) (by rw [bs_length, rS_len _ h.oks]; decide) (bs_whole0 _ (rS_len _ h.oks))) rfl ?_
          refine L_op rfl (op_storeA 5 0 rfl rfl rfl sz_32 (by rw [bs_length, rS_len _ h.oks]) rfl (bs_one _) (by simp) ?_)
          refine L_y rfl (y_assign rfl) rfl ?_
          refine L_nil ?_
          refine C_ret ?_
          refine B_ret (rv_cellA rfl ag_32 sz_32 (sees 5 0 rfl) (by first | (rw [bs_length, rS_len _ h.oks]; decide) | (rw [bs_length, secOf_len]; decide)) (by first | exact bs_whole0 _ (rS_len _ h.oks) | exact bs_whole0 _ (secOf_len 0)) (rv_tmp rfl rv_nil)) ((hsub (.cons_cons _ (.cons_cons _ (.cons _ (.cons _ (.cons _ (.cons _ (.refl _)))))))).trans (hsub_pick [4, 1] rfl)) ?_
          exact ⟨by simp_all [mrE, mrS, okAt] <;> rfl, rfl⟩
        · skip
          refine C_skip ?_
          refine C_region ?_
          refine L_y rfl (y_add rfl rfl (show _ = (2 : Int) from rfl)) rfl ?_
          refine L_y rfl (y_move rfl) rfl ?_
          refine L_nil ?_
          refine In_round ?_
          refine C_seq ?_
          refine C_region ?_
          refine L_y rfl (y_lss rfl rfl) rfl ?_
          refine L_nil ?_
          refine C_seq ?_
          refine C_cond_f rfl ?_
          refine C_exit ?_
          refine C_seq ?_
          refine C_region ?_
          refine L_y rfl (y_buildA0 Try.underlying32 sz_5 zl_32) rfl ?_
          refine L_op rfl (op_storeA 5 0 rfl rfl rfl sz_32 (by rw [zsec, bs_length, secOf_len]) rfl (by rw [zsec]; exact bs_one _) (by simp) ?_)
          rw [zsec]
          refine L_y rfl (y_assign rfl) rfl ?_
          refine L_nil ?_
          refine C_ret ?_
          refine B_ret (rv_cellA rfl ag_32 sz_32 (sees 5 0 rfl) (by first | (rw [bs_length, rS_len _ h.oks]; decide) | (rw [bs_length, secOf_len]; decide)) (by first | exact bs_whole0 _ (rS_len _ h.oks) | exact bs_whole0 _ (secOf_len 0)) (rv_tmp rfl rv_nil)) ((hsub (.cons_cons _ (.cons_cons _ (.cons _ (.cons _ (.cons _ (.cons _ (.refl _)))))))).trans (hsub_pick [4, 1] rfl)) ?_
          exact ⟨by simp_all [mrE, mrS, okAt] <;> rfl, rfl⟩
      · skip
        refine L_skip rfl rfl ?_
        refine L_skip rfl rfl ?_
        refine L_skip rfl rfl ?_
        refine L_skip rfl rfl ?_
        refine L_y rfl (y_pick_f rfl rfl) rfl ?_
        refine L_nil ?_
        refine C_cond_f rfl ?_
        refine C_skip ?_
        refine C_region ?_
        refine L_y rfl (y_add rfl rfl (show _ = (2 : Int) from rfl)) rfl ?_
        refine L_y rfl (y_move rfl) rfl ?_
        refine L_nil ?_
        refine In_round ?_
        refine C_seq ?_
        refine C_region ?_
        refine L_y rfl (y_lss rfl rfl) rfl ?_
        refine L_nil ?_
        refine C_seq ?_
        refine C_cond_f rfl ?_
        refine C_exit ?_
        refine C_seq ?_
        refine C_region ?_
        refine L_y rfl (y_buildA0 Try.underlying32 sz_5 zl_32) rfl ?_
        refine L_op rfl (op_storeA 5 0 rfl rfl rfl sz_32 (by rw [zsec, bs_length, secOf_len]) rfl (by rw [zsec]; exact bs_one _) (by simp) ?_)
        rw [zsec]
        refine L_y rfl (y_assign rfl) rfl ?_
        refine L_nil ?_
        refine C_ret ?_
        refine B_ret (rv_cellA rfl ag_32 sz_32 (sees 5 0 rfl) (by first | (rw [bs_length, rS_len _ h.oks]; decide) | (rw [bs_length, secOf_len]; decide)) (by first | exact bs_whole0 _ (rS_len _ h.oks) | exact bs_whole0 _ (secOf_len 0)) (rv_tmp rfl rv_nil)) ((hsub (.cons_cons _ (.cons_cons _ (.cons _ (.cons _ (.cons _ (.cons _ (.refl _)))))))).trans (hsub_pick [4, 1] rfl)) ?_
        exact ⟨by simp_all [mrE, mrS, okAt] <;> rfl, rfl⟩
    · skip
      refine L_skip rfl rfl ?_
      refine L_skip rfl rfl ?_
      refine L_skip rfl rfl ?_
      refine L_skip rfl rfl ?_
      refine L_skip rfl rfl ?_
      refine L_skip rfl rfl ?_
      refine L_skip rfl rfl ?_
      refine L_skip rfl rfl ?_
      refine L_skip rfl rfl ?_
      refine L_skip rfl rfl ?_
      refine L_y rfl (y_pick_f rfl rfl) rfl ?_
      refine L_y rfl (y_move rfl) rfl ?_
      refine L_skip rfl rfl ?_
      refine L_skip rfl rfl ?_
      refine L_skip rfl rfl ?_
      refine L_skip rfl rfl ?_
      refine L_y rfl (y_pick_f rfl rfl) rfl ?_
      refine L_nil ?_
      refine C_cond_f rfl ?_
      refine C_skip ?_
      refine C_region ?_
      refine L_y rfl (y_add rfl rfl (show _ = (2 : Int) from rfl)) rfl ?_
      refine L_y rfl (y_move rfl) rfl ?_
      refine L_nil ?_
      refine In_round ?_
      refine C_seq ?_
      refine C_region ?_
      refine L_y rfl (y_lss rfl rfl) rfl ?_
      refine L_nil ?_
      refine C_seq ?_
      refine C_cond_f rfl ?_
      refine C_exit ?_
      refine C_seq ?_
      refine C_region ?_
      refine L_y rfl (y_buildA0 Try.underlying32 sz_5 zl_32) rfl ?_
      refine L_op rfl (op_storeA 5 0 rfl rfl rfl sz_32 (by rw [zsec, bs_length, secOf_len]) rfl (by rw [zsec]; exact bs_one _) (by simp) ?_)
      rw [zsec]
      refine L_y rfl (y_assign rfl) rfl ?_
      refine L_nil ?_
      refine C_ret ?_
      refine B_ret (rv_cellA rfl ag_32 sz_32 (sees 5 0 rfl) (by first | (rw [bs_length, rS_len _ h.oks]; decide) | (rw [bs_length, secOf_len]; decide)) (by first | exact bs_whole0 _ (rS_len _ h.oks) | exact bs_whole0 _ (secOf_len 0)) (rv_tmp rfl rv_nil)) ((hsub (.cons_cons _ (.cons_cons _ (.cons _ (.cons _ (.cons _ (.cons _ (.refl _)))))))).trans (hsub_pick [4, 1] rfl)) ?_
      exact ⟨by simp_all [mrE, mrS, okAt] <;> rfl, rfl⟩

theorem mread_tf {w0 : World} {H : Hp} {D : Duo} {A : Da} {bp : Nat} {m : Mi} (h : Two dt D A m.bx m.bys bp) {p : Int → Sec → Bool} (hG : GoodAt Try.prog w0 H m.gv p) (n : Int) (hn : m.has n = true) (hp : thr A false = true) (hq : thr A true = false) : FnS Try.prog w0 22 #[ptr m.b, .int .i64 n] (m.seg 110 :: D.seg dt :: H) (fun e H' => e = .returned (.tuple #[.agg (bs (mrS m A p n)).toArray, .int .i64 (mrE m A p n)]) ∧ H' = m.seg 110 :: D.seg dt :: H) := by
  refine FnS_intro (n := 63) (rs := [.cell 4 32, .tmp 5]) (vs := [ptr m.b, .int .i64 n]) Try.func22 rfl Try.ntmps22 rfl rfl ?_
  refine C_seq ?_
  refine C_region ?_
  refine L_op rfl (op_alloc zl_32 rfl (fun B1 => ?_))
  refine L_y rfl (y_assign rfl) rfl ?_
  refine L_nil ?_
  refine C_seq ?_
  refine C_seq ?_
  refine C_region ?_
  refine L_y rfl (y_move rfl) rfl ?_
  refine L_y rfl (y_move rfl) rfl ?_
  refine L_op rfl (op_call rfl rfl (fun a w => Try.call58 a w) rfl ?_)
  refine (has_m _ (sees 1 0 rfl)).mono ?_
  rintro _ _ ⟨rfl, rfl⟩
  rw [hn]
  refine ⟨_, rfl, ?_⟩
  refine L_y rfl (y_not rfl) rfl ?_
  refine L_nil ?_
  refine C_cond_f rfl ?_
  refine C_skip ?_
  refine C_seq ?_
  refine C_region ?_
  refine L_y rfl (y_move rfl) rfl ?_
  refine L_op rfl (op_call rfl rfl (fun a w => Try.call59 a w) rfl ?_)
  refine ((present_tf h hp hq).sub (hsub_pick [1, 1] rfl)).mono ?_
  rintro _ _ ⟨g1, hg1, rfl, rfl⟩
  cases g1 with
  | none => exact slOk_none hg1 (by decide)
  | some g1 => ?_
  refine ⟨_, rfl, ?_⟩
  refine L_y rfl (y_assign rfl) rfl ?_
  refine L_nil ?_
  refine C_seq ?_
  refine C_seq ?_
  refine C_region ?_
  refine L_y rfl (y_move rfl) rfl ?_
  refine L_y rfl (y_lenS rfl rfl Try.underlying118) rfl ?_
  refine L_y rfl (y_eqi rfl rfl) rfl ?_
  refine L_nil ?_
  refine C_cond_f rfl ?_
  refine C_skip ?_
  refine C_seq ?_
  refine C_seq ?_
  refine C_region ?_
  refine L_y rfl (y_move rfl) rfl ?_
  refine L_y rfl (y_lenS rfl rfl Try.underlying118) rfl ?_
  refine L_y rfl (y_move rfl) rfl ?_
  refine L_nil ?_
  refine C_block ?_
  refine C_loopIn (In_round ?_)
  refine C_seq ?_
  refine C_region ?_
  refine L_y rfl (y_lss rfl rfl) rfl ?_
  refine L_nil ?_
  refine C_seq ?_
  refine C_cond_t rfl ?_
  refine C_skip ?_
  refine C_seq ?_
  refine C_block ?_
  refine C_seq ?_
  refine C_region ?_
  refine L_y rfl (y_indexS rfl rfl Try.underlying118 sz_3 (by omega) (by omega) (show _ = 0 from rfl)) rfl ?_
  refine L_y rfl (y_load rfl ag_3 (sees 0 0 rfl) rfl) rfl ?_
  refine L_y rfl (y_assign rfl) rfl ?_
  refine L_nil ?_
  refine C_seq ?_
  refine C_region ?_
  refine L_y rfl (y_move rfl) rfl ?_
  refine L_y rfl (y_move rfl) rfl ?_
  refine L_y rfl (y_nilCheck rfl) rfl ?_
  refine L_y rfl (y_fieldAddr rfl fl_110_0) rfl ?_
  refine L_y rfl (y_indexA rfl rfl Try.underlying108 sz_107 (by omega) (by omega) (show _ = 0 from rfl)) rfl ?_
  refine L_y rfl (y_fieldAddr rfl fl_107_0) rfl ?_
  refine L_y rfl (y_load rfl ag_24 (sees 1 0 rfl) rfl) rfl ?_
  refine L_y rfl (y_move rfl) rfl ?_
  refine L_op rfl (op_call rfl rfl (fun a w => Try.call60 a w) rfl ?_)
  refine ((read_d h false (n)).sub (hsub_pick [2] rfl)).mono ?_
  rintro _ _ ⟨rfl, rfl⟩
  refine ⟨_, rfl, ?_⟩
  refine L_y rfl (y_move rfl) rfl ?_
  refine L_y rfl (y_extract rfl rfl) rfl ?_
  refine L_y rfl (y_extract rfl rfl) rfl ?_
  refine L_op rfl (op_alloc zl_32 rfl (fun B2 => ?_))
  refine L_op rfl (op_storeA 0 0 rfl rfl rfl sz_32 (by rw [bs_length, (rS_len false h.oks)]) rfl (bs_one _) (by simp) ?_)
  refine L_y rfl (y_assign rfl) rfl ?_
  refine L_nil ?_
  refine C_seq ?_
  refine C_region ?_
  refine L_y rfl (y_move rfl) rfl ?_
  refine L_y rfl (y_eqi rfl rfl) rfl ?_
  refine L_y rfl (y_move rfl) rfl ?_
  refine L_case 42 rfl (fun hg10_3 => ?_) (fun hg10_3 => ?_)
  · skip
    refine L_y rfl (y_move rfl) rfl ?_
    refine L_y rfl (y_move rfl) rfl ?_
    refine L_y rfl (y_nilCheck rfl) rfl ?_
    refine L_y rfl (y_fieldAddr rfl fl_110_0) rfl ?_
    refine L_y rfl (y_indexA rfl rfl Try.underlying108 sz_107 (by omega) (by omega) (show _ = 0 from rfl)) rfl ?_
    refine L_y rfl (y_fieldAddr rfl fl_107_1) rfl ?_
    refine L_y rfl (y_load rfl ag_105 (sees 3 0 rfl) rfl) rfl ?_
    refine L_y rfl (y_move rfl) rfl ?_
    refine L_y rfl (y_lookup rfl rfl Try.underlying105 Try.underlying3 zt_4 (sees 3 1 rfl)) rfl ?_
    refine L_y rfl (y_not rfl) rfl ?_
    refine L_y rfl (y_pick_t rfl rfl) rfl ?_
    refine L_y rfl (y_move rfl) rfl ?_
    refine L_case 54 rfl (fun hg10_15 => ?_) (fun hg10_15 => ?_)
    · skip
      refine L_y rfl (y_move rfl) rfl ?_
      refine L_y rfl (y_move rfl) rfl ?_
      refine L_y rfl (y_loadA rfl ag_32 sz_32 (sees 0 0 rfl) (by rw [bs_length, rS_len _ h.oks]; decide) (bs_whole0 _ (rS_len _ h.oks))) rfl ?_
      refine L_op rfl (op_call rfl rfl (fun a w => Try.call61 a w) rfl ?_)
      refine FnS.mono (right_m (sees 3 0 rfl) (hG.sub (hsub (.cons _ (.cons _ (.cons _ (.cons _ (.cons _ (.refl _)))))))) n _ (rS_len _ h.oks)) ?_
      rintro _ _ ⟨rfl, e⟩
      obtain rfl := e.symm
      refine ⟨_, rfl, ?_⟩
      refine L_y rfl (y_pick_t rfl rfl) rfl ?_
      refine L_nil ?_
      refine C_cond rfl (fun hc3 => ?_) (fun hc3 => ?_)
      · skip
        refine C_seq ?_
        refine C_region ?_
        refine L_y rfl (y_loadA rfl ag_32 sz_32 (sees 0 0 rfl) (by rw [bs_length, rS_len _ h.oks]; decide) (bs_whole0 _ (rS_len _ h.oks))) rfl ?_
        refine L_op rfl (op_storeA 4 0 rfl rfl rfl sz_32 (by rw [bs_length, rS_len _ h.oks]) rfl (bs_one _) (by simp) ?_)
        refine L_y rfl (y_assign rfl) rfl ?_
        refine L_nil ?_
        refine C_ret ?_
        refine B_ret (rv_cellA rfl ag_32 sz_32 (sees 4 0 rfl) (by first | (rw [bs_length, rS_len _ h.oks]; decide) | (rw [bs_length, secOf_len]; decide)) (by first | exact bs_whole0 _ (rS_len _ h.oks) | exact bs_whole0 _ (secOf_len 0)) (rv_tmp rfl rv_nil)) ((hsub (.cons_cons _ (.cons_cons _ (.cons _ (.cons _ (.cons _ (.refl _))))))).trans (hsub_pick [3, 1] rfl)) ?_
        exact ⟨by simp_all [mrE, mrS, okAt] <;> rfl, rfl⟩
      · skip
        refine C_skip ?_
        refine C_region ?_
        refine L_y rfl (y_add rfl rfl (show _ = (1 : Int) from rfl)) rfl ?_
        refine L_y rfl (y_move rfl) rfl ?_
        refine L_nil ?_
        refine In_round ?_
        refine C_seq ?_
        refine C_region ?_
        refine L_y rfl (y_lss rfl rfl) rfl ?_
        refine L_nil ?_
        refine C_seq ?_
        refine C_cond_f rfl ?_
        refine C_exit ?_
        refine C_seq ?_
        refine C_region ?_
        refine L_y rfl (y_buildA0 Try.underlying32 sz_5 zl_32) rfl ?_
        refine L_op rfl (op_storeA 4 0 rfl rfl rfl sz_32 (by rw [zsec, bs_length, secOf_len]) rfl (by rw [zsec]; exact bs_one _) (by simp) ?_)
        rw [zsec]
        refine L_y rfl (y_assign rfl) rfl ?_
        refine L_nil ?_
        refine C_ret ?_
        refine B_ret (rv_cellA rfl ag_32 sz_32 (sees 4 0 rfl) (by first | (rw [bs_length, rS_len _ h.oks]; decide) | (rw [bs_length, secOf_len]; decide)) (by first | exact bs_whole0 _ (rS_len _ h.oks) | exact bs_whole0 _ (secOf_len 0)) (rv_tmp rfl rv_nil)) ((hsub (.cons_cons _ (.cons_cons _ (.cons _ (.cons _ (.cons _ (.refl _))))))).trans (hsub_pick [3, 1] rfl)) ?_
        exact ⟨by simp_all [mrE, mrS, okAt] <;> rfl, rfl⟩
    · skip
      refine L_skip rfl rfl ?_
      refine L_skip rfl rfl ?_
      refine L_skip rfl rfl ?_
      refine L_skip rfl rfl ?_
      refine L_y rfl (y_pick_f rfl rfl) rfl ?_
      refine L_nil ?_
      refine C_cond_f rfl ?_
      refine C_skip ?_
      refine C_region ?_
      refine L_y rfl (y_add rfl rfl (show _ = (1 : Int) from rfl)) rfl ?_
      refine L_y rfl (y_move rfl) rfl ?_
      refine L_nil ?_
      refine In_round ?_
      refine C_seq ?_
      refine C_region ?_
      refine L_y rfl (y_lss rfl rfl) rfl ?_
      refine L_nil ?_
      refine C_seq ?_
      refine C_cond_f rfl ?_
      refine C_exit ?_
      refine C_seq ?_
      refine C_region ?_
      refine L_y rfl (y_buildA0 Try.underlying32 sz_5 zl_32) rfl ?_
      refine L_op rfl (op_storeA 4 0 rfl rfl rfl sz_32 (by rw [zsec, bs_length, secOf_len]) rfl (by rw [zsec]; exact bs_one _) (by simp) ?_)
      rw [zsec]
      refine L_y rfl (y_assign rfl) rfl ?_
      refine L_nil ?_
      refine C_ret ?_
      refine B_ret (rv_cellA rfl ag_32 sz_32 (sees 4 0 rfl) (by first | (rw [bs_length, rS_len _ h.oks]; decide) | (rw [bs_length, secOf_len]; decide)) (by first | exact bs_whole0 _ (rS_len _ h.oks) | exact bs_whole0 _ (secOf_len 0)) (rv_tmp rfl rv_nil)) ((hsub (.cons_cons _ (.cons_cons _ (.cons _ (.cons _ (.cons _ (.refl _))))))).trans (hsub_pick [3, 1] rfl)) ?_
      exact ⟨by simp_all [mrE, mrS, okAt] <;> rfl, rfl⟩
  · skip
    refine L_skip rfl rfl ?_
    refine L_skip rfl rfl ?_
    refine L_skip rfl rfl ?_
    refine L_skip rfl rfl ?_
    refine L_skip rfl rfl ?_
    refine L_skip rfl rfl ?_
    refine L_skip rfl rfl ?_
    refine L_skip rfl rfl ?_
    refine L_skip rfl rfl ?_
    refine L_skip rfl rfl ?_
    refine L_y rfl (y_pick_f rfl rfl) rfl ?_
    refine L_y rfl (y_move rfl) rfl ?_
    refine L_skip rfl rfl ?_
    refine L_skip rfl rfl ?_
    refine L_skip rfl rfl ?_
    refine L_skip rfl rfl ?_
    refine L_y rfl (y_pick_f rfl rfl) rfl ?_
    refine L_nil ?_
    refine C_cond_f rfl ?_
    refine C_skip ?_
    refine C_region ?_
    refine L_y rfl (y_add rfl rfl (show _ = (1 : Int) from rfl)) rfl ?_
    refine L_y rfl (y_move rfl) rfl ?_
    refine L_nil ?_
    refine In_round ?_
    refine C_seq ?_
    refine C_region ?_
    refine L_y rfl (y_lss rfl rfl) rfl ?_
    refine L_nil ?_
    refine C_seq ?_
    refine C_cond_f rfl ?_
    refine C_exit ?_
    refine C_seq ?_
    refine C_region ?_
    refine L_y rfl (y_buildA0 Try.underlying32 sz_5 zl_32) rfl ?_
    refine L_op rfl (op_storeA 4 0 rfl rfl rfl sz_32 (by rw [zsec, bs_length, secOf_len]) rfl (by rw [zsec]; exact bs_one _) (by simp) ?_)
    rw [zsec]
    refine L_y rfl (y_assign rfl) rfl ?_
    refine L_nil ?_
    refine C_ret ?_
    refine B_ret (rv_cellA rfl ag_32 sz_32 (sees 4 0 rfl) (by first | (rw [bs_length, rS_len _ h.oks]; decide) | (rw [bs_length, secOf_len]; decide)) (by first | exact bs_whole0 _ (rS_len _ h.oks) | exact bs_whole0 _ (secOf_len 0)) (rv_tmp rfl rv_nil)) ((hsub (.cons_cons _ (.cons_cons _ (.cons _ (.cons _ (.cons _ (.refl _))))))).trans (hsub_pick [3, 1] rfl)) ?_
    exact ⟨by simp_all [mrE, mrS, okAt] <;> rfl, rfl⟩

theorem mread_ft {w0 : World} {H : Hp} {D : Duo} {A : Da} {bp : Nat} {m : Mi} (h : Two dt D A m.bx m.bys bp) {p : Int → Sec → Bool} (hG : GoodAt Try.prog w0 H m.gv p) (n : Int) (hn : m.has n = true) (hp : thr A false = false) (hq : thr A true = true) : FnS Try.prog w0 22 #[ptr m.b, .int .i64 n] (m.seg 110 :: D.seg dt :: H) (fun e H' => e = .returned (.tuple #[.agg (bs (mrS m A p n)).toArray, .int .i64 (mrE m A p n)]) ∧ H' = m.seg 110 :: D.seg dt :: H) := by
  refine FnS_intro (n := 63) (rs := [.cell 4 32, .tmp 5]) (vs := [ptr m.b, .int .i64 n]) Try.func22 rfl Try.ntmps22 rfl rfl ?_
  refine C_seq ?_
  refine C_region ?_
  refine L_op rfl (op_alloc zl_32 rfl (fun B1 => ?_))
  refine L_y rfl (y_assign rfl) rfl ?_
  refine L_nil ?_
  refine C_seq ?_
  refine C_seq ?_
  refine C_region ?_
  refine L_y rfl (y_move rfl) rfl ?_
  refine L_y rfl (y_move rfl) rfl ?_
  refine L_op rfl (op_call rfl rfl (fun a w => Try.call58 a w) rfl ?_)
  refine (has_m _ (sees 1 0 rfl)).mono ?_
  rintro _ _ ⟨rfl, rfl⟩
  rw [hn]
  refine ⟨_, rfl, ?_⟩
  refine L_y rfl (y_not rfl) rfl ?_
  refine L_nil ?_
  refine C_cond_f rfl ?_
  refine C_skip ?_
  refine C_seq ?_
  refine C_region ?_
  refine L_y rfl (y_move rfl) rfl ?_
  refine L_op rfl (op_call rfl rfl (fun a w => Try.call59 a w) rfl ?_)
  refine ((present_ft h hp hq).sub (hsub_pick [1, 1] rfl)).mono ?_
  rintro _ _ ⟨g1, hg1, rfl, rfl⟩
  cases g1 with
  | none => exact slOk_none hg1 (by decide)
  | some g1 => ?_
  refine ⟨_, rfl, ?_⟩
  refine L_y rfl (y_assign rfl) rfl ?_
  refine L_nil ?_
  refine C_seq ?_
  refine C_seq ?_
  refine C_region ?_
  refine L_y rfl (y_move rfl) rfl ?_
  refine L_y rfl (y_lenS rfl rfl Try.underlying118) rfl ?_
  refine L_y rfl (y_eqi rfl rfl) rfl ?_
  refine L_nil ?_
  refine C_cond_f rfl ?_
  refine C_skip ?_
  refine C_seq ?_
  refine C_seq ?_
  refine C_region ?_
  refine L_y rfl (y_move rfl) rfl ?_
  refine L_y rfl (y_lenS rfl rfl Try.underlying118) rfl ?_
  refine L_y rfl (y_move rfl) rfl ?_
  refine L_nil ?_
  refine C_block ?_
  refine C_loopIn (In_round ?_)
  refine C_seq ?_
  refine C_region ?_
  refine L_y rfl (y_lss rfl rfl) rfl ?_
  refine L_nil ?_
  refine C_seq ?_
  refine C_cond_t rfl ?_
  refine C_skip ?_
  refine C_seq ?_
  refine C_block ?_
  refine C_seq ?_
  refine C_region ?_
  refine L_y rfl (y_indexS rfl rfl Try.underlying118 sz_3 (by omega) (by omega) (show _ = 0 from rfl)) rfl ?_
  refine L_y rfl (y_load rfl ag_3 (sees 0 0 rfl) rfl) rfl ?_
  refine L_y rfl (y_assign rfl) rfl ?_
  refine L_nil ?_
  refine C_seq ?_
  refine C_region ?_
  refine L_y rfl (y_move rfl) rfl ?_
  refine L_y rfl (y_move rfl) rfl ?_
  refine L_y rfl (y_nilCheck rfl) rfl ?_
  refine L_y rfl (y_fieldAddr rfl fl_110_0) rfl ?_
  refine L_y rfl (y_indexA rfl rfl Try.underlying108 sz_107 (by omega) (by omega) (show _ = 2 from rfl)) rfl ?_
  refine L_y rfl (y_fieldAddr rfl fl_107_0) rfl ?_
  refine L_y rfl (y_load rfl ag_24 (sees 1 0 rfl) rfl) rfl ?_
  refine L_y rfl (y_move rfl) rfl ?_
  refine L_op rfl (op_call rfl rfl (fun a w => Try.call60 a w) rfl ?_)
  refine ((read_d h true (n)).sub (hsub_pick [2] rfl)).mono ?_
  rintro _ _ ⟨rfl, rfl⟩
  refine ⟨_, rfl, ?_⟩
  refine L_y rfl (y_move rfl) rfl ?_
  refine L_y rfl (y_extract rfl rfl) rfl ?_
  refine L_y rfl (y_extract rfl rfl) rfl ?_
  refine L_op rfl (op_alloc zl_32 rfl (fun B2 => ?_))
  refine L_op rfl (op_storeA 0 0 rfl rfl rfl sz_32 (by rw [bs_length, (rS_len true h.oks)]) rfl (bs_one _) (by simp) ?_)
  refine L_y rfl (y_assign rfl) rfl ?_
  refine L_nil ?_
  refine C_seq ?_
  refine C_region ?_
  refine L_y rfl (y_move rfl) rfl ?_
  refine L_y rfl (y_eqi rfl rfl) rfl ?_
  refine L_y rfl (y_move rfl) rfl ?_
  refine L_case 42 rfl (fun hg10_3 => ?_) (fun hg10_3 => ?_)
  · skip
    refine L_y rfl (y_move rfl) rfl ?_
    refine L_y rfl (y_move rfl) rfl ?_
    refine L_y rfl (y_nilCheck rfl) rfl ?_
    refine L_y rfl (y_fieldAddr rfl fl_110_0) rfl ?_
    refine L_y rfl (y_indexA rfl rfl Try.underlying108 sz_107 (by omega) (by omega) (show _ = 2 from rfl)) rfl ?_
    refine L_y rfl (y_fieldAddr rfl fl_107_1) rfl ?_
    refine L_y rfl (y_load rfl ag_105 (sees 3 0 rfl) rfl) rfl ?_
    refine L_y rfl (y_move rfl) rfl ?_
    refine L_y rfl (y_lookup rfl rfl Try.underlying105 Try.underlying3 zt_4 (sees 3 2 rfl)) rfl ?_
    refine L_y rfl (y_not rfl) rfl ?_
    refine L_y rfl (y_pick_t rfl rfl) rfl ?_
    refine L_y rfl (y_move rfl) rfl ?_
    refine L_case 54 rfl (fun hg10_15 => ?_) (fun hg10_15 => ?_)
    · skip
      refine L_y rfl (y_move rfl) rfl ?_
      refine L_y rfl (y_move rfl) rfl ?_
      refine L_y rfl (y_loadA rfl ag_32 sz_32 (sees 0 0 rfl) (by rw [bs_length, rS_len _ h.oks]; decide) (bs_whole0 _ (rS_len _ h.oks))) rfl ?_
      refine L_op rfl (op_call rfl rfl (fun a w => Try.call61 a w) rfl ?_)
      refine FnS.mono (right_m (sees 3 0 rfl) (hG.sub (hsub (.cons _ (.cons _ (.cons _ (.cons _ (.cons _ (.refl _)))))))) n _ (rS_len _ h.oks)) ?_
      rintro _ _ ⟨rfl, e⟩
      obtain rfl := e.symm
      refine ⟨_, rfl, ?_⟩
      refine L_y rfl (y_pick_t rfl rfl) rfl ?_
      refine L_nil ?_
      refine C_cond rfl (fun hc3 => ?_) (fun hc3 => ?_)
      · skip
        refine C_seq ?_
        refine C_region ?_
        refine L_y rfl (y_loadA rfl ag_32 sz_32 (sees 0 0 rfl) (by rw [bs_length, rS_len _ h.oks]; decide) (bs_whole0 _ (rS_len _ h.oks))) rfl ?_
        refine L_op rfl (op_storeA 4 0 rfl rfl rfl sz_32 (by rw [bs_length, rS_len _ h.oks]) rfl (bs_one _) (by simp) ?_)
        refine L_y rfl (y_assign rfl) rfl ?_
        refine L_nil ?_
        refine C_ret ?_
        refine B_ret (rv_cellA rfl ag_32 sz_32 (sees 4 0 rfl) (by first | (rw [bs_length, rS_len _ h.oks]; decide) | (rw [bs_length, secOf_len]; decide)) (by first | exact bs_whole0 _ (rS_len _ h.oks) | exact bs_whole0 _ (secOf_len 0)) (rv_tmp rfl rv_nil)) ((hsub (.cons_cons _ (.cons_cons _ (.cons _ (.cons _ (.cons _ (.refl _))))))).trans (hsub_pick [3, 1] rfl)) ?_
        exact ⟨by simp_all [mrE, mrS, okAt] <;> rfl, rfl⟩
      · skip
        refine C_skip ?_
        refine C_region ?_
        refine L_y rfl (y_add rfl rfl (show _ = (1 : Int) from rfl)) rfl ?_
        refine L_y rfl (y_move rfl) rfl ?_
        refine L_nil ?_
        refine In_round ?_
        refine C_seq ?_
        refine C_region ?_
        refine L_y rfl (y_lss rfl rfl) rfl ?_
        refine L_nil ?_
        refine C_seq ?_
        refine C_cond_f rfl ?_
        refine C_exit ?_
        refine C_seq ?_
        refine C_region ?_
        refine L_y rfl (y_buildA0 Try.underlying32 sz_5 zl_32) rfl ?_
        refine L_op rfl (op_storeA 4 0 rfl rfl rfl sz_32 (by rw [zsec, bs_length, secOf_len]) rfl (by rw [zsec]; exact bs_one _) (by simp) ?_)
        rw [zsec]
        refine L_y rfl (y_assign rfl) rfl ?_
        refine L_nil ?_
        refine C_ret ?_
        refine B_ret (rv_cellA rfl ag_32 sz_32 (sees 4 0 rfl) (by first | (rw [bs_length, rS_len _ h.oks]; decide) | (rw [bs_length, secOf_len]; decide)) (by first | exact bs_whole0 _ (rS_len _ h.oks) | exact bs_whole0 _ (secOf_len 0)) (rv_tmp rfl rv_nil)) ((hsub (.cons_cons _ (.cons_cons _ (.cons _ (.cons _ (.cons _ (.refl _))))))).trans (hsub_pick [3, 1] rfl)) ?_
        exact ⟨by simp_all [mrE, mrS, okAt] <;> rfl, rfl⟩
    · skip
      refine L_skip rfl rfl ?_
      refine L_skip rfl rfl ?_
      refine L_skip rfl rfl ?_
      refine L_skip rfl rfl ?_
      refine L_y rfl (y_pick_f rfl rfl) rfl ?_
      refine L_nil ?_
      refine C_cond_f rfl ?_
      refine C_skip ?_
      refine C_region ?_
      refine L_y rfl (y_add rfl rfl (show _ = (1 : Int) from rfl)) rfl ?_
      refine L_y rfl (y_move rfl) rfl ?_
      refine L_nil ?_
      refine In_round ?_
      refine C_seq ?_
      refine C_region ?_
      refine L_y rfl (y_lss rfl rfl) rfl ?_
      refine L_nil ?_
      refine C_seq ?_
      refine C_cond_f rfl ?_
      refine C_exit ?_
      refine C_seq ?_
      refine C_region ?_
      refine L_y rfl (y_buildA0 Try.underlying32 sz_5 zl_32) rfl ?_
      refine L_op rfl (op_storeA 4 0 rfl rfl rfl sz_32 (by rw [zsec, bs_length, secOf_len]) rfl (by rw [zsec]; exact bs_one _) (by simp) ?_)
      rw [zsec]
      refine L_y rfl (y_assign rfl) rfl ?_
      refine L_nil ?_
      refine C_ret ?_
      refine B_ret (rv_cellA rfl ag_32 sz_32 (sees 4 0 rfl) (by first | (rw [bs_length, rS_len _ h.oks]; decide) | (rw [bs_length, secOf_len]; decide)) (by first | exact bs_whole0 _ (rS_len _ h.oks) | exact bs_whole0 _ (secOf_len 0)) (rv_tmp rfl rv_nil)) ((hsub (.cons_cons _ (.cons_cons _ (.cons _ (.cons _ (.cons _ (.refl _))))))).trans (hsub_pick [3, 1] rfl)) ?_
      exact ⟨by simp_all [mrE, mrS, okAt] <;> rfl, rfl⟩
  · skip
    refine L_skip rfl rfl ?_
    refine L_skip rfl rfl ?_
    refine L_skip rfl rfl ?_
    refine L_skip rfl rfl ?_
    refine L_skip rfl rfl ?_
    refine L_skip rfl rfl ?_
    refine L_skip rfl rfl ?_
    refine L_skip rfl rfl ?_
    refine L_skip rfl rfl ?_
    refine L_skip rfl rfl ?_
    refine L_y rfl (y_pick_f rfl rfl) rfl ?_
    refine L_y rfl (y_move rfl) rfl ?_
    refine L_skip rfl rfl ?_
    refine L_skip rfl rfl ?_
    refine L_skip rfl rfl ?_
    refine L_skip rfl rfl ?_
    refine L_y rfl (y_pick_f rfl rfl) rfl ?_
    refine L_nil ?_
    refine C_cond_f rfl ?_
    refine C_skip ?_
    refine C_region ?_
    refine L_y rfl (y_add rfl rfl (show _ = (1 : Int) from rfl)) rfl ?_
    refine L_y rfl (y_move rfl) rfl ?_
    refine L_nil ?_
    refine In_round ?_
    refine C_seq ?_
    refine C_region ?_
    refine L_y rfl (y_lss rfl rfl) rfl ?_
    refine L_nil ?_
    refine C_seq ?_
    refine C_cond_f rfl ?_
    refine C_exit ?_
    refine C_seq ?_
    refine C_region ?_
    refine L_y rfl (y_buildA0 Try.underlying32 sz_5 zl_32) rfl ?_
    refine L_op rfl (op_storeA 4 0 rfl rfl rfl sz_32 (by rw [zsec, bs_length, secOf_len]) rfl (by rw [zsec]; exact bs_one _) (by simp) ?_)
    rw [zsec]
    refine L_y rfl (y_assign rfl) rfl ?_
    refine L_nil ?_
    refine C_ret ?_
    refine B_ret (rv_cellA rfl ag_32 sz_32 (sees 4 0 rfl) (by first | (rw [bs_length, rS_len _ h.oks]; decide) | (rw [bs_length, secOf_len]; decide)) (by first | exact bs_whole0 _ (rS_len _ h.oks) | exact bs_whole0 _ (secOf_len 0)) (rv_tmp rfl rv_nil)) ((hsub (.cons_cons _ (.cons_cons _ (.cons _ (.cons _ (.cons _ (.refl _))))))).trans (hsub_pick [3, 1] rfl)) ?_
    exact ⟨by simp_all [mrE, mrS, okAt] <;> rfl, rfl⟩

theorem mread_ff {w0 : World} {H : Hp} {D : Duo} {A : Da} {bp : Nat} {m : Mi} (h : Two dt D A m.bx m.bys bp) {p : Int → Sec → Bool} (hG : GoodAt Try.prog w0 H m.gv p) (n : Int) (hn : m.has n = true) (hp : thr A false = false) (hq : thr A true = false) : FnS Try.prog w0 22 #[ptr m.b, .int .i64 n] (m.seg 110 :: D.seg dt :: H) (fun e H' => e = .returned (.tuple #[.agg (bs (mrS m A p n)).toArray, .int .i64 (mrE m A p n)]) ∧ H' = m.seg 110 :: D.seg dt :: H) := by
  refine FnS_intro (n := 63) (rs := [.cell 4 32, .tmp 5]) (vs := [ptr m.b, .int .i64 n]) Try.func22 rfl Try.ntmps22 rfl rfl ?_
  refine C_seq ?_
  refine C_region ?_
  refine L_op rfl (op_alloc zl_32 rfl (fun B1 => ?_))
  refine L_y rfl (y_assign rfl) rfl ?_
  refine L_nil ?_
  refine C_seq ?_
  refine C_seq ?_
  refine C_region ?_
  refine L_y rfl (y_move rfl) rfl ?_
  refine L_y rfl (y_move rfl) rfl ?_
  refine L_op rfl (op_call rfl rfl (fun a w => Try.call58 a w) rfl ?_)
  refine (has_m _ (sees 1 0 rfl)).mono ?_
  rintro _ _ ⟨rfl, rfl⟩
  rw [hn]
  refine ⟨_, rfl, ?_⟩
  refine L_y rfl (y_not rfl) rfl ?_
  refine L_nil ?_
  refine C_cond_f rfl ?_
  refine C_skip ?_
  refine C_seq ?_
  refine C_region ?_
  refine L_y rfl (y_move rfl) rfl ?_
  refine L_op rfl (op_call rfl rfl (fun a w => Try.call59 a w) rfl ?_)
  refine ((present_ff h hp hq).sub (hsub_pick [1, 1] rfl)).mono ?_
  rintro _ _ ⟨rfl, rfl⟩
  refine ⟨_, rfl, ?_⟩
  refine L_y rfl (y_assign rfl) rfl ?_
  refine L_nil ?_
  refine C_seq ?_
  refine C_seq ?_
  refine C_region ?_
  refine L_y rfl (y_move rfl) rfl ?_
  refine L_y rfl (y_lenS rfl rfl Try.underlying118) rfl ?_
  refine L_y rfl (y_eqi rfl rfl) rfl ?_
  refine L_nil ?_
  refine C_cond_t rfl ?_
  refine C_seq ?_
  refine C_region ?_
  refine L_y rfl (y_buildA0 Try.underlying32 sz_5 zl_32) rfl ?_
  refine L_op rfl (op_storeA 2 0 rfl rfl rfl sz_32 (by rw [zsec, bs_length, secOf_len]) rfl (by rw [zsec]; exact bs_one _) (by simp) ?_)
  rw [zsec]
  refine L_y rfl (y_assign rfl) rfl ?_
  refine L_nil ?_
  refine C_ret ?_
  refine B_ret (rv_cellA rfl ag_32 sz_32 (sees 2 0 rfl) (by first | (rw [bs_length, rS_len _ h.oks]; decide) | (rw [bs_length, secOf_len]; decide)) (by first | exact bs_whole0 _ (rS_len _ h.oks) | exact bs_whole0 _ (secOf_len 0)) (rv_tmp rfl rv_nil)) ((hsub (.cons_cons _ (.cons_cons _ (.cons _ (.refl _))))).trans (hsub_pick [0, 0] rfl)) ?_
  exact ⟨by simp_all [mrE, mrS, okAt] <;> rfl, rfl⟩

theorem mread_m {w0 : World} {H : Hp} {D : Duo} {A : Da} {bp : Nat} {m : Mi} (h : Two dt D A m.bx m.bys bp) {p : Int → Sec → Bool} (hG : GoodAt Try.prog w0 H m.gv p) (n : Int) : FnS Try.prog w0 22 #[ptr m.b, .int .i64 n] (m.seg 110 :: D.seg dt :: H) (fun e H' => e = .returned (.tuple #[.agg (bs (mrS m A p n)).toArray, .int .i64 (mrE m A p n)]) ∧ H' = m.seg 110 :: D.seg dt :: H) := by
  cases hn : m.has n
  · exact mread_no h hG n hn
  · cases hp : thr A false <;> cases hq : thr A true
    · exact mread_ff h hG n hn hp hq
    · exact mread_ft h hG n hn hp hq
    · exact mread_tf h hG n hn hp hq
    · exact mread_tt h hG n hn hp hq

end Go.Proofs.Ytjjiclgbdenkkaa

/- walks (own work; the walks' lines by a program of this repo). -/
set_option linter.unusedVariables false
set_option linter.unusedSimpArgs false
set_option maxRecDepth 20000
namespace Go.Proofs.Ytjjiclgbdenkkaa
open Go.Sl
attribute [local irreducible] BodyQ WpC WpL WpS WpH OpW FnS


theorem readg_v {w0 : World} {H : Hp} {gv : Value} {D : Duo} {A : Da} {m : Mi} {K : Nat} {X Y : List Sec} {k0 k1 mb bx bys bp : Nat} (h : Ms dt gv D A m K X Y k0 k1 mb bx bys bp) {p : Int → Sec → Bool} (hG : GoodAt Try.prog w0 H gv p) {n : Nat} {s t : Sec} (hs : X[n]? = some s) (ht : Y[n]? = some t) : FnS Try.prog w0 22 #[ptr mb, .int .i64 (n : Int)] (m.seg 110 :: D.seg dt :: H) (fun e H' => e = .returned (.tuple #[.agg (bs (rdv p n s t)).toArray, .int .i64 (rde p n s t)]) ∧ H' = m.seg 110 :: D.seg dt :: H) := by
  have hT : Two dt D A m.bx m.bys bp := by rw [h.bx, h.bys]; exact h.two
  have := mread_m (w0 := w0) (H := H) hT (p := p) (by rw [h.gv]; exact hG) (n : Int)
  rw [(h.rd hs ht).1, (h.rd hs ht).2, h.mb] at this
  exact this

end Go.Proofs.Ytjjiclgbdenkkaa

/- walks (own work; the walks' lines by a program of this repo). -/
set_option linter.unusedVariables false
set_option linter.unusedSimpArgs false
set_option maxRecDepth 20000
namespace Go.Proofs.Ytjjiclgbdenkkaa
open Go.Sl
attribute [local irreducible] BodyQ WpC WpL WpS WpH OpW FnS



set_option maxHeartbeats 4000000 in

theorem heal_no {w0 : World} {H : Hp} {D : Duo} {A : Da} {bp : Nat} {m : Mi} (h : Two dt D A m.bx m.bys bp) {p : Int → Sec → Bool} (hG : GoodAt Try.prog w0 H m.gv p) (n : Int) (hQ : ∀ i, (A.dev i).Q.length < 99990) (hn : m.has n = false) : FnS Try.prog w0 23 #[ptr m.b, .int .i64 n] (m.seg 110 :: D.seg dt :: H) (fun e H' => e = .returned (.tuple #[.int .i64 (healR m A p n).1, .int .i64 (healR m A p n).2]) ∧ ∃ D', Two dt D' (healA m A p n) m.bx m.bys bp ∧ H' = (healM m A p n).seg 110 :: D'.seg dt :: H) := by
  refine FnS_intro (n := 105) (rs := [.tmp 4, .tmp 5]) (vs := [ptr m.b, .int .i64 n]) Try.func23 rfl Try.ntmps23 rfl rfl ?_
  refine C_seq ?_
  refine C_region ?_
  refine L_y rfl (y_assign rfl) rfl ?_
  refine L_y rfl (y_assign rfl) rfl ?_
  refine L_nil ?_
  refine C_seq ?_
  refine C_seq ?_
  refine C_region ?_
  refine L_y rfl (y_move rfl) rfl ?_
  refine L_y rfl (y_move rfl) rfl ?_
  refine L_op rfl (op_call rfl rfl (fun a w => Try.call58 a w) rfl ?_)
  refine (has_m _ (sees 0 0 rfl)).mono ?_
  rintro _ _ ⟨rfl, rfl⟩
  rw [hn]
  refine ⟨_, rfl, ?_⟩
  refine L_y rfl (y_not rfl) rfl ?_
  refine L_nil ?_
  refine C_cond_t rfl ?_
  refine C_seq ?_
  refine C_region ?_
  refine L_y rfl (y_assign rfl) rfl ?_
  refine L_y rfl (y_assign rfl) rfl ?_
  refine L_nil ?_
  refine C_ret ?_
  refine B_ret (rv_tmp rfl (rv_tmp rfl rv_nil)) ((hsub (.cons_cons _ (.cons_cons _ (.refl _)))).trans (hsub_pick [0, 0] rfl)) ?_
  exact ⟨by simp_all [healR, healTo, Go.Sl.hg0, Go.Sl.hg1] <;> rfl, D, h.to (by simp_all [healA, healTo, Go.Sl.hg0, Go.Sl.hg1]), by rw [show healM m A p n = m from by simp_all [healM, healTo, Go.Sl.hg0, Go.Sl.hg1]]; first | done | rfl⟩

set_option maxHeartbeats 4000000 in

theorem heal_tt {w0 : World} {H : Hp} {D : Duo} {A : Da} {bp : Nat} {m : Mi} (h : Two dt D A m.bx m.bys bp) {p : Int → Sec → Bool} (hG : GoodAt Try.prog w0 H m.gv p) (n : Int) (hQ : ∀ i, (A.dev i).Q.length < 99990) (hn : m.has n = true) (hp : thr A false = true) (hq : thr A true = true) : FnS Try.prog w0 23 #[ptr m.b, .int .i64 n] (m.seg 110 :: D.seg dt :: H) (fun e H' => e = .returned (.tuple #[.int .i64 (healR m A p n).1, .int .i64 (healR m A p n).2]) ∧ ∃ D', Two dt D' (healA m A p n) m.bx m.bys bp ∧ H' = (healM m A p n).seg 110 :: D'.seg dt :: H) := by
  refine FnS_intro (n := 105) (rs := [.tmp 4, .tmp 5]) (vs := [ptr m.b, .int .i64 n]) Try.func23 rfl Try.ntmps23 rfl rfl ?_
  refine C_seq ?_
  refine C_region ?_
  refine L_y rfl (y_assign rfl) rfl ?_
  refine L_y rfl (y_assign rfl) rfl ?_
  refine L_nil ?_
  refine C_seq ?_
  refine C_seq ?_
  refine C_region ?_
  refine L_y rfl (y_move rfl) rfl ?_
  refine L_y rfl (y_move rfl) rfl ?_
  refine L_op rfl (op_call rfl rfl (fun a w => Try.call58 a w) rfl ?_)
  refine (has_m _ (sees 0 0 rfl)).mono ?_
  rintro _ _ ⟨rfl, rfl⟩
  rw [hn]
  refine ⟨_, rfl, ?_⟩
  refine L_y rfl (y_not rfl) rfl ?_
  refine L_nil ?_
  refine C_cond_f rfl ?_
  refine C_skip ?_
  refine C_seq ?_
  refine C_seq ?_
  refine C_region ?_
  refine L_y rfl (y_move rfl) rfl ?_
  refine L_op rfl (op_call rfl rfl (fun a w => Try.call59 a w) rfl ?_)
  refine ((present_tt h hp hq).sub (hsub_pick [0, 0] rfl)).mono ?_
  rintro _ _ ⟨g1, hg1, rfl, rfl⟩
  cases g1 with
  | none => exact slOk_none hg1 (by decide)
  | some g1 => ?_
  refine ⟨_, rfl, ?_⟩
  refine L_y rfl (y_lenS rfl rfl Try.underlying118) rfl ?_
  refine L_y rfl (y_lss rfl rfl) rfl ?_
  refine L_nil ?_
  refine C_cond_f rfl ?_
  refine C_skip ?_
  refine C_seq ?_
  refine C_region ?_
  refine L_op rfl (op_alloc zl_120 rfl (fun B1 => ?_))
  refine L_nil ?_
  refine C_seq ?_
  refine C_region ?_
  refine L_op rfl (op_alloc zl_62 rfl (fun B2 => ?_))
  refine L_nil ?_
  refine C_seq ?_
  refine C_seq ?_
  refine C_region ?_
  refine L_y rfl (y_move rfl) rfl ?_
  refine L_nil ?_
  refine C_block ?_
  refine C_loopIn (In_round ?_)
  refine C_seq ?_
  refine C_region ?_
  refine L_y rfl (y_lss rfl rfl) rfl ?_
  refine L_nil ?_
  refine C_seq ?_
  refine C_cond_t rfl ?_
  refine C_skip ?_
  refine C_seq ?_
  refine C_block ?_
  refine C_seq ?_
  refine C_region ?_
  refine L_y rfl (y_move rfl) rfl ?_
  refine L_y rfl (y_assign rfl) rfl ?_
  refine L_nil ?_
  refine C_seq ?_
  refine C_region ?_
  refine L_y rfl (y_move rfl) rfl ?_
  refine L_y rfl (y_move rfl) rfl ?_
  refine L_y rfl (y_move rfl) rfl ?_
  refine L_y rfl (y_nilCheck rfl) rfl ?_
  refine L_y rfl (y_fieldAddr rfl fl_110_0) rfl ?_
  refine L_y rfl (y_indexA rfl rfl Try.underlying108 sz_107 (by omega) (by omega) (show _ = 0 from rfl)) rfl ?_
  refine L_y rfl (y_fieldAddr rfl fl_107_0) rfl ?_
  refine L_y rfl (y_load rfl ag_24 (sees 3 0 rfl) rfl) rfl ?_
  refine L_y rfl (y_move rfl) rfl ?_
  refine L_op rfl (op_call rfl rfl (fun a w => Try.call60 a w) rfl ?_)
  refine ((read_d h false (n)).sub (hsub_pick [4] rfl)).mono ?_
  rintro _ _ ⟨rfl, rfl⟩
  refine ⟨_, rfl, ?_⟩
  refine L_y rfl (y_move rfl) rfl ?_
  refine L_y rfl (y_extract rfl rfl) rfl ?_
  refine L_y rfl (y_extract rfl rfl) rfl ?_
  refine L_y rfl (y_indexA rfl rfl Try.underlying120 sz_32 (by omega) (by omega) (show _ = 0 from rfl)) rfl ?_
  rw [z256]
  refine L_op rfl (op_store (vs := bs (A.rS false n)) 2 0 rfl rfl rfl sz_32 (by rw [bs_length, rS_len _ h.oks]) rfl (bs_one _) (by simp [bs_length, secOf_len, rS_len _ h.oks]) ?_)
  rw [spl_lo (by rw [secOf_len, rS_len _ h.oks])]
  refine L_nil ?_
  refine C_region ?_
  refine L_y rfl (y_move rfl) rfl ?_
  refine L_y rfl (y_move rfl) rfl ?_
  refine L_y rfl (y_move rfl) rfl ?_
  refine L_y rfl (y_nilCheck rfl) rfl ?_
  refine L_y rfl (y_fieldAddr rfl fl_110_0) rfl ?_
  refine L_y rfl (y_indexA rfl rfl Try.underlying108 sz_107 (by omega) (by omega) (show _ = 0 from rfl)) rfl ?_
  refine L_y rfl (y_fieldAddr rfl fl_107_1) rfl ?_
  refine L_y rfl (y_load rfl ag_105 (sees 4 0 rfl) rfl) rfl ?_
  refine L_y rfl (y_move rfl) rfl ?_
  refine L_y rfl (y_lookup rfl rfl Try.underlying105 Try.underlying3 zt_4 (sees 4 1 rfl)) rfl ?_
  refine L_y rfl (y_not rfl) rfl ?_
  refine L_y rfl (y_move rfl) rfl ?_
  refine L_case 47 rfl (fun hg11_12 => ?_) (fun hg11_12 => ?_)
  · skip
    refine L_y rfl (y_move rfl) rfl ?_
    refine L_y rfl (y_move rfl) rfl ?_
    refine L_y rfl (y_move rfl) rfl ?_
    refine L_y rfl (y_indexA rfl rfl Try.underlying120 sz_32 (by omega) (by omega) (show _ = 0 from rfl)) rfl ?_
    refine L_y rfl (y_loadA rfl ag_32 sz_32 (sees 2 0 rfl) (by simp [bs_length, secOf_len, rS_len _ h.oks]) (by first | exact two_hi (rS_len _ h.oks) (rS_len _ h.oks) | exact two_lo (rS_len _ h.oks))) rfl ?_
    refine L_op rfl (op_call rfl rfl (fun a w => Try.call61 a w) rfl ?_)
    refine FnS.mono (right_m (sees 4 0 rfl) (hG.sub (hsub (.cons _ (.cons _ (.cons _ (.cons _ (.cons _ (.refl _)))))))) n _ (rS_len _ h.oks)) ?_
    rintro _ _ ⟨rfl, e⟩
    obtain rfl := e.symm
    refine ⟨_, rfl, ?_⟩
    refine L_case 53 rfl (fun hg11_18 => ?_) (fun hg11_18 => ?_)
    · skip
      refine L_y rfl (y_pick_t rfl rfl) rfl ?_
      refine L_y rfl (y_indexA rfl rfl Try.underlying62 sz_4 (by omega) (by omega) (show _ = 0 from rfl)) rfl ?_
      refine L_op rfl (op_store1 1 0 rfl rfl rfl sz_4 rfl (Nat.le_of_ble_eq_true rfl) ?_)
      refine L_nil ?_
      refine C_region ?_
      refine L_y rfl (y_add rfl rfl (show _ = (1 : Int) from rfl)) rfl ?_
      refine L_y rfl (y_move rfl) rfl ?_
      refine L_nil ?_
      refine In_round ?_
      refine C_seq ?_
      refine C_region ?_
      refine L_y rfl (y_lss rfl rfl) rfl ?_
      refine L_nil ?_
      refine C_seq ?_
      refine C_cond_t rfl ?_
      refine C_skip ?_
      refine C_seq ?_
      refine C_block ?_
      refine C_seq ?_
      refine C_region ?_
      refine L_y rfl (y_move rfl) rfl ?_
      refine L_y rfl (y_assign rfl) rfl ?_
      refine L_nil ?_
      refine C_seq ?_
      refine C_region ?_
      refine L_y rfl (y_move rfl) rfl ?_
      refine L_y rfl (y_move rfl) rfl ?_
      refine L_y rfl (y_move rfl) rfl ?_
      refine L_y rfl (y_nilCheck rfl) rfl ?_
      refine L_y rfl (y_fieldAddr rfl fl_110_0) rfl ?_
      refine L_y rfl (y_indexA rfl rfl Try.underlying108 sz_107 (by omega) (by omega) (show _ = 2 from rfl)) rfl ?_
      refine L_y rfl (y_fieldAddr rfl fl_107_0) rfl ?_
      refine L_y rfl (y_load rfl ag_24 (sees 4 0 rfl) rfl) rfl ?_
      refine L_y rfl (y_move rfl) rfl ?_
      refine L_op rfl (op_call rfl rfl (fun a w => Try.call60 a w) rfl ?_)
      refine ((read_d h true (n)).sub (hsub_pick [0] rfl)).mono ?_
      rintro _ _ ⟨rfl, rfl⟩
      refine ⟨_, rfl, ?_⟩
      refine L_y rfl (y_move rfl) rfl ?_
      refine L_y rfl (y_extract rfl rfl) rfl ?_
      refine L_y rfl (y_extract rfl rfl) rfl ?_
      refine L_y rfl (y_indexA rfl rfl Try.underlying120 sz_32 (by omega) (by omega) (show _ = 128 from rfl)) rfl ?_
      skip
      refine L_op rfl (op_store (vs := bs (A.rS true n)) 2 0 rfl rfl rfl sz_32 (by rw [bs_length, rS_len _ h.oks]) rfl (bs_one _) (by simp [bs_length, secOf_len, rS_len _ h.oks]) ?_)
      rw [spl_hi (rS_len _ h.oks) (by rw [secOf_len, rS_len _ h.oks])]
      refine L_nil ?_
      refine C_region ?_
      refine L_y rfl (y_move rfl) rfl ?_
      refine L_y rfl (y_move rfl) rfl ?_
      refine L_y rfl (y_move rfl) rfl ?_
      refine L_y rfl (y_nilCheck rfl) rfl ?_
      refine L_y rfl (y_fieldAddr rfl fl_110_0) rfl ?_
      refine L_y rfl (y_indexA rfl rfl Try.underlying108 sz_107 (by omega) (by omega) (show _ = 2 from rfl)) rfl ?_
      refine L_y rfl (y_fieldAddr rfl fl_107_1) rfl ?_
      refine L_y rfl (y_load rfl ag_105 (sees 4 0 rfl) rfl) rfl ?_
      refine L_y rfl (y_move rfl) rfl ?_
      refine L_y rfl (y_lookup rfl rfl Try.underlying105 Try.underlying3 zt_4 (sees 4 2 rfl)) rfl ?_
      refine L_y rfl (y_not rfl) rfl ?_
      refine L_y rfl (y_move rfl) rfl ?_
      refine L_case 47 rfl (fun hg11_12 => ?_) (fun hg11_12 => ?_)
      · skip
        refine L_y rfl (y_move rfl) rfl ?_
        refine L_y rfl (y_move rfl) rfl ?_
        refine L_y rfl (y_move rfl) rfl ?_
        refine L_y rfl (y_indexA rfl rfl Try.underlying120 sz_32 (by omega) (by omega) (show _ = 128 from rfl)) rfl ?_
        refine L_y rfl (y_loadA rfl ag_32 sz_32 (sees 2 0 rfl) (by simp [bs_length, secOf_len, rS_len _ h.oks]) (by first | exact two_hi (rS_len _ h.oks) (rS_len _ h.oks) | exact two_lo (rS_len _ h.oks))) rfl ?_
        refine L_op rfl (op_call rfl rfl (fun a w => Try.call61 a w) rfl ?_)
        refine FnS.mono (right_m (sees 4 0 rfl) (hG.sub (hsub (.cons _ (.cons _ (.cons _ (.cons _ (.cons _ (.refl _)))))))) n _ (rS_len _ h.oks)) ?_
        rintro _ _ ⟨rfl, e⟩
        obtain rfl := e.symm
        refine ⟨_, rfl, ?_⟩
        refine L_case 53 rfl (fun hg11_18 => ?_) (fun hg11_18 => ?_)
        · skip
          refine L_y rfl (y_pick_t rfl rfl) rfl ?_
          refine L_y rfl (y_indexA rfl rfl Try.underlying62 sz_4 (by omega) (by omega) (show _ = 1 from rfl)) rfl ?_
          refine L_op rfl (op_store1 1 0 rfl rfl rfl sz_4 rfl (Nat.le_of_ble_eq_true rfl) ?_)
          refine L_nil ?_
          refine C_region ?_
          refine L_y rfl (y_add rfl rfl (show _ = (2 : Int) from rfl)) rfl ?_
          refine L_y rfl (y_move rfl) rfl ?_
          refine L_nil ?_
          refine In_round ?_
          refine C_seq ?_
          refine C_region ?_
          refine L_y rfl (y_lss rfl rfl) rfl ?_
          refine L_nil ?_
          refine C_seq ?_
          refine C_cond_f rfl ?_
          refine C_exit ?_
          refine C_seq ?_
          refine C_region ?_
          refine L_y rfl (y_assign rfl) rfl ?_
          refine L_nil ?_
          refine C_seq ?_
          refine C_block ?_
          refine C_seq ?_
          refine C_region ?_
          refine L_y rfl (y_indexA rfl rfl Try.underlying62 sz_4 (by omega) (by omega) (show _ = 0 from rfl)) rfl ?_
          refine L_y rfl (y_load rfl ag_4 (sees 1 0 rfl) rfl) rfl ?_
          refine L_y rfl (y_not rfl) rfl ?_
          refine L_y rfl (y_move rfl) rfl ?_
          refine L_skip rfl rfl ?_
          refine L_skip rfl rfl ?_
          refine L_skip rfl rfl ?_
          refine L_y rfl (y_pick_f rfl rfl) rfl ?_
          refine L_y rfl (y_assign rfl) rfl ?_
          refine L_nil ?_
          refine C_cond_f rfl ?_
          refine C_seq ?_
          refine C_region ?_
          refine L_y rfl (y_indexA rfl rfl Try.underlying62 sz_4 (by omega) (by omega) (show _ = 0 from rfl)) rfl ?_
          refine L_y rfl (y_load rfl ag_4 (sees 1 0 rfl) rfl) rfl ?_
          refine L_y rfl (y_move rfl) rfl ?_
          refine L_y rfl (y_indexA rfl rfl Try.underlying62 sz_4 (by omega) (by omega) (show _ = 1 from rfl)) rfl ?_
          refine L_y rfl (y_load rfl ag_4 (sees 1 0 rfl) rfl) rfl ?_
          refine L_y rfl (y_pick_t rfl rfl) rfl ?_
          refine L_y rfl (y_move rfl) rfl ?_
          refine L_y rfl (y_indexA rfl rfl Try.underlying120 sz_32 (by omega) (by omega) (show _ = 0 from rfl)) rfl ?_
          refine L_y rfl (y_loadA rfl ag_32 sz_32 (sees 2 0 rfl) (by simp [bs_length, secOf_len, rS_len _ h.oks]) (two_lo (rS_len _ h.oks))) rfl ?_
          refine L_y rfl (y_indexA rfl rfl Try.underlying120 sz_32 (by omega) (by omega) (show _ = 128 from rfl)) rfl ?_
          refine L_y rfl (y_loadA rfl ag_32 sz_32 (sees 2 0 rfl) (by simp [bs_length, secOf_len, rS_len _ h.oks]) (two_hi (rS_len _ h.oks) (rS_len _ h.oks))) rfl ?_
          refine L_y rfl (y_eqa rfl rfl Try.underlying32 Try.underlying5 sz_5 eg_32 (rS_len _ h.oks) (rS_len _ h.oks)) rfl ?_
          refine L_y rfl (y_pick_t rfl rfl) rfl ?_
          refine L_y rfl (y_assign rfl) rfl ?_
          refine L_nil ?_
          refine C_cond rfl (fun hc4 => ?_) (fun hc4 => ?_)
          · replace hc4 := of_decide_eq_true hc4
            refine C_seq ?_
            refine C_region ?_
            refine L_y rfl (y_assign rfl) rfl ?_
            refine L_y rfl (y_assign rfl) rfl ?_
            refine L_nil ?_
            refine C_ret ?_
            refine B_ret (rv_tmp rfl (rv_tmp rfl rv_nil)) ((hsub (.cons_cons _ (.cons_cons _ (.cons _ (.cons _ (.cons _ (.refl _))))))).trans (hsub_pick [4, 0] rfl)) ?_
            exact ⟨by simp_all [healR, healTo, Go.Sl.hg0, Go.Sl.hg1] <;> rfl, D, h.to (by simp_all [healA, healTo, Go.Sl.hg0, Go.Sl.hg1]), by rw [show healM m A p n = m from by simp_all [healM, healTo, Go.Sl.hg0, Go.Sl.hg1]]; first | done | rfl⟩
          · replace hc4 := of_decide_eq_false hc4
            refine C_seq ?_
            refine C_region ?_
            refine L_y rfl (y_indexA rfl rfl Try.underlying62 sz_4 (by omega) (by omega) (show _ = 0 from rfl)) rfl ?_
            refine L_y rfl (y_load rfl ag_4 (sees 1 0 rfl) rfl) rfl ?_
            refine L_y rfl (y_not rfl) rfl ?_
            refine L_y rfl (y_assign rfl) rfl ?_
            refine L_nil ?_
            refine C_cond_f rfl ?_
            refine C_skip ?_
            refine C_seq ?_
            refine C_seq ?_
            refine C_region ?_
            refine L_y rfl (y_move rfl) rfl ?_
            refine L_y rfl (y_move rfl) rfl ?_
            refine L_y rfl (y_sub rfl rfl (show _ = (1 : Int) from rfl)) rfl ?_
            refine L_y rfl (y_nilCheck rfl) rfl ?_
            refine L_y rfl (y_fieldAddr rfl fl_110_0) rfl ?_
            refine L_y rfl (y_indexA rfl rfl Try.underlying108 sz_107 (by omega) (by omega) (show _ = 2 from rfl)) rfl ?_
            refine L_y rfl (y_assign rfl) rfl ?_
            refine L_nil ?_
            refine C_seq ?_
            refine C_regionH (m.seg 110 :: H) (by kernel_rfl) ?_
            refine H_y 0 rfl (by kernel_rfl) (by kernel_rfl) (by kernel_rfl) (((hsub (.cons_cons _ (.cons _ (.cons _ (.cons _ (.cons _ (.refl _))))))).trans (hsub_pick [4] rfl))) rfl (y_move rfl) rfl ?_
            refine H_y 1 rfl (by kernel_rfl) (by kernel_rfl) (by kernel_rfl) (((hsub (.cons_cons _ (.cons _ (.cons _ (.cons _ (.cons _ (.refl _))))))).trans (hsub_pick [4] rfl))) rfl (y_nilCheck rfl) rfl ?_
            refine H_y 2 rfl (by kernel_rfl) (by kernel_rfl) (by kernel_rfl) (((hsub (.cons_cons _ (.cons _ (.cons _ (.cons _ (.cons _ (.refl _))))))).trans (hsub_pick [4] rfl))) rfl (y_fieldAddr rfl fl_107_0) rfl ?_
            refine H_y 3 rfl (by kernel_rfl) (by kernel_rfl) (by kernel_rfl) (((hsub (.cons_cons _ (.cons _ (.cons _ (.cons _ (.cons _ (.refl _))))))).trans (hsub_pick [4] rfl))) rfl (y_load rfl ag_24 (sees 0 0 rfl) rfl) rfl ?_
            refine H_y 4 rfl (by kernel_rfl) (by kernel_rfl) (by kernel_rfl) (((hsub (.cons_cons _ (.cons _ (.cons _ (.cons _ (.cons _ (.refl _))))))).trans (hsub_pick [4] rfl))) rfl (y_move rfl) rfl ?_
            refine H_y 5 rfl (by kernel_rfl) (by kernel_rfl) (by kernel_rfl) (((hsub (.cons_cons _ (.cons _ (.cons _ (.cons _ (.cons _ (.refl _))))))).trans (hsub_pick [4] rfl))) rfl (y_move rfl) rfl ?_
            refine H_y 6 rfl (by kernel_rfl) (by kernel_rfl) (by kernel_rfl) (((hsub (.cons_cons _ (.cons _ (.cons _ (.cons _ (.cons _ (.refl _))))))).trans (hsub_pick [4] rfl))) rfl (y_indexA rfl rfl Try.underlying120 sz_32 (by omega) (by omega) (show _ = 0 from rfl)) rfl ?_
            refine H_one 7 rfl (by kernel_rfl) rfl (op_y (y_loadA rfl ag_32 sz_32 (sees 2 0 rfl) (by simp [bs_length, secOf_len, rS_len _ h.oks]) (by first | exact two_hi (rS_len _ h.oks) (rS_len _ h.oks) | exact two_lo (rS_len _ h.oks))) rfl ?_)
            refine ⟨((hsub (.cons_cons _ (.cons _ (.cons _ (.cons _ (.cons _ (.refl _))))))).trans (hsub_pick [4] rfl)), ?_⟩
            refine H_one 8 rfl (by kernel_rfl) rfl (op_call rfl rfl (fun a w => Try.call62 a w) rfl ?_)
            refine ((write_d h true n (A.rS false n) (rS_len _ h.oks) (by have := hQ true; omega)).sub (hsub_pick [0] rfl)).mono ?_
            rintro _ _ ⟨rfl, D2, h2, rfl⟩
            refine ⟨_, rfl, ?_⟩
            refine ⟨((hsub (.cons_cons _ (.cons _ (.cons _ (.cons _ (.cons _ (.refl _))))))).trans (hsub_pick [4] rfl)), ?_⟩
            refine H_y 9 rfl (by kernel_rfl) (by kernel_rfl) (by kernel_rfl) (((hsub (.cons_cons _ (.cons _ (.cons _ (.cons _ (.cons _ (.refl _))))))).trans (hsub_pick [4] rfl))) rfl (y_eqi rfl rfl) rfl ?_
            refine H_done (by kernel_rfl) ?_
            refine C_cond rfl (fun hc6 => ?_) (fun hc6 => ?_)
            · replace hc6 := of_decide_eq_true hc6
              refine C_region ?_
              refine L_y rfl (y_move rfl) rfl ?_
              refine L_y rfl (y_nilCheck rfl) rfl ?_
              refine L_y rfl (y_fieldAddr rfl fl_107_1) rfl ?_
              refine L_y rfl (y_load rfl ag_105 (sees 4 0 rfl) rfl) rfl ?_
              refine L_y rfl (y_move rfl) rfl ?_
              refine L_op rfl (op_delete 4 2 rfl rfl rfl Try.underlying105 Try.underlying3 rfl rfl ?_)
              refine L_nil ?_
              refine C_seq ?_
              refine C_region ?_
              refine L_y rfl (y_assign rfl) rfl ?_
              refine L_y rfl (y_assign rfl) rfl ?_
              refine L_nil ?_
              refine C_ret ?_
              refine B_ret (rv_tmp rfl (rv_tmp rfl rv_nil)) ((hsub (.cons_cons _ (.cons_cons _ (.cons _ (.cons _ (.cons _ (.refl _))))))).trans (hsub_pick [4, 0] rfl)) ?_
              have e0 : healTo m A p n = some true := by simp_all [healTo, Go.Sl.hg0, Go.Sl.hg1]
              have e1 : healM m A p n = (if A.wE true n = 0 then { m with k1 := kDel m.k1 n } else m) := by simp [healM, e0]
              exact ⟨by simp_all [healR, Go.Sl.hg0, Go.Sl.hg1] <;> rfl, D2, h2.to (by simp [healA, e0]), by rw [e1]; first | (rw [if_pos (by simpa using hc6)]; rfl) | (rw [if_neg (by simpa using hc6)]; rfl)⟩
            · replace hc6 := of_decide_eq_false hc6
              refine C_skip ?_
              refine C_seq ?_
              refine C_region ?_
              refine L_y rfl (y_assign rfl) rfl ?_
              refine L_y rfl (y_assign rfl) rfl ?_
              refine L_nil ?_
              refine C_ret ?_
              refine B_ret (rv_tmp rfl (rv_tmp rfl rv_nil)) ((hsub (.cons_cons _ (.cons_cons _ (.cons _ (.cons _ (.cons _ (.refl _))))))).trans (hsub_pick [4, 0] rfl)) ?_
              have e0 : healTo m A p n = some true := by simp_all [healTo, Go.Sl.hg0, Go.Sl.hg1]
              have e1 : healM m A p n = (if A.wE true n = 0 then { m with k1 := kDel m.k1 n } else m) := by simp [healM, e0]
              exact ⟨by simp_all [healR, Go.Sl.hg0, Go.Sl.hg1] <;> rfl, D2, h2.to (by simp [healA, e0]), by rw [e1]; first | (rw [if_pos (by simpa using hc6)]; rfl) | (rw [if_neg (by simpa using hc6)]; rfl)⟩
        · skip
          refine L_y rfl (y_pick_t rfl rfl) rfl ?_
          refine L_y rfl (y_indexA rfl rfl Try.underlying62 sz_4 (by omega) (by omega) (show _ = 1 from rfl)) rfl ?_
          refine L_op rfl (op_store1 1 0 rfl rfl rfl sz_4 rfl (Nat.le_of_ble_eq_true rfl) ?_)
          refine L_nil ?_
          refine C_region ?_
          refine L_y rfl (y_add rfl rfl (show _ = (2 : Int) from rfl)) rfl ?_
          refine L_y rfl (y_move rfl) rfl ?_
          refine L_nil ?_
          refine In_round ?_
          refine C_seq ?_
          refine C_region ?_
          refine L_y rfl (y_lss rfl rfl) rfl ?_
          refine L_nil ?_
          refine C_seq ?_
          refine C_cond_f rfl ?_
          refine C_exit ?_
          refine C_seq ?_
          refine C_region ?_
          refine L_y rfl (y_assign rfl) rfl ?_
          refine L_nil ?_
          refine C_seq ?_
          refine C_block ?_
          refine C_seq ?_
          refine C_region ?_
          refine L_y rfl (y_indexA rfl rfl Try.underlying62 sz_4 (by omega) (by omega) (show _ = 0 from rfl)) rfl ?_
          refine L_y rfl (y_load rfl ag_4 (sees 1 0 rfl) rfl) rfl ?_
          refine L_y rfl (y_not rfl) rfl ?_
          refine L_y rfl (y_move rfl) rfl ?_
          refine L_skip rfl rfl ?_
          refine L_skip rfl rfl ?_
          refine L_skip rfl rfl ?_
          refine L_y rfl (y_pick_f rfl rfl) rfl ?_
          refine L_y rfl (y_assign rfl) rfl ?_
          refine L_nil ?_
          refine C_cond_f rfl ?_
          refine C_seq ?_
          refine C_region ?_
          refine L_y rfl (y_indexA rfl rfl Try.underlying62 sz_4 (by omega) (by omega) (show _ = 0 from rfl)) rfl ?_
          refine L_y rfl (y_load rfl ag_4 (sees 1 0 rfl) rfl) rfl ?_
          refine L_y rfl (y_move rfl) rfl ?_
          refine L_y rfl (y_indexA rfl rfl Try.underlying62 sz_4 (by omega) (by omega) (show _ = 1 from rfl)) rfl ?_
          refine L_y rfl (y_load rfl ag_4 (sees 1 0 rfl) rfl) rfl ?_
          refine L_y rfl (y_pick_t rfl rfl) rfl ?_
          refine L_y rfl (y_move rfl) rfl ?_
          refine L_skip rfl rfl ?_
          refine L_skip rfl rfl ?_
          refine L_skip rfl rfl ?_
          refine L_skip rfl rfl ?_
          refine L_skip rfl rfl ?_
          refine L_y rfl (y_pick_f rfl rfl) rfl ?_
          refine L_y rfl (y_assign rfl) rfl ?_
          refine L_nil ?_
          refine C_cond_f rfl ?_
          refine C_seq ?_
          refine C_region ?_
          refine L_y rfl (y_indexA rfl rfl Try.underlying62 sz_4 (by omega) (by omega) (show _ = 0 from rfl)) rfl ?_
          refine L_y rfl (y_load rfl ag_4 (sees 1 0 rfl) rfl) rfl ?_
          refine L_y rfl (y_not rfl) rfl ?_
          refine L_y rfl (y_assign rfl) rfl ?_
          refine L_nil ?_
          refine C_cond_f rfl ?_
          refine C_skip ?_
          refine C_seq ?_
          refine C_seq ?_
          refine C_region ?_
          refine L_y rfl (y_move rfl) rfl ?_
          refine L_y rfl (y_move rfl) rfl ?_
          refine L_y rfl (y_sub rfl rfl (show _ = (1 : Int) from rfl)) rfl ?_
          refine L_y rfl (y_nilCheck rfl) rfl ?_
          refine L_y rfl (y_fieldAddr rfl fl_110_0) rfl ?_
          refine L_y rfl (y_indexA rfl rfl Try.underlying108 sz_107 (by omega) (by omega) (show _ = 2 from rfl)) rfl ?_
          refine L_y rfl (y_assign rfl) rfl ?_
          refine L_nil ?_
          refine C_seq ?_
          refine C_regionH (m.seg 110 :: H) (by kernel_rfl) ?_
          refine H_y 0 rfl (by kernel_rfl) (by kernel_rfl) (by kernel_rfl) (((hsub (.cons_cons _ (.cons _ (.cons _ (.cons _ (.cons _ (.refl _))))))).trans (hsub_pick [4] rfl))) rfl (y_move rfl) rfl ?_
          refine H_y 1 rfl (by kernel_rfl) (by kernel_rfl) (by kernel_rfl) (((hsub (.cons_cons _ (.cons _ (.cons _ (.cons _ (.cons _ (.refl _))))))).trans (hsub_pick [4] rfl))) rfl (y_nilCheck rfl) rfl ?_
          refine H_y 2 rfl (by kernel_rfl) (by kernel_rfl) (by kernel_rfl) (((hsub (.cons_cons _ (.cons _ (.cons _ (.cons _ (.cons _ (.refl _))))))).trans (hsub_pick [4] rfl))) rfl (y_fieldAddr rfl fl_107_0) rfl ?_
          refine H_y 3 rfl (by kernel_rfl) (by kernel_rfl) (by kernel_rfl) (((hsub (.cons_cons _ (.cons _ (.cons _ (.cons _ (.cons _ (.refl _))))))).trans (hsub_pick [4] rfl))) rfl (y_load rfl ag_24 (sees 0 0 rfl) rfl) rfl ?_
          refine H_y 4 rfl (by kernel_rfl) (by kernel_rfl) (by kernel_rfl) (((hsub (.cons_cons _ (.cons _ (.cons _ (.cons _ (.cons _ (.refl _))))))).trans (hsub_pick [4] rfl))) rfl (y_move rfl) rfl ?_
          refine H_y 5 rfl (by kernel_rfl) (by kernel_rfl) (by kernel_rfl) (((hsub (.cons_cons _ (.cons _ (.cons _ (.cons _ (.cons _ (.refl _))))))).trans (hsub_pick [4] rfl))) rfl (y_move rfl) rfl ?_
          refine H_y 6 rfl (by kernel_rfl) (by kernel_rfl) (by kernel_rfl) (((hsub (.cons_cons _ (.cons _ (.cons _ (.cons _ (.cons _ (.refl _))))))).trans (hsub_pick [4] rfl))) rfl (y_indexA rfl rfl Try.underlying120 sz_32 (by omega) (by omega) (show _ = 0 from rfl)) rfl ?_
          refine H_one 7 rfl (by kernel_rfl) rfl (op_y (y_loadA rfl ag_32 sz_32 (sees 2 0 rfl) (by simp [bs_length, secOf_len, rS_len _ h.oks]) (by first | exact two_hi (rS_len _ h.oks) (rS_len _ h.oks) | exact two_lo (rS_len _ h.oks))) rfl ?_)
          refine ⟨((hsub (.cons_cons _ (.cons _ (.cons _ (.cons _ (.cons _ (.refl _))))))).trans (hsub_pick [4] rfl)), ?_⟩
          refine H_one 8 rfl (by kernel_rfl) rfl (op_call rfl rfl (fun a w => Try.call62 a w) rfl ?_)
          refine ((write_d h true n (A.rS false n) (rS_len _ h.oks) (by have := hQ true; omega)).sub (hsub_pick [0] rfl)).mono ?_
          rintro _ _ ⟨rfl, D3, h3, rfl⟩
          refine ⟨_, rfl, ?_⟩
          refine ⟨((hsub (.cons_cons _ (.cons _ (.cons _ (.cons _ (.cons _ (.refl _))))))).trans (hsub_pick [4] rfl)), ?_⟩
          refine H_y 9 rfl (by kernel_rfl) (by kernel_rfl) (by kernel_rfl) (((hsub (.cons_cons _ (.cons _ (.cons _ (.cons _ (.cons _ (.refl _))))))).trans (hsub_pick [4] rfl))) rfl (y_eqi rfl rfl) rfl ?_
          refine H_done (by kernel_rfl) ?_
          refine C_cond rfl (fun hc6 => ?_) (fun hc6 => ?_)
          · replace hc6 := of_decide_eq_true hc6
            refine C_region ?_
            refine L_y rfl (y_move rfl) rfl ?_
            refine L_y rfl (y_nilCheck rfl) rfl ?_
            refine L_y rfl (y_fieldAddr rfl fl_107_1) rfl ?_
            refine L_y rfl (y_load rfl ag_105 (sees 4 0 rfl) rfl) rfl ?_
            refine L_y rfl (y_move rfl) rfl ?_
            refine L_op rfl (op_delete 4 2 rfl rfl rfl Try.underlying105 Try.underlying3 rfl rfl ?_)
            refine L_nil ?_
            refine C_seq ?_
            refine C_region ?_
            refine L_y rfl (y_assign rfl) rfl ?_
            refine L_y rfl (y_assign rfl) rfl ?_
            refine L_nil ?_
            refine C_ret ?_
            refine B_ret (rv_tmp rfl (rv_tmp rfl rv_nil)) ((hsub (.cons_cons _ (.cons_cons _ (.cons _ (.cons _ (.cons _ (.refl _))))))).trans (hsub_pick [4, 0] rfl)) ?_
            have e0 : healTo m A p n = some true := by simp_all [healTo, Go.Sl.hg0, Go.Sl.hg1]
            have e1 : healM m A p n = (if A.wE true n = 0 then { m with k1 := kDel m.k1 n } else m) := by simp [healM, e0]
            exact ⟨by simp_all [healR, Go.Sl.hg0, Go.Sl.hg1] <;> rfl, D3, h3.to (by simp [healA, e0]), by rw [e1]; first | (rw [if_pos (by simpa using hc6)]; rfl) | (rw [if_neg (by simpa using hc6)]; rfl)⟩
          · replace hc6 := of_decide_eq_false hc6
            refine C_skip ?_
            refine C_seq ?_
            refine C_region ?_
            refine L_y rfl (y_assign rfl) rfl ?_
            refine L_y rfl (y_assign rfl) rfl ?_
            refine L_nil ?_
            refine C_ret ?_
            refine B_ret (rv_tmp rfl (rv_tmp rfl rv_nil)) ((hsub (.cons_cons _ (.cons_cons _ (.cons _ (.cons _ (.cons _ (.refl _))))))).trans (hsub_pick [4, 0] rfl)) ?_
            have e0 : healTo m A p n = some true := by simp_all [healTo, Go.Sl.hg0, Go.Sl.hg1]
            have e1 : healM m A p n = (if A.wE true n = 0 then { m with k1 := kDel m.k1 n } else m) := by simp [healM, e0]
            exact ⟨by simp_all [healR, Go.Sl.hg0, Go.Sl.hg1] <;> rfl, D3, h3.to (by simp [healA, e0]), by rw [e1]; first | (rw [if_pos (by simpa using hc6)]; rfl) | (rw [if_neg (by simpa using hc6)]; rfl)⟩
      · skip
        refine L_skip rfl rfl ?_
        refine L_skip rfl rfl ?_
        refine L_skip rfl rfl ?_
        refine L_skip rfl rfl ?_
        refine L_skip rfl rfl ?_
        refine L_skip rfl rfl ?_
        refine L_y rfl (y_pick_f rfl rfl) rfl ?_
        refine L_y rfl (y_indexA rfl rfl Try.underlying62 sz_4 (by omega) (by omega) (show _ = 1 from rfl)) rfl ?_
        refine L_op rfl (op_store1 1 0 rfl rfl rfl sz_4 rfl (Nat.le_of_ble_eq_true rfl) ?_)
        refine L_nil ?_
        refine C_region ?_
        refine L_y rfl (y_add rfl rfl (show _ = (2 : Int) from rfl)) rfl ?_
        refine L_y rfl (y_move rfl) rfl ?_
        refine L_nil ?_
        refine In_round ?_
        refine C_seq ?_
        refine C_region ?_
        refine L_y rfl (y_lss rfl rfl) rfl ?_
        refine L_nil ?_
        refine C_seq ?_
        refine C_cond_f rfl ?_
        refine C_exit ?_
        refine C_seq ?_
        refine C_region ?_
        refine L_y rfl (y_assign rfl) rfl ?_
        refine L_nil ?_
        refine C_seq ?_
        refine C_block ?_
        refine C_seq ?_
        refine C_region ?_
        refine L_y rfl (y_indexA rfl rfl Try.underlying62 sz_4 (by omega) (by omega) (show _ = 0 from rfl)) rfl ?_
        refine L_y rfl (y_load rfl ag_4 (sees 1 0 rfl) rfl) rfl ?_
        refine L_y rfl (y_not rfl) rfl ?_
        refine L_y rfl (y_move rfl) rfl ?_
        refine L_skip rfl rfl ?_
        refine L_skip rfl rfl ?_
        refine L_skip rfl rfl ?_
        refine L_y rfl (y_pick_f rfl rfl) rfl ?_
        refine L_y rfl (y_assign rfl) rfl ?_
        refine L_nil ?_
        refine C_cond_f rfl ?_
        refine C_seq ?_
        refine C_region ?_
        refine L_y rfl (y_indexA rfl rfl Try.underlying62 sz_4 (by omega) (by omega) (show _ = 0 from rfl)) rfl ?_
        refine L_y rfl (y_load rfl ag_4 (sees 1 0 rfl) rfl) rfl ?_
        refine L_y rfl (y_move rfl) rfl ?_
        refine L_y rfl (y_indexA rfl rfl Try.underlying62 sz_4 (by omega) (by omega) (show _ = 1 from rfl)) rfl ?_
        refine L_y rfl (y_load rfl ag_4 (sees 1 0 rfl) rfl) rfl ?_
        refine L_y rfl (y_pick_t rfl rfl) rfl ?_
        refine L_y rfl (y_move rfl) rfl ?_
        refine L_skip rfl rfl ?_
        refine L_skip rfl rfl ?_
        refine L_skip rfl rfl ?_
        refine L_skip rfl rfl ?_
        refine L_skip rfl rfl ?_
        refine L_y rfl (y_pick_f rfl rfl) rfl ?_
        refine L_y rfl (y_assign rfl) rfl ?_
        refine L_nil ?_
        refine C_cond_f rfl ?_
        refine C_seq ?_
        refine C_region ?_
        refine L_y rfl (y_indexA rfl rfl Try.underlying62 sz_4 (by omega) (by omega) (show _ = 0 from rfl)) rfl ?_
        refine L_y rfl (y_load rfl ag_4 (sees 1 0 rfl) rfl) rfl ?_
        refine L_y rfl (y_not rfl) rfl ?_
        refine L_y rfl (y_assign rfl) rfl ?_
        refine L_nil ?_
        refine C_cond_f rfl ?_
        refine C_skip ?_
        refine C_seq ?_
        refine C_seq ?_
        refine C_region ?_
        refine L_y rfl (y_move rfl) rfl ?_
        refine L_y rfl (y_move rfl) rfl ?_
        refine L_y rfl (y_sub rfl rfl (show _ = (1 : Int) from rfl)) rfl ?_
        refine L_y rfl (y_nilCheck rfl) rfl ?_
        refine L_y rfl (y_fieldAddr rfl fl_110_0) rfl ?_
        refine L_y rfl (y_indexA rfl rfl Try.underlying108 sz_107 (by omega) (by omega) (show _ = 2 from rfl)) rfl ?_
        refine L_y rfl (y_assign rfl) rfl ?_
        refine L_nil ?_
        refine C_seq ?_
        refine C_regionH (m.seg 110 :: H) (by kernel_rfl) ?_
        refine H_y 0 rfl (by kernel_rfl) (by kernel_rfl) (by kernel_rfl) (((hsub (.cons_cons _ (.cons _ (.cons _ (.cons _ (.cons _ (.refl _))))))).trans (hsub_pick [4] rfl))) rfl (y_move rfl) rfl ?_
        refine H_y 1 rfl (by kernel_rfl) (by kernel_rfl) (by kernel_rfl) (((hsub (.cons_cons _ (.cons _ (.cons _ (.cons _ (.cons _ (.refl _))))))).trans (hsub_pick [4] rfl))) rfl (y_nilCheck rfl) rfl ?_
        refine H_y 2 rfl (by kernel_rfl) (by kernel_rfl) (by kernel_rfl) (((hsub (.cons_cons _ (.cons _ (.cons _ (.cons _ (.cons _ (.refl _))))))).trans (hsub_pick [4] rfl))) rfl (y_fieldAddr rfl fl_107_0) rfl ?_
        refine H_y 3 rfl (by kernel_rfl) (by kernel_rfl) (by kernel_rfl) (((hsub (.cons_cons _ (.cons _ (.cons _ (.cons _ (.cons _ (.refl _))))))).trans (hsub_pick [4] rfl))) rfl (y_load rfl ag_24 (sees 0 0 rfl) rfl) rfl ?_
        refine H_y 4 rfl (by kernel_rfl) (by kernel_rfl) (by kernel_rfl) (((hsub (.cons_cons _ (.cons _ (.cons _ (.cons _ (.cons _ (.refl _))))))).trans (hsub_pick [4] rfl))) rfl (y_move rfl) rfl ?_
        refine H_y 5 rfl (by kernel_rfl) (by kernel_rfl) (by kernel_rfl) (((hsub (.cons_cons _ (.cons _ (.cons _ (.cons _ (.cons _ (.refl _))))))).trans (hsub_pick [4] rfl))) rfl (y_move rfl) rfl ?_
        refine H_y 6 rfl (by kernel_rfl) (by kernel_rfl) (by kernel_rfl) (((hsub (.cons_cons _ (.cons _ (.cons _ (.cons _ (.cons _ (.refl _))))))).trans (hsub_pick [4] rfl))) rfl (y_indexA rfl rfl Try.underlying120 sz_32 (by omega) (by omega) (show _ = 0 from rfl)) rfl ?_
        refine H_one 7 rfl (by kernel_rfl) rfl (op_y (y_loadA rfl ag_32 sz_32 (sees 2 0 rfl) (by simp [bs_length, secOf_len, rS_len _ h.oks]) (by first | exact two_hi (rS_len _ h.oks) (rS_len _ h.oks) | exact two_lo (rS_len _ h.oks))) rfl ?_)
        refine ⟨((hsub (.cons_cons _ (.cons _ (.cons _ (.cons _ (.cons _ (.refl _))))))).trans (hsub_pick [4] rfl)), ?_⟩
        refine H_one 8 rfl (by kernel_rfl) rfl (op_call rfl rfl (fun a w => Try.call62 a w) rfl ?_)
        refine ((write_d h true n (A.rS false n) (rS_len _ h.oks) (by have := hQ true; omega)).sub (hsub_pick [0] rfl)).mono ?_
        rintro _ _ ⟨rfl, D4, h4, rfl⟩
        refine ⟨_, rfl, ?_⟩
        refine ⟨((hsub (.cons_cons _ (.cons _ (.cons _ (.cons _ (.cons _ (.refl _))))))).trans (hsub_pick [4] rfl)), ?_⟩
        refine H_y 9 rfl (by kernel_rfl) (by kernel_rfl) (by kernel_rfl) (((hsub (.cons_cons _ (.cons _ (.cons _ (.cons _ (.cons _ (.refl _))))))).trans (hsub_pick [4] rfl))) rfl (y_eqi rfl rfl) rfl ?_
        refine H_done (by kernel_rfl) ?_
        refine C_cond rfl (fun hc6 => ?_) (fun hc6 => ?_)
        · replace hc6 := of_decide_eq_true hc6
          refine C_region ?_
          refine L_y rfl (y_move rfl) rfl ?_
          refine L_y rfl (y_nilCheck rfl) rfl ?_
          refine L_y rfl (y_fieldAddr rfl fl_107_1) rfl ?_
          refine L_y rfl (y_load rfl ag_105 (sees 4 0 rfl) rfl) rfl ?_
          refine L_y rfl (y_move rfl) rfl ?_
          refine L_op rfl (op_delete 4 2 rfl rfl rfl Try.underlying105 Try.underlying3 rfl rfl ?_)
          refine L_nil ?_
          refine C_seq ?_
          refine C_region ?_
          refine L_y rfl (y_assign rfl) rfl ?_
          refine L_y rfl (y_assign rfl) rfl ?_
          refine L_nil ?_
          refine C_ret ?_
          refine B_ret (rv_tmp rfl (rv_tmp rfl rv_nil)) ((hsub (.cons_cons _ (.cons_cons _ (.cons _ (.cons _ (.cons _ (.refl _))))))).trans (hsub_pick [4, 0] rfl)) ?_
          have e0 : healTo m A p n = some true := by simp_all [healTo, Go.Sl.hg0, Go.Sl.hg1]
          have e1 : healM m A p n = (if A.wE true n = 0 then { m with k1 := kDel m.k1 n } else m) := by simp [healM, e0]
          exact ⟨by simp_all [healR, Go.Sl.hg0, Go.Sl.hg1] <;> rfl, D4, h4.to (by simp [healA, e0]), by rw [e1]; first | (rw [if_pos (by simpa using hc6)]; rfl) | (rw [if_neg (by simpa using hc6)]; rfl)⟩
        · replace hc6 := of_decide_eq_false hc6
          refine C_skip ?_
          refine C_seq ?_
          refine C_region ?_
          refine L_y rfl (y_assign rfl) rfl ?_
          refine L_y rfl (y_assign rfl) rfl ?_
          refine L_nil ?_
          refine C_ret ?_
          refine B_ret (rv_tmp rfl (rv_tmp rfl rv_nil)) ((hsub (.cons_cons _ (.cons_cons _ (.cons _ (.cons _ (.cons _ (.refl _))))))).trans (hsub_pick [4, 0] rfl)) ?_
          have e0 : healTo m A p n = some true := by simp_all [healTo, Go.Sl.hg0, Go.Sl.hg1]
          have e1 : healM m A p n = (if A.wE true n = 0 then { m with k1 := kDel m.k1 n } else m) := by simp [healM, e0]
          exact ⟨by simp_all [healR, Go.Sl.hg0, Go.Sl.hg1] <;> rfl, D4, h4.to (by simp [healA, e0]), by rw [e1]; first | (rw [if_pos (by simpa using hc6)]; rfl) | (rw [if_neg (by simpa using hc6)]; rfl)⟩
    · skip
      refine L_y rfl (y_pick_t rfl rfl) rfl ?_
      refine L_y rfl (y_indexA rfl rfl Try.underlying62 sz_4 (by omega) (by omega) (show _ = 0 from rfl)) rfl ?_
      refine L_op rfl (op_store1 1 0 rfl rfl rfl sz_4 rfl (Nat.le_of_ble_eq_true rfl) ?_)
      refine L_nil ?_
      refine C_region ?_
      refine L_y rfl (y_add rfl rfl (show _ = (1 : Int) from rfl)) rfl ?_
      refine L_y rfl (y_move rfl) rfl ?_
      refine L_nil ?_
      refine In_round ?_
      refine C_seq ?_
      refine C_region ?_
      refine L_y rfl (y_lss rfl rfl) rfl ?_
      refine L_nil ?_
      refine C_seq ?_
      refine C_cond_t rfl ?_
      refine C_skip ?_
      refine C_seq ?_
      refine C_block ?_
      refine C_seq ?_
      refine C_region ?_
      refine L_y rfl (y_move rfl) rfl ?_
      refine L_y rfl (y_assign rfl) rfl ?_
      refine L_nil ?_
      refine C_seq ?_
      refine C_region ?_
      refine L_y rfl (y_move rfl) rfl ?_
      refine L_y rfl (y_move rfl) rfl ?_
      refine L_y rfl (y_move rfl) rfl ?_
      refine L_y rfl (y_nilCheck rfl) rfl ?_
      refine L_y rfl (y_fieldAddr rfl fl_110_0) rfl ?_
      refine L_y rfl (y_indexA rfl rfl Try.underlying108 sz_107 (by omega) (by omega) (show _ = 2 from rfl)) rfl ?_
      refine L_y rfl (y_fieldAddr rfl fl_107_0) rfl ?_
      refine L_y rfl (y_load rfl ag_24 (sees 4 0 rfl) rfl) rfl ?_
      refine L_y rfl (y_move rfl) rfl ?_
      refine L_op rfl (op_call rfl rfl (fun a w => Try.call60 a w) rfl ?_)
      refine ((read_d h true (n)).sub (hsub_pick [0] rfl)).mono ?_
      rintro _ _ ⟨rfl, rfl⟩
      refine ⟨_, rfl, ?_⟩
      refine L_y rfl (y_move rfl) rfl ?_
      refine L_y rfl (y_extract rfl rfl) rfl ?_
      refine L_y rfl (y_extract rfl rfl) rfl ?_
      refine L_y rfl (y_indexA rfl rfl Try.underlying120 sz_32 (by omega) (by omega) (show _ = 128 from rfl)) rfl ?_
      skip
      refine L_op rfl (op_store (vs := bs (A.rS true n)) 2 0 rfl rfl rfl sz_32 (by rw [bs_length, rS_len _ h.oks]) rfl (bs_one _) (by simp [bs_length, secOf_len, rS_len _ h.oks]) ?_)
      rw [spl_hi (rS_len _ h.oks) (by rw [secOf_len, rS_len _ h.oks])]
      refine L_nil ?_
      refine C_region ?_
      refine L_y rfl (y_move rfl) rfl ?_
      refine L_y rfl (y_move rfl) rfl ?_
      refine L_y rfl (y_move rfl) rfl ?_
      refine L_y rfl (y_nilCheck rfl) rfl ?_
      refine L_y rfl (y_fieldAddr rfl fl_110_0) rfl ?_
      refine L_y rfl (y_indexA rfl rfl Try.underlying108 sz_107 (by omega) (by omega) (show _ = 2 from rfl)) rfl ?_
      refine L_y rfl (y_fieldAddr rfl fl_107_1) rfl ?_
      refine L_y rfl (y_load rfl ag_105 (sees 4 0 rfl) rfl) rfl ?_
      refine L_y rfl (y_move rfl) rfl ?_
      refine L_y rfl (y_lookup rfl rfl Try.underlying105 Try.underlying3 zt_4 (sees 4 2 rfl)) rfl ?_
      refine L_y rfl (y_not rfl) rfl ?_
      refine L_y rfl (y_move rfl) rfl ?_
      refine L_case 47 rfl (fun hg11_12 => ?_) (fun hg11_12 => ?_)
      · skip
        refine L_y rfl (y_move rfl) rfl ?_
        refine L_y rfl (y_move rfl) rfl ?_
        refine L_y rfl (y_move rfl) rfl ?_
        refine L_y rfl (y_indexA rfl rfl Try.underlying120 sz_32 (by omega) (by omega) (show _ = 128 from rfl)) rfl ?_
        refine L_y rfl (y_loadA rfl ag_32 sz_32 (sees 2 0 rfl) (by simp [bs_length, secOf_len, rS_len _ h.oks]) (by first | exact two_hi (rS_len _ h.oks) (rS_len _ h.oks) | exact two_lo (rS_len _ h.oks))) rfl ?_
        refine L_op rfl (op_call rfl rfl (fun a w => Try.call61 a w) rfl ?_)
        refine FnS.mono (right_m (sees 4 0 rfl) (hG.sub (hsub (.cons _ (.cons _ (.cons _ (.cons _ (.cons _ (.refl _)))))))) n _ (rS_len _ h.oks)) ?_
        rintro _ _ ⟨rfl, e⟩
        obtain rfl := e.symm
        refine ⟨_, rfl, ?_⟩
        refine L_case 53 rfl (fun hg11_18 => ?_) (fun hg11_18 => ?_)
        · skip
          refine L_y rfl (y_pick_t rfl rfl) rfl ?_
          refine L_y rfl (y_indexA rfl rfl Try.underlying62 sz_4 (by omega) (by omega) (show _ = 1 from rfl)) rfl ?_
          refine L_op rfl (op_store1 1 0 rfl rfl rfl sz_4 rfl (Nat.le_of_ble_eq_true rfl) ?_)
          refine L_nil ?_
          refine C_region ?_
          refine L_y rfl (y_add rfl rfl (show _ = (2 : Int) from rfl)) rfl ?_
          refine L_y rfl (y_move rfl) rfl ?_
          refine L_nil ?_
          refine In_round ?_
          refine C_seq ?_
          refine C_region ?_
          refine L_y rfl (y_lss rfl rfl) rfl ?_
          refine L_nil ?_
          refine C_seq ?_
          refine C_cond_f rfl ?_
          refine C_exit ?_
          refine C_seq ?_
          refine C_region ?_
          refine L_y rfl (y_assign rfl) rfl ?_
          refine L_nil ?_
          refine C_seq ?_
          refine C_block ?_
          refine C_seq ?_
          refine C_region ?_
          refine L_y rfl (y_indexA rfl rfl Try.underlying62 sz_4 (by omega) (by omega) (show _ = 0 from rfl)) rfl ?_
          refine L_y rfl (y_load rfl ag_4 (sees 1 0 rfl) rfl) rfl ?_
          refine L_y rfl (y_not rfl) rfl ?_
          refine L_y rfl (y_move rfl) rfl ?_
          refine L_y rfl (y_indexA rfl rfl Try.underlying62 sz_4 (by omega) (by omega) (show _ = 1 from rfl)) rfl ?_
          refine L_y rfl (y_load rfl ag_4 (sees 1 0 rfl) rfl) rfl ?_
          refine L_y rfl (y_not rfl) rfl ?_
          refine L_y rfl (y_pick_t rfl rfl) rfl ?_
          refine L_y rfl (y_assign rfl) rfl ?_
          refine L_nil ?_
          refine C_cond_f rfl ?_
          refine C_seq ?_
          refine C_region ?_
          refine L_y rfl (y_indexA rfl rfl Try.underlying62 sz_4 (by omega) (by omega) (show _ = 0 from rfl)) rfl ?_
          refine L_y rfl (y_load rfl ag_4 (sees 1 0 rfl) rfl) rfl ?_
          refine L_y rfl (y_move rfl) rfl ?_
          refine L_skip rfl rfl ?_
          refine L_skip rfl rfl ?_
          refine L_y rfl (y_pick_f rfl rfl) rfl ?_
          refine L_y rfl (y_move rfl) rfl ?_
          refine L_skip rfl rfl ?_
          refine L_skip rfl rfl ?_
          refine L_skip rfl rfl ?_
          refine L_skip rfl rfl ?_
          refine L_skip rfl rfl ?_
          refine L_y rfl (y_pick_f rfl rfl) rfl ?_
          refine L_y rfl (y_assign rfl) rfl ?_
          refine L_nil ?_
          refine C_cond_f rfl ?_
          refine C_seq ?_
          refine C_region ?_
          refine L_y rfl (y_indexA rfl rfl Try.underlying62 sz_4 (by omega) (by omega) (show _ = 0 from rfl)) rfl ?_
          refine L_y rfl (y_load rfl ag_4 (sees 1 0 rfl) rfl) rfl ?_
          refine L_y rfl (y_not rfl) rfl ?_
          refine L_y rfl (y_assign rfl) rfl ?_
          refine L_nil ?_
          refine C_cond_t rfl ?_
          refine C_region ?_
          refine L_y rfl (y_assign rfl) rfl ?_
          refine L_nil ?_
          refine C_seq ?_
          refine C_seq ?_
          refine C_region ?_
          refine L_y rfl (y_move rfl) rfl ?_
          refine L_y rfl (y_move rfl) rfl ?_
          refine L_y rfl (y_sub rfl rfl (show _ = (0 : Int) from rfl)) rfl ?_
          refine L_y rfl (y_nilCheck rfl) rfl ?_
          refine L_y rfl (y_fieldAddr rfl fl_110_0) rfl ?_
          refine L_y rfl (y_indexA rfl rfl Try.underlying108 sz_107 (by omega) (by omega) (show _ = 0 from rfl)) rfl ?_
          refine L_y rfl (y_assign rfl) rfl ?_
          refine L_nil ?_
          refine C_seq ?_
          refine C_regionH (m.seg 110 :: H) (by kernel_rfl) ?_
          refine H_y 0 rfl (by kernel_rfl) (by kernel_rfl) (by kernel_rfl) (((hsub (.cons_cons _ (.cons _ (.cons _ (.cons _ (.cons _ (.refl _))))))).trans (hsub_pick [4] rfl))) rfl (y_move rfl) rfl ?_
          refine H_y 1 rfl (by kernel_rfl) (by kernel_rfl) (by kernel_rfl) (((hsub (.cons_cons _ (.cons _ (.cons _ (.cons _ (.cons _ (.refl _))))))).trans (hsub_pick [4] rfl))) rfl (y_nilCheck rfl) rfl ?_
          refine H_y 2 rfl (by kernel_rfl) (by kernel_rfl) (by kernel_rfl) (((hsub (.cons_cons _ (.cons _ (.cons _ (.cons _ (.cons _ (.refl _))))))).trans (hsub_pick [4] rfl))) rfl (y_fieldAddr rfl fl_107_0) rfl ?_
          refine H_y 3 rfl (by kernel_rfl) (by kernel_rfl) (by kernel_rfl) (((hsub (.cons_cons _ (.cons _ (.cons _ (.cons _ (.cons _ (.refl _))))))).trans (hsub_pick [4] rfl))) rfl (y_load rfl ag_24 (sees 0 0 rfl) rfl) rfl ?_
          refine H_y 4 rfl (by kernel_rfl) (by kernel_rfl) (by kernel_rfl) (((hsub (.cons_cons _ (.cons _ (.cons _ (.cons _ (.cons _ (.refl _))))))).trans (hsub_pick [4] rfl))) rfl (y_move rfl) rfl ?_
          refine H_y 5 rfl (by kernel_rfl) (by kernel_rfl) (by kernel_rfl) (((hsub (.cons_cons _ (.cons _ (.cons _ (.cons _ (.cons _ (.refl _))))))).trans (hsub_pick [4] rfl))) rfl (y_move rfl) rfl ?_
          refine H_y 6 rfl (by kernel_rfl) (by kernel_rfl) (by kernel_rfl) (((hsub (.cons_cons _ (.cons _ (.cons _ (.cons _ (.cons _ (.refl _))))))).trans (hsub_pick [4] rfl))) rfl (y_indexA rfl rfl Try.underlying120 sz_32 (by omega) (by omega) (show _ = 128 from rfl)) rfl ?_
          refine H_one 7 rfl (by kernel_rfl) rfl (op_y (y_loadA rfl ag_32 sz_32 (sees 2 0 rfl) (by simp [bs_length, secOf_len, rS_len _ h.oks]) (by first | exact two_hi (rS_len _ h.oks) (rS_len _ h.oks) | exact two_lo (rS_len _ h.oks))) rfl ?_)
          refine ⟨((hsub (.cons_cons _ (.cons _ (.cons _ (.cons _ (.cons _ (.refl _))))))).trans (hsub_pick [4] rfl)), ?_⟩
          refine H_one 8 rfl (by kernel_rfl) rfl (op_call rfl rfl (fun a w => Try.call62 a w) rfl ?_)
          refine ((write_d h false n (A.rS true n) (rS_len _ h.oks) (by have := hQ false; omega)).sub (hsub_pick [0] rfl)).mono ?_
          rintro _ _ ⟨rfl, D5, h5, rfl⟩
          refine ⟨_, rfl, ?_⟩
          refine ⟨((hsub (.cons_cons _ (.cons _ (.cons _ (.cons _ (.cons _ (.refl _))))))).trans (hsub_pick [4] rfl)), ?_⟩
          refine H_y 9 rfl (by kernel_rfl) (by kernel_rfl) (by kernel_rfl) (((hsub (.cons_cons _ (.cons _ (.cons _ (.cons _ (.cons _ (.refl _))))))).trans (hsub_pick [4] rfl))) rfl (y_eqi rfl rfl) rfl ?_
          refine H_done (by kernel_rfl) ?_
          refine C_cond rfl (fun hc6 => ?_) (fun hc6 => ?_)
          · replace hc6 := of_decide_eq_true hc6
            refine C_region ?_
            refine L_y rfl (y_move rfl) rfl ?_
            refine L_y rfl (y_nilCheck rfl) rfl ?_
            refine L_y rfl (y_fieldAddr rfl fl_107_1) rfl ?_
            refine L_y rfl (y_load rfl ag_105 (sees 4 0 rfl) rfl) rfl ?_
            refine L_y rfl (y_move rfl) rfl ?_
            refine L_op rfl (op_delete 4 1 rfl rfl rfl Try.underlying105 Try.underlying3 rfl rfl ?_)
            refine L_nil ?_
            refine C_seq ?_
            refine C_region ?_
            refine L_y rfl (y_assign rfl) rfl ?_
            refine L_y rfl (y_assign rfl) rfl ?_
            refine L_nil ?_
            refine C_ret ?_
            refine B_ret (rv_tmp rfl (rv_tmp rfl rv_nil)) ((hsub (.cons_cons _ (.cons_cons _ (.cons _ (.cons _ (.cons _ (.refl _))))))).trans (hsub_pick [4, 0] rfl)) ?_
            have e0 : healTo m A p n = some false := by simp_all [healTo, Go.Sl.hg0, Go.Sl.hg1]
            have e1 : healM m A p n = (if A.wE false n = 0 then { m with k0 := kDel m.k0 n } else m) := by simp [healM, e0]
            exact ⟨by simp_all [healR, Go.Sl.hg0, Go.Sl.hg1] <;> rfl, D5, h5.to (by simp [healA, e0]), by rw [e1]; first | (rw [if_pos (by simpa using hc6)]; rfl) | (rw [if_neg (by simpa using hc6)]; rfl)⟩
          · replace hc6 := of_decide_eq_false hc6
            refine C_skip ?_
            refine C_seq ?_
            refine C_region ?_
            refine L_y rfl (y_assign rfl) rfl ?_
            refine L_y rfl (y_assign rfl) rfl ?_
            refine L_nil ?_
            refine C_ret ?_
            refine B_ret (rv_tmp rfl (rv_tmp rfl rv_nil)) ((hsub (.cons_cons _ (.cons_cons _ (.cons _ (.cons _ (.cons _ (.refl _))))))).trans (hsub_pick [4, 0] rfl)) ?_
            have e0 : healTo m A p n = some false := by simp_all [healTo, Go.Sl.hg0, Go.Sl.hg1]
            have e1 : healM m A p n = (if A.wE false n = 0 then { m with k0 := kDel m.k0 n } else m) := by simp [healM, e0]
            exact ⟨by simp_all [healR, Go.Sl.hg0, Go.Sl.hg1] <;> rfl, D5, h5.to (by simp [healA, e0]), by rw [e1]; first | (rw [if_pos (by simpa using hc6)]; rfl) | (rw [if_neg (by simpa using hc6)]; rfl)⟩
        · skip
          refine L_y rfl (y_pick_t rfl rfl) rfl ?_
          refine L_y rfl (y_indexA rfl rfl Try.underlying62 sz_4 (by omega) (by omega) (show _ = 1 from rfl)) rfl ?_
          refine L_op rfl (op_store1 1 0 rfl rfl rfl sz_4 rfl (Nat.le_of_ble_eq_true rfl) ?_)
          refine L_nil ?_
          refine C_region ?_
          refine L_y rfl (y_add rfl rfl (show _ = (2 : Int) from rfl)) rfl ?_
          refine L_y rfl (y_move rfl) rfl ?_
          refine L_nil ?_
          refine In_round ?_
          refine C_seq ?_
          refine C_region ?_
          refine L_y rfl (y_lss rfl rfl) rfl ?_
          refine L_nil ?_
          refine C_seq ?_
          refine C_cond_f rfl ?_
          refine C_exit ?_
          refine C_seq ?_
          refine C_region ?_
          refine L_y rfl (y_assign rfl) rfl ?_
          refine L_nil ?_
          refine C_seq ?_
          refine C_block ?_
          refine C_seq ?_
          refine C_region ?_
          refine L_y rfl (y_indexA rfl rfl Try.underlying62 sz_4 (by omega) (by omega) (show _ = 0 from rfl)) rfl ?_
          refine L_y rfl (y_load rfl ag_4 (sees 1 0 rfl) rfl) rfl ?_
          refine L_y rfl (y_not rfl) rfl ?_
          refine L_y rfl (y_move rfl) rfl ?_
          refine L_y rfl (y_indexA rfl rfl Try.underlying62 sz_4 (by omega) (by omega) (show _ = 1 from rfl)) rfl ?_
          refine L_y rfl (y_load rfl ag_4 (sees 1 0 rfl) rfl) rfl ?_
          refine L_y rfl (y_not rfl) rfl ?_
          refine L_y rfl (y_pick_t rfl rfl) rfl ?_
          refine L_y rfl (y_assign rfl) rfl ?_
          refine L_nil ?_
          refine C_cond_t rfl ?_
          refine C_seq ?_
          refine C_region ?_
          refine L_y rfl (y_assign rfl) rfl ?_
          refine L_y rfl (y_assign rfl) rfl ?_
          refine L_nil ?_
          refine C_ret ?_
          refine B_ret (rv_tmp rfl (rv_tmp rfl rv_nil)) ((hsub (.cons_cons _ (.cons_cons _ (.cons _ (.cons _ (.cons _ (.refl _))))))).trans (hsub_pick [4, 0] rfl)) ?_
          exact ⟨by simp_all [healR, healTo, Go.Sl.hg0, Go.Sl.hg1] <;> rfl, D, h.to (by simp_all [healA, healTo, Go.Sl.hg0, Go.Sl.hg1]), by rw [show healM m A p n = m from by simp_all [healM, healTo, Go.Sl.hg0, Go.Sl.hg1]]; first | done | rfl⟩
      · skip
        refine L_skip rfl rfl ?_
        refine L_skip rfl rfl ?_
        refine L_skip rfl rfl ?_
        refine L_skip rfl rfl ?_
        refine L_skip rfl rfl ?_
        refine L_skip rfl rfl ?_
        refine L_y rfl (y_pick_f rfl rfl) rfl ?_
        refine L_y rfl (y_indexA rfl rfl Try.underlying62 sz_4 (by omega) (by omega) (show _ = 1 from rfl)) rfl ?_
        refine L_op rfl (op_store1 1 0 rfl rfl rfl sz_4 rfl (Nat.le_of_ble_eq_true rfl) ?_)
        refine L_nil ?_
        refine C_region ?_
        refine L_y rfl (y_add rfl rfl (show _ = (2 : Int) from rfl)) rfl ?_
        refine L_y rfl (y_move rfl) rfl ?_
        refine L_nil ?_
        refine In_round ?_
        refine C_seq ?_
        refine C_region ?_
        refine L_y rfl (y_lss rfl rfl) rfl ?_
        refine L_nil ?_
        refine C_seq ?_
        refine C_cond_f rfl ?_
        refine C_exit ?_
        refine C_seq ?_
        refine C_region ?_
        refine L_y rfl (y_assign rfl) rfl ?_
        refine L_nil ?_
        refine C_seq ?_
        refine C_block ?_
        refine C_seq ?_
        refine C_region ?_
        refine L_y rfl (y_indexA rfl rfl Try.underlying62 sz_4 (by omega) (by omega) (show _ = 0 from rfl)) rfl ?_
        refine L_y rfl (y_load rfl ag_4 (sees 1 0 rfl) rfl) rfl ?_
        refine L_y rfl (y_not rfl) rfl ?_
        refine L_y rfl (y_move rfl) rfl ?_
        refine L_y rfl (y_indexA rfl rfl Try.underlying62 sz_4 (by omega) (by omega) (show _ = 1 from rfl)) rfl ?_
        refine L_y rfl (y_load rfl ag_4 (sees 1 0 rfl) rfl) rfl ?_
        refine L_y rfl (y_not rfl) rfl ?_
        refine L_y rfl (y_pick_t rfl rfl) rfl ?_
        refine L_y rfl (y_assign rfl) rfl ?_
        refine L_nil ?_
        refine C_cond_t rfl ?_
        refine C_seq ?_
        refine C_region ?_
        refine L_y rfl (y_assign rfl) rfl ?_
        refine L_y rfl (y_assign rfl) rfl ?_
        refine L_nil ?_
        refine C_ret ?_
        refine B_ret (rv_tmp rfl (rv_tmp rfl rv_nil)) ((hsub (.cons_cons _ (.cons_cons _ (.cons _ (.cons _ (.cons _ (.refl _))))))).trans (hsub_pick [4, 0] rfl)) ?_
        exact ⟨by simp_all [healR, healTo, Go.Sl.hg0, Go.Sl.hg1] <;> rfl, D, h.to (by simp_all [healA, healTo, Go.Sl.hg0, Go.Sl.hg1]), by rw [show healM m A p n = m from by simp_all [healM, healTo, Go.Sl.hg0, Go.Sl.hg1]]; first | done | rfl⟩
  · skip
    refine L_skip rfl rfl ?_
    refine L_skip rfl rfl ?_
    refine L_skip rfl rfl ?_
    refine L_skip rfl rfl ?_
    refine L_skip rfl rfl ?_
    refine L_skip rfl rfl ?_
    refine L_y rfl (y_pick_f rfl rfl) rfl ?_
    refine L_y rfl (y_indexA rfl rfl Try.underlying62 sz_4 (by omega) (by omega) (show _ = 0 from rfl)) rfl ?_
    refine L_op rfl (op_store1 1 0 rfl rfl rfl sz_4 rfl (Nat.le_of_ble_eq_true rfl) ?_)
    refine L_nil ?_
    refine C_region ?_
    refine L_y rfl (y_add rfl rfl (show _ = (1 : Int) from rfl)) rfl ?_
    refine L_y rfl (y_move rfl) rfl ?_
    refine L_nil ?_
    refine In_round ?_
    refine C_seq ?_
    refine C_region ?_
    refine L_y rfl (y_lss rfl rfl) rfl ?_
    refine L_nil ?_
    refine C_seq ?_
    refine C_cond_t rfl ?_
    refine C_skip ?_
    refine C_seq ?_
    refine C_block ?_
    refine C_seq ?_
    refine C_region ?_
    refine L_y rfl (y_move rfl) rfl ?_
    refine L_y rfl (y_assign rfl) rfl ?_
    refine L_nil ?_
    refine C_seq ?_
    refine C_region ?_
    refine L_y rfl (y_move rfl) rfl ?_
    refine L_y rfl (y_move rfl) rfl ?_
    refine L_y rfl (y_move rfl) rfl ?_
    refine L_y rfl (y_nilCheck rfl) rfl ?_
    refine L_y rfl (y_fieldAddr rfl fl_110_0) rfl ?_
    refine L_y rfl (y_indexA rfl rfl Try.underlying108 sz_107 (by omega) (by omega) (show _ = 2 from rfl)) rfl ?_
    refine L_y rfl (y_fieldAddr rfl fl_107_0) rfl ?_
    refine L_y rfl (y_load rfl ag_24 (sees 4 0 rfl) rfl) rfl ?_
    refine L_y rfl (y_move rfl) rfl ?_
    refine L_op rfl (op_call rfl rfl (fun a w => Try.call60 a w) rfl ?_)
    refine ((read_d h true (n)).sub (hsub_pick [0] rfl)).mono ?_
    rintro _ _ ⟨rfl, rfl⟩
    refine ⟨_, rfl, ?_⟩
    refine L_y rfl (y_move rfl) rfl ?_
    refine L_y rfl (y_extract rfl rfl) rfl ?_
    refine L_y rfl (y_extract rfl rfl) rfl ?_
    refine L_y rfl (y_indexA rfl rfl Try.underlying120 sz_32 (by omega) (by omega) (show _ = 128 from rfl)) rfl ?_
    skip
    refine L_op rfl (op_store (vs := bs (A.rS true n)) 2 0 rfl rfl rfl sz_32 (by rw [bs_length, rS_len _ h.oks]) rfl (bs_one _) (by simp [bs_length, secOf_len, rS_len _ h.oks]) ?_)
    rw [spl_hi (rS_len _ h.oks) (by rw [secOf_len, rS_len _ h.oks])]
    refine L_nil ?_
    refine C_region ?_
    refine L_y rfl (y_move rfl) rfl ?_
    refine L_y rfl (y_move rfl) rfl ?_
    refine L_y rfl (y_move rfl) rfl ?_
    refine L_y rfl (y_nilCheck rfl) rfl ?_
    refine L_y rfl (y_fieldAddr rfl fl_110_0) rfl ?_
    refine L_y rfl (y_indexA rfl rfl Try.underlying108 sz_107 (by omega) (by omega) (show _ = 2 from rfl)) rfl ?_
    refine L_y rfl (y_fieldAddr rfl fl_107_1) rfl ?_
    refine L_y rfl (y_load rfl ag_105 (sees 4 0 rfl) rfl) rfl ?_
    refine L_y rfl (y_move rfl) rfl ?_
    refine L_y rfl (y_lookup rfl rfl Try.underlying105 Try.underlying3 zt_4 (sees 4 2 rfl)) rfl ?_
    refine L_y rfl (y_not rfl) rfl ?_
    refine L_y rfl (y_move rfl) rfl ?_
    refine L_case 47 rfl (fun hg11_12 => ?_) (fun hg11_12 => ?_)
    · skip
      refine L_y rfl (y_move rfl) rfl ?_
      refine L_y rfl (y_move rfl) rfl ?_
      refine L_y rfl (y_move rfl) rfl ?_
      refine L_y rfl (y_indexA rfl rfl Try.underlying120 sz_32 (by omega) (by omega) (show _ = 128 from rfl)) rfl ?_
      refine L_y rfl (y_loadA rfl ag_32 sz_32 (sees 2 0 rfl) (by simp [bs_length, secOf_len, rS_len _ h.oks]) (by first | exact two_hi (rS_len _ h.oks) (rS_len _ h.oks) | exact two_lo (rS_len _ h.oks))) rfl ?_
      refine L_op rfl (op_call rfl rfl (fun a w => Try.call61 a w) rfl ?_)
      refine FnS.mono (right_m (sees 4 0 rfl) (hG.sub (hsub (.cons _ (.cons _ (.cons _ (.cons _ (.cons _ (.refl _)))))))) n _ (rS_len _ h.oks)) ?_
      rintro _ _ ⟨rfl, e⟩
      obtain rfl := e.symm
      refine ⟨_, rfl, ?_⟩
      refine L_case 53 rfl (fun hg11_18 => ?_) (fun hg11_18 => ?_)
      · skip
        refine L_y rfl (y_pick_t rfl rfl) rfl ?_
        refine L_y rfl (y_indexA rfl rfl Try.underlying62 sz_4 (by omega) (by omega) (show _ = 1 from rfl)) rfl ?_
        refine L_op rfl (op_store1 1 0 rfl rfl rfl sz_4 rfl (Nat.le_of_ble_eq_true rfl) ?_)
        refine L_nil ?_
        refine C_region ?_
        refine L_y rfl (y_add rfl rfl (show _ = (2 : Int) from rfl)) rfl ?_
        refine L_y rfl (y_move rfl) rfl ?_
        refine L_nil ?_
        refine In_round ?_
        refine C_seq ?_
        refine C_region ?_
        refine L_y rfl (y_lss rfl rfl) rfl ?_
        refine L_nil ?_
        refine C_seq ?_
        refine C_cond_f rfl ?_
        refine C_exit ?_
        refine C_seq ?_
        refine C_region ?_
        refine L_y rfl (y_assign rfl) rfl ?_
        refine L_nil ?_
        refine C_seq ?_
        refine C_block ?_
        refine C_seq ?_
        refine C_region ?_
        refine L_y rfl (y_indexA rfl rfl Try.underlying62 sz_4 (by omega) (by omega) (show _ = 0 from rfl)) rfl ?_
        refine L_y rfl (y_load rfl ag_4 (sees 1 0 rfl) rfl) rfl ?_
        refine L_y rfl (y_not rfl) rfl ?_
        refine L_y rfl (y_move rfl) rfl ?_
        refine L_y rfl (y_indexA rfl rfl Try.underlying62 sz_4 (by omega) (by omega) (show _ = 1 from rfl)) rfl ?_
        refine L_y rfl (y_load rfl ag_4 (sees 1 0 rfl) rfl) rfl ?_
        refine L_y rfl (y_not rfl) rfl ?_
        refine L_y rfl (y_pick_t rfl rfl) rfl ?_
        refine L_y rfl (y_assign rfl) rfl ?_
        refine L_nil ?_
        refine C_cond_f rfl ?_
        refine C_seq ?_
        refine C_region ?_
        refine L_y rfl (y_indexA rfl rfl Try.underlying62 sz_4 (by omega) (by omega) (show _ = 0 from rfl)) rfl ?_
        refine L_y rfl (y_load rfl ag_4 (sees 1 0 rfl) rfl) rfl ?_
        refine L_y rfl (y_move rfl) rfl ?_
        refine L_skip rfl rfl ?_
        refine L_skip rfl rfl ?_
        refine L_y rfl (y_pick_f rfl rfl) rfl ?_
        refine L_y rfl (y_move rfl) rfl ?_
        refine L_skip rfl rfl ?_
        refine L_skip rfl rfl ?_
        refine L_skip rfl rfl ?_
        refine L_skip rfl rfl ?_
        refine L_skip rfl rfl ?_
        refine L_y rfl (y_pick_f rfl rfl) rfl ?_
        refine L_y rfl (y_assign rfl) rfl ?_
        refine L_nil ?_
        refine C_cond_f rfl ?_
        refine C_seq ?_
        refine C_region ?_
        refine L_y rfl (y_indexA rfl rfl Try.underlying62 sz_4 (by omega) (by omega) (show _ = 0 from rfl)) rfl ?_
        refine L_y rfl (y_load rfl ag_4 (sees 1 0 rfl) rfl) rfl ?_
        refine L_y rfl (y_not rfl) rfl ?_
        refine L_y rfl (y_assign rfl) rfl ?_
        refine L_nil ?_
        refine C_cond_t rfl ?_
        refine C_region ?_
        refine L_y rfl (y_assign rfl) rfl ?_
        refine L_nil ?_
        refine C_seq ?_
        refine C_seq ?_
        refine C_region ?_
        refine L_y rfl (y_move rfl) rfl ?_
        refine L_y rfl (y_move rfl) rfl ?_
        refine L_y rfl (y_sub rfl rfl (show _ = (0 : Int) from rfl)) rfl ?_
        refine L_y rfl (y_nilCheck rfl) rfl ?_
        refine L_y rfl (y_fieldAddr rfl fl_110_0) rfl ?_
        refine L_y rfl (y_indexA rfl rfl Try.underlying108 sz_107 (by omega) (by omega) (show _ = 0 from rfl)) rfl ?_
        refine L_y rfl (y_assign rfl) rfl ?_
        refine L_nil ?_
        refine C_seq ?_
        refine C_regionH (m.seg 110 :: H) (by kernel_rfl) ?_
        refine H_y 0 rfl (by kernel_rfl) (by kernel_rfl) (by kernel_rfl) (((hsub (.cons_cons _ (.cons _ (.cons _ (.cons _ (.cons _ (.refl _))))))).trans (hsub_pick [4] rfl))) rfl (y_move rfl) rfl ?_
        refine H_y 1 rfl (by kernel_rfl) (by kernel_rfl) (by kernel_rfl) (((hsub (.cons_cons _ (.cons _ (.cons _ (.cons _ (.cons _ (.refl _))))))).trans (hsub_pick [4] rfl))) rfl (y_nilCheck rfl) rfl ?_
        refine H_y 2 rfl (by kernel_rfl) (by kernel_rfl) (by kernel_rfl) (((hsub (.cons_cons _ (.cons _ (.cons _ (.cons _ (.cons _ (.refl _))))))).trans (hsub_pick [4] rfl))) rfl (y_fieldAddr rfl fl_107_0) rfl ?_
        refine H_y 3 rfl (by kernel_rfl) (by kernel_rfl) (by kernel_rfl) (((hsub (.cons_cons _ (.cons _ (.cons _ (.cons _ (.cons _ (.refl _))))))).trans (hsub_pick [4] rfl))) rfl (y_load rfl ag_24 (sees 0 0 rfl) rfl) rfl ?_
        refine H_y 4 rfl (by kernel_rfl) (by kernel_rfl) (by kernel_rfl) (((hsub (.cons_cons _ (.cons _ (.cons _ (.cons _ (.cons _ (.refl _))))))).trans (hsub_pick [4] rfl))) rfl (y_move rfl) rfl ?_
        refine H_y 5 rfl (by kernel_rfl) (by kernel_rfl) (by kernel_rfl) (((hsub (.cons_cons _ (.cons _ (.cons _ (.cons _ (.cons _ (.refl _))))))).trans (hsub_pick [4] rfl))) rfl (y_move rfl) rfl ?_
        refine H_y 6 rfl (by kernel_rfl) (by kernel_rfl) (by kernel_rfl) (((hsub (.cons_cons _ (.cons _ (.cons _ (.cons _ (.cons _ (.refl _))))))).trans (hsub_pick [4] rfl))) rfl (y_indexA rfl rfl Try.underlying120 sz_32 (by omega) (by omega) (show _ = 128 from rfl)) rfl ?_
        refine H_one 7 rfl (by kernel_rfl) rfl (op_y (y_loadA rfl ag_32 sz_32 (sees 2 0 rfl) (by simp [bs_length, secOf_len, rS_len _ h.oks]) (by first | exact two_hi (rS_len _ h.oks) (rS_len _ h.oks) | exact two_lo (rS_len _ h.oks))) rfl ?_)
        refine ⟨((hsub (.cons_cons _ (.cons _ (.cons _ (.cons _ (.cons _ (.refl _))))))).trans (hsub_pick [4] rfl)), ?_⟩
        refine H_one 8 rfl (by kernel_rfl) rfl (op_call rfl rfl (fun a w => Try.call62 a w) rfl ?_)
        refine ((write_d h false n (A.rS true n) (rS_len _ h.oks) (by have := hQ false; omega)).sub (hsub_pick [0] rfl)).mono ?_
        rintro _ _ ⟨rfl, D6, h6, rfl⟩
        refine ⟨_, rfl, ?_⟩
        refine ⟨((hsub (.cons_cons _ (.cons _ (.cons _ (.cons _ (.cons _ (.refl _))))))).trans (hsub_pick [4] rfl)), ?_⟩
        refine H_y 9 rfl (by kernel_rfl) (by kernel_rfl) (by kernel_rfl) (((hsub (.cons_cons _ (.cons _ (.cons _ (.cons _ (.cons _ (.refl _))))))).trans (hsub_pick [4] rfl))) rfl (y_eqi rfl rfl) rfl ?_
        refine H_done (by kernel_rfl) ?_
        refine C_cond rfl (fun hc6 => ?_) (fun hc6 => ?_)
        · replace hc6 := of_decide_eq_true hc6
          refine C_region ?_
          refine L_y rfl (y_move rfl) rfl ?_
          refine L_y rfl (y_nilCheck rfl) rfl ?_
          refine L_y rfl (y_fieldAddr rfl fl_107_1) rfl ?_
          refine L_y rfl (y_load rfl ag_105 (sees 4 0 rfl) rfl) rfl ?_
          refine L_y rfl (y_move rfl) rfl ?_
          refine L_op rfl (op_delete 4 1 rfl rfl rfl Try.underlying105 Try.underlying3 rfl rfl ?_)
          refine L_nil ?_
          refine C_seq ?_
          refine C_region ?_
          refine L_y rfl (y_assign rfl) rfl ?_
          refine L_y rfl (y_assign rfl) rfl ?_
          refine L_nil ?_
          refine C_ret ?_
          refine B_ret (rv_tmp rfl (rv_tmp rfl rv_nil)) ((hsub (.cons_cons _ (.cons_cons _ (.cons _ (.cons _ (.cons _ (.refl _))))))).trans (hsub_pick [4, 0] rfl)) ?_
          have e0 : healTo m A p n = some false := by simp_all [healTo, Go.Sl.hg0, Go.Sl.hg1]
          have e1 : healM m A p n = (if A.wE false n = 0 then { m with k0 := kDel m.k0 n } else m) := by simp [healM, e0]
          exact ⟨by simp_all [healR, Go.Sl.hg0, Go.Sl.hg1] <;> rfl, D6, h6.to (by simp [healA, e0]), by rw [e1]; first | (rw [if_pos (by simpa using hc6)]; rfl) | (rw [if_neg (by simpa using hc6)]; rfl)⟩
        · replace hc6 := of_decide_eq_false hc6
          refine C_skip ?_
          refine C_seq ?_
          refine C_region ?_
          refine L_y rfl (y_assign rfl) rfl ?_
          refine L_y rfl (y_assign rfl) rfl ?_
          refine L_nil ?_
          refine C_ret ?_
          refine B_ret (rv_tmp rfl (rv_tmp rfl rv_nil)) ((hsub (.cons_cons _ (.cons_cons _ (.cons _ (.cons _ (.cons _ (.refl _))))))).trans (hsub_pick [4, 0] rfl)) ?_
          have e0 : healTo m A p n = some false := by simp_all [healTo, Go.Sl.hg0, Go.Sl.hg1]
          have e1 : healM m A p n = (if A.wE false n = 0 then { m with k0 := kDel m.k0 n } else m) := by simp [healM, e0]
          exact ⟨by simp_all [healR, Go.Sl.hg0, Go.Sl.hg1] <;> rfl, D6, h6.to (by simp [healA, e0]), by rw [e1]; first | (rw [if_pos (by simpa using hc6)]; rfl) | (rw [if_neg (by simpa using hc6)]; rfl)⟩
      · skip
        refine L_y rfl (y_pick_t rfl rfl) rfl ?_
        refine L_y rfl (y_indexA rfl rfl Try.underlying62 sz_4 (by omega) (by omega) (show _ = 1 from rfl)) rfl ?_
        refine L_op rfl (op_store1 1 0 rfl rfl rfl sz_4 rfl (Nat.le_of_ble_eq_true rfl) ?_)
        refine L_nil ?_
        refine C_region ?_
        refine L_y rfl (y_add rfl rfl (show _ = (2 : Int) from rfl)) rfl ?_
        refine L_y rfl (y_move rfl) rfl ?_
        refine L_nil ?_
        refine In_round ?_
        refine C_seq ?_
        refine C_region ?_
        refine L_y rfl (y_lss rfl rfl) rfl ?_
        refine L_nil ?_
        refine C_seq ?_
        refine C_cond_f rfl ?_
        refine C_exit ?_
        refine C_seq ?_
        refine C_region ?_
        refine L_y rfl (y_assign rfl) rfl ?_
        refine L_nil ?_
        refine C_seq ?_
        refine C_block ?_
        refine C_seq ?_
        refine C_region ?_
        refine L_y rfl (y_indexA rfl rfl Try.underlying62 sz_4 (by omega) (by omega) (show _ = 0 from rfl)) rfl ?_
        refine L_y rfl (y_load rfl ag_4 (sees 1 0 rfl) rfl) rfl ?_
        refine L_y rfl (y_not rfl) rfl ?_
        refine L_y rfl (y_move rfl) rfl ?_
        refine L_y rfl (y_indexA rfl rfl Try.underlying62 sz_4 (by omega) (by omega) (show _ = 1 from rfl)) rfl ?_
        refine L_y rfl (y_load rfl ag_4 (sees 1 0 rfl) rfl) rfl ?_
        refine L_y rfl (y_not rfl) rfl ?_
        refine L_y rfl (y_pick_t rfl rfl) rfl ?_
        refine L_y rfl (y_assign rfl) rfl ?_
        refine L_nil ?_
        refine C_cond_t rfl ?_
        refine C_seq ?_
        refine C_region ?_
        refine L_y rfl (y_assign rfl) rfl ?_
        refine L_y rfl (y_assign rfl) rfl ?_
        refine L_nil ?_
        refine C_ret ?_
        refine B_ret (rv_tmp rfl (rv_tmp rfl rv_nil)) ((hsub (.cons_cons _ (.cons_cons _ (.cons _ (.cons _ (.cons _ (.refl _))))))).trans (hsub_pick [4, 0] rfl)) ?_
        exact ⟨by simp_all [healR, healTo, Go.Sl.hg0, Go.Sl.hg1] <;> rfl, D, h.to (by simp_all [healA, healTo, Go.Sl.hg0, Go.Sl.hg1]), by rw [show healM m A p n = m from by simp_all [healM, healTo, Go.Sl.hg0, Go.Sl.hg1]]; first | done | rfl⟩
    · skip
      refine L_skip rfl rfl ?_
      refine L_skip rfl rfl ?_
      refine L_skip rfl rfl ?_
      refine L_skip rfl rfl ?_
      refine L_skip rfl rfl ?_
      refine L_skip rfl rfl ?_
      refine L_y rfl (y_pick_f rfl rfl) rfl ?_
      refine L_y rfl (y_indexA rfl rfl Try.underlying62 sz_4 (by omega) (by omega) (show _ = 1 from rfl)) rfl ?_
      refine L_op rfl (op_store1 1 0 rfl rfl rfl sz_4 rfl (Nat.le_of_ble_eq_true rfl) ?_)
      refine L_nil ?_
      refine C_region ?_
      refine L_y rfl (y_add rfl rfl (show _ = (2 : Int) from rfl)) rfl ?_
      refine L_y rfl (y_move rfl) rfl ?_
      refine L_nil ?_
      refine In_round ?_
      refine C_seq ?_
      refine C_region ?_
      refine L_y rfl (y_lss rfl rfl) rfl ?_
      refine L_nil ?_
      refine C_seq ?_
      refine C_cond_f rfl ?_
      refine C_exit ?_
      refine C_seq ?_
      refine C_region ?_
      refine L_y rfl (y_assign rfl) rfl ?_
      refine L_nil ?_
      refine C_seq ?_
      refine C_block ?_
      refine C_seq ?_
      refine C_region ?_
      refine L_y rfl (y_indexA rfl rfl Try.underlying62 sz_4 (by omega) (by omega) (show _ = 0 from rfl)) rfl ?_
      refine L_y rfl (y_load rfl ag_4 (sees 1 0 rfl) rfl) rfl ?_
      refine L_y rfl (y_not rfl) rfl ?_
      refine L_y rfl (y_move rfl) rfl ?_
      refine L_y rfl (y_indexA rfl rfl Try.underlying62 sz_4 (by omega) (by omega) (show _ = 1 from rfl)) rfl ?_
      refine L_y rfl (y_load rfl ag_4 (sees 1 0 rfl) rfl) rfl ?_
      refine L_y rfl (y_not rfl) rfl ?_
      refine L_y rfl (y_pick_t rfl rfl) rfl ?_
      refine L_y rfl (y_assign rfl) rfl ?_
      refine L_nil ?_
      refine C_cond_t rfl ?_
      refine C_seq ?_
      refine C_region ?_
      refine L_y rfl (y_assign rfl) rfl ?_
      refine L_y rfl (y_assign rfl) rfl ?_
      refine L_nil ?_
      refine C_ret ?_
      refine B_ret (rv_tmp rfl (rv_tmp rfl rv_nil)) ((hsub (.cons_cons _ (.cons_cons _ (.cons _ (.cons _ (.cons _ (.refl _))))))).trans (hsub_pick [4, 0] rfl)) ?_
      exact ⟨by simp_all [healR, healTo, Go.Sl.hg0, Go.Sl.hg1] <;> rfl, D, h.to (by simp_all [healA, healTo, Go.Sl.hg0, Go.Sl.hg1]), by rw [show healM m A p n = m from by simp_all [healM, healTo, Go.Sl.hg0, Go.Sl.hg1]]; first | done | rfl⟩

set_option maxHeartbeats 4000000 in

theorem heal_tf {w0 : World} {H : Hp} {D : Duo} {A : Da} {bp : Nat} {m : Mi} (h : Two dt D A m.bx m.bys bp) {p : Int → Sec → Bool} (hG : GoodAt Try.prog w0 H m.gv p) (n : Int) (hQ : ∀ i, (A.dev i).Q.length < 99990) (hn : m.has n = true) (hp : thr A false = true) (hq : thr A true = false) : FnS Try.prog w0 23 #[ptr m.b, .int .i64 n] (m.seg 110 :: D.seg dt :: H) (fun e H' => e = .returned (.tuple #[.int .i64 (healR m A p n).1, .int .i64 (healR m A p n).2]) ∧ ∃ D', Two dt D' (healA m A p n) m.bx m.bys bp ∧ H' = (healM m A p n).seg 110 :: D'.seg dt :: H) := by
  refine FnS_intro (n := 105) (rs := [.tmp 4, .tmp 5]) (vs := [ptr m.b, .int .i64 n]) Try.func23 rfl Try.ntmps23 rfl rfl ?_
  refine C_seq ?_
  refine C_region ?_
  refine L_y rfl (y_assign rfl) rfl ?_
  refine L_y rfl (y_assign rfl) rfl ?_
  refine L_nil ?_
  refine C_seq ?_
  refine C_seq ?_
  refine C_region ?_
  refine L_y rfl (y_move rfl) rfl ?_
  refine L_y rfl (y_move rfl) rfl ?_
  refine L_op rfl (op_call rfl rfl (fun a w => Try.call58 a w) rfl ?_)
  refine (has_m _ (sees 0 0 rfl)).mono ?_
  rintro _ _ ⟨rfl, rfl⟩
  rw [hn]
  refine ⟨_, rfl, ?_⟩
  refine L_y rfl (y_not rfl) rfl ?_
  refine L_nil ?_
  refine C_cond_f rfl ?_
  refine C_skip ?_
  refine C_seq ?_
  refine C_seq ?_
  refine C_region ?_
  refine L_y rfl (y_move rfl) rfl ?_
  refine L_op rfl (op_call rfl rfl (fun a w => Try.call59 a w) rfl ?_)
  refine ((present_tf h hp hq).sub (hsub_pick [0, 0] rfl)).mono ?_
  rintro _ _ ⟨g1, hg1, rfl, rfl⟩
  cases g1 with
  | none => exact slOk_none hg1 (by decide)
  | some g1 => ?_
  refine ⟨_, rfl, ?_⟩
  refine L_y rfl (y_lenS rfl rfl Try.underlying118) rfl ?_
  refine L_y rfl (y_lss rfl rfl) rfl ?_
  refine L_nil ?_
  refine C_cond_t rfl ?_
  refine C_seq ?_
  refine C_region ?_
  refine L_y rfl (y_assign rfl) rfl ?_
  refine L_y rfl (y_assign rfl) rfl ?_
  refine L_nil ?_
  refine C_ret ?_
  refine B_ret (rv_tmp rfl (rv_tmp rfl rv_nil)) ((hsub (.cons_cons _ (.cons_cons _ (.cons _ (.refl _))))).trans (hsub_pick [1, 1] rfl)) ?_
  exact ⟨by simp_all [healR, healTo, Go.Sl.hg0, Go.Sl.hg1] <;> rfl, D, h.to (by simp_all [healA, healTo, Go.Sl.hg0, Go.Sl.hg1]), by rw [show healM m A p n = m from by simp_all [healM, healTo, Go.Sl.hg0, Go.Sl.hg1]]; first | done | rfl⟩

set_option maxHeartbeats 4000000 in

theorem heal_ft {w0 : World} {H : Hp} {D : Duo} {A : Da} {bp : Nat} {m : Mi} (h : Two dt D A m.bx m.bys bp) {p : Int → Sec → Bool} (hG : GoodAt Try.prog w0 H m.gv p) (n : Int) (hQ : ∀ i, (A.dev i).Q.length < 99990) (hn : m.has n = true) (hp : thr A false = false) (hq : thr A true = true) : FnS Try.prog w0 23 #[ptr m.b, .int .i64 n] (m.seg 110 :: D.seg dt :: H) (fun e H' => e = .returned (.tuple #[.int .i64 (healR m A p n).1, .int .i64 (healR m A p n).2]) ∧ ∃ D', Two dt D' (healA m A p n) m.bx m.bys bp ∧ H' = (healM m A p n).seg 110 :: D'.seg dt :: H) := by
  refine FnS_intro (n := 105) (rs := [.tmp 4, .tmp 5]) (vs := [ptr m.b, .int .i64 n]) Try.func23 rfl Try.ntmps23 rfl rfl ?_
  refine C_seq ?_
  refine C_region ?_
  refine L_y rfl (y_assign rfl) rfl ?_
  refine L_y rfl (y_assign rfl) rfl ?_
  refine L_nil ?_
  refine C_seq ?_
  refine C_seq ?_
  refine C_region ?_
  refine L_y rfl (y_move rfl) rfl ?_
  refine L_y rfl (y_move rfl) rfl ?_
  refine L_op rfl (op_call rfl rfl (fun a w => Try.call58 a w) rfl ?_)
  refine (has_m _ (sees 0 0 rfl)).mono ?_
  rintro _ _ ⟨rfl, rfl⟩
  rw [hn]
  refine ⟨_, rfl, ?_⟩
  refine L_y rfl (y_not rfl) rfl ?_
  refine L_nil ?_
  refine C_cond_f rfl ?_
  refine C_skip ?_
  refine C_seq ?_
  refine C_seq ?_
  refine C_region ?_
  refine L_y rfl (y_move rfl) rfl ?_
  refine L_op rfl (op_call rfl rfl (fun a w => Try.call59 a w) rfl ?_)
  refine ((present_ft h hp hq).sub (hsub_pick [0, 0] rfl)).mono ?_
  rintro _ _ ⟨g1, hg1, rfl, rfl⟩
  cases g1 with
  | none => exact slOk_none hg1 (by decide)
  | some g1 => ?_
  refine ⟨_, rfl, ?_⟩
  refine L_y rfl (y_lenS rfl rfl Try.underlying118) rfl ?_
  refine L_y rfl (y_lss rfl rfl) rfl ?_
  refine L_nil ?_
  refine C_cond_t rfl ?_
  refine C_seq ?_
  refine C_region ?_
  refine L_y rfl (y_assign rfl) rfl ?_
  refine L_y rfl (y_assign rfl) rfl ?_
  refine L_nil ?_
  refine C_ret ?_
  refine B_ret (rv_tmp rfl (rv_tmp rfl rv_nil)) ((hsub (.cons_cons _ (.cons_cons _ (.cons _ (.refl _))))).trans (hsub_pick [1, 1] rfl)) ?_
  exact ⟨by simp_all [healR, healTo, Go.Sl.hg0, Go.Sl.hg1] <;> rfl, D, h.to (by simp_all [healA, healTo, Go.Sl.hg0, Go.Sl.hg1]), by rw [show healM m A p n = m from by simp_all [healM, healTo, Go.Sl.hg0, Go.Sl.hg1]]; first | done | rfl⟩

set_option maxHeartbeats 4000000 in

theorem heal_ff {w0 : World} {H : Hp} {D : Duo} {A : Da} {bp : Nat} {m : Mi} (h : Two dt D A m.bx m.bys bp) {p : Int → Sec → Bool} (hG : GoodAt Try.prog w0 H m.gv p) (n : Int) (hQ : ∀ i, (A.dev i).Q.length < 99990) (hn : m.has n = true) (hp : thr A false = false) (hq : thr A true = false) : FnS Try.prog w0 23 #[ptr m.b, .int .i64 n] (m.seg 110 :: D.seg dt :: H) (fun e H' => e = .returned (.tuple #[.int .i64 (healR m A p n).1, .int .i64 (healR m A p n).2]) ∧ ∃ D', Two dt D' (healA m A p n) m.bx m.bys bp ∧ H' = (healM m A p n).seg 110 :: D'.seg dt :: H) := by
  refine FnS_intro (n := 105) (rs := [.tmp 4, .tmp 5]) (vs := [ptr m.b, .int .i64 n]) Try.func23 rfl Try.ntmps23 rfl rfl ?_
  refine C_seq ?_
  refine C_region ?_
  refine L_y rfl (y_assign rfl) rfl ?_
  refine L_y rfl (y_assign rfl) rfl ?_
  refine L_nil ?_
  refine C_seq ?_
  refine C_seq ?_
  refine C_region ?_
  refine L_y rfl (y_move rfl) rfl ?_
  refine L_y rfl (y_move rfl) rfl ?_
  refine L_op rfl (op_call rfl rfl (fun a w => Try.call58 a w) rfl ?_)
  refine (has_m _ (sees 0 0 rfl)).mono ?_
  rintro _ _ ⟨rfl, rfl⟩
  rw [hn]
  refine ⟨_, rfl, ?_⟩
  refine L_y rfl (y_not rfl) rfl ?_
  refine L_nil ?_
  refine C_cond_f rfl ?_
  refine C_skip ?_
  refine C_seq ?_
  refine C_seq ?_
  refine C_region ?_
  refine L_y rfl (y_move rfl) rfl ?_
  refine L_op rfl (op_call rfl rfl (fun a w => Try.call59 a w) rfl ?_)
  refine ((present_ff h hp hq).sub (hsub_pick [0, 0] rfl)).mono ?_
  rintro _ _ ⟨rfl, rfl⟩
  refine ⟨_, rfl, ?_⟩
  refine L_y rfl (y_lenS rfl rfl Try.underlying118) rfl ?_
  refine L_y rfl (y_lss rfl rfl) rfl ?_
  refine L_nil ?_
  refine C_cond_t rfl ?_
  refine C_seq ?_
  refine C_region ?_
  refine L_y rfl (y_assign rfl) rfl ?_
  refine L_y rfl (y_assign rfl) rfl ?_
  refine L_nil ?_
  refine C_ret ?_
  refine B_ret (rv_tmp rfl (rv_tmp rfl rv_nil)) ((hsub (.cons_cons _ (.cons_cons _ (.refl _)))).trans (hsub_pick [0, 0] rfl)) ?_
  exact ⟨by simp_all [healR, healTo, Go.Sl.hg0, Go.Sl.hg1] <;> rfl, D, h.to (by simp_all [healA, healTo, Go.Sl.hg0, Go.Sl.hg1]), by rw [show healM m A p n = m from by simp_all [healM, healTo, Go.Sl.hg0, Go.Sl.hg1]]; first | done | rfl⟩

theorem heal_m {w0 : World} {H : Hp} {D : Duo} {A : Da} {bp : Nat} {m : Mi} (h : Two dt D A m.bx m.bys bp) {p : Int → Sec → Bool} (hG : GoodAt Try.prog w0 H m.gv p) (n : Int) (hQ : ∀ i, (A.dev i).Q.length < 99990) : FnS Try.prog w0 23 #[ptr m.b, .int .i64 n] (m.seg 110 :: D.seg dt :: H) (fun e H' => e = .returned (.tuple #[.int .i64 (healR m A p n).1, .int .i64 (healR m A p n).2]) ∧ ∃ D', Two dt D' (healA m A p n) m.bx m.bys bp ∧ H' = (healM m A p n).seg 110 :: D'.seg dt :: H) := by
  cases hn : m.has n
  · exact heal_no h hG n hQ hn
  · cases hp : thr A false <;> cases hq : thr A true
    · exact heal_ff h hG n hQ hn hp hq
    · exact heal_ft h hG n hQ hn hp hq
    · exact heal_tf h hG n hQ hn hp hq
    · exact heal_tt h hG n hQ hn hp hq

end Go.Proofs.Ytjjiclgbdenkkaa

/- walks (own work; the walks' lines by a program of this repo). -/
set_option linter.unusedVariables false
set_option linter.unusedSimpArgs false
set_option maxRecDepth 20000
namespace Go.Proofs.Ytjjiclgbdenkkaa
open Go.Sl
attribute [local irreducible] BodyQ WpC WpL WpS WpH OpW FnS


theorem healg_v {w0 : World} {H : Hp} {gv : Value} {D : Duo} {A : Da} {m : Mi} {K : Nat} {X Y : List Sec} {k0 k1 mb bx bys bp : Nat} (h : Ms dt gv D A m K X Y k0 k1 mb bx bys bp) {p : Int → Sec → Bool} (hG : GoodAt Try.prog w0 H gv p) {n : Nat} {s t : Sec} (hs : X[n]? = some s) (ht : Y[n]? = some t) (h0 : k0 < 99990) (h1 : k1 < 99990) : FnS Try.prog w0 23 #[ptr mb, .int .i64 (n : Int)] (m.seg 110 :: D.seg dt :: H) (fun e H' => e = .returned (.tuple #[.int .i64 (hC p n s t), .int .i64 0]) ∧ ∃ D' A' m', Ms dt gv D' A' m' K (X.set n (hX p n s t)) (Y.set n (hY p n s t)) (k0 + 1) (k1 + 1) mb bx bys bp ∧ H' = m'.seg 110 :: D'.seg dt :: H) := by
  have hT : Two dt D A m.bx m.bys bp := by rw [h.bx, h.bys]; exact h.two
  have hq : ∀ i, (A.dev i).Q.length < 99990 := fun i => by cases i; exact Nat.lt_of_le_of_lt (h.vw.dev false).many h0; exact Nat.lt_of_le_of_lt (h.vw.dev true).many h1
  have ls := h.okX s (List.mem_of_getElem? hs)
  have lt := h.okY t (List.mem_of_getElem? ht)
  obtain ⟨r, z0, z1, v⟩ := h.vw.heal (p := p) h.n h.s0 h.s1 hs ht ls lt
  have := heal_m (w0 := w0) (H := H) hT (p := p) (by rw [h.gv]; exact hG) (n : Int) hq
  rw [r, h.mb] at this
  refine this.mono ?_
  rintro _ _ ⟨rfl, D', hT', rfl⟩
  obtain ⟨q1, q2, q3, q4, q5⟩ := healM_same m A p n
  rw [h.bx, h.bys] at hT'
  exact ⟨rfl, D', _, _, ⟨hT', v, q1.trans h.mb, q2.trans h.bx, q3.trans h.bys, q4.trans h.n, z0, z1, q5.trans h.gv, set_ok2 h.okX (hX_len ls lt), set_ok2 h.okY (hY_len ls lt)⟩, rfl⟩

end Go.Proofs.Ytjjiclgbdenkkaa

/- walks (own work; the walks' lines by a program of this repo). -/
set_option linter.unusedVariables false
set_option linter.unusedSimpArgs false
set_option maxRecDepth 20000
namespace Go.Proofs.Ytjjiclgbdenkkaa
open Go.Sl
attribute [local irreducible] BodyQ WpC WpL WpS WpH OpW FnS


theorem rotg_v {w0 : World} {H : Hp} {gv : Value} {D : Duo} {A : Da} {m : Mi} {K : Nat} {X Y : List Sec} {mb bx bys bp : Nat} (h : Ms dt gv D A m K X Y 0 0 mb bx bys bp) (i : Bool) {n j : Nat} {s : Sec} {c : UInt8} (hs : (pick2 i X Y)[n]? = some s) (hj : j < 128) : FnS Try.prog w0 34 #[ptr (sel bx bys i), .int .i64 (n : Int), .int .i64 (j : Int), .int .u8 (c.toNat : Int)] (D.seg dt :: H) (fun e H' => e = .returned (.bool true) ∧ ∃ D' A', Ms dt gv D' A' m K (if i then X else X.set n (rotB s j c)) (if i then Y.set n (rotB s j c) else Y) 0 0 mb bx bys bp ∧ H' = D'.seg dt :: H) := by
  obtain ⟨e, v⟩ := h.vw.rot (c := c) hs hj
  refine (rot_d h.two i (n : Int) (j : Int) c).mono ?_
  rintro _ _ ⟨rfl, D', hT', rfl⟩
  rw [e]
  have ls : s.length = 128 := by cases i; exact h.okX s (List.mem_of_getElem? hs); exact h.okY s (List.mem_of_getElem? hs)
  refine ⟨rfl, D', _, h.with hT' v ?_ ?_, rfl⟩
  · cases i
    · exact set_ok2 h.okX (rotB_len.trans ls)
    · exact h.okX
  · cases i
    · exact h.okY
    · exact set_ok2 h.okY (rotB_len.trans ls)

end Go.Proofs.Ytjjiclgbdenkkaa

/- Scrubbing what one device missed (own work). -/
set_option linter.unusedVariables false
set_option linter.unusedSimpArgs false
namespace Go.Sl
section
variable {m : Mi} {A B : Da} {p : Int → Sec → Bool} {K : Nat} {X Y : List Sec} {k0 k1 : Nat}
theorem has_of {k : Nat} (hm : m.n = K) (h : k < K) : m.has (k : Int) = true := by simp [Mi.has]; omega
theorem kHas_one {t : Nat} {c : Nat} {j : Nat} : kHas [((t : Int), c)] (j : Int) = decide (j = t) := by
  unfold kHas
  simp only [List.any_cons, List.any_nil, Bool.or_false]
  by_cases h : j = t
  · subst h; simp
  · have : ¬ ((t : Int) = (j : Int)) := by omega
    simp [h, this]
/-- A write while the first device is out, and in again. -/
theorem put_out {t : Nat} {s : Sec} (h : Vw A K X Y 0 k1) (ht : t < K) (hm : m.n = K) (z0 : m.k0 = []) (z1 : m.k1 = []) :
    putE m (A.setd false ((A.dev false).outs true)) askAll t s = 0 ∧
    (putDa m (A.setd false ((A.dev false).outs true)) askAll t s).setd false (((putDa m (A.setd false ((A.dev false).outs true)) askAll t s).dev false).outs false) = A.write true t s ∧
    (putm m (A.setd false ((A.dev false).outs true)) askAll t s).k0 = [((t : Int), m.c0)] ∧ (putm m (A.setd false ((A.dev false).outs true)) askAll t s).k1 = [] ∧
    (putm m (A.setd false ((A.dev false).outs true)) askAll t s).b = m.b ∧ (putm m (A.setd false ((A.dev false).outs true)) askAll t s).bx = m.bx ∧ (putm m (A.setd false ((A.dev false).outs true)) askAll t s).bys = m.bys ∧
    (putm m (A.setd false ((A.dev false).outs true)) askAll t s).n = m.n ∧ (putm m (A.setd false ((A.dev false).outs true)) askAll t s).gv = m.gv := by
  have c2 : (A.setd false ((A.dev false).outs true)).calm := Da.calm_setd h.calm false _
  have to : thr (A.setd false ((A.dev false).outs true)) false = false := by simp [thr, Da.setd, Da.dev, Ab.outs, Ab.down]
  have ti : thr (A.setd false ((A.dev false).outs true)) true = true := h.thr true
  have hh := has_of hm ht
  obtain ⟨w1, w2⟩ := Da.write_calm h.calm true (t : Int) s
  obtain ⟨v1, v2⟩ := Da.write_calm c2 true (t : Int) s
  have hd := h.dev true
  have hx : (A.dev true).has (t : Int) = true := by rw [hd.has]; simp; omega
  have ho : (A.dev true).out = false := hd.out
  rw [ho, hx] at w1 w2
  rw [show (A.setd false ((A.dev false).outs true)).dev true = A.dev true from rfl, ho, hx] at v1 v2
  simp only [Bool.not_false, Bool.and_self, if_true, Bool.false_eq_true, if_false] at w1 w2 v1 v2
  have pa : pA (A.setd false ((A.dev false).outs true)) false askAll t s = A.setd false ((A.dev false).outs true) := by unfold pA; rw [to]; rfl
  have d0 : putD (A.setd false ((A.dev false).outs true)) askAll t s false = false := by unfold putD pd; rw [to]; rfl
  have d1 : putD (A.setd false ((A.dev false).outs true)) askAll t s true = true := by unfold putD pd; rw [pa, ti, v2]; rfl
  have pt : putA (A.setd false ((A.dev false).outs true)) askAll t s = (A.setd false ((A.dev false).outs true)).setd true ((A.dev true).push t s) := by
    unfold putA; rw [pa]; unfold pA; rw [ti, v1]; rfl
  have hq : (A.dev false).Q = [] := List.eq_nil_of_length_eq_zero (by have := (h.dev false).many; simp only [pick2] at this; simp at this; simp [this])
  have hf := (h.dev false).out
  refine ⟨?_, ?_, ?_, ?_, ?_⟩
  · unfold putE; rw [hh, d0, d1]; rfl
  · unfold putDa; rw [hh, if_pos rfl, pt, w1]
    obtain ⟨a, b, q, r⟩ := A
    obtain ⟨S, Q, k, by_, l, o⟩ := a
    simp only [Da.dev] at hq hf
    subst hq hf
    rfl
  · unfold putm; rw [hh, d0, d1]; simp [Mi.mark, z0, kPut, kHas]
  · unfold putm; rw [hh, d0, d1]; simp [Mi.mark, z1, kDel]
  · unfold putm; rw [hh, d0, d1]; exact ⟨rfl, rfl, rfl, rfl, rfl⟩
end
/-- The sector of that law. -/
def sec3 (u v w : UInt8) : Sec := u :: v :: w :: List.replicate 125 0
theorem sec3_len (u v w : UInt8) : (sec3 u v w).length = 128 := by simp [sec3]
theorem sec3_fill (u v w : UInt8) : bs (sec3 u v w) = Value.int .u8 (u.toNat : Int) :: Value.int .u8 (v.toNat : Int) :: Value.int .u8 (w.toNat : Int) :: List.replicate 125 (Value.int .u8 0) := by simp [sec3, bs, u8]
end Go.Sl
namespace Go.Sl
end Go.Sl
namespace Go.Sl
/-- The sectors of such first bytes. -/
def secs (k : Nat) (ua : List UInt8) : List Sec := (List.range k).map fun i => sec3 (ua.getD (0 + i * 2 + 0) 0) (ua.getD (0 + i * 2 + 1) 0) 9
end Go.Sl

/- walks (own work; the walks' lines by a program of this repo). -/
set_option linter.unusedVariables false
set_option linter.unusedSimpArgs false
set_option maxRecDepth 20000
namespace Go.Proofs.Ytjjiclgbdenkkaa
open Go.Sl
attribute [local irreducible] BodyQ WpC WpL WpS WpH OpW FnS


theorem sector3_s {w0 : World} {H : Hp} (x y : UInt8) : FnS Try.prog w0 20 #[.int .u8 (x.toNat : Int), .int .u8 (y.toNat : Int)] H (fun e H' => e = .returned (.agg (bs (sec3 x y 9)).toArray) ∧ H' = H) := by
  refine FnS_intro (n := 8) (rs := [.cell 4 32]) (vs := [.int .u8 (x.toNat : Int), .int .u8 (y.toNat : Int)]) Try.func20 rfl Try.ntmps20 rfl rfl ?_
  refine C_seq ?_
  refine C_region ?_
  refine L_op rfl (op_alloc zl_32 rfl (fun B1 => ?_))
  refine L_nil ?_
  refine C_seq ?_
  refine C_region ?_
  refine L_y rfl (y_move rfl) rfl ?_
  refine L_y rfl (y_move rfl) rfl ?_
  refine L_y rfl (y_buildA (vs := [(0, _), (1, _), (2, _)]) (l := bs (sec3 x y 9)) rfl Try.underlying32 sz_5 zl_32 (by rw [sec3_fill]; exact (fill_cons (off := 0) (m := 1) (vs := [_]) rfl rfl rfl (Nat.le_of_ble_eq_true rfl) (fill_cons (off := 1) (m := 1) (vs := [_]) rfl rfl rfl (Nat.le_of_ble_eq_true rfl) (fill_cons (off := 2) (m := 1) (vs := [_]) rfl rfl rfl (Nat.le_of_ble_eq_true rfl) rfl))))) rfl ?_
  refine L_op rfl (op_storeA 0 0 rfl rfl rfl sz_32 (by rw [bs_length, sec3_len]) rfl (bs_one _) (by simp) ?_)
  refine L_nil ?_
  refine C_ret ?_
  refine B_ret (rv_cellA rfl ag_32 sz_32 (sees 0 0 rfl) (Nat.le_of_ble_eq_true rfl) rfl rv_nil) (hsub (.cons _ (.refl _))) ?_
  exact ⟨rfl, rfl⟩

theorem awake09_s {w0 : World} {H : Hp} : FnS Try.prog w0 15 #[] H (fun e H' => e = .returned (.bool true) ∧ H' = H) := by
  refine FnS_intro (n := 56) (rs := [.tmp 0]) (vs := []) Try.func15 rfl Try.ntmps15 rfl rfl ?_
  refine C_seq ?_
  refine C_region ?_
  refine L_y rfl (y_assign rfl) rfl ?_
  refine L_nil ?_
  refine C_seq ?_
  refine C_region ?_
  refine L_op rfl (op_call rfl rfl (fun a w => Try.call16 a w) rfl ?_)
  refine (new_ln 5).mono ?_
  rintro _ _ ⟨d91, p91, hG91, ha91, hP91, rfl, rfl⟩
  have hA91 : d91.a = Ab.new 5 := by rw [ha91] <;> (rfl)
  have hb91 : d91.b = d91.b := rfl
  refine ⟨_, rfl, ?_⟩
  refine L_op rfl (op_call rfl rfl (fun a w => Try.call16 a w) rfl ?_)
  refine ((newnil_d hG91 rfl 5).sub (hsub_pick [0, 0, 0, 0, 0] rfl)).mono ?_
  rintro _ _ ⟨by81, D81, h81, rfl, rfl⟩
  replace h81 := h81.to (B := ⟨Ab.new 5, Ab.new 5, q0, some q0⟩) (by rw [hA91, hP91] <;> (rfl))
  have hv1 : Vw ⟨Ab.new 5, Ab.new 5, q0, some q0⟩ 5 (List.replicate 5 (secOf 0)) (List.replicate 5 (secOf 0)) 0 0 := Vw.new (by omega) (some q0) (.inr rfl)
  refine ⟨_, rfl, ?_⟩
  refine L_y rfl (y_assign rfl) rfl ?_
  refine L_y rfl (y_assign rfl) rfl ?_
  refine L_nil ?_
  refine C_seq ?_
  refine C_region ?_
  refine L_y rfl (y_move rfl) rfl ?_
  refine L_y rfl (y_move rfl) rfl ?_
  refine L_op rfl (op_call rfl rfl (fun a w => Try.call17 a w) rfl ?_)
  refine (FnS.sub (hsub_pick [0] rfl) (new_v (f := 18) (cap := []) h81 hv1 (fun s hs => by rw [List.eq_of_mem_replicate hs]; exact secOf_len _) (fun s hs => by rw [List.eq_of_mem_replicate hs]; exact secOf_len _))).mono ?_
  rintro _ _ ⟨mb2, m2, hS2, rfl, rfl⟩
  refine ⟨_, rfl, ?_⟩
  refine L_y rfl (y_assign rfl) rfl ?_
  refine L_nil ?_
  refine C_seq ?_
  refine C_region ?_
  refine L_y rfl (y_move rfl) rfl ?_
  refine L_op rfl (op_call rfl rfl (fun a w => Try.call20 a w) rfl ?_)
  refine (sector3_s 1 0).mono ?_
  rintro _ _ ⟨rfl, e⟩
  obtain rfl := e.symm
  clear e
  refine ⟨_, rfl, ?_⟩
  refine L_op rfl (op_call rfl rfl (fun a w => Try.call19 a w) rfl ?_)
  refine (FnS.sub (hsub_pick [0, 0] rfl) (write_v hS2 (n := 3) (s := (sec3 1 0 9)) (by decide) (sec3_len _ _ _) (by omega) (by omega))).mono ?_
  rintro _ _ ⟨rfl, D3, A3, hS3, rfl⟩
  refine ⟨_, rfl, ?_⟩
  refine L_y rfl (y_assign rfl) rfl ?_
  refine L_nil ?_
  refine C_seq ?_
  refine C_region ?_
  refine L_y rfl (y_move rfl) rfl ?_
  refine L_op rfl (op_call rfl rfl (fun a w => Try.call21 a w) rfl ?_)
  refine (FnS.sub (hsub_pick [0, 0] rfl) (flush_v hS3)).mono ?_
  rintro _ _ ⟨rfl, D4, A4, hS4, rfl⟩
  refine ⟨_, rfl, ?_⟩
  refine L_y rfl (y_assign rfl) rfl ?_
  refine L_nil ?_
  refine C_seq ?_
  refine C_seq ?_
  refine C_region ?_
  refine L_y rfl (y_move rfl) rfl ?_
  refine L_op rfl (op_call rfl rfl (fun a w => Try.call34 a w) rfl ?_)
  refine (FnS.sub (hsub_pick [1] rfl) (rotg_v hS4 false (n := 3) (j := 0) (c := 1) (s := (sec3 1 0 9)) rfl (by decide))).mono ?_
  rintro _ _ ⟨rfl, D5, A5, hS5, rfl⟩
  simp only [Bool.false_eq_true, if_false, if_true] at hS5
  refine ⟨_, rfl, ?_⟩
  refine L_y rfl (y_not rfl) rfl ?_
  refine L_nil ?_
  refine C_cond_f rfl ?_
  refine C_skip ?_
  refine C_seq ?_
  refine C_region ?_
  refine L_y rfl (y_move rfl) rfl ?_
  refine L_op rfl (op_call rfl rfl (fun a w => Try.call22 a w) rfl ?_)
  refine (FnS.sub (hsub_pick [1, 0] rfl) (readg_v hS5 good_at (n := 3) (s := (sec3 0 0 9)) (show _ = some (sec3 0 0 9) from rfl) (t := (sec3 1 0 9)) rfl)).mono ?_
  rintro _ _ ⟨e4, rfl⟩
  rw [show rdv goodP ((3 : Nat) : Int) (sec3 0 0 9) (sec3 1 0 9) = (sec3 1 0 9) from by decide +kernel, show rde goodP ((3 : Nat) : Int) (sec3 0 0 9) (sec3 1 0 9) = 0 from by decide +kernel] at e4
  obtain rfl := e4
  refine ⟨_, rfl, ?_⟩
  refine L_y rfl (y_move rfl) rfl ?_
  refine L_y rfl (y_extract rfl rfl) rfl ?_
  refine L_y rfl (y_extract rfl rfl) rfl ?_
  refine L_op rfl (op_alloc zl_32 rfl (fun B1 => ?_))
  refine L_op rfl (op_storeA 0 0 rfl rfl rfl sz_32 (by rw [bs_length, sec3_len _ _ _]) rfl (bs_one _) (by simp) ?_)
  refine L_y rfl (y_assign rfl) rfl ?_
  refine L_nil ?_
  refine C_seq ?_
  refine C_region ?_
  refine L_y rfl (y_move rfl) rfl ?_
  refine L_op rfl (op_call rfl rfl (fun a w => Try.call23 a w) rfl ?_)
  refine (FnS.sub (hsub_pick [1, 1] rfl) (healg_v hS5 good_at (n := 3) (s := (sec3 0 0 9)) (show _ = some (sec3 0 0 9) from rfl) (t := (sec3 1 0 9)) rfl (by omega) (by omega))).mono ?_
  rintro _ _ ⟨e4, D6, A6, m6, hS6, rfl⟩
  rw [show hC goodP 3 (sec3 0 0 9) (sec3 1 0 9) = 1 from by decide +kernel] at e4
  obtain rfl := e4
  refine ⟨_, rfl, ?_⟩
  refine L_y rfl (y_move rfl) rfl ?_
  refine L_y rfl (y_extract rfl rfl) rfl ?_
  refine L_y rfl (y_extract rfl rfl) rfl ?_
  refine L_y rfl (y_assign rfl) rfl ?_
  refine L_y rfl (y_assign rfl) rfl ?_
  refine L_nil ?_
  refine C_seq ?_
  refine C_regionH0 (by kernel_rfl) ?_
  refine H_y 0 rfl (by kernel_rfl) (by kernel_rfl) (by kernel_rfl) (HSub.refl _) rfl (y_move rfl) rfl ?_
  refine H_y 1 rfl (by kernel_rfl) (by kernel_rfl) (by kernel_rfl) (HSub.refl _) rfl (y_eqi rfl rfl) rfl ?_
  refine H_y 2 rfl (by kernel_rfl) (by kernel_rfl) (by kernel_rfl) (HSub.refl _) rfl (y_move rfl) rfl ?_
  refine H_case 35 rfl (fun hg9_3 => ?_) (fun hg9_3 => ?_)
  · skip
    refine H_y 3 rfl (by kernel_rfl) (by kernel_rfl) (by kernel_rfl) (HSub.refl _) rfl (y_move rfl) rfl ?_
    refine H_y 4 rfl (by kernel_rfl) (by kernel_rfl) (by kernel_rfl) (HSub.refl _) rfl (y_eqi rfl rfl) rfl ?_
    refine H_y 5 rfl (by kernel_rfl) (by kernel_rfl) (by kernel_rfl) (HSub.refl _) rfl (y_pick_t rfl rfl) rfl ?_
    refine H_y 6 rfl (by kernel_rfl) (by kernel_rfl) (by kernel_rfl) (HSub.refl _) rfl (y_move rfl) rfl ?_
    refine H_case 39 rfl (fun hg9_7 => ?_) (fun hg9_7 => ?_)
    · skip
      refine H_y 7 rfl (by kernel_rfl) (by kernel_rfl) (by kernel_rfl) (HSub.refl _) rfl (y_move rfl) rfl ?_
      refine H_y 8 rfl (by kernel_rfl) (by kernel_rfl) (by kernel_rfl) (HSub.refl _) rfl (y_eqi rfl rfl) rfl ?_
      refine H_y 9 rfl (by kernel_rfl) (by kernel_rfl) (by kernel_rfl) (HSub.refl _) rfl (y_pick_t rfl rfl) rfl ?_
      refine H_y 10 rfl (by kernel_rfl) (by kernel_rfl) (by kernel_rfl) (HSub.refl _) rfl (y_move rfl) rfl ?_
      refine H_case 43 rfl (fun hg9_11 => ?_) (fun hg9_11 => ?_)
      · skip
        refine H_y 11 rfl (by kernel_rfl) (by kernel_rfl) (by kernel_rfl) (HSub.refl _) rfl (y_move rfl) rfl ?_
        refine H_y 12 rfl (by kernel_rfl) (by kernel_rfl) (by kernel_rfl) (HSub.refl _) rfl (y_eqi rfl rfl) rfl ?_
        refine H_y 13 rfl (by kernel_rfl) (by kernel_rfl) (by kernel_rfl) (HSub.refl _) rfl (y_pick_t rfl rfl) rfl ?_
        refine H_y 14 rfl (by kernel_rfl) (by kernel_rfl) (by kernel_rfl) (HSub.refl _) rfl (y_move rfl) rfl ?_
        refine H_case 47 rfl (fun hg9_15 => ?_) (fun hg9_15 => ?_)
        · skip
          refine H_y 15 rfl (by kernel_rfl) (by kernel_rfl) (by kernel_rfl) (HSub.refl _) rfl (y_loadA rfl ag_32 sz_32 (sees 2 0 rfl) (by rw [bs_length, sec3_len _ _ _]; decide) (bs_whole0 _ (sec3_len _ _ _))) rfl ?_
          refine H_one 16 rfl (by kernel_rfl) rfl (op_call rfl rfl (fun a w => Try.call20 a w) rfl ?_)
          refine (sector3_s 1 0).mono ?_
          rintro _ _ ⟨rfl, e⟩
          obtain rfl := e.symm
          clear e
          refine ⟨_, rfl, ?_⟩
          refine ⟨HSub.refl _, ?_⟩
          refine H_y 17 rfl (by kernel_rfl) (by kernel_rfl) (by kernel_rfl) (HSub.refl _) rfl (y_eqa rfl rfl Try.underlying32 Try.underlying5 sz_5 eg_32 (sec3_len _ _ _) (sec3_len _ _ _)) rfl ?_
          refine H_y 18 rfl (by kernel_rfl) (by kernel_rfl) (by kernel_rfl) (HSub.refl _) rfl (y_pick_t rfl rfl) rfl ?_
          refine H_y 19 rfl (by kernel_rfl) (by kernel_rfl) (by kernel_rfl) (HSub.refl _) rfl (y_move rfl) rfl ?_
          refine H_case 52 rfl (fun hg9_20 => ?_) (fun hg9_20 => ?_)
          · skip
            refine H_y 20 rfl (by kernel_rfl) (by kernel_rfl) (by kernel_rfl) (HSub.refl _) rfl (y_move rfl) rfl ?_
            refine H_y 21 rfl (by kernel_rfl) (by kernel_rfl) (by kernel_rfl) (HSub.refl _) rfl (y_eqi rfl rfl) rfl ?_
            refine H_y 22 rfl (by kernel_rfl) (by kernel_rfl) (by kernel_rfl) (HSub.refl _) rfl (y_pick_t rfl rfl) rfl ?_
            refine H_y 23 rfl (by kernel_rfl) (by kernel_rfl) (by kernel_rfl) (HSub.refl _) rfl (y_assign rfl) rfl ?_
            refine H_done (by kernel_rfl) ?_
            refine C_ret ?_
            refine B_ret (rv_tmp rfl rv_nil) (hsub (.cons _ (.cons _ (.cons _ (.refl _))))) ?_
            exact ⟨ret_bool (by simp), rfl⟩
          · exact absurd hg9_20 (by simp)
        · exact absurd hg9_15 (by simp)
      · exact absurd hg9_11 (by simp)
    · exact absurd hg9_7 (by simp)
  · exact absurd hg9_3 (by simp)

end Go.Proofs.Ytjjiclgbdenkkaa

/- Sync of a mirror: the plain model (own work). -/
set_option linter.unusedVariables false
set_option linter.unusedSimpArgs false
namespace Go.Sl
def Mi.ks (m : Mi) : Bool → List (Int × Nat)
  | false => m.k0
  | true => m.k1
def Mi.del (m : Mi) (i : Bool) (n : Int) : Mi := match i with
  | false => { m with k0 := kDel m.k0 n }
  | true => { m with k1 := kDel m.k1 n }
/-- Is a place of a side copied from the other one? -/
def syOk (m : Mi) (A : Da) (p : Int → Sec → Bool) (i : Bool) (n : Int) : Bool := kHas (m.ks i) n && !kHas (m.ks (!i)) n && (decide (A.rE (!i) n = 0) && p n (A.rS (!i) n))
def sy1 (p : Int → Sec → Bool) (i : Bool) (q : Da × Mi) (n : Int) : Da × Mi :=
  if syOk q.2 q.1 p i n then (q.1.write i n (q.1.rS (!i) n), if q.1.wE i n = 0 then q.2.del i n else q.2) else q
def syN (p : Int → Sec → Bool) (i : Bool) (q : Da × Mi) : Nat → Da × Mi
  | 0 => q
  | k + 1 => sy1 p i (syN p i q k) k
def syncQ (m : Mi) (A : Da) (p : Int → Sec → Bool) : Da × Mi := syN p true (syN p false (A, m) m.n) m.n
def syncE (m : Mi) (A : Da) (p : Int → Sec → Bool) : Int := if thr A false && thr A true then (if (syncQ m A p).2.k0.length + (syncQ m A p).2.k1.length = 0 then 0 else 9) else 13
def syncA (m : Mi) (A : Da) (p : Int → Sec → Bool) : Da := if thr A false && thr A true then (mfl (syncQ m A p).1).1 else A
def syncM (m : Mi) (A : Da) (p : Int → Sec → Bool) : Mi := if thr A false && thr A true then (syncQ m A p).2 else m
end Go.Sl

/- walks (own work; the walks' lines by a program of this repo). -/
set_option linter.unusedVariables false
set_option linter.unusedSimpArgs false
set_option maxRecDepth 20000
namespace Go.Proofs.Ytjjiclgbdenkkaa
open Go.Sl
attribute [local irreducible] BodyQ WpC WpL WpS WpH OpW FnS



end Go.Proofs.Ytjjiclgbdenkkaa

/- walks (own work; the walks' lines by a program of this repo). -/
set_option linter.unusedVariables false
set_option linter.unusedSimpArgs false
set_option maxRecDepth 20000
namespace Go.Proofs.Ytjjiclgbdenkkaa
open Go.Sl
attribute [local irreducible] BodyQ WpC WpL WpS WpH OpW FnS


theorem mwrite_b {w0 : World} {H : Hp} {D : Duo} {A : Da} {m : Mi} {mb bx bys bp : Nat} (hb : m.b = mb) (hx : m.bx = bx) (hy : m.bys = bys) (h : Two dt D A bx bys bp) (n : Int) (s : Sec) (hs : s.length = 128) (hQ : ∀ i, (A.dev i).Q.length < 99990) : FnS Try.prog w0 19 #[ptr mb, .int .i64 n, .agg (bs s).toArray] (m.seg 110 :: D.seg dt :: H) (fun e H' => e = .returned (.int .i64 (putE m A askAll n s)) ∧ ∃ D', Two dt D' (putDa m A askAll n s) bx bys bp ∧ H' = (putm m A askAll n s).seg 110 :: D'.seg dt :: H) := by
  subst hb hx hy
  exact mwrite_m h n s hs hQ

theorem mflush_b {w0 : World} {H : Hp} {D : Duo} {A : Da} {m : Mi} {mb bx bys bp : Nat} (hb : m.b = mb) (hx : m.bx = bx) (hy : m.bys = bys) (h : Two dt D A bx bys bp) : FnS Try.prog w0 21 #[ptr mb] (m.seg 110 :: D.seg dt :: H) (fun e H' => e = .returned (.int .i64 (mfl A).2) ∧ ∃ D', Two dt D' ((mfl A).1) bx bys bp ∧ H' = m.seg 110 :: D'.seg dt :: H) := by
  subst hb hx hy
  exact mflush_m h

end Go.Proofs.Ytjjiclgbdenkkaa

/- A flush of a mirror while power fails: what is there then (own work). -/
set_option linter.unusedVariables false
set_option linter.unusedSimpArgs false
namespace Go.Sl
/-- What is stable behind a failure of power of a write that waits. -/
def cl (ka ba : Nat) (d : List Sec) (t : Nat) (s : Sec) : List Sec := if 0 < ka then d.set t s else d.set t (s.take ba ++ (d.getD t []).drop ba)
theorem set_self2 {l : List Sec} {k : Nat} {x : Sec} (h : l[k]? = some x) : l.set k x = l := by
  obtain ⟨hk, rfl⟩ := List.getElem?_eq_some_iff.1 h
  simp
section
variable {ka ba t k : Nat} {d : List Sec} {s : Sec}
theorem cl_len : (cl ka ba d t s).length = d.length := by unfold cl; split <;> simp
theorem getD_set2 {l : List Sec} {n j : Nat} {b : Sec} (hn : n < l.length) : (l.set n b).getD j [] = if j = n then b else l.getD j [] := by
  rw [List.getD_eq_getElem?_getD, List.getD_eq_getElem?_getD, List.getElem?_set]
  by_cases e : n = j
  · subst e; simp [hn]
  · simp [e, Ne.symm e]
theorem cl_at (ht : t < d.length) (h : (d.set t s).getD k [] = d.getD k []) : (cl ka ba d t s).getD k [] = d.getD k [] := by
  rw [getD_set2 ht] at h
  unfold cl
  split
  · rw [getD_set2 ht, h]
  · rw [getD_set2 ht]
    by_cases e : k = t
    · subst e
      rw [if_pos rfl] at h ⊢
      rw [← h, List.take_append_drop]
    · rw [if_neg e]
theorem cl_0 (ht : t < d.length) : cl 0 0 d t s = d := by
  unfold cl
  rw [if_neg (by decide), List.take_zero, List.drop_zero, List.nil_append]
  exact set_self2 (by rw [List.getD_eq_getElem?_getD, List.getElem?_eq_getElem ht]; rfl)
theorem cut_one {b l o : Bool} (ho : o = false) : (⟨d, [(t, s)], ka, ba, l, o⟩ : Ab).cut = ⟨cl ka ba d t s, [], ka, ba, l, o⟩ := by
  subst ho
  unfold Ab.cut cl
  simp only [Bool.false_eq_true, if_false, List.length_cons, List.length_nil, cutN, List.getElem?_cons_zero, cut1]
  by_cases h : 0 < ka
  · simp [h]
  · have : 0 = ka := by omega
    simp [h, this]
theorem cut_none {l o : Bool} : (⟨d, [], ka, ba, l, o⟩ : Ab).cut = ⟨d, [], ka, ba, l, o⟩ := by
  unfold Ab.cut; cases o <;> rfl
end
structure Fq (A : Da) (d : List Sec) : Prop where
  is : ∃ ka ba p, A = ⟨⟨d, [], ka, ba, false, false⟩, ⟨d, [], 0, 0, false, false⟩, p, none⟩ ∧ p.off = false
  len : d.length = 4
structure Fp (A : Da) (d n : List Sec) : Prop where
  la : A.a.S.length = 4
  lb : A.b.S.length = 4
  x : ∀ k, n.getD k [] = d.getD k [] → A.a.S.getD k [] = d.getD k []
  y : ∀ k, A.b.S.getD k [] = d.getD k [] ∨ A.b.S.getD k [] = n.getD k []
theorem Fq.post {A : Da} {d : List Sec} (h : Fq A d) : Fp A d d := by
  obtain ⟨⟨ka, ba, p, rfl, _⟩, hl⟩ := h
  exact ⟨hl, hl, fun k _ => rfl, fun k => .inl rfl⟩
theorem pa_on {p : Pa} (h : p.off = false) (hf : p.falls = false) : p.step.off = false := by
  unfold Pa.step
  unfold Pa.falls at hf
  split
  · rename_i h1
    rw [h1] at hf
    have : ¬ p.left ≤ 0 := by simpa using hf
    rw [if_neg this]; exact h
  · exact h
theorem pa_off {p : Pa} (hf : p.falls = true) : p.step.off = true := by
  unfold Pa.falls at hf
  simp only [Bool.and_eq_true, decide_eq_true_eq] at hf
  unfold Pa.step
  rw [if_pos hf.1, if_pos hf.2]
section
variable {d : List Sec} {t ka ba : Nat} {s : Sec} {p : Pa} {Q Q' : List (Nat × Sec)} {d' : List Sec}
/-- One of the two writes. -/
theorem w_at (i : Bool) (x y : Ab) (ho : (Da.dev ⟨x, y, p, none⟩ i).out = false) (hp : p.off = false) (ht : t < (Da.dev ⟨x, y, p, none⟩ i).S.length) :
    (⟨x, y, p, none⟩ : Da).wE i t = (if p.falls then 13 else 0) ∧ (⟨x, y, p, none⟩ : Da).write i t s = (if p.falls then (match i with
      | false => ⟨(x.push t s).cut, y.cut, p.step, none⟩
      | true => ⟨x.cut, (y.push t s).cut, p.step, none⟩) else (match i with
      | false => ⟨x.push t s, y, p.step, none⟩
      | true => ⟨x, y.push t s, p.step, none⟩)) := by
  have hh : ((Da.dev ⟨x, y, p, none⟩ i).has (t : Int)) = true := by unfold Ab.has; simp; omega
  have hd : (Da.dev ⟨x, y, p, none⟩ i).down (Da.pow ⟨x, y, p, none⟩ i) = false := by
    unfold Ab.down; rw [ho]; cases i <;> simpa [Da.pow] using hp
  have hw : wgo (Da.dev ⟨x, y, p, none⟩ i) (Da.pow ⟨x, y, p, none⟩ i) (t : Int) = true := by unfold wgo; rw [hd, hh]; rfl
  have hP : Da.pow ⟨x, y, p, none⟩ i = p := by cases i <;> rfl
  constructor
  · unfold Da.wE writeE; rw [hd, hh, hP]; rfl
  · unfold Da.write writeA writeP
    rw [hw, hP]
    simp only [if_true, Int.toNat_natCast]
    cases i <;> cases hf : p.falls <;> simp [Da.oth, Da.setd, Da.setp, Da.dev, Da.pow, Ab.step, hf]
theorem f_at (i : Bool) (x y : Ab) (ho : (Da.dev ⟨x, y, p, none⟩ i).out = false) (hp : p.off = false) :
    (⟨x, y, p, none⟩ : Da).fE i = (if p.falls then 13 else 0) ∧ (⟨x, y, p, none⟩ : Da).flush i = (if p.falls then ⟨x.cut, y.cut, p.step, none⟩ else (match i with
      | false => ⟨x.flush, y, p.step, none⟩
      | true => ⟨x, y.flush, p.step, none⟩)) := by
  have hd : (Da.dev ⟨x, y, p, none⟩ i).down (Da.pow ⟨x, y, p, none⟩ i) = false := by
    unfold Ab.down; rw [ho]; cases i <;> simpa [Da.pow] using hp
  have hP : Da.pow ⟨x, y, p, none⟩ i = p := by cases i <;> rfl
  constructor
  · unfold Da.fE flushE; rw [hd, hP]; rfl
  · unfold Da.flush flushA flushP
    rw [hd, hP]
    cases i <;> cases hf : p.falls <;> simp [Da.oth, Da.setd, Da.setp, Da.dev, Da.pow, Ab.step, hf]
theorem f_off (i : Bool) (x y : Ab) (hp : p.off = true) : (⟨x, y, p, none⟩ : Da).fE i = 13 ∧ (⟨x, y, p, none⟩ : Da).flush i = ⟨x, y, p, none⟩ := by
  have hd : (Da.dev ⟨x, y, p, none⟩ i).down (Da.pow ⟨x, y, p, none⟩ i) = true := by
    unfold Ab.down; cases i <;> simp [Da.pow, hp]
  constructor
  · unfold Da.fE flushE; rw [hd]; rfl
  · unfold Da.flush flushA flushP
    rw [hd]
    cases i <;> simp [Da.oth, Da.setd, Da.setp, Da.dev, Da.pow]
theorem thr_off (i : Bool) (x y : Ab) (hp : p.off = true) : thr ⟨x, y, p, none⟩ i = false := by
  unfold thr Ab.down; cases i <;> simp [Da.pow, hp]
theorem thr_on (i : Bool) (x y : Ab) (ho : (Da.dev ⟨x, y, p, none⟩ i).out = false) (hp : p.off = false) : thr ⟨x, y, p, none⟩ i = true := by
  unfold thr Ab.down; rw [ho]; cases i <;> simp [Da.pow, hp]
end
/-- A write and a flush, wherever power fails. -/
theorem Fq.round {A : Da} {d : List Sec} (h : Fq A d) {m : Mi} (hm : m.n = 4) {t : Nat} (ht : t < 4) (s : Sec) :
    (putE m A askAll t s = 13 ∧ Fp (putDa m A askAll t s) d (d.set t s)) ∨ (putE m A askAll t s = 0 ∧ (((mfl (putDa m A askAll t s)).2 = 13 ∧ Fp (mfl (putDa m A askAll t s)).1 d (d.set t s)) ∨ ((mfl (putDa m A askAll t s)).2 = 0 ∧ Fq (mfl (putDa m A askAll t s)).1 (d.set t s)))) := by
  obtain ⟨⟨ka, ba, p, rfl, hp⟩, hl⟩ := h
  have hh : m.has (t : Int) = true := by unfold Mi.has; simp; omega
  have htl : t < d.length := by omega
  have tA : ∀ q : Pa, q.off = false → ∀ i, ∀ x y : Ab, x.out = false → y.out = false → thr ⟨x, y, q, none⟩ i = true := fun q hq i x y h1 h2 => thr_on i x y (by cases i; exact h1; exact h2) hq
  have lset : (d.set t s).length = 4 := by simpa using hl
  have x0 : ∀ {S : List Sec}, (∀ k, (d.set t s).getD k [] = d.getD k [] → S.getD k [] = d.getD k []) → ∀ k, (d.set t s).getD k [] = d.getD k [] → S.getD k [] = d.getD k [] := fun h => h
  unfold putE putDa putD putA pd
  rw [hh]
  simp only [if_true]
  have e0 : askAll ⟨⟨d, [], ka, ba, false, false⟩, ⟨d, [], 0, 0, false, false⟩, p, none⟩ false = true := rfl
  obtain ⟨w1, w2⟩ := w_at (s := s) (t := t) false ⟨d, [], ka, ba, false, false⟩ ⟨d, [], 0, 0, false, false⟩ rfl hp htl
  have t0 := tA p hp false ⟨d, [], ka, ba, false, false⟩ ⟨d, [], 0, 0, false, false⟩ rfl rfl
  have pA0 : pA ⟨⟨d, [], ka, ba, false, false⟩, ⟨d, [], 0, 0, false, false⟩, p, none⟩ false askAll t s = (⟨⟨d, [], ka, ba, false, false⟩, ⟨d, [], 0, 0, false, false⟩, p, none⟩ : Da).write false t s := by
    unfold pA; rw [t0]; rfl
  rw [t0, w1, pA0, w2]
  have ask1 : ∀ B i, askAll B i = true := fun _ _ => rfl
  simp only [ask1, Bool.not_true, Bool.false_or, Bool.true_and]
  cases hf : p.falls
  · simp only [Bool.false_eq_true, if_false]
    have hp1 := pa_on hp hf
    generalize p.step = p1 at hp1
    have push0 : (⟨d, [], ka, ba, false, false⟩ : Ab).push t s = ⟨d, [(t, s)], ka, ba, false, false⟩ := rfl
    rw [push0]
    have t1 := tA p1 hp1 true ⟨d, [(t, s)], ka, ba, false, false⟩ ⟨d, [], 0, 0, false, false⟩ rfl rfl
    obtain ⟨v1, v2⟩ := w_at (s := s) (t := t) true ⟨d, [(t, s)], ka, ba, false, false⟩ ⟨d, [], 0, 0, false, false⟩ rfl hp1 htl
    have pA1 : pA ⟨⟨d, [(t, s)], ka, ba, false, false⟩, ⟨d, [], 0, 0, false, false⟩, p1, none⟩ true askAll t s = (⟨⟨d, [(t, s)], ka, ba, false, false⟩, ⟨d, [], 0, 0, false, false⟩, p1, none⟩ : Da).write true t s := by
      unfold pA; rw [t1]; rfl
    rw [t1, pA1, v1, v2]
    refine .inr ⟨by simp, ?_⟩
    have push1 : (⟨d, [], 0, 0, false, false⟩ : Ab).push t s = ⟨d, [(t, s)], 0, 0, false, false⟩ := rfl
    rw [push1]
    cases hf1 : p1.falls
    · simp only [Bool.false_eq_true, if_false]
      have hp2 := pa_on hp1 hf1
      generalize p1.step = p2 at hp2
      unfold mfl fl1
      rw [tA p2 hp2 false _ _ rfl rfl, tA p2 hp2 true _ _ rfl rfl]
      simp only [if_true]
      obtain ⟨f1, f2⟩ := f_at (p := p2) false ⟨d, [(t, s)], ka, ba, false, false⟩ ⟨d, [(t, s)], 0, 0, false, false⟩ rfl hp2
      rw [f1, f2]
      cases hf2 : p2.falls
      · simp only [Bool.false_eq_true, if_false, if_true]
        have hp3 := pa_on hp2 hf2
        generalize p2.step = p3 at hp3
        have fl : (⟨d, [(t, s)], ka, ba, false, false⟩ : Ab).flush = ⟨d.set t s, [], ka, ba, false, false⟩ := rfl
        have fl' : (⟨d, [(t, s)], 0, 0, false, false⟩ : Ab).flush = ⟨d.set t s, [], 0, 0, false, false⟩ := rfl
        rw [fl]
        obtain ⟨g1, g2⟩ := f_at (p := p3) true ⟨d.set t s, [], ka, ba, false, false⟩ ⟨d, [(t, s)], 0, 0, false, false⟩ rfl hp3
        rw [g1, g2]
        cases hf3 : p3.falls
        · simp only [Bool.false_eq_true, if_false, if_true]
          rw [fl']
          exact .inr ⟨trivial, ⟨ka, ba, p3.step, rfl, pa_on hp3 hf3⟩, lset⟩
        · simp only [if_true]
          rw [cut_none, cut_one (b := false) rfl, cl_0 htl]
          exact .inl ⟨by simp, lset, hl, fun k hk => hk, fun k => .inl rfl⟩
      · simp only [if_true]
        have hp3 := pa_off hf2
        generalize p2.step = p3 at hp3
        rw [cut_one (b := false) rfl, cut_one (b := false) rfl, cl_0 htl]
        obtain ⟨g1, g2⟩ := f_off (p := p3) true ⟨cl ka ba d t s, [], ka, ba, false, false⟩ ⟨d, [], 0, 0, false, false⟩ hp3
        rw [g1, g2]
        exact .inl ⟨by simp, cl_len.trans hl, hl, fun k hk => cl_at htl hk, fun k => .inl rfl⟩
    · simp only [if_true]
      have hp2 := pa_off hf1
      generalize p1.step = p2 at hp2
      rw [cut_one (b := false) rfl, cut_one (b := false) rfl, cl_0 htl]
      unfold mfl
      rw [thr_off false _ _ hp2, thr_off true _ _ hp2]
      exact .inl ⟨by simp, cl_len.trans hl, hl, fun k hk => cl_at htl hk, fun k => .inl rfl⟩
  · simp only [if_true]
    have hp1 := pa_off hf
    generalize p.step = p1 at hp1
    have push0 : (⟨d, [], ka, ba, false, false⟩ : Ab).push t s = ⟨d, [(t, s)], ka, ba, false, false⟩ := rfl
    rw [push0, cut_one (b := false) rfl, cut_none]
    have t1 := thr_off (p := p1) true ⟨cl ka ba d t s, [], ka, ba, false, false⟩ ⟨d, [], 0, 0, false, false⟩ hp1
    have pA1 : pA ⟨⟨cl ka ba d t s, [], ka, ba, false, false⟩, ⟨d, [], 0, 0, false, false⟩, p1, none⟩ true askAll t s = ⟨⟨cl ka ba d t s, [], ka, ba, false, false⟩, ⟨d, [], 0, 0, false, false⟩, p1, none⟩ := by
      unfold pA; rw [t1]; rfl
    rw [t1, pA1]
    exact .inl ⟨by simp, cl_len.trans hl, hl, fun k hk => cl_at htl hk, fun k => .inl rfl⟩
theorem Fq.start {k b n : Int} {K : Nat} (hK : K = 4) : Fq ⟨(Ab.new K).tear k b, Ab.new K, (q0).fail n, none⟩ (List.replicate K (secOf 0)) := by
  subst hK
  exact ⟨⟨_, _, _, rfl, rfl⟩, by simp⟩
end Go.Sl

/- A mirror of which one device missed something (own work). -/
set_option linter.unusedVariables false
set_option linter.unusedSimpArgs false
namespace Go.Sl
section
variable {m : Mi} {A : Da} {p : Int → Sec → Bool} {K : Nat} {X Y : List Sec} {k0 k1 t c : Nat} {s : Sec}
/-- What is written and flushed while the first device is out; it is in again then. -/
theorem missed (h : Vw A K X Y 0 k1) (ht : t < K) (hs : s.length = 128) (hm : m.n = K) (z0 : m.k0 = []) (z1 : m.k1 = []) :
    putE m (A.setd false ((A.dev false).outs true)) askAll t s = 0 ∧
    Vw ((mfl (putDa m (A.setd false ((A.dev false).outs true)) askAll t s)).1.setd false (((mfl (putDa m (A.setd false ((A.dev false).outs true)) askAll t s)).1.dev false).outs false)) K X (Y.set t s) 0 0 ∧
    (putm m (A.setd false ((A.dev false).outs true)) askAll t s).k0 = [((t : Int), m.c0)] ∧ (putm m (A.setd false ((A.dev false).outs true)) askAll t s).k1 = [] ∧
    (putm m (A.setd false ((A.dev false).outs true)) askAll t s).b = m.b ∧ (putm m (A.setd false ((A.dev false).outs true)) askAll t s).bx = m.bx ∧ (putm m (A.setd false ((A.dev false).outs true)) askAll t s).bys = m.bys ∧
    (putm m (A.setd false ((A.dev false).outs true)) askAll t s).n = m.n ∧ (putm m (A.setd false ((A.dev false).outs true)) askAll t s).gv = m.gv := by
  obtain ⟨p0, p1, p2⟩ := put_out (s := s) h ht hm z0 z1
  refine ⟨p0, ?_, p2⟩
  have hh := has_of hm ht
  obtain ⟨w1, w2⟩ := h.write (n := t) (s := s) true ht hs
  obtain ⟨f1, f2⟩ := w2.flush true
  simp only [if_true] at f2
  generalize hA : A.setd false ((A.dev false).outs true) = A' at *
  have c2 : A'.calm := by rw [← hA]; exact Da.calm_setd h.calm false _
  have to : thr A' false = false := by rw [← hA]; simp [thr, Da.setd, Da.dev, Ab.outs, Ab.down]
  have ti : thr A' true = true := by rw [← hA]; exact h.thr true
  have pa : pA A' false askAll t s = A' := by unfold pA; rw [to]; rfl
  have pB : putDa m A' askAll t s = A'.write true t s := by
    unfold putDa putA; rw [hh, if_pos rfl, pa]; unfold pA; rw [ti]; rfl
  have hB : (A'.write true t s).dev false = A'.dev false := by
    rw [(Da.write_calm c2 true (t : Int) s).1]
    split <;> rfl
  have cB := Da.write_calm2 c2 true (t : Int) s
  rw [pB] at p1 ⊢
  generalize hB2 : A'.write true (t : Int) s = B at *
  have tB : thr B false = false := by
    unfold thr Ab.down
    rw [hB, ← hA]
    simp [Da.setd, Da.dev, Ab.outs]
  have eB : B.setd false ((B.dev false).outs false) = A.write true t s := p1
  have oB : (B.dev true).out = false := by
    have : (A.write true t s).dev true = B.dev true := by rw [← eB]; rfl
    rw [← this]; exact (w2.dev true).out
  have tB1 : thr B true = true := by
    unfold thr Ab.down
    rw [oB, (Da.calm_pow cB true).1]; rfl
  have fl : B.flush true = B.setd true ((B.dev true).flush) := by rw [(Da.flush_calm cB true).1, oB]; rfl
  have fA : (A.write true t s).flush true = (A.write true t s).setd true (((A.write true t s).dev true).flush) := by
    rw [(Da.flush_calm w2.calm true).1, (w2.dev true).out]; rfl
  have key : (mfl B).1.setd false (((mfl B).1.dev false).outs false) = (A.write true t s).flush true := by
    unfold mfl fl1
    rw [tB, tB1]
    simp only [Bool.false_eq_true, if_false, if_true]
    rw [fl, fA, ← eB]
    rfl
  rw [key]
  exact f2
end
end Go.Sl

