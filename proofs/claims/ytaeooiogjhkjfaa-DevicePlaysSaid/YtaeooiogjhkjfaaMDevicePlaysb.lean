/- Own work: texts Q2W, Q3W, Q4W, Q5W, Q6W, DrW, DcW, DoW, DwW, DfW, DtW, DmW, SlR, DeW, DlW, DuW, Q7W, put together. -/
import Derived.RangeFuncRecord
import Derived.RangeFuncSeq
import Derived.TacticsIn
import Derived.Test.YtaeooiogjhkjfaaMDevicePlaysa
/- walks (own work; the walks' lines by a program of this repo). -/
set_option linter.unusedVariables false
set_option linter.unusedSimpArgs false
set_option maxRecDepth 20000
namespace Go.Proofs.Ytaeooiogjhkjfaa
open Go.Sl
attribute [local irreducible] BodyQ WpC WpL WpS WpH OpW FnS


theorem rfall_s {w0 : World} {H : Hp} {pb : Nat} {gl : SlG} {off : Bool} {left : Int} {d e : Rv} {x y : Nat} (hd : d.ok) (he : e.ok) (hxy : Ord8 x y d.b e.b) : FnS Try.prog w0 92 #[ptr pb] (RH rt d e pb gl off left x y H) (fun E H' => E = .returned (.tuple #[]) ∧ H' = RH rt d.cut e.cut pb gl true left x y H) := by
  obtain ⟨b, st, g, a⟩ := d
  obtain ⟨b2, st2, g2, a2⟩ := e
  rcases hxy with ⟨rfl, rfl⟩ | ⟨rfl, rfl⟩
  · exact rfall_x hd he
  · refine ((rfall_x he hd).sub (hsub_pick [3, 3, 3] rfl)).weak ?_
    rintro _ _ ⟨rfl, rfl⟩
    exact ⟨_, hsub_pick [3, 3, 3] rfl, rfl, rfl⟩

theorem rstep_p {w0 : World} {H : Hp} {pb : Nat} {gl : SlG} {off : Bool} {p : Pa} (hf : p.fit) (hl : lf p ≤ 9223372036854775807) : FnS Try.prog w0 91 #[ptr pb] (rpo rt pb gl off (lf p) :: H) (fun e H' => e = .returned (.bool p.falls) ∧ H' = rpo rt pb gl off (lf p.step) :: H) := by
  refine (rstep_s (lf p) (lf_lo hf) hl).mono ?_
  rintro _ _ ⟨rfl, rfl⟩
  rw [lf_falls hf, (lf_step hf).1]
  exact ⟨rfl, rfl⟩

theorem rwrite_off {w0 : World} {H : Hp} {b st pb : Nat} {g : Option SlG} {a : Ab} {e : Rv} {gl : SlG} {p : Pa} {x y : Nat} (n : Int) (s : Sec) (hoff : p.off = true) : FnS Try.prog w0 67 #[ptr b, ptr pb, .int .i64 n, .agg (bs s).toArray] (RH rt (⟨b, st, g, a⟩ : Rv) e pb gl p.off (lf p) x y H) (fun E H' => E = .returned (.int .i64 13) ∧ H' = (RH rt (⟨b, st, g, a⟩ : Rv) e pb gl p.off (lf p) x y H)) := by
  refine FnS_intro (n := 48) (rs := [.tmp 8]) (vs := [ptr b, ptr pb, .int .i64 n, .agg (bs s).toArray]) Try.func67 rfl Try.ntmps67 rfl rfl ?_
  refine C_seq ?_
  refine C_region ?_
  refine L_op rfl (op_box rfl rfl rfl (fun B1 => ?_))
  refine L_y rfl (y_assign rfl) rfl ?_
  refine L_nil ?_
  refine C_seq ?_
  refine C_seq ?_
  refine C_region ?_
  refine L_y rfl (y_move rfl) rfl ?_
  refine L_y rfl (y_nilCheck rfl) rfl ?_
  refine L_y rfl (y_fieldAddr rfl fl_29_1) rfl ?_
  refine L_y rfl (y_load rfl ag_4 (sees 7 0 rfl) (congrArg (fun z => some (Value.bool z)) hoff)) rfl ?_
  refine L_y rfl (y_move rfl) rfl ?_
  refine L_skip rfl rfl ?_
  refine L_skip rfl rfl ?_
  refine L_skip rfl rfl ?_
  refine L_skip rfl rfl ?_
  refine L_y rfl (y_pick_t rfl rfl) rfl ?_
  refine L_nil ?_
  refine C_cond_t rfl ?_
  refine C_seq ?_
  refine C_region ?_
  refine L_y rfl (y_assign rfl) rfl ?_
  refine L_nil ?_
  refine C_ret ?_
  refine B_ret (rv_tmp rfl rv_nil) ((hsub (.cons_cons _ (.cons_cons _ (.cons_cons _ (.cons_cons _ (.cons_cons _ (.cons_cons _ (.cons_cons _ (.cons_cons _ (.cons _ (.refl _))))))))))).trans (hsub_pick [1, 1, 1, 1, 1, 1, 1, 1] rfl)) ?_
  exact ⟨rfl, rfl⟩

theorem rflush_off {w0 : World} {H : Hp} {b st pb : Nat} {g : Option SlG} {a : Ab} {e : Rv} {gl : SlG} {p : Pa} {x y : Nat} (hoff : p.off = true) : FnS Try.prog w0 68 #[ptr b, ptr pb] (RH rt (⟨b, st, g, a⟩ : Rv) e pb gl p.off (lf p) x y H) (fun E H' => E = .returned (.int .i64 13) ∧ H' = (RH rt (⟨b, st, g, a⟩ : Rv) e pb gl p.off (lf p) x y H)) := by
  refine FnS_intro (n := 57) (rs := [.tmp 4]) (vs := [ptr b, ptr pb]) Try.func68 rfl Try.ntmps68 rfl rfl ?_
  refine C_seq ?_
  refine C_region ?_
  refine L_y rfl (y_assign rfl) rfl ?_
  refine L_nil ?_
  refine C_seq ?_
  refine C_seq ?_
  refine C_region ?_
  refine L_y rfl (y_move rfl) rfl ?_
  refine L_y rfl (y_nilCheck rfl) rfl ?_
  refine L_y rfl (y_fieldAddr rfl fl_29_1) rfl ?_
  refine L_y rfl (y_load rfl ag_4 (sees 6 0 rfl) (congrArg (fun z => some (Value.bool z)) hoff)) rfl ?_
  refine L_y rfl (y_move rfl) rfl ?_
  refine L_skip rfl rfl ?_
  refine L_skip rfl rfl ?_
  refine L_skip rfl rfl ?_
  refine L_skip rfl rfl ?_
  refine L_y rfl (y_pick_t rfl rfl) rfl ?_
  refine L_nil ?_
  refine C_cond_t rfl ?_
  refine C_seq ?_
  refine C_region ?_
  refine L_y rfl (y_assign rfl) rfl ?_
  refine L_nil ?_
  refine C_ret ?_
  refine B_ret (rv_tmp rfl rv_nil) ((hsub (.cons_cons _ (.cons_cons _ (.cons_cons _ (.cons_cons _ (.cons_cons _ (.cons_cons _ (.cons_cons _ (.cons_cons _ (.refl _)))))))))).trans (hsub_pick [0, 0, 0, 0, 0, 0, 0, 0] rfl)) ?_
  exact ⟨rfl, rfl⟩

theorem rread_off {w0 : World} {H : Hp} {b st pb : Nat} {g : Option SlG} {a : Ab} {e : Rv} {gl : SlG} {p : Pa} {x y : Nat} (n : Int) (hoff : p.off = true) : FnS Try.prog w0 69 #[ptr b, ptr pb, .int .i64 n] (RH rt (⟨b, st, g, a⟩ : Rv) e pb gl p.off (lf p) x y H) (fun E H' => E = .returned (.tuple #[.agg (bs (secOf 0)).toArray, .int .i64 13]) ∧ H' = (RH rt (⟨b, st, g, a⟩ : Rv) e pb gl p.off (lf p) x y H)) := by
  refine FnS_intro (n := 34) (rs := [.cell 6 38, .tmp 7]) (vs := [ptr b, ptr pb, .int .i64 n]) Try.func69 rfl Try.ntmps69 rfl rfl ?_
  refine C_seq ?_
  refine C_region ?_
  refine L_op rfl (op_alloc zl_38 rfl (fun B1 => ?_))
  refine L_y rfl (y_assign rfl) rfl ?_
  refine L_nil ?_
  refine C_seq ?_
  refine C_seq ?_
  refine C_region ?_
  refine L_y rfl (y_move rfl) rfl ?_
  refine L_y rfl (y_nilCheck rfl) rfl ?_
  refine L_y rfl (y_fieldAddr rfl fl_29_1) rfl ?_
  refine L_y rfl (y_load rfl ag_4 (sees 7 0 rfl) (congrArg (fun z => some (Value.bool z)) hoff)) rfl ?_
  refine L_y rfl (y_move rfl) rfl ?_
  refine L_skip rfl rfl ?_
  refine L_skip rfl rfl ?_
  refine L_skip rfl rfl ?_
  refine L_skip rfl rfl ?_
  refine L_y rfl (y_pick_t rfl rfl) rfl ?_
  refine L_nil ?_
  refine C_cond_t rfl ?_
  refine C_seq ?_
  refine C_region ?_
  refine L_y rfl (y_buildA0 Try.underlying38 sz_5 zl_38) rfl ?_
  refine L_op rfl (op_store 0 0 rfl rfl rfl sz_38 rfl rfl (ones rfl) (by decide) ?_)
  skip
  refine L_y rfl (y_assign rfl) rfl ?_
  refine L_nil ?_
  refine C_ret ?_
  refine B_ret (rv_cellA rfl ag_38 sz_38 (sees 0 0 rfl) (Nat.le_of_ble_eq_true rfl) rfl (rv_tmp rfl rv_nil)) ((hsub (.cons_cons _ (.cons_cons _ (.cons_cons _ (.cons_cons _ (.cons_cons _ (.cons_cons _ (.cons_cons _ (.cons_cons _ (.cons _ (.refl _))))))))))).trans (hsub_pick [1, 1, 1, 1, 1, 1, 1, 1] rfl)) ?_
  exact ⟨by rw [← zsec]; rfl, rfl⟩

theorem rwrite_gone {w0 : World} {H : Hp} {b st pb : Nat} {g : Option SlG} {a : Ab} {e : Rv} {gl : SlG} {p : Pa} {x y : Nat} (n : Int) (s : Sec) (hoff : p.off = false) (ho : a.out = true) : FnS Try.prog w0 67 #[ptr b, ptr pb, .int .i64 n, .agg (bs s).toArray] (RH rt (⟨b, st, g, a⟩ : Rv) e pb gl p.off (lf p) x y H) (fun E H' => E = .returned (.int .i64 13) ∧ H' = (RH rt (⟨b, st, g, a⟩ : Rv) e pb gl p.off (lf p) x y H)) := by
  refine FnS_intro (n := 48) (rs := [.tmp 8]) (vs := [ptr b, ptr pb, .int .i64 n, .agg (bs s).toArray]) Try.func67 rfl Try.ntmps67 rfl rfl ?_
  refine C_seq ?_
  refine C_region ?_
  refine L_op rfl (op_box rfl rfl rfl (fun B1 => ?_))
  refine L_y rfl (y_assign rfl) rfl ?_
  refine L_nil ?_
  refine C_seq ?_
  refine C_seq ?_
  refine C_region ?_
  refine L_y rfl (y_move rfl) rfl ?_
  refine L_y rfl (y_nilCheck rfl) rfl ?_
  refine L_y rfl (y_fieldAddr rfl fl_29_1) rfl ?_
  refine L_y rfl (y_load rfl ag_4 (sees 7 0 rfl) (congrArg (fun z => some (Value.bool z)) hoff)) rfl ?_
  refine L_y rfl (y_move rfl) rfl ?_
  refine L_y rfl (y_move rfl) rfl ?_
  refine L_y rfl (y_nilCheck rfl) rfl ?_
  refine L_y rfl (y_fieldAddr rfl fl_46_5) rfl ?_
  refine L_y rfl (y_load rfl ag_4 (sees 1 0 rfl) (congrArg (fun z => some (Value.bool z)) ho)) rfl ?_
  refine L_y rfl (y_pick_f rfl rfl) rfl ?_
  refine L_nil ?_
  refine C_cond_t rfl ?_
  refine C_seq ?_
  refine C_region ?_
  refine L_y rfl (y_assign rfl) rfl ?_
  refine L_nil ?_
  refine C_ret ?_
  refine B_ret (rv_tmp rfl rv_nil) ((hsub (.cons_cons _ (.cons_cons _ (.cons_cons _ (.cons_cons _ (.cons_cons _ (.cons_cons _ (.cons_cons _ (.cons_cons _ (.cons _ (.refl _))))))))))).trans (hsub_pick [1, 1, 1, 1, 1, 1, 1, 1] rfl)) ?_
  exact ⟨rfl, rfl⟩

theorem rflush_gone {w0 : World} {H : Hp} {b st pb : Nat} {g : Option SlG} {a : Ab} {e : Rv} {gl : SlG} {p : Pa} {x y : Nat} (hoff : p.off = false) (ho : a.out = true) : FnS Try.prog w0 68 #[ptr b, ptr pb] (RH rt (⟨b, st, g, a⟩ : Rv) e pb gl p.off (lf p) x y H) (fun E H' => E = .returned (.int .i64 13) ∧ H' = (RH rt (⟨b, st, g, a⟩ : Rv) e pb gl p.off (lf p) x y H)) := by
  refine FnS_intro (n := 57) (rs := [.tmp 4]) (vs := [ptr b, ptr pb]) Try.func68 rfl Try.ntmps68 rfl rfl ?_
  refine C_seq ?_
  refine C_region ?_
  refine L_y rfl (y_assign rfl) rfl ?_
  refine L_nil ?_
  refine C_seq ?_
  refine C_seq ?_
  refine C_region ?_
  refine L_y rfl (y_move rfl) rfl ?_
  refine L_y rfl (y_nilCheck rfl) rfl ?_
  refine L_y rfl (y_fieldAddr rfl fl_29_1) rfl ?_
  refine L_y rfl (y_load rfl ag_4 (sees 6 0 rfl) (congrArg (fun z => some (Value.bool z)) hoff)) rfl ?_
  refine L_y rfl (y_move rfl) rfl ?_
  refine L_y rfl (y_move rfl) rfl ?_
  refine L_y rfl (y_nilCheck rfl) rfl ?_
  refine L_y rfl (y_fieldAddr rfl fl_46_5) rfl ?_
  refine L_y rfl (y_load rfl ag_4 (sees 0 0 rfl) (congrArg (fun z => some (Value.bool z)) ho)) rfl ?_
  refine L_y rfl (y_pick_f rfl rfl) rfl ?_
  refine L_nil ?_
  refine C_cond_t rfl ?_
  refine C_seq ?_
  refine C_region ?_
  refine L_y rfl (y_assign rfl) rfl ?_
  refine L_nil ?_
  refine C_ret ?_
  refine B_ret (rv_tmp rfl rv_nil) ((hsub (.cons_cons _ (.cons_cons _ (.cons_cons _ (.cons_cons _ (.cons_cons _ (.cons_cons _ (.cons_cons _ (.cons_cons _ (.refl _)))))))))).trans (hsub_pick [0, 0, 0, 0, 0, 0, 0, 0] rfl)) ?_
  exact ⟨rfl, rfl⟩

theorem rread_gone {w0 : World} {H : Hp} {b st pb : Nat} {g : Option SlG} {a : Ab} {e : Rv} {gl : SlG} {p : Pa} {x y : Nat} (n : Int) (hoff : p.off = false) (ho : a.out = true) : FnS Try.prog w0 69 #[ptr b, ptr pb, .int .i64 n] (RH rt (⟨b, st, g, a⟩ : Rv) e pb gl p.off (lf p) x y H) (fun E H' => E = .returned (.tuple #[.agg (bs (secOf 0)).toArray, .int .i64 13]) ∧ H' = (RH rt (⟨b, st, g, a⟩ : Rv) e pb gl p.off (lf p) x y H)) := by
  refine FnS_intro (n := 34) (rs := [.cell 6 38, .tmp 7]) (vs := [ptr b, ptr pb, .int .i64 n]) Try.func69 rfl Try.ntmps69 rfl rfl ?_
  refine C_seq ?_
  refine C_region ?_
  refine L_op rfl (op_alloc zl_38 rfl (fun B1 => ?_))
  refine L_y rfl (y_assign rfl) rfl ?_
  refine L_nil ?_
  refine C_seq ?_
  refine C_seq ?_
  refine C_region ?_
  refine L_y rfl (y_move rfl) rfl ?_
  refine L_y rfl (y_nilCheck rfl) rfl ?_
  refine L_y rfl (y_fieldAddr rfl fl_29_1) rfl ?_
  refine L_y rfl (y_load rfl ag_4 (sees 7 0 rfl) (congrArg (fun z => some (Value.bool z)) hoff)) rfl ?_
  refine L_y rfl (y_move rfl) rfl ?_
  refine L_y rfl (y_move rfl) rfl ?_
  refine L_y rfl (y_nilCheck rfl) rfl ?_
  refine L_y rfl (y_fieldAddr rfl fl_46_5) rfl ?_
  refine L_y rfl (y_load rfl ag_4 (sees 1 0 rfl) (congrArg (fun z => some (Value.bool z)) ho)) rfl ?_
  refine L_y rfl (y_pick_f rfl rfl) rfl ?_
  refine L_nil ?_
  refine C_cond_t rfl ?_
  refine C_seq ?_
  refine C_region ?_
  refine L_y rfl (y_buildA0 Try.underlying38 sz_5 zl_38) rfl ?_
  refine L_op rfl (op_store 0 0 rfl rfl rfl sz_38 rfl rfl (ones rfl) (by decide) ?_)
  skip
  refine L_y rfl (y_assign rfl) rfl ?_
  refine L_nil ?_
  refine C_ret ?_
  refine B_ret (rv_cellA rfl ag_38 sz_38 (sees 0 0 rfl) (Nat.le_of_ble_eq_true rfl) rfl (rv_tmp rfl rv_nil)) ((hsub (.cons_cons _ (.cons_cons _ (.cons_cons _ (.cons_cons _ (.cons_cons _ (.cons_cons _ (.cons_cons _ (.cons_cons _ (.cons _ (.refl _))))))))))).trans (hsub_pick [1, 1, 1, 1, 1, 1, 1, 1] rfl)) ?_
  exact ⟨by rw [← zsec]; rfl, rfl⟩

theorem rwrite_far {w0 : World} {H : Hp} {b st pb : Nat} {g : Option SlG} {a : Ab} {e : Rv} {gl : SlG} {p : Pa} {x y : Nat} (n : Int) (s : Sec) (hoff : p.off = false) (ho : a.out = false) (hn : ¬ (0 ≤ n ∧ n < a.S.length)) : FnS Try.prog w0 67 #[ptr b, ptr pb, .int .i64 n, .agg (bs s).toArray] (RH rt (⟨b, st, g, a⟩ : Rv) e pb gl p.off (lf p) x y H) (fun E H' => E = .returned (.int .i64 2) ∧ H' = (RH rt (⟨b, st, g, a⟩ : Rv) e pb gl p.off (lf p) x y H)) := by
  refine FnS_intro (n := 48) (rs := [.tmp 8]) (vs := [ptr b, ptr pb, .int .i64 n, .agg (bs s).toArray]) Try.func67 rfl Try.ntmps67 rfl rfl ?_
  refine C_seq ?_
  refine C_region ?_
  refine L_op rfl (op_box rfl rfl rfl (fun B1 => ?_))
  refine L_y rfl (y_assign rfl) rfl ?_
  refine L_nil ?_
  refine C_seq ?_
  refine C_seq ?_
  refine C_region ?_
  refine L_y rfl (y_move rfl) rfl ?_
  refine L_y rfl (y_nilCheck rfl) rfl ?_
  refine L_y rfl (y_fieldAddr rfl fl_29_1) rfl ?_
  refine L_y rfl (y_load rfl ag_4 (sees 7 0 rfl) (congrArg (fun z => some (Value.bool z)) hoff)) rfl ?_
  refine L_y rfl (y_move rfl) rfl ?_
  refine L_y rfl (y_move rfl) rfl ?_
  refine L_y rfl (y_nilCheck rfl) rfl ?_
  refine L_y rfl (y_fieldAddr rfl fl_46_5) rfl ?_
  refine L_y rfl (y_load rfl ag_4 (sees 1 0 rfl) (congrArg (fun z => some (Value.bool z)) ho)) rfl ?_
  refine L_y rfl (y_pick_f rfl rfl) rfl ?_
  refine L_nil ?_
  refine C_cond_f rfl ?_
  refine C_skip ?_
  refine C_seq ?_
  refine C_seq ?_
  refine C_region ?_
  refine L_y rfl (y_move rfl) rfl ?_
  refine L_y rfl (y_lss rfl rfl) rfl ?_
  refine L_y rfl (y_move rfl) rfl ?_
  refine L_case 21 rfl (fun hg3_3 => ?_) (fun hg3_3 => ?_)
  · skip
    refine L_skip rfl rfl ?_
    refine L_skip rfl rfl ?_
    refine L_skip rfl rfl ?_
    refine L_skip rfl rfl ?_
    refine L_skip rfl rfl ?_
    refine L_skip rfl rfl ?_
    refine L_skip rfl rfl ?_
    refine L_y rfl (y_pick_t rfl rfl) rfl ?_
    refine L_nil ?_
    refine C_cond_t rfl ?_
    refine C_seq ?_
    refine C_region ?_
    refine L_y rfl (y_assign rfl) rfl ?_
    refine L_nil ?_
    refine C_ret ?_
    refine B_ret (rv_tmp rfl rv_nil) ((hsub (.cons_cons _ (.cons_cons _ (.cons_cons _ (.cons_cons _ (.cons_cons _ (.cons_cons _ (.cons_cons _ (.cons_cons _ (.cons _ (.refl _))))))))))).trans (hsub_pick [1, 1, 1, 1, 1, 1, 1, 1] rfl)) ?_
    exact ⟨rfl, rfl⟩
  · skip
    refine L_y rfl (y_move rfl) rfl ?_
    refine L_y rfl (y_move rfl) rfl ?_
    refine L_y rfl (y_nilCheck rfl) rfl ?_
    refine L_y rfl (y_fieldAddr rfl fl_46_0) rfl ?_
    refine L_y rfl (y_load rfl ag_43 (sees 1 0 rfl) rfl) rfl ?_
    refine L_y rfl (y_lenS rfl rfl Try.underlying43) rfl ?_
    refine L_y rfl (y_geq rfl rfl) rfl ?_
    refine L_y rfl (y_pick_f rfl rfl) rfl ?_
    refine L_nil ?_
    refine C_cond rfl (fun hc1 => ?_) (fun hc1 => absurd hc1 (by first | exact hg3_3 | (have := of_decide_eq_false hg3_3; simp; omega)))
    refine C_seq ?_
    refine C_region ?_
    refine L_y rfl (y_assign rfl) rfl ?_
    refine L_nil ?_
    refine C_ret ?_
    refine B_ret (rv_tmp rfl rv_nil) ((hsub (.cons_cons _ (.cons_cons _ (.cons_cons _ (.cons_cons _ (.cons_cons _ (.cons_cons _ (.cons_cons _ (.cons_cons _ (.cons _ (.refl _))))))))))).trans (hsub_pick [1, 1, 1, 1, 1, 1, 1, 1] rfl)) ?_
    exact ⟨rfl, rfl⟩

theorem rread_far {w0 : World} {H : Hp} {b st pb : Nat} {g : Option SlG} {a : Ab} {e : Rv} {gl : SlG} {p : Pa} {x y : Nat} (n : Int) (hoff : p.off = false) (ho : a.out = false) (hn : ¬ (0 ≤ n ∧ n < a.S.length)) : FnS Try.prog w0 69 #[ptr b, ptr pb, .int .i64 n] (RH rt (⟨b, st, g, a⟩ : Rv) e pb gl p.off (lf p) x y H) (fun E H' => E = .returned (.tuple #[.agg (bs (secOf 0)).toArray, .int .i64 2]) ∧ H' = (RH rt (⟨b, st, g, a⟩ : Rv) e pb gl p.off (lf p) x y H)) := by
  refine FnS_intro (n := 34) (rs := [.cell 6 38, .tmp 7]) (vs := [ptr b, ptr pb, .int .i64 n]) Try.func69 rfl Try.ntmps69 rfl rfl ?_
  refine C_seq ?_
  refine C_region ?_
  refine L_op rfl (op_alloc zl_38 rfl (fun B1 => ?_))
  refine L_y rfl (y_assign rfl) rfl ?_
  refine L_nil ?_
  refine C_seq ?_
  refine C_seq ?_
  refine C_region ?_
  refine L_y rfl (y_move rfl) rfl ?_
  refine L_y rfl (y_nilCheck rfl) rfl ?_
  refine L_y rfl (y_fieldAddr rfl fl_29_1) rfl ?_
  refine L_y rfl (y_load rfl ag_4 (sees 7 0 rfl) (congrArg (fun z => some (Value.bool z)) hoff)) rfl ?_
  refine L_y rfl (y_move rfl) rfl ?_
  refine L_y rfl (y_move rfl) rfl ?_
  refine L_y rfl (y_nilCheck rfl) rfl ?_
  refine L_y rfl (y_fieldAddr rfl fl_46_5) rfl ?_
  refine L_y rfl (y_load rfl ag_4 (sees 1 0 rfl) (congrArg (fun z => some (Value.bool z)) ho)) rfl ?_
  refine L_y rfl (y_pick_f rfl rfl) rfl ?_
  refine L_nil ?_
  refine C_cond_f rfl ?_
  refine C_skip ?_
  refine C_seq ?_
  refine C_seq ?_
  refine C_region ?_
  refine L_y rfl (y_move rfl) rfl ?_
  refine L_y rfl (y_lss rfl rfl) rfl ?_
  refine L_y rfl (y_move rfl) rfl ?_
  refine L_case 21 rfl (fun hg3_3 => ?_) (fun hg3_3 => ?_)
  · skip
    refine L_skip rfl rfl ?_
    refine L_skip rfl rfl ?_
    refine L_skip rfl rfl ?_
    refine L_skip rfl rfl ?_
    refine L_skip rfl rfl ?_
    refine L_skip rfl rfl ?_
    refine L_skip rfl rfl ?_
    refine L_y rfl (y_pick_t rfl rfl) rfl ?_
    refine L_nil ?_
    refine C_cond_t rfl ?_
    refine C_seq ?_
    refine C_region ?_
    refine L_y rfl (y_buildA0 Try.underlying38 sz_5 zl_38) rfl ?_
    refine L_op rfl (op_store 0 0 rfl rfl rfl sz_38 rfl rfl (ones rfl) (by decide) ?_)
    skip
    refine L_y rfl (y_assign rfl) rfl ?_
    refine L_nil ?_
    refine C_ret ?_
    refine B_ret (rv_cellA rfl ag_38 sz_38 (sees 0 0 rfl) (Nat.le_of_ble_eq_true rfl) rfl (rv_tmp rfl rv_nil)) ((hsub (.cons_cons _ (.cons_cons _ (.cons_cons _ (.cons_cons _ (.cons_cons _ (.cons_cons _ (.cons_cons _ (.cons_cons _ (.cons _ (.refl _))))))))))).trans (hsub_pick [1, 1, 1, 1, 1, 1, 1, 1] rfl)) ?_
    exact ⟨by rw [← zsec]; rfl, rfl⟩
  · skip
    refine L_y rfl (y_move rfl) rfl ?_
    refine L_y rfl (y_move rfl) rfl ?_
    refine L_y rfl (y_nilCheck rfl) rfl ?_
    refine L_y rfl (y_fieldAddr rfl fl_46_0) rfl ?_
    refine L_y rfl (y_load rfl ag_43 (sees 1 0 rfl) rfl) rfl ?_
    refine L_y rfl (y_lenS rfl rfl Try.underlying43) rfl ?_
    refine L_y rfl (y_geq rfl rfl) rfl ?_
    refine L_y rfl (y_pick_f rfl rfl) rfl ?_
    refine L_nil ?_
    refine C_cond rfl (fun hc1 => ?_) (fun hc1 => absurd hc1 (by first | exact hg3_3 | (have := of_decide_eq_false hg3_3; simp; omega)))
    refine C_seq ?_
    refine C_region ?_
    refine L_y rfl (y_buildA0 Try.underlying38 sz_5 zl_38) rfl ?_
    refine L_op rfl (op_store 0 0 rfl rfl rfl sz_38 rfl rfl (ones rfl) (by decide) ?_)
    skip
    refine L_y rfl (y_assign rfl) rfl ?_
    refine L_nil ?_
    refine C_ret ?_
    refine B_ret (rv_cellA rfl ag_38 sz_38 (sees 0 0 rfl) (Nat.le_of_ble_eq_true rfl) rfl (rv_tmp rfl rv_nil)) ((hsub (.cons_cons _ (.cons_cons _ (.cons_cons _ (.cons_cons _ (.cons_cons _ (.cons_cons _ (.cons_cons _ (.cons_cons _ (.cons _ (.refl _))))))))))).trans (hsub_pick [1, 1, 1, 1, 1, 1, 1, 1] rfl)) ?_
    exact ⟨by rw [← zsec]; rfl, rfl⟩

theorem rwrite_go {w0 : World} {H : Hp} {b st pb : Nat} {g : Option SlG} {a : Ab} {e : Rv} {gl : SlG} {p : Pa} {x y : Nat} (hd : Rv.ok ⟨b, st, g, a⟩) (he : e.ok) (hxy : Ord8 x y b e.b) (hf : p.fit) (hl : lf p ≤ 9223372036854775807) (n : Nat) (s : Sec) (hn : n < a.S.length) (hs : s.length = 128) (hQ : a.Q.length < 100000) (hoff : p.off = false) (ho : a.out = false) : FnS Try.prog w0 67 #[ptr b, ptr pb, .int .i64 (n : Int), .agg (bs s).toArray] (RH rt (⟨b, st, g, a⟩ : Rv) e pb gl p.off (lf p) x y H) (fun E H' => ∃ g2, Rv.ok (⟨b, st, g2, a.push n s⟩ : Rv) ∧ E = .returned (.int .i64 (if p.falls then 13 else 0)) ∧ H' = if p.falls then RH rt (Rv.cut (⟨b, st, g2, a.push n s⟩ : Rv)) e.cut pb gl true (lf p.step) x y H else RH rt (⟨b, st, g2, a.push n s⟩ : Rv) e pb gl p.off (lf p.step) x y H) := by
  obtain ⟨hok, hq, hQl⟩ := id hd
  simp only at hok hq hQl
  have hfl := flat_len hok.1
  have hQ128 : ∀ x ∈ a.Q, x.2.length = 128 := fun x hx => (hok.2.2.1 x hx).2
  refine FnS_intro (n := 48) (rs := [.tmp 8]) (vs := [ptr b, ptr pb, .int .i64 (n : Int), .agg (bs s).toArray]) Try.func67 rfl Try.ntmps67 rfl rfl ?_
  refine C_seq ?_
  refine C_region ?_
  refine L_op rfl (op_box rfl rfl rfl (fun B1 => ?_))
  refine L_y rfl (y_assign rfl) rfl ?_
  refine L_nil ?_
  refine C_seq ?_
  refine C_seq ?_
  refine C_region ?_
  refine L_y rfl (y_move rfl) rfl ?_
  refine L_y rfl (y_nilCheck rfl) rfl ?_
  refine L_y rfl (y_fieldAddr rfl fl_29_1) rfl ?_
  refine L_y rfl (y_load rfl ag_4 (sees 7 0 rfl) (congrArg (fun z => some (Value.bool z)) hoff)) rfl ?_
  refine L_y rfl (y_move rfl) rfl ?_
  refine L_y rfl (y_move rfl) rfl ?_
  refine L_y rfl (y_nilCheck rfl) rfl ?_
  refine L_y rfl (y_fieldAddr rfl fl_46_5) rfl ?_
  refine L_y rfl (y_load rfl ag_4 (sees 1 0 rfl) (congrArg (fun z => some (Value.bool z)) ho)) rfl ?_
  refine L_y rfl (y_pick_f rfl rfl) rfl ?_
  refine L_nil ?_
  refine C_cond_f rfl ?_
  refine C_skip ?_
  refine C_seq ?_
  refine C_seq ?_
  refine C_region ?_
  refine L_y rfl (y_move rfl) rfl ?_
  refine L_y rfl (y_lss rfl rfl) rfl ?_
  refine L_y rfl (y_move rfl) rfl ?_
  refine L_case 21 rfl (fun hg3_3 => ?_) (fun hg3_3 => ?_)
  · exact absurd (of_decide_eq_true hg3_3) (by omega)
  · skip
    refine L_y rfl (y_move rfl) rfl ?_
    refine L_y rfl (y_move rfl) rfl ?_
    refine L_y rfl (y_nilCheck rfl) rfl ?_
    refine L_y rfl (y_fieldAddr rfl fl_46_0) rfl ?_
    refine L_y rfl (y_load rfl ag_43 (sees 1 0 rfl) rfl) rfl ?_
    refine L_y rfl (y_lenS rfl rfl Try.underlying43) rfl ?_
    refine L_y rfl (y_geq rfl rfl) rfl ?_
    refine L_y rfl (y_pick_f rfl rfl) rfl ?_
    refine L_nil ?_
    refine C_cond rfl (fun hc1 => absurd hc1 (by simp <;> omega)) (fun hc1 => ?_)
    refine C_skip ?_
    refine C_cutG (ι := Option SlG) (fun g2 => slOk 129 g2 (a.push n s).Q.length (wcs (a.push n s).Q)) (fun _ => [(0, ptr b), (1, ptr pb)]) (fun g2 => RH rt (⟨b, st, g2, a.push n s⟩ : Rv) e pb gl p.off (lf p) x y H) ?_ (fun g2 hg2 => ?_)
    · refine C_regionH ([(B1, .cells (bs s).toArray 38)] :: H) (by kernel_rfl) ?_
      refine H_y 0 rfl (by kernel_rfl) (by kernel_rfl) (by kernel_rfl) (hsub (.cons_cons _ (.cons _ (.cons _ (.cons _ (.cons _ (.cons _ (.cons _ (.cons _ (.cons _ (.refl _))))))))))) rfl (y_move rfl) rfl ?_
      refine H_y 2 rfl (by kernel_rfl) (by kernel_rfl) (by kernel_rfl) (hsub (.cons_cons _ (.cons _ (.cons _ (.cons _ (.cons _ (.cons _ (.cons _ (.cons _ (.cons _ (.refl _))))))))))) rfl (y_move rfl) rfl ?_
      refine H_y 3 rfl (by kernel_rfl) (by kernel_rfl) (by kernel_rfl) (hsub (.cons_cons _ (.cons _ (.cons _ (.cons _ (.cons _ (.cons _ (.cons _ (.cons _ (.cons _ (.refl _))))))))))) rfl (y_nilCheck rfl) rfl ?_
      refine H_y 4 rfl (by kernel_rfl) (by kernel_rfl) (by kernel_rfl) (hsub (.cons_cons _ (.cons _ (.cons _ (.cons _ (.cons _ (.cons _ (.cons _ (.cons _ (.cons _ (.refl _))))))))))) rfl (y_fieldAddr rfl fl_46_1) rfl ?_
      refine H_y 7 rfl (by kernel_rfl) (by kernel_rfl) (by kernel_rfl) (hsub (.cons_cons _ (.cons _ (.cons _ (.cons _ (.cons _ (.cons _ (.cons _ (.cons _ (.cons _ (.refl _))))))))))) rfl (y_move rfl) rfl ?_
      refine H_y 8 rfl (by kernel_rfl) (by kernel_rfl) (by kernel_rfl) (hsub (.cons_cons _ (.cons _ (.cons _ (.cons _ (.cons _ (.cons _ (.cons _ (.cons _ (.cons _ (.refl _))))))))))) rfl (y_loadA rfl ag_38 sz_38 (sees 0 0 rfl) (by rw [bs_length, hs]; decide) (bs_whole0 s hs)) rfl ?_
      refine H_y 9 rfl (by kernel_rfl) (by kernel_rfl) (by kernel_rfl) (hsub (.cons_cons _ (.cons _ (.cons _ (.cons _ (.cons _ (.cons _ (.cons _ (.cons _ (.cons _ (.refl _))))))))))) rfl (y_build (vs := [(0, .int .i64 (n : Int)), (1, .agg (bs s).toArray)]) rfl pl_148 zl_148 (fill_wr hs)) rfl ?_
      refine H_many [1, 5, 10] (by kernel_rfl) (by decide) ⟨⟨_, rfl, rfl, ?_⟩, ⟨_, rfl, rfl, ?_⟩, ⟨_, rfl, rfl, ?_⟩, trivial⟩
      · refine op_buildSlice (vs := []) rfl Try.underlying44 sz_148 zl_148 rfl (by decide) rfl rfl (fun B2 => ?_)
        refine ⟨hsub (.cons _ (.cons_cons _ (.cons _ (.cons _ (.cons _ (.cons _ (.cons _ (.cons _ (.cons _ (.cons _ (.refl _))))))))))), ?_⟩
        refine H_two 5 10 rfl rfl (by kernel_rfl) rfl rfl ?_ ?_
        · refine op_y (y_load rfl ag_44 (sees 2 0 rfl) rfl) rfl ?_
          refine ⟨hsub (.cons _ (.cons_cons _ (.cons _ (.cons _ (.cons _ (.cons _ (.cons _ (.cons _ (.cons _ (.cons _ (.refl _))))))))))), ?_⟩
          refine H_two 6 10 rfl rfl (by kernel_rfl) rfl rfl ?_ ?_
          · refine op_append (gs := some ⟨B2, 0, []⟩) (len := 0) (m := a.Q.length) (xs := []) (vs := wcs a.Q) 0 rfl rfl rfl ⟨rfl, rfl, Nat.le_refl _⟩ (src_sl (s := 4) rfl hq) (wcs_len hQ128) (wcs_ones _) Try.underlying44 ni_44 sz_148 by_148 (by decide) zl_148 rfl (by omega) rfl (fun g1 hg1 => ?_)
            rw [Nat.zero_add a.Q.length, List.nil_append] at hg1 ⊢
            refine ⟨hsub (.cons _ (.cons_cons _ (.cons _ (.cons _ (.cons _ (.cons _ (.cons _ (.cons _ (.cons _ (.cons _ (.refl _))))))))))), ?_⟩
            refine H_one 10 rfl (by kernel_rfl) rfl (op_buildSlice (vs := [(0, .agg (.int .i64 (n : Int) :: bs s).toArray)]) rfl Try.underlying44 sz_148 zl_148 rfl (by decide) (fill_one rfl (by simp [bs_length, hs]) rfl) rfl (fun B3 => ?_))
            refine ⟨hsub (.cons _ (.cons _ (.cons_cons _ (.cons _ (.cons _ (.cons _ (.cons _ (.cons _ (.cons _ (.cons _ (.cons _ (.refl _)))))))))))), ?_⟩
            refine H_one 11 rfl (by kernel_rfl) rfl (op_append (gs := g1) (len := a.Q.length) (m := 1) (xs := wcs a.Q) (vs := .int .i64 (n : Int) :: bs s) 1 rfl rfl rfl hg1 (src_slice (sees 0 0 rfl) (by simp [bs_length, hs]) (by rw [List.drop_zero, List.take_of_length_le (by simp [bs_length, hs])])) (by simp [bs_length, hs]) (one_wr n s) Try.underlying44 ni_44 sz_148 by_148 (by decide) zl_148 rfl (by omega) rfl (fun g2 hg2 => ?_))
            rw [← wcs_one, ← wcs_append, show a.Q.length + 1 = (a.Q ++ [(n, s)]).length from by simp] at hg2 ⊢
            refine ⟨hsub (.cons _ (.cons _ (.cons_cons _ (.cons _ (.cons _ (.cons _ (.cons _ (.cons _ (.cons _ (.cons _ (.cons _ (.refl _)))))))))))), ?_⟩
            refine H_y 12 rfl (by kernel_rfl) (by kernel_rfl) (by kernel_rfl) (hsub (.cons _ (.cons _ (.cons_cons _ (.cons _ (.cons _ (.cons _ (.cons _ (.cons _ (.cons _ (.cons _ (.cons _ (.refl _))))))))))))) rfl (y_nilCheck rfl) rfl ?_
            refine H_y 13 rfl (by kernel_rfl) (by kernel_rfl) (by kernel_rfl) (hsub (.cons _ (.cons _ (.cons_cons _ (.cons _ (.cons _ (.cons _ (.cons _ (.cons _ (.cons _ (.cons _ (.cons _ (.refl _))))))))))))) rfl (y_fieldAddr rfl fl_46_1) rfl ?_
            refine H_one 14 rfl (by kernel_rfl) rfl (op_store1 3 0 rfl rfl (one_slV _ _) sz_44 rfl (Nat.le_of_ble_eq_true rfl) ?_)
            refine ⟨hsub (.cons _ (.cons _ (.cons_cons _ (.cons _ (.cons _ (.cons _ (.cons _ (.cons _ (.cons _ (.cons _ (.cons _ (.refl _)))))))))))), ?_⟩
            refine H_done (by kernel_rfl) ?_
            exact ⟨g2, hg2, ⟨rfl, rfl, trivial⟩, ((hsub (.cons_cons _ (.cons_cons _ (.cons_cons _ (.cons_cons _ (.cons_cons _ (.cons_cons _ (.cons_cons _ (.cons_cons _ (.cons _ (.cons _ (.cons _ (.refl _))))))))))))).trans (hsub_pick [3, 3, 1, 3, 3, 3, 3, 3] rfl))⟩
          · refine op_buildSlice (vs := [(0, .agg (.int .i64 (n : Int) :: bs s).toArray)]) rfl Try.underlying44 sz_148 zl_148 rfl (by decide) (fill_one rfl (by simp [bs_length, hs]) rfl) rfl (fun B4 => ?_)
            refine ⟨hsub (.cons _ (.cons _ (.cons_cons _ (.cons _ (.cons _ (.cons _ (.cons _ (.cons _ (.cons _ (.cons _ (.cons _ (.refl _)))))))))))), ?_⟩
            refine H_one 6 rfl (by kernel_rfl) rfl (op_append (gs := some ⟨B2, 0, []⟩) (len := 0) (m := a.Q.length) (xs := []) (vs := wcs a.Q) 1 rfl rfl rfl ⟨rfl, rfl, Nat.le_refl _⟩ (src_sl (s := 5) rfl hq) (wcs_len hQ128) (wcs_ones _) Try.underlying44 ni_44 sz_148 by_148 (by decide) zl_148 rfl (by omega) rfl (fun g1 hg1 => ?_))
            rw [Nat.zero_add a.Q.length, List.nil_append] at hg1 ⊢
            refine ⟨hsub (.cons _ (.cons _ (.cons_cons _ (.cons _ (.cons _ (.cons _ (.cons _ (.cons _ (.cons _ (.cons _ (.cons _ (.refl _)))))))))))), ?_⟩
            refine H_one 11 rfl (by kernel_rfl) rfl (op_append (gs := g1) (len := a.Q.length) (m := 1) (xs := wcs a.Q) (vs := .int .i64 (n : Int) :: bs s) 1 rfl rfl rfl hg1 (src_slice (sees 0 0 rfl) (by simp [bs_length, hs]) (by rw [List.drop_zero, List.take_of_length_le (by simp [bs_length, hs])])) (by simp [bs_length, hs]) (one_wr n s) Try.underlying44 ni_44 sz_148 by_148 (by decide) zl_148 rfl (by omega) rfl (fun g2 hg2 => ?_))
            rw [← wcs_one, ← wcs_append, show a.Q.length + 1 = (a.Q ++ [(n, s)]).length from by simp] at hg2 ⊢
            refine ⟨hsub (.cons _ (.cons _ (.cons_cons _ (.cons _ (.cons _ (.cons _ (.cons _ (.cons _ (.cons _ (.cons _ (.cons _ (.refl _)))))))))))), ?_⟩
            refine H_y 12 rfl (by kernel_rfl) (by kernel_rfl) (by kernel_rfl) (hsub (.cons _ (.cons _ (.cons_cons _ (.cons _ (.cons _ (.cons _ (.cons _ (.cons _ (.cons _ (.cons _ (.cons _ (.refl _))))))))))))) rfl (y_nilCheck rfl) rfl ?_
            refine H_y 13 rfl (by kernel_rfl) (by kernel_rfl) (by kernel_rfl) (hsub (.cons _ (.cons _ (.cons_cons _ (.cons _ (.cons _ (.cons _ (.cons _ (.cons _ (.cons _ (.cons _ (.cons _ (.refl _))))))))))))) rfl (y_fieldAddr rfl fl_46_1) rfl ?_
            refine H_one 14 rfl (by kernel_rfl) rfl (op_store1 3 0 rfl rfl (one_slV _ _) sz_44 rfl (Nat.le_of_ble_eq_true rfl) ?_)
            refine ⟨hsub (.cons _ (.cons _ (.cons_cons _ (.cons _ (.cons _ (.cons _ (.cons _ (.cons _ (.cons _ (.cons _ (.cons _ (.refl _)))))))))))), ?_⟩
            refine H_done (by kernel_rfl) ?_
            exact ⟨g2, hg2, ⟨rfl, rfl, trivial⟩, ((hsub (.cons_cons _ (.cons_cons _ (.cons_cons _ (.cons_cons _ (.cons_cons _ (.cons_cons _ (.cons_cons _ (.cons_cons _ (.cons _ (.cons _ (.cons _ (.refl _))))))))))))).trans (hsub_pick [3, 3, 1, 3, 3, 3, 3, 3] rfl))⟩
        · refine op_buildSlice (vs := [(0, .agg (.int .i64 (n : Int) :: bs s).toArray)]) rfl Try.underlying44 sz_148 zl_148 rfl (by decide) (fill_one rfl (by simp [bs_length, hs]) rfl) rfl (fun B5 => ?_)
          refine ⟨hsub (.cons _ (.cons _ (.cons_cons _ (.cons _ (.cons _ (.cons _ (.cons _ (.cons _ (.cons _ (.cons _ (.cons _ (.refl _)))))))))))), ?_⟩
          refine H_one 5 rfl (by kernel_rfl) rfl (op_y (y_load rfl ag_44 (sees 3 0 rfl) rfl) rfl ?_)
          refine ⟨hsub (.cons _ (.cons _ (.cons_cons _ (.cons _ (.cons _ (.cons _ (.cons _ (.cons _ (.cons _ (.cons _ (.cons _ (.refl _)))))))))))), ?_⟩
          refine H_one 6 rfl (by kernel_rfl) rfl (op_append (gs := some ⟨B2, 0, []⟩) (len := 0) (m := a.Q.length) (xs := []) (vs := wcs a.Q) 1 rfl rfl rfl ⟨rfl, rfl, Nat.le_refl _⟩ (src_sl (s := 5) rfl hq) (wcs_len hQ128) (wcs_ones _) Try.underlying44 ni_44 sz_148 by_148 (by decide) zl_148 rfl (by omega) rfl (fun g1 hg1 => ?_))
          rw [Nat.zero_add a.Q.length, List.nil_append] at hg1 ⊢
          refine ⟨hsub (.cons _ (.cons _ (.cons_cons _ (.cons _ (.cons _ (.cons _ (.cons _ (.cons _ (.cons _ (.cons _ (.cons _ (.refl _)))))))))))), ?_⟩
          refine H_one 11 rfl (by kernel_rfl) rfl (op_append (gs := g1) (len := a.Q.length) (m := 1) (xs := wcs a.Q) (vs := .int .i64 (n : Int) :: bs s) 1 rfl rfl rfl hg1 (src_slice (sees 0 0 rfl) (by simp [bs_length, hs]) (by rw [List.drop_zero, List.take_of_length_le (by simp [bs_length, hs])])) (by simp [bs_length, hs]) (one_wr n s) Try.underlying44 ni_44 sz_148 by_148 (by decide) zl_148 rfl (by omega) rfl (fun g2 hg2 => ?_))
          rw [← wcs_one, ← wcs_append, show a.Q.length + 1 = (a.Q ++ [(n, s)]).length from by simp] at hg2 ⊢
          refine ⟨hsub (.cons _ (.cons _ (.cons_cons _ (.cons _ (.cons _ (.cons _ (.cons _ (.cons _ (.cons _ (.cons _ (.cons _ (.refl _)))))))))))), ?_⟩
          refine H_y 12 rfl (by kernel_rfl) (by kernel_rfl) (by kernel_rfl) (hsub (.cons _ (.cons _ (.cons_cons _ (.cons _ (.cons _ (.cons _ (.cons _ (.cons _ (.cons _ (.cons _ (.cons _ (.refl _))))))))))))) rfl (y_nilCheck rfl) rfl ?_
          refine H_y 13 rfl (by kernel_rfl) (by kernel_rfl) (by kernel_rfl) (hsub (.cons _ (.cons _ (.cons_cons _ (.cons _ (.cons _ (.cons _ (.cons _ (.cons _ (.cons _ (.cons _ (.cons _ (.refl _))))))))))))) rfl (y_fieldAddr rfl fl_46_1) rfl ?_
          refine H_one 14 rfl (by kernel_rfl) rfl (op_store1 3 0 rfl rfl (one_slV _ _) sz_44 rfl (Nat.le_of_ble_eq_true rfl) ?_)
          refine ⟨hsub (.cons _ (.cons _ (.cons_cons _ (.cons _ (.cons _ (.cons _ (.cons _ (.cons _ (.cons _ (.cons _ (.cons _ (.refl _)))))))))))), ?_⟩
          refine H_done (by kernel_rfl) ?_
          exact ⟨g2, hg2, ⟨rfl, rfl, trivial⟩, ((hsub (.cons_cons _ (.cons_cons _ (.cons_cons _ (.cons_cons _ (.cons_cons _ (.cons_cons _ (.cons_cons _ (.cons_cons _ (.cons _ (.cons _ (.cons _ (.refl _))))))))))))).trans (hsub_pick [3, 3, 1, 3, 3, 3, 3, 3] rfl))⟩
      · refine op_y (y_load rfl ag_44 (sees 1 0 rfl) rfl) rfl ?_
        refine ⟨hsub (.cons_cons _ (.cons _ (.cons _ (.cons _ (.cons _ (.cons _ (.cons _ (.cons _ (.cons _ (.refl _)))))))))), ?_⟩
        refine H_two 1 10 rfl rfl (by kernel_rfl) rfl rfl ?_ ?_
        · refine op_buildSlice (vs := []) rfl Try.underlying44 sz_148 zl_148 rfl (by decide) rfl rfl (fun B6 => ?_)
          refine ⟨hsub (.cons _ (.cons_cons _ (.cons _ (.cons _ (.cons _ (.cons _ (.cons _ (.cons _ (.cons _ (.cons _ (.refl _))))))))))), ?_⟩
          refine H_two 6 10 rfl rfl (by kernel_rfl) rfl rfl ?_ ?_
          · refine op_append (gs := some ⟨B6, 0, []⟩) (len := 0) (m := a.Q.length) (xs := []) (vs := wcs a.Q) 0 rfl rfl rfl ⟨rfl, rfl, Nat.le_refl _⟩ (src_sl (s := 4) rfl hq) (wcs_len hQ128) (wcs_ones _) Try.underlying44 ni_44 sz_148 by_148 (by decide) zl_148 rfl (by omega) rfl (fun g1 hg1 => ?_)
            rw [Nat.zero_add a.Q.length, List.nil_append] at hg1 ⊢
            refine ⟨hsub (.cons _ (.cons_cons _ (.cons _ (.cons _ (.cons _ (.cons _ (.cons _ (.cons _ (.cons _ (.cons _ (.refl _))))))))))), ?_⟩
            refine H_one 10 rfl (by kernel_rfl) rfl (op_buildSlice (vs := [(0, .agg (.int .i64 (n : Int) :: bs s).toArray)]) rfl Try.underlying44 sz_148 zl_148 rfl (by decide) (fill_one rfl (by simp [bs_length, hs]) rfl) rfl (fun B7 => ?_))
            refine ⟨hsub (.cons _ (.cons _ (.cons_cons _ (.cons _ (.cons _ (.cons _ (.cons _ (.cons _ (.cons _ (.cons _ (.cons _ (.refl _)))))))))))), ?_⟩
            refine H_one 11 rfl (by kernel_rfl) rfl (op_append (gs := g1) (len := a.Q.length) (m := 1) (xs := wcs a.Q) (vs := .int .i64 (n : Int) :: bs s) 1 rfl rfl rfl hg1 (src_slice (sees 0 0 rfl) (by simp [bs_length, hs]) (by rw [List.drop_zero, List.take_of_length_le (by simp [bs_length, hs])])) (by simp [bs_length, hs]) (one_wr n s) Try.underlying44 ni_44 sz_148 by_148 (by decide) zl_148 rfl (by omega) rfl (fun g2 hg2 => ?_))
            rw [← wcs_one, ← wcs_append, show a.Q.length + 1 = (a.Q ++ [(n, s)]).length from by simp] at hg2 ⊢
            refine ⟨hsub (.cons _ (.cons _ (.cons_cons _ (.cons _ (.cons _ (.cons _ (.cons _ (.cons _ (.cons _ (.cons _ (.cons _ (.refl _)))))))))))), ?_⟩
            refine H_y 12 rfl (by kernel_rfl) (by kernel_rfl) (by kernel_rfl) (hsub (.cons _ (.cons _ (.cons_cons _ (.cons _ (.cons _ (.cons _ (.cons _ (.cons _ (.cons _ (.cons _ (.cons _ (.refl _))))))))))))) rfl (y_nilCheck rfl) rfl ?_
            refine H_y 13 rfl (by kernel_rfl) (by kernel_rfl) (by kernel_rfl) (hsub (.cons _ (.cons _ (.cons_cons _ (.cons _ (.cons _ (.cons _ (.cons _ (.cons _ (.cons _ (.cons _ (.cons _ (.refl _))))))))))))) rfl (y_fieldAddr rfl fl_46_1) rfl ?_
            refine H_one 14 rfl (by kernel_rfl) rfl (op_store1 3 0 rfl rfl (one_slV _ _) sz_44 rfl (Nat.le_of_ble_eq_true rfl) ?_)
            refine ⟨hsub (.cons _ (.cons _ (.cons_cons _ (.cons _ (.cons _ (.cons _ (.cons _ (.cons _ (.cons _ (.cons _ (.cons _ (.refl _)))))))))))), ?_⟩
            refine H_done (by kernel_rfl) ?_
            exact ⟨g2, hg2, ⟨rfl, rfl, trivial⟩, ((hsub (.cons_cons _ (.cons_cons _ (.cons_cons _ (.cons_cons _ (.cons_cons _ (.cons_cons _ (.cons_cons _ (.cons_cons _ (.cons _ (.cons _ (.cons _ (.refl _))))))))))))).trans (hsub_pick [3, 3, 1, 3, 3, 3, 3, 3] rfl))⟩
          · refine op_buildSlice (vs := [(0, .agg (.int .i64 (n : Int) :: bs s).toArray)]) rfl Try.underlying44 sz_148 zl_148 rfl (by decide) (fill_one rfl (by simp [bs_length, hs]) rfl) rfl (fun B8 => ?_)
            refine ⟨hsub (.cons _ (.cons _ (.cons_cons _ (.cons _ (.cons _ (.cons _ (.cons _ (.cons _ (.cons _ (.cons _ (.cons _ (.refl _)))))))))))), ?_⟩
            refine H_one 6 rfl (by kernel_rfl) rfl (op_append (gs := some ⟨B6, 0, []⟩) (len := 0) (m := a.Q.length) (xs := []) (vs := wcs a.Q) 1 rfl rfl rfl ⟨rfl, rfl, Nat.le_refl _⟩ (src_sl (s := 5) rfl hq) (wcs_len hQ128) (wcs_ones _) Try.underlying44 ni_44 sz_148 by_148 (by decide) zl_148 rfl (by omega) rfl (fun g1 hg1 => ?_))
            rw [Nat.zero_add a.Q.length, List.nil_append] at hg1 ⊢
            refine ⟨hsub (.cons _ (.cons _ (.cons_cons _ (.cons _ (.cons _ (.cons _ (.cons _ (.cons _ (.cons _ (.cons _ (.cons _ (.refl _)))))))))))), ?_⟩
            refine H_one 11 rfl (by kernel_rfl) rfl (op_append (gs := g1) (len := a.Q.length) (m := 1) (xs := wcs a.Q) (vs := .int .i64 (n : Int) :: bs s) 1 rfl rfl rfl hg1 (src_slice (sees 0 0 rfl) (by simp [bs_length, hs]) (by rw [List.drop_zero, List.take_of_length_le (by simp [bs_length, hs])])) (by simp [bs_length, hs]) (one_wr n s) Try.underlying44 ni_44 sz_148 by_148 (by decide) zl_148 rfl (by omega) rfl (fun g2 hg2 => ?_))
            rw [← wcs_one, ← wcs_append, show a.Q.length + 1 = (a.Q ++ [(n, s)]).length from by simp] at hg2 ⊢
            refine ⟨hsub (.cons _ (.cons _ (.cons_cons _ (.cons _ (.cons _ (.cons _ (.cons _ (.cons _ (.cons _ (.cons _ (.cons _ (.refl _)))))))))))), ?_⟩
            refine H_y 12 rfl (by kernel_rfl) (by kernel_rfl) (by kernel_rfl) (hsub (.cons _ (.cons _ (.cons_cons _ (.cons _ (.cons _ (.cons _ (.cons _ (.cons _ (.cons _ (.cons _ (.cons _ (.refl _))))))))))))) rfl (y_nilCheck rfl) rfl ?_
            refine H_y 13 rfl (by kernel_rfl) (by kernel_rfl) (by kernel_rfl) (hsub (.cons _ (.cons _ (.cons_cons _ (.cons _ (.cons _ (.cons _ (.cons _ (.cons _ (.cons _ (.cons _ (.cons _ (.refl _))))))))))))) rfl (y_fieldAddr rfl fl_46_1) rfl ?_
            refine H_one 14 rfl (by kernel_rfl) rfl (op_store1 3 0 rfl rfl (one_slV _ _) sz_44 rfl (Nat.le_of_ble_eq_true rfl) ?_)
            refine ⟨hsub (.cons _ (.cons _ (.cons_cons _ (.cons _ (.cons _ (.cons _ (.cons _ (.cons _ (.cons _ (.cons _ (.cons _ (.refl _)))))))))))), ?_⟩
            refine H_done (by kernel_rfl) ?_
            exact ⟨g2, hg2, ⟨rfl, rfl, trivial⟩, ((hsub (.cons_cons _ (.cons_cons _ (.cons_cons _ (.cons_cons _ (.cons_cons _ (.cons_cons _ (.cons_cons _ (.cons_cons _ (.cons _ (.cons _ (.cons _ (.refl _))))))))))))).trans (hsub_pick [3, 3, 1, 3, 3, 3, 3, 3] rfl))⟩
        · refine op_buildSlice (vs := [(0, .agg (.int .i64 (n : Int) :: bs s).toArray)]) rfl Try.underlying44 sz_148 zl_148 rfl (by decide) (fill_one rfl (by simp [bs_length, hs]) rfl) rfl (fun B9 => ?_)
          refine ⟨hsub (.cons _ (.cons_cons _ (.cons _ (.cons _ (.cons _ (.cons _ (.cons _ (.cons _ (.cons _ (.cons _ (.refl _))))))))))), ?_⟩
          refine H_one 1 rfl (by kernel_rfl) rfl (op_buildSlice (vs := []) rfl Try.underlying44 sz_148 zl_148 rfl (by decide) rfl rfl (fun B10 => ?_))
          refine ⟨hsub (.cons _ (.cons _ (.cons_cons _ (.cons _ (.cons _ (.cons _ (.cons _ (.cons _ (.cons _ (.cons _ (.cons _ (.refl _)))))))))))), ?_⟩
          refine H_one 6 rfl (by kernel_rfl) rfl (op_append (gs := some ⟨B10, 0, []⟩) (len := 0) (m := a.Q.length) (xs := []) (vs := wcs a.Q) 0 rfl rfl rfl ⟨rfl, rfl, Nat.le_refl _⟩ (src_sl (s := 5) rfl hq) (wcs_len hQ128) (wcs_ones _) Try.underlying44 ni_44 sz_148 by_148 (by decide) zl_148 rfl (by omega) rfl (fun g1 hg1 => ?_))
          rw [Nat.zero_add a.Q.length, List.nil_append] at hg1 ⊢
          refine ⟨hsub (.cons _ (.cons _ (.cons_cons _ (.cons _ (.cons _ (.cons _ (.cons _ (.cons _ (.cons _ (.cons _ (.cons _ (.refl _)))))))))))), ?_⟩
          refine H_one 11 rfl (by kernel_rfl) rfl (op_append (gs := g1) (len := a.Q.length) (m := 1) (xs := wcs a.Q) (vs := .int .i64 (n : Int) :: bs s) 0 rfl rfl rfl hg1 (src_slice (sees 1 0 rfl) (by simp [bs_length, hs]) (by rw [List.drop_zero, List.take_of_length_le (by simp [bs_length, hs])])) (by simp [bs_length, hs]) (one_wr n s) Try.underlying44 ni_44 sz_148 by_148 (by decide) zl_148 rfl (by omega) rfl (fun g2 hg2 => ?_))
          rw [← wcs_one, ← wcs_append, show a.Q.length + 1 = (a.Q ++ [(n, s)]).length from by simp] at hg2 ⊢
          refine ⟨hsub (.cons _ (.cons _ (.cons_cons _ (.cons _ (.cons _ (.cons _ (.cons _ (.cons _ (.cons _ (.cons _ (.cons _ (.refl _)))))))))))), ?_⟩
          refine H_y 12 rfl (by kernel_rfl) (by kernel_rfl) (by kernel_rfl) (hsub (.cons _ (.cons _ (.cons_cons _ (.cons _ (.cons _ (.cons _ (.cons _ (.cons _ (.cons _ (.cons _ (.cons _ (.refl _))))))))))))) rfl (y_nilCheck rfl) rfl ?_
          refine H_y 13 rfl (by kernel_rfl) (by kernel_rfl) (by kernel_rfl) (hsub (.cons _ (.cons _ (.cons_cons _ (.cons _ (.cons _ (.cons _ (.cons _ (.cons _ (.cons _ (.cons _ (.cons _ (.refl _))))))))))))) rfl (y_fieldAddr rfl fl_46_1) rfl ?_
          refine H_one 14 rfl (by kernel_rfl) rfl (op_store1 3 0 rfl rfl (one_slV _ _) sz_44 rfl (Nat.le_of_ble_eq_true rfl) ?_)
          refine ⟨hsub (.cons _ (.cons _ (.cons_cons _ (.cons _ (.cons _ (.cons _ (.cons _ (.cons _ (.cons _ (.cons _ (.cons _ (.refl _)))))))))))), ?_⟩
          refine H_done (by kernel_rfl) ?_
          exact ⟨g2, hg2, ⟨rfl, rfl, trivial⟩, ((hsub (.cons_cons _ (.cons_cons _ (.cons_cons _ (.cons_cons _ (.cons_cons _ (.cons_cons _ (.cons_cons _ (.cons_cons _ (.cons _ (.cons _ (.cons _ (.refl _))))))))))))).trans (hsub_pick [3, 3, 0, 3, 3, 3, 3, 3] rfl))⟩
      · refine op_buildSlice (vs := [(0, .agg (.int .i64 (n : Int) :: bs s).toArray)]) rfl Try.underlying44 sz_148 zl_148 rfl (by decide) (fill_one rfl (by simp [bs_length, hs]) rfl) rfl (fun B11 => ?_)
        refine ⟨hsub (.cons _ (.cons_cons _ (.cons _ (.cons _ (.cons _ (.cons _ (.cons _ (.cons _ (.cons _ (.cons _ (.refl _))))))))))), ?_⟩
        refine H_two 1 5 rfl rfl (by kernel_rfl) rfl rfl ?_ ?_
        · refine op_buildSlice (vs := []) rfl Try.underlying44 sz_148 zl_148 rfl (by decide) rfl rfl (fun B12 => ?_)
          refine ⟨hsub (.cons _ (.cons _ (.cons_cons _ (.cons _ (.cons _ (.cons _ (.cons _ (.cons _ (.cons _ (.cons _ (.cons _ (.refl _)))))))))))), ?_⟩
          refine H_one 5 rfl (by kernel_rfl) rfl (op_y (y_load rfl ag_44 (sees 3 0 rfl) rfl) rfl ?_)
          refine ⟨hsub (.cons _ (.cons _ (.cons_cons _ (.cons _ (.cons _ (.cons _ (.cons _ (.cons _ (.cons _ (.cons _ (.cons _ (.refl _)))))))))))), ?_⟩
          refine H_one 6 rfl (by kernel_rfl) rfl (op_append (gs := some ⟨B12, 0, []⟩) (len := 0) (m := a.Q.length) (xs := []) (vs := wcs a.Q) 0 rfl rfl rfl ⟨rfl, rfl, Nat.le_refl _⟩ (src_sl (s := 5) rfl hq) (wcs_len hQ128) (wcs_ones _) Try.underlying44 ni_44 sz_148 by_148 (by decide) zl_148 rfl (by omega) rfl (fun g1 hg1 => ?_))
          rw [Nat.zero_add a.Q.length, List.nil_append] at hg1 ⊢
          refine ⟨hsub (.cons _ (.cons _ (.cons_cons _ (.cons _ (.cons _ (.cons _ (.cons _ (.cons _ (.cons _ (.cons _ (.cons _ (.refl _)))))))))))), ?_⟩
          refine H_one 11 rfl (by kernel_rfl) rfl (op_append (gs := g1) (len := a.Q.length) (m := 1) (xs := wcs a.Q) (vs := .int .i64 (n : Int) :: bs s) 0 rfl rfl rfl hg1 (src_slice (sees 1 0 rfl) (by simp [bs_length, hs]) (by rw [List.drop_zero, List.take_of_length_le (by simp [bs_length, hs])])) (by simp [bs_length, hs]) (one_wr n s) Try.underlying44 ni_44 sz_148 by_148 (by decide) zl_148 rfl (by omega) rfl (fun g2 hg2 => ?_))
          rw [← wcs_one, ← wcs_append, show a.Q.length + 1 = (a.Q ++ [(n, s)]).length from by simp] at hg2 ⊢
          refine ⟨hsub (.cons _ (.cons _ (.cons_cons _ (.cons _ (.cons _ (.cons _ (.cons _ (.cons _ (.cons _ (.cons _ (.cons _ (.refl _)))))))))))), ?_⟩
          refine H_y 12 rfl (by kernel_rfl) (by kernel_rfl) (by kernel_rfl) (hsub (.cons _ (.cons _ (.cons_cons _ (.cons _ (.cons _ (.cons _ (.cons _ (.cons _ (.cons _ (.cons _ (.cons _ (.refl _))))))))))))) rfl (y_nilCheck rfl) rfl ?_
          refine H_y 13 rfl (by kernel_rfl) (by kernel_rfl) (by kernel_rfl) (hsub (.cons _ (.cons _ (.cons_cons _ (.cons _ (.cons _ (.cons _ (.cons _ (.cons _ (.cons _ (.cons _ (.cons _ (.refl _))))))))))))) rfl (y_fieldAddr rfl fl_46_1) rfl ?_
          refine H_one 14 rfl (by kernel_rfl) rfl (op_store1 3 0 rfl rfl (one_slV _ _) sz_44 rfl (Nat.le_of_ble_eq_true rfl) ?_)
          refine ⟨hsub (.cons _ (.cons _ (.cons_cons _ (.cons _ (.cons _ (.cons _ (.cons _ (.cons _ (.cons _ (.cons _ (.cons _ (.refl _)))))))))))), ?_⟩
          refine H_done (by kernel_rfl) ?_
          exact ⟨g2, hg2, ⟨rfl, rfl, trivial⟩, ((hsub (.cons_cons _ (.cons_cons _ (.cons_cons _ (.cons_cons _ (.cons_cons _ (.cons_cons _ (.cons_cons _ (.cons_cons _ (.cons _ (.cons _ (.cons _ (.refl _))))))))))))).trans (hsub_pick [3, 3, 0, 3, 3, 3, 3, 3] rfl))⟩
        · refine op_y (y_load rfl ag_44 (sees 2 0 rfl) rfl) rfl ?_
          refine ⟨hsub (.cons _ (.cons_cons _ (.cons _ (.cons _ (.cons _ (.cons _ (.cons _ (.cons _ (.cons _ (.cons _ (.refl _))))))))))), ?_⟩
          refine H_one 1 rfl (by kernel_rfl) rfl (op_buildSlice (vs := []) rfl Try.underlying44 sz_148 zl_148 rfl (by decide) rfl rfl (fun B13 => ?_))
          refine ⟨hsub (.cons _ (.cons _ (.cons_cons _ (.cons _ (.cons _ (.cons _ (.cons _ (.cons _ (.cons _ (.cons _ (.cons _ (.refl _)))))))))))), ?_⟩
          refine H_one 6 rfl (by kernel_rfl) rfl (op_append (gs := some ⟨B13, 0, []⟩) (len := 0) (m := a.Q.length) (xs := []) (vs := wcs a.Q) 0 rfl rfl rfl ⟨rfl, rfl, Nat.le_refl _⟩ (src_sl (s := 5) rfl hq) (wcs_len hQ128) (wcs_ones _) Try.underlying44 ni_44 sz_148 by_148 (by decide) zl_148 rfl (by omega) rfl (fun g1 hg1 => ?_))
          rw [Nat.zero_add a.Q.length, List.nil_append] at hg1 ⊢
          refine ⟨hsub (.cons _ (.cons _ (.cons_cons _ (.cons _ (.cons _ (.cons _ (.cons _ (.cons _ (.cons _ (.cons _ (.cons _ (.refl _)))))))))))), ?_⟩
          refine H_one 11 rfl (by kernel_rfl) rfl (op_append (gs := g1) (len := a.Q.length) (m := 1) (xs := wcs a.Q) (vs := .int .i64 (n : Int) :: bs s) 0 rfl rfl rfl hg1 (src_slice (sees 1 0 rfl) (by simp [bs_length, hs]) (by rw [List.drop_zero, List.take_of_length_le (by simp [bs_length, hs])])) (by simp [bs_length, hs]) (one_wr n s) Try.underlying44 ni_44 sz_148 by_148 (by decide) zl_148 rfl (by omega) rfl (fun g2 hg2 => ?_))
          rw [← wcs_one, ← wcs_append, show a.Q.length + 1 = (a.Q ++ [(n, s)]).length from by simp] at hg2 ⊢
          refine ⟨hsub (.cons _ (.cons _ (.cons_cons _ (.cons _ (.cons _ (.cons _ (.cons _ (.cons _ (.cons _ (.cons _ (.cons _ (.refl _)))))))))))), ?_⟩
          refine H_y 12 rfl (by kernel_rfl) (by kernel_rfl) (by kernel_rfl) (hsub (.cons _ (.cons _ (.cons_cons _ (.cons _ (.cons _ (.cons _ (.cons _ (.cons _ (.cons _ (.cons _ (.cons _ (.refl _))))))))))))) rfl (y_nilCheck rfl) rfl ?_
          refine H_y 13 rfl (by kernel_rfl) (by kernel_rfl) (by kernel_rfl) (hsub (.cons _ (.cons _ (.cons_cons _ (.cons _ (.cons _ (.cons _ (.cons _ (.cons _ (.cons _ (.cons _ (.cons _ (.refl _))))))))))))) rfl (y_fieldAddr rfl fl_46_1) rfl ?_
          refine H_one 14 rfl (by kernel_rfl) rfl (op_store1 3 0 rfl rfl (one_slV _ _) sz_44 rfl (Nat.le_of_ble_eq_true rfl) ?_)
          refine ⟨hsub (.cons _ (.cons _ (.cons_cons _ (.cons _ (.cons _ (.cons _ (.cons _ (.cons _ (.cons _ (.cons _ (.cons _ (.refl _)))))))))))), ?_⟩
          refine H_done (by kernel_rfl) ?_
          exact ⟨g2, hg2, ⟨rfl, rfl, trivial⟩, ((hsub (.cons_cons _ (.cons_cons _ (.cons_cons _ (.cons_cons _ (.cons_cons _ (.cons_cons _ (.cons_cons _ (.cons_cons _ (.cons _ (.cons _ (.cons _ (.refl _))))))))))))).trans (hsub_pick [3, 3, 0, 3, 3, 3, 3, 3] rfl))⟩
    · have hok2 := Rv.push_ok hd hn hs hQ hg2
      refine C_seq ?_
      refine C_seq ?_
      refine C_region ?_
      refine L_y rfl (y_move rfl) rfl ?_
      refine L_op rfl (op_call rfl rfl (fun a w => Try.call91 a w) rfl ?_)
      refine ((rstep_p hf hl).sub (hsub_pick [6] rfl)).mono ?_
      rintro _ _ ⟨rfl, rfl⟩
      refine ⟨_, rfl, ?_⟩
      refine L_nil ?_
      refine C_cond rfl (fun hc2 => ?_) (fun hc2 => ?_)
      · skip
        refine C_seq ?_
        refine C_region ?_
        refine L_y rfl (y_move rfl) rfl ?_
        refine L_op rfl (op_call rfl rfl (fun a w => Try.call92 a w) rfl ?_)
        refine ((rfall_s (d := (⟨b, st, g2, a.push n s⟩ : Rv)) (e := e) hok2 he hxy).sub (hsub_pick [1, 1, 1, 1, 1, 1, 0, 0] rfl)).mono ?_
        rintro _ _ ⟨rfl, rfl⟩
        refine ⟨_, rfl, ?_⟩
        refine L_nil ?_
        refine C_seq ?_
        refine C_region ?_
        refine L_y rfl (y_assign rfl) rfl ?_
        refine L_nil ?_
        refine C_ret ?_
        refine B_ret (rv_tmp rfl rv_nil) ((hsub (.cons_cons _ (.cons_cons _ (.cons_cons _ (.cons_cons _ (.cons_cons _ (.cons_cons _ (.cons_cons _ (.cons_cons _ (.refl _)))))))))).trans (hsub_pick [0, 0, 0, 0, 0, 0, 0, 0] rfl)) ?_
        first
        | exact ⟨g2, hok2, ret_int (by rw [if_pos hc2]), (if_pos hc2).symm⟩
        | exact ⟨g2, hok2, ret_int (by rw [hc2]; rfl), by rw [hc2]; rfl⟩
      · skip
        refine C_skip ?_
        refine C_seq ?_
        refine C_region ?_
        refine L_y rfl (y_assign rfl) rfl ?_
        refine L_nil ?_
        refine C_ret ?_
        refine B_ret (rv_tmp rfl rv_nil) ((hsub (.cons_cons _ (.cons_cons _ (.cons_cons _ (.cons_cons _ (.cons_cons _ (.cons_cons _ (.cons_cons _ (.cons_cons _ (.refl _)))))))))).trans (hsub_pick [1, 1, 1, 1, 1, 1, 0, 0] rfl)) ?_
        first
        | exact ⟨g2, hok2, ret_int (by rw [if_pos hc2]), (if_pos hc2).symm⟩
        | exact ⟨g2, hok2, ret_int (by rw [hc2]; rfl), by rw [hc2]; rfl⟩

end Go.Proofs.Ytaeooiogjhkjfaa

/- walks (own work; the walks' lines by a program of this repo). -/
set_option linter.unusedVariables false
set_option linter.unusedSimpArgs false
set_option maxRecDepth 20000
namespace Go.Proofs.Ytaeooiogjhkjfaa
open Go.Sl
attribute [local irreducible] BodyQ WpC WpL WpS WpH OpW FnS



set_option maxHeartbeats 400000 in

theorem rflush_up {w0 : World} {H : Hp} {b st pb : Nat} {g : Option SlG} {a : Ab} {e : Rv} {gl : SlG} {p : Pa} {x y : Nat} (hd : Rv.ok ⟨b, st, g, a⟩) (he : e.ok) (hxy : Ord8 x y b e.b) (hf : p.fit) (hl : lf p ≤ 9223372036854775807) (hoff : p.off = false) (ho : a.out = false) : FnS Try.prog w0 68 #[ptr b, ptr pb] (RH rt (⟨b, st, g, a⟩ : Rv) e pb gl p.off (lf p) x y H) (fun E H' => E = .returned (.int .i64 (if p.falls then 13 else 0)) ∧ H' = if p.falls then RH rt (Rv.cut (⟨b, st, g, a⟩ : Rv)) e.cut pb gl true (lf p.step) x y H else RH rt (if a.lies then (⟨b, st, g, a⟩ : Rv) else Rv.fl (⟨b, st, g, a⟩ : Rv)) e pb gl p.off (lf p.step) x y H) := by
  obtain ⟨hok, hq, hQl⟩ := id hd
  simp only at hok hq hQl
  have hfl := flat_len hok.1
  have hQ128 : ∀ x ∈ a.Q, x.2.length = 128 := fun x hx => (hok.2.2.1 x hx).2
  refine FnS_intro (n := 57) (rs := [.tmp 4]) (vs := [ptr b, ptr pb]) Try.func68 rfl Try.ntmps68 rfl rfl ?_
  refine C_seq ?_
  refine C_region ?_
  refine L_y rfl (y_assign rfl) rfl ?_
  refine L_nil ?_
  refine C_seq ?_
  refine C_seq ?_
  refine C_region ?_
  refine L_y rfl (y_move rfl) rfl ?_
  refine L_y rfl (y_nilCheck rfl) rfl ?_
  refine L_y rfl (y_fieldAddr rfl fl_29_1) rfl ?_
  refine L_y rfl (y_load rfl ag_4 (sees 6 0 rfl) (congrArg (fun z => some (Value.bool z)) hoff)) rfl ?_
  refine L_y rfl (y_move rfl) rfl ?_
  refine L_y rfl (y_move rfl) rfl ?_
  refine L_y rfl (y_nilCheck rfl) rfl ?_
  refine L_y rfl (y_fieldAddr rfl fl_46_5) rfl ?_
  refine L_y rfl (y_load rfl ag_4 (sees 0 0 rfl) (congrArg (fun z => some (Value.bool z)) ho)) rfl ?_
  refine L_y rfl (y_pick_f rfl rfl) rfl ?_
  refine L_nil ?_
  refine C_cond_f rfl ?_
  refine C_skip ?_
  refine C_seq ?_
  refine C_seq ?_
  refine C_region ?_
  refine L_y rfl (y_move rfl) rfl ?_
  refine L_op rfl (op_call rfl rfl (fun a w => Try.call91 a w) rfl ?_)
  refine ((rstep_p hf hl).sub (hsub_pick [6] rfl)).mono ?_
  rintro _ _ ⟨rfl, rfl⟩
  refine ⟨_, rfl, ?_⟩
  refine L_nil ?_
  refine C_cond rfl (fun hc1 => ?_) (fun hc1 => ?_)
  · skip
    refine C_seq ?_
    refine C_region ?_
    refine L_y rfl (y_move rfl) rfl ?_
    refine L_op rfl (op_call rfl rfl (fun a w => Try.call92 a w) rfl ?_)
    refine ((rfall_s (d := (⟨b, st, g, a⟩ : Rv)) (e := e) hd he hxy).sub (hsub_pick [1, 1, 1, 1, 1, 1, 0, 0] rfl)).mono ?_
    rintro _ _ ⟨rfl, rfl⟩
    refine ⟨_, rfl, ?_⟩
    refine L_nil ?_
    refine C_seq ?_
    refine C_region ?_
    refine L_y rfl (y_assign rfl) rfl ?_
    refine L_nil ?_
    refine C_ret ?_
    refine B_ret (rv_tmp rfl rv_nil) ((hsub (.cons_cons _ (.cons_cons _ (.cons_cons _ (.cons_cons _ (.cons_cons _ (.cons_cons _ (.cons_cons _ (.cons_cons _ (.refl _)))))))))).trans (hsub_pick [0, 0, 0, 0, 0, 0, 0, 0] rfl)) ?_
    first
    | exact ⟨ret_int (by rw [if_pos hc1]), (if_pos hc1).symm⟩
    | exact ⟨ret_int (by rw [hc1]; rfl), by rw [hc1, hc2]; rfl⟩
  · skip
    refine C_skip ?_
    refine C_seq ?_
    refine C_seq ?_
    refine C_region ?_
    refine L_y rfl (y_move rfl) rfl ?_
    refine L_y rfl (y_nilCheck rfl) rfl ?_
    refine L_y rfl (y_fieldAddr rfl fl_46_4) rfl ?_
    refine L_y rfl (y_load rfl ag_4 (sees 1 0 rfl) rfl) rfl ?_
    refine L_nil ?_
    refine C_cond rfl (fun hc2 => ?_) (fun hc2 => ?_)
    · skip
      refine C_seq ?_
      refine C_region ?_
      refine L_y rfl (y_assign rfl) rfl ?_
      refine L_nil ?_
      refine C_ret ?_
      refine B_ret (rv_tmp rfl rv_nil) ((hsub (.cons_cons _ (.cons_cons _ (.cons_cons _ (.cons_cons _ (.cons_cons _ (.cons_cons _ (.cons_cons _ (.cons_cons _ (.refl _)))))))))).trans (hsub_pick [1, 1, 1, 1, 1, 1, 0, 0] rfl)) ?_
      first
      | exact ⟨ret_int (by rw [if_pos hc1]), (if_pos hc1).symm⟩
      | exact ⟨ret_int (by rw [hc1]; rfl), by rw [hc1, hc2]; rfl⟩
    · skip
      refine C_skip ?_
      refine C_seq ?_
      refine C_seq ?_
      refine C_region ?_
      refine L_y rfl (y_assign rfl) rfl ?_
      refine L_nil ?_
      refine C_block ?_
      refine C_loop (ι := Nat) (fun i => [(0, ptr b), (5, .int .i64 (i : Int))]) (fun i => Rv.o rt (⟨b, st, g, a⟩ : Rv) :: [(st, .cells (bs (flushN a i).flatten).toArray 38)] :: slSeg 148 g (wcs a.Q) :: e.o rt :: e.t rt :: e.q rt :: rpo rt pb gl p.off (lf p.step) :: rpq rt gl x y :: H) (fun i => i ≤ a.Q.length) (fun i => a.Q.length - i) 0 (Nat.zero_le _) ⟨rfl, rfl, trivial⟩ ((hsub (.cons_cons _ (.cons_cons _ (.cons_cons _ (.cons_cons _ (.cons_cons _ (.cons_cons _ (.cons_cons _ (.cons_cons _ (.refl _)))))))))).trans (hsub_pick [1, 1, 1, 1, 1, 1, 0, 0] rfl)) (fun i hi => ?_)
      skip
      refine C_seq ?_
      refine C_seq ?_
      refine C_region ?_
      refine L_y rfl (y_move rfl) rfl ?_
      refine L_y rfl (y_move rfl) rfl ?_
      refine L_y rfl (y_nilCheck rfl) rfl ?_
      refine L_y rfl (y_fieldAddr rfl fl_46_1) rfl ?_
      refine L_y rfl (y_load rfl ag_44 (sees 0 0 rfl) rfl) rfl ?_
      refine L_y rfl (y_lenV hq rfl rfl Try.underlying44) rfl ?_
      refine L_y rfl (y_lss rfl rfl) rfl ?_
      refine L_nil ?_
      refine C_cond rfl (fun hc3 => ?_) (fun hc3 => ?_)
      · replace hc3 : i < a.Q.length := by have := of_decide_eq_true hc3; omega
        obtain ⟨z, hz⟩ : ∃ z, a.Q[i]? = some z := ⟨_, List.getElem?_eq_getElem (by omega)⟩
        have hzm := hok.2.2.1 z (List.mem_of_getElem? hz)
        obtain ⟨hS1, hS2⟩ := flushN_ok hok i
        have hfn := flat_len hS1
        have hwl := wcs_len hQ128
        cases g with
        | none => exact absurd hq.2 (by first | omega | (simp only; omega))
        | some g => ?_
        refine C_skip ?_
        refine C_seq ?_
        refine C_block ?_
        refine C_regionT 21 (by kernel_rfl) (by kernel_rfl) ?_
        refine S_y rfl (y_move rfl) rfl ?_
        refine S_y rfl (y_nilCheck rfl) rfl ?_
        refine S_y rfl (y_fieldAddr rfl fl_46_0) rfl ?_
        refine S_y rfl (y_load rfl ag_43 (sees 0 0 rfl) rfl) rfl ?_
        refine S_y rfl (y_move rfl) rfl ?_
        refine S_y rfl (y_nilCheck rfl) rfl ?_
        refine S_y rfl (y_fieldAddr rfl fl_46_1) rfl ?_
        refine S_y rfl (y_load rfl ag_44 (sees 0 0 rfl) rfl) rfl ?_
        refine S_y rfl (y_move rfl) rfl ?_
        refine S_y rfl (y_indexS rfl rfl Try.underlying44 sz_148 (by omega) (by first | omega | (simp only; omega)) (show _ = i * 129 from by simp)) rfl ?_
        refine S_y rfl (y_fieldAddr rfl fl_148_0) rfl ?_
        refine S_y rfl (y_load rfl ag_3 (sees 2 0 rfl) (wcs_n0 _ hQ128 hz)) rfl ?_
        refine S_y rfl (y_move rfl) rfl ?_
        refine S_y rfl (y_nilCheck rfl) rfl ?_
        refine S_y rfl (y_fieldAddr rfl fl_46_1) rfl ?_
        refine S_y rfl (y_load rfl ag_44 (sees 0 0 rfl) rfl) rfl ?_
        refine S_y rfl (y_move rfl) rfl ?_
        refine S_y rfl (y_indexS rfl rfl Try.underlying44 sz_148 (by omega) (by first | omega | (simp only; omega)) (show _ = i * 129 from by simp)) rfl ?_
        refine S_y rfl (y_fieldAddr rfl fl_148_1) rfl ?_
        refine S_y rfl (y_loadA rfl ag_38 sz_38 (sees 2 0 rfl) (by rw [List.length_append, hwl]; omega) (wcs_s _ hQ128 hz)) rfl ?_
        refine S_y rfl (y_indexS rfl rfl Try.underlying43 sz_38 (by omega) (by first | omega | (simp only; omega)) (show _ = z.1 * 128 from by simp)) rfl ?_
        refine S_nil ?_
        refine L_op rfl (op_store 1 0 rfl rfl rfl sz_38 (by rw [bs_length, hzm.2]) rfl (bs_one _) (by rw [bs_length, hfn]; omega) ?_)
        rw [flat_spl hS1 (by omega) hzm.2, ← flushN_s hz]
        refine L_nil ?_
        refine C_region ?_
        refine L_y rfl (y_move rfl) rfl ?_
        refine L_y rfl (y_add rfl rfl (show _ = ((i + 1 : Nat) : Int) from by rw [wi64 (by omega) (by omega)]; omega)) rfl ?_
        refine L_y rfl (y_assign rfl) rfl ?_
        refine L_nil ?_
        exact ⟨i + 1, by omega, by omega, ⟨rfl, rfl, trivial⟩, ((hsub (.cons_cons _ (.cons_cons _ (.cons_cons _ (.cons_cons _ (.cons_cons _ (.cons_cons _ (.cons_cons _ (.cons_cons _ (.refl _)))))))))).trans (hsub_pick [0, 0, 0, 0, 0, 0, 0, 0] rfl))⟩
      · obtain rfl : i = a.Q.length := by have := of_decide_eq_false hc3; omega
        refine C_exit ?_
        refine C_seq ?_
        refine C_region ?_
        refine L_y rfl (y_move rfl) rfl ?_
        refine L_y rfl (y_nilCheck rfl) rfl ?_
        refine L_y rfl (y_fieldAddr rfl fl_46_1) rfl ?_
        refine L_op rfl (op_store1 0 0 rfl rfl rfl sz_44 rfl (Nat.le_of_ble_eq_true rfl) ?_)
        refine L_nil ?_
        refine C_seq ?_
        refine C_region ?_
        refine L_y rfl (y_assign rfl) rfl ?_
        refine L_nil ?_
        refine C_ret ?_
        refine B_ret (rv_tmp rfl rv_nil) ((hsub_flat rfl : HSub ([(b, .cells [.slice (some ⟨st, 0, none⟩) a.S.length a.S.length, .slice none 0 0, .int .i64 (a.kept : Int), .int .i64 (a.bytes : Int), .bool a.lies, .bool a.out].toArray 46)] :: [(st, .cells (bs (flushN a a.Q.length).flatten).toArray 38)] :: [] :: e.o rt :: e.t rt :: e.q rt :: rpo rt pb gl p.off (lf p.step) :: rpq rt gl x y :: H) ([(b, .cells [.slice (some ⟨st, 0, none⟩) a.S.length a.S.length, .slice none 0 0, .int .i64 (a.kept : Int), .int .i64 (a.bytes : Int), .bool a.lies, .bool a.out].toArray 46)] :: [(st, .cells (bs (flushN a a.Q.length).flatten).toArray 38)] :: e.o rt :: e.t rt :: e.q rt :: rpo rt pb gl p.off (lf p.step) :: rpq rt gl x y :: H)).trans ((hsub (.cons_cons _ (.cons_cons _ (.cons_cons _ (.cons_cons _ (.cons_cons _ (.cons_cons _ (.cons_cons _ (.cons _ (.refl _)))))))))).trans (hsub_pick [0, 0, 1, 1, 1, 1, 1] rfl))) ?_
        obtain ⟨e1, e2, e3⟩ := Rv.fl_segs rt (b := b) (st := st) (g := g) hok
        refine ⟨ret_int (by rw [hc1]; rfl), ?_⟩
        rw [hc1, if_neg (by simp), if_neg (fun hh => by rw [show a.lies = false from hc2] at hh; cases hh)]
        unfold RH
        rw [e1, e2, e3]

end Go.Proofs.Ytaeooiogjhkjfaa

/- walks (own work; the walks' lines by a program of this repo). -/
set_option linter.unusedVariables false
set_option linter.unusedSimpArgs false
set_option maxRecDepth 20000
namespace Go.Proofs.Ytaeooiogjhkjfaa
open Go.Sl
attribute [local irreducible] BodyQ WpC WpL WpS WpH OpW FnS



set_option maxHeartbeats 400000 in

theorem rnow_s {w0 : World} {H : Hp} {b st : Nat} {g : Option SlG} {a : Ab} (hd : Rv.ok ⟨b, st, g, a⟩) (n : Nat) (hn : n < a.S.length) : FnS Try.prog w0 93 #[ptr b, .int .i64 (n : Int)] (Rv.o rt (⟨b, st, g, a⟩ : Rv) :: Rv.t rt (⟨b, st, g, a⟩ : Rv) :: Rv.q rt (⟨b, st, g, a⟩ : Rv) :: H) (fun E H' => E = .returned (.agg (bs (a.read n)).toArray) ∧ H' = (Rv.o rt (⟨b, st, g, a⟩ : Rv) :: Rv.t rt (⟨b, st, g, a⟩ : Rv) :: Rv.q rt (⟨b, st, g, a⟩ : Rv) :: H)) := by
  obtain ⟨hok, hq, hQl⟩ := id hd
  simp only at hok hq hQl
  have hfl := flat_len hok.1
  have hQ128 : ∀ x ∈ a.Q, x.2.length = 128 := fun x hx => (hok.2.2.1 x hx).2
  obtain ⟨s, hs⟩ : ∃ s, a.S[n]? = some s := ⟨_, List.getElem?_eq_getElem hn⟩
  have hs1 := hok.1 s (List.mem_of_getElem? hs)
  refine FnS_intro (n := 42) (rs := [.cell 4 38]) (vs := [ptr b, .int .i64 (n : Int)]) Try.func93 rfl Try.ntmps93 rfl rfl ?_
  refine C_seq ?_
  refine C_region ?_
  refine L_op rfl (op_alloc zl_38 rfl (fun B1 => ?_))
  refine L_nil ?_
  refine C_seq ?_
  refine C_region ?_
  refine L_y rfl (y_move rfl) rfl ?_
  refine L_y rfl (y_nilCheck rfl) rfl ?_
  refine L_y rfl (y_fieldAddr rfl fl_46_0) rfl ?_
  refine L_y rfl (y_load rfl ag_43 (sees 1 0 rfl) rfl) rfl ?_
  refine L_y rfl (y_move rfl) rfl ?_
  refine L_y rfl (y_indexS rfl rfl Try.underlying43 sz_38 (by omega) (by first | omega | (simp only; omega)) (show _ = n * 128 from by simp)) rfl ?_
  refine L_y rfl (y_loadA rfl ag_38 sz_38 (sees 2 0 rfl) (by rw [bs_length, hfl]; omega) (show ((bs _).drop (n * 128)).take 128 = bs s from by rw [bs_drop, bs_take, flat_sec hok.1 hs])) rfl ?_
  refine L_op rfl (op_alloc zl_38 rfl (fun B2 => ?_))
  refine L_op rfl (op_storeA 0 0 rfl rfl rfl sz_38 (by rw [bs_length, hs1]) rfl (bs_one _) rfl ?_)
  refine L_nil ?_
  refine C_seq ?_
  refine C_seq ?_
  refine C_region ?_
  refine L_y rfl (y_assign rfl) rfl ?_
  refine L_nil ?_
  refine C_block ?_
  refine C_loop (ι := Nat) (fun i => [(0, ptr b), (1, .int .i64 (n : Int)), (4, ptr B1), (5, ptr B2), (6, .int .i64 (i : Int))]) (fun i => [(B2, .cells (bs (nowK a n i)).toArray 38)] :: [(B1, .cells (List.replicate 128 (Value.int .u8 0)).toArray 38)] :: Rv.o rt (⟨b, st, g, a⟩ : Rv) :: Rv.t rt (⟨b, st, g, a⟩ : Rv) :: Rv.q rt (⟨b, st, g, a⟩ : Rv) :: H) (fun i => i ≤ a.Q.length) (fun i => a.Q.length - i) 0 (Nat.zero_le _) ⟨rfl, rfl, rfl, rfl, rfl, trivial⟩ (HSub.same (by rw [nowK_0, show a.S.getD n [] = s from by simp [List.getD, hs]] <;> rfl)) (fun i hi => ?_)
  skip
  refine C_seq ?_
  refine C_seq ?_
  refine C_region ?_
  refine L_y rfl (y_move rfl) rfl ?_
  refine L_y rfl (y_move rfl) rfl ?_
  refine L_y rfl (y_nilCheck rfl) rfl ?_
  refine L_y rfl (y_fieldAddr rfl fl_46_1) rfl ?_
  refine L_y rfl (y_load rfl ag_44 (sees 2 0 rfl) rfl) rfl ?_
  refine L_y rfl (y_lenV hq rfl rfl Try.underlying44) rfl ?_
  refine L_y rfl (y_lss rfl rfl) rfl ?_
  refine L_nil ?_
  refine C_cond rfl (fun hc0 => ?_) (fun hc0 => ?_)
  · replace hc0 : i < a.Q.length := by have := of_decide_eq_true hc0; omega
    obtain ⟨z, hz⟩ : ∃ z, a.Q[i]? = some z := ⟨_, List.getElem?_eq_getElem (by omega)⟩
    have hzm := hok.2.2.1 z (List.mem_of_getElem? hz)
    have hwl := wcs_len hQ128
    have hnl := nowK_len hok hn i (by omega)
    cases g with
    | none => exact absurd hq.2 (by first | omega | (simp only; omega))
    | some g => ?_
    refine C_skip ?_
    refine C_seq ?_
    refine C_block ?_
    refine C_seq ?_
    refine C_region ?_
    refine L_y rfl (y_move rfl) rfl ?_
    refine L_y rfl (y_nilCheck rfl) rfl ?_
    refine L_y rfl (y_fieldAddr rfl fl_46_1) rfl ?_
    refine L_y rfl (y_load rfl ag_44 (sees 2 0 rfl) rfl) rfl ?_
    refine L_y rfl (y_move rfl) rfl ?_
    refine L_y rfl (y_indexS rfl rfl Try.underlying44 sz_148 (by omega) (by first | omega | (simp only; omega)) (show _ = i * 129 from by simp)) rfl ?_
    refine L_y rfl (y_fieldAddr rfl fl_148_0) rfl ?_
    refine L_y rfl (y_load rfl ag_3 (sees 4 0 rfl) (wcs_n0 _ hQ128 hz)) rfl ?_
    refine L_y rfl (y_move rfl) rfl ?_
    refine L_y rfl (y_eqi rfl rfl) rfl ?_
    refine L_nil ?_
    refine C_cond rfl (fun hc1 => ?_) (fun hc1 => ?_)
    · replace hc1 : z.1 = n := by have := of_decide_eq_true hc1; omega
      refine C_region ?_
      refine L_y rfl (y_move rfl) rfl ?_
      refine L_y rfl (y_nilCheck rfl) rfl ?_
      refine L_y rfl (y_fieldAddr rfl fl_46_1) rfl ?_
      refine L_y rfl (y_load rfl ag_44 (sees 2 0 rfl) rfl) rfl ?_
      refine L_y rfl (y_move rfl) rfl ?_
      refine L_y rfl (y_indexS rfl rfl Try.underlying44 sz_148 (by omega) (by first | omega | (simp only; omega)) (show _ = i * 129 from by simp)) rfl ?_
      refine L_y rfl (y_fieldAddr rfl fl_148_1) rfl ?_
      refine L_y rfl (y_loadA rfl ag_38 sz_38 (sees 4 0 rfl) (by rw [List.length_append, hwl]; omega) (wcs_s _ hQ128 hz)) rfl ?_
      refine L_op rfl (op_storeA 0 0 rfl rfl rfl sz_38 (by rw [bs_length, hzm.2]) rfl (bs_one _) (by rw [bs_length, hnl]) ?_)
      refine L_nil ?_
      refine C_region ?_
      refine L_y rfl (y_move rfl) rfl ?_
      refine L_y rfl (y_add rfl rfl (show _ = ((i + 1 : Nat) : Int) from by rw [wi64 (by omega) (by omega)]; omega)) rfl ?_
      refine L_y rfl (y_assign rfl) rfl ?_
      refine L_nil ?_
      exact ⟨i + 1, by omega, by omega, ⟨rfl, rfl, rfl, rfl, rfl, trivial⟩, HSub.same (by rw [nowK_next hz]; first | (rw [if_pos hc1] <;> rfl) | (rw [if_neg hc1] <;> rfl))⟩
    · replace hc1 : ¬ z.1 = n := by have := of_decide_eq_false hc1; omega
      refine C_skip ?_
      refine C_region ?_
      refine L_y rfl (y_move rfl) rfl ?_
      refine L_y rfl (y_add rfl rfl (show _ = ((i + 1 : Nat) : Int) from by rw [wi64 (by omega) (by omega)]; omega)) rfl ?_
      refine L_y rfl (y_assign rfl) rfl ?_
      refine L_nil ?_
      exact ⟨i + 1, by omega, by omega, ⟨rfl, rfl, rfl, rfl, rfl, trivial⟩, HSub.same (by rw [nowK_next hz]; first | (rw [if_pos hc1] <;> rfl) | (rw [if_neg hc1] <;> rfl))⟩
  · obtain rfl : i = a.Q.length := by have := of_decide_eq_false hc0; omega
    have hnl := nowK_len hok hn a.Q.length (Nat.le_refl _)
    refine C_exit ?_
    refine C_seq ?_
    refine C_region ?_
    refine L_y rfl (y_loadA rfl ag_38 sz_38 (sees 0 0 rfl) (by rw [bs_length, hnl]; decide) (bs_whole0 _ hnl)) rfl ?_
    refine L_op rfl (op_storeA 1 0 rfl rfl rfl sz_38 (by rw [bs_length, hnl]) rfl (bs_one _) rfl ?_)
    refine L_nil ?_
    refine C_ret ?_
    refine B_ret (rv_cellA rfl ag_38 sz_38 (sees 1 0 rfl) (by rw [bs_length, hnl]; decide) (bs_whole0 _ hnl) rv_nil) ((hsub (.cons_cons _ (.cons_cons _ (.cons_cons _ (.cons _ (.cons _ (.refl _))))))).trans (hsub_pick [2, 2, 2] rfl)) ?_
    rw [nowK_all]
    exact ⟨rfl, rfl⟩

theorem rread_go {w0 : World} {H : Hp} {b st pb : Nat} {g : Option SlG} {a : Ab} {e : Rv} {gl : SlG} {p : Pa} {x y : Nat} (hd : Rv.ok ⟨b, st, g, a⟩) (n : Nat) (hn : n < a.S.length) (hoff : p.off = false) (ho : a.out = false) : FnS Try.prog w0 69 #[ptr b, ptr pb, .int .i64 (n : Int)] (RH rt (⟨b, st, g, a⟩ : Rv) e pb gl p.off (lf p) x y H) (fun E H' => E = .returned (.tuple #[.agg (bs (a.read n)).toArray, .int .i64 0]) ∧ H' = (RH rt (⟨b, st, g, a⟩ : Rv) e pb gl p.off (lf p) x y H)) := by
  have hrl := Ab.read_len hd.1 hn
  refine FnS_intro (n := 34) (rs := [.cell 6 38, .tmp 7]) (vs := [ptr b, ptr pb, .int .i64 (n : Int)]) Try.func69 rfl Try.ntmps69 rfl rfl ?_
  refine C_seq ?_
  refine C_region ?_
  refine L_op rfl (op_alloc zl_38 rfl (fun B1 => ?_))
  refine L_y rfl (y_assign rfl) rfl ?_
  refine L_nil ?_
  refine C_seq ?_
  refine C_seq ?_
  refine C_region ?_
  refine L_y rfl (y_move rfl) rfl ?_
  refine L_y rfl (y_nilCheck rfl) rfl ?_
  refine L_y rfl (y_fieldAddr rfl fl_29_1) rfl ?_
  refine L_y rfl (y_load rfl ag_4 (sees 7 0 rfl) (congrArg (fun z => some (Value.bool z)) hoff)) rfl ?_
  refine L_y rfl (y_move rfl) rfl ?_
  refine L_y rfl (y_move rfl) rfl ?_
  refine L_y rfl (y_nilCheck rfl) rfl ?_
  refine L_y rfl (y_fieldAddr rfl fl_46_5) rfl ?_
  refine L_y rfl (y_load rfl ag_4 (sees 1 0 rfl) (congrArg (fun z => some (Value.bool z)) ho)) rfl ?_
  refine L_y rfl (y_pick_f rfl rfl) rfl ?_
  refine L_nil ?_
  refine C_cond_f rfl ?_
  refine C_skip ?_
  refine C_seq ?_
  refine C_seq ?_
  refine C_region ?_
  refine L_y rfl (y_move rfl) rfl ?_
  refine L_y rfl (y_lss rfl rfl) rfl ?_
  refine L_y rfl (y_move rfl) rfl ?_
  refine L_case 21 rfl (fun hg3_3 => ?_) (fun hg3_3 => ?_)
  · exact absurd (of_decide_eq_true hg3_3) (by omega)
  · skip
    refine L_y rfl (y_move rfl) rfl ?_
    refine L_y rfl (y_move rfl) rfl ?_
    refine L_y rfl (y_nilCheck rfl) rfl ?_
    refine L_y rfl (y_fieldAddr rfl fl_46_0) rfl ?_
    refine L_y rfl (y_load rfl ag_43 (sees 1 0 rfl) rfl) rfl ?_
    refine L_y rfl (y_lenS rfl rfl Try.underlying43) rfl ?_
    refine L_y rfl (y_geq rfl rfl) rfl ?_
    refine L_y rfl (y_pick_f rfl rfl) rfl ?_
    refine L_nil ?_
    refine C_cond rfl (fun hc1 => absurd hc1 (by simp <;> omega)) (fun hc1 => ?_)
    refine C_skip ?_
    refine C_seq ?_
    refine C_region ?_
    refine L_y rfl (y_move rfl) rfl ?_
    refine L_y rfl (y_move rfl) rfl ?_
    refine L_op rfl (op_call rfl rfl (fun a w => Try.call93 a w) rfl ?_)
    refine ((rnow_s hd n hn).sub (hsub_pick [1, 1, 1] rfl)).mono ?_
    rintro _ _ ⟨rfl, rfl⟩
    refine ⟨_, rfl, ?_⟩
    refine L_op rfl (op_storeA 3 0 rfl rfl rfl sz_38 (by rw [bs_length, hrl]) rfl (bs_one _) rfl ?_)
    refine L_y rfl (y_assign rfl) rfl ?_
    refine L_nil ?_
    refine C_ret ?_
    refine B_ret (rv_cellA rfl ag_38 sz_38 (sees 3 0 rfl) (by rw [bs_length, hrl]; decide) (bs_whole0 _ hrl) (rv_tmp rfl rv_nil)) ((hsub (.cons_cons _ (.cons_cons _ (.cons_cons _ (.cons_cons _ (.cons_cons _ (.cons_cons _ (.cons_cons _ (.cons_cons _ (.cons _ (.refl _))))))))))).trans (hsub_pick [0, 0, 0, 1, 1, 1, 1, 1] rfl)) ?_
    exact ⟨rfl, rfl⟩

end Go.Proofs.Ytaeooiogjhkjfaa

/- walks (own work; the walks' lines by a program of this repo). -/
set_option linter.unusedVariables false
set_option linter.unusedSimpArgs false
set_option maxRecDepth 20000
namespace Go.Proofs.Ytaeooiogjhkjfaa
open Go.Sl
attribute [local irreducible] BodyQ WpC WpL WpS WpH OpW FnS


theorem rtear_s {w0 : World} {H : Hp} (d : Rv) (k m : Int) : FnS Try.prog w0 70 #[ptr d.b, .int .i64 k, .int .i64 m] (Rv.o rt d :: H) (fun E H' => E = .returned (.tuple #[]) ∧ H' = Rv.o rt { d with a := d.a.tear k m } :: H) := by
  have e1 : (((max k 0).toNat : Nat) : Int) = max k 0 := by omega
  have e2 : (((min (max m 0) 128).toNat : Nat) : Int) = max 0 (min m 128) := by omega
  refine FnS_intro (n := 17) (rs := []) (vs := [ptr d.b, .int .i64 k, .int .i64 m]) Try.func70 rfl Try.ntmps70 rfl rfl ?_
  refine C_region ?_
  refine L_y rfl (y_move rfl) rfl ?_
  refine L_y rfl (y_move rfl) rfl ?_
  refine L_y rfl (y_move rfl) rfl ?_
  refine L_y rfl (y_max rfl rfl) rfl ?_
  refine L_y rfl (y_move rfl) rfl ?_
  refine L_y rfl (y_min rfl rfl) rfl ?_
  refine L_y rfl (y_max rfl rfl) rfl ?_
  refine L_y rfl (y_nilCheck rfl) rfl ?_
  refine L_y rfl (y_fieldAddr rfl fl_46_2) rfl ?_
  refine L_op rfl (op_store1 0 0 rfl rfl rfl sz_3 rfl (Nat.le_of_ble_eq_true rfl) ?_)
  refine L_y rfl (y_nilCheck rfl) rfl ?_
  refine L_y rfl (y_fieldAddr rfl fl_46_3) rfl ?_
  refine L_op rfl (op_store1 0 0 rfl rfl rfl sz_3 rfl (Nat.le_of_ble_eq_true rfl) ?_)
  refine L_nil ?_
  refine B_end rv_nil (HSub.refl _) ?_
  refine ⟨rfl, ?_⟩
  simp only [Rv.o, rcells, Ab.tear, e1, e2]
  rfl

theorem rout_t0 {w0 : World} {H : Hp} (d : Rv) (ho : d.a.out = false) : FnS Try.prog w0 71 #[ptr d.b, .bool true] (Rv.o rt d :: H) (fun E H' => E = .returned (.tuple #[]) ∧ H' = Rv.o rt { d with g := none, a := { d.a with Q := [], out := true } } :: H) := by
  refine FnS_intro (n := 19) (rs := []) (vs := [ptr d.b, .bool true]) Try.func71 rfl Try.ntmps71 rfl rfl ?_
  refine C_seq ?_
  refine C_seq ?_
  refine C_region ?_
  refine L_y rfl (y_move rfl) rfl ?_
  refine L_y rfl (y_move rfl) rfl ?_
  refine L_y rfl (y_move rfl) rfl ?_
  refine L_y rfl (y_nilCheck rfl) rfl ?_
  refine L_y rfl (y_fieldAddr rfl fl_46_5) rfl ?_
  refine L_y rfl (y_load rfl ag_4 (sees 0 0 rfl) (congrArg (fun z => some (Value.bool z)) ho)) rfl ?_
  refine L_y rfl (y_not rfl) rfl ?_
  refine L_y rfl (y_pick_t rfl rfl) rfl ?_
  refine L_nil ?_
  refine C_cond_t rfl ?_
  refine C_region ?_
  refine L_y rfl (y_move rfl) rfl ?_
  refine L_y rfl (y_nilCheck rfl) rfl ?_
  refine L_y rfl (y_fieldAddr rfl fl_46_1) rfl ?_
  refine L_op rfl (op_store1 0 0 rfl rfl rfl sz_44 rfl (Nat.le_of_ble_eq_true rfl) ?_)
  refine L_nil ?_
  refine C_region ?_
  refine L_y rfl (y_move rfl) rfl ?_
  refine L_y rfl (y_move rfl) rfl ?_
  refine L_y rfl (y_nilCheck rfl) rfl ?_
  refine L_y rfl (y_fieldAddr rfl fl_46_5) rfl ?_
  refine L_op rfl (op_store1 0 0 rfl rfl rfl sz_4 rfl (Nat.le_of_ble_eq_true rfl) ?_)
  refine L_nil ?_
  refine B_end rv_nil (HSub.refl _) ?_
  exact ⟨rfl, rfl⟩

theorem rout_t1 {w0 : World} {H : Hp} (d : Rv) (ho : d.a.out = true) : FnS Try.prog w0 71 #[ptr d.b, .bool true] (Rv.o rt d :: H) (fun E H' => E = .returned (.tuple #[]) ∧ H' = Rv.o rt { d with a := { d.a with out := true } } :: H) := by
  refine FnS_intro (n := 19) (rs := []) (vs := [ptr d.b, .bool true]) Try.func71 rfl Try.ntmps71 rfl rfl ?_
  refine C_seq ?_
  refine C_seq ?_
  refine C_region ?_
  refine L_y rfl (y_move rfl) rfl ?_
  refine L_y rfl (y_move rfl) rfl ?_
  refine L_y rfl (y_move rfl) rfl ?_
  refine L_y rfl (y_nilCheck rfl) rfl ?_
  refine L_y rfl (y_fieldAddr rfl fl_46_5) rfl ?_
  refine L_y rfl (y_load rfl ag_4 (sees 0 0 rfl) (congrArg (fun z => some (Value.bool z)) ho)) rfl ?_
  refine L_y rfl (y_not rfl) rfl ?_
  refine L_y rfl (y_pick_t rfl rfl) rfl ?_
  refine L_nil ?_
  refine C_cond_f rfl ?_
  refine C_skip ?_
  refine C_region ?_
  refine L_y rfl (y_move rfl) rfl ?_
  refine L_y rfl (y_move rfl) rfl ?_
  refine L_y rfl (y_nilCheck rfl) rfl ?_
  refine L_y rfl (y_fieldAddr rfl fl_46_5) rfl ?_
  refine L_op rfl (op_store1 0 0 rfl rfl rfl sz_4 rfl (Nat.le_of_ble_eq_true rfl) ?_)
  refine L_nil ?_
  refine B_end rv_nil (HSub.refl _) ?_
  exact ⟨rfl, rfl⟩

theorem rout_f {w0 : World} {H : Hp} (d : Rv) : FnS Try.prog w0 71 #[ptr d.b, .bool false] (Rv.o rt d :: H) (fun E H' => E = .returned (.tuple #[]) ∧ H' = Rv.o rt { d with a := { d.a with out := false } } :: H) := by
  refine FnS_intro (n := 19) (rs := []) (vs := [ptr d.b, .bool false]) Try.func71 rfl Try.ntmps71 rfl rfl ?_
  refine C_seq ?_
  refine C_seq ?_
  refine C_region ?_
  refine L_y rfl (y_move rfl) rfl ?_
  refine L_y rfl (y_move rfl) rfl ?_
  refine L_skip rfl rfl ?_
  refine L_skip rfl rfl ?_
  refine L_skip rfl rfl ?_
  refine L_skip rfl rfl ?_
  refine L_skip rfl rfl ?_
  refine L_y rfl (y_pick_f rfl rfl) rfl ?_
  refine L_nil ?_
  refine C_cond_f rfl ?_
  refine C_skip ?_
  refine C_region ?_
  refine L_y rfl (y_move rfl) rfl ?_
  refine L_y rfl (y_move rfl) rfl ?_
  refine L_y rfl (y_nilCheck rfl) rfl ?_
  refine L_y rfl (y_fieldAddr rfl fl_46_5) rfl ?_
  refine L_op rfl (op_store1 0 0 rfl rfl rfl sz_4 rfl (Nat.le_of_ble_eq_true rfl) ?_)
  refine L_nil ?_
  refine B_end rv_nil (HSub.refl _) ?_
  exact ⟨rfl, rfl⟩

theorem rrot_no {w0 : World} {H : Hp} {b st : Nat} {g : Option SlG} {a : Ab} (n i : Int) (m : UInt8) (hn : ¬ (0 ≤ n ∧ n < a.S.length ∧ 0 ≤ i ∧ i < 128)) : FnS Try.prog w0 72 #[ptr b, .int .i64 n, .int .i64 i, .int .u8 (m.toNat : Int)] (Rv.o rt (⟨b, st, g, a⟩ : Rv) :: Rv.t rt (⟨b, st, g, a⟩ : Rv) :: H) (fun E H' => E = .returned (.bool false) ∧ H' = (Rv.o rt (⟨b, st, g, a⟩ : Rv) :: Rv.t rt (⟨b, st, g, a⟩ : Rv) :: H)) := by
  refine FnS_intro (n := 50) (rs := [.tmp 8]) (vs := [ptr b, .int .i64 n, .int .i64 i, .int .u8 (m.toNat : Int)]) Try.func72 rfl Try.ntmps72 rfl rfl ?_
  refine C_seq ?_
  refine C_region ?_
  refine L_y rfl (y_assign rfl) rfl ?_
  refine L_nil ?_
  refine C_seq ?_
  refine C_seq ?_
  refine C_region ?_
  refine L_y rfl (y_move rfl) rfl ?_
  refine L_y rfl (y_lss rfl rfl) rfl ?_
  refine L_y rfl (y_move rfl) rfl ?_
  refine L_case 12 rfl (fun hg1_3 => ?_) (fun hg1_3 => ?_)
  · skip
    refine L_skip rfl rfl ?_
    refine L_skip rfl rfl ?_
    refine L_skip rfl rfl ?_
    refine L_skip rfl rfl ?_
    refine L_skip rfl rfl ?_
    refine L_skip rfl rfl ?_
    refine L_skip rfl rfl ?_
    refine L_y rfl (y_pick_t rfl rfl) rfl ?_
    refine L_y rfl (y_move rfl) rfl ?_
    refine L_skip rfl rfl ?_
    refine L_skip rfl rfl ?_
    refine L_y rfl (y_pick_t rfl rfl) rfl ?_
    refine L_y rfl (y_move rfl) rfl ?_
    refine L_skip rfl rfl ?_
    refine L_skip rfl rfl ?_
    refine L_y rfl (y_pick_t rfl rfl) rfl ?_
    refine L_nil ?_
    refine C_cond_t rfl ?_
    refine C_seq ?_
    refine C_region ?_
    refine L_y rfl (y_assign rfl) rfl ?_
    refine L_nil ?_
    refine C_ret ?_
    refine B_ret (rv_tmp rfl rv_nil) (HSub.refl _) ?_
    exact ⟨rfl, rfl⟩
  · skip
    refine L_y rfl (y_move rfl) rfl ?_
    refine L_y rfl (y_move rfl) rfl ?_
    refine L_y rfl (y_nilCheck rfl) rfl ?_
    refine L_y rfl (y_fieldAddr rfl fl_46_0) rfl ?_
    refine L_y rfl (y_load rfl ag_43 (sees 0 0 rfl) rfl) rfl ?_
    refine L_y rfl (y_lenS rfl rfl Try.underlying43) rfl ?_
    refine L_y rfl (y_geq rfl rfl) rfl ?_
    refine L_y rfl (y_pick_f rfl rfl) rfl ?_
    refine L_y rfl (y_move rfl) rfl ?_
    refine L_case 21 rfl (fun hg1_12 => ?_) (fun hg1_12 => ?_)
    · skip
      refine L_skip rfl rfl ?_
      refine L_skip rfl rfl ?_
      refine L_y rfl (y_pick_t rfl rfl) rfl ?_
      refine L_y rfl (y_move rfl) rfl ?_
      refine L_skip rfl rfl ?_
      refine L_skip rfl rfl ?_
      refine L_y rfl (y_pick_t rfl rfl) rfl ?_
      refine L_nil ?_
      refine C_cond_t rfl ?_
      refine C_seq ?_
      refine C_region ?_
      refine L_y rfl (y_assign rfl) rfl ?_
      refine L_nil ?_
      refine C_ret ?_
      refine B_ret (rv_tmp rfl rv_nil) (HSub.refl _) ?_
      exact ⟨rfl, rfl⟩
    · skip
      refine L_y rfl (y_move rfl) rfl ?_
      refine L_y rfl (y_lss rfl rfl) rfl ?_
      refine L_y rfl (y_pick_f rfl rfl) rfl ?_
      refine L_y rfl (y_move rfl) rfl ?_
      refine L_case 25 rfl (fun hg1_16 => ?_) (fun hg1_16 => ?_)
      · skip
        refine L_skip rfl rfl ?_
        refine L_skip rfl rfl ?_
        refine L_y rfl (y_pick_t rfl rfl) rfl ?_
        refine L_nil ?_
        refine C_cond_t rfl ?_
        refine C_seq ?_
        refine C_region ?_
        refine L_y rfl (y_assign rfl) rfl ?_
        refine L_nil ?_
        refine C_ret ?_
        refine B_ret (rv_tmp rfl rv_nil) (HSub.refl _) ?_
        exact ⟨rfl, rfl⟩
      · skip
        refine L_y rfl (y_move rfl) rfl ?_
        refine L_y rfl (y_geq rfl rfl) rfl ?_
        refine L_y rfl (y_pick_f rfl rfl) rfl ?_
        refine L_nil ?_
        refine C_cond rfl (fun hc0 => ?_) (fun hc0 => absurd hc0 (by have h1 := of_decide_eq_false hg1_3; have h2 := of_decide_eq_false hg1_12; have h3 := of_decide_eq_false hg1_16; simp only at h2; simp; omega))
        refine C_seq ?_
        refine C_region ?_
        refine L_y rfl (y_assign rfl) rfl ?_
        refine L_nil ?_
        refine C_ret ?_
        refine B_ret (rv_tmp rfl rv_nil) (HSub.refl _) ?_
        exact ⟨rfl, rfl⟩

theorem rrot_go {w0 : World} {H : Hp} {b st : Nat} {g : Option SlG} {a : Ab} (hok : a.ok) (n i : Nat) (m : UInt8) (hn : n < a.S.length) (hi : i < 128) : FnS Try.prog w0 72 #[ptr b, .int .i64 (n : Int), .int .i64 (i : Int), .int .u8 (m.toNat : Int)] (Rv.o rt (⟨b, st, g, a⟩ : Rv) :: Rv.t rt (⟨b, st, g, a⟩ : Rv) :: H) (fun E H' => E = .returned (.bool true) ∧ H' = Rv.o rt ⟨b, st, g, a.rot n i m⟩ :: Rv.t rt ⟨b, st, g, a.rot n i m⟩ :: H) := by
  obtain ⟨s, hs⟩ : ∃ s, a.S[n]? = some s := ⟨_, List.getElem?_eq_getElem hn⟩
  have hs1 := hok.1 s (List.mem_of_getElem? hs)
  obtain ⟨v, hv⟩ : ∃ v, s[i]? = some v := ⟨_, List.getElem?_eq_getElem (by omega)⟩
  have hfl := flat_len hok.1
  have hl2 : (s.set i (v ^^^ m)).length = 128 := by rw [List.length_set, hs1]
  have erot : a.rot n i m = { a with S := a.S.set n (s.set i (v ^^^ m)) } := by simp [Ab.rot, List.getD, hs, hv]
  refine FnS_intro (n := 50) (rs := [.tmp 8]) (vs := [ptr b, .int .i64 (n : Int), .int .i64 (i : Int), .int .u8 (m.toNat : Int)]) Try.func72 rfl Try.ntmps72 rfl rfl ?_
  refine C_seq ?_
  refine C_region ?_
  refine L_y rfl (y_assign rfl) rfl ?_
  refine L_nil ?_
  refine C_seq ?_
  refine C_seq ?_
  refine C_region ?_
  refine L_y rfl (y_move rfl) rfl ?_
  refine L_y rfl (y_lss rfl rfl) rfl ?_
  refine L_y rfl (y_move rfl) rfl ?_
  refine L_case 12 rfl (fun hg1_3 => ?_) (fun hg1_3 => ?_)
  · exact absurd (of_decide_eq_true hg1_3) (by first | omega | (simp only; omega))
  · skip
    refine L_y rfl (y_move rfl) rfl ?_
    refine L_y rfl (y_move rfl) rfl ?_
    refine L_y rfl (y_nilCheck rfl) rfl ?_
    refine L_y rfl (y_fieldAddr rfl fl_46_0) rfl ?_
    refine L_y rfl (y_load rfl ag_43 (sees 0 0 rfl) rfl) rfl ?_
    refine L_y rfl (y_lenS rfl rfl Try.underlying43) rfl ?_
    refine L_y rfl (y_geq rfl rfl) rfl ?_
    refine L_y rfl (y_pick_f rfl rfl) rfl ?_
    refine L_y rfl (y_move rfl) rfl ?_
    refine L_case 21 rfl (fun hg1_12 => ?_) (fun hg1_12 => ?_)
    · exact absurd (of_decide_eq_true hg1_12) (by first | omega | (simp only; omega))
    · skip
      refine L_y rfl (y_move rfl) rfl ?_
      refine L_y rfl (y_lss rfl rfl) rfl ?_
      refine L_y rfl (y_pick_f rfl rfl) rfl ?_
      refine L_y rfl (y_move rfl) rfl ?_
      refine L_case 25 rfl (fun hg1_16 => ?_) (fun hg1_16 => ?_)
      · exact absurd (of_decide_eq_true hg1_16) (by first | omega | (simp only; omega))
      · skip
        refine L_y rfl (y_move rfl) rfl ?_
        refine L_y rfl (y_geq rfl rfl) rfl ?_
        refine L_y rfl (y_pick_f rfl rfl) rfl ?_
        refine L_nil ?_
        refine C_cond rfl (fun hc0 => absurd hc0 (by simp <;> omega)) (fun hc0 => ?_)
        refine C_skip ?_
        refine C_seq ?_
        refine C_region ?_
        refine L_y rfl (y_move rfl) rfl ?_
        refine L_y rfl (y_nilCheck rfl) rfl ?_
        refine L_y rfl (y_fieldAddr rfl fl_46_0) rfl ?_
        refine L_y rfl (y_load rfl ag_43 (sees 0 0 rfl) rfl) rfl ?_
        refine L_y rfl (y_move rfl) rfl ?_
        refine L_y rfl (y_indexS rfl rfl Try.underlying43 sz_38 (by omega) (by first | omega | (simp only; omega)) (show _ = n * 128 from by simp)) rfl ?_
        refine L_y rfl (y_loadA rfl ag_38 sz_38 (sees 1 0 rfl) (by rw [bs_length, hfl]; omega) (show ((bs _).drop (n * 128)).take 128 = bs s from by rw [bs_drop, bs_take, flat_sec hok.1 hs])) rfl ?_
        refine L_op rfl (op_alloc zl_38 rfl (fun B1 => ?_))
        refine L_op rfl (op_storeA 0 0 rfl rfl rfl sz_38 (by rw [bs_length, hs1]) rfl (bs_one _) rfl ?_)
        refine L_nil ?_
        refine C_seq ?_
        refine C_region ?_
        refine L_y rfl (y_move rfl) rfl ?_
        refine L_y rfl (y_move rfl) rfl ?_
        refine L_y rfl (y_indexA rfl rfl Try.underlying38 sz_5 (by omega) (by omega) (show _ = i from by simp)) rfl ?_
        refine L_y rfl (y_load rfl ag_5 (sees 0 0 rfl) (show _ = some (u8 v) from by rw [bs_get, hv]; rfl)) rfl ?_
        refine L_y rfl (y_move rfl) rfl ?_
        refine L_y rfl (y_xor rfl rfl (bits_xor8 v m)) rfl ?_
        refine L_y rfl (y_indexA rfl rfl Try.underlying38 sz_5 (by omega) (by omega) (show _ = i from by simp)) rfl ?_
        refine L_op rfl (op_store1 0 0 rfl rfl rfl sz_5 rfl (by rw [bs_length, hs1]; omega) ?_)
        refine L_nil ?_
        rw [show Value.int .u8 (((v ^^^ m).toNat : Nat) : Int) = u8 (v ^^^ m) from rfl, bs_set]
        refine C_seq ?_
        refine C_regionT 7 (by kernel_rfl) (by kernel_rfl) ?_
        refine S_y rfl (y_move rfl) rfl ?_
        refine S_y rfl (y_nilCheck rfl) rfl ?_
        refine S_y rfl (y_fieldAddr rfl fl_46_0) rfl ?_
        refine S_y rfl (y_load rfl ag_43 (sees 1 0 rfl) rfl) rfl ?_
        refine S_y rfl (y_move rfl) rfl ?_
        refine S_y rfl (y_loadA rfl ag_38 sz_38 (sees 0 0 rfl) (by rw [bs_length, hl2]; decide) (bs_whole0 _ hl2)) rfl ?_
        refine S_y rfl (y_indexS rfl rfl Try.underlying43 sz_38 (by omega) (by first | omega | (simp only; omega)) (show _ = n * 128 from by simp)) rfl ?_
        refine S_nil ?_
        refine L_op rfl (op_store 2 0 rfl rfl rfl sz_38 (by rw [bs_length, hl2]) rfl (bs_one _) (by rw [bs_length, hfl]; omega) ?_)
        rw [flat_spl hok.1 (by omega) hl2]
        refine L_nil ?_
        refine C_seq ?_
        refine C_region ?_
        refine L_y rfl (y_assign rfl) rfl ?_
        refine L_nil ?_
        refine C_ret ?_
        refine B_ret (rv_tmp rfl rv_nil) ((hsub (.cons_cons _ (.cons_cons _ (.cons _ (.refl _))))).trans (hsub_pick [1, 1] rfl)) ?_
        refine ⟨rfl, ?_⟩
        rw [erot]
        unfold Rv.o Rv.t rcells
        simp only [List.length_set]
        rfl

theorem rnew_s {w0 : World} {H : Hp} {pb : Nat} {left : Int} {pg : Option SlG} {devs : List Nat} (n : Int) (hpg : slOk 1 pg devs.length (devs.map ptr)) (hk : devs.length ≤ 1000) : FnS Try.prog w0 18 #[.int .i64 n, ptr pb] ([(pb, .cells [slV pg (devs).length, .bool false, .int .i64 left].toArray 29)] :: slSeg 33 pg ((devs).map ptr) :: H) (fun E H' => ∃ b st g', slOk 1 g' (devs ++ [b]).length ((devs ++ [b]).map ptr) ∧ E = .returned (ptr b) ∧ H' = Rv.o rt (⟨b, st, none, Ab.new (szOf n)⟩ : Rv) :: Rv.t rt (⟨b, st, none, Ab.new (szOf n)⟩ : Rv) :: Rv.q rt (⟨b, st, none, Ab.new (szOf n)⟩ : Rv) :: [(pb, .cells [slV g' (devs ++ [b]).length, .bool false, .int .i64 left].toArray 29)] :: slSeg 33 g' ((devs ++ [b]).map ptr) :: H) := by
  have e0 : (max 0 (min n 4096)).toNat = szOf n := by unfold szOf; omega
  refine FnS_intro (n := 23) (rs := [.tmp 4]) (vs := [.int .i64 n, ptr pb]) Try.func18 rfl Try.ntmps18 rfl rfl ?_
  refine C_seq ?_
  refine C_region ?_
  refine L_y rfl (y_assign rfl) rfl ?_
  refine L_nil ?_
  refine C_seq ?_
  refine C_region ?_
  refine L_y rfl (y_move rfl) rfl ?_
  refine L_y rfl (y_min rfl rfl) rfl ?_
  refine L_y rfl (y_max rfl rfl) rfl ?_
  refine L_op rfl (op_makeSlice rfl Try.underlying43 by_38 sz_38 zl_38 rfl (by omega) (by omega) (by omega) rfl (fun B1 => ?_))
  refine L_y rfl (y_build (vs := [(0, _)]) rfl pl_46 zl_46 rfl) rfl ?_
  refine L_op rfl (op_box rfl rfl rfl (fun B2 => ?_))
  refine L_y rfl (y_assign rfl) rfl ?_
  refine L_nil ?_
  refine C_seq ?_
  refine C_region ?_
  refine L_y rfl (y_move rfl) rfl ?_
  refine L_y rfl (y_move rfl) rfl ?_
  refine L_y rfl (y_nilCheck rfl) rfl ?_
  refine L_y rfl (y_fieldAddr rfl fl_29_0) rfl ?_
  refine L_y rfl (y_load rfl ag_27 (sees 2 0 rfl) rfl) rfl ?_
  refine L_y rfl (y_move rfl) rfl ?_
  refine L_op rfl (op_buildSlice (vs := [(0, _)]) rfl Try.underlying27 sz_33 zl_33 rfl (by decide) (fill_one rfl rfl rfl) rfl (fun B3 => ?_))
  refine L_op rfl (op_append (gs := pg) (len := devs.length) (m := 1) (xs := devs.map ptr) (vs := [ptr B2]) 4 rfl rfl rfl hpg (src_slice (sees 0 0 rfl) (Nat.le_of_ble_eq_true rfl) rfl) rfl (fun v hv => by simp at hv; subst hv; rfl) Try.underlying27 ni_27 sz_33 by_33 (by decide) zl_33 rfl (by omega) rfl (fun g' hg' => ?_))
  rw [show devs.map ptr ++ [ptr B2] = (devs ++ [B2]).map ptr from by simp, show devs.length + 1 = (devs ++ [B2]).length from by simp] at hg' ⊢
  refine L_y rfl (y_nilCheck rfl) rfl ?_
  refine L_y rfl (y_fieldAddr rfl fl_29_0) rfl ?_
  refine L_op rfl (op_store1 3 0 rfl rfl (one_slV _ _) sz_27 rfl (Nat.le_of_ble_eq_true rfl) ?_)
  refine L_nil ?_
  refine C_seq ?_
  refine C_region ?_
  refine L_y rfl (y_move rfl) rfl ?_
  refine L_y rfl (y_assign rfl) rfl ?_
  refine L_nil ?_
  refine C_ret ?_
  refine B_ret (rv_tmp rfl rv_nil) ((hsub_nil2).trans ((hsub (.cons_cons _ (.cons_cons _ (.cons_cons _ (.cons_cons _ (.cons _ (.refl _))))))).trans (hsub_pick [1, 1, 1, 1] rfl))) ?_
  refine ⟨B2, B1, g', hg', rfl, ?_⟩
  rw [zsecs, e0]
  unfold Rv.o Rv.t Rv.q rcells Ab.new
  simp only [List.length_replicate]
  rfl

end Go.Proofs.Ytaeooiogjhkjfaa

/- walks (own work; the walks' lines by a program of this repo). -/
set_option linter.unusedVariables false
set_option linter.unusedSimpArgs false
set_option maxRecDepth 20000
namespace Go.Proofs.Ytaeooiogjhkjfaa
open Go.Sl
attribute [local irreducible] BodyQ WpC WpL WpS WpH OpW FnS


theorem rwrite_1 {w0 : World} {H : Hp} {pb : Nat} {gl : SlG} {d e : Rv} {p : Pa} {x y : Nat} (hd : d.ok) (he : e.ok) (hxy : Ord8 x y d.b e.b) (hf : p.fit) (hl : lf p ≤ 9223372036854775807) (n : Int) (s : Sec) (hs : s.length = 128) (hQ : d.a.Q.length < 100000) : FnS Try.prog w0 67 #[ptr d.b, ptr pb, .int .i64 n, .agg (bs s).toArray] (RH rt d e pb gl p.off (lf p) x y H) (fun E H' => E = .returned (.int .i64 (writeE d.a p n)) ∧ ∃ d' e', Res8 d e d' e' (writeA d.a p n s) (wgo d.a p n) p ∧ H' = RH rt d' e' pb gl (writeP d.a p n).off (lf (writeP d.a p n)) x y H) := by
  rcases down_or (a := d.a) (p := p) with ⟨h1, h2⟩ | ⟨h1, h2, h3⟩ | ⟨h1, h2, h3⟩
  · obtain ⟨q1, q2, q3, q4⟩ := wr_dn h1 n s
    refine (rwrite_off (b := d.b) (st := d.st) (g := d.g) (a := d.a) (e := e)  n s h2).mono ?_
    rintro _ _ ⟨rfl, rfl⟩
    rw [q1, q2, q3, q4]
    exact ⟨rfl, d, e, Res8.same hd he p, rfl⟩
  · obtain ⟨q1, q2, q3, q4⟩ := wr_dn h1 n s
    refine (rwrite_gone (b := d.b) (st := d.st) (g := d.g) (a := d.a) (e := e)  n s h2 h3).mono ?_
    rintro _ _ ⟨rfl, rfl⟩
    rw [q1, q2, q3, q4]
    exact ⟨rfl, d, e, Res8.same hd he p, rfl⟩
  · rcases has_or (a := d.a) (n := n) with ⟨k1, k2⟩ | ⟨k, rfl, k1, k2⟩
    · obtain ⟨q1, q2, q3, q4⟩ := wr_far h1 k1 s
      refine (rwrite_far (b := d.b) (st := d.st) (g := d.g) (a := d.a) (e := e)  n s h2 h3 k2).mono ?_
      rintro _ _ ⟨rfl, rfl⟩
      rw [q1, q2, q3, q4]
      exact ⟨rfl, d, e, Res8.same hd he p, rfl⟩
    · obtain ⟨q1, q2, q3, q4⟩ := wr_go h1 k2 s
      obtain ⟨l1, l2, l3, l4⟩ := lf_step hf
      refine (rwrite_go (b := d.b) (st := d.st) (g := d.g) (a := d.a) (e := e)  hd he hxy hf hl k s k1 hs hQ h2 h3).mono ?_
      rintro _ _ ⟨g2, ho, rfl, rfl⟩
      rw [q1, q2, q3, q4]
      cases hfa : p.falls with
      | true => exact ⟨rfl, _, _, Res8.cuts ho he rfl (step_t hfa).symm hfa, by rw [l4 hfa]; rfl⟩
      | false => exact ⟨rfl, _, _, Res8.still ho he rfl (step_f hfa).symm hfa, by rw [l3 hfa]; rfl⟩

theorem rflush_1 {w0 : World} {H : Hp} {pb : Nat} {gl : SlG} {d e : Rv} {p : Pa} {x y : Nat} (hd : d.ok) (he : e.ok) (hxy : Ord8 x y d.b e.b) (hf : p.fit) (hl : lf p ≤ 9223372036854775807)  : FnS Try.prog w0 68 #[ptr d.b, ptr pb] (RH rt d e pb gl p.off (lf p) x y H) (fun E H' => E = .returned (.int .i64 (flushE d.a p)) ∧ ∃ d' e', Res8 d e d' e' (flushA d.a p) (!d.a.down p) p ∧ H' = RH rt d' e' pb gl (flushP d.a p).off (lf (flushP d.a p)) x y H) := by
  rcases down_or (a := d.a) (p := p) with ⟨h1, h2⟩ | ⟨h1, h2, h3⟩ | ⟨h1, h2, h3⟩
  · obtain ⟨q1, q2, q3⟩ := fl_dn h1
    refine (rflush_off (b := d.b) (st := d.st) (g := d.g) (a := d.a) (e := e)  h2).mono ?_
    rintro _ _ ⟨rfl, rfl⟩
    rw [q1, q2, q3, h1]
    exact ⟨rfl, d, e, Res8.same hd he p, rfl⟩
  · obtain ⟨q1, q2, q3⟩ := fl_dn h1
    refine (rflush_gone (b := d.b) (st := d.st) (g := d.g) (a := d.a) (e := e)  h2 h3).mono ?_
    rintro _ _ ⟨rfl, rfl⟩
    rw [q1, q2, q3, h1]
    exact ⟨rfl, d, e, Res8.same hd he p, rfl⟩
  · obtain ⟨q1, q2, q3⟩ := fl_go h1
    obtain ⟨l1, l2, l3, l4⟩ := lf_step hf
    refine (rflush_up (b := d.b) (st := d.st) (g := d.g) (a := d.a) (e := e)  hd he hxy hf hl h2 h3).mono ?_
    rintro _ _ ⟨rfl, rfl⟩
    rw [q1, q2, q3, h1]
    cases hfa : p.falls with
    | true => exact ⟨rfl, _, _, Res8.cuts hd he rfl rfl hfa, by rw [l4 hfa]; rfl⟩
    | false =>
      cases hli : d.a.lies with
      | true => exact ⟨rfl, d, e, Res8.still hd he rfl (by simp [Ab.flush, hli]) hfa, by rw [l3 hfa]; rfl⟩
      | false => exact ⟨rfl, d.fl, e, Res8.still (Rv.fl_ok hd) he rfl (Rv.fl_a hli) hfa, by rw [l3 hfa]; rfl⟩

theorem rread_1 {w0 : World} {H : Hp} {pb : Nat} {gl : SlG} {d e : Rv} {p : Pa} {x y : Nat} (hd : d.ok) (he : e.ok) (n : Int) : FnS Try.prog w0 69 #[ptr d.b, ptr pb, .int .i64 n] (RH rt d e pb gl p.off (lf p) x y H) (fun E H' => E = .returned (.tuple #[.agg (bs (readS d.a p n)).toArray, .int .i64 (readE d.a p n)]) ∧ H' = (RH rt d e pb gl p.off (lf p) x y H)) := by
  rcases down_or (a := d.a) (p := p) with ⟨h1, h2⟩ | ⟨h1, h2, h3⟩ | ⟨h1, h2, h3⟩
  · obtain ⟨q1, q2⟩ := rd_dn h1 n
    rw [q1, q2]
    exact rread_off (b := d.b) (st := d.st) (g := d.g) (a := d.a) (e := e)  n h2
  · obtain ⟨q1, q2⟩ := rd_dn h1 n
    rw [q1, q2]
    exact rread_gone (b := d.b) (st := d.st) (g := d.g) (a := d.a) (e := e)  n h2 h3
  · rcases has_or (a := d.a) (n := n) with ⟨k1, k2⟩ | ⟨k, rfl, k1, k2⟩
    · obtain ⟨q1, q2⟩ := rd_far h1 k1
      rw [q1, q2]
      exact rread_far (b := d.b) (st := d.st) (g := d.g) (a := d.a) (e := e)  n h2 h3 k2
    · obtain ⟨q1, q2⟩ := rd_go h1 k2
      rw [q1, q2]
      exact rread_go (b := d.b) (st := d.st) (g := d.g) (a := d.a) (e := e)  hd k k1 h2 h3

theorem rtear_1 {w0 : World} {H : Hp} {pb : Nat} {gl : SlG} {d e : Rv} {p : Pa} {x y : Nat} (hd : d.ok) (he : e.ok) (k m : Int) : FnS Try.prog w0 70 #[ptr d.b, .int .i64 k, .int .i64 m] (RH rt d e pb gl p.off (lf p) x y H) (fun E H' => E = .returned (.tuple #[]) ∧ ∃ d', Res8 d e d' e (d.a.tear k m) false p ∧ H' = RH rt d' e pb gl p.off (lf p) x y H) := by
  refine (rtear_s d k m).mono ?_
  rintro _ _ ⟨rfl, rfl⟩
  exact ⟨rfl, _, Res8.set (d.a.tear k m) hd he (Ab.tear_ok hd.1) rfl p, rfl⟩

theorem rrot_1 {w0 : World} {H : Hp} {pb : Nat} {gl : SlG} {d e : Rv} {p : Pa} {x y : Nat} (hd : d.ok) (he : e.ok) (n i : Int) (m : UInt8) : FnS Try.prog w0 72 #[ptr d.b, .int .i64 n, .int .i64 i, .int .u8 (m.toNat : Int)] (RH rt d e pb gl p.off (lf p) x y H) (fun E H' => E = .returned (.bool (d.a.rotE n i)) ∧ ∃ d', Res8 d e d' e (d.a.rots n i m) false p ∧ H' = RH rt d' e pb gl p.off (lf p) x y H) := by
  by_cases h : 0 ≤ n ∧ n < d.a.S.length ∧ 0 ≤ i ∧ i < 128
  · obtain ⟨k, rfl⟩ := Int.eq_ofNat_of_zero_le h.1
    obtain ⟨j, rfl⟩ := Int.eq_ofNat_of_zero_le h.2.2.1
    have he1 : d.a.rotE (k : Int) (j : Int) = true := by simp [Ab.rotE, Ab.has]; omega
    have he2 : d.a.rots (k : Int) (j : Int) m = d.a.rot k j m := by simp [Ab.rots, he1]
    rw [he1, he2]
    refine (rrot_go (b := d.b) (st := d.st) (g := d.g) (a := d.a)  hd.1 k j m (by omega) (by omega)).mono ?_
    rintro _ _ ⟨rfl, rfl⟩
    exact ⟨rfl, _, Res8.set (d.a.rot k j m) hd he (Ab.rot_ok hd.1 (by omega)) rfl p, rfl⟩
  · have he1 : d.a.rotE n i = false := by simp [Ab.rotE, Ab.has]; omega
    have he2 : d.a.rots n i m = d.a := by simp [Ab.rots, he1]
    rw [he1, he2]
    refine (rrot_no (b := d.b) (st := d.st) (g := d.g) (a := d.a)  n i m h).mono ?_
    rintro _ _ ⟨rfl, rfl⟩
    exact ⟨rfl, d, Res8.same hd he p, rfl⟩

theorem rout_1 {w0 : World} {H : Hp} {pb : Nat} {gl : SlG} {d e : Rv} {p : Pa} {x y : Nat} (hd : d.ok) (he : e.ok) (hfit : d.a.fit) (on : Bool) : FnS Try.prog w0 71 #[ptr d.b, .bool on] (RH rt d e pb gl p.off (lf p) x y H) (fun E H' => E = .returned (.tuple #[]) ∧ ∃ d', Res8 d e d' e (d.a.outs on) false p ∧ H' = RH rt d' e pb gl p.off (lf p) x y H) := by
  cases on with
  | false =>
    refine (rout_f d).mono ?_
    rintro _ _ ⟨rfl, rfl⟩
    exact ⟨rfl, _, Res8.set (d.a.outs false) hd he hd.1 rfl p, rfl⟩
  | true =>
    cases ho : d.a.out with
    | true =>
      refine (rout_t1 d ho).mono ?_
      rintro _ _ ⟨rfl, rfl⟩
      rw [show d.a.outs true = { d.a with out := true } from by simp [Ab.outs, hfit ho]]
      exact ⟨rfl, _, Res8.set { d.a with out := true } hd he hd.1 rfl p, rfl⟩
    | false =>
      refine (rout_t0 d ho).weak ?_
      rintro _ _ ⟨rfl, rfl⟩
      refine ⟨_, ?_, rfl, { d with g := none, a := { d.a with Q := [], out := true } }, Res8.mine (d := d) (B := d.a.outs true) (show Rv.ok { d with g := none, a := { d.a with Q := [], out := true } } from ⟨⟨hd.1.1, hd.1.2.1, fun x hx => by simp at hx, hd.1.2.2.2⟩, ⟨rfl, rfl⟩, by simp⟩) he rfl rfl p, rfl⟩
      exact (hsub_flat rfl : HSub (Rv.o rt _ :: Rv.t rt d :: [] :: e.o rt :: e.t rt :: e.q rt :: rpo rt pb gl p.off (lf p) :: rpq rt gl x y :: H) (Rv.o rt _ :: Rv.t rt d :: e.o rt :: e.t rt :: e.q rt :: rpo rt pb gl p.off (lf p) :: rpq rt gl x y :: H)).trans (hsub (.cons_cons _ (.cons_cons _ (.cons _ (.refl _)))))

end Go.Proofs.Ytaeooiogjhkjfaa

/- walks (own work; the walks' lines by a program of this repo). -/
set_option linter.unusedVariables false
set_option linter.unusedSimpArgs false
set_option maxRecDepth 20000
namespace Go.Proofs.Ytaeooiogjhkjfaa
open Go.Sl
attribute [local irreducible] BodyQ WpC WpL WpS WpH OpW FnS

abbrev dt : DT := ⟨116, 38, 142, 1, 113, 61⟩

theorem down_s {w0 : World} {H : Hp} (d : Dv) (p : Pw) (hD : Sees (fun w => St w0 w H) d.b (.cells d.cells.toArray dt.dev)) (hP : Sees (fun w => St w0 w H) d.pw (.cells p.cells.toArray dt.pow)) : FnS Try.prog w0 87 #[ptr d.b] H (fun e H' => e = .returned (.bool (d.a.out || p.a.off)) ∧ H' = H) := by
  refine FnS_intro (n := 16) (rs := [.tmp 2]) (vs := [ptr d.b]) Try.func87 rfl Try.ntmps87 rfl rfl ?_
  refine C_seq ?_
  refine C_region ?_
  refine L_y rfl (y_assign rfl) rfl ?_
  refine L_nil ?_
  refine C_seq ?_
  refine C_region ?_
  refine L_y rfl (y_move rfl) rfl ?_
  refine L_y rfl (y_nilCheck rfl) rfl ?_
  refine L_y rfl (y_fieldAddr rfl fl_116_6) rfl ?_
  refine L_y rfl (y_load rfl ag_4 (hD) rfl) rfl ?_
  refine L_y rfl (y_move rfl) rfl ?_
  refine L_case 7 rfl (fun hg1_5 => ?_) (fun hg1_5 => ?_)
  · skip
    refine L_skip rfl rfl ?_
    refine L_skip rfl rfl ?_
    refine L_skip rfl rfl ?_
    refine L_skip rfl rfl ?_
    refine L_skip rfl rfl ?_
    refine L_skip rfl rfl ?_
    refine L_skip rfl rfl ?_
    refine L_y rfl (y_pick_t rfl rfl) rfl ?_
    refine L_y rfl (y_assign rfl) rfl ?_
    refine L_nil ?_
    refine C_ret ?_
    refine B_ret (rv_tmp rfl rv_nil) (HSub.refl _) ?_
    refine ⟨ret_bool ?_, rfl⟩
    simp_all
  · skip
    refine L_y rfl (y_move rfl) rfl ?_
    refine L_y rfl (y_nilCheck rfl) rfl ?_
    refine L_y rfl (y_fieldAddr rfl fl_116_0) rfl ?_
    refine L_y rfl (y_load rfl ag_24 (hD) rfl) rfl ?_
    refine L_y rfl (y_nilCheck rfl) rfl ?_
    refine L_y rfl (y_fieldAddr rfl fl_113_0) rfl ?_
    refine L_y rfl (y_load rfl ag_4 (hP) rfl) rfl ?_
    refine L_y rfl (y_pick_f rfl rfl) rfl ?_
    refine L_y rfl (y_assign rfl) rfl ?_
    refine L_nil ?_
    refine C_ret ?_
    refine B_ret (rv_tmp rfl rv_nil) (HSub.refl _) ?_
    refine ⟨ret_bool ?_, rfl⟩
    simp_all

theorem there_s {w0 : World} {H : Hp} (d : Dv) (n : Int) (hD : Sees (fun w => St w0 w H) d.b (.cells d.cells.toArray dt.dev)) : FnS Try.prog w0 88 #[ptr d.b, .int .i64 n] H (fun e H' => e = .returned (.bool (decide (0 ≤ n) && decide (n < d.a.S.length))) ∧ H' = H) := by
  refine FnS_intro (n := 16) (rs := [.tmp 4]) (vs := [ptr d.b, .int .i64 n]) Try.func88 rfl Try.ntmps88 rfl rfl ?_
  refine C_seq ?_
  refine C_region ?_
  refine L_y rfl (y_assign rfl) rfl ?_
  refine L_nil ?_
  refine C_seq ?_
  refine C_region ?_
  refine L_y rfl (y_move rfl) rfl ?_
  refine L_y rfl (y_geq rfl rfl) rfl ?_
  refine L_y rfl (y_move rfl) rfl ?_
  refine L_case 7 rfl (fun hg1_3 => ?_) (fun hg1_3 => ?_)
  · skip
    refine L_y rfl (y_move rfl) rfl ?_
    refine L_y rfl (y_move rfl) rfl ?_
    refine L_y rfl (y_nilCheck rfl) rfl ?_
    refine L_y rfl (y_fieldAddr rfl fl_116_1) rfl ?_
    refine L_y rfl (y_load rfl ag_43 (hD) rfl) rfl ?_
    refine L_y rfl (y_lenS rfl rfl Try.underlying43) rfl ?_
    refine L_y rfl (y_lss rfl rfl) rfl ?_
    refine L_y rfl (y_pick_t rfl rfl) rfl ?_
    refine L_y rfl (y_assign rfl) rfl ?_
    refine L_nil ?_
    refine C_ret ?_
    refine B_ret (rv_tmp rfl rv_nil) (HSub.refl _) ?_
    refine ⟨ret_bool ?_, rfl⟩
    simp_all <;> omega
  · skip
    refine L_skip rfl rfl ?_
    refine L_skip rfl rfl ?_
    refine L_skip rfl rfl ?_
    refine L_skip rfl rfl ?_
    refine L_skip rfl rfl ?_
    refine L_skip rfl rfl ?_
    refine L_skip rfl rfl ?_
    refine L_y rfl (y_pick_f rfl rfl) rfl ?_
    refine L_y rfl (y_assign rfl) rfl ?_
    refine L_nil ?_
    refine C_ret ?_
    refine B_ret (rv_tmp rfl rv_nil) (HSub.refl _) ?_
    refine ⟨ret_bool ?_, rfl⟩
    simp_all <;> omega

theorem len_s {w0 : World} {H : Hp} (d : Dv) (hD : Sees (fun w => St w0 w H) d.b (.cells d.cells.toArray dt.dev)) : FnS Try.prog w0 22 #[ptr d.b] H (fun e H' => e = .returned (.int .i64 (d.a.S.length : Int)) ∧ H' = H) := by
  refine FnS_intro (n := 10) (rs := [.tmp 2]) (vs := [ptr d.b]) Try.func22 rfl Try.ntmps22 rfl rfl ?_
  refine C_seq ?_
  refine C_region ?_
  refine L_y rfl (y_assign rfl) rfl ?_
  refine L_nil ?_
  refine C_seq ?_
  refine C_seq ?_
  refine C_region ?_
  refine L_y rfl (y_move rfl) rfl ?_
  refine L_y rfl (y_eqp rfl rfl Try.underlying30) rfl ?_
  refine L_nil ?_
  refine C_cond_f rfl ?_
  refine C_skip ?_
  refine C_seq ?_
  refine C_region ?_
  refine L_y rfl (y_move rfl) rfl ?_
  refine L_y rfl (y_nilCheck rfl) rfl ?_
  refine L_y rfl (y_fieldAddr rfl fl_116_1) rfl ?_
  refine L_y rfl (y_load rfl ag_43 (hD) rfl) rfl ?_
  refine L_y rfl (y_lenS rfl rfl Try.underlying43) rfl ?_
  refine L_y rfl (y_assign rfl) rfl ?_
  refine L_nil ?_
  refine C_ret ?_
  refine B_ret (rv_tmp rfl rv_nil) (HSub.refl _) ?_
  exact ⟨rfl, rfl⟩

theorem waiting_s {w0 : World} {H : Hp} (d : Dv) (hd : d.ok) (hD : Sees (fun w => St w0 w H) d.b (.cells d.cells.toArray dt.dev)) : FnS Try.prog w0 23 #[ptr d.b] H (fun e H' => e = .returned (.int .i64 (d.a.Q.length : Int)) ∧ H' = H) := by
  refine FnS_intro (n := 10) (rs := [.tmp 2]) (vs := [ptr d.b]) Try.func23 rfl Try.ntmps23 rfl rfl ?_
  refine C_seq ?_
  refine C_region ?_
  refine L_y rfl (y_assign rfl) rfl ?_
  refine L_nil ?_
  refine C_seq ?_
  refine C_seq ?_
  refine C_region ?_
  refine L_y rfl (y_move rfl) rfl ?_
  refine L_y rfl (y_eqp rfl rfl Try.underlying30) rfl ?_
  refine L_nil ?_
  refine C_cond_f rfl ?_
  refine C_skip ?_
  refine C_seq ?_
  refine C_region ?_
  refine L_y rfl (y_move rfl) rfl ?_
  refine L_y rfl (y_nilCheck rfl) rfl ?_
  refine L_y rfl (y_fieldAddr rfl fl_116_2) rfl ?_
  refine L_y rfl (y_load rfl ag_114 (hD) rfl) rfl ?_
  refine L_y rfl (y_lenV hd.2.1 rfl rfl Try.underlying114) rfl ?_
  refine L_y rfl (y_assign rfl) rfl ?_
  refine L_nil ?_
  refine C_ret ?_
  refine B_ret (rv_tmp rfl rv_nil) (HSub.refl _) ?_
  exact ⟨rfl, rfl⟩

theorem on_s {w0 : World} {H : Hp} (p : Pw) (hP : Sees (fun w => St w0 w H) p.b (.cells p.cells.toArray dt.pow)) : FnS Try.prog w0 21 #[ptr p.b] H (fun e H' => e = .returned (.bool (!p.a.off)) ∧ H' = H) := by
  refine FnS_intro (n := 12) (rs := [.tmp 2]) (vs := [ptr p.b]) Try.func21 rfl Try.ntmps21 rfl rfl ?_
  refine C_seq ?_
  refine C_region ?_
  refine L_y rfl (y_assign rfl) rfl ?_
  refine L_nil ?_
  refine C_seq ?_
  refine C_region ?_
  refine L_y rfl (y_move rfl) rfl ?_
  refine L_y rfl (y_nep rfl rfl Try.underlying24) rfl ?_
  refine L_y rfl (y_move rfl) rfl ?_
  refine L_y rfl (y_move rfl) rfl ?_
  refine L_y rfl (y_nilCheck rfl) rfl ?_
  refine L_y rfl (y_fieldAddr rfl fl_113_0) rfl ?_
  refine L_y rfl (y_load rfl ag_4 (hP) rfl) rfl ?_
  refine L_y rfl (y_not rfl) rfl ?_
  refine L_y rfl (y_pick_t rfl rfl) rfl ?_
  refine L_y rfl (y_assign rfl) rfl ?_
  refine L_nil ?_
  refine C_ret ?_
  refine B_ret (rv_tmp rfl rv_nil) (HSub.refl _) ?_
  exact ⟨rfl, rfl⟩

theorem tear_s {w0 : World} {H : Hp} (d : Dv) (k m : Int) : FnS Try.prog w0 58 #[ptr d.b, .int .i64 k, .int .i64 m] (d.o dt :: H) (fun e H' => e = .returned (.tuple #[]) ∧ H' = ({ d with a := d.a.tear k m } : Dv).o dt :: H) := by
  have e1 : (((max k 0).toNat : Nat) : Int) = max k 0 := by omega
  have e2 : (((min (max m 0) 128).toNat : Nat) : Int) = min (max m 0) 128 := by omega
  refine FnS_intro (n := 19) (rs := []) (vs := [ptr d.b, .int .i64 k, .int .i64 m]) Try.func58 rfl Try.ntmps58 rfl rfl ?_
  refine C_seq ?_
  refine C_region ?_
  refine L_y rfl (y_move rfl) rfl ?_
  refine L_y rfl (y_nep rfl rfl Try.underlying30) rfl ?_
  refine L_nil ?_
  refine C_cond_t rfl ?_
  refine C_region ?_
  refine L_y rfl (y_move rfl) rfl ?_
  refine L_y rfl (y_move rfl) rfl ?_
  refine L_y rfl (y_move rfl) rfl ?_
  refine L_y rfl (y_max rfl rfl) rfl ?_
  refine L_y rfl (y_move rfl) rfl ?_
  refine L_y rfl (y_max rfl rfl) rfl ?_
  refine L_y rfl (y_min rfl rfl) rfl ?_
  refine L_y rfl (y_nilCheck rfl) rfl ?_
  refine L_y rfl (y_fieldAddr rfl fl_116_3) rfl ?_
  refine L_op rfl (op_store1 0 0 rfl rfl rfl sz_3 rfl (Nat.le_of_ble_eq_true rfl) ?_)
  refine L_y rfl (y_nilCheck rfl) rfl ?_
  refine L_y rfl (y_fieldAddr rfl fl_116_4) rfl ?_
  refine L_op rfl (op_store1 0 0 rfl rfl rfl sz_3 rfl (Nat.le_of_ble_eq_true rfl) ?_)
  refine L_nil ?_
  refine B_end rv_nil (HSub.refl _) ?_
  refine ⟨rfl, ?_⟩
  simp only [Dv.o, Dv.cells, Ab.tear, e1, e2]
  rfl

theorem lie_s {w0 : World} {H : Hp} (d : Dv) (on : Bool) : FnS Try.prog w0 63 #[ptr d.b, .bool on] (d.o dt :: H) (fun e H' => e = .returned (.tuple #[]) ∧ H' = ({ d with a := { d.a with lies := on } } : Dv).o dt :: H) := by
  refine FnS_intro (n := 10) (rs := []) (vs := [ptr d.b, .bool on]) Try.func63 rfl Try.ntmps63 rfl rfl ?_
  refine C_seq ?_
  refine C_region ?_
  refine L_y rfl (y_move rfl) rfl ?_
  refine L_y rfl (y_nep rfl rfl Try.underlying30) rfl ?_
  refine L_nil ?_
  refine C_cond_t rfl ?_
  refine C_region ?_
  refine L_y rfl (y_move rfl) rfl ?_
  refine L_y rfl (y_move rfl) rfl ?_
  refine L_y rfl (y_nilCheck rfl) rfl ?_
  refine L_y rfl (y_fieldAddr rfl fl_116_5) rfl ?_
  refine L_op rfl (op_store1 0 0 rfl rfl rfl sz_4 rfl (Nat.le_of_ble_eq_true rfl) ?_)
  refine L_nil ?_
  refine B_end rv_nil (HSub.refl _) ?_
  exact ⟨rfl, rfl⟩

theorem out_t {w0 : World} {H : Hp} (d : Dv) : FnS Try.prog w0 64 #[ptr d.b, .bool true] (d.o dt :: H) (fun e H' => e = .returned (.tuple #[]) ∧ H' = ({ d with g := none, a := { d.a with Q := [], out := true } } : Dv).o dt :: H) := by
  refine FnS_intro (n := 14) (rs := []) (vs := [ptr d.b, .bool true]) Try.func64 rfl Try.ntmps64 rfl rfl ?_
  refine C_seq ?_
  refine C_seq ?_
  refine C_region ?_
  refine L_y rfl (y_move rfl) rfl ?_
  refine L_y rfl (y_eqp rfl rfl Try.underlying30) rfl ?_
  refine L_nil ?_
  refine C_cond_f rfl ?_
  refine C_skip ?_
  refine C_seq ?_
  refine C_seq ?_
  refine C_region ?_
  refine L_y rfl (y_move rfl) rfl ?_
  refine L_nil ?_
  refine C_cond_t rfl ?_
  refine C_region ?_
  refine L_y rfl (y_move rfl) rfl ?_
  refine L_y rfl (y_nilCheck rfl) rfl ?_
  refine L_y rfl (y_fieldAddr rfl fl_116_2) rfl ?_
  refine L_op rfl (op_store1 0 0 rfl rfl rfl sz_114 rfl (Nat.le_of_ble_eq_true rfl) ?_)
  refine L_nil ?_
  refine C_region ?_
  refine L_y rfl (y_move rfl) rfl ?_
  refine L_y rfl (y_move rfl) rfl ?_
  refine L_y rfl (y_nilCheck rfl) rfl ?_
  refine L_y rfl (y_fieldAddr rfl fl_116_6) rfl ?_
  refine L_op rfl (op_store1 0 0 rfl rfl rfl sz_4 rfl (Nat.le_of_ble_eq_true rfl) ?_)
  refine L_nil ?_
  refine B_end rv_nil (HSub.refl _) ?_
  exact ⟨rfl, rfl⟩

theorem out_f {w0 : World} {H : Hp} (d : Dv) : FnS Try.prog w0 64 #[ptr d.b, .bool false] (d.o dt :: H) (fun e H' => e = .returned (.tuple #[]) ∧ H' = ({ d with a := { d.a with out := false } } : Dv).o dt :: H) := by
  refine FnS_intro (n := 14) (rs := []) (vs := [ptr d.b, .bool false]) Try.func64 rfl Try.ntmps64 rfl rfl ?_
  refine C_seq ?_
  refine C_seq ?_
  refine C_region ?_
  refine L_y rfl (y_move rfl) rfl ?_
  refine L_y rfl (y_eqp rfl rfl Try.underlying30) rfl ?_
  refine L_nil ?_
  refine C_cond_f rfl ?_
  refine C_skip ?_
  refine C_seq ?_
  refine C_seq ?_
  refine C_region ?_
  refine L_y rfl (y_move rfl) rfl ?_
  refine L_nil ?_
  refine C_cond_f rfl ?_
  refine C_skip ?_
  refine C_region ?_
  refine L_y rfl (y_move rfl) rfl ?_
  refine L_y rfl (y_move rfl) rfl ?_
  refine L_y rfl (y_nilCheck rfl) rfl ?_
  refine L_y rfl (y_fieldAddr rfl fl_116_6) rfl ?_
  refine L_op rfl (op_store1 0 0 rfl rfl rfl sz_4 rfl (Nat.le_of_ble_eq_true rfl) ?_)
  refine L_nil ?_
  refine B_end rv_nil (HSub.refl _) ?_
  exact ⟨rfl, rfl⟩

theorem fail_s {w0 : World} {H : Hp} (p : Pw) (n : Int) : FnS Try.prog w0 59 #[ptr p.b, .int .i64 n] (p.o dt :: H) (fun e H' => e = .returned (.tuple #[]) ∧ H' = ({ p with a := p.a.fail n } : Pw).o dt :: H) := by
  refine FnS_intro (n := 15) (rs := []) (vs := [ptr p.b, .int .i64 n]) Try.func59 rfl Try.ntmps59 rfl rfl ?_
  refine C_seq ?_
  refine C_region ?_
  refine L_y rfl (y_move rfl) rfl ?_
  refine L_y rfl (y_nep rfl rfl Try.underlying24) rfl ?_
  refine L_nil ?_
  refine C_cond_t rfl ?_
  refine C_region ?_
  refine L_y rfl (y_move rfl) rfl ?_
  refine L_y rfl (y_move rfl) rfl ?_
  refine L_y rfl (y_move rfl) rfl ?_
  refine L_y rfl (y_move rfl) rfl ?_
  refine L_y rfl (y_geq rfl rfl) rfl ?_
  refine L_y rfl (y_nilCheck rfl) rfl ?_
  refine L_y rfl (y_fieldAddr rfl fl_113_1) rfl ?_
  refine L_op rfl (op_store1 0 0 rfl rfl rfl sz_3 rfl (Nat.le_of_ble_eq_true rfl) ?_)
  refine L_y rfl (y_nilCheck rfl) rfl ?_
  refine L_y rfl (y_fieldAddr rfl fl_113_2) rfl ?_
  refine L_op rfl (op_store1 0 0 rfl rfl rfl sz_4 rfl (Nat.le_of_ble_eq_true rfl) ?_)
  refine L_nil ?_
  refine B_end rv_nil (HSub.refl _) ?_
  exact ⟨rfl, rfl⟩

theorem restart_s {w0 : World} {H : Hp} (p : Pw) : FnS Try.prog w0 66 #[ptr p.b] (p.o dt :: H) (fun e H' => e = .returned (.tuple #[]) ∧ H' = ({ p with a := p.a.restart } : Pw).o dt :: H) := by
  refine FnS_intro (n := 10) (rs := []) (vs := [ptr p.b]) Try.func66 rfl Try.ntmps66 rfl rfl ?_
  refine C_seq ?_
  refine C_region ?_
  refine L_y rfl (y_move rfl) rfl ?_
  refine L_y rfl (y_nep rfl rfl Try.underlying24) rfl ?_
  refine L_nil ?_
  refine C_cond_t rfl ?_
  refine C_region ?_
  refine L_y rfl (y_move rfl) rfl ?_
  refine L_y rfl (y_move rfl) rfl ?_
  refine L_y rfl (y_nilCheck rfl) rfl ?_
  refine L_y rfl (y_fieldAddr rfl fl_113_0) rfl ?_
  refine L_op rfl (op_store1 0 0 rfl rfl rfl sz_4 rfl (Nat.le_of_ble_eq_true rfl) ?_)
  refine L_y rfl (y_nilCheck rfl) rfl ?_
  refine L_y rfl (y_fieldAddr rfl fl_113_2) rfl ?_
  refine L_op rfl (op_store1 0 0 rfl rfl rfl sz_4 rfl (Nat.le_of_ble_eq_true rfl) ?_)
  refine L_nil ?_
  refine B_end rv_nil (HSub.refl _) ?_
  exact ⟨rfl, rfl⟩

end Go.Proofs.Ytaeooiogjhkjfaa

/- walks (own work; the walks' lines by a program of this repo). -/
set_option linter.unusedVariables false
set_option linter.unusedSimpArgs false
set_option maxRecDepth 20000
namespace Go.Proofs.Ytaeooiogjhkjfaa
open Go.Sl
attribute [local irreducible] BodyQ WpC WpL WpS WpH OpW FnS


theorem cut_out {w0 : World} {H : Hp} (d : Dv) (hD : Sees (fun w => St w0 w H) d.b (.cells d.cells.toArray dt.dev)) (ho : d.a.out = true) : FnS Try.prog w0 61 #[ptr d.b] H (fun e H' => e = .returned (.tuple #[]) ∧ H' = H) := by
  refine FnS_intro (n := 58) (rs := []) (vs := [ptr d.b]) Try.func61 rfl Try.ntmps61 rfl rfl ?_
  refine C_seq ?_
  refine C_seq ?_
  refine C_region ?_
  refine L_y rfl (y_move rfl) rfl ?_
  refine L_y rfl (y_nilCheck rfl) rfl ?_
  refine L_y rfl (y_fieldAddr rfl fl_116_6) rfl ?_
  refine L_y rfl (y_load rfl ag_4 (hD) rfl) rfl ?_
  refine L_nil ?_
  refine C_cond rfl (fun hc0 => ?_) (fun hc0 => absurd (ho.symm.trans hc0) (by simp))
  refine C_ret ?_
  refine B_ret rv_nil (HSub.refl _) ?_
  exact ⟨rfl, rfl⟩

theorem cut_in {w0 : World} {H : Hp} {b st pw : Nat} {g : Option SlG} {a : Ab} (hd : Dv.ok ⟨b, st, pw, g, a⟩) (ho : a.out = false) : FnS Try.prog w0 61 #[ptr b] (Dv.o dt ⟨b, st, pw, g, a⟩ :: Dv.t dt ⟨b, st, pw, g, a⟩ :: Dv.q dt ⟨b, st, pw, g, a⟩ :: H) (fun e H' => e = .returned (.tuple #[]) ∧ H' = (Dv.cut ⟨b, st, pw, g, a⟩).o dt :: (Dv.cut ⟨b, st, pw, g, a⟩).t dt :: (Dv.cut ⟨b, st, pw, g, a⟩).q dt :: H) := by
  obtain ⟨hok, hq, hQl⟩ := hd
  simp only at hok hq hQl
  refine FnS_intro (n := 58) (rs := []) (vs := [ptr b]) Try.func61 rfl Try.ntmps61 rfl rfl ?_
  refine C_seq ?_
  refine C_seq ?_
  refine C_region ?_
  refine L_y rfl (y_move rfl) rfl ?_
  refine L_y rfl (y_nilCheck rfl) rfl ?_
  refine L_y rfl (y_fieldAddr rfl fl_116_6) rfl ?_
  refine L_y rfl (y_load rfl ag_4 (sees 0 0 rfl) rfl) rfl ?_
  refine L_nil ?_
  refine C_cond rfl (fun hc0 => absurd (ho.symm.trans hc0) (by simp)) (fun hc0 => ?_)
  refine C_skip ?_
  refine C_seq ?_
  refine C_seq ?_
  refine C_region ?_
  refine L_y rfl (y_move rfl) rfl ?_
  refine L_y rfl (y_nilCheck rfl) rfl ?_
  refine L_y rfl (y_fieldAddr rfl fl_116_2) rfl ?_
  refine L_y rfl (y_load rfl ag_114 (sees 0 0 rfl) rfl) rfl ?_
  refine L_y rfl (y_lenV hq rfl rfl Try.underlying114) rfl ?_
  refine L_y rfl (y_move rfl) rfl ?_
  refine L_nil ?_
  refine C_block ?_
  refine C_loop (ι := Nat) (fun i => [(0, ptr b), (11, slV g a.Q.length), (12, .int .i64 (a.Q.length : Int)), (13, .int .i64 (i : Int))]) (fun i => [(b, .cells (Dv.cells ⟨b, st, pw, g, a⟩).toArray dt.dev)] :: [(st, .cells (bs (cutN a i).flatten).toArray 38)] :: slSeg 142 g (wcs a.Q) :: H) (fun i => i ≤ a.Q.length) (fun i => a.Q.length - i) 0 (Nat.zero_le _) ⟨rfl, rfl, rfl, rfl, trivial⟩ (HSub.refl _) (fun i hi => ?_)
  skip
  refine C_seq ?_
  refine C_region ?_
  refine L_y rfl (y_lss rfl rfl) rfl ?_
  refine L_nil ?_
  refine C_seq ?_
  refine C_cond rfl (fun hc1 => ?_) (fun hc1 => ?_)
  · replace hc1 := of_decide_eq_true hc1
    refine C_skip ?_
    refine C_seq ?_
    refine C_block ?_
    refine C_seq ?_
    obtain ⟨x, hx⟩ : ∃ x, a.Q[i]? = some x := ⟨_, List.getElem?_eq_getElem (by omega)⟩
    have hxm := hok.2.2.1 x (List.mem_of_getElem? hx)
    obtain ⟨hS1, hS2⟩ := cutN_ok hok i
    have hfl := flat_len hS1
    have hQ : ∀ x ∈ a.Q, x.2.length = 128 := fun x hx => (hok.2.2.1 x hx).2
    cases g with
    | none => exact absurd hq.2 (by simp only; omega)
    | some g => ?_
    have hwl := wcs_len hQ
    refine C_region ?_
    refine L_y rfl (y_move rfl) rfl ?_
    refine L_y rfl (y_indexS rfl rfl Try.underlying114 sz_142 (by omega) (by omega) (show _ = i * 129 from by simp)) rfl ?_
    refine L_y rfl (y_loadA rfl ag_142 sz_142 (sees 2 0 rfl) (by rw [List.length_append, hwl]; omega) (wcs_get _ hQ hx)) rfl ?_
    refine L_op rfl (op_alloc zl_142 rfl (fun B1 => ?_))
    refine L_y rfl (y_assign rfl) rfl ?_
    refine L_op rfl (op_storeA 0 0 rfl rfl rfl sz_142 (by simp [bs_length, hxm.2]) rfl (one_wr _ _) rfl ?_)
    refine L_nil ?_
    refine C_seq ?_
    refine C_region ?_
    refine L_y rfl (y_move rfl) rfl ?_
    refine L_y rfl (y_move rfl) rfl ?_
    refine L_y rfl (y_nilCheck rfl) rfl ?_
    refine L_y rfl (y_fieldAddr rfl fl_116_3) rfl ?_
    refine L_y rfl (y_load rfl ag_3 (sees 1 0 rfl) rfl) rfl ?_
    refine L_y rfl (y_lss rfl rfl) rfl ?_
    refine L_nil ?_
    refine C_cond rfl (fun hc2 => ?_) (fun hc2 => ?_)
    · replace hc2 := of_decide_eq_true hc2
      simp only at hc2
      refine C_regionT 9 (by kernel_rfl) (by kernel_rfl) ?_
      refine S_y rfl (y_move rfl) rfl ?_
      refine S_y rfl (y_nilCheck rfl) rfl ?_
      refine S_y rfl (y_fieldAddr rfl fl_116_1) rfl ?_
      refine S_y rfl (y_load rfl ag_43 (sees 1 0 rfl) rfl) rfl ?_
      refine S_y rfl (y_fieldAddr rfl fl_142_0) rfl ?_
      refine S_y rfl (y_load rfl ag_3 (sees 0 0 rfl) rfl) rfl ?_
      refine S_y rfl (y_fieldAddr rfl fl_142_1) rfl ?_
      refine S_y rfl (y_loadA rfl ag_38 sz_38 (sees 0 0 rfl) (by simp [bs_length, hxm.2]) (bs_whole x.2 hxm.2)) rfl ?_
      refine S_y rfl (y_indexS rfl rfl Try.underlying43 sz_38 (by omega) (by simp only; omega) (show _ = x.1 * 128 from by simp)) rfl ?_
      refine S_nil ?_
      refine L_op rfl (op_store 2 0 rfl rfl rfl sz_38 (by rw [bs_length, hxm.2]) rfl (bs_one _) (by rw [bs_length, hfl]; omega) ?_)
      rw [flat_spl hS1 (by omega) hxm.2, ← cutN_s1 hx (by omega)]
      refine L_nil ?_
      refine C_region ?_
      refine L_y rfl (y_add rfl rfl (wi64 (by omega) (by omega))) rfl ?_
      refine L_y rfl (y_move rfl) rfl ?_
      refine L_nil ?_
      exact ⟨i + 1, by omega, by omega, ⟨rfl, rfl, rfl, rfl, trivial⟩, hsub (.cons _ (.refl _))⟩
    · replace hc2 := of_decide_eq_false hc2
      simp only at hc2
      refine C_seq ?_
      refine C_region ?_
      refine L_y rfl (y_move rfl) rfl ?_
      refine L_y rfl (y_move rfl) rfl ?_
      refine L_y rfl (y_nilCheck rfl) rfl ?_
      refine L_y rfl (y_fieldAddr rfl fl_116_3) rfl ?_
      refine L_y rfl (y_load rfl ag_3 (sees 1 0 rfl) rfl) rfl ?_
      refine L_y rfl (y_eqi rfl rfl) rfl ?_
      refine L_nil ?_
      refine C_cond rfl (fun hc3 => ?_) (fun hc3 => ?_)
      · replace hc3 := of_decide_eq_true hc3
        simp only at hc3
        refine C_regionT 14 (by kernel_rfl) (by kernel_rfl) ?_
        refine S_y rfl (y_move rfl) rfl ?_
        refine S_y rfl (y_nilCheck rfl) rfl ?_
        refine S_y rfl (y_fieldAddr rfl fl_116_1) rfl ?_
        refine S_y rfl (y_load rfl ag_43 (sees 1 0 rfl) rfl) rfl ?_
        refine S_y rfl (y_fieldAddr rfl fl_142_0) rfl ?_
        refine S_y rfl (y_load rfl ag_3 (sees 0 0 rfl) rfl) rfl ?_
        refine S_y rfl (y_indexS rfl rfl Try.underlying43 sz_38 (by omega) (by simp only; omega) (show _ = x.1 * 128 from by simp)) rfl ?_
        refine S_y rfl (y_move rfl) rfl ?_
        refine S_y rfl (y_nilCheck rfl) rfl ?_
        refine S_y rfl (y_fieldAddr rfl fl_116_4) rfl ?_
        refine S_y rfl (y_load rfl ag_3 (sees 1 0 rfl) rfl) rfl ?_
        refine S_y rfl (y_sliceA_hi rfl rfl Try.underlying38 sz_5 (by simp only; omega) (by have := hok.2.2.2; simp only; omega)) rfl ?_
        refine S_y rfl (y_fieldAddr rfl fl_142_1) rfl ?_
        refine S_y rfl (y_sliceA_all rfl Try.underlying38 sz_5) rfl ?_
        refine S_nil ?_
        refine L_op rfl (op_copy (b2 := B1) (off2 := 1) (sl := 128) (vs := bs (x.2.take a.bytes)) 2 0 rfl rfl Try.underlying143 sz_5 (sees 0 0 rfl) (show 1 + min 128 a.bytes * 1 ≤ (Value.int .i64 (x.1 : Int) :: bs x.2).length from by rw [List.length_cons, bs_length, hxm.2]; omega) (show ((Value.int .i64 (x.1 : Int) :: bs x.2).drop 1).take (min 128 ((a.bytes : Int).toNat) * 1) = bs (x.2.take a.bytes) from by rw [show min 128 ((a.bytes : Int).toNat) = a.bytes from by have := hok.2.2.2; omega, Nat.mul_one, show (Value.int .i64 (x.1 : Int) :: bs x.2).drop 1 = bs x.2 from rfl, bs_take]) rfl (bs_one _) (by rw [bs_length, hfl]; simp only; have := hok.2.2.2; omega) rfl ?_)
        obtain ⟨o, ho2⟩ : ∃ o, (cutN a i)[x.1]? = some o := ⟨_, List.getElem?_eq_getElem (by omega)⟩
        have e2 := cutN_s2 hx (by omega)
        rw [show (cutN a i).getD x.1 [] = o from by simp [List.getD, ho2]] at e2
        rw [flat_torn hS1 ho2 hxm.2 hok.2.2.2, ← e2]
        refine L_nil ?_
        refine C_region ?_
        refine L_y rfl (y_add rfl rfl (wi64 (by omega) (by omega))) rfl ?_
        refine L_y rfl (y_move rfl) rfl ?_
        refine L_nil ?_
        exact ⟨i + 1, by omega, by omega, ⟨rfl, rfl, rfl, rfl, trivial⟩, hsub (.cons _ (.refl _))⟩
      · replace hc3 := of_decide_eq_false hc3
        simp only at hc3
        rw [← cutN_s3 hx (by omega) (by omega)]
        refine C_skip ?_
        refine C_region ?_
        refine L_y rfl (y_add rfl rfl (wi64 (by omega) (by omega))) rfl ?_
        refine L_y rfl (y_move rfl) rfl ?_
        refine L_nil ?_
        exact ⟨i + 1, by omega, by omega, ⟨rfl, rfl, rfl, rfl, trivial⟩, hsub (.cons _ (.refl _))⟩
  · replace hc1 := of_decide_eq_false hc1
    refine C_exit ?_
    obtain rfl : i = a.Q.length := by omega
    refine C_region ?_
    refine L_y rfl (y_move rfl) rfl ?_
    refine L_y rfl (y_nilCheck rfl) rfl ?_
    refine L_y rfl (y_fieldAddr rfl fl_116_2) rfl ?_
    refine L_op rfl (op_store1 0 0 rfl rfl rfl sz_114 rfl (Nat.le_of_ble_eq_true rfl) ?_)
    refine L_nil ?_
    refine B_end rv_nil ((hsub_flat rfl : HSub (_ :: _ :: [] :: H) (_ :: _ :: H)).trans (hsub (.cons_cons _ (.cons_cons _ (.cons _ (.refl _)))))) ?_
    obtain ⟨e1, e2, e3⟩ := Dv.cut_segs dt (b := b) (st := st) (pw := pw) (g := g) hok ho
    rw [e1, e2, e3]
    exact ⟨rfl, rfl⟩

theorem cut_s {w0 : World} {H : Hp} (d : Dv) (hd : d.ok) : FnS Try.prog w0 61 #[ptr d.b] (d.o dt :: d.t dt :: d.q dt :: H) (fun e H' => e = .returned (.tuple #[]) ∧ H' = d.cut.o dt :: d.cut.t dt :: d.cut.q dt :: H) := by
  cases ho : d.a.out with
  | false => exact cut_in hd ho
  | true =>
    refine (cut_out d (sees 0 0 rfl) ho).mono ?_
    rintro _ _ ⟨rfl, rfl⟩
    rw [show d.cut = d from by simp [Dv.cut, ho]]
    exact ⟨rfl, rfl⟩

end Go.Proofs.Ytaeooiogjhkjfaa

/- walks (own work; the walks' lines by a program of this repo). -/
set_option linter.unusedVariables false
set_option linter.unusedSimpArgs false
set_option maxRecDepth 20000
namespace Go.Proofs.Ytaeooiogjhkjfaa
open Go.Sl
attribute [local irreducible] BodyQ WpC WpL WpS WpH OpW FnS


theorem cutstep {w0 : World} {H : Hp} {A : List Dv} {i : Nat} {x : Dv} (hx : A[i]? = some x) (hok : x.ok) (po pq : List (Nat × Obj)) : FnS Try.prog w0 61 #[ptr x.b] (po :: pq :: ((cutTo A i).flatMap (Dv.segs dt) ++ H)) (fun e H' => e = .returned (.tuple #[]) ∧ H' = po :: pq :: ((cutTo A (i + 1)).flatMap (Dv.segs dt) ++ H)) := by
  rw [cutTo_split dt hx]
  refine (FnS.mid (φ := fun e A' => e = .returned (.tuple #[]) ∧ A' = [x.cut.o dt, x.cut.t dt, x.cut.q dt]) _ _ fun L => (cut_s x hok).mono ?_).mono ?_
  · rintro _ _ ⟨rfl, rfl⟩; exact ⟨_, ⟨rfl, rfl⟩, rfl⟩
  · rintro _ _ ⟨_, ⟨rfl, rfl⟩, rfl⟩; exact ⟨rfl, cutTo_join dt hx po pq H⟩

theorem operate_c {w0 : World} {H : Hp} {A : List Dv} {d : Dv} (hd : d ∈ A) {pg : Option SlG} {devs : List Nat} {off fails : Bool} {left : Int} (hdev : devs = A.map (·.b)) (hok : ∀ x ∈ A, x.ok) (hp : Pw.ok dt ⟨d.pw, pg, devs, ⟨off, left, fails⟩⟩) (hA : A.length ≤ 1000) : FnS Try.prog w0 89 #[ptr d.b] (Pw.o dt ⟨d.pw, pg, devs, ⟨off, left, fails⟩⟩ :: Pw.q dt ⟨d.pw, pg, devs, ⟨off, left, fails⟩⟩ :: (A.flatMap (Dv.segs dt) ++ H)) (fun e H' => e = .returned (.bool (!(Pa.falls ⟨off, left, fails⟩))) ∧ H' = (Pw.step ⟨d.pw, pg, devs, ⟨off, left, fails⟩⟩).o dt :: (Pw.step ⟨d.pw, pg, devs, ⟨off, left, fails⟩⟩).q dt :: ((A.map (Dv.step ⟨off, left, fails⟩)).flatMap (Dv.segs dt) ++ H)) := by
  obtain ⟨hpg, hleft⟩ := hp
  simp only at hpg hleft hdev
  have hlen : devs.length = A.length := by rw [hdev]; simp
  have hD := sees_mem (w0 := w0) (mem_segs dt hd (Pw.o dt ⟨d.pw, pg, devs, ⟨off, left, fails⟩⟩) (Pw.q dt ⟨d.pw, pg, devs, ⟨off, left, fails⟩⟩) H)
  refine FnS_intro (n := 45) (rs := [.tmp 2]) (vs := [ptr d.b]) Try.func89 rfl Try.ntmps89 rfl rfl ?_
  refine C_seq ?_
  refine C_region ?_
  refine L_y rfl (y_assign rfl) rfl ?_
  refine L_nil ?_
  refine C_seq ?_
  refine C_region ?_
  refine L_y rfl (y_move rfl) rfl ?_
  refine L_y rfl (y_nilCheck rfl) rfl ?_
  refine L_y rfl (y_fieldAddr rfl fl_116_0) rfl ?_
  refine L_y rfl (y_load rfl ag_24 (hD) rfl) rfl ?_
  refine L_y rfl (y_assign rfl) rfl ?_
  refine L_nil ?_
  refine C_seq ?_
  refine C_seq ?_
  refine C_region ?_
  refine L_y rfl (y_move rfl) rfl ?_
  refine L_y rfl (y_nilCheck rfl) rfl ?_
  refine L_y rfl (y_fieldAddr rfl fl_113_2) rfl ?_
  refine L_y rfl (y_load rfl ag_4 (sees 0 0 rfl) rfl) rfl ?_
  refine L_y rfl (y_not rfl) rfl ?_
  refine L_nil ?_
  refine C_cond rfl (fun hc0 => ?_) (fun hc0 => ?_)
  · have hfl : fails = false := by simpa using hc0
    refine C_seq ?_
    refine C_region ?_
    refine L_y rfl (y_assign rfl) rfl ?_
    refine L_nil ?_
    refine C_ret ?_
    refine B_ret (rv_tmp rfl rv_nil) (HSub.refl _) ?_
    first
    | (subst hfl; exact ⟨rfl, by simp [Pw.step, Pa.step, Pa.falls, step_map0]⟩)
    | (subst hfl; have hl0 : ¬ left ≤ 0 := by omega
       exact ⟨ret_bool (by simp [Pa.falls, hl0]), by rw [step_map0 (by simp [Pa.falls, hl0])]; simp only [Pw.step, Pa.step, hl0, if_true, if_false]; rfl⟩)
    | (subst hfl; have hl0 : left ≤ 0 := by omega
       refine ⟨ret_bool (by simp [Pa.falls, hl0]), ?_⟩; rw [hlen, cutTo_all, step_map (by simp [Pa.falls, hl0])]; simp [Pw.step, Pa.step, hl0])
  · have hfl : fails = true := by simpa using hc0
    refine C_skip ?_
    refine C_seq ?_
    refine C_seq ?_
    refine C_region ?_
    refine L_y rfl (y_move rfl) rfl ?_
    refine L_y rfl (y_nilCheck rfl) rfl ?_
    refine L_y rfl (y_fieldAddr rfl fl_113_1) rfl ?_
    refine L_y rfl (y_load rfl ag_3 (sees 0 0 rfl) rfl) rfl ?_
    refine L_y rfl (y_gtr rfl rfl) rfl ?_
    refine L_nil ?_
    refine C_cond rfl (fun hc1 => ?_) (fun hc1 => ?_)
    · replace hc1 := of_decide_eq_true hc1
      simp only at hc1
      refine C_seq ?_
      refine C_region ?_
      refine L_y rfl (y_move rfl) rfl ?_
      refine L_y rfl (y_nilCheck rfl) rfl ?_
      refine L_y rfl (y_fieldAddr rfl fl_113_1) rfl ?_
      refine L_y rfl (y_load rfl ag_3 (sees 0 0 rfl) rfl) rfl ?_
      refine L_y rfl (y_sub rfl rfl (wi64 (by simp only; omega) (by simp only; omega))) rfl ?_
      refine L_y rfl (y_nilCheck rfl) rfl ?_
      refine L_y rfl (y_fieldAddr rfl fl_113_1) rfl ?_
      refine L_op rfl (op_store1 0 0 rfl rfl rfl sz_3 rfl (Nat.le_of_ble_eq_true rfl) ?_)
      refine L_nil ?_
      refine C_seq ?_
      refine C_region ?_
      refine L_y rfl (y_assign rfl) rfl ?_
      refine L_nil ?_
      refine C_ret ?_
      refine B_ret (rv_tmp rfl rv_nil) (HSub.refl _) ?_
      first
      | (subst hfl; exact ⟨rfl, by simp [Pw.step, Pa.step, Pa.falls, step_map0]⟩)
      | (subst hfl; have hl0 : ¬ left ≤ 0 := by omega
         exact ⟨ret_bool (by simp [Pa.falls, hl0]), by rw [step_map0 (by simp [Pa.falls, hl0])]; simp only [Pw.step, Pa.step, hl0, if_true, if_false]; rfl⟩)
      | (subst hfl; have hl0 : left ≤ 0 := by omega
         refine ⟨ret_bool (by simp [Pa.falls, hl0]), ?_⟩; rw [hlen, cutTo_all, step_map (by simp [Pa.falls, hl0])]; simp [Pw.step, Pa.step, hl0])
    · replace hc1 := of_decide_eq_false hc1
      simp only at hc1
      refine C_skip ?_
      refine C_seq ?_
      refine C_region ?_
      refine L_y rfl (y_move rfl) rfl ?_
      refine L_y rfl (y_move rfl) rfl ?_
      refine L_y rfl (y_nilCheck rfl) rfl ?_
      refine L_y rfl (y_fieldAddr rfl fl_113_0) rfl ?_
      refine L_op rfl (op_store1 0 0 rfl rfl rfl sz_4 rfl (Nat.le_of_ble_eq_true rfl) ?_)
      refine L_y rfl (y_nilCheck rfl) rfl ?_
      refine L_y rfl (y_fieldAddr rfl fl_113_2) rfl ?_
      refine L_op rfl (op_store1 0 0 rfl rfl rfl sz_4 rfl (Nat.le_of_ble_eq_true rfl) ?_)
      refine L_nil ?_
      refine C_seq ?_
      refine C_seq ?_
      refine C_region ?_
      refine L_y rfl (y_move rfl) rfl ?_
      refine L_y rfl (y_nilCheck rfl) rfl ?_
      refine L_y rfl (y_fieldAddr rfl fl_113_3) rfl ?_
      refine L_y rfl (y_load rfl ag_111 (sees 0 0 rfl) rfl) rfl ?_
      refine L_y rfl (y_lenV hpg rfl rfl Try.underlying111) rfl ?_
      refine L_y rfl (y_move rfl) rfl ?_
      refine L_nil ?_
      refine C_block ?_
      refine C_loop (ι := Nat) (fun i => [(36, slV pg devs.length), (37, .int .i64 (devs.length : Int)), (38, .int .i64 (i : Int))]) (fun i => [(d.pw, .cells (Pw.cells ⟨d.pw, pg, devs, ⟨true, left, false⟩⟩).toArray dt.pow)] :: slSeg 1 pg (devs.map (clos dt)) :: ((cutTo A i).flatMap (Dv.segs dt) ++ H)) (fun i => i ≤ devs.length) (fun i => devs.length - i) 0 (Nat.zero_le _) ⟨rfl, rfl, rfl, trivial⟩ (HSub.same (by simp [cutTo]; rfl)) (fun i hi => ?_)
      skip
      refine C_seq ?_
      refine C_region ?_
      refine L_y rfl (y_lss rfl rfl) rfl ?_
      refine L_nil ?_
      refine C_seq ?_
      refine C_cond rfl (fun hc2 => ?_) (fun hc2 => ?_)
      · replace hc2 := of_decide_eq_true hc2
        refine C_skip ?_
        refine C_seq ?_
        refine C_block ?_
        refine C_seq ?_
        obtain ⟨x, hx⟩ : ∃ x, A[i]? = some x := ⟨_, List.getElem?_eq_getElem (by omega)⟩
        cases pg with
        | none => exact absurd hpg.2 (by omega)
        | some pg => ?_
        refine C_region ?_
        refine L_y rfl (y_indexS rfl rfl Try.underlying111 sz_1 (by omega) (by omega) rfl) rfl ?_
        refine L_y rfl (y_load rfl ag_1 (sees 1 0 rfl) (show _ = some (clos dt x.b) from by rw [show (0 + ((i : Int)).toNat * 1) = i from by omega, List.getElem?_append_left (by simp; omega), hdev]; simp [hx])) rfl ?_
        refine L_y rfl (y_assign rfl) rfl ?_
        refine L_nil ?_
        refine C_region ?_
        refine L_y rfl (y_move rfl) rfl ?_
        refine L_op rfl (op_call rfl rfl (fun a w => Try.call61 a w) rfl ?_)
        refine (cutstep hx (hok x (List.mem_of_getElem? hx)) _ _).mono ?_
        rintro _ _ ⟨rfl, rfl⟩
        refine ⟨_, rfl, ?_⟩
        refine L_nil ?_
        refine C_region ?_
        refine L_y rfl (y_add rfl rfl (wi64 (by omega) (by omega))) rfl ?_
        refine L_y rfl (y_move rfl) rfl ?_
        refine L_nil ?_
        exact ⟨i + 1, by omega, by omega, ⟨rfl, rfl, rfl, trivial⟩, HSub.refl _⟩
      · replace hc2 := of_decide_eq_false hc2
        refine C_exit ?_
        refine C_seq ?_
        obtain rfl : i = devs.length := by omega
        refine C_region ?_
        refine L_y rfl (y_assign rfl) rfl ?_
        refine L_nil ?_
        refine C_ret ?_
        refine B_ret (rv_tmp rfl rv_nil) (HSub.refl _) ?_
        first
        | (subst hfl; exact ⟨rfl, by simp [Pw.step, Pa.step, Pa.falls, step_map0]⟩)
        | (subst hfl; have hl0 : ¬ left ≤ 0 := by omega
           exact ⟨ret_bool (by simp [Pa.falls, hl0]), by rw [step_map0 (by simp [Pa.falls, hl0])]; simp only [Pw.step, Pa.step, hl0, if_true, if_false]; rfl⟩)
        | (subst hfl; have hl0 : left ≤ 0 := by omega
           refine ⟨ret_bool (by simp [Pa.falls, hl0]), ?_⟩; rw [hlen, cutTo_all, step_map (by simp [Pa.falls, hl0])]; simp [Pw.step, Pa.step, hl0])

end Go.Proofs.Ytaeooiogjhkjfaa

/- walks (own work; the walks' lines by a program of this repo). -/
set_option linter.unusedVariables false
set_option linter.unusedSimpArgs false
set_option maxRecDepth 20000
namespace Go.Proofs.Ytaeooiogjhkjfaa
open Go.Sl
attribute [local irreducible] BodyQ WpC WpL WpS WpH OpW FnS


theorem operate_s {w0 : World} {H : Hp} {L R : List Dv} {d : Dv} {p : Pw} (hG : GOk dt p L d R) : FnS Try.prog w0 89 #[ptr d.b] (opn dt d p (L ++ R) H) (fun e H' => e = .returned (.bool (!p.a.falls)) ∧ H' = opn dt (d.step p.a) p.step ((L ++ R).map (Dv.step p.a)) H) := by
  obtain ⟨pb, pg, devs, ⟨off, left, fails⟩⟩ := p
  obtain ⟨hpws, hdev, hall, hp, hlen⟩ := hG
  obtain rfl : pb = d.pw := hpws d (by simp)
  refine (((operate_c (A := L ++ d :: R) (d := d) (by simp) hdev hall hp hlen).sub (HSub.of_perm (open_perm dt L R d _ _ H).symm.flatten)).weak ?_)
  rintro _ _ ⟨rfl, rfl⟩
  refine ⟨_, HSub.of_perm ?_, rfl, rfl⟩
  rw [List.map_append, List.map_cons, List.map_append]
  exact (open_perm dt _ _ _ _ _ H).flatten

theorem write_down {w0 : World} {H : Hp} {d : Dv} {p : Pw} (hD : Sees (fun w => St w0 w H) d.b (.cells d.cells.toArray dt.dev)) (hP : Sees (fun w => St w0 w H) d.pw (.cells p.cells.toArray dt.pow)) (n : Int) (s : Sec) (hdn : (d.a.out || p.a.off) = true) : FnS Try.prog w0 56 #[ptr d.b, .int .i64 n, .agg (bs s).toArray] H (fun e H' => e = .returned (.int .i64 13) ∧ H' = H) := by
  refine FnS_intro (n := 33) (rs := [.tmp 6]) (vs := [ptr d.b, .int .i64 n, .agg (bs s).toArray]) Try.func56 rfl Try.ntmps56 rfl rfl ?_
  refine C_seq ?_
  refine C_region ?_
  refine L_op rfl (op_box rfl rfl rfl (fun B1 => ?_))
  refine L_y rfl (y_assign rfl) rfl ?_
  refine L_nil ?_
  refine C_seq ?_
  refine C_block ?_
  refine C_seq ?_
  refine C_region ?_
  refine L_y rfl (y_move rfl) rfl ?_
  refine L_y rfl (y_eqp rfl rfl Try.underlying30) rfl ?_
  refine L_y rfl (y_assign rfl) rfl ?_
  refine L_nil ?_
  refine C_cond_f rfl ?_
  refine C_seq ?_
  refine C_region ?_
  refine L_y rfl (y_move rfl) rfl ?_
  refine L_op rfl (op_call rfl rfl (fun a w => Try.call87 a w) rfl ?_)
  refine (down_s d p (hD.up) (hP.up)).mono ?_
  rintro _ _ ⟨rfl, rfl⟩
  rw [hdn]
  refine ⟨_, rfl, ?_⟩
  refine L_y rfl (y_assign rfl) rfl ?_
  refine L_nil ?_
  refine C_cond_t rfl ?_
  refine C_seq ?_
  refine C_region ?_
  refine L_y rfl (y_assign rfl) rfl ?_
  refine L_nil ?_
  refine C_ret ?_
  refine B_ret (rv_tmp rfl rv_nil) (hsub (.cons _ (.refl _))) ?_
  exact ⟨rfl, rfl⟩

theorem write_out {w0 : World} {H : Hp} {d : Dv} {p : Pw} (hD : Sees (fun w => St w0 w H) d.b (.cells d.cells.toArray dt.dev)) (hP : Sees (fun w => St w0 w H) d.pw (.cells p.cells.toArray dt.pow)) (n : Int) (s : Sec) (hdn : (d.a.out || p.a.off) = false) (hth : (decide (0 ≤ n) && decide (n < d.a.S.length)) = false) : FnS Try.prog w0 56 #[ptr d.b, .int .i64 n, .agg (bs s).toArray] H (fun e H' => e = .returned (.int .i64 2) ∧ H' = H) := by
  refine FnS_intro (n := 33) (rs := [.tmp 6]) (vs := [ptr d.b, .int .i64 n, .agg (bs s).toArray]) Try.func56 rfl Try.ntmps56 rfl rfl ?_
  refine C_seq ?_
  refine C_region ?_
  refine L_op rfl (op_box rfl rfl rfl (fun B1 => ?_))
  refine L_y rfl (y_assign rfl) rfl ?_
  refine L_nil ?_
  refine C_seq ?_
  refine C_block ?_
  refine C_seq ?_
  refine C_region ?_
  refine L_y rfl (y_move rfl) rfl ?_
  refine L_y rfl (y_eqp rfl rfl Try.underlying30) rfl ?_
  refine L_y rfl (y_assign rfl) rfl ?_
  refine L_nil ?_
  refine C_cond_f rfl ?_
  refine C_seq ?_
  refine C_region ?_
  refine L_y rfl (y_move rfl) rfl ?_
  refine L_op rfl (op_call rfl rfl (fun a w => Try.call87 a w) rfl ?_)
  refine (down_s d p (hD.up) (hP.up)).mono ?_
  rintro _ _ ⟨rfl, rfl⟩
  rw [hdn]
  refine ⟨_, rfl, ?_⟩
  refine L_y rfl (y_assign rfl) rfl ?_
  refine L_nil ?_
  refine C_cond_f rfl ?_
  refine C_seq ?_
  refine C_region ?_
  refine L_y rfl (y_move rfl) rfl ?_
  refine L_y rfl (y_move rfl) rfl ?_
  refine L_op rfl (op_call rfl rfl (fun a w => Try.call88 a w) rfl ?_)
  refine (there_s d _ (hD.up)).mono ?_
  rintro _ _ ⟨rfl, rfl⟩
  rw [hth]
  refine ⟨_, rfl, ?_⟩
  refine L_y rfl (y_not rfl) rfl ?_
  refine L_y rfl (y_assign rfl) rfl ?_
  refine L_nil ?_
  refine C_cond_t rfl ?_
  refine C_seq ?_
  refine C_region ?_
  refine L_y rfl (y_assign rfl) rfl ?_
  refine L_nil ?_
  refine C_ret ?_
  refine B_ret (rv_tmp rfl rv_nil) (hsub (.cons _ (.refl _))) ?_
  exact ⟨rfl, rfl⟩

theorem write_go {w0 : World} {H : Hp} {L R : List Dv} {d : Dv} {p : Pw} (hG : GOk dt p L d R) (n : Nat) (s : Sec) (hn : n < d.a.S.length) (hs : s.length = 128) (hQ : d.a.Q.length < 100000) (hdn : (d.a.out || p.a.off) = false) : FnS Try.prog w0 56 #[ptr d.b, .int .i64 (n : Int), .agg (bs s).toArray] (d.o dt :: d.t dt :: d.q dt :: p.o dt :: p.q dt :: ((L ++ R).flatMap (Dv.segs dt) ++ H)) (fun e H' => ∃ g', (d.wr n s g').ok ∧ e = .returned (.int .i64 (if p.a.falls then 13 else 0)) ∧ H' = opn dt ((d.wr n s g').step p.a) p.step ((L ++ R).map (Dv.step p.a)) H) := by
  have hd := hG.dok
  have hth : (decide ((0 : Int) ≤ (n : Int)) && decide ((n : Int) < d.a.S.length)) = true := by simp; omega
  refine FnS_intro (n := 33) (rs := [.tmp 6]) (vs := [ptr d.b, .int .i64 (n : Int), .agg (bs s).toArray]) Try.func56 rfl Try.ntmps56 rfl rfl ?_
  refine C_seq ?_
  refine C_region ?_
  refine L_op rfl (op_box rfl rfl rfl (fun B1 => ?_))
  refine L_y rfl (y_assign rfl) rfl ?_
  refine L_nil ?_
  refine C_seq ?_
  refine C_block ?_
  refine C_seq ?_
  refine C_region ?_
  refine L_y rfl (y_move rfl) rfl ?_
  refine L_y rfl (y_eqp rfl rfl Try.underlying30) rfl ?_
  refine L_y rfl (y_assign rfl) rfl ?_
  refine L_nil ?_
  refine C_cond_f rfl ?_
  refine C_seq ?_
  refine C_region ?_
  refine L_y rfl (y_move rfl) rfl ?_
  refine L_op rfl (op_call rfl rfl (fun a w => Try.call87 a w) rfl ?_)
  refine (down_s d p (sees 1 0 rfl) (hG.hb ▸ sees 4 0 rfl)).mono ?_
  rintro _ _ ⟨rfl, rfl⟩
  rw [hdn]
  refine ⟨_, rfl, ?_⟩
  refine L_y rfl (y_assign rfl) rfl ?_
  refine L_nil ?_
  refine C_cond_f rfl ?_
  refine C_seq ?_
  refine C_region ?_
  refine L_y rfl (y_move rfl) rfl ?_
  refine L_y rfl (y_move rfl) rfl ?_
  refine L_op rfl (op_call rfl rfl (fun a w => Try.call88 a w) rfl ?_)
  refine (there_s d _ (sees 1 0 rfl)).mono ?_
  rintro _ _ ⟨rfl, rfl⟩
  rw [hth]
  refine ⟨_, rfl, ?_⟩
  refine L_y rfl (y_not rfl) rfl ?_
  refine L_y rfl (y_assign rfl) rfl ?_
  refine L_nil ?_
  refine C_cond_f rfl ?_
  refine C_skip ?_
  refine C_seq ?_
  refine C_regionH ([(B1, .cells (bs s).toArray 38)] :: ((L ++ R).flatMap (Dv.segs dt) ++ H)) (by kernel_rfl) ?_
  refine H_y 0 rfl (by kernel_rfl) (by kernel_rfl) (by kernel_rfl) (hsub (.cons_cons _ (.cons _ (.cons _ (.cons _ (.cons _ (.cons _ (.refl _)))))))) rfl (y_move rfl) rfl ?_
  refine H_y 1 rfl (by kernel_rfl) (by kernel_rfl) (by kernel_rfl) (hsub (.cons_cons _ (.cons _ (.cons _ (.cons _ (.cons _ (.cons _ (.refl _)))))))) rfl (y_move rfl) rfl ?_
  refine H_y 2 rfl (by kernel_rfl) (by kernel_rfl) (by kernel_rfl) (hsub (.cons_cons _ (.cons _ (.cons _ (.cons _ (.cons _ (.cons _ (.refl _)))))))) rfl (y_nilCheck rfl) rfl ?_
  refine H_y 3 rfl (by kernel_rfl) (by kernel_rfl) (by kernel_rfl) (hsub (.cons_cons _ (.cons _ (.cons _ (.cons _ (.cons _ (.cons _ (.refl _)))))))) rfl (y_fieldAddr rfl fl_116_2) rfl ?_
  refine H_y 5 rfl (by kernel_rfl) (by kernel_rfl) (by kernel_rfl) (hsub (.cons_cons _ (.cons _ (.cons _ (.cons _ (.cons _ (.cons _ (.refl _)))))))) rfl (y_move rfl) rfl ?_
  refine H_y 6 rfl (by kernel_rfl) (by kernel_rfl) (by kernel_rfl) (hsub (.cons_cons _ (.cons _ (.cons _ (.cons _ (.cons _ (.cons _ (.refl _)))))))) rfl (y_loadA rfl ag_38 sz_38 (sees 0 0 rfl) (by rw [bs_length, hs]; decide) (bs_whole0 s hs)) rfl ?_
  refine H_y 7 rfl (by kernel_rfl) (by kernel_rfl) (by kernel_rfl) (hsub (.cons_cons _ (.cons _ (.cons _ (.cons _ (.cons _ (.cons _ (.refl _)))))))) rfl (y_build (vs := [(0, .int .i64 (n : Int)), (1, .agg (bs s).toArray)]) rfl pl_142 zl_142 (fill_wr hs)) rfl ?_
  refine H_two 4 8 rfl rfl (by kernel_rfl) rfl rfl ?_ ?_
  · refine op_y (y_load rfl ag_114 (sees 1 0 rfl) rfl) rfl ?_
    refine ⟨hsub (.cons_cons _ (.cons _ (.cons _ (.cons _ (.cons _ (.cons _ (.refl _))))))), ?_⟩
    refine H_one 8 rfl (by kernel_rfl) rfl (op_buildSlice (vs := [(0, .agg (.int .i64 (n : Int) :: bs s).toArray)]) rfl Try.underlying114 sz_142 zl_142 rfl (by decide) (fill_one rfl (by simp [bs_length, hs]) rfl) rfl (fun B2 => ?_))
    refine ⟨hsub (.cons _ (.cons_cons _ (.cons _ (.cons _ (.cons _ (.cons _ (.cons _ (.refl _)))))))), ?_⟩
    refine H_one 9 rfl (by kernel_rfl) rfl (op_append (gs := d.g) (len := d.a.Q.length) (m := 1) (xs := wcs d.a.Q) (vs := .int .i64 (n : Int) :: bs s) 4 rfl rfl rfl hd.2.1 (src_slice (sees 0 0 rfl) (by simp [bs_length, hs]) (by rw [List.drop_zero, List.take_of_length_le (by simp [bs_length, hs])])) (by simp [bs_length, hs]) (one_wr n s) Try.underlying114 ni_114 sz_142 by_142 (by decide) zl_142 rfl (by omega) rfl (fun g' hg' => ?_))
    have hok' : (d.wr n s g').ok := Dv.wr_ok hd hn hs hQ hg'
    rw [← wcs_one, ← wcs_append, show d.a.Q.length + 1 = (d.a.Q ++ [(n, s)]).length from by simp] at hg' ⊢
    have hG' : GOk dt p L (d.wr n s g') R := hG.set rfl rfl hok'
    refine ⟨hsub (.cons _ (.cons_cons _ (.cons _ (.cons _ (.cons _ (.cons _ (.cons _ (.refl _)))))))), ?_⟩
    refine H_y 10 rfl (by kernel_rfl) (by kernel_rfl) (by kernel_rfl) (hsub (.cons _ (.cons_cons _ (.cons _ (.cons _ (.cons _ (.cons _ (.cons _ (.refl _))))))))) rfl (y_nilCheck rfl) rfl ?_
    refine H_y 11 rfl (by kernel_rfl) (by kernel_rfl) (by kernel_rfl) (hsub (.cons _ (.cons_cons _ (.cons _ (.cons _ (.cons _ (.cons _ (.cons _ (.refl _))))))))) rfl (y_fieldAddr rfl fl_116_2) rfl ?_
    refine H_one 12 rfl (by kernel_rfl) rfl (op_store1 2 0 rfl rfl (one_slV _ _) sz_114 rfl (Nat.le_of_ble_eq_true rfl) ?_)
    refine ⟨hsub (.cons _ (.cons_cons _ (.cons _ (.cons _ (.cons _ (.cons _ (.cons _ (.refl _)))))))), ?_⟩
    refine H_done (by kernel_rfl) ?_
    refine C_seq ?_
    refine C_seq ?_
    refine C_region ?_
    refine L_y rfl (y_move rfl) rfl ?_
    refine L_op rfl (op_call rfl rfl (fun a w => Try.call89 a w) rfl ?_)
    refine (((operate_s (L := L) (R := R) (d := d.wr n s g') (p := p) (H := H) hG').sub (hsub (.cons _ (.cons _ (.refl _)))))).mono ?_
    rintro _ _ ⟨rfl, rfl⟩
    refine ⟨_, rfl, ?_⟩
    refine L_y rfl (y_not rfl) rfl ?_
    refine L_nil ?_
    refine C_cond rfl (fun hc3 => ?_) (fun hc3 => ?_)
    · skip
      refine C_seq ?_
      refine C_region ?_
      refine L_y rfl (y_assign rfl) rfl ?_
      refine L_nil ?_
      refine C_ret ?_
      refine B_ret (rv_tmp rfl rv_nil) (HSub.refl _) ?_
      exact ⟨g', hok', ret_int (by simpa using hc3), rfl⟩
    · skip
      refine C_skip ?_
      refine C_seq ?_
      refine C_region ?_
      refine L_y rfl (y_assign rfl) rfl ?_
      refine L_nil ?_
      refine C_ret ?_
      refine B_ret (rv_tmp rfl rv_nil) (HSub.refl _) ?_
      exact ⟨g', hok', ret_int (by simpa using hc3), rfl⟩
  · refine op_buildSlice (vs := [(0, .agg (.int .i64 (n : Int) :: bs s).toArray)]) rfl Try.underlying114 sz_142 zl_142 rfl (by decide) (fill_one rfl (by simp [bs_length, hs]) rfl) rfl (fun B3 => ?_)
    refine ⟨hsub (.cons _ (.cons_cons _ (.cons _ (.cons _ (.cons _ (.cons _ (.cons _ (.refl _)))))))), ?_⟩
    refine H_one 4 rfl (by kernel_rfl) rfl (op_y (y_load rfl ag_114 (sees 2 0 rfl) rfl) rfl ?_)
    refine ⟨hsub (.cons _ (.cons_cons _ (.cons _ (.cons _ (.cons _ (.cons _ (.cons _ (.refl _)))))))), ?_⟩
    refine H_one 9 rfl (by kernel_rfl) rfl (op_append (gs := d.g) (len := d.a.Q.length) (m := 1) (xs := wcs d.a.Q) (vs := .int .i64 (n : Int) :: bs s) 4 rfl rfl rfl hd.2.1 (src_slice (sees 0 0 rfl) (by simp [bs_length, hs]) (by rw [List.drop_zero, List.take_of_length_le (by simp [bs_length, hs])])) (by simp [bs_length, hs]) (one_wr n s) Try.underlying114 ni_114 sz_142 by_142 (by decide) zl_142 rfl (by omega) rfl (fun g' hg' => ?_))
    have hok' : (d.wr n s g').ok := Dv.wr_ok hd hn hs hQ hg'
    rw [← wcs_one, ← wcs_append, show d.a.Q.length + 1 = (d.a.Q ++ [(n, s)]).length from by simp] at hg' ⊢
    have hG' : GOk dt p L (d.wr n s g') R := hG.set rfl rfl hok'
    refine ⟨hsub (.cons _ (.cons_cons _ (.cons _ (.cons _ (.cons _ (.cons _ (.cons _ (.refl _)))))))), ?_⟩
    refine H_y 10 rfl (by kernel_rfl) (by kernel_rfl) (by kernel_rfl) (hsub (.cons _ (.cons_cons _ (.cons _ (.cons _ (.cons _ (.cons _ (.cons _ (.refl _))))))))) rfl (y_nilCheck rfl) rfl ?_
    refine H_y 11 rfl (by kernel_rfl) (by kernel_rfl) (by kernel_rfl) (hsub (.cons _ (.cons_cons _ (.cons _ (.cons _ (.cons _ (.cons _ (.cons _ (.refl _))))))))) rfl (y_fieldAddr rfl fl_116_2) rfl ?_
    refine H_one 12 rfl (by kernel_rfl) rfl (op_store1 2 0 rfl rfl (one_slV _ _) sz_114 rfl (Nat.le_of_ble_eq_true rfl) ?_)
    refine ⟨hsub (.cons _ (.cons_cons _ (.cons _ (.cons _ (.cons _ (.cons _ (.cons _ (.refl _)))))))), ?_⟩
    refine H_done (by kernel_rfl) ?_
    refine C_seq ?_
    refine C_seq ?_
    refine C_region ?_
    refine L_y rfl (y_move rfl) rfl ?_
    refine L_op rfl (op_call rfl rfl (fun a w => Try.call89 a w) rfl ?_)
    refine (((operate_s (L := L) (R := R) (d := d.wr n s g') (p := p) (H := H) hG').sub (hsub (.cons _ (.cons _ (.refl _)))))).mono ?_
    rintro _ _ ⟨rfl, rfl⟩
    refine ⟨_, rfl, ?_⟩
    refine L_y rfl (y_not rfl) rfl ?_
    refine L_nil ?_
    refine C_cond rfl (fun hc3 => ?_) (fun hc3 => ?_)
    · skip
      refine C_seq ?_
      refine C_region ?_
      refine L_y rfl (y_assign rfl) rfl ?_
      refine L_nil ?_
      refine C_ret ?_
      refine B_ret (rv_tmp rfl rv_nil) (HSub.refl _) ?_
      exact ⟨g', hok', ret_int (by simpa using hc3), rfl⟩
    · skip
      refine C_skip ?_
      refine C_seq ?_
      refine C_region ?_
      refine L_y rfl (y_assign rfl) rfl ?_
      refine L_nil ?_
      refine C_ret ?_
      refine B_ret (rv_tmp rfl rv_nil) (HSub.refl _) ?_
      exact ⟨g', hok', ret_int (by simpa using hc3), rfl⟩

end Go.Proofs.Ytaeooiogjhkjfaa

/- walks (own work; the walks' lines by a program of this repo). -/
set_option linter.unusedVariables false
set_option linter.unusedSimpArgs false
set_option maxRecDepth 20000
namespace Go.Proofs.Ytaeooiogjhkjfaa
open Go.Sl
attribute [local irreducible] BodyQ WpC WpL WpS WpH OpW FnS


theorem flush_down {w0 : World} {H : Hp} {d : Dv} {p : Pw} (hD : Sees (fun w => St w0 w H) d.b (.cells d.cells.toArray dt.dev)) (hP : Sees (fun w => St w0 w H) d.pw (.cells p.cells.toArray dt.pow)) (hdn : (d.a.out || p.a.off) = true) : FnS Try.prog w0 60 #[ptr d.b] H (fun e H' => e = .returned (.int .i64 13) ∧ H' = H) := by
  refine FnS_intro (n := 43) (rs := [.tmp 2]) (vs := [ptr d.b]) Try.func60 rfl Try.ntmps60 rfl rfl ?_
  refine C_seq ?_
  refine C_region ?_
  refine L_y rfl (y_assign rfl) rfl ?_
  refine L_nil ?_
  refine C_seq ?_
  refine C_block ?_
  refine C_seq ?_
  refine C_region ?_
  refine L_y rfl (y_move rfl) rfl ?_
  refine L_y rfl (y_eqp rfl rfl Try.underlying30) rfl ?_
  refine L_y rfl (y_assign rfl) rfl ?_
  refine L_nil ?_
  refine C_cond_f rfl ?_
  refine C_seq ?_
  refine C_region ?_
  refine L_y rfl (y_move rfl) rfl ?_
  refine L_op rfl (op_call rfl rfl (fun a w => Try.call87 a w) rfl ?_)
  refine (down_s d p (hD) (hP)).mono ?_
  rintro _ _ ⟨rfl, rfl⟩
  rw [hdn]
  refine ⟨_, rfl, ?_⟩
  refine L_y rfl (y_move rfl) rfl ?_
  refine L_skip rfl rfl ?_
  refine L_skip rfl rfl ?_
  refine L_skip rfl rfl ?_
  refine L_y rfl (y_pick_t rfl rfl) rfl ?_
  refine L_y rfl (y_assign rfl) rfl ?_
  refine L_nil ?_
  refine C_cond_t rfl ?_
  refine C_seq ?_
  refine C_region ?_
  refine L_y rfl (y_assign rfl) rfl ?_
  refine L_nil ?_
  refine C_ret ?_
  refine B_ret (rv_tmp rfl rv_nil) (HSub.refl _) ?_
  exact ⟨rfl, rfl⟩

theorem flush_falls {w0 : World} {H : Hp} {L R : List Dv} {d : Dv} {p : Pw} (hG : GOk dt p L d R) (hdn : (d.a.out || p.a.off) = false) (hfa : p.a.falls = true) : FnS Try.prog w0 60 #[ptr d.b] (d.o dt :: d.t dt :: d.q dt :: p.o dt :: p.q dt :: ((L ++ R).flatMap (Dv.segs dt) ++ H)) (fun e H' => e = .returned (.int .i64 13) ∧ H' = opn dt (d.step p.a) p.step ((L ++ R).map (Dv.step p.a)) H) := by
  refine FnS_intro (n := 43) (rs := [.tmp 2]) (vs := [ptr d.b]) Try.func60 rfl Try.ntmps60 rfl rfl ?_
  refine C_seq ?_
  refine C_region ?_
  refine L_y rfl (y_assign rfl) rfl ?_
  refine L_nil ?_
  refine C_seq ?_
  refine C_block ?_
  refine C_seq ?_
  refine C_region ?_
  refine L_y rfl (y_move rfl) rfl ?_
  refine L_y rfl (y_eqp rfl rfl Try.underlying30) rfl ?_
  refine L_y rfl (y_assign rfl) rfl ?_
  refine L_nil ?_
  refine C_cond_f rfl ?_
  refine C_seq ?_
  refine C_region ?_
  refine L_y rfl (y_move rfl) rfl ?_
  refine L_op rfl (op_call rfl rfl (fun a w => Try.call87 a w) rfl ?_)
  refine (down_s d p (sees 0 0 rfl) (hG.hb ▸ sees 3 0 rfl)).mono ?_
  rintro _ _ ⟨rfl, rfl⟩
  rw [hdn]
  refine ⟨_, rfl, ?_⟩
  refine L_y rfl (y_move rfl) rfl ?_
  refine L_y rfl (y_move rfl) rfl ?_
  refine L_op rfl (op_call rfl rfl (fun a w => Try.call89 a w) rfl ?_)
  refine (operate_s hG).mono ?_
  rintro _ _ ⟨rfl, rfl⟩
  rw [hfa]
  refine ⟨_, rfl, ?_⟩
  refine L_y rfl (y_not rfl) rfl ?_
  refine L_y rfl (y_pick_f rfl rfl) rfl ?_
  refine L_y rfl (y_assign rfl) rfl ?_
  refine L_nil ?_
  refine C_cond_t rfl ?_
  refine C_seq ?_
  refine C_region ?_
  refine L_y rfl (y_assign rfl) rfl ?_
  refine L_nil ?_
  refine C_ret ?_
  refine B_ret (rv_tmp rfl rv_nil) (HSub.refl _) ?_
  exact ⟨rfl, rfl⟩

theorem flush_lies {w0 : World} {H : Hp} {L R : List Dv} {d : Dv} {p : Pw} (hG : GOk dt p L d R) (hdn : (d.a.out || p.a.off) = false) (hfa : p.a.falls = false) (hl : d.a.lies = true) : FnS Try.prog w0 60 #[ptr d.b] (d.o dt :: d.t dt :: d.q dt :: p.o dt :: p.q dt :: ((L ++ R).flatMap (Dv.segs dt) ++ H)) (fun e H' => e = .returned (.int .i64 0) ∧ H' = opn dt d p.step (L ++ R) H) := by
  refine FnS_intro (n := 43) (rs := [.tmp 2]) (vs := [ptr d.b]) Try.func60 rfl Try.ntmps60 rfl rfl ?_
  refine C_seq ?_
  refine C_region ?_
  refine L_y rfl (y_assign rfl) rfl ?_
  refine L_nil ?_
  refine C_seq ?_
  refine C_block ?_
  refine C_seq ?_
  refine C_region ?_
  refine L_y rfl (y_move rfl) rfl ?_
  refine L_y rfl (y_eqp rfl rfl Try.underlying30) rfl ?_
  refine L_y rfl (y_assign rfl) rfl ?_
  refine L_nil ?_
  refine C_cond_f rfl ?_
  refine C_seq ?_
  refine C_region ?_
  refine L_y rfl (y_move rfl) rfl ?_
  refine L_op rfl (op_call rfl rfl (fun a w => Try.call87 a w) rfl ?_)
  refine (down_s d p (sees 0 0 rfl) (hG.hb ▸ sees 3 0 rfl)).mono ?_
  rintro _ _ ⟨rfl, rfl⟩
  rw [hdn]
  refine ⟨_, rfl, ?_⟩
  refine L_y rfl (y_move rfl) rfl ?_
  refine L_y rfl (y_move rfl) rfl ?_
  refine L_op rfl (op_call rfl rfl (fun a w => Try.call89 a w) rfl ?_)
  refine (operate_s hG).mono ?_
  rintro _ _ ⟨rfl, rfl⟩
  rw [hfa]
  rw [step0 hfa, step_map0 hfa]
  refine ⟨_, rfl, ?_⟩
  refine L_y rfl (y_not rfl) rfl ?_
  refine L_y rfl (y_pick_f rfl rfl) rfl ?_
  refine L_y rfl (y_assign rfl) rfl ?_
  refine L_nil ?_
  refine C_cond_f rfl ?_
  refine C_seq ?_
  refine C_region ?_
  refine L_y rfl (y_move rfl) rfl ?_
  refine L_y rfl (y_nilCheck rfl) rfl ?_
  refine L_y rfl (y_fieldAddr rfl fl_116_5) rfl ?_
  refine L_y rfl (y_load rfl ag_4 (sees 0 0 rfl) rfl) rfl ?_
  refine L_y rfl (y_assign rfl) rfl ?_
  refine L_nil ?_
  refine C_cond rfl (fun hc2 => ?_) (fun hc2 => absurd (hl.symm.trans hc2) (by simp))
  refine C_seq ?_
  refine C_region ?_
  refine L_y rfl (y_assign rfl) rfl ?_
  refine L_nil ?_
  refine C_ret ?_
  refine B_ret (rv_tmp rfl rv_nil) (HSub.refl _) ?_
  exact ⟨rfl, rfl⟩

theorem flush_go0 {w0 : World} {H : Hp} {L R : List Dv} {p : Pw} {b st pw : Nat} {g : Option SlG} {a : Ab} (hG : GOk dt p L ⟨b, st, pw, g, a⟩ R) (hdn : (a.out || p.a.off) = false) (hfa : p.a.falls = false) (hl : a.lies = false) : FnS Try.prog w0 60 #[ptr b] (Dv.o dt ⟨b, st, pw, g, a⟩ :: Dv.t dt ⟨b, st, pw, g, a⟩ :: Dv.q dt ⟨b, st, pw, g, a⟩ :: p.o dt :: p.q dt :: ((L ++ R).flatMap (Dv.segs dt) ++ H)) (fun e H' => e = .returned (.int .i64 0) ∧ H' = opn dt (Dv.fl ⟨b, st, pw, g, a⟩) p.step (L ++ R) H) := by
  obtain ⟨hok, hq, hQl⟩ := hG.dok
  simp only at hok hq hQl
  refine FnS_intro (n := 43) (rs := [.tmp 2]) (vs := [ptr b]) Try.func60 rfl Try.ntmps60 rfl rfl ?_
  refine C_seq ?_
  refine C_region ?_
  refine L_y rfl (y_assign rfl) rfl ?_
  refine L_nil ?_
  refine C_seq ?_
  refine C_block ?_
  refine C_seq ?_
  refine C_region ?_
  refine L_y rfl (y_move rfl) rfl ?_
  refine L_y rfl (y_eqp rfl rfl Try.underlying30) rfl ?_
  refine L_y rfl (y_assign rfl) rfl ?_
  refine L_nil ?_
  refine C_cond_f rfl ?_
  refine C_seq ?_
  refine C_region ?_
  refine L_y rfl (y_move rfl) rfl ?_
  refine L_op rfl (op_call rfl rfl (fun a w => Try.call87 a w) rfl ?_)
  refine (down_s ⟨b, st, pw, g, a⟩ p (sees 0 0 rfl) (hG.hb ▸ sees 3 0 rfl)).mono ?_
  rintro _ _ ⟨rfl, rfl⟩
  rw [hdn]
  refine ⟨_, rfl, ?_⟩
  refine L_y rfl (y_move rfl) rfl ?_
  refine L_y rfl (y_move rfl) rfl ?_
  refine L_op rfl (op_call rfl rfl (fun a w => Try.call89 a w) rfl ?_)
  refine (operate_s hG).mono ?_
  rintro _ _ ⟨rfl, rfl⟩
  rw [hfa]
  rw [step0 hfa, step_map0 hfa]
  refine ⟨_, rfl, ?_⟩
  refine L_y rfl (y_not rfl) rfl ?_
  refine L_y rfl (y_pick_f rfl rfl) rfl ?_
  refine L_y rfl (y_assign rfl) rfl ?_
  refine L_nil ?_
  refine C_cond_f rfl ?_
  refine C_seq ?_
  refine C_region ?_
  refine L_y rfl (y_move rfl) rfl ?_
  refine L_y rfl (y_nilCheck rfl) rfl ?_
  refine L_y rfl (y_fieldAddr rfl fl_116_5) rfl ?_
  refine L_y rfl (y_load rfl ag_4 (sees 0 0 rfl) rfl) rfl ?_
  refine L_y rfl (y_assign rfl) rfl ?_
  refine L_nil ?_
  refine C_cond rfl (fun hc2 => absurd (hl.symm.trans hc2) (by simp)) (fun hc2 => ?_)
  refine C_skip ?_
  refine C_seq ?_
  refine C_seq ?_
  refine C_region ?_
  refine L_y rfl (y_move rfl) rfl ?_
  refine L_y rfl (y_nilCheck rfl) rfl ?_
  refine L_y rfl (y_fieldAddr rfl fl_116_2) rfl ?_
  refine L_y rfl (y_load rfl ag_114 (sees 0 0 rfl) rfl) rfl ?_
  refine L_y rfl (y_lenV hq rfl rfl Try.underlying114) rfl ?_
  refine L_y rfl (y_move rfl) rfl ?_
  refine L_nil ?_
  refine C_block ?_
  refine C_loop (ι := Nat) (fun i => [(0, ptr b), (24, slV g a.Q.length), (25, .int .i64 (a.Q.length : Int)), (26, .int .i64 (i : Int))]) (fun i => Dv.o dt ⟨b, st, pw, g, a⟩ :: [(st, .cells (bs (flushN a i).flatten).toArray 38)] :: slSeg 142 g (wcs a.Q) :: Pw.o dt p.step :: Pw.q dt p.step :: ((L ++ R).flatMap (Dv.segs dt) ++ H)) (fun i => i ≤ a.Q.length) (fun i => a.Q.length - i) 0 (Nat.zero_le _) ⟨rfl, rfl, rfl, rfl, trivial⟩ (HSub.refl _) (fun i hi => ?_)
  skip
  refine C_seq ?_
  refine C_region ?_
  refine L_y rfl (y_lss rfl rfl) rfl ?_
  refine L_nil ?_
  refine C_seq ?_
  refine C_cond rfl (fun hc3 => ?_) (fun hc3 => ?_)
  · replace hc3 := of_decide_eq_true hc3
    refine C_skip ?_
    refine C_seq ?_
    refine C_block ?_
    refine C_seq ?_
    obtain ⟨x, hx⟩ : ∃ x, a.Q[i]? = some x := ⟨_, List.getElem?_eq_getElem (by omega)⟩
    have hxm := hok.2.2.1 x (List.mem_of_getElem? hx)
    obtain ⟨hS1, hS2⟩ := flushN_ok hok i
    have hfl := flat_len hS1
    have hQ : ∀ x ∈ a.Q, x.2.length = 128 := fun x hx => (hok.2.2.1 x hx).2
    cases g with
    | none => exact absurd hq.2 (by simp only; omega)
    | some g => ?_
    have hwl := wcs_len hQ
    refine C_region ?_
    refine L_y rfl (y_indexS rfl rfl Try.underlying114 sz_142 (by omega) (by omega) (show _ = i * 129 from by simp)) rfl ?_
    refine L_y rfl (y_loadA rfl ag_142 sz_142 (sees 2 0 rfl) (by rw [List.length_append, hwl]; omega) (wcs_get _ hQ hx)) rfl ?_
    refine L_op rfl (op_alloc zl_142 rfl (fun B1 => ?_))
    refine L_op rfl (op_storeA 0 0 rfl rfl rfl sz_142 (by simp [bs_length, hxm.2]) rfl (one_wr _ _) rfl ?_)
    refine L_nil ?_
    refine C_regionT 9 (by kernel_rfl) (by kernel_rfl) ?_
    refine S_y rfl (y_move rfl) rfl ?_
    refine S_y rfl (y_nilCheck rfl) rfl ?_
    refine S_y rfl (y_fieldAddr rfl fl_116_1) rfl ?_
    refine S_y rfl (y_load rfl ag_43 (sees 1 0 rfl) rfl) rfl ?_
    refine S_y rfl (y_fieldAddr rfl fl_142_0) rfl ?_
    refine S_y rfl (y_load rfl ag_3 (sees 0 0 rfl) rfl) rfl ?_
    refine S_y rfl (y_fieldAddr rfl fl_142_1) rfl ?_
    refine S_y rfl (y_loadA rfl ag_38 sz_38 (sees 0 0 rfl) (by simp [bs_length, hxm.2]) (bs_whole x.2 hxm.2)) rfl ?_
    refine S_y rfl (y_indexS rfl rfl Try.underlying43 sz_38 (by omega) (by simp only; omega) (show _ = x.1 * 128 from by simp)) rfl ?_
    refine S_nil ?_
    refine L_op rfl (op_store 2 0 rfl rfl rfl sz_38 (by rw [bs_length, hxm.2]) rfl (bs_one _) (by rw [bs_length, hfl]; omega) ?_)
    rw [flat_spl hS1 (by omega) hxm.2, ← flushN_s hx]
    refine L_nil ?_
    refine C_region ?_
    refine L_y rfl (y_add rfl rfl (wi64 (by omega) (by omega))) rfl ?_
    refine L_y rfl (y_move rfl) rfl ?_
    refine L_nil ?_
    exact ⟨i + 1, by omega, by omega, ⟨rfl, rfl, rfl, rfl, trivial⟩, hsub (.cons _ (.refl _))⟩
  · replace hc3 := of_decide_eq_false hc3
    refine C_exit ?_
    refine C_seq ?_
    obtain rfl : i = a.Q.length := by omega
    refine C_region ?_
    refine L_y rfl (y_move rfl) rfl ?_
    refine L_y rfl (y_nilCheck rfl) rfl ?_
    refine L_y rfl (y_fieldAddr rfl fl_116_2) rfl ?_
    refine L_op rfl (op_store1 0 0 rfl rfl rfl sz_114 rfl (Nat.le_of_ble_eq_true rfl) ?_)
    refine L_nil ?_
    refine C_seq ?_
    refine C_region ?_
    refine L_y rfl (y_assign rfl) rfl ?_
    refine L_nil ?_
    refine C_ret ?_
    refine B_ret (rv_tmp rfl rv_nil) ((hsub_flat rfl : HSub (_ :: _ :: [] :: Pw.o dt p.step :: Pw.q dt p.step :: ((L ++ R).flatMap (Dv.segs dt) ++ H)) (_ :: _ :: Pw.o dt p.step :: Pw.q dt p.step :: ((L ++ R).flatMap (Dv.segs dt) ++ H))).trans (hsub (.cons_cons _ (.cons_cons _ (.cons _ (.refl _)))))) ?_
    obtain ⟨e1, e2, e3⟩ := Dv.fl_segs dt (b := b) (st := st) (pw := pw) (g := g) hok
    unfold opn
    rw [e1, e2, e3]
    exact ⟨rfl, rfl⟩

theorem flush_go {w0 : World} {H : Hp} {L R : List Dv} {d : Dv} {p : Pw} (hG : GOk dt p L d R) (hdn : (d.a.out || p.a.off) = false) (hfa : p.a.falls = false) (hl : d.a.lies = false) : FnS Try.prog w0 60 #[ptr d.b] (opn dt d p (L ++ R) H) (fun e H' => e = .returned (.int .i64 0) ∧ H' = opn dt d.fl p.step (L ++ R) H) := flush_go0 hG hdn hfa hl

end Go.Proofs.Ytaeooiogjhkjfaa

/- walks (own work; the walks' lines by a program of this repo). -/
set_option linter.unusedVariables false
set_option linter.unusedSimpArgs false
set_option maxRecDepth 20000
namespace Go.Proofs.Ytaeooiogjhkjfaa
open Go.Sl
attribute [local irreducible] BodyQ WpC WpL WpS WpH OpW FnS


theorem rot_out {w0 : World} {H : Hp} (d : Dv) (hD : Sees (fun w => St w0 w H) d.b (.cells d.cells.toArray dt.dev)) (n i m : Int) (hth : (decide (0 ≤ n) && decide (n < d.a.S.length)) = false) : FnS Try.prog w0 65 #[ptr d.b, .int .i64 n, .int .i64 i, .int .u8 m] H (fun e H' => e = .returned (.bool false) ∧ H' = H) := by
  refine FnS_intro (n := 38) (rs := [.tmp 8]) (vs := [ptr d.b, .int .i64 n, .int .i64 i, .int .u8 m]) Try.func65 rfl Try.ntmps65 rfl rfl ?_
  refine C_seq ?_
  refine C_region ?_
  refine L_y rfl (y_assign rfl) rfl ?_
  refine L_nil ?_
  refine C_seq ?_
  refine C_seq ?_
  refine C_region ?_
  refine L_y rfl (y_move rfl) rfl ?_
  refine L_y rfl (y_eqp rfl rfl Try.underlying30) rfl ?_
  refine L_y rfl (y_move rfl) rfl ?_
  refine L_y rfl (y_move rfl) rfl ?_
  refine L_y rfl (y_move rfl) rfl ?_
  refine L_op rfl (op_call rfl rfl (fun a w => Try.call88 a w) rfl ?_)
  refine (there_s d n (hD)).mono ?_
  rintro _ _ ⟨rfl, rfl⟩
  rw [hth]
  refine ⟨_, rfl, ?_⟩
  refine L_y rfl (y_not rfl) rfl ?_
  refine L_y rfl (y_pick_f rfl rfl) rfl ?_
  refine L_y rfl (y_move rfl) rfl ?_
  refine L_skip rfl rfl ?_
  refine L_skip rfl rfl ?_
  refine L_y rfl (y_pick_t rfl rfl) rfl ?_
  refine L_y rfl (y_move rfl) rfl ?_
  refine L_skip rfl rfl ?_
  refine L_skip rfl rfl ?_
  refine L_y rfl (y_pick_t rfl rfl) rfl ?_
  refine L_nil ?_
  refine C_cond_t rfl ?_
  refine C_seq ?_
  refine C_region ?_
  refine L_y rfl (y_assign rfl) rfl ?_
  refine L_nil ?_
  refine C_ret ?_
  refine B_ret (rv_tmp rfl rv_nil) (HSub.refl _) ?_
  exact ⟨rfl, rfl⟩

theorem rot_at {w0 : World} {H : Hp} (d : Dv) (hD : Sees (fun w => St w0 w H) d.b (.cells d.cells.toArray dt.dev)) (n i m : Int) (hth : (decide (0 ≤ n) && decide (n < d.a.S.length)) = true) (hi : ¬ (0 ≤ i ∧ i < 128)) : FnS Try.prog w0 65 #[ptr d.b, .int .i64 n, .int .i64 i, .int .u8 m] H (fun e H' => e = .returned (.bool false) ∧ H' = H) := by
  refine FnS_intro (n := 38) (rs := [.tmp 8]) (vs := [ptr d.b, .int .i64 n, .int .i64 i, .int .u8 m]) Try.func65 rfl Try.ntmps65 rfl rfl ?_
  refine C_seq ?_
  refine C_region ?_
  refine L_y rfl (y_assign rfl) rfl ?_
  refine L_nil ?_
  refine C_seq ?_
  refine C_seq ?_
  refine C_region ?_
  refine L_y rfl (y_move rfl) rfl ?_
  refine L_y rfl (y_eqp rfl rfl Try.underlying30) rfl ?_
  refine L_y rfl (y_move rfl) rfl ?_
  refine L_y rfl (y_move rfl) rfl ?_
  refine L_y rfl (y_move rfl) rfl ?_
  refine L_op rfl (op_call rfl rfl (fun a w => Try.call88 a w) rfl ?_)
  refine (there_s d n (hD)).mono ?_
  rintro _ _ ⟨rfl, rfl⟩
  rw [hth]
  refine ⟨_, rfl, ?_⟩
  refine L_y rfl (y_not rfl) rfl ?_
  refine L_y rfl (y_pick_f rfl rfl) rfl ?_
  refine L_y rfl (y_move rfl) rfl ?_
  refine L_y rfl (y_move rfl) rfl ?_
  refine L_y rfl (y_lss rfl rfl) rfl ?_
  refine L_y rfl (y_pick_f rfl rfl) rfl ?_
  refine L_y rfl (y_move rfl) rfl ?_
  refine L_case 21 rfl (fun hg1_13 => ?_) (fun hg1_13 => ?_)
  · skip
    refine L_skip rfl rfl ?_
    refine L_skip rfl rfl ?_
    refine L_y rfl (y_pick_t rfl rfl) rfl ?_
    refine L_nil ?_
    refine C_cond_t rfl ?_
    refine C_seq ?_
    refine C_region ?_
    refine L_y rfl (y_assign rfl) rfl ?_
    refine L_nil ?_
    refine C_ret ?_
    refine B_ret (rv_tmp rfl rv_nil) (HSub.refl _) ?_
    exact ⟨rfl, rfl⟩
  · skip
    refine L_y rfl (y_move rfl) rfl ?_
    refine L_y rfl (y_geq rfl rfl) rfl ?_
    refine L_y rfl (y_pick_f rfl rfl) rfl ?_
    refine L_nil ?_
    refine C_cond rfl (fun hc0 => ?_) (fun hc0 => absurd hc0 (by simp at hg1_13 ⊢ <;> omega))
    refine C_seq ?_
    refine C_region ?_
    refine L_y rfl (y_assign rfl) rfl ?_
    refine L_nil ?_
    refine C_ret ?_
    refine B_ret (rv_tmp rfl rv_nil) (HSub.refl _) ?_
    exact ⟨rfl, rfl⟩

theorem rot_go {w0 : World} {H : Hp} (d : Dv) (hd : d.a.ok) (n i : Nat) (m : UInt8) (hn : n < d.a.S.length) (hi : i < 128) : FnS Try.prog w0 65 #[ptr d.b, .int .i64 (n : Int), .int .i64 (i : Int), .int .u8 (m.toNat : Int)] (d.o dt :: d.t dt :: H) (fun e H' => e = .returned (.bool true) ∧ H' = ({ d with a := d.a.rot n i m } : Dv).o dt :: ({ d with a := d.a.rot n i m } : Dv).t dt :: H) := by
  have hth : (decide ((0 : Int) ≤ (n : Int)) && decide ((n : Int) < d.a.S.length)) = true := by simp; omega
  obtain ⟨s, hs⟩ : ∃ s, d.a.S[n]? = some s := ⟨_, List.getElem?_eq_getElem hn⟩
  have hs1 := hd.1 s (List.mem_of_getElem? hs)
  obtain ⟨v, hv⟩ : ∃ v, s[i]? = some v := ⟨_, List.getElem?_eq_getElem (by omega)⟩
  have hfl := flat_len hd.1
  have erot : d.a.rot n i m = { d.a with S := d.a.S.set n (s.set i (v ^^^ m)) } := by simp [Ab.rot, List.getD, hs, hv]
  refine FnS_intro (n := 38) (rs := [.tmp 8]) (vs := [ptr d.b, .int .i64 (n : Int), .int .i64 (i : Int), .int .u8 (m.toNat : Int)]) Try.func65 rfl Try.ntmps65 rfl rfl ?_
  refine C_seq ?_
  refine C_region ?_
  refine L_y rfl (y_assign rfl) rfl ?_
  refine L_nil ?_
  refine C_seq ?_
  refine C_seq ?_
  refine C_region ?_
  refine L_y rfl (y_move rfl) rfl ?_
  refine L_y rfl (y_eqp rfl rfl Try.underlying30) rfl ?_
  refine L_y rfl (y_move rfl) rfl ?_
  refine L_y rfl (y_move rfl) rfl ?_
  refine L_y rfl (y_move rfl) rfl ?_
  refine L_op rfl (op_call rfl rfl (fun a w => Try.call88 a w) rfl ?_)
  refine (there_s d _ (sees 0 0 rfl)).mono ?_
  rintro _ _ ⟨rfl, rfl⟩
  rw [hth]
  refine ⟨_, rfl, ?_⟩
  refine L_y rfl (y_not rfl) rfl ?_
  refine L_y rfl (y_pick_f rfl rfl) rfl ?_
  refine L_y rfl (y_move rfl) rfl ?_
  refine L_y rfl (y_move rfl) rfl ?_
  refine L_y rfl (y_lss rfl rfl) rfl ?_
  refine L_y rfl (y_pick_f rfl rfl) rfl ?_
  refine L_y rfl (y_move rfl) rfl ?_
  refine L_case 21 rfl (fun hg1_13 => ?_) (fun hg1_13 => ?_)
  · exact absurd (of_decide_eq_true hg1_13) (by omega)
  · skip
    refine L_y rfl (y_move rfl) rfl ?_
    refine L_y rfl (y_geq rfl rfl) rfl ?_
    refine L_y rfl (y_pick_f rfl rfl) rfl ?_
    refine L_nil ?_
    refine C_cond rfl (fun hc0 => absurd hc0 (by simp at * <;> omega)) (fun hc0 => ?_)
    refine C_skip ?_
    refine C_seq ?_
    refine C_regionT 13 (by kernel_rfl) (by kernel_rfl) ?_
    refine S_y rfl (y_move rfl) rfl ?_
    refine S_y rfl (y_nilCheck rfl) rfl ?_
    refine S_y rfl (y_fieldAddr rfl fl_116_1) rfl ?_
    refine S_y rfl (y_load rfl ag_43 (sees 0 0 rfl) rfl) rfl ?_
    refine S_y rfl (y_move rfl) rfl ?_
    refine S_y rfl (y_move rfl) rfl ?_
    refine S_y rfl (y_indexS rfl rfl Try.underlying43 sz_38 (by omega) (by omega) (show _ = n * 128 from by simp)) rfl ?_
    refine S_y rfl (y_indexA rfl rfl Try.underlying38 sz_5 (by omega) (by omega) (show _ = n * 128 + i from by simp)) rfl ?_
    refine S_y rfl (y_load rfl ag_5 (sees 1 0 rfl) (show _ = some (u8 v) from by rw [bs_get, flat_at hd.1 hs hi, hv]; rfl)) rfl ?_
    refine S_y rfl (y_move rfl) rfl ?_
    refine S_y rfl (y_xor rfl rfl (bits_xor8 v m)) rfl ?_
    refine S_y rfl (y_indexS rfl rfl Try.underlying43 sz_38 (by omega) (by omega) (show _ = n * 128 from by simp)) rfl ?_
    refine S_y rfl (y_indexA rfl rfl Try.underlying38 sz_5 (by omega) (by omega) (show _ = n * 128 + i from by simp)) rfl ?_
    refine S_nil ?_
    refine L_op rfl (op_store1 1 0 rfl rfl rfl sz_5 rfl (by rw [bs_length, hfl]; omega) ?_)
    refine L_nil ?_
    refine C_seq ?_
    refine C_region ?_
    refine L_y rfl (y_assign rfl) rfl ?_
    refine L_nil ?_
    refine C_ret ?_
    refine B_ret (rv_tmp rfl rv_nil) (HSub.refl _) ?_
    refine ⟨rfl, ?_⟩
    rw [erot]
    unfold Dv.o Dv.t Dv.cells
    simp only [List.length_set]
    rw [← flat_byte hd.1 hs hi, ← bs_set]
    rfl

end Go.Proofs.Ytaeooiogjhkjfaa

/- walks (own work; the walks' lines by a program of this repo). -/
set_option linter.unusedVariables false
set_option linter.unusedSimpArgs false
set_option maxRecDepth 20000
namespace Go.Proofs.Ytaeooiogjhkjfaa
open Go.Sl
attribute [local irreducible] BodyQ WpC WpL WpS WpH OpW FnS


theorem newpower_s {w0 : World} {H : Hp}  : FnS Try.prog w0 16 #[] H (fun e H' => ∃ b, e = .returned (ptr b) ∧ H' = (⟨b, none, [], ⟨false, 0, false⟩⟩ : Pw).o dt :: [] :: H) := by
  refine FnS_intro (n := 3) (rs := [.tmp 0]) (vs := []) Try.func16 rfl Try.ntmps16 rfl rfl ?_
  refine C_seq ?_
  refine C_region ?_
  refine L_y rfl (y_assign rfl) rfl ?_
  refine L_nil ?_
  refine C_seq ?_
  refine C_region ?_
  refine L_y rfl (y_build0 pl_113 zl_113) rfl ?_
  refine L_op rfl (op_box rfl rfl rfl (fun B1 => ?_))
  refine L_y rfl (y_assign rfl) rfl ?_
  refine L_nil ?_
  refine C_ret ?_
  refine B_ret (rv_tmp rfl rv_nil) hsub_nil1 ?_
  exact ⟨_, rfl, rfl⟩

theorem new_s {w0 : World} {H : Hp} (n : Int) (p : Pw) (hp : p.ok dt) (hk : p.devs.length ≤ 1000) : FnS Try.prog w0 17 #[.int .i64 n, ptr p.b] (p.o dt :: p.q dt :: H) (fun e H' => ∃ b st g', slOk 1 g' (p.devs ++ [b]).length ((p.devs ++ [b]).map (clos dt)) ∧ e = .returned (ptr b) ∧ H' = opn dt (Dv.new b st p.b (szOf n)) ⟨p.b, g', p.devs ++ [b], p.a⟩ [] H) := by
  refine FnS_intro (n := 28) (rs := [.tmp 4]) (vs := [.int .i64 n, ptr p.b]) Try.func17 rfl Try.ntmps17 rfl rfl ?_
  refine C_seq ?_
  refine C_region ?_
  refine L_y rfl (y_assign rfl) rfl ?_
  refine L_nil ?_
  refine C_seq ?_
  refine C_seq ?_
  refine C_region ?_
  refine L_y rfl (y_move rfl) rfl ?_
  refine L_y rfl (y_eqp rfl rfl Try.underlying24) rfl ?_
  refine L_nil ?_
  refine C_cond_f rfl ?_
  refine C_skip ?_
  refine C_seq ?_
  refine C_region ?_
  refine L_y rfl (y_move rfl) rfl ?_
  refine L_y rfl (y_move rfl) rfl ?_
  refine L_y rfl (y_max rfl rfl) rfl ?_
  refine L_y rfl (y_min rfl rfl) rfl ?_
  refine L_op rfl (op_makeSlice rfl Try.underlying43 by_38 sz_38 zl_38 rfl (by omega) (by omega) (by omega) rfl (fun B1 => ?_))
  refine L_y rfl (y_build (vs := [(0, _), (1, _)]) rfl pl_116 zl_116 (fill_cons (off := 0) (m := 1) (vs := [_]) rfl rfl rfl (Nat.le_of_ble_eq_true rfl) (fill_cons (off := 1) (m := 1) (vs := [_]) rfl rfl rfl (Nat.le_of_ble_eq_true rfl) rfl))) rfl ?_
  refine L_op rfl (op_box rfl rfl rfl (fun B2 => ?_))
  refine L_y rfl (y_assign rfl) rfl ?_
  refine L_nil ?_
  refine C_seq ?_
  refine C_region ?_
  refine L_y rfl (y_move rfl) rfl ?_
  refine L_y rfl (y_move rfl) rfl ?_
  refine L_y rfl (y_nilCheck rfl) rfl ?_
  refine L_y rfl (y_fieldAddr rfl fl_113_3) rfl ?_
  refine L_y rfl (y_load rfl ag_111 (sees 2 0 rfl) rfl) rfl ?_
  refine L_y rfl (y_move rfl) rfl ?_
  refine L_y rfl (y_makeFunc rfl rfl) rfl ?_
  refine L_op rfl (op_buildSlice (vs := [(0, _)]) rfl Try.underlying111 sz_1 zl_1 rfl (by decide) (fill_one rfl rfl rfl) rfl (fun B3 => ?_))
  refine L_op rfl (op_append (gs := p.g) (len := p.devs.length) (m := 1) (xs := p.devs.map (clos dt)) (vs := [clos dt B2]) 4 rfl rfl rfl hp.1 (src_slice (sees 0 0 rfl) (Nat.le_of_ble_eq_true rfl) rfl) rfl (fun v hv => by simp at hv; subst hv; rfl) Try.underlying111 ni_111 sz_1 by_1 (by decide) zl_1 rfl (by omega) rfl (fun g' hg' => ?_))
  rw [show p.devs.map (clos dt) ++ [clos dt B2] = (p.devs ++ [B2]).map (clos dt) from by simp, show p.devs.length + 1 = (p.devs ++ [B2]).length from by simp] at hg' ⊢
  refine L_y rfl (y_nilCheck rfl) rfl ?_
  refine L_y rfl (y_fieldAddr rfl fl_113_3) rfl ?_
  refine L_op rfl (op_store1 3 0 rfl rfl (one_slV _ _) sz_111 rfl (Nat.le_of_ble_eq_true rfl) ?_)
  refine L_nil ?_
  refine C_seq ?_
  refine C_region ?_
  refine L_y rfl (y_move rfl) rfl ?_
  refine L_y rfl (y_assign rfl) rfl ?_
  refine L_nil ?_
  refine C_ret ?_
  refine B_ret (rv_tmp rfl rv_nil) (hsub_nil2.trans (hsub (.cons _ (.refl _)))) ?_
  refine ⟨B2, B1, g', hg', rfl, ?_⟩
  rw [zsecs]
  unfold opn Dv.o Dv.t Dv.q Dv.cells Dv.new Ab.new szOf
  simp only [List.length_replicate]
  have e0 : (((min (max n 0) 4096).toNat : Nat) : Int) = min (max n 0) 4096 := by omega
  rfl

theorem sector_s {w0 : World} {H : Hp} (c : UInt8) : FnS Try.prog w0 57 #[.int .u8 (c.toNat : Int)] H (fun e H' => e = .returned (.agg (bs (secOf c)).toArray) ∧ H' = H) := by
  refine FnS_intro (n := 13) (rs := [.cell 2 38]) (vs := [.int .u8 (c.toNat : Int)]) Try.func57 rfl Try.ntmps57 rfl rfl ?_
  refine C_seq ?_
  refine C_region ?_
  refine L_op rfl (op_alloc zl_38 rfl (fun B1 => ?_))
  refine L_nil ?_
  refine C_seq ?_
  refine C_region ?_
  refine L_op rfl (op_alloc zl_38 rfl (fun B2 => ?_))
  refine L_nil ?_
  refine C_seq ?_
  refine C_seq ?_
  refine C_region ?_
  refine L_y rfl (y_assign rfl) rfl ?_
  refine L_nil ?_
  refine C_block ?_
  refine C_loop (ι := Nat) (fun i => [(0, .int .u8 (c.toNat : Int)), (2, ptr B1), (3, ptr B2), (4, .int .i64 (i : Int))]) (fun i => [(B2, .cells (bs (fillTo c i)).toArray 38)] :: [(B1, .cells (List.replicate 128 (Value.int .u8 0)).toArray 38)] :: H) (fun i => i ≤ 128) (fun i => 128 - i) 0 (Nat.zero_le _) ⟨rfl, rfl, rfl, rfl, trivial⟩ (HSub.same (by rw [show bs (fillTo c 0) = List.replicate 128 (Value.int .u8 0) from by simp [fillTo, bs, u8]])) (fun i hi => ?_)
  skip
  refine C_seq ?_
  refine C_seq ?_
  refine C_region ?_
  refine L_y rfl (y_move rfl) rfl ?_
  refine L_y rfl (y_lss rfl rfl) rfl ?_
  refine L_nil ?_
  refine C_cond rfl (fun hc0 => ?_) (fun hc0 => ?_)
  · replace hc0 := of_decide_eq_true hc0
    refine C_skip ?_
    refine C_seq ?_
    refine C_block ?_
    refine C_region ?_
    refine L_y rfl (y_move rfl) rfl ?_
    refine L_y rfl (y_move rfl) rfl ?_
    refine L_y rfl (y_indexA rfl rfl Try.underlying38 sz_5 (by omega) (by omega) (show _ = i from by simp)) rfl ?_
    refine L_op rfl (op_store1 0 0 rfl rfl rfl sz_5 rfl (by rw [bs_length, fillTo_len (by omega)]; omega) ?_)
    refine L_nil ?_
    refine C_region ?_
    refine L_y rfl (y_move rfl) rfl ?_
    refine L_y rfl (y_add rfl rfl (wi64 (by omega) (by omega))) rfl ?_
    refine L_y rfl (y_assign rfl) rfl ?_
    refine L_nil ?_
    exact ⟨i + 1, by omega, by omega, ⟨rfl, rfl, rfl, rfl, trivial⟩, HSub.same (by rw [← fillTo_step (by omega), ← bs_set]; rfl)⟩
  · replace hc0 := of_decide_eq_false hc0
    refine C_exit ?_
    refine C_seq ?_
    obtain rfl : i = 128 := by omega
    rw [fillTo_all]
    refine C_region ?_
    refine L_y rfl (y_loadA rfl ag_38 sz_38 (sees 0 0 rfl) (by rw [bs_length, secOf_len]; decide) (bs_whole0 _ (secOf_len c))) rfl ?_
    refine L_op rfl (op_storeA 1 0 rfl rfl rfl sz_38 (by rw [bs_length, secOf_len]) rfl (bs_one _) rfl ?_)
    refine L_nil ?_
    refine C_ret ?_
    refine B_ret (rv_cellA rfl ag_38 sz_38 (sees 1 0 rfl) (by rw [bs_length, secOf_len]; decide) (bs_whole0 _ (secOf_len c)) rv_nil) (hsub (.cons _ (.cons _ (.refl _)))) ?_
    exact ⟨rfl, rfl⟩

theorem clonesec_s {w0 : World} {H : Hp} {x : Addr} {m cap : Nat} (vs : List Value) (hs : Src Try.prog w0 H 128 (.slice (some x) m cap) m vs) (hv : vs.length = m * 128) (ho : ∀ v ∈ vs, one v = true) (hm : m ≤ 100000) : FnS Try.prog w0 73 #[.slice (some x) m cap] H (fun e H' => ∃ g, slOk 128 g m vs ∧ e = .returned (slV g m) ∧ H' = slSeg 38 g vs :: H) := by
  refine FnS_intro (n := 8) (rs := [.tmp 2]) (vs := [.slice (some x) m cap]) Try.func73 rfl Try.ntmps73 rfl rfl ?_
  refine C_seq ?_
  refine C_region ?_
  refine L_y rfl (y_assign rfl) rfl ?_
  refine L_nil ?_
  refine C_seq ?_
  refine C_seq ?_
  refine C_region ?_
  refine L_y rfl (y_move rfl) rfl ?_
  refine L_y rfl (y_eqs rfl rfl Try.underlying43) rfl ?_
  refine L_nil ?_
  refine C_cond_f rfl ?_
  refine C_skip ?_
  refine C_seq ?_
  refine C_region ?_
  refine L_op rfl (op_buildSlice (vs := []) rfl Try.underlying43 sz_38 zl_38 rfl (by decide) rfl rfl (fun B1 => ?_))
  refine L_y rfl (y_move rfl) rfl ?_
  refine L_op rfl (op_append (gs := some ⟨B1, 0, []⟩) (len := 0) (m := m) (xs := []) (vs := vs) 0 rfl rfl rfl ⟨rfl, rfl, Nat.le_refl _⟩ hs.up hv ho Try.underlying43 ni_43 sz_38 by_38 (by decide) zl_38 rfl (by omega) rfl (fun g hg => ?_))
  rw [Nat.zero_add, List.nil_append] at hg ⊢
  refine L_y rfl (y_assign rfl) rfl ?_
  refine L_nil ?_
  refine C_ret ?_
  refine B_ret (rv_tmp rfl rv_nil) (HSub.refl _) ?_
  exact ⟨g, hg, rfl, rfl⟩

theorem dump_s {w0 : World} {H : Hp} (d : Dv) (hd : d.a.ok) (hD : Sees (fun w => St w0 w H) d.b (.cells d.cells.toArray dt.dev)) (hT : Sees (fun w => St w0 w H) d.st (.cells (bs d.a.S.flatten).toArray dt.sec)) : FnS Try.prog w0 25 #[ptr d.b] H (fun e H' => ∃ g, slOk 128 g d.a.S.length (bs d.a.S.flatten) ∧ e = .returned (slV g d.a.S.length) ∧ H' = slSeg 38 g (bs d.a.S.flatten) :: H) := by
  have hfl := flat_len hd.1
  refine FnS_intro (n := 10) (rs := [.tmp 2]) (vs := [ptr d.b]) Try.func25 rfl Try.ntmps25 rfl rfl ?_
  refine C_seq ?_
  refine C_region ?_
  refine L_y rfl (y_assign rfl) rfl ?_
  refine L_nil ?_
  refine C_seq ?_
  refine C_seq ?_
  refine C_region ?_
  refine L_y rfl (y_move rfl) rfl ?_
  refine L_y rfl (y_eqp rfl rfl Try.underlying30) rfl ?_
  refine L_nil ?_
  refine C_cond_f rfl ?_
  refine C_skip ?_
  refine C_seq ?_
  refine C_region ?_
  refine L_y rfl (y_move rfl) rfl ?_
  refine L_y rfl (y_nilCheck rfl) rfl ?_
  refine L_y rfl (y_fieldAddr rfl fl_116_1) rfl ?_
  refine L_y rfl (y_load rfl ag_43 (hD) rfl) rfl ?_
  refine L_op rfl (op_call rfl rfl (fun a w => Try.call73 a w) rfl ?_)
  refine (clonesec_s (bs d.a.S.flatten) (src_slice (hT) (Nat.le_of_eq (by rw [bs_length, hfl, Nat.zero_add])) (by rw [List.drop_zero, List.take_of_length_le (Nat.le_of_eq (by rw [bs_length, hfl]))])) (by rw [bs_length, hfl]) (bs_one _) (by have := hd.2.1; omega)).mono ?_
  rintro _ _ ⟨g, hg, rfl, rfl⟩
  refine ⟨_, rfl, ?_⟩
  refine L_y rfl (y_assign rfl) rfl ?_
  refine L_nil ?_
  refine C_ret ?_
  refine B_ret (rv_tmp rfl rv_nil) (HSub.refl _) ?_
  exact ⟨g, hg, rfl, rfl⟩

theorem same_s {w0 : World} {H : Hp} {a b : Option Addr} {ca cb : Nat} {A B : List Sec} (hA : ∀ s ∈ A, s.length = 128) (hB : ∀ s ∈ B, s.length = 128) (ha : Holds w0 H a (bs A.flatten)) (hb : Holds w0 H b (bs B.flatten)) (hm : A.length ≤ 100000) : FnS Try.prog w0 24 #[.slice a A.length ca, .slice b B.length cb] H (fun e H' => e = .returned (.int .i64 (if A = B then 1 else 0)) ∧ H' = H) := by
  refine FnS_intro (n := 26) (rs := [.tmp 4]) (vs := [.slice a A.length ca, .slice b B.length cb]) Try.func24 rfl Try.ntmps24 rfl rfl ?_
  refine C_seq ?_
  refine C_region ?_
  refine L_y rfl (y_assign rfl) rfl ?_
  refine L_nil ?_
  refine C_seq ?_
  refine C_seq ?_
  refine C_region ?_
  refine L_y rfl (y_move rfl) rfl ?_
  refine L_y rfl (y_lenS rfl rfl Try.underlying43) rfl ?_
  refine L_y rfl (y_move rfl) rfl ?_
  refine L_y rfl (y_lenS rfl rfl Try.underlying43) rfl ?_
  refine L_y rfl (y_nei rfl rfl) rfl ?_
  refine L_nil ?_
  refine C_cond rfl (fun hc0 => ?_) (fun hc0 => ?_)
  · replace hc0 : ¬ A.length = B.length := by simp at hc0; omega
    refine C_seq ?_
    refine C_region ?_
    refine L_y rfl (y_assign rfl) rfl ?_
    refine L_nil ?_
    refine C_ret ?_
    refine B_ret (rv_tmp rfl rv_nil) (HSub.refl _) ?_
    first
    | exact ⟨ret_int (by rw [if_neg (fun e => hc0 (by rw [e]))]), rfl⟩
    | exact ⟨ret_int (by rw [if_neg (fun e => hc2 (by rw [e] at hs; rw [hs] at ht; exact Option.some.inj ht))]), rfl⟩
    | exact ⟨ret_int (by rw [if_pos (by have e := hi.2; rw [List.take_of_length_le (by omega), List.take_of_length_le (by omega)] at e; exact e)]), rfl⟩
  · replace hc0 : A.length = B.length := by simp at hc0; omega
    refine C_skip ?_
    refine C_seq ?_
    refine C_seq ?_
    refine C_region ?_
    refine L_y rfl (y_assign rfl) rfl ?_
    refine L_nil ?_
    refine C_block ?_
    refine C_loop (ι := Nat) (fun i => [(0, .slice a A.length ca), (1, .slice b B.length cb), (4, .int .i64 0), (5, .int .i64 (i : Int))]) (fun i => H) (fun i => i ≤ A.length ∧ A.take i = B.take i) (fun i => A.length - i) 0 ⟨Nat.zero_le _, rfl⟩ ⟨rfl, rfl, rfl, rfl, trivial⟩ (HSub.refl _) (fun i hi => ?_)
    skip
    refine C_seq ?_
    refine C_seq ?_
    refine C_region ?_
    refine L_y rfl (y_move rfl) rfl ?_
    refine L_y rfl (y_move rfl) rfl ?_
    refine L_y rfl (y_lenS rfl rfl Try.underlying43) rfl ?_
    refine L_y rfl (y_lss rfl rfl) rfl ?_
    refine L_nil ?_
    refine C_cond rfl (fun hc1 => ?_) (fun hc1 => ?_)
    · replace hc1 := of_decide_eq_true hc1
      refine C_skip ?_
      refine C_seq ?_
      refine C_block ?_
      refine C_seq ?_
      obtain ⟨s, hs⟩ : ∃ s, A[i]? = some s := ⟨_, List.getElem?_eq_getElem (by omega)⟩
      obtain ⟨t, ht⟩ : ∃ t, B[i]? = some t := ⟨_, List.getElem?_eq_getElem (by omega)⟩
      have hla := flat_len hA
      have hlb := flat_len hB
      obtain ⟨b1, o1, l1, T1, fr1, rfl, hs1, hle1, hv1⟩ := ha (by rw [bs_length, hla]; omega)
      obtain ⟨b2, o2, l2, T2, fr2, rfl, hs2, hle2, hv2⟩ := hb (by rw [bs_length, hlb]; omega)
      rw [bs_length] at hle1 hle2
      refine C_regionH0 (by kernel_rfl) ?_
      refine H_y 0 rfl (by kernel_rfl) (by kernel_rfl) (by kernel_rfl) (HSub.refl _) rfl (y_move rfl) rfl ?_
      refine H_y 1 rfl (by kernel_rfl) (by kernel_rfl) (by kernel_rfl) (HSub.refl _) rfl (y_move rfl) rfl ?_
      refine H_y 2 rfl (by kernel_rfl) (by kernel_rfl) (by kernel_rfl) (HSub.refl _) rfl (y_indexS rfl rfl Try.underlying43 sz_38 (by omega) (by omega) (show _ = o1 + i * 128 from by simp)) rfl ?_
      refine H_y 3 rfl (by kernel_rfl) (by kernel_rfl) (by kernel_rfl) (HSub.refl _) rfl (y_loadA rfl ag_38 sz_38 (hs1) (by omega) (sec_at (n := 0) hA hv1 hs)) rfl ?_
      refine H_y 4 rfl (by kernel_rfl) (by kernel_rfl) (by kernel_rfl) (HSub.refl _) rfl (y_move rfl) rfl ?_
      refine H_y 5 rfl (by kernel_rfl) (by kernel_rfl) (by kernel_rfl) (HSub.refl _) rfl (y_move rfl) rfl ?_
      refine H_y 6 rfl (by kernel_rfl) (by kernel_rfl) (by kernel_rfl) (HSub.refl _) rfl (y_indexS rfl rfl Try.underlying43 sz_38 (by omega) (by omega) (show _ = o2 + i * 128 from by simp)) rfl ?_
      refine H_one 7 rfl (by kernel_rfl) rfl (op_y (y_loadA rfl ag_38 sz_38 (hs2) (by omega) (sec_at (n := 0) hB hv2 ht)) rfl ?_)
      refine ⟨HSub.refl _, ?_⟩
      refine H_y 8 rfl (by kernel_rfl) (by kernel_rfl) (by kernel_rfl) (HSub.refl _) rfl (y_nea rfl rfl Try.underlying38 Try.underlying5 sz_5 eg_38 (hA s (List.mem_of_getElem? hs)) (hB t (List.mem_of_getElem? ht))) rfl ?_
      refine H_done (by kernel_rfl) ?_
      refine C_cond rfl (fun hc2 => ?_) (fun hc2 => ?_)
      · replace hc2 : ¬ s = t := by simpa using hc2
        refine C_seq ?_
        refine C_region ?_
        refine L_y rfl (y_assign rfl) rfl ?_
        refine L_nil ?_
        refine C_ret ?_
        refine B_ret (rv_tmp rfl rv_nil) (HSub.refl _) ?_
        first
        | exact ⟨ret_int (by rw [if_neg (fun e => hc0 (by rw [e]))]), rfl⟩
        | exact ⟨ret_int (by rw [if_neg (fun e => hc2 (by rw [e] at hs; rw [hs] at ht; exact Option.some.inj ht))]), rfl⟩
        | exact ⟨ret_int (by rw [if_pos (by have e := hi.2; rw [List.take_of_length_le (by omega), List.take_of_length_le (by omega)] at e; exact e)]), rfl⟩
      · replace hc2 : s = t := by simpa using hc2
        refine C_skip ?_
        refine C_region ?_
        refine L_y rfl (y_move rfl) rfl ?_
        refine L_y rfl (y_add rfl rfl (wi64 (by omega) (by omega))) rfl ?_
        refine L_y rfl (y_assign rfl) rfl ?_
        refine L_nil ?_
        exact ⟨i + 1, ⟨by omega, same_step hi.2 hs ht hc2⟩, by omega, ⟨rfl, rfl, rfl, rfl, trivial⟩, HSub.refl _⟩
    · replace hc1 := of_decide_eq_false hc1
      refine C_exit ?_
      refine C_seq ?_
      refine C_region ?_
      refine L_y rfl (y_assign rfl) rfl ?_
      refine L_nil ?_
      refine C_ret ?_
      refine B_ret (rv_tmp rfl rv_nil) (HSub.refl _) ?_
      first
      | exact ⟨ret_int (by rw [if_neg (fun e => hc0 (by rw [e]))]), rfl⟩
      | exact ⟨ret_int (by rw [if_neg (fun e => hc2 (by rw [e] at hs; rw [hs] at ht; exact Option.some.inj ht))]), rfl⟩
      | exact ⟨ret_int (by rw [if_pos (by have e := hi.2; rw [List.take_of_length_le (by omega), List.take_of_length_le (by omega)] at e; exact e)]), rfl⟩

end Go.Proofs.Ytaeooiogjhkjfaa

/- A range over a function: the rounds, the call, the way out (own work, over the kit's laws of the statement). -/
set_option linter.unusedVariables false
set_option linter.unusedSimpArgs false
namespace Go.Sl
variable {P : Program} {n : FN} {w0 : World} {Q : Post} {E E' : Env} {H H' : Hp} {r : Option Nat}
abbrev Fr (r : Option Nat) : Fence := { Fence.wide with round := r }
def WpCI (P : Program) (n : FN) (w0 : World) (r : Option Nat) (c : Code) (Q : Post) (E : Env) (H : Hp) : Prop := ∀ m a w, FrOk n E a → St w0 w H → c.wpIn (Fr r) m P (lift n w0 Q) a w
def WpLI (P : Program) (n : FN) (w0 : World) (r : Option Nat) (ops : List Oper) (Q : Post) (l : List Oper) (E : Env) (H : Hp) : Prop := ∀ m a w, FrOk n E a → St w0 w H → wpListIn (Fr r) m P ops.toArray (lift n w0 Q) l a w
theorem C_of {c : Code} (h : WpCI P n w0 none c Q E H) : WpC P n w0 c Q E H := fun a w ha hw => (wpIn_wide (n := 0)).1 (h 0 a w ha hw)
theorem CI_seq {x y : Code} (h : WpCI P n w0 r x (thenQ (WpCI P n w0 r y Q) Q) E H) : WpCI P n w0 r (.seq x y) Q E H := fun m a w ha hw => by
  refine wpIn_seq (wpIn_mono (h m a w ha hw) ?_)
  rintro e a' w' ⟨E', H', x, s, q⟩
  cases e with
  | normal => exact q m a' w' (x.2 rfl) s
  | _ => exact ⟨E', H', x, s, q⟩
theorem CI_block {id : Nat} {c : Code} (h : WpCI P n w0 r c (blockQ id Q) E H) : WpCI P n w0 r (.block id c) Q E H := fun m a w ha hw => by
  refine wpIn_block (wpIn_mono (h m a w ha hw) ?_)
  rintro e a' w' ⟨E', H', x, s, q⟩
  cases e with
  | exit id' =>
    simp only [blockQ] at q
    simp only [Exit.inBlock]
    split
    · rename_i e; rw [if_pos e] at q; exact ⟨E', H', ⟨x.1, fun _ => x.2 rfl⟩, s, q⟩
    · rename_i e; rw [if_neg e] at q; exact ⟨E', H', ⟨x.1, fun _ => x.2 rfl⟩, s, q⟩
  | _ => exact ⟨E', H', x, s, q⟩
theorem CI_cond {c : Operand} {x y : Code} {b : Bool} (hc : ev E c = some (.bool b)) (ht : b = true → WpCI P n w0 r x Q E H) (hf : b = false → WpCI P n w0 r y Q E H) :
    WpCI P n w0 r (.cond c x y) Q E H := fun m a w ha hw => wpIn_cond_split (ha.eval hc) (fun h => ht h m a w ha hw) (fun h => hf h m a w ha hw)
theorem CI_skip (h : Q .normal E H) : WpCI P n w0 r .skip Q E H := fun m a w ha hw => wpIn_skip ⟨E, H, ⟨ha.defers, fun _ => ha⟩, hw, h⟩
theorem CI_ret (h : Q .ret E H) : WpCI P n w0 r .ret Q E H := fun m a w ha hw => wpIn_ret ⟨E, H, ⟨ha.defers, fun _ => ha⟩, hw, h⟩
theorem CI_exit {id : Nat} (h : Q (.exit id) E H) : WpCI P n w0 r (.exit id) Q E H := fun m a w ha hw => wpIn_exit ⟨E, H, ⟨ha.defers, fun _ => ha⟩, hw, h⟩
theorem CI_loop {ι : Type} {c : Code} (Ei : ι → Env) (Hi : ι → Hp) (G : ι → Prop) (μ : ι → Nat) (i0 : ι) (h0 : G i0) (hE : SubEnv (Ei i0) E) (hH : HSub (Hi i0) H)
    (round : ∀ i, G i → WpCI P n w0 r c (thenQ (fun E' H' => ∃ j, G j ∧ μ j < μ i ∧ SubEnv (Ei j) E' ∧ HSub (Hi j) H') Q) (Ei i) (Hi i)) :
    WpCI P n w0 r (.loop c) Q E H := by
  intro m a w ha hw b k cs hro hb hr
  have key : ∀ (x : Nat) (i : ι), G i → μ i = x → ∀ a w, FrOk n (Ei i) a → St w0 w (Hi i) →
      ∃ e a' w', lift n w0 Q e a' w' ∧ ArrivesIn (Machine.fenced P (Fr r)) P (lone (b.atR a (.code c :: .inLoop c :: k)) cs w) b k cs e a' w' := by
    intro x
    induction x using Nat.strongRecOn with
    | _ x ih =>
      intro i gi hm a w ha hw
      obtain ⟨e, a₁, w₁, hq, harr⟩ := round i gi m a w ha hw b (.inLoop c :: k) cs hro hb hr
      obtain ⟨E₁, H₁, f1, s1, q⟩ := hq
      cases e with
      | normal =>
        obtain ⟨j, gj, hlt, hE, hH⟩ := q
        obtain ⟨e₂, a₂, w₂, hq₂, harr₂⟩ := ih (μ j) (hm ▸ hlt) j gj rfl a₁ w₁ ((f1.2 rfl).weaken hE) (hH w0 w₁ s1)
        exact ⟨e₂, a₂, w₂, hq₂, .of_steps (StepsIn.trans harr (.one (fenced_calm hb hr rfl) stepR_inLoop)) harr₂⟩
      | exit id => exact ⟨_, a₁, w₁, ⟨E₁, H₁, f1, s1, q⟩, .pass (x := .inLoop c) rfl (fun _ _ => .inl (by simp)) harr⟩
      | goto l => exact ⟨_, a₁, w₁, ⟨E₁, H₁, f1, s1, q⟩, .pass (x := .inLoop c) rfl (fun _ _ => .inl (by simp)) harr⟩
      | ret => exact ⟨_, a₁, w₁, ⟨E₁, H₁, f1, s1, q⟩, .pass (x := .inLoop c) rfl (fun _ _ => .inl (by simp)) harr⟩
      | panic ch => exact ⟨_, a₁, w₁, ⟨E₁, H₁, f1, s1, q⟩, .pass (x := .inLoop c) rfl (fun _ _ => .inl (by simp)) harr⟩
      | outgrown => exact ⟨_, a₁, w₁, ⟨E₁, H₁, f1, s1, q⟩, .pass (x := .inLoop c) rfl (fun _ _ => .inl (by simp)) harr⟩
  obtain ⟨e, a', w', hq, harr⟩ := key (μ i0) i0 h0 rfl a w (ha.weaken hE) (hH w0 w hw)
  exact ⟨e, a', w', hq, .of_steps (.one (fenced_calm hb hr rfl) stepR_loop) harr⟩
theorem CI_region {id : Nat} {l : List Oper} (h : WpLI P n w0 r l Q l E H) : WpCI P n w0 r (.region id l.toArray false) Q E H := fun m a w ha hw => wpIn_region_lit (h m a w ha hw)
theorem LI_nil {ops : List Oper} (h : Q .normal E H) : WpLI P n w0 r ops Q [] E H := fun m a w ha hw => wpListIn_nil ⟨E, H, ⟨ha.defers, fun _ => ha⟩, hw, h⟩
/-- A contract within the fence. -/
theorem callsIn_fr {m : Nat} {f : FuncId} {args : Array Value} {w : World} {R : Ending → World → Prop} (h : Calls P f args w R) : CallsIn (Fr r) m P f args w R := by
  have h2 : CallsIn Fence.wide m P f args w R := callsIn_wide.2 h
  exact h2
def notDefer : Op → Bool
  | .defer _ => false
  | _ => true
theorem opIn {o : Oper} {a : Act} {w : World} {m : Nat} {next : Act → World → Prop} {Q : Exit → Act → World → Prop} (hd : notDefer o.op = true) (h : o.wp P a w next Q) : o.wpIn (Fr r) m P a w next Q := by
  refine ⟨fun _ _ => trivial, ?_⟩
  have hd' : ∀ c, o.op ≠ .defer c := fun c e => by rw [e] at hd; cases hd
  rw [Oper.semAt_eq _ _ _ hd']
  unfold Oper.wp at h
  generalize (execOp a.eval o).run P w = res at h ⊢
  match res, h with
  | .ok (.value v) w', h => exact h
  | .ok .skip w', h => exact h
  | .ok (.defer d) w', h => exact h
  | .ok (.enter f args) w', h =>
    refine ⟨fun h => Bool.noConfusion (show false = true from h), callsIn_fr (Calls.mono h ?_)⟩
    intro e w'' q
    cases e <;> exact q
  | .ok (.row row args) w', h =>
    refine ⟨fun h => Bool.noConfusion (show false = true from h), fun c cs _ => ?_⟩
    obtain ⟨v, w'', q, s⟩ := h c cs
    refine ⟨v, w'', q, ?_⟩
    cases r with
    | none => exact stepsIn_wide.2 s
    | some l => exact stepsIn_wide.2 s
  | .halt (.panic v) w', h => exact h
theorem LI_op {ops l : List Oper} {o : Oper} (hg : o.guard = none) (hd : notDefer o.op = true) (h : OpW P n w0 Q o E H (fun E' H' => WpLI P n w0 r ops Q l E' H')) : WpLI P n w0 r ops Q (o :: l) E H := fun m a w ha hw =>
  wpListIn_plain hg fun K hK => opIn hd (h a w ha hw K fun E' H' a' w' ha' hw' k => hK a' w' (k m a' w' ha' hw'))
theorem LI_y {ops l : List Oper} {d : Option Nat} {op : Op} {ty : Nat} {ps : String} {af : Array Edge} {v : Value} (hd : notDefer op = true) (hy : YV P n E (fun w => St w0 w H) op ty v) (hk : dok d n = true)
    (k : WpLI P n w0 r ops Q l (put E d v) H) : WpLI P n w0 r ops Q (⟨d, op, ty, ps, af, none⟩ :: l) E H := LI_op rfl hd (op_y hy hk k)
/-- What a call of yield does. -/
def YS (P : Program) (w0 : World) (l : Nat) (args : Array Value) (H : Hp) (R : Ending → Hp → Prop) : Prop :=
  ∀ m w, St w0 w H → YieldAt (Fr none) m P l args w fun e w' => ∃ H', St w0 w' H' ∧ R e H'
theorem LI_yield {ops l : List Oper} {d : Option Nat} {ce : Operand} {args : List Operand} {tys : Array TypeId} {ty : Nat} {ps : String} {af : Array Edge} {y : Nat} {vs : List Value} (hce : ev E ce = some (.func (.yield y) #[] #[])) (hargs : args.mapM (ev E) = some vs) (hk : dok d n = true)
    (h : YS P w0 y vs.toArray H fun e H' => ∃ v, e = .returned v ∧ WpLI P n w0 none ops Q l (put E d v) H') :
    WpLI P n w0 none ops Q (⟨d, .call { callee := .value ce, args := args.toArray, argTypes := tys }, ty, ps, af, none⟩ :: l) E H := fun m a w ha hw => by
  refine wpListIn_plain rfl fun K hK => ⟨fun _ _ => trivial, ?_⟩
  have e1 := evals ha hargs
  have e2 := ha.eval hce
  obtain ⟨fn, tmps, assign, body, hr, hround⟩ := h (m - 1) w hw
  have hrun : (Oper.semAt (Fr none).round a.eval (⟨d, .call { callee := .value ce, args := args.toArray, argTypes := tys }, ty, ps, af, none⟩ : Oper)).run P w = .ok (.round y fn tmps assign body) w := by
    rw [show (Fr none).round = none from rfl, Oper.semAt_none]
    simp only [execOp, resolve, Sem.run_bind, e2, Deferred.ofValue, Sem.run_pure, Result.andThen_ok, invoke, List.map_toArray, e1]
    simpa using hr
  rw [hrun]
  refine ⟨fun h => Bool.noConfusion (show false = true from h), hround.mono ?_⟩
  rintro e w' ⟨H', s, v, rfl, k⟩
  exact hK _ _ (k m _ _ (ha.put hk v) s)
theorem FnSI_intro {k f : Nat} {fn : Func} {c : Code} {vs : List Value} {rs : List ResultVar} {R : Ending → Hp → Prop} (hf : P.funcs[f]? = some fn) (hb : fn.body = some c) (hn : fn.ntmps = k) (hr : fn.results.toList = rs)
    (hlen : Nat.ble vs.length k = true) (h : WpCI P ⟨k, []⟩ w0 none c (BodyQ P w0 rs R) (args0 vs 0) H) : FnS P w0 f vs.toArray H R := FnS_intro hf hb hn hr hlen (C_of h)
/-! ### One round -/
def roundQ (l : Nat) (rc : Loop) (RT : Bool → Hp → Prop) : Post := fun e E H => match e with
  | .normal => ∃ Hr, HSub ([(l, .loop { rc with state := .busy })] :: Hr) H ∧ RT true Hr
  | .ret => ∃ Hr, HSub ([(l, .loop { rc with state := .busy })] :: Hr) H ∧ RT false Hr
  | _ => False
def assignQ (P : Program) (n : FN) (w0 : World) (l : Nat) (rc : Loop) (RT : Bool → Hp → Prop) : Post := fun e E H => match e with
  | .normal => ∃ Hr, HSub ([(l, .loop rc)] :: Hr) H ∧ WpCI P n w0 (some l) rc.body (roundQ l rc RT) E ([(l, .loop { rc with state := .busy })] :: Hr)
  | _ => False
theorem round_s {l : Nat} {rc : Loop} {vs : List Value} {Hr : Hp} {RT : Bool → Hp → Prop} {k : Nat} (hst : rc.state = .ready) (hpe : rc.pending = none) (hlen : vs.length = rc.params.size)
    (hfr : FrOk ⟨k, []⟩ E' { tmps := (rc.params.zip vs.toArray).foldl (fun tmps (t, a) => tmps.setIfInBounds t a) rc.tmps, defers := [] })
    (h : WpCI P ⟨k, []⟩ w0 (some l) rc.assign (assignQ P ⟨k, []⟩ w0 l rc RT) E' ([(l, .loop rc)] :: Hr)) :
    YS P w0 l vs.toArray ([(l, .loop rc)] :: Hr) fun e H' =>
      (e = .returned (.bool true) ∧ ∃ Hx, H' = [(l, .loop rc)] :: Hx ∧ RT true Hx) ∨ (e = .returned (.bool false) ∧ ∃ Hx, H' = [(l, .loop { rc with state := .done, pending := some .ret })] :: Hx ∧ RT false Hx) := by
  intro m w hw
  have hl : w.heap[l]? = some (.loop rc) := hw.has (l, .loop rc) (by simp)
  refine ⟨_, _, _, _, run_yield hl (by simpa using hlen), roundIn_of_wpIn trivial ?_⟩
  refine wpIn_mono (h m _ w hfr hw) ?_
  rintro e a1 w1 ⟨E1, H1, x, s, q⟩
  cases e with
  | normal =>
    obtain ⟨Hx, hs, hbody⟩ := q
    have s1 := hs w0 w1 s
    have hl1 : w1.heap[l]? = some (.loop rc) := s1.has (l, .loop rc) (by simp)
    refine ⟨_, run_beginRound hl1 hst, ?_⟩
    have s2 : St w0 (w1.putObj l (.loop { rc with state := .busy })) ([(l, .loop { rc with state := .busy })] :: Hx) := s1.putB (s := 0) (k := 0) rfl _
    refine wpIn_mono (hbody m a1 _ (x.2 rfl) s2) ?_
    rintro e a2 w2 ⟨E2, H2, x2, s3, q2⟩
    cases e with
    | normal =>
      obtain ⟨Hy, hs2, rt⟩ := q2
      have s4 := hs2 w0 w2 s3
      have hl2 : w2.heap[l]? = some (.loop { rc with state := .busy }) := s4.has (l, .loop { rc with state := .busy }) (by simp)
      refine ⟨_, _, run_endRound none hl2, ?_⟩
      have s5 := s4.putB (s := 0) (k := 0) rfl (.loop rc)
      refine ⟨_, ?_, .inl ⟨rfl, Hy, rfl, rt⟩⟩
      have e : ({ { rc with state := .busy } with state := if (none : Option Code).isNone then .ready else .done, pending := none } : Loop) = rc := by
        cases rc; simp only at hst hpe; subst hst; subst hpe; rfl
      rw [e]; exact s5
    | ret =>
      obtain ⟨Hy, hs2, rt⟩ := q2
      have s4 := hs2 w0 w2 s3
      have hl2 : w2.heap[l]? = some (.loop { rc with state := .busy }) := s4.has (l, .loop { rc with state := .busy }) (by simp)
      refine ⟨_, _, run_endRound (some .ret) hl2, ?_⟩
      have s5 := s4.putB (s := 0) (k := 0) rfl (.loop { rc with state := .done, pending := some .ret })
      exact ⟨_, s5, .inr ⟨rfl, Hy, rfl, rt⟩⟩
    | _ => exact q2.elim
  | _ => exact q.elim
/-! ### The statement, and the function that holds it -/
def WpT (P : Program) (n : FN) (w0 : World) (c : Code) (Q0 : Exit → Act → World → Prop) (E : Env) (H : Hp) : Prop := ∀ a w, FrOk n E a → St w0 w H → c.wp P Q0 a w
@[reducible] def thruQ (n : FN) (w0 : World) (K : Env → Hp → Prop) (Q0 : Exit → Act → World → Prop) : Post := fun e E H => match e with
  | .normal => K E H
  | .panic _ => False
  | .outgrown => False
  | e => ∀ a w, FrOk n E a → St w0 w H → Q0 e a w
variable {Q0 : Exit → Act → World → Prop}
theorem T_seq {x y : Code} (h : WpC P n w0 x (thruQ n w0 (WpT P n w0 y Q0) Q0) E H) : WpT P n w0 (.seq x y) Q0 E H := fun a w ha hw => by
  refine wp_seq (wp_mono (h a w ha hw) ?_)
  rintro e a' w' ⟨E', H', x, s, q⟩
  cases e with
  | normal => exact q a' w' (x.2 rfl) s
  | panic _ => exact q.elim
  | outgrown => exact q.elim
  | exit id => exact q a' w' (x.2 rfl) s
  | goto id => exact q a' w' (x.2 rfl) s
  | ret => exact q a' w' (x.2 rfl) s
theorem T_seqT {x y : Code} (h : WpT P n w0 x (Exit.then (fun a w => y.wp P Q0 a w) Q0) E H) : WpT P n w0 (.seq x y) Q0 E H := fun a w ha hw => wp_seq (h a w ha hw)
theorem T_of {c : Code} (h : WpC P n w0 c (thruQ n w0 (fun E H => ∀ a w, FrOk n E a → St w0 w H → Q0 .normal a w) Q0) E H) : WpT P n w0 c Q0 E H := fun a w ha hw => by
  refine wp_mono (h a w ha hw) ?_
  rintro e a' w' ⟨E', H', x, s, q⟩
  cases e with
  | normal => exact q a' w' (x.2 rfl) s
  | panic _ => exact q.elim
  | outgrown => exact q.elim
  | exit id => exact q a' w' (x.2 rfl) s
  | goto id => exact q a' w' (x.2 rfl) s
  | ret => exact q a' w' (x.2 rfl) s
def mark (db : Nat) : List Deferred := [{ target := .collected db, args := #[] }]
def RR (w0 : World) (R : Ending → Hp → Prop) : Ending → World → Prop := fun e w' => ∃ H', St w0 w' H' ∧ R e H'
theorem T_range {k b0 f : Nat} {g : Operand} {ps : Array Tmp} {assign body : Code} {cap : List Value} {KN KX : Hp → Prop} (hg : ev E g = some (.func (.func f) #[] cap.toArray)) (hc : ∀ args w, (callFunc f args).run P w = .ok (.enter f args) w)
    (call : ∀ l db fn tmps (rc : Loop), rc = { state := .ready, pending := none, fn, tmps, params := ps, assign, body, defers := db } → FrOk ⟨k, []⟩ E { tmps := tmps, defers := [] } → FnS P w0 f (#[.func (.yield l) #[] #[]] ++ cap.toArray)
      ([(l, .loop rc)] :: [(db, .deferred (some []))] :: H)
      fun e H' => (∃ v, e = .returned v) ∧ ((∃ Hr, H' = [(l, .loop rc)] :: [(db, .deferred (some []))] :: Hr ∧ KN Hr) ∨
        (∃ Hr, H' = [(l, .loop { rc with state := .done, pending := some .ret })] :: [(db, .deferred (some []))] :: Hr ∧ KX Hr)))
    (normal : ∀ db Hr a w, KN Hr → FrOk ⟨k, mark db⟩ E a → St w0 w ([(db, .deferred (some []))] :: Hr) → Q0 .normal a w)
    (ret : ∀ db Hr a w, KX Hr → FrOk ⟨k, mark db⟩ E a → St w0 w ([(db, .deferred (some []))] :: Hr) → Q0 .ret a w) :
    WpT P ⟨k, []⟩ w0 (.block b0 (.rangeFunc g ps assign body)) Q0 E H := fun a w ha hw => by
  refine wp_block ((wpIn_wide (n := 0)).1 (wpIn_rangeFunc fun fn _ => ?_))
  have hd : a.defers = [] := ha.defers
  have hinv : ∀ y w1, (invoke (.fn (.func f) cap.toArray) #[y]).run P w1 = .ok (.enter f (#[y] ++ cap.toArray)) w1 := fun y w1 => by
    simp only [invoke]; exact hc _ _
  have hfr : FrOk ⟨k, []⟩ E { tmps := a.tmps, defers := [] } := ⟨rfl, ha.size, ha.known⟩
  refine ⟨w.heap.size + 1, mark w.heap.size, ((w.alloc (.deferred (some []))).alloc (.loop { state := .ready, pending := none, fn, tmps := a.tmps, params := ps, assign, body, defers := w.heap.size })), ⟨.fn (.func f) cap.toArray, #[.func (.yield (w.heap.size + 1)) #[] #[]]⟩, ((w.alloc (.deferred (some []))).alloc (.loop { state := .ready, pending := none, fn, tmps := a.tmps, params := ps, assign, body, defers := w.heap.size })), f, #[.func (.yield (w.heap.size + 1)) #[] #[]] ++ cap.toArray, ((w.alloc (.deferred (some []))).alloc (.loop { state := .ready, pending := none, fn, tmps := a.tmps, params := ps, assign, body, defers := w.heap.size })), run_enterLoop_outer fn a.tmps ps assign body, ?_, fun _ _ => trivial, hinv _ _, fun h => Bool.noConfusion (show false = true from h), ?_⟩
  · have e2 := ha.eval hg
    simp only [resolve, rangeCall, e2, Deferred.ofValue]
    simp [Act.eval]
  · refine callsIn_wide.2 ((call (w.heap.size + 1) w.heap.size fn a.tmps _ rfl hfr _ ?_).mono ?_)
    · have s1 := hw.alloc (.deferred (some []))
      have s2 := s1.alloc (.loop { state := .ready, pending := none, fn, tmps := a.tmps, params := ps, assign, body, defers := w.heap.size })
      rw [World.size_alloc] at s2
      exact s2
    · rintro e w' ⟨H', s, ⟨v, rfl⟩, hor⟩
      rcases hor with ⟨Hr, rfl, kn⟩ | ⟨Hr, rfl, kx⟩
      · have hl := s.has (w.heap.size + 1, _) (by simp; exact .inl rfl)
        refine ⟨_, _, run_endLoop hl (by simp), ?_⟩
        have s2 := s.putB (s := 0) (k := 0) rfl (.loop { state := .exhausted, pending := none, fn, tmps := a.tmps, params := ps, assign, body, defers := w.heap.size })
        exact normal _ Hr _ _ kn ⟨by simp [hd], ha.size, ha.known⟩ ((HSub.drop _ _) w0 _ s2)
      · have hl := s.has (w.heap.size + 1, _) (by simp; exact .inl rfl)
        refine ⟨_, _, run_endLoop hl (by simp), ?_⟩
        have s2 := s.putB (s := 0) (k := 0) rfl (.loop { state := .exhausted, pending := some .ret, fn, tmps := a.tmps, params := ps, assign, body, defers := w.heap.size })
        exact (wpIn_wide (n := 0)).2 (wp_ret (ret _ Hr _ _ kx ⟨by simp [hd], ha.size, ha.known⟩ ((HSub.drop _ _) w0 _ s2)))
/-- The way out, behind such a loop. -/
theorem M_mark {k db : Nat} {fn : Func} {rs : List ResultVar} {vs : List Value} {R : Ending → Hp → Prop} {m : Nat} {a : Act} {w : World} (hr : fn.results.toList = rs) (ha : FrOk ⟨k, mark db⟩ E a) (hw : St w0 w ([(db, .deferred (some []))] :: H)) (hrv : RV P w0 E H rs vs) (hs : HSub H' H) (hR : R (.returned (pack vs)) H') :
    LeavesInM Fence.wide m P fn a.tmps (RR w0 R) a.defers .returning w := by
  rw [ha.defers]
  have hl : w.heap[db]? = some (.deferred (some [])) := hw.has (db, .deferred (some [])) (by simp)
  have s2 := (HSub.drop _ _) w0 _ (hw.putB (s := 0) (k := 0) rfl (.deferred none))
  have ha' : FrOk ⟨k, []⟩ E { tmps := a.tmps, defers := [] } := ⟨rfl, ha.size, ha.known⟩
  exact ⟨by simp, .inl ⟨db, _, rfl, run_takeDeferred hl, _, run_results (a := { tmps := a.tmps, defers := [] }) ha' s2 (hr ▸ hrv), H', hs w0 _ s2, hR⟩⟩
theorem FnSM_intro {k f : Nat} {fn : Func} {c : Code} {vs : List Value} {R : Ending → Hp → Prop} (hf : P.funcs[f]? = some fn) (hb : fn.body = some c) (hn : fn.ntmps = k)
    (hlen : Nat.ble vs.length k = true) (h : WpT P ⟨k, []⟩ w0 c (bodyPostM Fence.wide 0 P fn (RR w0 R)) (args0 vs 0) H) : FnS P w0 f vs.toArray H R := fun w hw => by
  refine callsIn_wide.1 (callsIn_of_wp_marks (n := 0) hf hb trivial ((wpIn_wide).2 (h _ w (args_ok hn (Nat.le_of_ble_eq_true hlen)) hw)))
theorem YS.mono {l : Nat} {args : Array Value} {R R' : Ending → Hp → Prop} (h : YS P w0 l args H R) (hr : ∀ e H', R e H' → R' e H') : YS P w0 l args H R' := fun m w hw => by
  obtain ⟨fn, tmps, assign, body, h1, h2⟩ := h m w hw
  exact ⟨fn, tmps, assign, body, h1, h2.mono fun e w' ⟨H', s, r⟩ => ⟨H', s, hr e H' r⟩⟩
theorem YS.sub {l : Nat} {args : Array Value} {R : Ending → Hp → Prop} (hs : HSub H' H) (h : YS P w0 l args H' R) : YS P w0 l args H R := fun m w hw => h m w (hs w0 w hw)
theorem frOk_two {k p q : Nat} {u v : Value} {tmps : Array Value} (h : FrOk ⟨k, []⟩ E { tmps := tmps, defers := [] }) (hp : p < k) (hq : q < k) :
    FrOk ⟨k, []⟩ ((q, u) :: (p, v) :: E) { tmps := ((#[p, q] : Array Nat).zip [v, u].toArray).foldl (fun tmps (t, a) => tmps.setIfInBounds t a) tmps, defers := [] } := by
  have h1 := h.put (d := some p) (by simp [dok, Nat.blt]; exact hp) v
  have h2 := h1.put (d := some q) (by simp [dok, Nat.blt]; exact hq) u
  have e : ((#[p, q] : Array Nat).zip [v, u].toArray).foldl (fun tmps (t, a) => tmps.setIfInBounds t a) tmps = (tmps.setIfInBounds p v).setIfInBounds q u := by simp
  rw [e]
  exact h2
end Go.Sl

/- walks (own work; the walks' lines by a program of this repo). -/
set_option linter.unusedVariables false
set_option linter.unusedSimpArgs false
set_option maxRecDepth 20000
namespace Go.Proofs.Ytaeooiogjhkjfaa
open Go.Sl
attribute [local irreducible] BodyQ WpC WpL WpS WpH OpW FnS


theorem read_down {w0 : World} {H : Hp} {d : Dv} {p : Pw} (hD : Sees (fun w => St w0 w H) d.b (.cells d.cells.toArray dt.dev)) (hP : Sees (fun w => St w0 w H) d.pw (.cells p.cells.toArray dt.pow)) (n : Int) (hdn : (d.a.out || p.a.off) = true) : FnS Try.prog w0 62 #[ptr d.b, .int .i64 n] H (fun e H' => e = .returned (.tuple #[.agg (bs (secOf 0)).toArray, .int .i64 13]) ∧ H' = H) := by
  refine FnS_intro (n := 42) (rs := [.cell 4 38, .cell 5 53]) (vs := [ptr d.b, .int .i64 n]) Try.func62 rfl Try.ntmps62 rfl rfl ?_
  refine C_seq ?_
  refine C_region ?_
  refine L_op rfl (op_box rfl rfl rfl (fun B1 => ?_))
  refine L_op rfl (op_alloc zl_38 rfl (fun B2 => ?_))
  refine L_op rfl (op_alloc zl_53 rfl (fun B3 => ?_))
  refine L_nil ?_
  refine C_seq ?_
  refine C_block ?_
  refine C_seq ?_
  refine C_region ?_
  refine L_y rfl (y_move rfl) rfl ?_
  refine L_y rfl (y_eqp rfl rfl Try.underlying30) rfl ?_
  refine L_y rfl (y_assign rfl) rfl ?_
  refine L_nil ?_
  refine C_cond_f rfl ?_
  refine C_seq ?_
  refine C_region ?_
  refine L_y rfl (y_move rfl) rfl ?_
  refine L_op rfl (op_call rfl rfl (fun a w => Try.call87 a w) rfl ?_)
  refine (down_s d p (hD.up.up.up) (hP.up.up.up)).mono ?_
  rintro _ _ ⟨rfl, rfl⟩
  rw [hdn]
  refine ⟨_, rfl, ?_⟩
  refine L_y rfl (y_assign rfl) rfl ?_
  refine L_nil ?_
  refine C_cond_t rfl ?_
  refine C_seq ?_
  refine C_region ?_
  refine L_y rfl (y_buildA0 Try.underlying38 sz_5 zl_38) rfl ?_
  refine L_op rfl (op_storeA 1 0 rfl rfl rfl sz_38 (by simp) rfl (by rw [zsec]; exact bs_one _) (by simp) ?_)
  rw [zsec]
  refine L_op rfl (op_store1 0 0 rfl rfl rfl sz_53 rfl (Nat.le_of_ble_eq_true rfl) ?_)
  refine L_nil ?_
  refine C_ret ?_
  refine B_ret (rv_cellA rfl ag_38 sz_38 (sees 1 0 rfl) (by rw [bs_length, secOf_len]; decide) (bs_whole0 _ (secOf_len 0)) (rv_cell1 rfl ag_53 (sees 0 0 rfl) rfl rv_nil)) (hsub (.cons _ (.cons _ (.cons _ (.refl _))))) ?_
  exact ⟨rfl, rfl⟩

theorem read_out {w0 : World} {H : Hp} {d : Dv} {p : Pw} (hD : Sees (fun w => St w0 w H) d.b (.cells d.cells.toArray dt.dev)) (hP : Sees (fun w => St w0 w H) d.pw (.cells p.cells.toArray dt.pow)) (n : Int) (hdn : (d.a.out || p.a.off) = false) (hth : (decide (0 ≤ n) && decide (n < d.a.S.length)) = false) : FnS Try.prog w0 62 #[ptr d.b, .int .i64 n] H (fun e H' => e = .returned (.tuple #[.agg (bs (secOf 0)).toArray, .int .i64 2]) ∧ H' = H) := by
  refine FnS_intro (n := 42) (rs := [.cell 4 38, .cell 5 53]) (vs := [ptr d.b, .int .i64 n]) Try.func62 rfl Try.ntmps62 rfl rfl ?_
  refine C_seq ?_
  refine C_region ?_
  refine L_op rfl (op_box rfl rfl rfl (fun B1 => ?_))
  refine L_op rfl (op_alloc zl_38 rfl (fun B2 => ?_))
  refine L_op rfl (op_alloc zl_53 rfl (fun B3 => ?_))
  refine L_nil ?_
  refine C_seq ?_
  refine C_block ?_
  refine C_seq ?_
  refine C_region ?_
  refine L_y rfl (y_move rfl) rfl ?_
  refine L_y rfl (y_eqp rfl rfl Try.underlying30) rfl ?_
  refine L_y rfl (y_assign rfl) rfl ?_
  refine L_nil ?_
  refine C_cond_f rfl ?_
  refine C_seq ?_
  refine C_region ?_
  refine L_y rfl (y_move rfl) rfl ?_
  refine L_op rfl (op_call rfl rfl (fun a w => Try.call87 a w) rfl ?_)
  refine (down_s d p (hD.up.up.up) (hP.up.up.up)).mono ?_
  rintro _ _ ⟨rfl, rfl⟩
  rw [hdn]
  refine ⟨_, rfl, ?_⟩
  refine L_y rfl (y_assign rfl) rfl ?_
  refine L_nil ?_
  refine C_cond_f rfl ?_
  refine C_seq ?_
  refine C_region ?_
  refine L_y rfl (y_move rfl) rfl ?_
  refine L_y rfl (y_load rfl ag_3 (sees 2 0 rfl) rfl) rfl ?_
  refine L_op rfl (op_call rfl rfl (fun a w => Try.call88 a w) rfl ?_)
  refine (there_s d _ (hD.up.up.up)).mono ?_
  rintro _ _ ⟨rfl, rfl⟩
  rw [hth]
  refine ⟨_, rfl, ?_⟩
  refine L_y rfl (y_not rfl) rfl ?_
  refine L_y rfl (y_assign rfl) rfl ?_
  refine L_nil ?_
  refine C_cond_t rfl ?_
  refine C_seq ?_
  refine C_region ?_
  refine L_y rfl (y_buildA0 Try.underlying38 sz_5 zl_38) rfl ?_
  refine L_op rfl (op_storeA 1 0 rfl rfl rfl sz_38 (by simp) rfl (by rw [zsec]; exact bs_one _) (by simp) ?_)
  rw [zsec]
  refine L_op rfl (op_store1 0 0 rfl rfl rfl sz_53 rfl (Nat.le_of_ble_eq_true rfl) ?_)
  refine L_nil ?_
  refine C_ret ?_
  refine B_ret (rv_cellA rfl ag_38 sz_38 (sees 1 0 rfl) (by rw [bs_length, secOf_len]; decide) (bs_whole0 _ (secOf_len 0)) (rv_cell1 rfl ag_53 (sees 0 0 rfl) rfl rv_nil)) (hsub (.cons _ (.cons _ (.cons _ (.refl _))))) ?_
  exact ⟨rfl, rfl⟩

theorem backward_s {w0 : World} {H : Hp} {g : Option SlG} {m : Nat} : FnS Try.prog w0 90 #[slV g m] H (fun e H' => ∃ B, e = .returned (.func (.func 101) #[] #[ptr B]) ∧ H' = [(B, .cells [slV g m].toArray 114)] :: H) := by
  refine FnS_intro (n := 4) (rs := [.tmp 2]) (vs := [slV g m]) Try.func90 rfl Try.ntmps90 rfl rfl ?_
  refine C_seq ?_
  refine C_region ?_
  refine L_op rfl (op_box (l := [slV g m]) rfl (by cases g <;> rfl) rfl (fun B1 => ?_))
  refine L_y rfl (y_assign rfl) rfl ?_
  refine L_nil ?_
  refine C_seq ?_
  refine C_region ?_
  refine L_y rfl (y_makeFunc rfl rfl) rfl ?_
  refine L_y rfl (y_assign rfl) rfl ?_
  refine L_nil ?_
  refine C_ret ?_
  refine B_ret (rv_tmp rfl rv_nil) (HSub.refl _) ?_
  exact ⟨B1, rfl, rfl⟩

theorem iter_s {w0 : World} {y B : Nat} {g : Option SlG} {Q : List (Nat × Sec)} (HR : Nat → Hp) (I : Nat → Prop) (X : Hp → Prop) (hq : slOk 129 g Q.length (wcs Q)) (hl : Q.length ≤ 100000) (hQ128 : ∀ x ∈ Q, x.2.length = 128) (hI : I Q.length) (hB : ∀ i, Sees (fun w => St w0 w (HR i)) B (.cells [slV g Q.length].toArray 114)) (hQ : ∀ gg i, g = some gg → Sees (fun w => St w0 w (HR i)) gg.b (.cells (wcs Q ++ gg.sp).toArray 142)) (hround : ∀ i x, Q[i]? = some x → I (i + 1) → YS Try.prog w0 y #[.int .i64 (i : Int), .agg (.int .i64 (x.1 : Int) :: bs x.2).toArray] (HR (i + 1)) (fun e H' => ∃ b, e = .returned (.bool b) ∧ (b = true → H' = HR i ∧ I i) ∧ (b = false → X H'))) : FnS Try.prog w0 101 #[.func (.yield y) #[] #[], ptr B] (HR Q.length) (fun e H' => e = .returned (.tuple #[]) ∧ ((H' = HR 0 ∧ I 0) ∨ X H')) := by
  refine FnSI_intro (k := 19) (rs := []) (vs := [.func (.yield y) #[] #[], ptr B]) Try.func101 rfl Try.ntmps101 rfl rfl ?_
  refine CI_seq ?_
  refine CI_region ?_
  refine LI_y rfl (y_load rfl ag_114 (hB _) rfl) rfl ?_
  refine LI_y rfl (y_lenV hq rfl rfl Try.underlying114) rfl ?_
  refine LI_y rfl (y_sub rfl rfl (wi64 (by omega) (by omega))) rfl ?_
  refine LI_y rfl (y_assign rfl) rfl ?_
  refine LI_nil ?_
  refine CI_block ?_
  refine CI_loop (ι := Nat) (fun i => [(0, .func (.yield y) #[] #[]), (1, ptr B), (3, .int .i64 ((i : Int) - 1))]) (fun i => HR i) (fun i => i ≤ Q.length ∧ I i) (fun i => i) Q.length ⟨Nat.le_refl _, hI⟩ ⟨rfl, rfl, rfl, trivial⟩ (HSub.refl _) (fun i hi => ?_)
  skip
  refine CI_seq ?_
  refine CI_seq ?_
  refine CI_region ?_
  refine LI_y rfl (y_move rfl) rfl ?_
  refine LI_y rfl (y_geq rfl rfl) rfl ?_
  refine LI_nil ?_
  refine CI_cond rfl (fun hc0 => ?_) (fun hc0 => ?_)
  · replace hc0 := of_decide_eq_true hc0
    refine CI_skip ?_
    refine CI_seq ?_
    refine CI_block ?_
    refine CI_seq ?_
    obtain ⟨j, rfl⟩ : ∃ j, i = j + 1 := ⟨i - 1, by omega⟩
    rw [show (((j + 1 : Nat) : Int) - 1) = (j : Int) from by omega]
    obtain ⟨x, hx⟩ : ∃ x, Q[j]? = some x := ⟨_, List.getElem?_eq_getElem (by omega)⟩
    have hwl := wcs_len hQ128
    cases g with
    | none => exact absurd hq.2 (by omega)
    | some g => ?_
    refine CI_region ?_
    refine LI_y rfl (y_move rfl) rfl ?_
    refine LI_y rfl (y_move rfl) rfl ?_
    refine LI_y rfl (y_load rfl ag_114 (hB _) rfl) rfl ?_
    refine LI_y rfl (y_move rfl) rfl ?_
    refine LI_y rfl (y_indexS rfl rfl Try.underlying114 sz_142 (by omega) (by omega) (show _ = j * 129 from by simp)) rfl ?_
    refine LI_y rfl (y_loadA rfl ag_142 sz_142 (hQ g _ rfl) (by rw [List.length_append, hwl]; omega) (wcs_get _ hQ128 hx)) rfl ?_
    refine LI_yield rfl rfl rfl ((hround j x hx hi.2).mono ?_)
    rintro e H2 ⟨b, rfl, hT, hX⟩
    refine ⟨_, rfl, ?_⟩
    refine LI_y rfl (y_not rfl) rfl ?_
    refine LI_nil ?_
    refine CI_cond rfl (fun hc1 => ?_) (fun hc1 => ?_)
    · have hb : b = false := by simpa using hc1
      refine CI_ret ?_
      refine B_ret rv_nil (HSub.refl _) ?_
      first
      | exact ⟨rfl, .inr (hX hb)⟩
      | (obtain rfl : i = 0 := by omega
         exact ⟨rfl, .inl ⟨rfl, hi.2⟩⟩)
    · have hb : b = true := by simpa using hc1
      refine CI_skip ?_
      refine CI_region ?_
      refine LI_y rfl (y_move rfl) rfl ?_
      refine LI_y rfl (y_sub rfl rfl (wi64 (by omega) (by omega))) rfl ?_
      refine LI_y rfl (y_assign rfl) rfl ?_
      refine LI_nil ?_
      exact ⟨j, ⟨by omega, (hT hb).2⟩, by omega, ⟨rfl, rfl, rfl, trivial⟩, by rw [(hT hb).1]; exact HSub.refl _⟩
  · replace hc0 := of_decide_eq_false hc0
    refine CI_exit ?_
    refine B_end rv_nil (HSub.refl _) ?_
    first
    | exact ⟨rfl, .inr (hX hb)⟩
    | (obtain rfl : i = 0 := by omega
       exact ⟨rfl, .inl ⟨rfl, hi.2⟩⟩)

theorem read_go {w0 : World} {H : Hp} {d : Dv} {p : Pw} (hd : d.ok) (hD : Sees (fun w => St w0 w H) d.b (.cells d.cells.toArray dt.dev)) (hP : Sees (fun w => St w0 w H) d.pw (.cells p.cells.toArray dt.pow)) (hT : Sees (fun w => St w0 w H) d.st (.cells (bs d.a.S.flatten).toArray dt.sec)) (hQs : ∀ gg, d.g = some gg → Sees (fun w => St w0 w H) gg.b (.cells (wcs d.a.Q ++ gg.sp).toArray dt.wr)) (n : Nat) (hn : n < d.a.S.length) (hdn : (d.a.out || p.a.off) = false) :
    FnS Try.prog w0 62 #[ptr d.b, .int .i64 (n : Int)] H (fun e H' => e = .returned (.tuple #[.agg (bs (d.a.read n)).toArray, .int .i64 0]) ∧ H' = H) := by
  have hth : (decide ((0 : Int) ≤ (n : Int)) && decide ((n : Int) < d.a.S.length)) = true := by simp; omega
  obtain ⟨s, hs⟩ : ∃ s, d.a.S[n]? = some s := ⟨_, List.getElem?_eq_getElem hn⟩
  have hs1 := hd.1.1 s (List.mem_of_getElem? hs)
  have hfl := flat_len hd.1.1
  have hQ128 : ∀ x ∈ d.a.Q, x.2.length = 128 := fun x hx => (hd.1.2.2.1 x hx).2
  refine FnSM_intro (k := 42) (vs := [ptr d.b, .int .i64 (n : Int)]) Try.func62 rfl Try.ntmps62 rfl ?_
  refine T_seq ?_
  refine C_region ?_
  refine L_op rfl (op_box rfl rfl rfl (fun B1 => ?_))
  refine L_op rfl (op_alloc zl_38 rfl (fun B2 => ?_))
  refine L_op rfl (op_alloc zl_53 rfl (fun B3 => ?_))
  refine L_nil ?_
  refine T_seq ?_
  refine C_block ?_
  refine C_seq ?_
  refine C_region ?_
  refine L_y rfl (y_move rfl) rfl ?_
  refine L_y rfl (y_eqp rfl rfl Try.underlying30) rfl ?_
  refine L_y rfl (y_assign rfl) rfl ?_
  refine L_nil ?_
  refine C_cond_f rfl ?_
  refine C_seq ?_
  refine C_region ?_
  refine L_y rfl (y_move rfl) rfl ?_
  refine L_op rfl (op_call rfl rfl (fun a w => Try.call87 a w) rfl ?_)
  refine (down_s d p (hD.up.up.up) (hP.up.up.up)).mono ?_
  rintro _ _ ⟨rfl, rfl⟩
  rw [hdn]
  refine ⟨_, rfl, ?_⟩
  refine L_y rfl (y_assign rfl) rfl ?_
  refine L_nil ?_
  refine C_cond_f rfl ?_
  refine C_seq ?_
  refine C_region ?_
  refine L_y rfl (y_move rfl) rfl ?_
  refine L_y rfl (y_load rfl ag_3 (sees 2 0 rfl) rfl) rfl ?_
  refine L_op rfl (op_call rfl rfl (fun a w => Try.call88 a w) rfl ?_)
  refine (there_s d _ (hD.up.up.up)).mono ?_
  rintro _ _ ⟨rfl, rfl⟩
  rw [hth]
  refine ⟨_, rfl, ?_⟩
  refine L_y rfl (y_not rfl) rfl ?_
  refine L_y rfl (y_assign rfl) rfl ?_
  refine L_nil ?_
  refine C_cond_f rfl ?_
  refine C_skip ?_
  refine T_seqT ?_
  refine T_seq ?_
  refine C_region ?_
  refine L_y rfl (y_move rfl) rfl ?_
  refine L_y rfl (y_nilCheck rfl) rfl ?_
  refine L_y rfl (y_fieldAddr rfl fl_116_2) rfl ?_
  refine L_y rfl (y_load rfl ag_114 (hD.up.up.up) rfl) rfl ?_
  refine L_op rfl (op_call rfl rfl (fun a w => Try.call90 a w) rfl ?_)
  refine backward_s.mono ?_
  rintro _ _ ⟨B4, rfl, rfl⟩
  refine ⟨_, rfl, ?_⟩
  refine L_nil ?_
  refine T_range (f := 101) (cap := [ptr B4]) (KN := fun Hr => Hr = ([(B4, .cells [slV d.g d.a.Q.length].toArray 114)] :: [(B3, .cells [Value.int .i64 0].toArray 53)] :: [(B2, .cells (List.replicate 128 (Value.int .u8 0)).toArray 38)] :: [(B1, .cells [Value.int .i64 (n : Int)].toArray 3)] :: H) ∧ noneFrom d.a.Q n 0) (KX := fun Hr => ∃ (i : Nat) (x : Nat × Sec), d.a.Q[i]? = some x ∧ x.1 = n ∧ noneFrom d.a.Q n (i + 1) ∧ Hr = ([(B4, .cells [slV d.g d.a.Q.length].toArray 114)] :: [(B3, .cells [Value.int .i64 0].toArray 53)] :: [(B2, .cells (bs x.2).toArray 38)] :: [(B1, .cells [Value.int .i64 (n : Int)].toArray 3)] :: H)) rfl (fun a w => Try.call101 a w) (fun l db fn tmps rc hrc hfr => ?_) (fun db Hr a w hk ha hw => ?_) (fun db Hr a w hk ha hw => ?_)
  · refine (iter_s (g := d.g) (Q := d.a.Q) (fun _ => [(l, .loop rc)] :: [(db, .deferred (some []))] :: ([(B4, .cells [slV d.g d.a.Q.length].toArray 114)] :: [(B3, .cells [Value.int .i64 0].toArray 53)] :: [(B2, .cells (List.replicate 128 (Value.int .u8 0)).toArray 38)] :: [(B1, .cells [Value.int .i64 (n : Int)].toArray 3)] :: H)) (noneFrom d.a.Q n) (fun H' => ∃ (i : Nat) (x : Nat × Sec), d.a.Q[i]? = some x ∧ x.1 = n ∧ noneFrom d.a.Q n (i + 1) ∧ H' = [(l, .loop { rc with state := .done, pending := some .ret })] :: [(db, .deferred (some []))] :: ([(B4, .cells [slV d.g d.a.Q.length].toArray 114)] :: [(B3, .cells [Value.int .i64 0].toArray 53)] :: [(B2, .cells (bs x.2).toArray 38)] :: [(B1, .cells [Value.int .i64 (n : Int)].toArray 3)] :: H)) hd.2.1 hd.2.2 hQ128 (noneFrom_len _ _) (fun i => sees 2 0 rfl) (fun gg i hg => (hQs gg hg).up.up.up.up.up.up) (fun i x hx hI => ?_)).mono ?_
    · subst hrc
      have hx128 := hQ128 x (List.mem_of_getElem? hx)
      refine (round_s (k := 42) (RT := fun b Hx => if b then Hx = [(db, .deferred (some []))] :: ([(B4, .cells [slV d.g d.a.Q.length].toArray 114)] :: [(B3, .cells [Value.int .i64 0].toArray 53)] :: [(B2, .cells (List.replicate 128 (Value.int .u8 0)).toArray 38)] :: [(B1, .cells [Value.int .i64 (n : Int)].toArray 3)] :: H) ∧ x.1 ≠ n else Hx = [(db, .deferred (some []))] :: ([(B4, .cells [slV d.g d.a.Q.length].toArray 114)] :: [(B3, .cells [Value.int .i64 0].toArray 53)] :: [(B2, .cells (bs x.2).toArray 38)] :: [(B1, .cells [Value.int .i64 (n : Int)].toArray 3)] :: H) ∧ x.1 = n) rfl rfl rfl (frOk_two hfr (by decide) (by decide)) ?_).mono ?_
      · refine CI_region ?_
        refine LI_op rfl rfl (op_alloc zl_142 rfl (fun B5 => ?_))
        refine LI_op rfl rfl (op_storeA 0 0 rfl rfl rfl sz_142 (by simp [bs_length, hx128]) rfl (one_wr _ _) rfl ?_)
        refine LI_nil ?_
        refine ⟨_, hsub_pick [1] rfl, ?_⟩
        refine CI_block ?_
        refine CI_seq ?_
        refine CI_region ?_
        refine LI_y rfl (y_fieldAddr rfl fl_142_0) rfl ?_
        refine LI_y rfl (y_load rfl ag_3 (sees 1 0 rfl) rfl) rfl ?_
        refine LI_y rfl (y_load rfl ag_3 (sees 6 0 rfl) rfl) rfl ?_
        refine LI_y rfl (y_eqi rfl rfl) rfl ?_
        refine LI_nil ?_
        refine CI_cond rfl (fun hc3 => ?_) (fun hc3 => ?_)
        · replace hc3 : x.1 = n := by have := of_decide_eq_true hc3; omega
          refine CI_seq ?_
          refine CI_region ?_
          refine LI_y rfl (y_fieldAddr rfl fl_142_1) rfl ?_
          refine LI_y rfl (y_loadA rfl ag_38 sz_38 (sees 1 0 rfl) (by simp [bs_length, hx128]) (bs_whole x.2 hx128)) rfl ?_
          refine LI_op rfl rfl (op_storeA 5 0 rfl rfl rfl sz_38 (by rw [bs_length, hx128]) rfl (bs_one _) (by simp) ?_)
          refine LI_op rfl rfl (op_store1 4 0 rfl rfl rfl sz_53 rfl (Nat.le_of_ble_eq_true rfl) ?_)
          refine LI_nil ?_
          refine CI_ret ?_
          exact ⟨[(db, .deferred (some []))] :: ([(B4, .cells [slV d.g d.a.Q.length].toArray 114)] :: [(B3, .cells [Value.int .i64 0].toArray 53)] :: [(B2, .cells (bs x.2).toArray 38)] :: [(B1, .cells [Value.int .i64 (n : Int)].toArray 3)] :: H), hsub (.cons_cons _ (.cons _ (.refl _))), rfl, hc3⟩
        · replace hc3 : x.1 ≠ n := by have := of_decide_eq_false hc3; omega
          refine CI_skip ?_
          exact ⟨[(db, .deferred (some []))] :: ([(B4, .cells [slV d.g d.a.Q.length].toArray 114)] :: [(B3, .cells [Value.int .i64 0].toArray 53)] :: [(B2, .cells (List.replicate 128 (Value.int .u8 0)).toArray 38)] :: [(B1, .cells [Value.int .i64 (n : Int)].toArray 3)] :: H), hsub (.cons_cons _ (.cons _ (.refl _))), rfl, hc3⟩
      · rintro e H' (⟨rfl, Hx, rfl, rt⟩ | ⟨rfl, Hx, rfl, rt⟩)
        · obtain ⟨rfl, hne⟩ := rt
          exact ⟨true, rfl, fun _ => ⟨rfl, noneFrom_step hI hx hne⟩, fun h => Bool.noConfusion h⟩
        · obtain ⟨rfl, he⟩ := rt
          exact ⟨false, rfl, fun h => Bool.noConfusion h, fun _ => ⟨i, x, hx, he, hI, rfl⟩⟩
    · rintro e H' ⟨rfl, (⟨rfl, hI⟩ | ⟨i, x, hx, he, hI, rfl⟩)⟩
      · exact ⟨⟨_, rfl⟩, .inl ⟨_, rfl, rfl, hI⟩⟩
      · exact ⟨⟨_, rfl⟩, .inr ⟨_, rfl, i, x, hx, he, hI, rfl⟩⟩
  · obtain ⟨rfl, hk⟩ := hk
    refine (?_ : WpT _ ⟨42, Go.Sl.mark db⟩ w0 _ _ _ _) a w ha hw
    clear ha hw
    refine T_seq ?_
    refine C_regionT 7 (by kernel_rfl) (by kernel_rfl) ?_
    refine S_y rfl (y_move rfl) rfl ?_
    refine S_y rfl (y_nilCheck rfl) rfl ?_
    refine S_y rfl (y_fieldAddr rfl fl_116_1) rfl ?_
    refine S_y rfl (y_load rfl ag_43 (hD.up.up.up.up.up) rfl) rfl ?_
    refine S_y rfl (y_load rfl ag_3 (sees 4 0 rfl) rfl) rfl ?_
    refine S_y rfl (y_indexS rfl rfl Try.underlying43 sz_38 (by omega) (by omega) (show _ = n * 128 from by simp)) rfl ?_
    refine S_y rfl (y_loadA rfl ag_38 sz_38 (hT.up.up.up.up.up) (by rw [bs_length, hfl]; omega) (show _ = bs s from by rw [bs_drop, bs_take, flat_sec hd.1.1 hs])) rfl ?_
    refine S_nil ?_
    refine L_op rfl (op_storeA 3 0 rfl rfl rfl sz_38 (by rw [bs_length, hs1]) rfl (bs_one _) (by simp) ?_)
    refine L_op rfl (op_store1 2 0 rfl rfl rfl sz_53 rfl (Nat.le_of_ble_eq_true rfl) ?_)
    refine L_nil ?_
    refine T_of ?_
    refine C_ret ?_
    intro a w ha hw
    exact M_mark rfl ha hw (rv_cellA rfl ag_38 sz_38 (sees 2 0 rfl) (by rw [bs_length, hs1]; decide) (bs_whole0 s hs1) (rv_cell1 rfl ag_53 (sees 1 0 rfl) rfl rv_nil)) (hsub (.cons _ (.cons _ (.cons _ (.cons _ (.refl _)))))) ⟨by rw [show d.a.read n = s from by simp [Ab.read, lastW_none hk, List.getD, hs]]; rfl, rfl⟩
  · obtain ⟨i, x, hx, he, hI, rfl⟩ := hk
    have hx128 := hQ128 x (List.mem_of_getElem? hx)
    exact M_mark rfl ha hw (rv_cellA rfl ag_38 sz_38 (sees 2 0 rfl) (by rw [bs_length, hx128]; decide) (bs_whole0 x.2 hx128) (rv_cell1 rfl ag_53 (sees 1 0 rfl) rfl rv_nil)) (hsub (.cons _ (.cons _ (.cons _ (.cons _ (.refl _)))))) ⟨by rw [show d.a.read n = x.2 from by simp [Ab.read, lastW_found hI hx he]]; rfl, rfl⟩

end Go.Proofs.Ytaeooiogjhkjfaa

/- walks (own work; the walks' lines by a program of this repo). -/
set_option linter.unusedVariables false
set_option linter.unusedSimpArgs false
set_option maxRecDepth 20000
namespace Go.Proofs.Ytaeooiogjhkjfaa
open Go.Sl
attribute [local irreducible] BodyQ WpC WpL WpS WpH OpW FnS


theorem write_l {w0 : World} {H : Hp} {L R : List Dv} {d : Dv} {p : Pw} {b : Nat} (hG : GOk dt p L d R) (hb : d.b = b) (n : Int) (s : Sec) (hs : s.length = 128) (hQ : d.a.Q.length < 100000) :
    FnS Try.prog w0 56 #[ptr b, .int .i64 n, .agg (bs s).toArray] (opn dt d p (L ++ R) H) (fun e H' => e = .returned (.int .i64 (writeE d.a p.a n)) ∧ ∃ d' p' L' R', GOk dt p' L' d' R' ∧ d'.b = b ∧ d'.a = writeA d.a p.a n s ∧ p'.b = p.b ∧ p'.a = writeP d.a p.a n ∧ Mv (wgo d.a p.a n) p.a L L' ∧ Mv (wgo d.a p.a n) p.a R R' ∧ H' = opn dt d' p' (L' ++ R') H) := by
  subst hb
  cases hdn : d.a.down p.a with
  | true =>
    refine (write_down (sees 0 0 rfl) (hG.hb ▸ sees 3 0 rfl) n s hdn).mono ?_
    rintro _ _ ⟨rfl, rfl⟩
    refine ⟨ret_int (by simp [writeE, hdn]), d, p, L, R, hG, rfl, by simp [writeA, wgo, hdn], rfl, by simp [writeP, wgo, hdn], ?_, ?_, rfl⟩ <;> simp [wgo, hdn, Mv.same]
  | false =>
    cases hth : d.a.has n with
    | false =>
      refine (write_out (sees 0 0 rfl) (hG.hb ▸ sees 3 0 rfl) n s hdn hth).mono ?_
      rintro _ _ ⟨rfl, rfl⟩
      refine ⟨ret_int (by simp [writeE, hdn, hth]), d, p, L, R, hG, rfl, by simp [writeA, wgo, hth], rfl, by simp [writeP, wgo, hth], ?_, ?_, rfl⟩ <;> simp [wgo, hth, Mv.same]
    | true =>
      have hn : 0 ≤ n ∧ n < d.a.S.length := by simpa [Ab.has] using hth
      obtain ⟨m, rfl⟩ : ∃ m : Nat, n = m := ⟨n.toNat, by omega⟩
      refine (write_go hG m s (by omega) hs hQ hdn).mono ?_
      rintro _ _ ⟨g', hok, rfl, rfl⟩
      have hw : wgo d.a p.a (m : Int) = true := by simp [wgo, hdn, hth]
      refine ⟨ret_int (by simp [writeE, hdn, hth]), _, _, _, _, (((hG.set rfl rfl hok : GOk dt p L (d.wr m s g') R).step p.a).stepp), (Dv.step_b _ _), ?_, rfl, ?_, ?_, ?_, ?_⟩
      · rw [Dv.step_a]; simp [writeA, hw, Dv.wr, Ab.push]
      · simp [writeP, hw, Pw.step]
      · rw [hw]; exact Mv.step _ _
      · rw [hw]; exact Mv.step _ _
      · rw [List.map_append]

theorem flush_l {w0 : World} {H : Hp} {L R : List Dv} {d : Dv} {p : Pw} {b : Nat} (hG : GOk dt p L d R) (hb : d.b = b) :
    FnS Try.prog w0 60 #[ptr b] (opn dt d p (L ++ R) H) (fun e H' => e = .returned (.int .i64 (flushE d.a p.a)) ∧ ∃ d' p' L' R', GOk dt p' L' d' R' ∧ d'.b = b ∧ d'.a = flushA d.a p.a ∧ p'.b = p.b ∧ p'.a = flushP d.a p.a ∧ Mv (!d.a.down p.a) p.a L L' ∧ Mv (!d.a.down p.a) p.a R R' ∧ H' = opn dt d' p' (L' ++ R') H) := by
  subst hb
  cases hdn : d.a.down p.a with
  | true =>
    refine (flush_down (sees 0 0 rfl) (hG.hb ▸ sees 3 0 rfl) hdn).mono ?_
    rintro _ _ ⟨rfl, rfl⟩
    exact ⟨ret_int (by simp [flushE, hdn]), d, p, L, R, hG, rfl, by simp [flushA, hdn], rfl, by simp [flushP, hdn], Mv.same _ _, Mv.same _ _, rfl⟩
  | false =>
    cases hfa : p.a.falls with
    | true =>
      refine (flush_falls hG hdn hfa).mono ?_
      rintro _ _ ⟨rfl, rfl⟩
      refine ⟨ret_int (by simp [flushE, hdn, hfa]), _, _, _, _, (hG.step p.a).stepp, (Dv.step_b _ _), ?_, rfl, ?_, Mv.step _ _, Mv.step _ _, by rw [List.map_append]⟩
      · rw [Dv.step_a]; simp [flushA, hdn, hfa, Ab.step]
      · simp [flushP, hdn, Pw.step]
    | false =>
      have hm0 : ∀ L : List Dv, Mv (!false) p.a L L := fun L => by
        have := Mv.step p.a L
        rwa [step_map0 hfa] at this
      cases hl : d.a.lies with
      | true =>
        refine (flush_lies hG hdn hfa hl).mono ?_
        rintro _ _ ⟨rfl, rfl⟩
        exact ⟨ret_int (by simp [flushE, hdn, hfa]), d, _, L, R, hG.stepp, rfl, by simp [flushA, hdn, hfa, Ab.flush, hl], rfl, by simp [flushP, hdn, Pw.step], hm0 _, hm0 _, rfl⟩
      | false =>
        refine (flush_go hG hdn hfa hl).mono ?_
        rintro _ _ ⟨rfl, rfl⟩
        exact ⟨ret_int (by simp [flushE, hdn, hfa]), d.fl, _, L, R, (hG.set rfl rfl (Dv.fl_ok hG.dok) : GOk dt p L d.fl R).stepp, rfl, by rw [Dv.fl_a hl]; simp [flushA, hdn, hfa], rfl, by simp [flushP, hdn, Pw.step], hm0 _, hm0 _, rfl⟩

theorem write_1 {w0 : World} {H : Hp} {d : Dv} {p : Pw} {b : Nat} (hG : GOk dt p [] d []) (hb : d.b = b) (n : Int) (s : Sec) (hs : s.length = 128) (hQ : d.a.Q.length < 100000) : FnS Try.prog w0 56 #[ptr b, .int .i64 n, .agg (bs s).toArray] (d.o dt :: d.t dt :: d.q dt :: p.o dt :: p.q dt :: H) (fun e H' => e = .returned (.int .i64 (writeE d.a p.a n)) ∧ ∃ d' p', GOk dt p' [] d' [] ∧ d'.b = b ∧ d'.a = writeA d.a p.a n s ∧ p'.b = p.b ∧ p'.a = writeP d.a p.a n ∧ H' = d'.o dt :: d'.t dt :: d'.q dt :: p'.o dt :: p'.q dt :: H) := by
  refine (write_l hG hb n s hs hQ).mono ?_
  rintro _ _ ⟨rfl, d', p', L', R', h1, h2, h3, h4, h5, h6, h7, rfl⟩
  obtain rfl := h6.nil
  obtain rfl := h7.nil
  exact ⟨rfl, d', p', h1, h2, h3, h4, h5, rfl⟩

theorem flush_1 {w0 : World} {H : Hp} {d : Dv} {p : Pw} {b : Nat} (hG : GOk dt p [] d []) (hb : d.b = b) : FnS Try.prog w0 60 #[ptr b] (d.o dt :: d.t dt :: d.q dt :: p.o dt :: p.q dt :: H) (fun e H' => e = .returned (.int .i64 (flushE d.a p.a)) ∧ ∃ d' p', GOk dt p' [] d' [] ∧ d'.b = b ∧ d'.a = flushA d.a p.a ∧ p'.b = p.b ∧ p'.a = flushP d.a p.a ∧ H' = d'.o dt :: d'.t dt :: d'.q dt :: p'.o dt :: p'.q dt :: H) := by
  refine (flush_l hG hb ).mono ?_
  rintro _ _ ⟨rfl, d', p', L', R', h1, h2, h3, h4, h5, h6, h7, rfl⟩
  obtain rfl := h6.nil
  obtain rfl := h7.nil
  exact ⟨rfl, d', p', h1, h2, h3, h4, h5, rfl⟩

theorem read_l {w0 : World} {H : Hp} {L R : List Dv} {d : Dv} {p : Pw} {b : Nat} (hG : GOk dt p L d R) (hb : d.b = b) (n : Int) : FnS Try.prog w0 62 #[ptr b, .int .i64 n] (opn dt d p (L ++ R) H) (fun e H' => e = .returned (.tuple #[.agg (bs (readS d.a p.a n)).toArray, .int .i64 (readE d.a p.a n)]) ∧ H' = opn dt d p (L ++ R) H) := by
  subst hb
  cases hdn : d.a.down p.a with
  | true =>
    refine (read_down (sees 0 0 rfl) (hG.hb ▸ sees 3 0 rfl) n hdn).mono ?_
    rintro _ _ ⟨rfl, rfl⟩
    exact ⟨by simp [readS, readE, hdn], rfl⟩
  | false =>
    cases hth : d.a.has n with
    | false =>
      refine (read_out (sees 0 0 rfl) (hG.hb ▸ sees 3 0 rfl) n hdn hth).mono ?_
      rintro _ _ ⟨rfl, rfl⟩
      exact ⟨by simp [readS, readE, hdn, hth], rfl⟩
    | true =>
      have hn : 0 ≤ n ∧ n < d.a.S.length := by simpa [Ab.has] using hth
      obtain ⟨m, rfl⟩ : ∃ m : Nat, n = m := ⟨n.toNat, by omega⟩
      refine (read_go hG.dok (sees 0 0 rfl) (hG.hb ▸ sees 3 0 rfl) (sees 1 0 rfl) (fun gg hg => sees_mem ?_) m (by omega) hdn).mono ?_
      · simp [opn, Dv.q, hg, slSeg]
      · rintro _ _ ⟨rfl, rfl⟩
        exact ⟨by simp [readS, readE, hdn, hth], rfl⟩

theorem tear_l {w0 : World} {H : Hp} {L R : List Dv} {d : Dv} {p : Pw} {b : Nat} (hG : GOk dt p L d R) (hb : d.b = b) (k m : Int) : FnS Try.prog w0 58 #[ptr b, .int .i64 k, .int .i64 m] (opn dt d p (L ++ R) H) (fun e H' => e = .returned (.tuple #[]) ∧ ∃ d', GOk dt p L d' R ∧ d'.b = b ∧ d'.a = d.a.tear k m ∧ H' = opn dt d' p (L ++ R) H) := by
  subst hb
  refine (tear_s d k m).mono ?_
  rintro _ _ ⟨rfl, rfl⟩
  exact ⟨rfl, { d with a := d.a.tear k m }, hG.set rfl rfl ⟨Ab.tear_ok hG.dok.1, hG.dok.2⟩, rfl, rfl, rfl⟩

theorem lie_l {w0 : World} {H : Hp} {L R : List Dv} {d : Dv} {p : Pw} {b : Nat} (hG : GOk dt p L d R) (hb : d.b = b) (on : Bool) : FnS Try.prog w0 63 #[ptr b, .bool on] (opn dt d p (L ++ R) H) (fun e H' => e = .returned (.tuple #[]) ∧ ∃ d', GOk dt p L d' R ∧ d'.b = b ∧ d'.a = { d.a with lies := on } ∧ H' = opn dt d' p (L ++ R) H) := by
  subst hb
  refine (lie_s d on).mono ?_
  rintro _ _ ⟨rfl, rfl⟩
  exact ⟨rfl, { d with a := { d.a with lies := on } }, hG.set rfl rfl ⟨hG.dok.1, hG.dok.2⟩, rfl, rfl, rfl⟩

theorem out_l {w0 : World} {H : Hp} {L R : List Dv} {d : Dv} {p : Pw} {b : Nat} (hG : GOk dt p L d R) (hb : d.b = b) (on : Bool) : FnS Try.prog w0 64 #[ptr b, .bool on] (opn dt d p (L ++ R) H) (fun e H' => e = .returned (.tuple #[]) ∧ ∃ d', GOk dt p L d' R ∧ d'.b = b ∧ d'.a = d.a.outs on ∧ H' = opn dt d' p (L ++ R) H) := by
  subst hb
  cases on with
  | false =>
    refine (out_f d).mono ?_
    rintro _ _ ⟨rfl, rfl⟩
    exact ⟨rfl, { d with a := { d.a with out := false } }, hG.set rfl rfl ⟨hG.dok.1, hG.dok.2⟩, rfl, rfl, rfl⟩
  | true =>
    refine (out_t d).weak ?_
    rintro _ _ ⟨rfl, rfl⟩
    exact ⟨_, hsub_nil2.trans (hsub (.cons_cons _ (.cons_cons _ (.cons _ (.refl _))))), rfl, { d with g := none, a := { d.a with Q := [], out := true } }, hG.set rfl rfl (Ab.out_ok hG.dok), rfl, rfl, rfl⟩

theorem fail_l {w0 : World} {H : Hp} {L R : List Dv} {d : Dv} {p : Pw} {b : Nat} (hG : GOk dt p L d R) (hb : p.b = b) (n : Int) (hn : n ≤ 9223372036854775807) : FnS Try.prog w0 59 #[ptr b, .int .i64 n] (opn dt d p (L ++ R) H) (fun e H' => e = .returned (.tuple #[]) ∧ ∃ p', GOk dt p' L d R ∧ p'.b = b ∧ p'.a = p.a.fail n ∧ H' = opn dt d p' (L ++ R) H) := by
  subst hb
  refine ((fail_s p n).sub (hsub_pick [3] rfl)).weak ?_
  rintro _ _ ⟨rfl, rfl⟩
  exact ⟨_, hsub_pick [1, 1, 1] rfl, rfl, { p with a := p.a.fail n }, hG.setp _ hn, rfl, rfl, rfl⟩

theorem restart_l {w0 : World} {H : Hp} {L R : List Dv} {d : Dv} {p : Pw} {b : Nat} (hG : GOk dt p L d R) (hb : p.b = b) : FnS Try.prog w0 66 #[ptr b] (opn dt d p (L ++ R) H) (fun e H' => e = .returned (.tuple #[]) ∧ ∃ p', GOk dt p' L d R ∧ p'.b = b ∧ p'.a = p.a.restart ∧ H' = opn dt d p' (L ++ R) H) := by
  subst hb
  refine ((restart_s p).sub (hsub_pick [3] rfl)).weak ?_
  rintro _ _ ⟨rfl, rfl⟩
  exact ⟨_, hsub_pick [1, 1, 1] rfl, rfl, { p with a := p.a.restart }, hG.setp _ hG.pok.2, rfl, rfl, rfl⟩

theorem rot_l {w0 : World} {H : Hp} {L R : List Dv} {d : Dv} {p : Pw} {b : Nat} (hG : GOk dt p L d R) (hb : d.b = b) (n i : Int) (m : UInt8) : FnS Try.prog w0 65 #[ptr b, .int .i64 n, .int .i64 i, .int .u8 (m.toNat : Int)] (opn dt d p (L ++ R) H) (fun e H' => e = .returned (.bool (d.a.rotE n i)) ∧ ∃ d', GOk dt p L d' R ∧ d'.b = b ∧ d'.a = d.a.rots n i m ∧ H' = opn dt d' p (L ++ R) H) := by
  subst hb
  cases hth : d.a.has n with
  | false =>
    refine (rot_out d (sees 0 0 rfl) n i _ hth).mono ?_
    rintro _ _ ⟨rfl, rfl⟩
    exact ⟨ret_bool (by simp [Ab.rotE, hth]), d, hG, rfl, by simp [Ab.rots, Ab.rotE, hth], rfl⟩
  | true =>
    by_cases hi : 0 ≤ i ∧ i < 128
    · have hn : 0 ≤ n ∧ n < d.a.S.length := by simpa [Ab.has] using hth
      have hr : d.a.rotE n i = true := by simp [Ab.rotE, hth, hi]
      obtain ⟨k, rfl⟩ : ∃ m : Nat, n = m := ⟨n.toNat, by omega⟩
      obtain ⟨j, rfl⟩ : ∃ m : Nat, i = m := ⟨i.toNat, by omega⟩
      refine (rot_go d hG.dok.1 k j m (by omega) (by omega)).mono ?_
      rintro _ _ ⟨rfl, rfl⟩
      exact ⟨ret_bool hr.symm, { d with a := d.a.rot k j m }, hG.set rfl rfl ⟨Ab.rot_ok hG.dok.1 (by omega), hG.dok.2⟩, rfl, by simp [Ab.rots, hr], rfl⟩
    · refine (rot_at d (sees 0 0 rfl) n i _ hth hi).mono ?_
      rintro _ _ ⟨rfl, rfl⟩
      have hr : d.a.rotE n i = false := by simp only [Ab.rotE, hth, Bool.true_and]; simp; omega
      exact ⟨ret_bool hr.symm, d, hG, rfl, by simp [Ab.rots, hr], rfl⟩

theorem waiting_l {w0 : World} {H : Hp} {d : Dv} {b : Nat} (hb : d.b = b) (hd : d.ok) (hD : Sees (fun w => St w0 w H) d.b (.cells d.cells.toArray dt.dev)) : FnS Try.prog w0 23 #[ptr b] H (fun e H' => e = .returned (.int .i64 (d.a.Q.length : Int)) ∧ H' = H) := hb ▸ waiting_s d hd hD

theorem len_l {w0 : World} {H : Hp} {d : Dv} {b : Nat} (hb : d.b = b) (hD : Sees (fun w => St w0 w H) d.b (.cells d.cells.toArray dt.dev)) : FnS Try.prog w0 22 #[ptr b] H (fun e H' => e = .returned (.int .i64 (d.a.S.length : Int)) ∧ H' = H) := hb ▸ len_s d hD

theorem dump_l {w0 : World} {H : Hp} {d : Dv} {b : Nat} (hb : d.b = b) (hd : d.a.ok) (hD : Sees (fun w => St w0 w H) d.b (.cells d.cells.toArray dt.dev)) (hT : Sees (fun w => St w0 w H) d.st (.cells (bs d.a.S.flatten).toArray dt.sec)) : FnS Try.prog w0 25 #[ptr b] H (fun e H' => ∃ g, slOk 128 g d.a.S.length (bs d.a.S.flatten) ∧ e = .returned (slV g d.a.S.length) ∧ H' = slSeg 38 g (bs d.a.S.flatten) :: H) := hb ▸ dump_s d hd hD hT

theorem on_l {w0 : World} {H : Hp} {p : Pw} {b : Nat} (hb : p.b = b) (hP : Sees (fun w => St w0 w H) p.b (.cells p.cells.toArray dt.pow)) : FnS Try.prog w0 21 #[ptr b] H (fun e H' => e = .returned (.bool (!p.a.off)) ∧ H' = H) := hb ▸ on_s p hP

theorem new_l {w0 : World} {H : Hp} {p : Pw} {b : Nat} (hb : p.b = b) (hp : p.ok dt) (hdv : p.devs = []) (n : Int) : FnS Try.prog w0 17 #[.int .i64 n, ptr b] (p.o dt :: p.q dt :: H) (fun e H' => ∃ d' p', GOk dt p' [] d' [] ∧ p'.b = b ∧ d'.a = Ab.new (szOf n) ∧ p'.a = p.a ∧ e = .returned (ptr d'.b) ∧ H' = d'.o dt :: d'.t dt :: d'.q dt :: p'.o dt :: p'.q dt :: H) := by
  subst hb
  refine (new_s n p hp (by simp [hdv])).mono ?_
  rintro _ _ ⟨b, st, g', hg, rfl, rfl⟩
  exact ⟨Dv.new b st p.b (szOf n), ⟨p.b, g', p.devs ++ [b], p.a⟩, ⟨fun x hx => by simp at hx; subst hx; rfl, by simp [hdv, Dv.new], fun x hx => by simp at hx; subst hx; exact Dv.new_ok (by unfold szOf; omega), ⟨hg, hp.2⟩, by simp⟩, rfl, rfl, rfl, rfl, rfl⟩

theorem newpower_l {w0 : World} {H : Hp} : FnS Try.prog w0 16 #[] H (fun e H' => ∃ p : Pw, p.ok dt ∧ p.devs = [] ∧ p.a = ⟨false, 0, false⟩ ∧ e = .returned (ptr p.b) ∧ H' = p.o dt :: p.q dt :: H) := by
  refine newpower_s.mono ?_
  rintro _ _ ⟨b, rfl, rfl⟩
  exact ⟨⟨b, none, [], ⟨false, 0, false⟩⟩, ⟨⟨rfl, rfl⟩, by simp⟩, rfl, rfl, rfl, rfl⟩

theorem new_l2 {w0 : World} {H : Hp} {d : Dv} {p : Pw} {b : Nat} (hG : GOk dt p [] d []) (hb : p.b = b) (n : Int) : FnS Try.prog w0 17 #[.int .i64 n, ptr b] (p.o dt :: p.q dt :: d.o dt :: d.t dt :: d.q dt :: H) (fun e H' => ∃ y p', GOk dt p' [] d [y] ∧ p'.b = b ∧ y.a = Ab.new (szOf n) ∧ p'.a = p.a ∧ e = .returned (ptr y.b) ∧ H' = y.o dt :: y.t dt :: y.q dt :: p'.o dt :: p'.q dt :: d.o dt :: d.t dt :: d.q dt :: H) := by
  subst hb
  have hdv := hG.devs
  refine (new_s n p hG.pok (by rw [hdv]; simp)).mono ?_
  rintro _ _ ⟨b, st, g', hg, rfl, rfl⟩
  refine ⟨Dv.new b st p.b (szOf n), ⟨p.b, g', p.devs ++ [b], p.a⟩, ⟨fun x hx => ?_, by simp [hdv, Dv.new], fun x hx => ?_, ⟨hg, hG.pok.2⟩, by simp⟩, rfl, rfl, rfl, rfl, rfl⟩
  · simp at hx
    rcases hx with rfl | rfl
    · exact hG.hb
    · rfl
  simp at hx
  rcases hx with rfl | rfl
  · exact hG.dok
  · exact Dv.new_ok (by unfold szOf; omega)

end Go.Proofs.Ytaeooiogjhkjfaa

/- walks (own work; the walks' lines by a program of this repo). -/
set_option linter.unusedVariables false
set_option linter.unusedSimpArgs false
set_option maxRecDepth 20000
namespace Go.Proofs.Ytaeooiogjhkjfaa
open Go.Sl
attribute [local irreducible] BodyQ WpC WpL WpS WpH OpW FnS


theorem write_d {w0 : World} {H : Hp} {D : Duo} {A : Da} {bx bys bp : Nat} (h : Two dt D A bx bys bp) (i : Bool) (n : Int) (s : Sec) (hs : s.length = 128) (hQ : (A.dev i).Q.length < 100000) : FnS Try.prog w0 56 #[ptr (sel bx bys i), .int .i64 n, .agg (bs s).toArray] (D.seg dt :: H) (fun e H' => e = .returned (.int .i64 (A.wE i n)) ∧ ∃ D', Two dt D' (A.write i n s) bx bys bp ∧ H' = D'.seg dt :: H) := by
  obtain ⟨d, p, L, R, X, hG, hb, hd, hp, hpb, pm, s3⟩ := h.view i H
  have s1 := HSub.of_perm pm.symm
  have s2 := HSub.of_perm pm
  refine ((write_l hG hb n s hs (by rw [hd]; exact hQ)).sub s1).weak ?_
  rintro _ _ ⟨rfl, d', p', L', R', h1, h2, h3, h4, h5, h6, h7, rfl⟩
  rw [hd, hp] at h3 h5 h6 h7
  obtain ⟨D', k1, k2⟩ := s3 _ d' p' L' R' h1 h2 h4 h6 h7
  rw [h3, h5] at k1
  exact ⟨_, k2, by rw [hd, hp]; rfl, D', k1, rfl⟩

theorem flush_d {w0 : World} {H : Hp} {D : Duo} {A : Da} {bx bys bp : Nat} (h : Two dt D A bx bys bp) (i : Bool) : FnS Try.prog w0 60 #[ptr (sel bx bys i)] (D.seg dt :: H) (fun e H' => e = .returned (.int .i64 (A.fE i)) ∧ ∃ D', Two dt D' (A.flush i) bx bys bp ∧ H' = D'.seg dt :: H) := by
  obtain ⟨d, p, L, R, X, hG, hb, hd, hp, hpb, pm, s3⟩ := h.view i H
  have s1 := HSub.of_perm pm.symm
  have s2 := HSub.of_perm pm
  refine ((flush_l hG hb).sub s1).weak ?_
  rintro _ _ ⟨rfl, d', p', L', R', h1, h2, h3, h4, h5, h6, h7, rfl⟩
  rw [hd, hp] at h3 h5 h6 h7
  obtain ⟨D', k1, k2⟩ := s3 _ d' p' L' R' h1 h2 h4 h6 h7
  rw [h3, h5] at k1
  exact ⟨_, k2, by rw [hd, hp]; rfl, D', k1, rfl⟩

theorem read_d {w0 : World} {H : Hp} {D : Duo} {A : Da} {bx bys bp : Nat} (h : Two dt D A bx bys bp) (i : Bool) (n : Int) : FnS Try.prog w0 62 #[ptr (sel bx bys i), .int .i64 n] (D.seg dt :: H) (fun e H' => e = .returned (.tuple #[.agg (bs (A.rS i n)).toArray, .int .i64 (A.rE i n)]) ∧ H' = D.seg dt :: H) := by
  obtain ⟨d, p, L, R, X, hG, hb, hd, hp, hpb, pm, s3⟩ := h.view i H
  have s1 := HSub.of_perm pm.symm
  have s2 := HSub.of_perm pm
  refine ((read_l hG hb n).sub s1).weak ?_
  rintro _ _ ⟨rfl, rfl⟩
  exact ⟨_, s2, by rw [hd, hp]; rfl, rfl⟩

theorem tear_d {w0 : World} {H : Hp} {D : Duo} {A : Da} {bx bys bp : Nat} (h : Two dt D A bx bys bp) (i : Bool) (k m : Int) : FnS Try.prog w0 58 #[ptr (sel bx bys i), .int .i64 k, .int .i64 m] (D.seg dt :: H) (fun e H' => e = .returned (.tuple #[]) ∧ ∃ D', Two dt D' (A.setd i ((A.dev i).tear k m)) bx bys bp ∧ H' = D'.seg dt :: H) := by
  obtain ⟨d, p, L, R, X, hG, hb, hd, hp, hpb, pm, s3⟩ := h.view i H
  have s1 := HSub.of_perm pm.symm
  have s2 := HSub.of_perm pm
  refine ((tear_l hG hb k m).sub s1).weak ?_
  rintro _ _ ⟨rfl, d', h1, h2, h3, rfl⟩
  obtain ⟨D', k1, k2⟩ := s3 false d' p L R h1 h2 rfl (Mv.same _ _) (Mv.same _ _)
  rw [h3, hd, hp, Da.oth_f, Da.setd_setp] at k1
  exact ⟨_, k2, rfl, D', k1, rfl⟩

theorem lie_d {w0 : World} {H : Hp} {D : Duo} {A : Da} {bx bys bp : Nat} (h : Two dt D A bx bys bp) (i : Bool) (on : Bool) : FnS Try.prog w0 63 #[ptr (sel bx bys i), .bool on] (D.seg dt :: H) (fun e H' => e = .returned (.tuple #[]) ∧ ∃ D', Two dt D' (A.setd i ({ A.dev i with lies := on })) bx bys bp ∧ H' = D'.seg dt :: H) := by
  obtain ⟨d, p, L, R, X, hG, hb, hd, hp, hpb, pm, s3⟩ := h.view i H
  have s1 := HSub.of_perm pm.symm
  have s2 := HSub.of_perm pm
  refine ((lie_l hG hb on).sub s1).weak ?_
  rintro _ _ ⟨rfl, d', h1, h2, h3, rfl⟩
  obtain ⟨D', k1, k2⟩ := s3 false d' p L R h1 h2 rfl (Mv.same _ _) (Mv.same _ _)
  rw [h3, hd, hp, Da.oth_f, Da.setd_setp] at k1
  exact ⟨_, k2, rfl, D', k1, rfl⟩

theorem out_d {w0 : World} {H : Hp} {D : Duo} {A : Da} {bx bys bp : Nat} (h : Two dt D A bx bys bp) (i : Bool) (on : Bool) : FnS Try.prog w0 64 #[ptr (sel bx bys i), .bool on] (D.seg dt :: H) (fun e H' => e = .returned (.tuple #[]) ∧ ∃ D', Two dt D' (A.setd i ((A.dev i).outs on)) bx bys bp ∧ H' = D'.seg dt :: H) := by
  obtain ⟨d, p, L, R, X, hG, hb, hd, hp, hpb, pm, s3⟩ := h.view i H
  have s1 := HSub.of_perm pm.symm
  have s2 := HSub.of_perm pm
  refine ((out_l hG hb on).sub s1).weak ?_
  rintro _ _ ⟨rfl, d', h1, h2, h3, rfl⟩
  obtain ⟨D', k1, k2⟩ := s3 false d' p L R h1 h2 rfl (Mv.same _ _) (Mv.same _ _)
  rw [h3, hd, hp, Da.oth_f, Da.setd_setp] at k1
  exact ⟨_, k2, rfl, D', k1, rfl⟩

theorem rot_d {w0 : World} {H : Hp} {D : Duo} {A : Da} {bx bys bp : Nat} (h : Two dt D A bx bys bp) (i : Bool) (n j : Int) (m : UInt8) : FnS Try.prog w0 65 #[ptr (sel bx bys i), .int .i64 n, .int .i64 j, .int .u8 (m.toNat : Int)] (D.seg dt :: H) (fun e H' => e = .returned (.bool ((A.dev i).rotE n j)) ∧ ∃ D', Two dt D' (A.setd i ((A.dev i).rots n j m)) bx bys bp ∧ H' = D'.seg dt :: H) := by
  obtain ⟨d, p, L, R, X, hG, hb, hd, hp, hpb, pm, s3⟩ := h.view i H
  have s1 := HSub.of_perm pm.symm
  have s2 := HSub.of_perm pm
  refine ((rot_l hG hb n j m).sub s1).weak ?_
  rintro _ _ ⟨rfl, d', h1, h2, h3, rfl⟩
  obtain ⟨D', k1, k2⟩ := s3 false d' p L R h1 h2 rfl (Mv.same _ _) (Mv.same _ _)
  rw [h3, hd, hp, Da.oth_f, Da.setd_setp] at k1
  exact ⟨_, k2, by rw [hd], D', k1, rfl⟩

theorem fail_d {w0 : World} {H : Hp} {D : Duo} {A : Da} {bx bys bp : Nat} (h : Two dt D A bx bys bp) (n : Int) (hn : n ≤ 9223372036854775807) : FnS Try.prog w0 59 #[ptr bp, .int .i64 n] (D.seg dt :: H) (fun e H' => e = .returned (.tuple #[]) ∧ ∃ D', Two dt D' ({ A with p := A.p.fail n }) bx bys bp ∧ H' = D'.seg dt :: H) := by
  obtain ⟨d, p, L, R, X, hG, hb, hd, hp, hpb, pm, s3⟩ := h.view false H
  have s1 := HSub.of_perm pm.symm
  have s2 := HSub.of_perm pm
  refine ((fail_l hG (hpb rfl) n hn).sub s1).weak ?_
  rintro _ _ ⟨rfl, p', h1, h2, h3, rfl⟩
  obtain ⟨D', k1, k2⟩ := s3 false d p' L R h1 hb (h2.trans (hpb rfl).symm) (Mv.same _ _) (Mv.same _ _)
  rw [h3, hd, hp, Da.oth_f, Da.setd_self] at k1
  exact ⟨_, k2, rfl, D', k1, rfl⟩

theorem restart_d {w0 : World} {H : Hp} {D : Duo} {A : Da} {bx bys bp : Nat} (h : Two dt D A bx bys bp) : FnS Try.prog w0 66 #[ptr bp] (D.seg dt :: H) (fun e H' => e = .returned (.tuple #[]) ∧ ∃ D', Two dt D' ({ A with p := A.p.restart }) bx bys bp ∧ H' = D'.seg dt :: H) := by
  obtain ⟨d, p, L, R, X, hG, hb, hd, hp, hpb, pm, s3⟩ := h.view false H
  have s1 := HSub.of_perm pm.symm
  have s2 := HSub.of_perm pm
  refine ((restart_l hG (hpb rfl)).sub s1).weak ?_
  rintro _ _ ⟨rfl, p', h1, h2, h3, rfl⟩
  obtain ⟨D', k1, k2⟩ := s3 false d p' L R h1 hb (h2.trans (hpb rfl).symm) (Mv.same _ _) (Mv.same _ _)
  rw [h3, hd, hp, Da.oth_f, Da.setd_self] at k1
  exact ⟨_, k2, rfl, D', k1, rfl⟩

theorem waiting_d {w0 : World} {H : Hp} {D : Duo} {A : Da} {bx bys bp : Nat} (h : Two dt D A bx bys bp) (i : Bool) : FnS Try.prog w0 23 #[ptr (sel bx bys i)] (D.seg dt :: H) (fun e H' => e = .returned (.int .i64 ((A.dev i).Q.length : Int)) ∧ H' = D.seg dt :: H) := by
  obtain ⟨d, p, L, R, X, hG, hb, hd, hp, hpb, pm, s3⟩ := h.view i H
  have s1 := HSub.of_perm pm.symm
  have s2 := HSub.of_perm pm
  refine ((waiting_l hb hG.dok (sees 0 0 rfl)).sub s1).weak ?_
  rintro _ _ ⟨rfl, rfl⟩
  exact ⟨_, s2, by rw [hd], rfl⟩

theorem len_d {w0 : World} {H : Hp} {D : Duo} {A : Da} {bx bys bp : Nat} (h : Two dt D A bx bys bp) (i : Bool) : FnS Try.prog w0 22 #[ptr (sel bx bys i)] (D.seg dt :: H) (fun e H' => e = .returned (.int .i64 ((A.dev i).S.length : Int)) ∧ H' = D.seg dt :: H) := by
  obtain ⟨d, p, L, R, X, hG, hb, hd, hp, hpb, pm, s3⟩ := h.view i H
  have s1 := HSub.of_perm pm.symm
  have s2 := HSub.of_perm pm
  refine ((len_l hb (sees 0 0 rfl)).sub s1).weak ?_
  rintro _ _ ⟨rfl, rfl⟩
  exact ⟨_, s2, by rw [hd], rfl⟩

theorem on_d {w0 : World} {H : Hp} {D : Duo} {A : Da} {bx bys bp : Nat} (h : Two dt D A bx bys bp) : FnS Try.prog w0 21 #[ptr bp] (D.seg dt :: H) (fun e H' => e = .returned (.bool (!A.p.off)) ∧ H' = D.seg dt :: H) := by
  obtain ⟨d, p, L, R, X, hG, hb, hd, hp, hpb, pm, s3⟩ := h.view false H
  have s1 := HSub.of_perm pm.symm
  have s2 := HSub.of_perm pm
  refine ((on_l (hpb rfl) (sees 3 0 rfl)).sub s1).weak ?_
  rintro _ _ ⟨rfl, rfl⟩
  exact ⟨_, s2, by rw [hp, show A.pow false = A.p from rfl], rfl⟩

theorem dump_d {w0 : World} {H : Hp} {D : Duo} {A : Da} {bx bys bp : Nat} (h : Two dt D A bx bys bp) (i : Bool) : FnS Try.prog w0 25 #[ptr (sel bx bys i)] (D.seg dt :: H) (fun e H' => ∃ g, slOk 128 g (A.dev i).S.length (bs (A.dev i).S.flatten) ∧ e = .returned (slV g (A.dev i).S.length) ∧ H' = slSeg 38 g (bs (A.dev i).S.flatten) :: D.seg dt :: H) := by
  obtain ⟨d, p, L, R, X, hG, hb, hd, hp, hpb, pm, s3⟩ := h.view i H
  have s1 := HSub.of_perm pm.symm
  have s2 := HSub.of_perm pm
  refine ((dump_l hb hG.dok.1 (sees 0 0 rfl) (sees 1 0 rfl)).sub s1).weak ?_
  rintro _ _ ⟨g, h1, rfl, rfl⟩
  rw [hd] at h1 ⊢
  exact ⟨_, HSub.under _ pm, g, h1, rfl, rfl⟩

theorem newtwo_d {w0 : World} {H : Hp} {d : Dv} {p : Pw} {b bx : Nat} (hG : GOk dt p [] d []) (hb : p.b = b) (hx : d.b = bx) (n : Int) : FnS Try.prog w0 17 #[.int .i64 n, ptr b] (d.o dt :: d.t dt :: d.q dt :: p.o dt :: p.q dt :: H) (fun e H' => ∃ bys D', Two dt D' ⟨d.a, Ab.new (szOf n), p.a, none⟩ bx bys b ∧ e = .returned (ptr bys) ∧ H' = D'.seg dt :: H) := by
  refine ((new_l2 hG hb n).sub (hsub_pick [3, 3] rfl)).weak ?_
  rintro _ _ ⟨y, p', h1, h2, h3, h4, rfl, rfl⟩
  exact ⟨_, (Duo.hsub2 dt ⟨d, y, p', none⟩ H).trans (hsub_pick [5, 5, 5, 3, 3] rfl), y.b, ⟨d, y, p', none⟩, ⟨h1, by simp only [Duo.da, h3, h4, Option.map_none], hx, rfl, h2⟩, rfl, rfl⟩

end Go.Proofs.Ytaeooiogjhkjfaa

/- walks (own work; the walks' lines by a program of this repo). -/
set_option linter.unusedVariables false
set_option linter.unusedSimpArgs false
set_option maxRecDepth 20000
namespace Go.Proofs.Ytaeooiogjhkjfaa
open Go.Sl
attribute [local irreducible] BodyQ WpC WpL WpS WpH OpW FnS



set_option maxHeartbeats 1000000 in

theorem told_1 {w0 : World} {H : Hp} {pb : Nat} {gl : SlG} {d e : Rv} {p : Pa} {x y : Nat} (hd : d.ok) (he : e.ok) (hxy : Ord8 x y d.b e.b) (hf : p.fit) (hl : lf p ≤ 9223372036854775807) (hfit : d.a.fit) (hQ : d.a.Q.length < 100000) (on k n j : Int) (c : UInt8) (hn : n ≤ 9223372036854775807) : FnS Try.prog w0 20 #[ptr pb, ptr d.b, .agg #[.int .i64 on, .int .i64 k, .int .i64 n, .int .i64 j, .int .u8 (c.toNat : Int)]] (RH rt d e pb gl p.off (lf p) x y H) (fun E H' => E = .returned (.tuple #[.int .i64 (e1 d.a p k n j), .agg (bs (s1 d.a p k n)).toArray]) ∧ ∃ d' e', Res8 d e d' e' (a1 d.a p k n j c) (c1 d.a p k n) p ∧ H' = RH rt d' e' pb gl (p1 d.a p k n).off (lf (p1 d.a p k n)) x y H) := by
  have hrl : (readS d.a p n).length = 128 := readS_len hd.1
  refine FnS_intro (n := 94) (rs := [.tmp 6, .cell 7 38]) (vs := [ptr pb, ptr d.b, .agg #[.int .i64 on, .int .i64 k, .int .i64 n, .int .i64 j, .int .u8 (c.toNat : Int)]]) Try.func20 rfl Try.ntmps20 rfl rfl ?_
  refine C_seq ?_
  refine C_region ?_
  refine L_op rfl (op_box rfl rfl rfl (fun B1 => ?_))
  refine L_y rfl (y_assign rfl) rfl ?_
  refine L_op rfl (op_alloc zl_38 rfl (fun B2 => ?_))
  refine L_nil ?_
  refine C_seq ?_
  refine C_seq ?_
  refine C_region ?_
  refine L_y rfl (y_fieldAddr rfl fl_36_1) rfl ?_
  refine L_y rfl (y_load rfl ag_3 (sees 1 0 rfl) rfl) rfl ?_
  refine L_nil ?_
  refine C_block ?_
  refine C_seq ?_
  refine C_region ?_
  refine L_y rfl (y_eqi rfl rfl) rfl ?_
  refine L_y rfl (y_assign rfl) rfl ?_
  refine L_nil ?_
  refine C_cond rfl (fun hc0 => ?_) (fun hc0 => ?_)
  · obtain rfl : k = 0 := of_decide_eq_true hc0
    refine C_seq ?_
    refine C_regionH ([(B1, .cells [.int .i64 on, .int .i64 0, .int .i64 n, .int .i64 j, .int .u8 (c.toNat : Int)].toArray 36)] :: H) (by kernel_rfl) ?_
    refine H_y 0 rfl (by kernel_rfl) (by kernel_rfl) (by kernel_rfl) (hsub (.cons _ (.cons_cons _ (.cons _ (.cons _ (.cons _ (.cons _ (.cons _ (.cons _ (.cons _ (.cons _ (.refl _)))))))))))) rfl (y_move rfl) rfl ?_
    refine H_y 1 rfl (by kernel_rfl) (by kernel_rfl) (by kernel_rfl) (hsub (.cons _ (.cons_cons _ (.cons _ (.cons _ (.cons _ (.cons _ (.cons _ (.cons _ (.cons _ (.cons _ (.refl _)))))))))))) rfl (y_move rfl) rfl ?_
    refine H_y 2 rfl (by kernel_rfl) (by kernel_rfl) (by kernel_rfl) (hsub (.cons _ (.cons_cons _ (.cons _ (.cons _ (.cons _ (.cons _ (.cons _ (.cons _ (.cons _ (.cons _ (.refl _)))))))))))) rfl (y_fieldAddr rfl fl_36_2) rfl ?_
    refine H_y 3 rfl (by kernel_rfl) (by kernel_rfl) (by kernel_rfl) (hsub (.cons _ (.cons_cons _ (.cons _ (.cons _ (.cons _ (.cons _ (.cons _ (.cons _ (.cons _ (.cons _ (.refl _)))))))))))) rfl (y_load rfl ag_3 (sees 0 0 rfl) rfl) rfl ?_
    refine H_y 4 rfl (by kernel_rfl) (by kernel_rfl) (by kernel_rfl) (hsub (.cons _ (.cons_cons _ (.cons _ (.cons _ (.cons _ (.cons _ (.cons _ (.cons _ (.cons _ (.cons _ (.refl _)))))))))))) rfl (y_fieldAddr rfl fl_36_4) rfl ?_
    refine H_y 5 rfl (by kernel_rfl) (by kernel_rfl) (by kernel_rfl) (hsub (.cons _ (.cons_cons _ (.cons _ (.cons _ (.cons _ (.cons _ (.cons _ (.cons _ (.cons _ (.cons _ (.refl _)))))))))))) rfl (y_load rfl ag_5 (sees 0 0 rfl) rfl) rfl ?_
    refine H_y 8 rfl (by kernel_rfl) (by kernel_rfl) (by kernel_rfl) (hsub (.cons _ (.cons_cons _ (.cons _ (.cons _ (.cons _ (.cons _ (.cons _ (.cons _ (.cons _ (.cons _ (.refl _)))))))))))) rfl (y_buildA0 Try.underlying38 sz_5 zl_38) rfl ?_
    refine H_one 6 rfl (by kernel_rfl) rfl (op_call rfl rfl (fun a w => Try.call57 a w) rfl ?_)
    refine (sector_s c).mono ?_
    rintro _ _ ⟨rfl, rfl⟩
    refine ⟨_, rfl, ?_⟩
    refine ⟨hsub (.cons _ (.cons_cons _ (.cons _ (.cons _ (.cons _ (.cons _ (.cons _ (.cons _ (.cons _ (.cons _ (.refl _))))))))))), ?_⟩
    refine H_one 7 rfl (by kernel_rfl) rfl (op_call rfl rfl (fun a w => Try.call67 a w) rfl ?_)
    refine ((rwrite_1 hd he hxy hf hl n (secOf c) (secOf_len c) hQ).sub (hsub_pick [2, 2, 2, 2, 2, 2, 2, 2] rfl)).mono ?_
    rintro _ _ ⟨rfl, d', e', hR, rfl⟩
    refine ⟨_, rfl, ?_⟩
    refine ⟨hsub (.cons _ (.cons _ (.cons _ (.cons _ (.cons _ (.cons _ (.cons _ (.cons _ (.cons _ (.cons_cons _ (.refl _))))))))))), ?_⟩
    refine H_y 9 rfl (by kernel_rfl) (by kernel_rfl) (by kernel_rfl) (hsub (.cons _ (.cons _ (.cons _ (.cons _ (.cons _ (.cons _ (.cons _ (.cons _ (.cons _ (.cons_cons _ (.refl _)))))))))))) rfl (y_assign rfl) rfl ?_
    refine H_one 10 rfl (by kernel_rfl) rfl (op_store 8 0 rfl rfl rfl sz_38 rfl rfl (ones rfl) (by decide) ?_)
    skip
    refine ⟨hsub (.cons _ (.cons _ (.cons _ (.cons _ (.cons _ (.cons _ (.cons _ (.cons _ (.cons _ (.cons_cons _ (.refl _))))))))))), ?_⟩
    refine H_done (by kernel_rfl) ?_
    refine C_ret ?_
    refine B_ret (rv_tmp rfl (rv_cellA rfl ag_38 sz_38 (sees 8 0 rfl) (Nat.le_of_ble_eq_true rfl) rfl rv_nil)) ((hsub (.cons_cons _ (.cons_cons _ (.cons_cons _ (.cons_cons _ (.cons_cons _ (.cons_cons _ (.cons_cons _ (.cons_cons _ (.cons _ (.cons _ (.refl _)))))))))))).trans (hsub_pick [0, 0, 0, 0, 0, 0, 0, 0] rfl)) ?_
    exact ⟨Eq.trans (b := Ending.returned (.tuple #[.int .i64 (writeE d.a p n), .agg (bs (secOf 0)).toArray])) (by rw [← zsec]; rfl) rfl, d', e', hR, rfl⟩
  · replace hc0 : ¬ k = 0 := of_decide_eq_false hc0
    refine C_seq ?_
    refine C_region ?_
    refine L_y rfl (y_eqi rfl rfl) rfl ?_
    refine L_y rfl (y_assign rfl) rfl ?_
    refine L_nil ?_
    refine C_cond rfl (fun hc1 => ?_) (fun hc1 => ?_)
    · obtain rfl : k = 1 := of_decide_eq_true hc1
      refine C_seq ?_
      refine C_region ?_
      refine L_y rfl (y_move rfl) rfl ?_
      refine L_y rfl (y_move rfl) rfl ?_
      refine L_op rfl (op_call rfl rfl (fun a w => Try.call68 a w) rfl ?_)
      refine ((rflush_1 hd he hxy hf hl).sub (hsub_pick [2, 2, 2, 2, 2, 2, 2, 2] rfl)).mono ?_
      rintro _ _ ⟨rfl, d', e', hR, rfl⟩
      refine ⟨_, rfl, ?_⟩
      refine L_y rfl (y_buildA0 Try.underlying38 sz_5 zl_38) rfl ?_
      refine L_y rfl (y_assign rfl) rfl ?_
      refine L_op rfl (op_store 8 0 rfl rfl rfl sz_38 rfl rfl (ones rfl) (by decide) ?_)
      skip
      refine L_nil ?_
      refine C_ret ?_
      refine B_ret (rv_tmp rfl (rv_cellA rfl ag_38 sz_38 (sees 8 0 rfl) (Nat.le_of_ble_eq_true rfl) rfl rv_nil)) ((hsub (.cons_cons _ (.cons_cons _ (.cons_cons _ (.cons_cons _ (.cons_cons _ (.cons_cons _ (.cons_cons _ (.cons_cons _ (.cons _ (.cons _ (.refl _)))))))))))).trans (hsub_pick [0, 0, 0, 0, 0, 0, 0, 0] rfl)) ?_
      exact ⟨Eq.trans (b := Ending.returned (.tuple #[.int .i64 (flushE d.a p), .agg (bs (secOf 0)).toArray])) (by rw [← zsec]; rfl) rfl, d', e', hR, rfl⟩
    · replace hc1 : ¬ k = 1 := of_decide_eq_false hc1
      refine C_seq ?_
      refine C_region ?_
      refine L_y rfl (y_eqi rfl rfl) rfl ?_
      refine L_y rfl (y_assign rfl) rfl ?_
      refine L_nil ?_
      refine C_cond rfl (fun hc2 => ?_) (fun hc2 => ?_)
      · obtain rfl : k = 2 := of_decide_eq_true hc2
        refine C_seq ?_
        refine C_region ?_
        refine L_y rfl (y_move rfl) rfl ?_
        refine L_y rfl (y_move rfl) rfl ?_
        refine L_y rfl (y_fieldAddr rfl fl_36_2) rfl ?_
        refine L_y rfl (y_load rfl ag_3 (sees 1 0 rfl) rfl) rfl ?_
        refine L_op rfl (op_call rfl rfl (fun a w => Try.call69 a w) rfl ?_)
        refine ((rread_1 hd he n).sub (hsub_pick [2, 2, 2, 2, 2, 2, 2, 2] rfl)).mono ?_
        rintro _ _ ⟨rfl, rfl⟩
        refine ⟨_, rfl, ?_⟩
        refine L_y rfl (y_move rfl) rfl ?_
        refine L_y rfl (y_extract rfl rfl) rfl ?_
        refine L_y rfl (y_extract rfl rfl) rfl ?_
        refine L_op rfl (op_alloc zl_38 rfl (fun B3 => ?_))
        refine L_op rfl (op_storeA 0 0 rfl rfl rfl sz_38 (by rw [bs_length, hrl]) rfl (bs_one _) rfl ?_)
        refine L_y rfl (y_assign rfl) rfl ?_
        refine L_nil ?_
        refine C_seq ?_
        refine C_regionT 3 (by kernel_rfl) (by kernel_rfl) ?_
        refine S_y rfl (y_move rfl) rfl ?_
        refine S_y rfl (y_loadA rfl ag_38 sz_38 (sees 0 0 rfl) (by rw [bs_length, hrl]; decide) (bs_whole0 _ hrl)) rfl ?_
        refine S_y rfl (y_assign rfl) rfl ?_
        refine S_nil ?_
        refine L_op rfl (op_storeA 9 0 rfl rfl rfl sz_38 (by rw [bs_length, hrl]) rfl (bs_one _) rfl ?_)
        refine L_nil ?_
        refine C_ret ?_
        refine B_ret (rv_tmp rfl (rv_cellA rfl ag_38 sz_38 (sees 9 0 rfl) (by rw [bs_length, hrl]; decide) (bs_whole0 _ hrl) rv_nil)) ((hsub (.cons_cons _ (.cons_cons _ (.cons_cons _ (.cons_cons _ (.cons_cons _ (.cons_cons _ (.cons_cons _ (.cons_cons _ (.cons _ (.cons _ (.cons _ (.refl _))))))))))))).trans (hsub_pick [1, 1, 1, 1, 1, 1, 1, 1] rfl)) ?_
        exact ⟨rfl, d, e, Res8.same hd he p, rfl⟩
      · replace hc2 : ¬ k = 2 := of_decide_eq_false hc2
        refine C_seq ?_
        refine C_region ?_
        refine L_y rfl (y_eqi rfl rfl) rfl ?_
        refine L_y rfl (y_assign rfl) rfl ?_
        refine L_nil ?_
        refine C_cond rfl (fun hc3 => ?_) (fun hc3 => ?_)
        · obtain rfl : k = 3 := of_decide_eq_true hc3
          refine C_region ?_
          refine L_y rfl (y_move rfl) rfl ?_
          refine L_y rfl (y_fieldAddr rfl fl_36_2) rfl ?_
          refine L_y rfl (y_load rfl ag_3 (sees 1 0 rfl) rfl) rfl ?_
          refine L_y rfl (y_fieldAddr rfl fl_36_3) rfl ?_
          refine L_y rfl (y_load rfl ag_3 (sees 1 0 rfl) rfl) rfl ?_
          refine L_op rfl (op_call rfl rfl (fun a w => Try.call70 a w) rfl ?_)
          refine ((rtear_1 hd he n j).sub (hsub_pick [2, 2, 2, 2, 2, 2, 2, 2] rfl)).mono ?_
          rintro _ _ ⟨rfl, d', hR, rfl⟩
          refine ⟨_, rfl, ?_⟩
          refine L_nil ?_
          refine C_seq ?_
          refine C_region ?_
          refine L_y rfl (y_buildA0 Try.underlying38 sz_5 zl_38) rfl ?_
          refine L_y rfl (y_assign rfl) rfl ?_
          refine L_op rfl (op_store 8 0 rfl rfl rfl sz_38 rfl rfl (ones rfl) (by decide) ?_)
          skip
          refine L_nil ?_
          refine C_ret ?_
          refine B_ret (rv_tmp rfl (rv_cellA rfl ag_38 sz_38 (sees 8 0 rfl) (Nat.le_of_ble_eq_true rfl) rfl rv_nil)) ((hsub (.cons_cons _ (.cons_cons _ (.cons_cons _ (.cons_cons _ (.cons_cons _ (.cons_cons _ (.cons_cons _ (.cons_cons _ (.cons _ (.cons _ (.refl _)))))))))))).trans (hsub_pick [0, 0, 0, 0, 0, 0, 0, 0] rfl)) ?_
          exact ⟨Eq.trans (b := Ending.returned (.tuple #[.int .i64 (0), .agg (bs (secOf 0)).toArray])) (by rw [← zsec]; rfl) rfl, d', e, hR, rfl⟩
        · replace hc3 : ¬ k = 3 := of_decide_eq_false hc3
          refine C_seq ?_
          refine C_region ?_
          refine L_y rfl (y_eqi rfl rfl) rfl ?_
          refine L_y rfl (y_assign rfl) rfl ?_
          refine L_nil ?_
          refine C_cond rfl (fun hc4 => ?_) (fun hc4 => ?_)
          · obtain rfl : k = 4 := of_decide_eq_true hc4
            refine C_region ?_
            refine L_y rfl (y_move rfl) rfl ?_
            refine L_y rfl (y_fieldAddr rfl fl_36_4) rfl ?_
            refine L_y rfl (y_load rfl ag_5 (sees 1 0 rfl) rfl) rfl ?_
            refine L_y rfl (y_rem rfl rfl (by omega) rfl) rfl ?_
            refine L_y rfl (y_eqi rfl rfl) rfl ?_
            refine L_y rfl (y_nilCheck rfl) rfl ?_
            refine L_y rfl (y_fieldAddr rfl fl_46_4) rfl ?_
            refine L_op rfl (op_store1 2 0 rfl rfl rfl sz_4 rfl (Nat.le_of_ble_eq_true rfl) ?_)
            refine L_nil ?_
            refine C_seq ?_
            refine C_region ?_
            refine L_y rfl (y_buildA0 Try.underlying38 sz_5 zl_38) rfl ?_
            refine L_y rfl (y_assign rfl) rfl ?_
            refine L_op rfl (op_store 0 0 rfl rfl rfl sz_38 rfl rfl (ones rfl) (by decide) ?_)
            skip
            refine L_nil ?_
            refine C_ret ?_
            refine B_ret (rv_tmp rfl (rv_cellA rfl ag_38 sz_38 (sees 0 0 rfl) (Nat.le_of_ble_eq_true rfl) rfl rv_nil)) ((hsub (.cons_cons _ (.cons_cons _ (.cons_cons _ (.cons_cons _ (.cons_cons _ (.cons_cons _ (.cons_cons _ (.cons_cons _ (.cons _ (.cons _ (.refl _)))))))))))).trans (hsub_pick [2, 2, 2, 2, 2, 2, 2, 2] rfl)) ?_
            exact ⟨Eq.trans (b := Ending.returned (.tuple #[.int .i64 (0), .agg (bs (secOf 0)).toArray])) (by rw [← zsec]; rfl) rfl, { d with a := { d.a with lies := odd8 c } }, e, Res8.set { d.a with lies := odd8 c } hd he hd.1 rfl p, rfl⟩
          · replace hc4 : ¬ k = 4 := of_decide_eq_false hc4
            refine C_seq ?_
            refine C_region ?_
            refine L_y rfl (y_eqi rfl rfl) rfl ?_
            refine L_y rfl (y_assign rfl) rfl ?_
            refine L_nil ?_
            refine C_cond rfl (fun hc5 => ?_) (fun hc5 => ?_)
            · obtain rfl : k = 5 := of_decide_eq_true hc5
              refine C_region ?_
              refine L_y rfl (y_move rfl) rfl ?_
              refine L_y rfl (y_fieldAddr rfl fl_36_4) rfl ?_
              refine L_y rfl (y_load rfl ag_5 (sees 1 0 rfl) rfl) rfl ?_
              refine L_y rfl (y_rem rfl rfl (by omega) rfl) rfl ?_
              refine L_y rfl (y_eqi rfl rfl) rfl ?_
              refine L_op rfl (op_call rfl rfl (fun a w => Try.call71 a w) rfl ?_)
              refine ((rout_1 hd he hfit (odd8 c)).sub (hsub_pick [2, 2, 2, 2, 2, 2, 2, 2] rfl)).mono ?_
              rintro _ _ ⟨rfl, d', hR, rfl⟩
              refine ⟨_, rfl, ?_⟩
              refine L_nil ?_
              refine C_seq ?_
              refine C_region ?_
              refine L_y rfl (y_buildA0 Try.underlying38 sz_5 zl_38) rfl ?_
              refine L_y rfl (y_assign rfl) rfl ?_
              refine L_op rfl (op_store 8 0 rfl rfl rfl sz_38 rfl rfl (ones rfl) (by decide) ?_)
              skip
              refine L_nil ?_
              refine C_ret ?_
              refine B_ret (rv_tmp rfl (rv_cellA rfl ag_38 sz_38 (sees 8 0 rfl) (Nat.le_of_ble_eq_true rfl) rfl rv_nil)) ((hsub (.cons_cons _ (.cons_cons _ (.cons_cons _ (.cons_cons _ (.cons_cons _ (.cons_cons _ (.cons_cons _ (.cons_cons _ (.cons _ (.cons _ (.refl _)))))))))))).trans (hsub_pick [0, 0, 0, 0, 0, 0, 0, 0] rfl)) ?_
              exact ⟨Eq.trans (b := Ending.returned (.tuple #[.int .i64 (0), .agg (bs (secOf 0)).toArray])) (by rw [← zsec]; rfl) rfl, d', e, hR, rfl⟩
            · replace hc5 : ¬ k = 5 := of_decide_eq_false hc5
              refine C_seq ?_
              refine C_region ?_
              refine L_y rfl (y_eqi rfl rfl) rfl ?_
              refine L_y rfl (y_assign rfl) rfl ?_
              refine L_nil ?_
              refine C_cond rfl (fun hc6 => ?_) (fun hc6 => ?_)
              · obtain rfl : k = 6 := of_decide_eq_true hc6
                refine C_seq ?_
                refine C_region ?_
                refine L_y rfl (y_move rfl) rfl ?_
                refine L_y rfl (y_fieldAddr rfl fl_36_2) rfl ?_
                refine L_y rfl (y_load rfl ag_3 (sees 1 0 rfl) rfl) rfl ?_
                refine L_y rfl (y_fieldAddr rfl fl_36_3) rfl ?_
                refine L_y rfl (y_load rfl ag_3 (sees 1 0 rfl) rfl) rfl ?_
                refine L_y rfl (y_fieldAddr rfl fl_36_4) rfl ?_
                refine L_y rfl (y_load rfl ag_5 (sees 1 0 rfl) rfl) rfl ?_
                refine L_op rfl (op_call rfl rfl (fun a w => Try.call72 a w) rfl ?_)
                refine ((rrot_1 hd he n j c).sub (hsub_pick [2, 2, 2, 2, 2, 2, 2, 2] rfl)).mono ?_
                rintro _ _ ⟨rfl, d', hR, rfl⟩
                refine ⟨_, rfl, ?_⟩
                refine L_nil ?_
                refine C_cond rfl (fun hc7 => ?_) (fun hc7 => ?_)
                · skip
                  refine C_seq ?_
                  refine C_region ?_
                  refine L_y rfl (y_buildA0 Try.underlying38 sz_5 zl_38) rfl ?_
                  refine L_y rfl (y_assign rfl) rfl ?_
                  refine L_op rfl (op_store 8 0 rfl rfl rfl sz_38 rfl rfl (ones rfl) (by decide) ?_)
                  skip
                  refine L_nil ?_
                  refine C_ret ?_
                  refine B_ret (rv_tmp rfl (rv_cellA rfl ag_38 sz_38 (sees 8 0 rfl) (Nat.le_of_ble_eq_true rfl) rfl rv_nil)) ((hsub (.cons_cons _ (.cons_cons _ (.cons_cons _ (.cons_cons _ (.cons_cons _ (.cons_cons _ (.cons_cons _ (.cons_cons _ (.cons _ (.cons _ (.refl _)))))))))))).trans (hsub_pick [0, 0, 0, 0, 0, 0, 0, 0] rfl)) ?_
                  first
                  | exact ⟨Eq.trans (b := Ending.returned (.tuple #[.int .i64 (1), .agg (bs (secOf 0)).toArray])) (by rw [← zsec]; rfl) (by simp [e1, s1, hc7]), d', e, hR, rfl⟩
                  | exact ⟨Eq.trans (b := Ending.returned (.tuple #[.int .i64 (0), .agg (bs (secOf 0)).toArray])) (by rw [← zsec]; rfl) (by simp [e1, s1, hc7]), d', e, hR, rfl⟩
                · skip
                  refine C_skip ?_
                  refine C_seq ?_
                  refine C_region ?_
                  refine L_y rfl (y_buildA0 Try.underlying38 sz_5 zl_38) rfl ?_
                  refine L_y rfl (y_assign rfl) rfl ?_
                  refine L_op rfl (op_store 8 0 rfl rfl rfl sz_38 rfl rfl (ones rfl) (by decide) ?_)
                  skip
                  refine L_nil ?_
                  refine C_ret ?_
                  refine B_ret (rv_tmp rfl (rv_cellA rfl ag_38 sz_38 (sees 8 0 rfl) (Nat.le_of_ble_eq_true rfl) rfl rv_nil)) ((hsub (.cons_cons _ (.cons_cons _ (.cons_cons _ (.cons_cons _ (.cons_cons _ (.cons_cons _ (.cons_cons _ (.cons_cons _ (.cons _ (.cons _ (.refl _)))))))))))).trans (hsub_pick [0, 0, 0, 0, 0, 0, 0, 0] rfl)) ?_
                  first
                  | exact ⟨Eq.trans (b := Ending.returned (.tuple #[.int .i64 (1), .agg (bs (secOf 0)).toArray])) (by rw [← zsec]; rfl) (by simp [e1, s1, hc7]), d', e, hR, rfl⟩
                  | exact ⟨Eq.trans (b := Ending.returned (.tuple #[.int .i64 (0), .agg (bs (secOf 0)).toArray])) (by rw [← zsec]; rfl) (by simp [e1, s1, hc7]), d', e, hR, rfl⟩
              · replace hc6 : ¬ k = 6 := of_decide_eq_false hc6
                refine C_seq ?_
                refine C_region ?_
                refine L_y rfl (y_eqi rfl rfl) rfl ?_
                refine L_y rfl (y_assign rfl) rfl ?_
                refine L_nil ?_
                refine C_cond rfl (fun hc8 => ?_) (fun hc8 => ?_)
                · obtain rfl : k = 7 := of_decide_eq_true hc8
                  refine C_region ?_
                  refine L_y rfl (y_move rfl) rfl ?_
                  refine L_y rfl (y_fieldAddr rfl fl_36_2) rfl ?_
                  refine L_y rfl (y_load rfl ag_3 (sees 1 0 rfl) rfl) rfl ?_
                  refine L_y rfl (y_max rfl rfl) rfl ?_
                  refine L_y rfl (y_nilCheck rfl) rfl ?_
                  refine L_y rfl (y_fieldAddr rfl fl_29_2) rfl ?_
                  refine L_op rfl (op_store1 8 0 rfl rfl rfl sz_3 rfl (Nat.le_of_ble_eq_true rfl) ?_)
                  refine L_nil ?_
                  refine C_seq ?_
                  refine C_region ?_
                  refine L_y rfl (y_buildA0 Try.underlying38 sz_5 zl_38) rfl ?_
                  refine L_y rfl (y_assign rfl) rfl ?_
                  refine L_op rfl (op_store 0 0 rfl rfl rfl sz_38 rfl rfl (ones rfl) (by decide) ?_)
                  skip
                  refine L_nil ?_
                  refine C_ret ?_
                  refine B_ret (rv_tmp rfl (rv_cellA rfl ag_38 sz_38 (sees 0 0 rfl) (Nat.le_of_ble_eq_true rfl) rfl rv_nil)) ((hsub (.cons_cons _ (.cons_cons _ (.cons_cons _ (.cons_cons _ (.cons_cons _ (.cons_cons _ (.cons_cons _ (.cons_cons _ (.cons _ (.cons _ (.refl _)))))))))))).trans (hsub_pick [2, 2, 2, 2, 2, 2, 2, 2] rfl)) ?_
                  exact ⟨Eq.trans (b := Ending.returned (.tuple #[.int .i64 (0), .agg (bs (secOf 0)).toArray])) (by rw [← zsec]; rfl) rfl, d, e, Res8.same hd he p, (by show _ = RH rt d e pb gl p.off (lf (p.fail n)) x y H; rw [lf_fail]; rfl)⟩
                · replace hc8 : ¬ k = 7 := of_decide_eq_false hc8
                  refine C_seq ?_
                  refine C_region ?_
                  refine L_y rfl (y_eqi rfl rfl) rfl ?_
                  refine L_y rfl (y_assign rfl) rfl ?_
                  refine L_nil ?_
                  refine C_cond rfl (fun hc9 => ?_) (fun hc9 => ?_)
                  · obtain rfl : k = 8 := of_decide_eq_true hc9
                    refine C_region ?_
                    refine L_y rfl (y_move rfl) rfl ?_
                    refine L_y rfl (y_move rfl) rfl ?_
                    refine L_y rfl (y_nilCheck rfl) rfl ?_
                    refine L_y rfl (y_fieldAddr rfl fl_29_1) rfl ?_
                    refine L_op rfl (op_store1 8 0 rfl rfl rfl sz_4 rfl (Nat.le_of_ble_eq_true rfl) ?_)
                    refine L_y rfl (y_nilCheck rfl) rfl ?_
                    refine L_y rfl (y_fieldAddr rfl fl_29_2) rfl ?_
                    refine L_op rfl (op_store1 8 0 rfl rfl rfl sz_3 rfl (Nat.le_of_ble_eq_true rfl) ?_)
                    refine L_nil ?_
                    refine C_seq ?_
                    refine C_region ?_
                    refine L_y rfl (y_buildA0 Try.underlying38 sz_5 zl_38) rfl ?_
                    refine L_y rfl (y_assign rfl) rfl ?_
                    refine L_op rfl (op_store 0 0 rfl rfl rfl sz_38 rfl rfl (ones rfl) (by decide) ?_)
                    skip
                    refine L_nil ?_
                    refine C_ret ?_
                    refine B_ret (rv_tmp rfl (rv_cellA rfl ag_38 sz_38 (sees 0 0 rfl) (Nat.le_of_ble_eq_true rfl) rfl rv_nil)) ((hsub (.cons_cons _ (.cons_cons _ (.cons_cons _ (.cons_cons _ (.cons_cons _ (.cons_cons _ (.cons_cons _ (.cons_cons _ (.cons _ (.cons _ (.refl _)))))))))))).trans (hsub_pick [2, 2, 2, 2, 2, 2, 2, 2] rfl)) ?_
                    exact ⟨Eq.trans (b := Ending.returned (.tuple #[.int .i64 (0), .agg (bs (secOf 0)).toArray])) (by rw [← zsec]; rfl) rfl, d, e, Res8.same hd he p, rfl⟩
                  · replace hc9 : ¬ k = 8 := of_decide_eq_false hc9
                    refine C_skip ?_
                    refine C_seq ?_
                    refine C_region ?_
                    refine L_y rfl (y_buildA0 Try.underlying38 sz_5 zl_38) rfl ?_
                    refine L_y rfl (y_assign rfl) rfl ?_
                    refine L_op rfl (op_store 0 0 rfl rfl rfl sz_38 rfl rfl (ones rfl) (by decide) ?_)
                    skip
                    refine L_nil ?_
                    refine C_ret ?_
                    refine B_ret (rv_tmp rfl (rv_cellA rfl ag_38 sz_38 (sees 0 0 rfl) (Nat.le_of_ble_eq_true rfl) rfl rv_nil)) ((hsub (.cons_cons _ (.cons_cons _ (.cons_cons _ (.cons_cons _ (.cons_cons _ (.cons_cons _ (.cons_cons _ (.cons_cons _ (.cons _ (.cons _ (.refl _)))))))))))).trans (hsub_pick [2, 2, 2, 2, 2, 2, 2, 2] rfl)) ?_
                    obtain ⟨z1, z2, z3, z4, z5⟩ := none1 (a := d.a) (p := p) (n := n) (j := j) (c := c) hc0 hc1 hc2 hc3 hc4 hc5 hc6 hc8 hc9
                    rw [z1, z2, z3, z4, z5]
                    exact ⟨Eq.trans (b := Ending.returned (.tuple #[.int .i64 (0), .agg (bs (secOf 0)).toArray])) (by rw [← zsec]; rfl) rfl, d, e, Res8.same hd he p, rfl⟩

end Go.Proofs.Ytaeooiogjhkjfaa

