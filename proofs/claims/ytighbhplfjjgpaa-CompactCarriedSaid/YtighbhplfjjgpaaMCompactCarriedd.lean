/- Own work: texts MeW, VrW, Fe, SlM, Pe, Xo, E0W, Sg, Xn, Rl, Rd8, Cg, A8, Cl, Rn, Ol, Lo, O0W, O1W, O2W, O3W, O4W, Fh, E7W, E1W, Fg2, Fg, G0W, So, put together. -/
import Derived.Test.YtighbhplfjjgpaaProg
import Derived.Maps.RangeRun
import Derived.Sort.AssemblyPlain
import Derived.Laws.Bits64
import Derived.Laws.Bits64b
import Derived.Test.YtighbhplfjjgpaaMCompactCarriedc
/- walks (own work; the walks' lines by a program of this repo). -/
set_option linter.unusedVariables false
set_option linter.unusedSimpArgs false
set_option maxRecDepth 20000
namespace Go.Proofs.Ytighbhplfjjgpaa
open Go.Sl
attribute [local irreducible] BodyQ WpC WpL WpS WpH OpW FnS


theorem mread_no {w0 : World} {H : Hp} {D : Duo} {A : Da} {bp : Nat} {m : Mi} (h : Two dt D A m.bx m.bys bp) {p : Int → Sec → Bool} (hG : GoodAt Try.prog w0 H m.gv p) (n : Int) (hn : m.has n = false) : FnS Try.prog w0 58 #[ptr m.b, .int .i64 n] (m.seg 111 :: D.seg dt :: H) (fun e H' => e = .returned (.tuple #[.agg (bs (mrS m A p n)).toArray, .int .i64 (mrE m A p n)]) ∧ H' = m.seg 111 :: D.seg dt :: H) := by
  refine FnS_intro (n := 63) (rs := [.cell 4 114, .tmp 5]) (vs := [ptr m.b, .int .i64 n]) Try.func58 rfl Try.ntmps58 rfl rfl ?_
  refine C_seq (C_region ?_)
  refine L_op rfl (op_alloc zl_114 rfl (fun B1 => ?_))
  refine LY rfl (y_assign rfl) (L_nil (C_seq (C_seq (C_region (LY rfl (y_move rfl) (LY rfl (y_move rfl) ?_))))))
  refine L_op rfl (op_call rfl rfl (fun a w => Try.call74 a w) rfl ?_)
  refine (has_m _ (sees 1 0 rfl)).mono ?_
  rintro _ _ ⟨rfl, rfl⟩
  rw [hn]
  refine ⟨_, rfl, ?_⟩
  refine LY rfl (y_not rfl) (L_nil (C_cond_t rfl (C_seq (C_region ?_))))
  refine LY rfl (y_buildA0 Try.underlying114 sz_5 zl_114) ?_
  refine L_op rfl (op_storeA 0 0 rfl rfl rfl sz_114 (by rw [zsec, bs_length, secOf_len]) rfl (by rw [zsec]; exact bs_one _) (by simp) ?_)
  rw [zsec]
  refine LY rfl (y_assign rfl) (L_nil (C_ret ?_))
  refine B_ret (rv_cellA rfl ag_114 sz_114 (sees 0 0 rfl) (by first | (rw [bs_length, rS_len _ h.oks]; decide) | (rw [bs_length, secOf_len]; decide)) (by first | exact bs_whole0 _ (rS_len _ h.oks) | exact bs_whole0 _ (secOf_len 0)) (rv_tmp rfl rv_nil)) ((hsub (.cons_cons _ (.cons_cons _ (.cons _ (.refl _))))).trans (hsub_pick [1, 1] rfl)) ?_
  exact ⟨by simp_all [mrE, mrS, okAt] <;> rfl, rfl⟩

theorem mread_tt {w0 : World} {H : Hp} {D : Duo} {A : Da} {bp : Nat} {m : Mi} (h : Two dt D A m.bx m.bys bp) {p : Int → Sec → Bool} (hG : GoodAt Try.prog w0 H m.gv p) (n : Int) (hn : m.has n = true) (hp : thr A false = true) (hq : thr A true = true) : FnS Try.prog w0 58 #[ptr m.b, .int .i64 n] (m.seg 111 :: D.seg dt :: H) (fun e H' => e = .returned (.tuple #[.agg (bs (mrS m A p n)).toArray, .int .i64 (mrE m A p n)]) ∧ H' = m.seg 111 :: D.seg dt :: H) := by
  refine FnS_intro (n := 63) (rs := [.cell 4 114, .tmp 5]) (vs := [ptr m.b, .int .i64 n]) Try.func58 rfl Try.ntmps58 rfl rfl ?_
  refine C_seq (C_region ?_)
  refine L_op rfl (op_alloc zl_114 rfl (fun B1 => ?_))
  refine LY rfl (y_assign rfl) (L_nil (C_seq (C_seq (C_region (LY rfl (y_move rfl) (LY rfl (y_move rfl) ?_))))))
  refine L_op rfl (op_call rfl rfl (fun a w => Try.call74 a w) rfl ?_)
  refine (has_m _ (sees 1 0 rfl)).mono ?_
  rintro _ _ ⟨rfl, rfl⟩
  rw [hn]
  refine ⟨_, rfl, ?_⟩
  refine LY rfl (y_not rfl) (L_nil (C_cond_f rfl (C_skip (C_seq (C_region (LY rfl (y_move rfl) ?_))))))
  refine L_op rfl (op_call rfl rfl (fun a w => Try.call75 a w) rfl ?_)
  refine ((present_tt h hp hq).sub (hsub_pick [1, 1] rfl)).mono ?_
  rintro _ _ ⟨g1, hg1, rfl, rfl⟩
  cases g1 with
  | none => exact slOk_none hg1 (by decide)
  | some g1 => ?_
  refine ⟨_, rfl, ?_⟩
  refine LY rfl (y_assign rfl) (L_nil (C_seq (C_seq (C_region (LY rfl (y_move rfl) ?_)))))
  refine LY rfl (y_lenS rfl rfl Try.underlying145) ?_
  refine LY rfl (y_eqi rfl rfl) (L_nil (C_cond_f rfl (C_skip (C_seq (C_seq (C_region (LY rfl (y_move rfl) ?_)))))))
  refine LY rfl (y_lenS rfl rfl Try.underlying145) ?_
  refine LY rfl (y_move rfl) (L_nil (C_block ?_))
  refine C_loopIn (In_round ?_)
  refine C_seq (C_region (LY rfl (y_lss rfl rfl) (L_nil (C_seq (C_cond_t rfl (C_skip (C_seq (C_block (C_seq (C_region ?_))))))))))
  refine LY rfl (y_indexS rfl rfl Try.underlying145 sz_3 (by omega) (by omega) (show _ = 0 from rfl)) ?_
  refine LY rfl (y_load rfl ag_3 (sees 0 0 rfl) rfl) (LY rfl (y_assign rfl) (L_nil (C_seq (C_region (LY rfl (y_move rfl) (LY rfl (y_move rfl) (LY rfl (y_nilCheck rfl) (LY rfl (y_fieldAddr rfl fl_111_0) ?_))))))))
  refine LY rfl (y_indexA rfl rfl Try.underlying109 sz_108 (by omega) (by omega) (show _ = 0 from rfl)) ?_
  refine LY rfl (y_fieldAddr rfl fl_108_0) (LY rfl (y_load rfl ag_54 (sees 1 0 rfl) rfl) (LY rfl (y_move rfl) ?_))
  refine L_op rfl (op_call rfl rfl (fun a w => Try.call63 a w) rfl ?_)
  refine ((read_d h false (n)).sub (hsub_pick [2] rfl)).mono ?_
  rintro _ _ ⟨rfl, rfl⟩
  refine ⟨_, rfl, ?_⟩
  refine LY rfl (y_move rfl) (LY rfl (y_extract rfl rfl) (LY rfl (y_extract rfl rfl) ?_))
  refine L_op rfl (op_alloc zl_114 rfl (fun B2 => ?_))
  refine L_op rfl (op_storeA 0 0 rfl rfl rfl sz_114 (by rw [bs_length, (rS_len false h.oks)]) rfl (bs_one _) (by simp) ?_)
  refine LY rfl (y_assign rfl) (L_nil (C_seq (C_region (LY rfl (y_move rfl) (LY rfl (y_eqi rfl rfl) (LY rfl (y_move rfl) ?_))))))
  refine L_case 42 rfl (fun hg10_3 => ?_) (fun hg10_3 => ?_)
  · skip
    refine LY rfl (y_move rfl) (LY rfl (y_move rfl) (LY rfl (y_nilCheck rfl) (LY rfl (y_fieldAddr rfl fl_111_0) ?_)))
    refine LY rfl (y_indexA rfl rfl Try.underlying109 sz_108 (by omega) (by omega) (show _ = 0 from rfl)) ?_
    refine LY rfl (y_fieldAddr rfl fl_108_1) (LY rfl (y_load rfl ag_106 (sees 3 0 rfl) rfl) (LY rfl (y_move rfl) ?_))
    refine LY rfl (y_lookup rfl rfl Try.underlying106 Try.underlying3 zt_4 (sees 3 1 rfl)) ?_
    refine LY rfl (y_not rfl) (LY rfl (y_pick_t rfl rfl) (LY rfl (y_move rfl) ?_))
    refine L_case 54 rfl (fun hg10_15 => ?_) (fun hg10_15 => ?_)
    · skip
      refine LY rfl (y_move rfl) (LY rfl (y_move rfl) ?_)
      refine LY rfl (y_loadA rfl ag_114 sz_114 (sees 0 0 rfl) (by rw [bs_length, rS_len _ h.oks]; decide) (bs_whole0 _ (rS_len _ h.oks))) ?_
      refine L_op rfl (op_call rfl rfl (fun a w => Try.call76 a w) rfl ?_)
      refine FnS.mono (right_m (sees 3 0 rfl) (hG.sub (hsub (.cons _ (.cons _ (.cons _ (.cons _ (.cons _ (.refl _)))))))) n _ (rS_len _ h.oks)) ?_
      rintro _ _ ⟨rfl, e⟩
      obtain rfl := e.symm
      refine ⟨_, rfl, ?_⟩
      refine LY rfl (y_pick_t rfl rfl) (L_nil ?_)
      refine C_cond rfl (fun hc3 => ?_) (fun hc3 => ?_)
      · skip
        refine C_seq (C_region ?_)
        refine LY rfl (y_loadA rfl ag_114 sz_114 (sees 0 0 rfl) (by rw [bs_length, rS_len _ h.oks]; decide) (bs_whole0 _ (rS_len _ h.oks))) ?_
        refine L_op rfl (op_storeA 4 0 rfl rfl rfl sz_114 (by rw [bs_length, rS_len _ h.oks]) rfl (bs_one _) (by simp) ?_)
        refine LY rfl (y_assign rfl) (L_nil (C_ret ?_))
        refine B_ret (rv_cellA rfl ag_114 sz_114 (sees 4 0 rfl) (by first | (rw [bs_length, rS_len _ h.oks]; decide) | (rw [bs_length, secOf_len]; decide)) (by first | exact bs_whole0 _ (rS_len _ h.oks) | exact bs_whole0 _ (secOf_len 0)) (rv_tmp rfl rv_nil)) ((hsub (.cons_cons _ (.cons_cons _ (.cons _ (.cons _ (.cons _ (.refl _))))))).trans (hsub_pick [3, 1] rfl)) ?_
        exact ⟨by simp_all [mrE, mrS, okAt] <;> rfl, rfl⟩
      · skip
        refine C_skip (C_region ?_)
        refine LY rfl (y_add rfl rfl (show _ = (1 : Int) from rfl)) ?_
        refine LY rfl (y_move rfl) (L_nil ?_)
        refine In_round ?_
        refine C_seq (C_region (LY rfl (y_lss rfl rfl) (L_nil (C_seq (C_cond_t rfl (C_skip (C_seq (C_block (C_seq (C_region ?_))))))))))
        refine LY rfl (y_indexS rfl rfl Try.underlying145 sz_3 (by omega) (by omega) (show _ = 1 from rfl)) ?_
        refine LY rfl (y_load rfl ag_3 (sees 2 0 rfl) rfl) (LY rfl (y_assign rfl) (L_nil (C_seq (C_region (LY rfl (y_move rfl) (LY rfl (y_move rfl) (LY rfl (y_nilCheck rfl) (LY rfl (y_fieldAddr rfl fl_111_0) ?_))))))))
        refine LY rfl (y_indexA rfl rfl Try.underlying109 sz_108 (by omega) (by omega) (show _ = 2 from rfl)) ?_
        refine LY rfl (y_fieldAddr rfl fl_108_0) (LY rfl (y_load rfl ag_54 (sees 3 0 rfl) rfl) (LY rfl (y_move rfl) ?_))
        refine L_op rfl (op_call rfl rfl (fun a w => Try.call63 a w) rfl ?_)
        refine ((read_d h true (n)).sub (hsub_pick [1] rfl)).mono ?_
        rintro _ _ ⟨rfl, rfl⟩
        refine ⟨_, rfl, ?_⟩
        refine LY rfl (y_move rfl) (LY rfl (y_extract rfl rfl) (LY rfl (y_extract rfl rfl) ?_))
        refine L_op rfl (op_alloc zl_114 rfl (fun B3 => ?_))
        refine L_op rfl (op_storeA 0 0 rfl rfl rfl sz_114 (by rw [bs_length, (rS_len true h.oks)]) rfl (bs_one _) (by simp) ?_)
        refine LY rfl (y_assign rfl) (L_nil (C_seq (C_region (LY rfl (y_move rfl) (LY rfl (y_eqi rfl rfl) (LY rfl (y_move rfl) ?_))))))
        refine L_case 42 rfl (fun hg10_3 => ?_) (fun hg10_3 => ?_)
        · skip
          refine LY rfl (y_move rfl) (LY rfl (y_move rfl) (LY rfl (y_nilCheck rfl) (LY rfl (y_fieldAddr rfl fl_111_0) ?_)))
          refine LY rfl (y_indexA rfl rfl Try.underlying109 sz_108 (by omega) (by omega) (show _ = 2 from rfl)) ?_
          refine LY rfl (y_fieldAddr rfl fl_108_1) (LY rfl (y_load rfl ag_106 (sees 4 0 rfl) rfl) (LY rfl (y_move rfl) ?_))
          refine LY rfl (y_lookup rfl rfl Try.underlying106 Try.underlying3 zt_4 (sees 4 2 rfl)) ?_
          refine LY rfl (y_not rfl) (LY rfl (y_pick_t rfl rfl) (LY rfl (y_move rfl) ?_))
          refine L_case 54 rfl (fun hg10_15 => ?_) (fun hg10_15 => ?_)
          · skip
            refine LY rfl (y_move rfl) (LY rfl (y_move rfl) ?_)
            refine LY rfl (y_loadA rfl ag_114 sz_114 (sees 0 0 rfl) (by rw [bs_length, rS_len _ h.oks]; decide) (bs_whole0 _ (rS_len _ h.oks))) ?_
            refine L_op rfl (op_call rfl rfl (fun a w => Try.call76 a w) rfl ?_)
            refine FnS.mono (right_m (sees 4 0 rfl) (hG.sub (hsub (.cons _ (.cons _ (.cons _ (.cons _ (.cons _ (.cons _ (.refl _))))))))) n _ (rS_len _ h.oks)) ?_
            rintro _ _ ⟨rfl, e⟩
            obtain rfl := e.symm
            refine ⟨_, rfl, ?_⟩
            refine LY rfl (y_pick_t rfl rfl) (L_nil ?_)
            refine C_cond rfl (fun hc3 => ?_) (fun hc3 => ?_)
            · skip
              refine C_seq (C_region ?_)
              refine LY rfl (y_loadA rfl ag_114 sz_114 (sees 0 0 rfl) (by rw [bs_length, rS_len _ h.oks]; decide) (bs_whole0 _ (rS_len _ h.oks))) ?_
              refine L_op rfl (op_storeA 5 0 rfl rfl rfl sz_114 (by rw [bs_length, rS_len _ h.oks]) rfl (bs_one _) (by simp) ?_)
              refine LY rfl (y_assign rfl) (L_nil (C_ret ?_))
              refine B_ret (rv_cellA rfl ag_114 sz_114 (sees 5 0 rfl) (by first | (rw [bs_length, rS_len _ h.oks]; decide) | (rw [bs_length, secOf_len]; decide)) (by first | exact bs_whole0 _ (rS_len _ h.oks) | exact bs_whole0 _ (secOf_len 0)) (rv_tmp rfl rv_nil)) ((hsub (.cons_cons _ (.cons_cons _ (.cons _ (.cons _ (.cons _ (.cons _ (.refl _)))))))).trans (hsub_pick [4, 1] rfl)) ?_
              exact ⟨by simp_all [mrE, mrS, okAt] <;> rfl, rfl⟩
            · skip
              refine C_skip (C_region ?_)
              refine LY rfl (y_add rfl rfl (show _ = (2 : Int) from rfl)) ?_
              refine LY rfl (y_move rfl) (L_nil ?_)
              refine In_round ?_
              refine C_seq (C_region (LY rfl (y_lss rfl rfl) (L_nil (C_seq (C_cond_f rfl (C_exit (C_seq (C_region ?_))))))))
              refine LY rfl (y_buildA0 Try.underlying114 sz_5 zl_114) ?_
              refine L_op rfl (op_storeA 5 0 rfl rfl rfl sz_114 (by rw [zsec, bs_length, secOf_len]) rfl (by rw [zsec]; exact bs_one _) (by simp) ?_)
              rw [zsec]
              refine LY rfl (y_assign rfl) (L_nil (C_ret ?_))
              refine B_ret (rv_cellA rfl ag_114 sz_114 (sees 5 0 rfl) (by first | (rw [bs_length, rS_len _ h.oks]; decide) | (rw [bs_length, secOf_len]; decide)) (by first | exact bs_whole0 _ (rS_len _ h.oks) | exact bs_whole0 _ (secOf_len 0)) (rv_tmp rfl rv_nil)) ((hsub (.cons_cons _ (.cons_cons _ (.cons _ (.cons _ (.cons _ (.cons _ (.refl _)))))))).trans (hsub_pick [4, 1] rfl)) ?_
              exact ⟨by simp_all [mrE, mrS, okAt] <;> rfl, rfl⟩
          · skip
            refine L_skip rfl rfl (L_skip rfl rfl (L_skip rfl rfl (L_skip rfl rfl (LY rfl (y_pick_f rfl rfl) (L_nil (C_cond_f rfl (C_skip (C_region ?_))))))))
            refine LY rfl (y_add rfl rfl (show _ = (2 : Int) from rfl)) ?_
            refine LY rfl (y_move rfl) (L_nil ?_)
            refine In_round ?_
            refine C_seq (C_region (LY rfl (y_lss rfl rfl) (L_nil (C_seq (C_cond_f rfl (C_exit (C_seq (C_region ?_))))))))
            refine LY rfl (y_buildA0 Try.underlying114 sz_5 zl_114) ?_
            refine L_op rfl (op_storeA 5 0 rfl rfl rfl sz_114 (by rw [zsec, bs_length, secOf_len]) rfl (by rw [zsec]; exact bs_one _) (by simp) ?_)
            rw [zsec]
            refine LY rfl (y_assign rfl) (L_nil (C_ret ?_))
            refine B_ret (rv_cellA rfl ag_114 sz_114 (sees 5 0 rfl) (by first | (rw [bs_length, rS_len _ h.oks]; decide) | (rw [bs_length, secOf_len]; decide)) (by first | exact bs_whole0 _ (rS_len _ h.oks) | exact bs_whole0 _ (secOf_len 0)) (rv_tmp rfl rv_nil)) ((hsub (.cons_cons _ (.cons_cons _ (.cons _ (.cons _ (.cons _ (.cons _ (.refl _)))))))).trans (hsub_pick [4, 1] rfl)) ?_
            exact ⟨by simp_all [mrE, mrS, okAt] <;> rfl, rfl⟩
        · skip
          refine L_skip rfl rfl (L_skip rfl rfl (L_skip rfl rfl (L_skip rfl rfl (L_skip rfl rfl (L_skip rfl rfl (L_skip rfl rfl (L_skip rfl rfl (L_skip rfl rfl (L_skip rfl rfl (LY rfl (y_pick_f rfl rfl) (LY rfl (y_move rfl) (L_skip rfl rfl (L_skip rfl rfl (L_skip rfl rfl (L_skip rfl rfl (LY rfl (y_pick_f rfl rfl) (L_nil (C_cond_f rfl (C_skip (C_region ?_))))))))))))))))))))
          refine LY rfl (y_add rfl rfl (show _ = (2 : Int) from rfl)) ?_
          refine LY rfl (y_move rfl) (L_nil ?_)
          refine In_round ?_
          refine C_seq (C_region (LY rfl (y_lss rfl rfl) (L_nil (C_seq (C_cond_f rfl (C_exit (C_seq (C_region ?_))))))))
          refine LY rfl (y_buildA0 Try.underlying114 sz_5 zl_114) ?_
          refine L_op rfl (op_storeA 5 0 rfl rfl rfl sz_114 (by rw [zsec, bs_length, secOf_len]) rfl (by rw [zsec]; exact bs_one _) (by simp) ?_)
          rw [zsec]
          refine LY rfl (y_assign rfl) (L_nil (C_ret ?_))
          refine B_ret (rv_cellA rfl ag_114 sz_114 (sees 5 0 rfl) (by first | (rw [bs_length, rS_len _ h.oks]; decide) | (rw [bs_length, secOf_len]; decide)) (by first | exact bs_whole0 _ (rS_len _ h.oks) | exact bs_whole0 _ (secOf_len 0)) (rv_tmp rfl rv_nil)) ((hsub (.cons_cons _ (.cons_cons _ (.cons _ (.cons _ (.cons _ (.cons _ (.refl _)))))))).trans (hsub_pick [4, 1] rfl)) ?_
          exact ⟨by simp_all [mrE, mrS, okAt] <;> rfl, rfl⟩
    · skip
      refine L_skip rfl rfl (L_skip rfl rfl (L_skip rfl rfl (L_skip rfl rfl (LY rfl (y_pick_f rfl rfl) (L_nil (C_cond_f rfl (C_skip (C_region ?_))))))))
      refine LY rfl (y_add rfl rfl (show _ = (1 : Int) from rfl)) ?_
      refine LY rfl (y_move rfl) (L_nil ?_)
      refine In_round ?_
      refine C_seq (C_region (LY rfl (y_lss rfl rfl) (L_nil (C_seq (C_cond_t rfl (C_skip (C_seq (C_block (C_seq (C_region ?_))))))))))
      refine LY rfl (y_indexS rfl rfl Try.underlying145 sz_3 (by omega) (by omega) (show _ = 1 from rfl)) ?_
      refine LY rfl (y_load rfl ag_3 (sees 2 0 rfl) rfl) (LY rfl (y_assign rfl) (L_nil (C_seq (C_region (LY rfl (y_move rfl) (LY rfl (y_move rfl) (LY rfl (y_nilCheck rfl) (LY rfl (y_fieldAddr rfl fl_111_0) ?_))))))))
      refine LY rfl (y_indexA rfl rfl Try.underlying109 sz_108 (by omega) (by omega) (show _ = 2 from rfl)) ?_
      refine LY rfl (y_fieldAddr rfl fl_108_0) (LY rfl (y_load rfl ag_54 (sees 3 0 rfl) rfl) (LY rfl (y_move rfl) ?_))
      refine L_op rfl (op_call rfl rfl (fun a w => Try.call63 a w) rfl ?_)
      refine ((read_d h true (n)).sub (hsub_pick [1] rfl)).mono ?_
      rintro _ _ ⟨rfl, rfl⟩
      refine ⟨_, rfl, ?_⟩
      refine LY rfl (y_move rfl) (LY rfl (y_extract rfl rfl) (LY rfl (y_extract rfl rfl) ?_))
      refine L_op rfl (op_alloc zl_114 rfl (fun B4 => ?_))
      refine L_op rfl (op_storeA 0 0 rfl rfl rfl sz_114 (by rw [bs_length, (rS_len true h.oks)]) rfl (bs_one _) (by simp) ?_)
      refine LY rfl (y_assign rfl) (L_nil (C_seq (C_region (LY rfl (y_move rfl) (LY rfl (y_eqi rfl rfl) (LY rfl (y_move rfl) ?_))))))
      refine L_case 42 rfl (fun hg10_3 => ?_) (fun hg10_3 => ?_)
      · skip
        refine LY rfl (y_move rfl) (LY rfl (y_move rfl) (LY rfl (y_nilCheck rfl) (LY rfl (y_fieldAddr rfl fl_111_0) ?_)))
        refine LY rfl (y_indexA rfl rfl Try.underlying109 sz_108 (by omega) (by omega) (show _ = 2 from rfl)) ?_
        refine LY rfl (y_fieldAddr rfl fl_108_1) (LY rfl (y_load rfl ag_106 (sees 4 0 rfl) rfl) (LY rfl (y_move rfl) ?_))
        refine LY rfl (y_lookup rfl rfl Try.underlying106 Try.underlying3 zt_4 (sees 4 2 rfl)) ?_
        refine LY rfl (y_not rfl) (LY rfl (y_pick_t rfl rfl) (LY rfl (y_move rfl) ?_))
        refine L_case 54 rfl (fun hg10_15 => ?_) (fun hg10_15 => ?_)
        · skip
          refine LY rfl (y_move rfl) (LY rfl (y_move rfl) ?_)
          refine LY rfl (y_loadA rfl ag_114 sz_114 (sees 0 0 rfl) (by rw [bs_length, rS_len _ h.oks]; decide) (bs_whole0 _ (rS_len _ h.oks))) ?_
          refine L_op rfl (op_call rfl rfl (fun a w => Try.call76 a w) rfl ?_)
          refine FnS.mono (right_m (sees 4 0 rfl) (hG.sub (hsub (.cons _ (.cons _ (.cons _ (.cons _ (.cons _ (.cons _ (.refl _))))))))) n _ (rS_len _ h.oks)) ?_
          rintro _ _ ⟨rfl, e⟩
          obtain rfl := e.symm
          refine ⟨_, rfl, ?_⟩
          refine LY rfl (y_pick_t rfl rfl) (L_nil ?_)
          refine C_cond rfl (fun hc3 => ?_) (fun hc3 => ?_)
          · skip
            refine C_seq (C_region ?_)
            refine LY rfl (y_loadA rfl ag_114 sz_114 (sees 0 0 rfl) (by rw [bs_length, rS_len _ h.oks]; decide) (bs_whole0 _ (rS_len _ h.oks))) ?_
            refine L_op rfl (op_storeA 5 0 rfl rfl rfl sz_114 (by rw [bs_length, rS_len _ h.oks]) rfl (bs_one _) (by simp) ?_)
            refine LY rfl (y_assign rfl) (L_nil (C_ret ?_))
            refine B_ret (rv_cellA rfl ag_114 sz_114 (sees 5 0 rfl) (by first | (rw [bs_length, rS_len _ h.oks]; decide) | (rw [bs_length, secOf_len]; decide)) (by first | exact bs_whole0 _ (rS_len _ h.oks) | exact bs_whole0 _ (secOf_len 0)) (rv_tmp rfl rv_nil)) ((hsub (.cons_cons _ (.cons_cons _ (.cons _ (.cons _ (.cons _ (.cons _ (.refl _)))))))).trans (hsub_pick [4, 1] rfl)) ?_
            exact ⟨by simp_all [mrE, mrS, okAt] <;> rfl, rfl⟩
          · skip
            refine C_skip (C_region ?_)
            refine LY rfl (y_add rfl rfl (show _ = (2 : Int) from rfl)) ?_
            refine LY rfl (y_move rfl) (L_nil ?_)
            refine In_round ?_
            refine C_seq (C_region (LY rfl (y_lss rfl rfl) (L_nil (C_seq (C_cond_f rfl (C_exit (C_seq (C_region ?_))))))))
            refine LY rfl (y_buildA0 Try.underlying114 sz_5 zl_114) ?_
            refine L_op rfl (op_storeA 5 0 rfl rfl rfl sz_114 (by rw [zsec, bs_length, secOf_len]) rfl (by rw [zsec]; exact bs_one _) (by simp) ?_)
            rw [zsec]
            refine LY rfl (y_assign rfl) (L_nil (C_ret ?_))
            refine B_ret (rv_cellA rfl ag_114 sz_114 (sees 5 0 rfl) (by first | (rw [bs_length, rS_len _ h.oks]; decide) | (rw [bs_length, secOf_len]; decide)) (by first | exact bs_whole0 _ (rS_len _ h.oks) | exact bs_whole0 _ (secOf_len 0)) (rv_tmp rfl rv_nil)) ((hsub (.cons_cons _ (.cons_cons _ (.cons _ (.cons _ (.cons _ (.cons _ (.refl _)))))))).trans (hsub_pick [4, 1] rfl)) ?_
            exact ⟨by simp_all [mrE, mrS, okAt] <;> rfl, rfl⟩
        · skip
          refine L_skip rfl rfl (L_skip rfl rfl (L_skip rfl rfl (L_skip rfl rfl (LY rfl (y_pick_f rfl rfl) (L_nil (C_cond_f rfl (C_skip (C_region ?_))))))))
          refine LY rfl (y_add rfl rfl (show _ = (2 : Int) from rfl)) ?_
          refine LY rfl (y_move rfl) (L_nil ?_)
          refine In_round ?_
          refine C_seq (C_region (LY rfl (y_lss rfl rfl) (L_nil (C_seq (C_cond_f rfl (C_exit (C_seq (C_region ?_))))))))
          refine LY rfl (y_buildA0 Try.underlying114 sz_5 zl_114) ?_
          refine L_op rfl (op_storeA 5 0 rfl rfl rfl sz_114 (by rw [zsec, bs_length, secOf_len]) rfl (by rw [zsec]; exact bs_one _) (by simp) ?_)
          rw [zsec]
          refine LY rfl (y_assign rfl) (L_nil (C_ret ?_))
          refine B_ret (rv_cellA rfl ag_114 sz_114 (sees 5 0 rfl) (by first | (rw [bs_length, rS_len _ h.oks]; decide) | (rw [bs_length, secOf_len]; decide)) (by first | exact bs_whole0 _ (rS_len _ h.oks) | exact bs_whole0 _ (secOf_len 0)) (rv_tmp rfl rv_nil)) ((hsub (.cons_cons _ (.cons_cons _ (.cons _ (.cons _ (.cons _ (.cons _ (.refl _)))))))).trans (hsub_pick [4, 1] rfl)) ?_
          exact ⟨by simp_all [mrE, mrS, okAt] <;> rfl, rfl⟩
      · skip
        refine L_skip rfl rfl (L_skip rfl rfl (L_skip rfl rfl (L_skip rfl rfl (L_skip rfl rfl (L_skip rfl rfl (L_skip rfl rfl (L_skip rfl rfl (L_skip rfl rfl (L_skip rfl rfl (LY rfl (y_pick_f rfl rfl) (LY rfl (y_move rfl) (L_skip rfl rfl (L_skip rfl rfl (L_skip rfl rfl (L_skip rfl rfl (LY rfl (y_pick_f rfl rfl) (L_nil (C_cond_f rfl (C_skip (C_region ?_))))))))))))))))))))
        refine LY rfl (y_add rfl rfl (show _ = (2 : Int) from rfl)) ?_
        refine LY rfl (y_move rfl) (L_nil ?_)
        refine In_round ?_
        refine C_seq (C_region (LY rfl (y_lss rfl rfl) (L_nil (C_seq (C_cond_f rfl (C_exit (C_seq (C_region ?_))))))))
        refine LY rfl (y_buildA0 Try.underlying114 sz_5 zl_114) ?_
        refine L_op rfl (op_storeA 5 0 rfl rfl rfl sz_114 (by rw [zsec, bs_length, secOf_len]) rfl (by rw [zsec]; exact bs_one _) (by simp) ?_)
        rw [zsec]
        refine LY rfl (y_assign rfl) (L_nil (C_ret ?_))
        refine B_ret (rv_cellA rfl ag_114 sz_114 (sees 5 0 rfl) (by first | (rw [bs_length, rS_len _ h.oks]; decide) | (rw [bs_length, secOf_len]; decide)) (by first | exact bs_whole0 _ (rS_len _ h.oks) | exact bs_whole0 _ (secOf_len 0)) (rv_tmp rfl rv_nil)) ((hsub (.cons_cons _ (.cons_cons _ (.cons _ (.cons _ (.cons _ (.cons _ (.refl _)))))))).trans (hsub_pick [4, 1] rfl)) ?_
        exact ⟨by simp_all [mrE, mrS, okAt] <;> rfl, rfl⟩
  · skip
    refine L_skip rfl rfl (L_skip rfl rfl (L_skip rfl rfl (L_skip rfl rfl (L_skip rfl rfl (L_skip rfl rfl (L_skip rfl rfl (L_skip rfl rfl (L_skip rfl rfl (L_skip rfl rfl (LY rfl (y_pick_f rfl rfl) (LY rfl (y_move rfl) (L_skip rfl rfl (L_skip rfl rfl (L_skip rfl rfl (L_skip rfl rfl (LY rfl (y_pick_f rfl rfl) (L_nil (C_cond_f rfl (C_skip (C_region ?_))))))))))))))))))))
    refine LY rfl (y_add rfl rfl (show _ = (1 : Int) from rfl)) ?_
    refine LY rfl (y_move rfl) (L_nil ?_)
    refine In_round ?_
    refine C_seq (C_region (LY rfl (y_lss rfl rfl) (L_nil (C_seq (C_cond_t rfl (C_skip (C_seq (C_block (C_seq (C_region ?_))))))))))
    refine LY rfl (y_indexS rfl rfl Try.underlying145 sz_3 (by omega) (by omega) (show _ = 1 from rfl)) ?_
    refine LY rfl (y_load rfl ag_3 (sees 2 0 rfl) rfl) (LY rfl (y_assign rfl) (L_nil (C_seq (C_region (LY rfl (y_move rfl) (LY rfl (y_move rfl) (LY rfl (y_nilCheck rfl) (LY rfl (y_fieldAddr rfl fl_111_0) ?_))))))))
    refine LY rfl (y_indexA rfl rfl Try.underlying109 sz_108 (by omega) (by omega) (show _ = 2 from rfl)) ?_
    refine LY rfl (y_fieldAddr rfl fl_108_0) (LY rfl (y_load rfl ag_54 (sees 3 0 rfl) rfl) (LY rfl (y_move rfl) ?_))
    refine L_op rfl (op_call rfl rfl (fun a w => Try.call63 a w) rfl ?_)
    refine ((read_d h true (n)).sub (hsub_pick [1] rfl)).mono ?_
    rintro _ _ ⟨rfl, rfl⟩
    refine ⟨_, rfl, ?_⟩
    refine LY rfl (y_move rfl) (LY rfl (y_extract rfl rfl) (LY rfl (y_extract rfl rfl) ?_))
    refine L_op rfl (op_alloc zl_114 rfl (fun B5 => ?_))
    refine L_op rfl (op_storeA 0 0 rfl rfl rfl sz_114 (by rw [bs_length, (rS_len true h.oks)]) rfl (bs_one _) (by simp) ?_)
    refine LY rfl (y_assign rfl) (L_nil (C_seq (C_region (LY rfl (y_move rfl) (LY rfl (y_eqi rfl rfl) (LY rfl (y_move rfl) ?_))))))
    refine L_case 42 rfl (fun hg10_3 => ?_) (fun hg10_3 => ?_)
    · skip
      refine LY rfl (y_move rfl) (LY rfl (y_move rfl) (LY rfl (y_nilCheck rfl) (LY rfl (y_fieldAddr rfl fl_111_0) ?_)))
      refine LY rfl (y_indexA rfl rfl Try.underlying109 sz_108 (by omega) (by omega) (show _ = 2 from rfl)) ?_
      refine LY rfl (y_fieldAddr rfl fl_108_1) (LY rfl (y_load rfl ag_106 (sees 4 0 rfl) rfl) (LY rfl (y_move rfl) ?_))
      refine LY rfl (y_lookup rfl rfl Try.underlying106 Try.underlying3 zt_4 (sees 4 2 rfl)) ?_
      refine LY rfl (y_not rfl) (LY rfl (y_pick_t rfl rfl) (LY rfl (y_move rfl) ?_))
      refine L_case 54 rfl (fun hg10_15 => ?_) (fun hg10_15 => ?_)
      · skip
        refine LY rfl (y_move rfl) (LY rfl (y_move rfl) ?_)
        refine LY rfl (y_loadA rfl ag_114 sz_114 (sees 0 0 rfl) (by rw [bs_length, rS_len _ h.oks]; decide) (bs_whole0 _ (rS_len _ h.oks))) ?_
        refine L_op rfl (op_call rfl rfl (fun a w => Try.call76 a w) rfl ?_)
        refine FnS.mono (right_m (sees 4 0 rfl) (hG.sub (hsub (.cons _ (.cons _ (.cons _ (.cons _ (.cons _ (.cons _ (.refl _))))))))) n _ (rS_len _ h.oks)) ?_
        rintro _ _ ⟨rfl, e⟩
        obtain rfl := e.symm
        refine ⟨_, rfl, ?_⟩
        refine LY rfl (y_pick_t rfl rfl) (L_nil ?_)
        refine C_cond rfl (fun hc3 => ?_) (fun hc3 => ?_)
        · skip
          refine C_seq (C_region ?_)
          refine LY rfl (y_loadA rfl ag_114 sz_114 (sees 0 0 rfl) (by rw [bs_length, rS_len _ h.oks]; decide) (bs_whole0 _ (rS_len _ h.oks))) ?_
          refine L_op rfl (op_storeA 5 0 rfl rfl rfl sz_114 (by rw [bs_length, rS_len _ h.oks]) rfl (bs_one _) (by simp) ?_)
          refine LY rfl (y_assign rfl) (L_nil (C_ret ?_))
          refine B_ret (rv_cellA rfl ag_114 sz_114 (sees 5 0 rfl) (by first | (rw [bs_length, rS_len _ h.oks]; decide) | (rw [bs_length, secOf_len]; decide)) (by first | exact bs_whole0 _ (rS_len _ h.oks) | exact bs_whole0 _ (secOf_len 0)) (rv_tmp rfl rv_nil)) ((hsub (.cons_cons _ (.cons_cons _ (.cons _ (.cons _ (.cons _ (.cons _ (.refl _)))))))).trans (hsub_pick [4, 1] rfl)) ?_
          exact ⟨by simp_all [mrE, mrS, okAt] <;> rfl, rfl⟩
        · skip
          refine C_skip (C_region ?_)
          refine LY rfl (y_add rfl rfl (show _ = (2 : Int) from rfl)) ?_
          refine LY rfl (y_move rfl) (L_nil ?_)
          refine In_round ?_
          refine C_seq (C_region (LY rfl (y_lss rfl rfl) (L_nil (C_seq (C_cond_f rfl (C_exit (C_seq (C_region ?_))))))))
          refine LY rfl (y_buildA0 Try.underlying114 sz_5 zl_114) ?_
          refine L_op rfl (op_storeA 5 0 rfl rfl rfl sz_114 (by rw [zsec, bs_length, secOf_len]) rfl (by rw [zsec]; exact bs_one _) (by simp) ?_)
          rw [zsec]
          refine LY rfl (y_assign rfl) (L_nil (C_ret ?_))
          refine B_ret (rv_cellA rfl ag_114 sz_114 (sees 5 0 rfl) (by first | (rw [bs_length, rS_len _ h.oks]; decide) | (rw [bs_length, secOf_len]; decide)) (by first | exact bs_whole0 _ (rS_len _ h.oks) | exact bs_whole0 _ (secOf_len 0)) (rv_tmp rfl rv_nil)) ((hsub (.cons_cons _ (.cons_cons _ (.cons _ (.cons _ (.cons _ (.cons _ (.refl _)))))))).trans (hsub_pick [4, 1] rfl)) ?_
          exact ⟨by simp_all [mrE, mrS, okAt] <;> rfl, rfl⟩
      · skip
        refine L_skip rfl rfl (L_skip rfl rfl (L_skip rfl rfl (L_skip rfl rfl (LY rfl (y_pick_f rfl rfl) (L_nil (C_cond_f rfl (C_skip (C_region ?_))))))))
        refine LY rfl (y_add rfl rfl (show _ = (2 : Int) from rfl)) ?_
        refine LY rfl (y_move rfl) (L_nil ?_)
        refine In_round ?_
        refine C_seq (C_region (LY rfl (y_lss rfl rfl) (L_nil (C_seq (C_cond_f rfl (C_exit (C_seq (C_region ?_))))))))
        refine LY rfl (y_buildA0 Try.underlying114 sz_5 zl_114) ?_
        refine L_op rfl (op_storeA 5 0 rfl rfl rfl sz_114 (by rw [zsec, bs_length, secOf_len]) rfl (by rw [zsec]; exact bs_one _) (by simp) ?_)
        rw [zsec]
        refine LY rfl (y_assign rfl) (L_nil (C_ret ?_))
        refine B_ret (rv_cellA rfl ag_114 sz_114 (sees 5 0 rfl) (by first | (rw [bs_length, rS_len _ h.oks]; decide) | (rw [bs_length, secOf_len]; decide)) (by first | exact bs_whole0 _ (rS_len _ h.oks) | exact bs_whole0 _ (secOf_len 0)) (rv_tmp rfl rv_nil)) ((hsub (.cons_cons _ (.cons_cons _ (.cons _ (.cons _ (.cons _ (.cons _ (.refl _)))))))).trans (hsub_pick [4, 1] rfl)) ?_
        exact ⟨by simp_all [mrE, mrS, okAt] <;> rfl, rfl⟩
    · skip
      refine L_skip rfl rfl (L_skip rfl rfl (L_skip rfl rfl (L_skip rfl rfl (L_skip rfl rfl (L_skip rfl rfl (L_skip rfl rfl (L_skip rfl rfl (L_skip rfl rfl (L_skip rfl rfl (LY rfl (y_pick_f rfl rfl) (LY rfl (y_move rfl) (L_skip rfl rfl (L_skip rfl rfl (L_skip rfl rfl (L_skip rfl rfl (LY rfl (y_pick_f rfl rfl) (L_nil (C_cond_f rfl (C_skip (C_region ?_))))))))))))))))))))
      refine LY rfl (y_add rfl rfl (show _ = (2 : Int) from rfl)) ?_
      refine LY rfl (y_move rfl) (L_nil ?_)
      refine In_round ?_
      refine C_seq (C_region (LY rfl (y_lss rfl rfl) (L_nil (C_seq (C_cond_f rfl (C_exit (C_seq (C_region ?_))))))))
      refine LY rfl (y_buildA0 Try.underlying114 sz_5 zl_114) ?_
      refine L_op rfl (op_storeA 5 0 rfl rfl rfl sz_114 (by rw [zsec, bs_length, secOf_len]) rfl (by rw [zsec]; exact bs_one _) (by simp) ?_)
      rw [zsec]
      refine LY rfl (y_assign rfl) (L_nil (C_ret ?_))
      refine B_ret (rv_cellA rfl ag_114 sz_114 (sees 5 0 rfl) (by first | (rw [bs_length, rS_len _ h.oks]; decide) | (rw [bs_length, secOf_len]; decide)) (by first | exact bs_whole0 _ (rS_len _ h.oks) | exact bs_whole0 _ (secOf_len 0)) (rv_tmp rfl rv_nil)) ((hsub (.cons_cons _ (.cons_cons _ (.cons _ (.cons _ (.cons _ (.cons _ (.refl _)))))))).trans (hsub_pick [4, 1] rfl)) ?_
      exact ⟨by simp_all [mrE, mrS, okAt] <;> rfl, rfl⟩

theorem mread_tf {w0 : World} {H : Hp} {D : Duo} {A : Da} {bp : Nat} {m : Mi} (h : Two dt D A m.bx m.bys bp) {p : Int → Sec → Bool} (hG : GoodAt Try.prog w0 H m.gv p) (n : Int) (hn : m.has n = true) (hp : thr A false = true) (hq : thr A true = false) : FnS Try.prog w0 58 #[ptr m.b, .int .i64 n] (m.seg 111 :: D.seg dt :: H) (fun e H' => e = .returned (.tuple #[.agg (bs (mrS m A p n)).toArray, .int .i64 (mrE m A p n)]) ∧ H' = m.seg 111 :: D.seg dt :: H) := by
  refine FnS_intro (n := 63) (rs := [.cell 4 114, .tmp 5]) (vs := [ptr m.b, .int .i64 n]) Try.func58 rfl Try.ntmps58 rfl rfl ?_
  refine C_seq (C_region ?_)
  refine L_op rfl (op_alloc zl_114 rfl (fun B1 => ?_))
  refine LY rfl (y_assign rfl) (L_nil (C_seq (C_seq (C_region (LY rfl (y_move rfl) (LY rfl (y_move rfl) ?_))))))
  refine L_op rfl (op_call rfl rfl (fun a w => Try.call74 a w) rfl ?_)
  refine (has_m _ (sees 1 0 rfl)).mono ?_
  rintro _ _ ⟨rfl, rfl⟩
  rw [hn]
  refine ⟨_, rfl, ?_⟩
  refine LY rfl (y_not rfl) (L_nil (C_cond_f rfl (C_skip (C_seq (C_region (LY rfl (y_move rfl) ?_))))))
  refine L_op rfl (op_call rfl rfl (fun a w => Try.call75 a w) rfl ?_)
  refine ((present_tf h hp hq).sub (hsub_pick [1, 1] rfl)).mono ?_
  rintro _ _ ⟨g1, hg1, rfl, rfl⟩
  cases g1 with
  | none => exact slOk_none hg1 (by decide)
  | some g1 => ?_
  refine ⟨_, rfl, ?_⟩
  refine LY rfl (y_assign rfl) (L_nil (C_seq (C_seq (C_region (LY rfl (y_move rfl) ?_)))))
  refine LY rfl (y_lenS rfl rfl Try.underlying145) ?_
  refine LY rfl (y_eqi rfl rfl) (L_nil (C_cond_f rfl (C_skip (C_seq (C_seq (C_region (LY rfl (y_move rfl) ?_)))))))
  refine LY rfl (y_lenS rfl rfl Try.underlying145) ?_
  refine LY rfl (y_move rfl) (L_nil (C_block ?_))
  refine C_loopIn (In_round ?_)
  refine C_seq (C_region (LY rfl (y_lss rfl rfl) (L_nil (C_seq (C_cond_t rfl (C_skip (C_seq (C_block (C_seq (C_region ?_))))))))))
  refine LY rfl (y_indexS rfl rfl Try.underlying145 sz_3 (by omega) (by omega) (show _ = 0 from rfl)) ?_
  refine LY rfl (y_load rfl ag_3 (sees 0 0 rfl) rfl) (LY rfl (y_assign rfl) (L_nil (C_seq (C_region (LY rfl (y_move rfl) (LY rfl (y_move rfl) (LY rfl (y_nilCheck rfl) (LY rfl (y_fieldAddr rfl fl_111_0) ?_))))))))
  refine LY rfl (y_indexA rfl rfl Try.underlying109 sz_108 (by omega) (by omega) (show _ = 0 from rfl)) ?_
  refine LY rfl (y_fieldAddr rfl fl_108_0) (LY rfl (y_load rfl ag_54 (sees 1 0 rfl) rfl) (LY rfl (y_move rfl) ?_))
  refine L_op rfl (op_call rfl rfl (fun a w => Try.call63 a w) rfl ?_)
  refine ((read_d h false (n)).sub (hsub_pick [2] rfl)).mono ?_
  rintro _ _ ⟨rfl, rfl⟩
  refine ⟨_, rfl, ?_⟩
  refine LY rfl (y_move rfl) (LY rfl (y_extract rfl rfl) (LY rfl (y_extract rfl rfl) ?_))
  refine L_op rfl (op_alloc zl_114 rfl (fun B2 => ?_))
  refine L_op rfl (op_storeA 0 0 rfl rfl rfl sz_114 (by rw [bs_length, (rS_len false h.oks)]) rfl (bs_one _) (by simp) ?_)
  refine LY rfl (y_assign rfl) (L_nil (C_seq (C_region (LY rfl (y_move rfl) (LY rfl (y_eqi rfl rfl) (LY rfl (y_move rfl) ?_))))))
  refine L_case 42 rfl (fun hg10_3 => ?_) (fun hg10_3 => ?_)
  · skip
    refine LY rfl (y_move rfl) (LY rfl (y_move rfl) (LY rfl (y_nilCheck rfl) (LY rfl (y_fieldAddr rfl fl_111_0) ?_)))
    refine LY rfl (y_indexA rfl rfl Try.underlying109 sz_108 (by omega) (by omega) (show _ = 0 from rfl)) ?_
    refine LY rfl (y_fieldAddr rfl fl_108_1) (LY rfl (y_load rfl ag_106 (sees 3 0 rfl) rfl) (LY rfl (y_move rfl) ?_))
    refine LY rfl (y_lookup rfl rfl Try.underlying106 Try.underlying3 zt_4 (sees 3 1 rfl)) ?_
    refine LY rfl (y_not rfl) (LY rfl (y_pick_t rfl rfl) (LY rfl (y_move rfl) ?_))
    refine L_case 54 rfl (fun hg10_15 => ?_) (fun hg10_15 => ?_)
    · skip
      refine LY rfl (y_move rfl) (LY rfl (y_move rfl) ?_)
      refine LY rfl (y_loadA rfl ag_114 sz_114 (sees 0 0 rfl) (by rw [bs_length, rS_len _ h.oks]; decide) (bs_whole0 _ (rS_len _ h.oks))) ?_
      refine L_op rfl (op_call rfl rfl (fun a w => Try.call76 a w) rfl ?_)
      refine FnS.mono (right_m (sees 3 0 rfl) (hG.sub (hsub (.cons _ (.cons _ (.cons _ (.cons _ (.cons _ (.refl _)))))))) n _ (rS_len _ h.oks)) ?_
      rintro _ _ ⟨rfl, e⟩
      obtain rfl := e.symm
      refine ⟨_, rfl, ?_⟩
      refine LY rfl (y_pick_t rfl rfl) (L_nil ?_)
      refine C_cond rfl (fun hc3 => ?_) (fun hc3 => ?_)
      · skip
        refine C_seq (C_region ?_)
        refine LY rfl (y_loadA rfl ag_114 sz_114 (sees 0 0 rfl) (by rw [bs_length, rS_len _ h.oks]; decide) (bs_whole0 _ (rS_len _ h.oks))) ?_
        refine L_op rfl (op_storeA 4 0 rfl rfl rfl sz_114 (by rw [bs_length, rS_len _ h.oks]) rfl (bs_one _) (by simp) ?_)
        refine LY rfl (y_assign rfl) (L_nil (C_ret ?_))
        refine B_ret (rv_cellA rfl ag_114 sz_114 (sees 4 0 rfl) (by first | (rw [bs_length, rS_len _ h.oks]; decide) | (rw [bs_length, secOf_len]; decide)) (by first | exact bs_whole0 _ (rS_len _ h.oks) | exact bs_whole0 _ (secOf_len 0)) (rv_tmp rfl rv_nil)) ((hsub (.cons_cons _ (.cons_cons _ (.cons _ (.cons _ (.cons _ (.refl _))))))).trans (hsub_pick [3, 1] rfl)) ?_
        exact ⟨by simp_all [mrE, mrS, okAt] <;> rfl, rfl⟩
      · skip
        refine C_skip (C_region ?_)
        refine LY rfl (y_add rfl rfl (show _ = (1 : Int) from rfl)) ?_
        refine LY rfl (y_move rfl) (L_nil ?_)
        refine In_round ?_
        refine C_seq (C_region (LY rfl (y_lss rfl rfl) (L_nil (C_seq (C_cond_f rfl (C_exit (C_seq (C_region ?_))))))))
        refine LY rfl (y_buildA0 Try.underlying114 sz_5 zl_114) ?_
        refine L_op rfl (op_storeA 4 0 rfl rfl rfl sz_114 (by rw [zsec, bs_length, secOf_len]) rfl (by rw [zsec]; exact bs_one _) (by simp) ?_)
        rw [zsec]
        refine LY rfl (y_assign rfl) (L_nil (C_ret ?_))
        refine B_ret (rv_cellA rfl ag_114 sz_114 (sees 4 0 rfl) (by first | (rw [bs_length, rS_len _ h.oks]; decide) | (rw [bs_length, secOf_len]; decide)) (by first | exact bs_whole0 _ (rS_len _ h.oks) | exact bs_whole0 _ (secOf_len 0)) (rv_tmp rfl rv_nil)) ((hsub (.cons_cons _ (.cons_cons _ (.cons _ (.cons _ (.cons _ (.refl _))))))).trans (hsub_pick [3, 1] rfl)) ?_
        exact ⟨by simp_all [mrE, mrS, okAt] <;> rfl, rfl⟩
    · skip
      refine L_skip rfl rfl (L_skip rfl rfl (L_skip rfl rfl (L_skip rfl rfl (LY rfl (y_pick_f rfl rfl) (L_nil (C_cond_f rfl (C_skip (C_region ?_))))))))
      refine LY rfl (y_add rfl rfl (show _ = (1 : Int) from rfl)) ?_
      refine LY rfl (y_move rfl) (L_nil ?_)
      refine In_round ?_
      refine C_seq (C_region (LY rfl (y_lss rfl rfl) (L_nil (C_seq (C_cond_f rfl (C_exit (C_seq (C_region ?_))))))))
      refine LY rfl (y_buildA0 Try.underlying114 sz_5 zl_114) ?_
      refine L_op rfl (op_storeA 4 0 rfl rfl rfl sz_114 (by rw [zsec, bs_length, secOf_len]) rfl (by rw [zsec]; exact bs_one _) (by simp) ?_)
      rw [zsec]
      refine LY rfl (y_assign rfl) (L_nil (C_ret ?_))
      refine B_ret (rv_cellA rfl ag_114 sz_114 (sees 4 0 rfl) (by first | (rw [bs_length, rS_len _ h.oks]; decide) | (rw [bs_length, secOf_len]; decide)) (by first | exact bs_whole0 _ (rS_len _ h.oks) | exact bs_whole0 _ (secOf_len 0)) (rv_tmp rfl rv_nil)) ((hsub (.cons_cons _ (.cons_cons _ (.cons _ (.cons _ (.cons _ (.refl _))))))).trans (hsub_pick [3, 1] rfl)) ?_
      exact ⟨by simp_all [mrE, mrS, okAt] <;> rfl, rfl⟩
  · skip
    refine L_skip rfl rfl (L_skip rfl rfl (L_skip rfl rfl (L_skip rfl rfl (L_skip rfl rfl (L_skip rfl rfl (L_skip rfl rfl (L_skip rfl rfl (L_skip rfl rfl (L_skip rfl rfl (LY rfl (y_pick_f rfl rfl) (LY rfl (y_move rfl) (L_skip rfl rfl (L_skip rfl rfl (L_skip rfl rfl (L_skip rfl rfl (LY rfl (y_pick_f rfl rfl) (L_nil (C_cond_f rfl (C_skip (C_region ?_))))))))))))))))))))
    refine LY rfl (y_add rfl rfl (show _ = (1 : Int) from rfl)) ?_
    refine LY rfl (y_move rfl) (L_nil ?_)
    refine In_round ?_
    refine C_seq (C_region (LY rfl (y_lss rfl rfl) (L_nil (C_seq (C_cond_f rfl (C_exit (C_seq (C_region ?_))))))))
    refine LY rfl (y_buildA0 Try.underlying114 sz_5 zl_114) ?_
    refine L_op rfl (op_storeA 4 0 rfl rfl rfl sz_114 (by rw [zsec, bs_length, secOf_len]) rfl (by rw [zsec]; exact bs_one _) (by simp) ?_)
    rw [zsec]
    refine LY rfl (y_assign rfl) (L_nil (C_ret ?_))
    refine B_ret (rv_cellA rfl ag_114 sz_114 (sees 4 0 rfl) (by first | (rw [bs_length, rS_len _ h.oks]; decide) | (rw [bs_length, secOf_len]; decide)) (by first | exact bs_whole0 _ (rS_len _ h.oks) | exact bs_whole0 _ (secOf_len 0)) (rv_tmp rfl rv_nil)) ((hsub (.cons_cons _ (.cons_cons _ (.cons _ (.cons _ (.cons _ (.refl _))))))).trans (hsub_pick [3, 1] rfl)) ?_
    exact ⟨by simp_all [mrE, mrS, okAt] <;> rfl, rfl⟩

theorem mread_ft {w0 : World} {H : Hp} {D : Duo} {A : Da} {bp : Nat} {m : Mi} (h : Two dt D A m.bx m.bys bp) {p : Int → Sec → Bool} (hG : GoodAt Try.prog w0 H m.gv p) (n : Int) (hn : m.has n = true) (hp : thr A false = false) (hq : thr A true = true) : FnS Try.prog w0 58 #[ptr m.b, .int .i64 n] (m.seg 111 :: D.seg dt :: H) (fun e H' => e = .returned (.tuple #[.agg (bs (mrS m A p n)).toArray, .int .i64 (mrE m A p n)]) ∧ H' = m.seg 111 :: D.seg dt :: H) := by
  refine FnS_intro (n := 63) (rs := [.cell 4 114, .tmp 5]) (vs := [ptr m.b, .int .i64 n]) Try.func58 rfl Try.ntmps58 rfl rfl ?_
  refine C_seq (C_region ?_)
  refine L_op rfl (op_alloc zl_114 rfl (fun B1 => ?_))
  refine LY rfl (y_assign rfl) (L_nil (C_seq (C_seq (C_region (LY rfl (y_move rfl) (LY rfl (y_move rfl) ?_))))))
  refine L_op rfl (op_call rfl rfl (fun a w => Try.call74 a w) rfl ?_)
  refine (has_m _ (sees 1 0 rfl)).mono ?_
  rintro _ _ ⟨rfl, rfl⟩
  rw [hn]
  refine ⟨_, rfl, ?_⟩
  refine LY rfl (y_not rfl) (L_nil (C_cond_f rfl (C_skip (C_seq (C_region (LY rfl (y_move rfl) ?_))))))
  refine L_op rfl (op_call rfl rfl (fun a w => Try.call75 a w) rfl ?_)
  refine ((present_ft h hp hq).sub (hsub_pick [1, 1] rfl)).mono ?_
  rintro _ _ ⟨g1, hg1, rfl, rfl⟩
  cases g1 with
  | none => exact slOk_none hg1 (by decide)
  | some g1 => ?_
  refine ⟨_, rfl, ?_⟩
  refine LY rfl (y_assign rfl) (L_nil (C_seq (C_seq (C_region (LY rfl (y_move rfl) ?_)))))
  refine LY rfl (y_lenS rfl rfl Try.underlying145) ?_
  refine LY rfl (y_eqi rfl rfl) (L_nil (C_cond_f rfl (C_skip (C_seq (C_seq (C_region (LY rfl (y_move rfl) ?_)))))))
  refine LY rfl (y_lenS rfl rfl Try.underlying145) ?_
  refine LY rfl (y_move rfl) (L_nil (C_block ?_))
  refine C_loopIn (In_round ?_)
  refine C_seq (C_region (LY rfl (y_lss rfl rfl) (L_nil (C_seq (C_cond_t rfl (C_skip (C_seq (C_block (C_seq (C_region ?_))))))))))
  refine LY rfl (y_indexS rfl rfl Try.underlying145 sz_3 (by omega) (by omega) (show _ = 0 from rfl)) ?_
  refine LY rfl (y_load rfl ag_3 (sees 0 0 rfl) rfl) (LY rfl (y_assign rfl) (L_nil (C_seq (C_region (LY rfl (y_move rfl) (LY rfl (y_move rfl) (LY rfl (y_nilCheck rfl) (LY rfl (y_fieldAddr rfl fl_111_0) ?_))))))))
  refine LY rfl (y_indexA rfl rfl Try.underlying109 sz_108 (by omega) (by omega) (show _ = 2 from rfl)) ?_
  refine LY rfl (y_fieldAddr rfl fl_108_0) (LY rfl (y_load rfl ag_54 (sees 1 0 rfl) rfl) (LY rfl (y_move rfl) ?_))
  refine L_op rfl (op_call rfl rfl (fun a w => Try.call63 a w) rfl ?_)
  refine ((read_d h true (n)).sub (hsub_pick [2] rfl)).mono ?_
  rintro _ _ ⟨rfl, rfl⟩
  refine ⟨_, rfl, ?_⟩
  refine LY rfl (y_move rfl) (LY rfl (y_extract rfl rfl) (LY rfl (y_extract rfl rfl) ?_))
  refine L_op rfl (op_alloc zl_114 rfl (fun B2 => ?_))
  refine L_op rfl (op_storeA 0 0 rfl rfl rfl sz_114 (by rw [bs_length, (rS_len true h.oks)]) rfl (bs_one _) (by simp) ?_)
  refine LY rfl (y_assign rfl) (L_nil (C_seq (C_region (LY rfl (y_move rfl) (LY rfl (y_eqi rfl rfl) (LY rfl (y_move rfl) ?_))))))
  refine L_case 42 rfl (fun hg10_3 => ?_) (fun hg10_3 => ?_)
  · skip
    refine LY rfl (y_move rfl) (LY rfl (y_move rfl) (LY rfl (y_nilCheck rfl) (LY rfl (y_fieldAddr rfl fl_111_0) ?_)))
    refine LY rfl (y_indexA rfl rfl Try.underlying109 sz_108 (by omega) (by omega) (show _ = 2 from rfl)) ?_
    refine LY rfl (y_fieldAddr rfl fl_108_1) (LY rfl (y_load rfl ag_106 (sees 3 0 rfl) rfl) (LY rfl (y_move rfl) ?_))
    refine LY rfl (y_lookup rfl rfl Try.underlying106 Try.underlying3 zt_4 (sees 3 2 rfl)) ?_
    refine LY rfl (y_not rfl) (LY rfl (y_pick_t rfl rfl) (LY rfl (y_move rfl) ?_))
    refine L_case 54 rfl (fun hg10_15 => ?_) (fun hg10_15 => ?_)
    · skip
      refine LY rfl (y_move rfl) (LY rfl (y_move rfl) ?_)
      refine LY rfl (y_loadA rfl ag_114 sz_114 (sees 0 0 rfl) (by rw [bs_length, rS_len _ h.oks]; decide) (bs_whole0 _ (rS_len _ h.oks))) ?_
      refine L_op rfl (op_call rfl rfl (fun a w => Try.call76 a w) rfl ?_)
      refine FnS.mono (right_m (sees 3 0 rfl) (hG.sub (hsub (.cons _ (.cons _ (.cons _ (.cons _ (.cons _ (.refl _)))))))) n _ (rS_len _ h.oks)) ?_
      rintro _ _ ⟨rfl, e⟩
      obtain rfl := e.symm
      refine ⟨_, rfl, ?_⟩
      refine LY rfl (y_pick_t rfl rfl) (L_nil ?_)
      refine C_cond rfl (fun hc3 => ?_) (fun hc3 => ?_)
      · skip
        refine C_seq (C_region ?_)
        refine LY rfl (y_loadA rfl ag_114 sz_114 (sees 0 0 rfl) (by rw [bs_length, rS_len _ h.oks]; decide) (bs_whole0 _ (rS_len _ h.oks))) ?_
        refine L_op rfl (op_storeA 4 0 rfl rfl rfl sz_114 (by rw [bs_length, rS_len _ h.oks]) rfl (bs_one _) (by simp) ?_)
        refine LY rfl (y_assign rfl) (L_nil (C_ret ?_))
        refine B_ret (rv_cellA rfl ag_114 sz_114 (sees 4 0 rfl) (by first | (rw [bs_length, rS_len _ h.oks]; decide) | (rw [bs_length, secOf_len]; decide)) (by first | exact bs_whole0 _ (rS_len _ h.oks) | exact bs_whole0 _ (secOf_len 0)) (rv_tmp rfl rv_nil)) ((hsub (.cons_cons _ (.cons_cons _ (.cons _ (.cons _ (.cons _ (.refl _))))))).trans (hsub_pick [3, 1] rfl)) ?_
        exact ⟨by simp_all [mrE, mrS, okAt] <;> rfl, rfl⟩
      · skip
        refine C_skip (C_region ?_)
        refine LY rfl (y_add rfl rfl (show _ = (1 : Int) from rfl)) ?_
        refine LY rfl (y_move rfl) (L_nil ?_)
        refine In_round ?_
        refine C_seq (C_region (LY rfl (y_lss rfl rfl) (L_nil (C_seq (C_cond_f rfl (C_exit (C_seq (C_region ?_))))))))
        refine LY rfl (y_buildA0 Try.underlying114 sz_5 zl_114) ?_
        refine L_op rfl (op_storeA 4 0 rfl rfl rfl sz_114 (by rw [zsec, bs_length, secOf_len]) rfl (by rw [zsec]; exact bs_one _) (by simp) ?_)
        rw [zsec]
        refine LY rfl (y_assign rfl) (L_nil (C_ret ?_))
        refine B_ret (rv_cellA rfl ag_114 sz_114 (sees 4 0 rfl) (by first | (rw [bs_length, rS_len _ h.oks]; decide) | (rw [bs_length, secOf_len]; decide)) (by first | exact bs_whole0 _ (rS_len _ h.oks) | exact bs_whole0 _ (secOf_len 0)) (rv_tmp rfl rv_nil)) ((hsub (.cons_cons _ (.cons_cons _ (.cons _ (.cons _ (.cons _ (.refl _))))))).trans (hsub_pick [3, 1] rfl)) ?_
        exact ⟨by simp_all [mrE, mrS, okAt] <;> rfl, rfl⟩
    · skip
      refine L_skip rfl rfl (L_skip rfl rfl (L_skip rfl rfl (L_skip rfl rfl (LY rfl (y_pick_f rfl rfl) (L_nil (C_cond_f rfl (C_skip (C_region ?_))))))))
      refine LY rfl (y_add rfl rfl (show _ = (1 : Int) from rfl)) ?_
      refine LY rfl (y_move rfl) (L_nil ?_)
      refine In_round ?_
      refine C_seq (C_region (LY rfl (y_lss rfl rfl) (L_nil (C_seq (C_cond_f rfl (C_exit (C_seq (C_region ?_))))))))
      refine LY rfl (y_buildA0 Try.underlying114 sz_5 zl_114) ?_
      refine L_op rfl (op_storeA 4 0 rfl rfl rfl sz_114 (by rw [zsec, bs_length, secOf_len]) rfl (by rw [zsec]; exact bs_one _) (by simp) ?_)
      rw [zsec]
      refine LY rfl (y_assign rfl) (L_nil (C_ret ?_))
      refine B_ret (rv_cellA rfl ag_114 sz_114 (sees 4 0 rfl) (by first | (rw [bs_length, rS_len _ h.oks]; decide) | (rw [bs_length, secOf_len]; decide)) (by first | exact bs_whole0 _ (rS_len _ h.oks) | exact bs_whole0 _ (secOf_len 0)) (rv_tmp rfl rv_nil)) ((hsub (.cons_cons _ (.cons_cons _ (.cons _ (.cons _ (.cons _ (.refl _))))))).trans (hsub_pick [3, 1] rfl)) ?_
      exact ⟨by simp_all [mrE, mrS, okAt] <;> rfl, rfl⟩
  · skip
    refine L_skip rfl rfl (L_skip rfl rfl (L_skip rfl rfl (L_skip rfl rfl (L_skip rfl rfl (L_skip rfl rfl (L_skip rfl rfl (L_skip rfl rfl (L_skip rfl rfl (L_skip rfl rfl (LY rfl (y_pick_f rfl rfl) (LY rfl (y_move rfl) (L_skip rfl rfl (L_skip rfl rfl (L_skip rfl rfl (L_skip rfl rfl (LY rfl (y_pick_f rfl rfl) (L_nil (C_cond_f rfl (C_skip (C_region ?_))))))))))))))))))))
    refine LY rfl (y_add rfl rfl (show _ = (1 : Int) from rfl)) ?_
    refine LY rfl (y_move rfl) (L_nil ?_)
    refine In_round ?_
    refine C_seq (C_region (LY rfl (y_lss rfl rfl) (L_nil (C_seq (C_cond_f rfl (C_exit (C_seq (C_region ?_))))))))
    refine LY rfl (y_buildA0 Try.underlying114 sz_5 zl_114) ?_
    refine L_op rfl (op_storeA 4 0 rfl rfl rfl sz_114 (by rw [zsec, bs_length, secOf_len]) rfl (by rw [zsec]; exact bs_one _) (by simp) ?_)
    rw [zsec]
    refine LY rfl (y_assign rfl) (L_nil (C_ret ?_))
    refine B_ret (rv_cellA rfl ag_114 sz_114 (sees 4 0 rfl) (by first | (rw [bs_length, rS_len _ h.oks]; decide) | (rw [bs_length, secOf_len]; decide)) (by first | exact bs_whole0 _ (rS_len _ h.oks) | exact bs_whole0 _ (secOf_len 0)) (rv_tmp rfl rv_nil)) ((hsub (.cons_cons _ (.cons_cons _ (.cons _ (.cons _ (.cons _ (.refl _))))))).trans (hsub_pick [3, 1] rfl)) ?_
    exact ⟨by simp_all [mrE, mrS, okAt] <;> rfl, rfl⟩

theorem mread_ff {w0 : World} {H : Hp} {D : Duo} {A : Da} {bp : Nat} {m : Mi} (h : Two dt D A m.bx m.bys bp) {p : Int → Sec → Bool} (hG : GoodAt Try.prog w0 H m.gv p) (n : Int) (hn : m.has n = true) (hp : thr A false = false) (hq : thr A true = false) : FnS Try.prog w0 58 #[ptr m.b, .int .i64 n] (m.seg 111 :: D.seg dt :: H) (fun e H' => e = .returned (.tuple #[.agg (bs (mrS m A p n)).toArray, .int .i64 (mrE m A p n)]) ∧ H' = m.seg 111 :: D.seg dt :: H) := by
  refine FnS_intro (n := 63) (rs := [.cell 4 114, .tmp 5]) (vs := [ptr m.b, .int .i64 n]) Try.func58 rfl Try.ntmps58 rfl rfl ?_
  refine C_seq (C_region ?_)
  refine L_op rfl (op_alloc zl_114 rfl (fun B1 => ?_))
  refine LY rfl (y_assign rfl) (L_nil (C_seq (C_seq (C_region (LY rfl (y_move rfl) (LY rfl (y_move rfl) ?_))))))
  refine L_op rfl (op_call rfl rfl (fun a w => Try.call74 a w) rfl ?_)
  refine (has_m _ (sees 1 0 rfl)).mono ?_
  rintro _ _ ⟨rfl, rfl⟩
  rw [hn]
  refine ⟨_, rfl, ?_⟩
  refine LY rfl (y_not rfl) (L_nil (C_cond_f rfl (C_skip (C_seq (C_region (LY rfl (y_move rfl) ?_))))))
  refine L_op rfl (op_call rfl rfl (fun a w => Try.call75 a w) rfl ?_)
  refine ((present_ff h hp hq).sub (hsub_pick [1, 1] rfl)).mono ?_
  rintro _ _ ⟨rfl, rfl⟩
  refine ⟨_, rfl, ?_⟩
  refine LY rfl (y_assign rfl) (L_nil (C_seq (C_seq (C_region (LY rfl (y_move rfl) ?_)))))
  refine LY rfl (y_lenS rfl rfl Try.underlying145) ?_
  refine LY rfl (y_eqi rfl rfl) (L_nil (C_cond_t rfl (C_seq (C_region ?_))))
  refine LY rfl (y_buildA0 Try.underlying114 sz_5 zl_114) ?_
  refine L_op rfl (op_storeA 2 0 rfl rfl rfl sz_114 (by rw [zsec, bs_length, secOf_len]) rfl (by rw [zsec]; exact bs_one _) (by simp) ?_)
  rw [zsec]
  refine LY rfl (y_assign rfl) (L_nil (C_ret ?_))
  refine B_ret (rv_cellA rfl ag_114 sz_114 (sees 2 0 rfl) (by first | (rw [bs_length, rS_len _ h.oks]; decide) | (rw [bs_length, secOf_len]; decide)) (by first | exact bs_whole0 _ (rS_len _ h.oks) | exact bs_whole0 _ (secOf_len 0)) (rv_tmp rfl rv_nil)) ((hsub (.cons_cons _ (.cons_cons _ (.cons _ (.refl _))))).trans (hsub_pick [0, 0] rfl)) ?_
  exact ⟨by simp_all [mrE, mrS, okAt] <;> rfl, rfl⟩

theorem mread_m {w0 : World} {H : Hp} {D : Duo} {A : Da} {bp : Nat} {m : Mi} (h : Two dt D A m.bx m.bys bp) {p : Int → Sec → Bool} (hG : GoodAt Try.prog w0 H m.gv p) (n : Int) : FnS Try.prog w0 58 #[ptr m.b, .int .i64 n] (m.seg 111 :: D.seg dt :: H) (fun e H' => e = .returned (.tuple #[.agg (bs (mrS m A p n)).toArray, .int .i64 (mrE m A p n)]) ∧ H' = m.seg 111 :: D.seg dt :: H) := by
  cases hn : m.has n
  · exact mread_no h hG n hn
  · cases hp : thr A false <;> cases hq : thr A true
    · exact mread_ff h hG n hn hp hq
    · exact mread_ft h hG n hn hp hq
    · exact mread_tf h hG n hn hp hq
    · exact mread_tt h hG n hn hp hq

end Go.Proofs.Ytighbhplfjjgpaa

/- walks (own work; the walks' lines by a program of this repo). -/
set_option linter.unusedVariables false
set_option linter.unusedSimpArgs false
set_option maxRecDepth 20000
namespace Go.Proofs.Ytighbhplfjjgpaa
open Go.Sl
attribute [local irreducible] BodyQ WpC WpL WpS WpH OpW FnS


theorem readg_v {w0 : World} {H : Hp} {gv : Value} {D : Duo} {A : Da} {m : Mi} {K : Nat} {X Y : List Sec} {k0 k1 mb bx bys bp : Nat} (h : Ms dt gv D A m K X Y k0 k1 mb bx bys bp) {p : Int → Sec → Bool} (hG : GoodAt Try.prog w0 H gv p) {n : Nat} {s t : Sec} (hs : X[n]? = some s) (ht : Y[n]? = some t) : FnS Try.prog w0 58 #[ptr mb, .int .i64 (n : Int)] (m.seg 111 :: D.seg dt :: H) (fun e H' => e = .returned (.tuple #[.agg (bs (rdv p n s t)).toArray, .int .i64 (rde p n s t)]) ∧ H' = m.seg 111 :: D.seg dt :: H) := by
  have hT : Two dt D A m.bx m.bys bp := by rw [h.bx, h.bys]; exact h.two
  have := mread_m (w0 := w0) (H := H) hT (p := p) (by rw [h.gv]; exact hG) (n : Int)
  rw [(h.rd hs ht).1, (h.rd hs ht).2, h.mb] at this
  exact this

end Go.Proofs.Ytighbhplfjjgpaa

/- Facts of the translation's types, for the kernel (own work, by a program of this repo). -/
namespace Go.Proofs.Ytighbhplfjjgpaa
open Go.Sl
theorem ag_87 : isAggT Try.prog 87 = some false := by kernel_rfl
theorem ag_88 : isAggT Try.prog 88 = some false := by kernel_rfl
theorem eg_23 : Try.prog.eqGuardType Try.prog.depth 23 = false := by kernel_rfl
theorem fi_23 : intFieldsT Try.prog 23 = some [.i64, .i64] := by kernel_rfl
theorem fl_90_0 : fldT Try.prog 90 0 = some 0 := by kernel_rfl
theorem fl_90_1 : fldT Try.prog 90 1 = some 2 := by kernel_rfl
theorem fl_90_2 : fldT Try.prog 90 2 = some 3 := by kernel_rfl
theorem ni_33 : notIntT Try.prog 33 = true := by kernel_rfl
theorem pl_90 : placesT Try.prog 90 = some [(0, 2), (2, 1), (3, 1)] := by kernel_rfl
theorem zl_90 : zeroL Try.prog 90 = some ([.int .i64 0, .int .i64 0] ++ [.map none, .map none]) := by kernel_rfl
theorem zt_3 : zeroT Try.prog 3 = some (.int .i64 0) := by kernel_rfl
end Go.Proofs.Ytighbhplfjjgpaa

/- Maps of numbers to values: looked up, told anew, let go, ranged over (own work). -/
set_option linter.unusedVariables false
set_option linter.unusedSimpArgs false
namespace Go.Sl
variable {P : Program} {n : FN} {w0 : World} {Q : Post} {E E' : Env} {H H' HS : Hp} {W : World → Prop} {K : Env → Hp → Prop}
variable {d : Option Nat} {ty t t2 : Nat} {ps : String} {af : Array Edge} {g : Option (Nat × Bool)} {x y c : Operand}
/-- A map: each entry's key, value and stamp; and the clock. -/
abbrev Ge := Int × Value × Nat
def ge (ik : IntKind) (x : Ge) : MapEntry := { key := .int ik x.1, val := x.2.1, born := x.2.2 }
structure Gm where
  es : List Ge
  ck : Nat
abbrev Gm.obj (ik : IntKind) (m : Gm) : Obj := .map (m.es.map (ge ik)).toArray m.ck
abbrev Gm.new : Gm := ⟨[], 0⟩
def Gm.has (m : Gm) (k : Int) : Bool := m.es.any (·.1 == k)
def Gm.get (m : Gm) (k : Int) : Option Value := (m.es.find? (·.1 == k)).map (·.2.1)
def Gm.put (m : Gm) (k : Int) (v : Value) : Gm := if m.has k then ⟨m.es.map fun x => if x.1 = k then (k, v, x.2.2) else x, m.ck⟩ else ⟨m.es ++ [(k, v, m.ck)], m.ck + 1⟩
def Gm.del (m : Gm) (k : Int) : Gm := ⟨m.es.filter fun x => x.1 != k, m.ck⟩
/-- The entry of a key, laid if it isn't there; and its stamp. -/
def Gm.ent (m : Gm) (k : Int) (z : Value) : Gm × Nat := match m.es.find? (·.1 == k) with | some x => (m, x.2.2) | none => (⟨m.es ++ [(k, z, m.ck)], m.ck + 1⟩, m.ck)
structure Gm.ok (m : Gm) : Prop where
  keys : (m.es.map (·.1)).Nodup
  born : (m.es.map (·.2.2)).Nodup
  lt : ∀ x ∈ m.es, x.2.2 < m.ck
theorem Gm.new_ok : Gm.new.ok := ⟨by simp, by simp, by simp⟩
theorem Gm.has_get (m : Gm) (k : Int) : m.has k = (m.get k).isSome := by
  unfold Gm.has Gm.get
  rw [Option.isSome_map, Bool.eq_iff_iff, List.any_eq_true, List.find?_isSome]
theorem map_self {α : Type} {f : α → α} {l : List α} (h : ∀ x ∈ l, f x = x) : l.map f = l := (List.map_congr_left h).trans (List.map_id _)
theorem Gm.get_put (m : Gm) (k j : Int) (v : Value) : (m.put k v).get j = if j = k then some v else m.get j := by
  unfold Gm.put
  split
  · rename_i hk
    unfold Gm.has at hk
    unfold Gm.get
    simp only
    generalize m.es = l at hk
    clear m
    induction l with
    | nil => simp at hk
    | cons x l ih =>
      simp only [List.map_cons]
      by_cases e : x.1 = k
      · rw [if_pos e]
        by_cases e2 : j = k
        · subst e2; simp
        · rw [if_neg e2, List.find?_cons_of_neg (by simpa using Ne.symm e2), List.find?_cons_of_neg (by rw [e]; simpa using Ne.symm e2)]
          by_cases hl : l.any (·.1 == k) = true
          · rw [ih hl, if_neg e2]
          · have : l.map (fun x => if x.1 = k then (k, v, x.2.2) else x) = l := by
              refine map_self ?_
              intro y hy
              rw [if_neg]
              intro h
              exact hl (List.any_eq_true.2 ⟨y, hy, by simpa using h⟩)
            rw [this]
      · rw [if_neg e]
        have hl : l.any (·.1 == k) = true := by simpa [e] using hk
        by_cases e2 : x.1 = j
        · rw [List.find?_cons_of_pos (by simpa using e2), List.find?_cons_of_pos (by simpa using e2), if_neg (by rw [← e2]; exact e)]
        · rw [List.find?_cons_of_neg (by simpa using e2), List.find?_cons_of_neg (by simpa using e2), ih hl]
  · rename_i hk
    unfold Gm.get
    simp only [List.find?_append]
    by_cases e : j = k
    · subst e
      have : m.es.find? (·.1 == j) = none := by
        rw [List.find?_eq_none]
        intro y hy h
        exact hk (List.any_eq_true.2 ⟨y, hy, h⟩)
      rw [this]; simp
    · rw [if_neg e, List.find?_cons_of_neg (by simpa using Ne.symm e)]
      simp
theorem Gm.get_del (m : Gm) (k j : Int) : (m.del k).get j = if j = k then none else m.get j := by
  unfold Gm.del Gm.get
  simp only
  by_cases e : j = k
  · subst e
    rw [if_pos rfl]
    have : (m.es.filter fun x => x.1 != j).find? (·.1 == j) = none := by
      rw [List.find?_eq_none]
      intro y hy h
      rw [List.mem_filter] at hy
      simp at hy h
      exact hy.2 h
    rw [this]; rfl
  · rw [if_neg e, List.find?_filter]
    congr 2
    funext y
    by_cases h : y.1 = j
    · have : y.1 ≠ k := by rw [h]; exact e
      simp [h, e]
    · simp [h]
theorem Gm.put_ok {m : Gm} (h : m.ok) (k : Int) (v : Value) : (m.put k v).ok := by
  unfold Gm.put
  split
  · refine ⟨?_, ?_, ?_⟩
    · simp only [List.map_map]
      rw [show ((fun x : Ge => x.1) ∘ fun x : Ge => if x.1 = k then (k, v, x.2.2) else x) = (fun x : Ge => x.1) from by
        funext x; simp only [Function.comp]; split
        · rename_i e; exact e.symm
        · rfl]
      exact h.keys
    · simp only [List.map_map]
      rw [show ((fun x : Ge => x.2.2) ∘ fun x : Ge => if x.1 = k then (k, v, x.2.2) else x) = (fun x : Ge => x.2.2) from by
        funext x; simp only [Function.comp]; split <;> rfl]
      exact h.born
    · intro x hx
      simp only [List.mem_map] at hx
      obtain ⟨y, hy, rfl⟩ := hx
      have := h.lt y hy
      split <;> exact this
  · rename_i hk
    refine ⟨?_, ?_, ?_⟩
    · simp only [List.map_append, List.map_cons, List.map_nil]
      rw [List.nodup_append]
      refine ⟨h.keys, by simp, ?_⟩
      intro a ha b hb e
      simp at hb
      subst hb; subst e
      obtain ⟨y, hy, e⟩ := List.mem_map.1 ha
      exact hk (List.any_eq_true.2 ⟨y, hy, by simpa using e⟩)
    · simp only [List.map_append, List.map_cons, List.map_nil]
      rw [List.nodup_append]
      refine ⟨h.born, by simp, ?_⟩
      intro a ha b hb e
      simp at hb
      subst hb; subst e
      obtain ⟨y, hy, e⟩ := List.mem_map.1 ha
      have := h.lt y hy
      omega
    · intro x hx
      simp only [List.mem_append, List.mem_singleton] at hx
      rcases hx with hx | rfl
      · have := h.lt x hx; simp only; omega
      · simp
theorem Gm.del_ok {m : Gm} (h : m.ok) (k : Int) : (m.del k).ok :=
  ⟨((List.filter_sublist (l := m.es)).map _).nodup h.keys, ((List.filter_sublist (l := m.es)).map _).nodup h.born, fun x hx => h.lt x (List.mem_filter.1 hx).1⟩
theorem Gm.put_len (m : Gm) (k : Int) (v : Value) : (m.put k v).es.length = if (m.get k).isSome then m.es.length else m.es.length + 1 := by
  rw [← m.has_get]
  unfold Gm.put
  split <;> simp
theorem Gm.del_len {m : Gm} (h : m.ok) (k : Int) : (m.del k).es.length = if (m.get k).isSome then m.es.length - 1 else m.es.length := by
  rw [← m.has_get]
  have hn := h.keys
  unfold Gm.del Gm.has
  simp only
  generalize m.es = l at hn
  clear h m
  induction l with
  | nil => simp
  | cons x l ih =>
    simp only [List.map_cons, List.nodup_cons] at hn
    by_cases e : x.1 = k
    · have : l.filter (fun x => x.1 != k) = l := by
        rw [List.filter_eq_self]
        intro y hy
        simp only [bne_iff_ne, ne_eq]
        intro h
        exact hn.1 (List.mem_map.2 ⟨y, hy, by rw [h, e]⟩)
      simp [e, this]
    · have hi := ih hn.2
      rw [List.filter_cons_of_pos (by simpa using e), List.length_cons, hi, List.any_cons]
      simp only [show (x.1 == k) = false from by simpa using e, Bool.false_or, List.length_cons]
      split
      · rename_i h
        obtain ⟨y, hy, _⟩ := List.any_eq_true.1 h
        have := List.length_pos_of_mem hy
        omega
      · rfl
/-! ### The machine's own look -/
theorem findNow_ge (ik : IntKind) (k : Int) : ∀ (es : List Ge) (i : Nat), Instr.findNow (.int ik) (.int ik k) (es.map (ge ik)) i = some ((es.findIdx? (·.1 == k)).map fun j => (i + j, ((es[j]?).map (·.2.1)).getD undef))
  | [], i => rfl
  | x :: es, i => by
    rw [List.map_cons, Instr.findNow]
    simp only [ge, Instr.sameNow, if_true]
    rw [List.findIdx?_cons]
    by_cases h : k = x.1
    · subst h; simp
    · rw [show (k == x.1) = false from by simpa using h, show (x.1 == k) = false from by simpa using Ne.symm h]
      simp only [Bool.false_eq_true, if_false]
      rw [findNow_ge ik k es (i + 1)]
      simp only [Option.map_map]
      congr 1
      congr 1
      funext j
      simp only [Function.comp]
      rw [show i + 1 + j = i + (j + 1) by omega]
      simp
theorem run_findKeyG {ik : IntKind} {kt : Nat} (hk : P.underlying kt = some (.int ik)) (es : List Ge) (k : Int) (w : World) :
    (Instr.findKey kt (.int ik k) (es.map (ge ik))).run P w = .ok ((es.findIdx? (·.1 == k)).map fun j => (j, ((es[j]?).map (·.2.1)).getD undef)) w := by
  unfold Instr.findKey
  rw [Sem.run_bind, run_underlying hk]
  simp only [Result.andThen_ok]
  rw [findNow_ge]
  simp
theorem run_checkKeyG {ik : IntKind} {kt : Nat} (hk : P.underlying kt = some (.int ik)) (b : Bool) (k : Int) (w : World) : (Instr.checkKey b 10000 kt (.int ik k)).run P w = .ok () w := by
  have key : ∀ m, (Instr.checkKey b (m + 1) kt (.int ik k)).run P w = .ok () w := by
    intro m
    unfold Instr.checkKey
    rw [Sem.run_bind, run_underlying hk]
    rfl
  exact key 9999
theorem find_idx (es : List Ge) (k : Int) : es.find? (·.1 == k) = (es.findIdx? (·.1 == k)).bind fun i => es[i]? := by
  induction es with
  | nil => rfl
  | cons x es ih =>
    rw [List.findIdx?_cons, List.find?_cons]
    split
    · rename_i h; simp [h]
    · rename_i h
      rw [ih]
      cases es.findIdx? (·.1 == k) <;> simp [h]
theorem y_lookupG {ik : IntKind} {kt et r : Nat} {m : Gm} {k : Int} {z : Value} (hx : ev E x = some (.map (some r))) (hy : ev E y = some (.int ik k)) (hu : P.underlying t = some (.map kt et)) (hk : P.underlying kt = some (.int ik)) (hz : zeroT P et = some z) (hs : Sees W r (m.obj ik)) :
    YV P n E W (.lookup t x y false) ty ((m.get k).getD z) := fun a w ha hw d ps af g => by
  have h := run_getMap (P := P) (hs w hw)
  have hr : (Instr.lookup t (.map (some r)) (.int ik k) false).run P w = .ok ((m.get k).getD z) w := by
    unfold Instr.lookup
    rw [Sem.run_bind, run_underlying hu]
    simp only [Result.andThen_ok, Sem.run_bind, h, Sem.run_pure, run_checkKeyG hk, run_findKeyG hk]
    unfold Gm.get
    rw [find_idx]
    cases hi : m.es.findIdx? (·.1 == k) with
    | none => simp [run_zeroValue hz]
    | some i =>
      obtain ⟨hlt, _⟩ := List.findIdx?_eq_some_iff_getElem.1 hi
      simp [hlt]
  simp only [execOp, ha.eval hx, ha.eval hy]
  rw [Sem.run_bind, hr]
  rfl
theorem y_lookupG2 {ik : IntKind} {kt et r : Nat} {m : Gm} {k : Int} {z : Value} (hx : ev E x = some (.map (some r))) (hy : ev E y = some (.int ik k)) (hu : P.underlying t = some (.map kt et)) (hk : P.underlying kt = some (.int ik)) (hz : zeroT P et = some z) (hs : Sees W r (m.obj ik)) :
    YV P n E W (.lookup t x y true) ty (.tuple #[(m.get k).getD z, .bool (m.get k).isSome]) := fun a w ha hw d ps af g => by
  have h := run_getMap (P := P) (hs w hw)
  have hr : (Instr.lookup t (.map (some r)) (.int ik k) true).run P w = .ok (.tuple #[(m.get k).getD z, .bool (m.get k).isSome]) w := by
    unfold Instr.lookup
    rw [Sem.run_bind, run_underlying hu]
    simp only [Result.andThen_ok, Sem.run_bind, h, Sem.run_pure, run_checkKeyG hk, run_findKeyG hk]
    unfold Gm.get
    rw [find_idx]
    cases hi : m.es.findIdx? (·.1 == k) with
    | none => simp [run_zeroValue hz]
    | some i =>
      obtain ⟨hlt, _⟩ := List.findIdx?_eq_some_iff_getElem.1 hi
      simp [hlt]
  simp only [execOp, ha.eval hx, ha.eval hy]
  rw [Sem.run_bind, hr]
  rfl
theorem op_makeMapG (ik : IntKind) (hd : dok d n = true) (k : ∀ b, K (put E d (.map (some b))) ([(b, Gm.new.obj ik)] :: H)) : OpW P n w0 Q ⟨d, .makeMap t none, ty, ps, af, g⟩ E H K := op_run hd fun a w ha hw => by
  refine ⟨.map (some w.heap.size), w.alloc (.map #[] 0), _, ?_, hw.alloc _, k _⟩
  rfl
theorem modify_key {ik : IntKind} {es : List Ge} {k : Int} {i : Nat} (hn : (es.map (·.1)).Nodup) (h : es.findIdx? (·.1 == k) = some i) (e : MapEntry → MapEntry) (f : Ge → Ge) (he : ∀ x : Ge, x.1 = k → e (ge ik x) = ge ik (f x)) : (es.map (ge ik)).toArray.modify i e = ((es.map fun x => if x.1 = k then f x else x).map (ge ik)).toArray := by
  obtain ⟨hi, hp, _⟩ := List.findIdx?_eq_some_iff_getElem.1 h
  have hpk : es[i].1 = k := by simpa using hp
  apply Array.ext
  · simp
  · intro j h1 h2
    rw [Array.getElem_modify]
    simp only [List.getElem_toArray, List.getElem_map]
    have hj : j < es.length := by simpa using h1
    split
    · rename_i e2
      subst e2
      rw [if_pos hpk, he _ hpk]
    · rename_i e2
      rw [if_neg]
      intro hk
      have : (es.map (·.1))[i]'(by simpa using hi) = (es.map (·.1))[j]'(by simpa using hj) := by simp [hpk, hk]
      exact e2 ((List.getElem_inj hn).1 this)
theorem same_bits (ik : IntKind) (k : Int) : Instr.sameBits 10000 (Value.int ik k) (Value.int ik k) = true := by simp [Instr.sameBits]
theorem op_mapUpdateG {ik : IntKind} {kt et r : Nat} {m : Gm} {k : Int} {v : Operand} {u : Value} (s j : Nat) (hx : ev E x = some (.map (some r))) (hy : ev E y = some (.int ik k)) (hv : ev E v = some u) (hu : P.underlying t = some (.map kt et)) (hk : P.underlying kt = some (.int ik)) (ho : m.ok)
    (hH : getH H s j = some (r, m.obj ik)) (hd : dok d n = true) (kk : K (put E d undef) (setH H s j ((m.put k u).obj ik))) :
    OpW P n w0 Q ⟨d, .mapUpdate t x y v, ty, ps, af, g⟩ E H K := op_runs hd fun a w ha hw => by
  have h := hw.has _ (getH_mem hH)
  have hg := run_getMap (P := P) h
  refine ⟨_, _, ?_, hw.putB hH _, kk⟩
  have hset : ∀ o, (setObj r o).run P w = .ok () (putB w r o) := fun o => run_setMap h o
  have hr : (Instr.mapUpdate t (.map (some r)) (.int ik k) u).run P w = .ok () (putB w r ((m.put k u).obj ik)) := by
    unfold Instr.mapUpdate
    rw [Sem.run_bind, run_underlying hu]
    simp only [Result.andThen_ok, Sem.run_bind, hg, run_checkKeyG hk, run_findKeyG hk]
    have hhas : m.has k = (m.es.findIdx? (·.1 == k)).isSome := by simp [Gm.has, List.findIdx?_isSome]
    cases hi : m.es.findIdx? (·.1 == k) with
    | none =>
      have hf : m.has k = false := by rw [hhas, hi]; rfl
      simp only [Option.map_none, hset, Gm.put, hf, Bool.false_eq_true, if_false]
      congr 2
      simp [ge]
    | some i =>
      have hf : m.has k = true := by rw [hhas, hi]; rfl
      obtain ⟨hlt, hp, _⟩ := List.findIdx?_eq_some_iff_getElem.1 hi
      have hke : (m.es[i]).1 = k := by simpa using hp
      have hkey : ((((m.es.map (ge ik)).toArray[i]?).map (·.key)).getD (Value.int ik k)) = .int ik k := by
        simp [hlt, ge, hke]
      simp only [Option.map_some, Sem.run_bind, hkey, Instr.keyThatStays]
      rw [same_bits]
      simp only [if_true, Sem.run_pure, Result.andThen_ok, hset, Gm.put, hf]
      congr 2
      rw [modify_key (f := fun x => (k, u, x.2.2)) ho.keys hi]
      intro x hxk
      simp [ge]
  simp only [execOp, ha.eval hx, ha.eval hy, ha.eval hv]
  rw [Sem.run_bind, hr]
  rfl
/-! ### Ranged over -/
def itO (bm since : Nat) (seen : Array Nat) (c0 : Nat) : Obj := .mapIter (some bm) since seen c0
/-- What is left. -/
def Gm.left (m : Gm) (seen : Array Nat) : List Ge := m.es.filter fun x => !seen.contains x.2.2
theorem Gm.left_of (ik : IntKind) (m : Gm) (seen : Array Nat) : (leftOf (m.es.map (ge ik)).toArray seen).toList = (m.left seen).map (ge ik) := by
  unfold leftOf Gm.left
  rw [Array.toList_filter, List.filter_map]
  rfl
theorem op_rangeG {ik : IntKind} {kt et r : Nat} {m : Gm} (hx : ev E x = some (.map (some r))) (hu : P.underlying t = some (.map kt et)) (s j : Nat) (hH : getH H s j = some (r, m.obj ik)) (hd : dok d n = true)
    (k : ∀ b, K (put E d (.pointer (some ⟨b, 0, none⟩))) ([(b, itO r m.ck #[] m.ck)] :: H)) : OpW P n w0 Q ⟨d, .range t x, ty, ps, af, g⟩ E H K := op_run hd fun a w ha hw => by
  have h := hw.has _ (getH_mem hH)
  refine ⟨_, _, _, ?_, hw.alloc (itO r m.ck #[] m.ck), k _⟩
  have hr := run_range_map (P := P) w t kt et r (m.es.map (ge ik)).toArray m.ck hu h
  simp only [execOp, ha.eval hx]
  rw [Sem.run_bind, hr]
  rfl
theorem op_nextG {ik : IntKind} {b r since c0 : Nat} {seen : Array Nat} {m : Gm} (s j s2 j2 : Nat) (hx : ev E x = some (.pointer (some ⟨b, 0, none⟩))) (hi : getH H s j = some (b, itO r since seen c0)) (hm : getH H s2 j2 = some (r, m.obj ik)) (hold : ∀ x ∈ m.es, x.2.2 < since) (hsc : since ≤ c0) (hd : dok d n = true)
    (k0 : m.left seen = [] → K (put E d (.tuple #[.bool false])) H)
    (k1 : ∀ e ∈ m.left seen, K (put E d (.tuple #[.bool true, .int ik e.1, e.2.1])) (setH H s j (itO r since (seen.push e.2.2) m.ck))) : OpW P n w0 Q ⟨d, .next x false, ty, ps, af, g⟩ E H K := op_run hd fun a w ha hw => by
  have h1 := hw.has _ (getH_mem hi)
  have h2 := hw.has _ (getH_mem hm)
  rcases run_next_at (P := P) w ty b r since c0 seen (m.es.map (ge ik)).toArray m.ck h1 h2 (fun x hx => by
    simp only [List.mem_map] at hx
    obtain ⟨y, hy, rfl⟩ := hx
    exact hold y hy) hsc with ⟨h0, hr⟩ | ⟨e, he, w1, hw1, hr⟩
  · refine ⟨_, _, _, ?_, hw, k0 ?_⟩
    · simp only [execOp, ha.eval hx]
      rw [Sem.run_bind, hr]
      rfl
    · have := m.left_of ik seen
      rw [Array.eq_empty_of_size_eq_zero h0] at this
      simpa using this.symm
  · rw [m.left_of ik seen] at he
    obtain ⟨q, hq, rfl⟩ := List.mem_map.1 he
    have s1 : St w0 w1 H := by rcases hw1 with rfl | rfl; exact hw; exact hw.drew
    refine ⟨_, _, _, ?_, s1.putB hi (itO r since (seen.push q.2.2) m.ck), k1 q hq⟩
    simp only [execOp, ha.eval hx]
    rw [Sem.run_bind, hr]
    rfl
theorem Gm.left_new (m : Gm) : m.left #[] = m.es := by
  unfold Gm.left
  rw [List.filter_eq_self]
  intro x hx
  simp
theorem Gm.left_mem {m : Gm} {seen : Array Nat} {e : Ge} (h : e ∈ m.left seen) : e ∈ m.es := (List.mem_filter.1 h).1
theorem Gm.left_push {m : Gm} (ho : m.ok) {seen : Array Nat} {e : Ge} (h : e ∈ m.left seen) : (m.left seen).Perm (e :: m.left (seen.push e.2.2)) := by
  have hn : ((m.left seen).map (·.2.2)).Nodup := ((List.filter_sublist (l := m.es)).map _).nodup ho.born
  have e1 : m.left (seen.push e.2.2) = (m.left seen).filter fun x => x.2.2 != e.2.2 := by
    unfold Gm.left
    rw [List.filter_filter]
    congr 1
    funext x
    rw [Array.contains_push]
    by_cases hx : x.2.2 = e.2.2
    · simp [hx]
    · by_cases hs : x.2.2 ∈ seen <;> simp [hx, hs, bne]
  rw [e1]
  generalize m.left seen = l at h hn
  clear e1
  induction l with
  | nil => cases h
  | cons x l ih =>
    simp only [List.map_cons, List.nodup_cons] at hn
    rcases List.mem_cons.1 h with rfl | h
    · rw [List.filter_cons_of_neg (by simp)]
      have : l.filter (fun x => x.2.2 != e.2.2) = l := by
        rw [List.filter_eq_self]
        intro y hy
        simp only [bne_iff_ne, ne_eq]
        intro hh
        exact hn.1 (List.mem_map.2 ⟨y, hy, hh⟩)
      rw [this]
    · have hne : x.2.2 ≠ e.2.2 := fun hh => hn.1 (List.mem_map.2 ⟨e, h, hh.symm⟩)
      rw [List.filter_cons_of_pos (by simpa using hne)]
      exact ((ih h hn.2).cons x).trans (List.Perm.swap _ _ _)
theorem y_entryG {ik : IntKind} {b r since : Nat} {seen : Array Nat} {m : Gm} {e : Ge} (hx : ev E x = some (.pointer (some ⟨b, 0, none⟩))) (hi : Sees W b (itO r since (seen.push e.2.2) m.ck)) (hm : Sees W r (m.obj ik)) (ho : m.ok) (he : e ∈ m.es) :
    YV P n E W (.entry x) ty (.tuple #[.int ik e.1, e.2.1]) := fun a w ha hw d ps af g => by
  have hr := run_entry_at (P := P) w b r since seen (m.es.map (ge ik)).toArray m.ck (ge ik e) (hi w hw) (hm w hw) (by simpa using List.mem_map.2 ⟨e, he, rfl⟩) (by simpa [Function.comp_def, ge] using ho.born)
  simp only [execOp, ha.eval hx]
  rw [Sem.run_bind, hr]
  rfl
theorem y_lenG {ik : IntKind} {r : Nat} {kt et : Nat} {m : Gm} {tys : Array TypeId} (hx : ev E x = some (.map (some r))) (h0 : tys[0]? = some t) (hu : P.underlying t = some (.map kt et)) (hs : Sees W r (m.obj ik)) :
    YV P n E W (.call { callee := .builtin .len, args := [x].toArray, argTypes := tys }) ty (.int .i64 (m.es.length : Int)) := by
  have := y_lenM (P := P) (n := n) (E := E) (W := W) (x := x) (ty := ty) (es := (m.es.map (ge ik)).toArray) (ck := m.ck) hx h0 hu hs
  simpa using this
end Go.Sl

/- Numbers and where they lie, as a rising list (own work). -/
set_option linter.unusedVariables false
set_option linter.unusedSimpArgs false
namespace Go.Sl
/-- May a shape be? -/
def mayG (segs size : Int) : Bool := decide (3 ≤ segs) && decide (segs ≤ 64) && decide (1 ≤ size) && decide (size ≤ 32)
theorem mayG_spec {segs size : Int} (h : mayG segs size = true) : 3 ≤ segs ∧ segs ≤ 64 ∧ 1 ≤ size ∧ size ≤ 32 := by
  unfold mayG at h
  simp at h
  exact ⟨h.1.1.1, h.1.1.2, h.1.2, h.2⟩
def nsec (segs size : Int) : Int := if mayG segs size then 2 + segs * size else 0
/-- The segment of a sector. -/
def ofS (segs size at_ : Int) : Option Int := if mayG segs size && decide (2 ≤ at_) && decide (at_ < 2 + segs * size) then some ((at_ - 2) / size) else none
theorem ofS_spec {segs size at_ s : Int} (h : ofS segs size at_ = some s) : mayG segs size = true ∧ 2 ≤ at_ ∧ at_ < 2 + segs * size ∧ s = (at_ - 2) / size ∧ 0 ≤ s ∧ s < segs := by
  unfold ofS at h
  split at h
  · rename_i hc
    simp at hc
    have hs := mayG_spec hc.1.1
    refine ⟨hc.1.1, hc.1.2, hc.2, (Option.some.inj h).symm, ?_, ?_⟩
    · rw [← Option.some.inj h]
      exact Int.ediv_nonneg (by omega) (by omega)
    · rw [← Option.some.inj h]
      exact Int.ediv_lt_of_lt_mul (by omega) (by omega)
  · cases h
/-- Numbers, each with its sector. -/
abbrev Xl := List (Nat × Int)
def xfind (l : Xl) (k : Int) : Option Int := (l.find? fun x => (x.1 : Int) == k).map (·.2)
def xins (l : Xl) (n : Nat) (a : Int) : Xl := match l with
  | [] => [(n, a)]
  | x :: l => if n < x.1 then (n, a) :: x :: l else x :: xins l n a
def xdel (l : Xl) (n : Nat) : Xl := l.filter fun x => x.1 != n
def Xs (l : Xl) : Prop := l.Pairwise fun x y => x.1 < y.1
def cnt18 (segs size : Int) (l : Xl) (s : Int) : Nat := (l.filter fun x => ofS segs size x.2 == some s).length
def xnums (segs size : Int) (l : Xl) (s : Int) : List Nat := (l.filter fun x => ofS segs size x.2 == some s).map (·.1)
theorem xfind_ins {l : Xl} {n : Nat} {a : Int} (h : xfind l n = none) (k : Int) : xfind (xins l n a) k = if k = n then some a else xfind l k := by
  induction l with
  | nil =>
    unfold xins xfind
    by_cases e : k = n
    · simp [e]
    · rw [if_neg e, List.find?_cons_of_neg (by simpa using Ne.symm e)]
  | cons x l ih =>
    have hx : ¬ (x.1 : Int) = n := by
      intro e
      unfold xfind at h
      rw [List.find?_cons_of_pos (by simpa using e)] at h
      cases h
    have hl : xfind l n = none := by
      unfold xfind at h ⊢
      rw [List.find?_cons_of_neg (by simpa using hx)] at h
      exact h
    unfold xins
    split
    · by_cases e : k = n
      · rw [if_pos e]; unfold xfind; rw [List.find?_cons_of_pos (by simpa using e.symm)]; rfl
      · rw [if_neg e]; unfold xfind; rw [List.find?_cons_of_neg (by simpa using Ne.symm e)]
    · have := ih hl
      unfold xfind at this ⊢
      by_cases e : (x.1 : Int) = k
      · rw [List.find?_cons_of_pos (by simpa using e), List.find?_cons_of_pos (by simpa using e), if_neg (by rw [← e]; exact hx)]
      · rw [List.find?_cons_of_neg (by simpa using e), List.find?_cons_of_neg (by simpa using e)]
        exact this
theorem xfind_del (l : Xl) (n : Nat) (k : Int) : xfind (xdel l n) k = if k = n then none else xfind l k := by
  unfold xfind xdel
  rw [List.find?_filter]
  by_cases e : k = n
  · rw [if_pos e]
    have : l.find? (fun a => decide ((a.1 != n) = true ∧ ((a.1 : Int) == k) = true)) = none := by
      rw [List.find?_eq_none]
      intro x hx
      subst e
      by_cases h : x.1 = n
      · simp [h]
      · have : ¬ (x.1 : Int) = (n : Int) := by omega
        simp [this]
    rw [this]; rfl
  · rw [if_neg e]
    congr 2
    funext x
    by_cases h : (x.1 : Int) = k
    · have : x.1 ≠ n := by omega
      simp [h, this]
    · simp [h]
theorem xins_mem {l : Xl} {n : Nat} {a : Int} {x : Nat × Int} : x ∈ xins l n a ↔ x = (n, a) ∨ x ∈ l := by
  induction l with
  | nil => simp [xins]
  | cons y l ih =>
    unfold xins
    split
    · simp
    · simp only [List.mem_cons, ih]
      constructor
      · rintro (h | h | h)
        · exact .inr (.inl h)
        · exact .inl h
        · exact .inr (.inr h)
      · rintro (h | h | h)
        · exact .inr (.inl h)
        · exact .inl h
        · exact .inr (.inr h)
theorem xins_s {l : Xl} {n : Nat} {a : Int} (h : Xs l) (hn : xfind l n = none) : Xs (xins l n a) := by
  induction l with
  | nil => simp [xins, Xs]
  | cons x l ih =>
    unfold Xs at h
    rw [List.pairwise_cons] at h
    have hx : ¬ (x.1 : Int) = n := by
      intro e
      unfold xfind at hn
      rw [List.find?_cons_of_pos (by simpa using e)] at hn
      cases hn
    have hl : xfind l n = none := by
      unfold xfind at hn ⊢
      rw [List.find?_cons_of_neg (by simpa using hx)] at hn
      exact hn
    unfold xins Xs
    split
    · rename_i hlt
      rw [List.pairwise_cons, List.pairwise_cons]
      refine ⟨?_, h.1, h.2⟩
      intro y hy
      rcases List.mem_cons.1 hy with rfl | hy
      · exact hlt
      · have := h.1 y hy; simp only at *; omega
    · rename_i hlt
      rw [List.pairwise_cons]
      refine ⟨?_, ih h.2 hl⟩
      intro y hy
      rcases xins_mem.1 hy with rfl | hy
      · simp only; omega
      · exact h.1 y hy
theorem xdel_s {l : Xl} {n : Nat} (h : Xs l) : Xs (xdel l n) := h.sublist List.filter_sublist
theorem xins_len (l : Xl) (n : Nat) (a : Int) : (xins l n a).length = l.length + 1 := by
  induction l with
  | nil => rfl
  | cons x l ih => unfold xins; split <;> simp [ih]
theorem xins_cnt (segs size : Int) (l : Xl) (n : Nat) (a s : Int) : cnt18 segs size (xins l n a) s = cnt18 segs size l s + if ofS segs size a = some s then 1 else 0 := by
  unfold cnt18
  induction l with
  | nil => unfold xins; by_cases e : ofS segs size a = some s <;> simp [e]
  | cons x l ih =>
    unfold xins
    split
    · by_cases e : ofS segs size a = some s
      · rw [List.filter_cons_of_pos (by simpa using e), if_pos e]; simp
      · rw [List.filter_cons_of_neg (by simpa using e), if_neg e]; simp
    · by_cases e : ofS segs size x.2 = some s
      · rw [List.filter_cons_of_pos (by simpa using e), List.filter_cons_of_pos (by simpa using e), List.length_cons, List.length_cons, ih]; omega
      · rw [List.filter_cons_of_neg (by simpa using e), List.filter_cons_of_neg (by simpa using e), ih]
theorem xfind_mem {l : Xl} (h : Xs l) {k : Nat} {a : Int} : xfind l k = some a ↔ (k, a) ∈ l := by
  unfold xfind
  constructor
  · intro e
    cases hf : l.find? (fun x => (x.1 : Int) == k) with
    | none => rw [hf] at e; cases e
    | some q =>
      rw [hf] at e
      have h1 := List.mem_of_find?_eq_some hf
      have h2 := List.find?_some hf
      simp at h2 e
      obtain ⟨q1, q2⟩ := q
      simp only at h2 e
      have : q1 = k := by omega
      subst this; subst e
      exact h1
  · intro hm
    induction l with
    | nil => cases hm
    | cons x l ih =>
      unfold Xs at h
      rw [List.pairwise_cons] at h
      rcases List.mem_cons.1 hm with rfl | hm
      · rw [List.find?_cons_of_pos (by simp)]; rfl
      · have := h.1 _ hm
        simp only at this
        rw [List.find?_cons_of_neg (by simp; omega)]
        exact ih h.2 hm
theorem xdel_cnt {segs size : Int} {l : Xl} (h : Xs l) {n : Nat} {a : Int} (hf : xfind l n = some a) (s : Int) : cnt18 segs size (xdel l n) s + (if ofS segs size a = some s then 1 else 0) = cnt18 segs size l s := by
  have hm := (xfind_mem h).1 hf
  clear hf
  unfold cnt18 xdel
  induction l with
  | nil => cases hm
  | cons x l ih =>
    unfold Xs at h
    rw [List.pairwise_cons] at h
    rcases List.mem_cons.1 hm with rfl | hm
    · rw [List.filter_cons_of_neg (by simp)]
      have : l.filter (fun x => x.1 != n) = l := by
        rw [List.filter_eq_self]
        intro y hy
        have := h.1 y hy
        simp only at this
        simp; omega
      rw [this]
      by_cases e : ofS segs size a = some s
      · rw [if_pos e, List.filter_cons_of_pos (by simpa using e)]; simp
      · rw [if_neg e, List.filter_cons_of_neg (by simpa using e)]; rfl
    · have hlt := h.1 _ hm
      simp only at hlt
      rw [List.filter_cons_of_pos (by simp; omega)]
      have := ih h.2 hm
      by_cases e : ofS segs size x.2 = some s
      · rw [List.filter_cons_of_pos (by simpa using e), List.filter_cons_of_pos (by simpa using e), List.length_cons, List.length_cons]; omega
      · rw [List.filter_cons_of_neg (by simpa using e), List.filter_cons_of_neg (by simpa using e)]; exact this
theorem xdel_len {l : Xl} (h : Xs l) {n : Nat} {a : Int} (hf : xfind l n = some a) : (xdel l n).length + 1 = l.length := by
  have hm := (xfind_mem h).1 hf
  clear hf
  unfold xdel
  induction l with
  | nil => cases hm
  | cons x l ih =>
    unfold Xs at h
    rw [List.pairwise_cons] at h
    rcases List.mem_cons.1 hm with rfl | hm
    · rw [List.filter_cons_of_neg (by simp)]
      have : l.filter (fun x => x.1 != n) = l := by
        rw [List.filter_eq_self]
        intro y hy
        have := h.1 y hy
        simp only at this
        simp; omega
      rw [this]; rfl
    · have hlt := h.1 _ hm
      simp only at hlt
      rw [List.filter_cons_of_pos (by simp; omega), List.length_cons, List.length_cons, ih h.2 hm]
theorem cnt_le (segs size : Int) (l : Xl) (s : Int) : cnt18 segs size l s ≤ l.length := List.length_filter_le _ _
theorem nums_len (segs size : Int) (l : Xl) (s : Int) : (xnums segs size l s).length = cnt18 segs size l s := by unfold xnums cnt18; simp
/-- The document's deeds. -/
def xput (segs size : Int) (l : Xl) (n : Nat) (a : Int) (mv : Bool) : Xl × Int :=
  if n = 0 then (l, 1) else if ofS segs size a = none then (l, 2) else match xfind l n with
  | some _ => if mv then (xins (xdel l n) n a, 0) else (l, 5)
  | none => if mv then (l, 4) else (xins l n a, 0)
def xdrop (l : Xl) (n : Nat) : Xl × Int := match xfind l n with
  | some _ => (xdel l n, 0)
  | none => (l, 4)
/-! ### The program's own two maps -/
structure Xm (segs size : Int) (l : Xl) (A L : Gm) : Prop where
  okA : A.ok
  okL : L.ok
  get : ∀ k : Int, A.get k = (xfind l k).map (Value.int .i64)
  liv : ∀ s : Int, (L.get s).getD (.int .i64 0) = .int .i64 (cnt18 segs size l s : Int)
  len : A.es.length = l.length
  s : Xs l
  valid : ∀ x ∈ l, 0 < x.1 ∧ x.1 < 18446744073709551616 ∧ ofS segs size x.2 ≠ none
theorem Xm.new (segs size : Int) : Xm segs size [] Gm.new Gm.new :=
  ⟨Gm.new_ok, Gm.new_ok, fun k => rfl, fun s => rfl, rfl, List.Pairwise.nil, fun x hx => by cases hx⟩
section
variable {segs size : Int} {l : Xl} {A L : Gm} {n : Nat} {a b s t : Int}
theorem Xm.put (h : Xm segs size l A L) (h0 : n ≠ 0) (hM : n < 18446744073709551616) (hf : xfind l n = none) (ho : ofS segs size a = some s) :
    Xm segs size (xins l n a) (A.put n (.int .i64 a)) (L.put s (.int .i64 (cnt18 segs size l s + 1 : Int))) where
  okA := Gm.put_ok h.okA _ _
  okL := Gm.put_ok h.okL _ _
  get k := by
    rw [Gm.get_put, xfind_ins hf, h.get]
    by_cases e : k = n
    · rw [if_pos e, if_pos e]; rfl
    · rw [if_neg e, if_neg e]
  liv j := by
    rw [Gm.get_put, xins_cnt, ho]
    by_cases e : j = s
    · subst e; rw [if_pos rfl, if_pos rfl]; simp
    · rw [if_neg e, if_neg (fun hh => e (Option.some.inj hh).symm), h.liv]; simp
  len := by rw [Gm.put_len, xins_len, h.get, hf, h.len]; rfl
  s := xins_s h.s hf
  valid x hx := by
    rcases xins_mem.1 hx with rfl | hx
    · exact ⟨Nat.pos_of_ne_zero h0, hM, by rw [ho]; simp⟩
    · exact h.valid x hx
theorem Xm.drop (h : Xm segs size l A L) (hf : xfind l n = some b) (ho : ofS segs size b = some t) :
    Xm segs size (xdel l n) (A.del n) (L.put t (.int .i64 (cnt18 segs size l t - 1 : Int))) where
  okA := Gm.del_ok h.okA _
  okL := Gm.put_ok h.okL _ _
  get k := by
    rw [Gm.get_del, xfind_del, h.get]
    by_cases e : k = n
    · rw [if_pos e, if_pos e]; rfl
    · rw [if_neg e, if_neg e]
  liv j := by
    have hc := xdel_cnt (segs := segs) (size := size) h.s hf j
    rw [ho] at hc
    rw [Gm.get_put]
    by_cases e : j = t
    · subst e
      rw [if_pos rfl] at hc ⊢
      simp only [Option.getD_some]
      congr 1
      omega
    · rw [if_neg (fun hh => e (Option.some.inj hh).symm)] at hc
      rw [if_neg e, h.liv, ← hc]; simp
  len := by
    have := xdel_len h.s hf
    rw [Gm.del_len h.okA, h.get, hf, h.len]
    simp <;> omega
  s := xdel_s h.s
  valid x hx := h.valid x (List.mem_filter.1 hx).1
theorem Xm.move (h : Xm segs size l A L) (hf : xfind l n = some b) (hb : ofS segs size b = some t) (ho : ofS segs size a = some s) {c : Int} (hc : c = cnt18 segs size l s - (if s = t then 1 else 0)) :
    Xm segs size (xins (xdel l n) n a) (A.put n (.int .i64 a)) ((L.put t (.int .i64 (cnt18 segs size l t - 1 : Int))).put s (.int .i64 (c + 1))) where
  okA := Gm.put_ok h.okA _ _
  okL := Gm.put_ok (Gm.put_ok h.okL _ _) _ _
  get k := by
    rw [Gm.get_put, xfind_ins (by rw [xfind_del, if_pos rfl]), xfind_del, h.get]
    by_cases e : k = n
    · rw [if_pos e, if_pos e]; rfl
    · rw [if_neg e, if_neg e, if_neg e]
  liv j := by
    have hd := xdel_cnt (segs := segs) (size := size) h.s hf j
    rw [hb] at hd
    rw [Gm.get_put, Gm.get_put, xins_cnt, ho]
    by_cases e : j = s
    · subst e
      rw [if_pos rfl, if_pos rfl, hc]
      simp only [Option.getD_some]
      congr 1
      by_cases e2 : j = t
      · subst e2; rw [if_pos rfl] at hd; rw [if_pos rfl]; omega
      · rw [if_neg (fun hh => e2 (Option.some.inj hh).symm)] at hd; rw [if_neg e2]; omega
    · rw [if_neg e, if_neg (fun hh => e (Option.some.inj hh).symm)]
      by_cases e2 : j = t
      · subst e2
        rw [if_pos rfl] at hd ⊢
        simp only [Option.getD_some]
        congr 1
        omega
      · rw [if_neg (fun hh => e2 (Option.some.inj hh).symm)] at hd
        rw [if_neg e2, h.liv, ← hd] <;> simp
  len := by
    have := xdel_len h.s hf
    rw [Gm.put_len, xins_len, h.get, hf, h.len]
    simp <;> omega
  s := xins_s (xdel_s h.s) (by rw [xfind_del, if_pos rfl])
  valid x hx := by
    rcases xins_mem.1 hx with rfl | hx
    · have := h.valid _ ((xfind_mem h.s).1 hf)
      exact ⟨this.1, this.2.1, by rw [ho]; simp⟩
    · exact h.valid x (List.mem_filter.1 hx).1
end
theorem ofS_some {segs size : Int} {l : Xl} {A L : Gm} (h : Xm segs size l A L) {n : Nat} {b : Int} (hf : xfind l n = some b) : ∃ t, ofS segs size b = some t := by
  have := (h.valid _ ((xfind_mem h.s).1 hf)).2.2
  cases e : ofS segs size b with
  | none => exact absurd e this
  | some t => exact ⟨t, rfl⟩
/-- The entries, told as the list. -/
def xpair (x : Nat × Int) : Int × Value := ((x.1 : Int), .int .i64 x.2)
theorem perm_nodup {α : Type} : ∀ {l1 l2 : List α}, l1.Nodup → l2.Nodup → (∀ a, a ∈ l1 ↔ a ∈ l2) → l1.Perm l2
  | [], l2, _, _, h => by
    cases l2 with
    | nil => exact .nil
    | cons b l2 => exact absurd ((h b).2 (List.mem_cons_self ..)) (by simp)
  | a :: l1, l2, n1, n2, h => by
    obtain ⟨s, t, rfl⟩ := List.append_of_mem ((h a).1 (List.mem_cons_self ..))
    rw [List.nodup_cons] at n1
    have n3 : (a :: (s ++ t)).Nodup := (List.perm_middle).nodup_iff.1 n2
    rw [List.nodup_cons] at n3
    refine (List.Perm.cons a (perm_nodup n1.2 n3.2 fun x => ?_)).trans List.perm_middle.symm
    constructor
    · intro hx
      have := (h x).1 (List.mem_cons_of_mem _ hx)
      have hne : x ≠ a := fun e => n1.1 (e ▸ hx)
      simp only [List.mem_append, List.mem_cons] at this ⊢
      rcases this with h | h | h
      · exact .inl h
      · exact absurd h hne
      · exact .inr h
    · intro hx
      have : x ∈ s ++ a :: t := by
        simp only [List.mem_append, List.mem_cons] at hx ⊢
        rcases hx with h | h
        · exact .inl h
        · exact .inr (.inr h)
      have := (h x).2 this
      have hne : x ≠ a := fun e => n3.1 (e ▸ hx)
      exact (List.mem_cons.1 this).resolve_left hne
theorem Gm.get_mem {m : Gm} (h : m.ok) {k : Int} {v : Value} : m.get k = some v ↔ (k, v) ∈ m.es.map fun x => (x.1, x.2.1) := by
  have hn := h.keys
  unfold Gm.get
  generalize m.es = l at hn
  induction l with
  | nil => simp
  | cons x l ih =>
    simp only [List.map_cons, List.nodup_cons] at hn
    by_cases e : x.1 = k
    · rw [List.find?_cons_of_pos (by simpa using e)]
      simp only [Option.map_some, Option.some.injEq, List.map_cons, List.mem_cons, Prod.mk.injEq]
      constructor
      · intro hv; exact .inl ⟨e.symm, hv.symm⟩
      · rintro (⟨_, hv⟩ | hm)
        · exact hv.symm
        · obtain ⟨y, hy, ey⟩ := List.mem_map.1 hm
          simp only [Prod.mk.injEq] at ey
          exact absurd (List.mem_map.2 ⟨y, hy, by rw [ey.1, e]⟩) hn.1
    · rw [List.find?_cons_of_neg (by simpa using e)]
      refine (ih hn.2).trans ?_
      simp only [List.map_cons, List.mem_cons, Prod.mk.injEq]
      constructor
      · exact .inr
      · rintro (⟨hk, _⟩ | hm)
        · exact absurd hk.symm e
        · exact hm
theorem Xm.perm {segs size : Int} {l : Xl} {A L : Gm} (h : Xm segs size l A L) : (A.es.map fun x => (x.1, x.2.1)).Perm (l.map xpair) := by
  refine perm_nodup ?_ ?_ ?_
  · have : ((A.es.map fun x => (x.1, x.2.1)).map (·.1)).Nodup := by rw [List.map_map]; exact h.okA.keys
    exact List.Pairwise.of_map (·.1) (fun a b hab e => hab (by rw [e])) this
  · have : (l.map fun x => x.1).Pairwise (· < ·) := by rw [List.pairwise_map]; exact h.s
    have h2 : (l.map xpair).Pairwise fun x y => x.1 < y.1 := by
      rw [List.pairwise_map]
      exact h.s.imp fun hxy => by simp only [xpair]; omega
    exact h2.imp fun hab e => by rw [e] at hab; exact absurd hab (by omega)
  · rintro ⟨k, v⟩
    rw [← Gm.get_mem h.okA, h.get]
    constructor
    · intro e
      cases hf : xfind l k with
      | none => rw [hf] at e; cases e
      | some a =>
        rw [hf] at e
        have hk : ∃ n : Nat, k = n := by
          unfold xfind at hf
          cases hq : l.find? (fun x => (x.1 : Int) == k) with
          | none => rw [hq] at hf; cases hf
          | some q =>
            have := List.find?_some hq
            exact ⟨q.1, by simp at this; exact this.symm⟩
        obtain ⟨n, rfl⟩ := hk
        have := (xfind_mem h.s).1 hf
        exact List.mem_map.2 ⟨(n, a), this, by simp only [xpair]; rw [← Option.some.inj e]⟩
    · intro hm
      obtain ⟨⟨n, a⟩, hx, e⟩ := List.mem_map.1 hm
      simp only [xpair, Prod.mk.injEq] at e
      obtain ⟨rfl, rfl⟩ := e
      rw [(xfind_mem h.s).2 hx]; rfl
end Go.Sl

/- The program's map of numbers, in memory (own work). -/
set_option linter.unusedVariables false
set_option linter.unusedSimpArgs false
namespace Go.Sl
structure Xo where
  b : Nat
  r1 : Nat
  r2 : Nat
abbrev Xo.cells (o : Xo) (segs size : Int) : List Value := [.int .i64 segs, .int .i64 size, .map (some o.r1), .map (some o.r2)]
abbrev Xo.seg (t : Nat) (o : Xo) (segs size : Int) (A L : Gm) : List (Nat × Obj) := [(o.b, .cells (o.cells segs size).toArray t), (o.r1, A.obj .u64), (o.r2, L.obj .i64)]
abbrev shV (segs size : Int) : Value := .agg [Value.int .i64 segs, .int .i64 size].toArray
theorem ofS_no {segs size a : Int} (h : mayG segs size = false ∨ a < 2 ∨ 2 + segs * size ≤ a) : ofS segs size a = none := by
  unfold ofS
  rw [if_neg]
  rcases h with h | h | h
  · rw [h]; simp
  · have : decide (2 ≤ a) = false := decide_eq_false (by omega)
    rw [this]; simp
  · have : decide (a < 2 + segs * size) = false := decide_eq_false (by omega)
    rw [this]; simp
theorem ofS_yes {segs size a : Int} (h : mayG segs size = true) (h1 : 2 ≤ a) (h2 : a < 2 + segs * size) : ofS segs size a = some ((a - 2) / size) := by
  unfold ofS
  rw [h, decide_eq_true h1, decide_eq_true h2]; rfl
theorem mul_bound {segs size : Int} (h : mayG segs size = true) : 3 ≤ segs * size ∧ segs * size ≤ 2048 := by
  obtain ⟨h1, h2, h3, h4⟩ := mayG_spec h
  constructor
  · have := Int.mul_le_mul h1 h3 (by omega) (by omega)
    omega
  · have := Int.mul_le_mul h2 h4 (by omega) (by omega)
    omega
/-- Whether a shape may be is one of 0 and 2, as errors go. -/
def chkE (segs size : Int) : Int := if mayG segs size then 0 else 2
theorem xgroup {t : Nat} {o : Xo} {segs size : Int} {A L : Gm} {H : Hp} {b : Nat} {c : Obj} {l : List Value} (hl : l = o.cells segs size) : HSub (o.seg t segs size A L :: H) ([(o.b, .cells l.toArray t)] :: [(o.r2, L.obj .i64)] :: [(o.r1, A.obj .u64)] :: [(b, c)] :: H) := by
  subst hl
  refine HSub.of_sublist (L := [(o.b, .cells (o.cells segs size).toArray t)] :: [(o.r1, A.obj .u64)] :: [(o.r2, L.obj .i64)] :: [(b, c)] :: H) ?_ ?_
  · simp only [List.flatten_cons, List.cons_append, List.nil_append]
    exact (List.Perm.swap _ _ _).cons _
  · simp only [List.flatten_cons, List.cons_append, List.nil_append]
    exact List.Sublist.cons_cons _ (List.Sublist.cons_cons _ (List.Sublist.cons_cons _ (List.Sublist.cons _ (List.Sublist.refl _))))
end Go.Sl

/- walks (own work; the walks' lines by a program of this repo). -/
set_option linter.unusedVariables false
set_option linter.unusedSimpArgs false
set_option maxRecDepth 20000
namespace Go.Proofs.Ytighbhplfjjgpaa
open Go.Sl
attribute [local irreducible] BodyQ WpC WpL WpS WpH OpW FnS


theorem check_s {w0 : World} {H : Hp} (segs size : Int) : FnS Try.prog w0 9 #[shV segs size] H (fun e H' => e = .returned (.int .i64 (chkE segs size)) ∧ H' = H) := by
  refine FnS_intro (n := 21) (rs := [.tmp 2]) (vs := [shV segs size]) Try.func9 rfl Try.ntmps9 rfl rfl ?_
  refine C_seq (C_region ?_)
  refine L_op rfl (op_box rfl rfl rfl (fun B1 => ?_))
  refine LY rfl (y_assign rfl) (L_nil (C_seq (C_seq (C_region (LY rfl (y_fieldAddr rfl fl_23_0) (LY rfl (y_load rfl ag_3 (sees 0 0 rfl) rfl) (LY rfl (y_lss rfl rfl) (LY rfl (y_move rfl) ?_))))))))
  refine L_case 6 rfl (fun hg1_4 => ?_) (fun hg1_4 => ?_)
  · skip
    refine L_skip rfl rfl (L_skip rfl rfl (L_skip rfl rfl (LY rfl (y_pick_t rfl rfl) (LY rfl (y_move rfl) (L_skip rfl rfl (L_skip rfl rfl (L_skip rfl rfl (LY rfl (y_pick_t rfl rfl) (LY rfl (y_move rfl) (L_skip rfl rfl (L_skip rfl rfl (L_skip rfl rfl (LY rfl (y_pick_t rfl rfl) (L_nil (C_cond_t rfl (C_seq (C_region (LY rfl (y_assign rfl) (L_nil (C_ret ?_))))))))))))))))))))
    refine B_ret (rv_tmp rfl rv_nil) (hsub (.cons _ (.refl _))) ?_
    refine ⟨congrArg (fun x => Ending.returned (Value.int .i64 x)) ?_, rfl⟩
    unfold chkE mayG
    split <;> rename_i hq <;> simp at hq <;> simp_all <;> omega
  · skip
    refine LY rfl (y_fieldAddr rfl fl_23_0) (LY rfl (y_load rfl ag_3 (sees 0 0 rfl) rfl) ?_)
    refine LY rfl (y_gtr rfl rfl) ?_
    refine LY rfl (y_pick_f rfl rfl) (LY rfl (y_move rfl) ?_)
    refine L_case 11 rfl (fun hg1_9 => ?_) (fun hg1_9 => ?_)
    · skip
      refine L_skip rfl rfl (L_skip rfl rfl (L_skip rfl rfl (LY rfl (y_pick_t rfl rfl) (LY rfl (y_move rfl) (L_skip rfl rfl (L_skip rfl rfl (L_skip rfl rfl (LY rfl (y_pick_t rfl rfl) (L_nil (C_cond_t rfl (C_seq (C_region (LY rfl (y_assign rfl) (L_nil (C_ret ?_)))))))))))))))
      refine B_ret (rv_tmp rfl rv_nil) (hsub (.cons _ (.refl _))) ?_
      refine ⟨congrArg (fun x => Ending.returned (Value.int .i64 x)) ?_, rfl⟩
      unfold chkE mayG
      split <;> rename_i hq <;> simp at hq <;> simp_all <;> omega
    · skip
      refine LY rfl (y_fieldAddr rfl fl_23_1) (LY rfl (y_load rfl ag_3 (sees 0 0 rfl) rfl) (LY rfl (y_lss rfl rfl) (LY rfl (y_pick_f rfl rfl) (LY rfl (y_move rfl) ?_))))
      refine L_case 16 rfl (fun hg1_14 => ?_) (fun hg1_14 => ?_)
      · skip
        refine L_skip rfl rfl (L_skip rfl rfl (L_skip rfl rfl (LY rfl (y_pick_t rfl rfl) (L_nil (C_cond_t rfl (C_seq (C_region (LY rfl (y_assign rfl) (L_nil (C_ret ?_))))))))))
        refine B_ret (rv_tmp rfl rv_nil) (hsub (.cons _ (.refl _))) ?_
        refine ⟨congrArg (fun x => Ending.returned (Value.int .i64 x)) ?_, rfl⟩
        unfold chkE mayG
        split <;> rename_i hq <;> simp at hq <;> simp_all <;> omega
      · skip
        refine LY rfl (y_fieldAddr rfl fl_23_1) (LY rfl (y_load rfl ag_3 (sees 0 0 rfl) rfl) ?_)
        refine LY rfl (y_gtr rfl rfl) ?_
        refine LY rfl (y_pick_f rfl rfl) (L_nil ?_)
        refine C_cond rfl (fun hc0 => ?_) (fun hc0 => ?_)
        · replace hc0 := of_decide_eq_true hc0
          refine C_seq (C_region (LY rfl (y_assign rfl) (L_nil (C_ret ?_))))
          refine B_ret (rv_tmp rfl rv_nil) (hsub (.cons _ (.refl _))) ?_
          refine ⟨congrArg (fun x => Ending.returned (Value.int .i64 x)) ?_, rfl⟩
          unfold chkE mayG
          split <;> rename_i hq <;> simp at hq <;> simp_all <;> omega
        · replace hc0 := of_decide_eq_false hc0
          refine C_skip (C_seq (C_region (LY rfl (y_assign rfl) (L_nil (C_ret ?_)))))
          refine B_ret (rv_tmp rfl rv_nil) (hsub (.cons _ (.refl _))) ?_
          refine ⟨congrArg (fun x => Ending.returned (Value.int .i64 x)) ?_, rfl⟩
          unfold chkE mayG
          split <;> rename_i hq <;> simp at hq <;> simp_all <;> omega

theorem shmay_s {w0 : World} {H : Hp} (segs size : Int) : FnS Try.prog w0 45 #[shV segs size] H (fun e H' => e = .returned (.bool (mayG segs size)) ∧ H' = H) := by
  refine FnS_intro (n := 11) (rs := [.tmp 2]) (vs := [shV segs size]) Try.func45 rfl Try.ntmps45 rfl rfl ?_
  refine C_seq (C_region ?_)
  refine L_op rfl (op_box rfl rfl rfl (fun B1 => ?_))
  refine LY rfl (y_assign rfl) (L_nil (C_seq (C_region ?_)))
  refine LY rfl (y_loadA rfl ag_23 sz_23 (sees 0 0 rfl) (Nat.le_of_ble_eq_true rfl) rfl) ?_
  refine LY rfl (y_build0 pl_23 zl_23) ?_
  refine LY rfl (y_nest (xs := [segs, size]) (ys := [0, 0]) rfl rfl fi_23 eg_23 rfl rfl) ?_
  refine LY rfl (y_move rfl) ?_
  refine L_case 6 rfl (fun hg1_4 => ?_) (fun hg1_4 => ?_)
  · skip
    refine LY rfl (y_loadA rfl ag_23 sz_23 (sees 0 0 rfl) (Nat.le_of_ble_eq_true rfl) rfl) ?_
    refine L_op rfl (op_call rfl rfl (fun a w => Try.call9 a w) rfl ?_)
    refine (check_s segs size).mono ?_
    rintro _ _ ⟨rfl, e⟩
    obtain rfl := e.symm
    clear e
    refine ⟨_, rfl, ?_⟩
    refine LY rfl (y_eqi rfl rfl) (LY rfl (y_pick_t rfl rfl) (LY rfl (y_assign rfl) (L_nil (C_ret ?_))))
    refine B_ret (rv_tmp rfl rv_nil) (hsub (.cons _ (.refl _))) ?_
    refine ⟨congrArg (fun x => Ending.returned (Value.bool x)) ?_, rfl⟩
    first
    | (unfold chkE; cases mayG segs size <;> simp; done)
    | (have hz : segs = 0 ∧ size = 0 := by simpa using hg1_4
       rw [hz.1, hz.2]; rfl)
  · skip
    refine L_skip rfl rfl (L_skip rfl rfl (L_skip rfl rfl (LY rfl (y_pick_f rfl rfl) (LY rfl (y_assign rfl) (L_nil (C_ret ?_))))))
    refine B_ret (rv_tmp rfl rv_nil) (hsub (.cons _ (.refl _))) ?_
    refine ⟨congrArg (fun x => Ending.returned (Value.bool x)) ?_, rfl⟩
    first
    | (unfold chkE; cases mayG segs size <;> simp; done)
    | (have hz : segs = 0 ∧ size = 0 := by simpa using hg1_4
       rw [hz.1, hz.2]; rfl)

theorem sectors_s {w0 : World} {H : Hp} (segs size : Int) (hm : mayG segs size = true) : FnS Try.prog w0 24 #[shV segs size] H (fun e H' => e = .returned (.int .i64 (2 + segs * size)) ∧ H' = H) := by
  obtain ⟨h1, h2, h3, h4⟩ := mayG_spec hm
  obtain ⟨m1, m2⟩ := mul_bound hm
  refine FnS_intro (n := 12) (rs := [.tmp 2]) (vs := [shV segs size]) Try.func24 rfl Try.ntmps24 rfl rfl ?_
  refine C_seq (C_region ?_)
  refine L_op rfl (op_box rfl rfl rfl (fun B1 => ?_))
  refine LY rfl (y_assign rfl) (L_nil (C_seq (C_seq (C_region ?_))))
  refine LY rfl (y_loadA rfl ag_23 sz_23 (sees 0 0 rfl) (Nat.le_of_ble_eq_true rfl) rfl) ?_
  refine L_op rfl (op_call rfl rfl (fun a w => Try.call45 a w) rfl ?_)
  refine (shmay_s segs size).mono ?_
  rintro _ _ ⟨rfl, e⟩
  obtain rfl := e.symm
  clear e
  rw [hm]
  refine ⟨_, rfl, ?_⟩
  refine LY rfl (y_not rfl) (L_nil (C_cond_f rfl (C_skip (C_seq (C_region (LY rfl (y_fieldAddr rfl fl_23_0) (LY rfl (y_load rfl ag_3 (sees 0 0 rfl) rfl) (LY rfl (y_fieldAddr rfl fl_23_1) (LY rfl (y_load rfl ag_3 (sees 0 0 rfl) rfl) ?_)))))))))
  refine LY rfl (y_mul rfl rfl (wi64 (by omega) (by omega))) ?_
  refine LY rfl (y_add rfl rfl (wi64 (by omega) (by omega))) ?_
  refine LY rfl (y_assign rfl) (L_nil (C_ret ?_))
  refine B_ret (rv_tmp rfl rv_nil) (hsub (.cons _ (.refl _))) ?_
  exact ⟨rfl, rfl⟩

theorem of_n {w0 : World} {H : Hp} (segs size : Int) (hm : mayG segs size = false) (a : Int) : FnS Try.prog w0 44 #[shV segs size, .int .i64 a] H (fun e H' => e = .returned (.tuple #[.int .i64 0, .int .i64 0, .bool false]) ∧ H' = H) := by
  refine FnS_intro (n := 31) (rs := [.tmp 4, .tmp 5, .tmp 6]) (vs := [shV segs size, .int .i64 a]) Try.func44 rfl Try.ntmps44 rfl rfl ?_
  refine C_seq (C_region ?_)
  refine L_op rfl (op_box rfl rfl rfl (fun B1 => ?_))
  refine LY rfl (y_assign rfl) (LY rfl (y_assign rfl) (LY rfl (y_assign rfl) (L_nil (C_seq (C_seq (C_region ?_))))))
  refine LY rfl (y_loadA rfl ag_23 sz_23 (sees 0 0 rfl) (Nat.le_of_ble_eq_true rfl) rfl) ?_
  refine L_op rfl (op_call rfl rfl (fun a w => Try.call45 a w) rfl ?_)
  refine (shmay_s segs size).mono ?_
  rintro _ _ ⟨rfl, e⟩
  obtain rfl := e.symm
  clear e
  rw [hm]
  refine ⟨_, rfl, ?_⟩
  refine LY rfl (y_not rfl) (LY rfl (y_move rfl) (L_skip rfl rfl (L_skip rfl rfl (LY rfl (y_pick_t rfl rfl) (LY rfl (y_move rfl) (L_skip rfl rfl (L_skip rfl rfl (L_skip rfl rfl (L_skip rfl rfl (LY rfl (y_pick_t rfl rfl) (L_nil (C_cond_t rfl (C_seq (C_region (LY rfl (y_assign rfl) (LY rfl (y_assign rfl) (LY rfl (y_assign rfl) (L_nil (C_ret ?_)))))))))))))))))))
  refine B_ret (rv_tmp rfl (rv_tmp rfl (rv_tmp rfl rv_nil))) (hsub (.cons _ (.refl _))) ?_
  exact ⟨rfl, rfl⟩

theorem of_o {w0 : World} {H : Hp} (segs size : Int) (hm : mayG segs size = true) (a : Int) (ho : a < 2 ∨ 2 + segs * size ≤ a) : FnS Try.prog w0 44 #[shV segs size, .int .i64 a] H (fun e H' => e = .returned (.tuple #[.int .i64 0, .int .i64 0, .bool false]) ∧ H' = H) := by
  obtain ⟨h1, h2, h3, h4⟩ := mayG_spec hm
  obtain ⟨m1, m2⟩ := mul_bound hm
  refine FnS_intro (n := 31) (rs := [.tmp 4, .tmp 5, .tmp 6]) (vs := [shV segs size, .int .i64 a]) Try.func44 rfl Try.ntmps44 rfl rfl ?_
  refine C_seq (C_region ?_)
  refine L_op rfl (op_box rfl rfl rfl (fun B1 => ?_))
  refine LY rfl (y_assign rfl) (LY rfl (y_assign rfl) (LY rfl (y_assign rfl) (L_nil (C_seq (C_seq (C_region ?_))))))
  refine LY rfl (y_loadA rfl ag_23 sz_23 (sees 0 0 rfl) (Nat.le_of_ble_eq_true rfl) rfl) ?_
  refine L_op rfl (op_call rfl rfl (fun a w => Try.call45 a w) rfl ?_)
  refine (shmay_s segs size).mono ?_
  rintro _ _ ⟨rfl, e⟩
  obtain rfl := e.symm
  clear e
  rw [hm]
  refine ⟨_, rfl, ?_⟩
  refine LY rfl (y_not rfl) (LY rfl (y_move rfl) (LY rfl (y_move rfl) (LY rfl (y_lss rfl rfl) (LY rfl (y_pick_f rfl rfl) (LY rfl (y_move rfl) ?_)))))
  refine L_case 15 rfl (fun hg1_8 => ?_) (fun hg1_8 => ?_)
  · skip
    refine L_skip rfl rfl (L_skip rfl rfl (L_skip rfl rfl (L_skip rfl rfl (LY rfl (y_pick_t rfl rfl) (L_nil (C_cond_t rfl (C_seq (C_region (LY rfl (y_assign rfl) (LY rfl (y_assign rfl) (LY rfl (y_assign rfl) (L_nil (C_ret ?_)))))))))))))
    refine B_ret (rv_tmp rfl (rv_tmp rfl (rv_tmp rfl rv_nil))) (hsub (.cons _ (.refl _))) ?_
    exact ⟨rfl, rfl⟩
  · replace hg1_8 := of_decide_eq_false hg1_8
    refine LY rfl (y_move rfl) ?_
    refine LY rfl (y_loadA rfl ag_23 sz_23 (sees 0 0 rfl) (Nat.le_of_ble_eq_true rfl) rfl) ?_
    refine L_op rfl (op_call rfl rfl (fun a w => Try.call24 a w) rfl ?_)
    refine (sectors_s segs size hm).mono ?_
    rintro _ _ ⟨rfl, e⟩
    obtain rfl := e.symm
    clear e
    refine ⟨_, rfl, ?_⟩
    refine LY rfl (y_geq rfl rfl) ?_
    refine LY rfl (y_pick_f rfl rfl) (L_nil ?_)
    refine C_cond rfl (fun hc0 => ?_) (fun hc0 => absurd (of_decide_eq_false hc0) (by omega))
    refine C_seq (C_region (LY rfl (y_assign rfl) (LY rfl (y_assign rfl) (LY rfl (y_assign rfl) (L_nil (C_ret ?_))))))
    refine B_ret (rv_tmp rfl (rv_tmp rfl (rv_tmp rfl rv_nil))) (hsub (.cons _ (.refl _))) ?_
    exact ⟨rfl, rfl⟩

theorem of_y {w0 : World} {H : Hp} (segs size : Int) (hm : mayG segs size = true) (a : Int) (ho : 2 ≤ a) (hp : a < 2 + segs * size) : FnS Try.prog w0 44 #[shV segs size, .int .i64 a] H (fun e H' => e = .returned (.tuple #[.int .i64 ((a - 2) / size), .int .i64 ((a - 2) % size), .bool true]) ∧ H' = H) := by
  obtain ⟨h1, h2, h3, h4⟩ := mayG_spec hm
  obtain ⟨m1, m2⟩ := mul_bound hm
  have q0 : 0 ≤ (a - 2) / size := Int.ediv_nonneg (by omega) (by omega)
  have q1 : (a - 2) / size ≤ a - 2 := Int.ediv_le_self _ (by omega)
  have q2 : 0 ≤ (a - 2) % size := Int.emod_nonneg _ (by omega)
  have q3 : (a - 2) % size < size := Int.emod_lt_of_pos _ (by omega)
  refine FnS_intro (n := 31) (rs := [.tmp 4, .tmp 5, .tmp 6]) (vs := [shV segs size, .int .i64 a]) Try.func44 rfl Try.ntmps44 rfl rfl ?_
  refine C_seq (C_region ?_)
  refine L_op rfl (op_box rfl rfl rfl (fun B1 => ?_))
  refine LY rfl (y_assign rfl) (LY rfl (y_assign rfl) (LY rfl (y_assign rfl) (L_nil (C_seq (C_seq (C_region ?_))))))
  refine LY rfl (y_loadA rfl ag_23 sz_23 (sees 0 0 rfl) (Nat.le_of_ble_eq_true rfl) rfl) ?_
  refine L_op rfl (op_call rfl rfl (fun a w => Try.call45 a w) rfl ?_)
  refine (shmay_s segs size).mono ?_
  rintro _ _ ⟨rfl, e⟩
  obtain rfl := e.symm
  clear e
  rw [hm]
  refine ⟨_, rfl, ?_⟩
  refine LY rfl (y_not rfl) (LY rfl (y_move rfl) (LY rfl (y_move rfl) (LY rfl (y_lss rfl rfl) (LY rfl (y_pick_f rfl rfl) (LY rfl (y_move rfl) ?_)))))
  refine L_case 15 rfl (fun hg1_8 => ?_) (fun hg1_8 => ?_)
  · exact absurd (of_decide_eq_true hg1_8) (by omega)
  · skip
    refine LY rfl (y_move rfl) ?_
    refine LY rfl (y_loadA rfl ag_23 sz_23 (sees 0 0 rfl) (Nat.le_of_ble_eq_true rfl) rfl) ?_
    refine L_op rfl (op_call rfl rfl (fun a w => Try.call24 a w) rfl ?_)
    refine (sectors_s segs size hm).mono ?_
    rintro _ _ ⟨rfl, e⟩
    obtain rfl := e.symm
    clear e
    refine ⟨_, rfl, ?_⟩
    refine LY rfl (y_geq rfl rfl) ?_
    refine LY rfl (y_pick_f rfl rfl) (L_nil ?_)
    refine C_cond rfl (fun hc0 => absurd (of_decide_eq_true hc0) (by omega)) (fun hc0 => ?_)
    refine C_skip (C_seq (C_region (LY rfl (y_move rfl) ?_)))
    refine LY rfl (y_sub rfl rfl (wi64 (by omega) (by omega))) ?_
    refine LY rfl (y_assign rfl) (L_nil (C_seq ?_))
    refine C_regionH0 (by kernel_rfl) ?_
    refine HY 0 rfl (HSub.refl _) rfl (y_move rfl) ?_
    refine HY 1 rfl (HSub.refl _) rfl (y_fieldAddr rfl fl_23_1) ?_
    refine HY 2 rfl (HSub.refl _) rfl (y_load rfl ag_3 (sees 0 0 rfl) rfl) ?_
    refine HY 3 rfl (HSub.refl _) rfl (y_quo rfl rfl (by omega) (show _ = ((a - 2) / size : Int) from by rw [Int.tdiv_eq_ediv_of_nonneg (by omega)]; exact wi64 (by omega) (by omega))) ?_
    refine HY 4 rfl (HSub.refl _) rfl (y_move rfl) ?_
    refine HY 5 rfl (HSub.refl _) rfl (y_fieldAddr rfl fl_23_1) ?_
    refine HY 6 rfl (HSub.refl _) rfl (y_load rfl ag_3 (sees 0 0 rfl) rfl) ?_
    refine HY 7 rfl (HSub.refl _) rfl (y_rem rfl rfl (by omega) (show _ = ((a - 2) % size : Int) from by rw [Int.tmod_eq_emod_of_nonneg (by omega)])) ?_
    refine HY 8 rfl (HSub.refl _) rfl (y_assign rfl) ?_
    refine HY 9 rfl (HSub.refl _) rfl (y_assign rfl) ?_
    refine HY 10 rfl (HSub.refl _) rfl (y_assign rfl) ?_
    refine H_done (by kernel_rfl) ?_
    refine C_ret ?_
    refine B_ret (rv_tmp rfl (rv_tmp rfl (rv_tmp rfl rv_nil))) (hsub (.cons _ (.refl _))) ?_
    exact ⟨rfl, rfl⟩

theorem of_s {w0 : World} {H : Hp} (segs size a : Int) : FnS Try.prog w0 44 #[shV segs size, .int .i64 a] H (fun e H' => e = .returned (.tuple #[.int .i64 ((ofS segs size a).getD 0), .int .i64 (if (ofS segs size a).isSome then (a - 2) % size else 0), .bool (ofS segs size a).isSome]) ∧ H' = H) := by
  cases hm : mayG segs size with
  | false => rw [ofS_no (.inl hm)]; exact of_n segs size hm a
  | true =>
    by_cases h1 : a < 2 ∨ 2 + segs * size ≤ a
    · rw [ofS_no (.inr h1)]; exact of_o segs size hm a h1
    · rw [ofS_yes hm (by omega) (by omega)]; exact of_y segs size hm a (by omega) (by omega)

end Go.Proofs.Ytighbhplfjjgpaa

/- A row of numbers in memory, and the plain sort (own work). -/
set_option linter.unusedVariables false
set_option linter.unusedSimpArgs false
namespace Go.Sl
open Go.Sort (swp)
def us (l : List Nat) : List Value := l.map fun x : Nat => Value.int .u64 (x : Int)
theorem us_len (l : List Nat) : (us l).length = l.length := by simp [us]
def ltN (x y : Nat) : Bool := decide (x < y)
theorem us_at {d : Array Nat} {sp : List Value} {i : Nat} (h : i < d.size) : (us d.toList ++ sp)[i]? = some (.int .u64 ((d[i]! : Nat) : Int)) := by
  rw [List.getElem?_append_left (by simpa [us] using h)]
  simp [us, h]
theorem us_set {d : Array Nat} {sp : List Value} {i v : Nat} (h : i < d.size) : (us d.toList ++ sp).set i (.int .u64 (v : Int)) = us (d.setIfInBounds i v).toList ++ sp := by
  rw [List.set_append_left _ _ (by simpa [us] using h)]
  congr 1
  simp [us, List.map_set]
theorem us_swp {d : Array Nat} {sp : List Value} {i j : Nat} (hi : i < d.size) (hj : j < d.size) : ((us d.toList ++ sp).set i (.int .u64 ((d[j]! : Nat) : Int))).set j (.int .u64 ((d[i]! : Nat) : Int)) = us (swp d i j).toList ++ sp := by
  rw [us_set hi, us_set (by simpa using hj)]
  rfl
theorem swp_size (d : Array Nat) (i j : Nat) : (swp d i j).size = d.size := by simp [swp]
abbrev useg (t sb : Nat) (d : Array Nat) (sp : List Value) : List (Nat × Obj) := [(sb, .cells (us d.toList ++ sp).toArray t)]
theorem us_lt {d : Array Nat} {sp : List Value} {i : Nat} (h : i < d.size) : i < (us d.toList ++ sp).length := by
  rw [List.length_append, us_len]; simp; omega
/-! ### insertionSort, as the code has it -/
theorem ins_step {a j : Nat} {d : Array Nat} (h : a < j) (hl : ltN d[j]! d[j - 1]! = true) : Go.Sort.insInner ltN a j d = Go.Sort.insInner ltN a (j - 1) (swp d j (j - 1)) := by
  cases j with
  | zero => omega
  | succ j =>
    rw [Go.Sort.insInner, if_pos]
    · rfl
    · simp only [Nat.add_sub_cancel] at hl
      simp [hl]; omega
theorem ins_stop {a j : Nat} {d : Array Nat} (h : ¬ a < j ∨ ltN d[j]! d[j - 1]! = false) : Go.Sort.insInner ltN a j d = d := by
  cases j with
  | zero => rfl
  | succ j =>
    rw [Go.Sort.insInner, if_neg]
    rcases h with h | h
    · simp; omega
    · simp only [Nat.add_sub_cancel] at h
      simp [h]
theorem ins_next {a b i : Nat} {d : Array Nat} (h : i < b) : Go.Sort.insOuter ltN a b i d = Go.Sort.insOuter ltN a b (i + 1) (Go.Sort.insInner ltN a i d) := by
  rw [Go.Sort.insOuter, if_pos h]
theorem ins_over {a b i : Nat} {d : Array Nat} (h : ¬ i < b) : Go.Sort.insOuter ltN a b i d = d := by
  rw [Go.Sort.insOuter, if_neg h]
theorem swo_N : Go.Sort.SWO ltN := ⟨fun x => by simp [ltN], fun x y z h1 h2 => by simp [ltN] at *; omega, fun x y z h1 h2 => by simp [ltN] at *; omega⟩
/-! ### bits.Len -/
section
variable {P : Program} {n : FN} {E : Env} {W : World → Prop} {ty t : Nat} {x y : Operand}
theorem y_indexStr {s : ByteArray} {k : IntKind} {i : Int} {b : UInt8} (hx : ev E x = some (.string s)) (hy : ev E y = some (.int k i)) (hu : P.underlying t = some .string) (h0 : 0 ≤ i) (hb : s[i.toNat]? = some b) : YV P n E W (.index t x y) ty (.int .u8 (b.toNat : Int)) := fun a w ha _ d ps af g => by
  have hr : (Instr.index t (.string s) (.int k i)).run P w = .ok (.int .u8 (b.toNat : Int)) w := by
    unfold Instr.index
    simp only [asIntOf, Sem.run_bind, Sem.run_pure, Result.andThen_ok, run_underlying hu]
    rw [if_pos h0, hb]
    rfl
  simp only [execOp, ha.eval hx, ha.eval hy]
  rw [Sem.run_bind, hr]
  rfl
end
def len8 : ByteArray := ⟨((List.range 256).map fun i => UInt8.ofNat (Go.Sort.bitsLen i)).toArray⟩
theorem len8_size : len8.size = 256 := by
  show (((List.range 256).map fun i => UInt8.ofNat (Go.Sort.bitsLen i)).toArray).size = 256
  rw [List.size_toArray, List.length_map, List.length_range]
theorem len8_at {i : Nat} (h : i < 256) : len8[i]? = some (UInt8.ofNat (Go.Sort.bitsLen i)) := by
  rw [getElem?_pos len8 i (by rw [len8_size]; exact h), ByteArray.getElem_eq_getElem_data]
  have : len8.data = ((List.range 256).map fun i => UInt8.ofNat (Go.Sort.bitsLen i)).toArray := rfl
  simp only [this, List.getElem_toArray, List.getElem_map, List.getElem_range]
theorem bits_small {i : Nat} (h : i < 256) : Go.Sort.bitsLen i ≤ 8 := by
  unfold Go.Sort.bitsLen
  split
  · omega
  · rename_i h0
    have : Nat.log2 i < 8 := (Nat.log2_lt h0).2 (by simpa using h)
    omega
theorem bits_shift {x : Nat} (h : 256 ≤ x) : Go.Sort.bitsLen (x / 256) + 8 = Go.Sort.bitsLen x := by
  unfold Go.Sort.bitsLen
  have h0 : x / 256 ≠ 0 := by omega
  rw [if_neg h0, if_neg (by omega)]
  have e : (x / 256).log2 + 8 = x.log2 := by
    symm
    rw [Nat.log2_eq_iff (by omega)]
    have h1 := Nat.log2_self_le h0
    have h2 := Nat.lt_log2_self (n := x / 256)
    rw [Nat.pow_succ] at h2
    constructor
    · rw [Nat.pow_add]; omega
    · rw [Nat.pow_succ, Nat.pow_add]; omega
  omega
/-- What a row sorted in place holds. -/
theorem perm_sorted : ∀ {l1 l2 : List Nat}, l1.Pairwise (· ≤ ·) → l2.Pairwise (· ≤ ·) → l1.Perm l2 → l1 = l2
  | [], l2, _, _, h => (List.Perm.eq_nil h.symm).symm
  | a :: l1, [], _, _, h => by have := h.length_eq; simp at this
  | a :: l1, b :: l2, h1, h2, h => by
    rw [List.pairwise_cons] at h1 h2
    have ha : a ∈ b :: l2 := h.mem_iff.1 (List.mem_cons_self ..)
    have hb : b ∈ a :: l1 := h.mem_iff.2 (List.mem_cons_self ..)
    have e1 : b ≤ a := by rcases List.mem_cons.1 ha with e | m; exact Nat.le_of_eq e.symm; exact h2.1 a m
    have e2 : a ≤ b := by rcases List.mem_cons.1 hb with e | m; exact Nat.le_of_eq e.symm; exact h1.1 b m
    have e : a = b := Nat.le_antisymm e2 e1
    subst e
    rw [perm_sorted h1.2 h2.2 h.cons_inv]
theorem sorted_list {d r : Array Nat} {l : List Nat} (hp : Go.Sort.PermIn 0 d.size d r) (hs : Go.Sort.SortedIn ltN 0 d.size r) (hd : d.toList.Perm l) (hl : l.Pairwise (· ≤ ·)) : r.toList = l := by
  obtain ⟨hz, _, hpp⟩ := hp
  refine perm_sorted ?_ hl ?_
  · rw [List.pairwise_iff_getElem]
    intro i j hi hj hij
    have := hs i j (Nat.zero_le _) hij (by rw [← hz]; simpa using hj)
    simp only [ltN, decide_eq_false_iff_not] at this
    have h1 : i < r.size := by simpa using hi
    have h2 : j < r.size := by simpa using hj
    rw [getElem!_pos r i h1, getElem!_pos r j h2] at this
    simpa using Nat.le_of_not_lt this
  · have e1 : r.extract 0 d.size = r := by rw [← hz]; simp
    have e2 : d.extract 0 d.size = d := by simp
    rw [e1, e2] at hpp
    exact hpp.trans hd
end Go.Sl

/- The numbers of a segment, collected in whatever order (own work). -/
set_option linter.unusedVariables false
set_option linter.unusedSimpArgs false
namespace Go.Sl
def unx (p : Int × Value) : Nat × Int := (p.1.toNat, match p.2 with | .int _ v => v | _ => 0)
theorem unx_xpair (x : Nat × Int) : unx (xpair x) = x := by simp [unx, xpair]
theorem vis_perm {v l : Xl} (h : (v.map xpair).Perm (l.map xpair)) : v.Perm l := by
  have := h.map unx
  rw [List.map_map, List.map_map, show unx ∘ xpair = id from funext unx_xpair, List.map_id, List.map_id] at this
  exact this
theorem xnums_perm {segs size : Int} {v l : Xl} (h : v.Perm l) (s : Int) : (xnums segs size v s).Perm (xnums segs size l s) := (h.filter _).map _
theorem xnums_sorted {segs size : Int} {l : Xl} (h : Xs l) (s : Int) : (xnums segs size l s).Pairwise (· ≤ ·) := by
  unfold xnums
  rw [List.pairwise_map]
  exact (h.sublist List.filter_sublist).imp fun hxy => Nat.le_of_lt hxy
theorem xnums_snoc {segs size : Int} {v : Xl} {q : Nat × Int} (s : Int) : xnums segs size (v ++ [q]) s = xnums segs size v s ++ (if ofS segs size q.2 = some s then [q.1] else []) := by
  unfold xnums
  rw [List.filter_append, List.map_append]
  congr 1
  by_cases e : ofS segs size q.2 = some s <;> simp [e]
abbrev kv (x : Ge) : Int × Value := (x.1, x.2.1)
section
variable {v l : Xl} {A : Gm} {seen : Array Nat} {e : Ge} {q : Nat × Int}
theorem left_in (h : (v.map xpair ++ (A.left seen).map kv).Perm (l.map xpair)) (he : e ∈ A.left seen) : ∃ q, q ∈ l ∧ e.1 = (q.1 : Int) ∧ e.2.1 = .int .i64 q.2 := by
  have h1 : kv e ∈ l.map xpair := h.mem_iff.1 (List.mem_append_right _ (List.mem_map.2 ⟨e, he, rfl⟩))
  obtain ⟨q, hq, e2⟩ := List.mem_map.1 h1
  simp only [xpair, kv, Prod.mk.injEq] at e2
  exact ⟨q, hq, e2.1.symm, e2.2.symm⟩
theorem left_next (ho : A.ok) (h : (v.map xpair ++ (A.left seen).map kv).Perm (l.map xpair)) (he : e ∈ A.left seen) (h1 : e.1 = (q.1 : Int)) (h2 : e.2.1 = .int .i64 q.2) : ((v ++ [q]).map xpair ++ (A.left (seen.push e.2.2)).map kv).Perm (l.map xpair) := by
  refine List.Perm.trans ?_ h
  rw [List.map_append, List.append_assoc]
  refine List.Perm.append_left _ ?_
  have := (Gm.left_push ho he).map kv
  refine List.Perm.trans ?_ this.symm
  rw [List.map_cons]
  have e3 : kv e = xpair q := by simp only [kv, xpair, h1, h2]
  rw [List.map_cons, e3]
  exact List.Perm.refl _
theorem left_start (h : (A.es.map fun x => (x.1, x.2.1)).Perm (l.map xpair)) : (([] : Xl).map xpair ++ (A.left #[]).map kv).Perm (l.map xpair) := by
  rw [Gm.left_new]
  exact h
theorem left_len (h : (v.map xpair ++ (A.left seen).map kv).Perm (l.map xpair)) : v.length ≤ l.length := by
  have := h.length_eq
  simp at this
  omega
theorem left_end (h : (v.map xpair ++ (A.left seen).map kv).Perm (l.map xpair)) (h0 : A.left seen = []) : v.Perm l := by
  rw [h0] at h
  simp only [List.map_nil, List.append_nil] at h
  exact vis_perm h
theorem left_less (ho : A.ok) (he : e ∈ A.left seen) : (A.left (seen.push e.2.2)).length < (A.left seen).length := by
  have := (Gm.left_push ho he).length_eq
  simp at this
  omega
end
theorem us_append (a b : List Nat) : us (a ++ b) = us a ++ us b := by simp [us]
/-! ### The used segment in which the fewest lie -/
def vic (p : Nat → Bool) (c : Nat → Nat) : Nat → Option Nat
  | 0 => none
  | k + 1 => match vic p c k with
    | none => if p k then some k else none
    | some b => if p k && decide (c k < c b) then some k else some b
section
variable {p : Nat → Bool} {c : Nat → Nat} {k b : Nat}
theorem vic_no (h : p k = false) : vic p c (k + 1) = vic p c k := by
  rw [vic]
  cases vic p c k <;> simp [h]
theorem vic_first (h : p k = true) (h2 : vic p c k = none) : vic p c (k + 1) = some k := by rw [vic, h2]; simp [h]
theorem vic_less (h : p k = true) (h2 : vic p c k = some b) (h3 : c k < c b) : vic p c (k + 1) = some k := by rw [vic, h2]; simp [h, h3]
theorem vic_not (h : p k = true) (h2 : vic p c k = some b) (h3 : ¬ c k < c b) : vic p c (k + 1) = vic p c k := by rw [vic, h2]; simp [h, h3]
/-- What it is: used, and none that is used has fewer, nor as few ahead of it. -/
theorem vic_spec : ∀ {n b : Nat}, vic p c n = some b → b < n ∧ p b = true ∧ ∀ j, j < n → p j = true → c b ≤ c j ∧ (c j = c b → b ≤ j)
  | 0, b, h => by cases h
  | n + 1, b, h => by
    rw [vic] at h
    cases hv : vic p c n with
    | none =>
      rw [hv] at h
      simp only at h
      split at h
      · rename_i hp
        obtain rfl := Option.some.inj h
        refine ⟨by omega, hp, fun j hj hpj => ?_⟩
        rcases Nat.lt_or_ge j n with h1 | h1
        · exact absurd hpj (by rw [vic_none hv j h1]; decide)
        · have : j = n := by omega
          subst this
          exact ⟨Nat.le_refl _, fun _ => Nat.le_refl _⟩
      · cases h
    | some q =>
      rw [hv] at h
      simp only at h
      obtain ⟨h1, h2, h3⟩ := vic_spec hv
      split at h
      · rename_i hp
        simp only [Bool.and_eq_true, decide_eq_true_eq] at hp
        obtain rfl := Option.some.inj h
        refine ⟨by omega, hp.1, fun j hj hpj => ?_⟩
        rcases Nat.lt_or_ge j n with hl | hl
        · have := h3 j hl hpj
          exact ⟨by omega, fun e => by omega⟩
        · have : j = n := by omega
          subst this
          exact ⟨Nat.le_refl _, fun _ => Nat.le_refl _⟩
      · rename_i hp
        obtain rfl := Option.some.inj h
        refine ⟨by omega, h2, fun j hj hpj => ?_⟩
        rcases Nat.lt_or_ge j n with hl | hl
        · exact h3 j hl hpj
        · have : j = n := by omega
          subst this
          simp only [hpj, Bool.true_and, decide_eq_true_eq] at hp
          exact ⟨by omega, fun e => by omega⟩
where
  vic_none : ∀ {n : Nat}, vic p c n = none → ∀ j, j < n → p j = false
  | 0, _, j, hj => by omega
  | n + 1, h, j, hj => by
    rw [vic] at h
    cases hv : vic p c n with
    | some q => rw [hv] at h; simp only at h; split at h <;> cases h
    | none =>
      rw [hv] at h
      simp only at h
      split at h
      · cases h
      · rename_i hp
        rcases Nat.lt_or_ge j n with h1 | h1
        · exact vic_none hv j h1
        · have : j = n := by omega
          subst this
          simpa using hp
end
theorem hsub_nilx {r : Hp} : HSub ([] :: r) r := hsub_flat rfl
end Go.Sl

/- The document's list of numbers, in memory (own work). -/
set_option linter.unusedVariables false
set_option linter.unusedSimpArgs false
namespace Go.Sl
/-- Pairs of numbers. -/
def pcs (l : List (Int × Int)) : List Value := (l.map fun x => [Value.int .i64 x.1, Value.int .i64 x.2]).flatten
theorem pcs_append (a b : List (Int × Int)) : pcs (a ++ b) = pcs a ++ pcs b := by simp [pcs]
theorem pcs_at {l : List (Int × Int)} {i : Nat} {x : Int × Int} {sp : List Value} (h : l[i]? = some x) : (pcs l ++ sp)[i * 2]? = some (.int .i64 x.1) := by
  induction l generalizing i with
  | nil => simp at h
  | cons y l ih =>
    cases i with
    | zero => simp at h; subst h; rfl
    | succ i =>
      simp only [List.getElem?_cons_succ] at h
      have := ih h
      rw [show pcs (y :: l) = [Value.int .i64 y.1, Value.int .i64 y.2] ++ pcs l from rfl, show (i + 1) * 2 = i * 2 + 2 by omega]
      simpa using this
/-- Where each sector lies, of the first ones. -/
def lieK (z k : Nat) : List (Int × Int) := [(-1, -1), (-1, -1)] ++ (List.range k).map fun i => (((i / z : Nat) : Int), ((i % z : Nat) : Int))
theorem lieK_next {z s j : Nat} (h : j < z) : lieK z (s * z + (j + 1)) = lieK z (s * z + j) ++ [((s : Int), (j : Int))] := by
  unfold lieK
  rw [show s * z + (j + 1) = (s * z + j) + 1 by omega, List.range_succ, List.map_append, List.append_assoc]
  have e1 : (s * z + j) / z = s := by rw [Nat.mul_comm, Nat.mul_add_div (by omega), Nat.div_eq_of_lt h]; rfl
  have e2 : (s * z + j) % z = j := by rw [Nat.mul_comm, Nat.mul_add_mod, Nat.mod_eq_of_lt h]
  simp only [List.map_cons, List.map_nil, e1, e2]
theorem lieK_at {z k i : Nat} (h : i < k + 2) : (lieK z k)[i]? = some (if i < 2 then (-1, -1) else ((((i - 2) / z : Nat) : Int), (((i - 2) % z : Nat) : Int))) := by
  unfold lieK
  match i, h with
  | 0, _ => rfl
  | 1, _ => rfl
  | i + 2, h =>
    rw [List.getElem?_append_right (by simp), if_neg (by omega), List.getElem?_map, show i + 2 - [((-1 : Int), (-1 : Int)), (-1, -1)].length = i from rfl, List.getElem?_range (by omega)]
    rfl
theorem may_nat {segs size : Int} (h : mayG segs size = true) : ∃ s z : Nat, segs = s ∧ size = z ∧ 3 ≤ s ∧ s ≤ 64 ∧ 1 ≤ z ∧ z ≤ 32 := by
  obtain ⟨h1, h2, h3, h4⟩ := mayG_spec h
  exact ⟨segs.toNat, size.toNat, by omega, by omega, by omega, by omega, by omega, by omega⟩
/-- The document's segment of a sector. -/
def seg18 (segs size a : Int) : Int := match ofS segs size a with | some s => s | none => -1
theorem seg18_no {segs size a : Int} (h : ofS segs size a = none) : seg18 segs size a = -1 := by unfold seg18; rw [h]
/-- Numbers with their sectors. -/
def lcs (l : Xl) : List Value := (l.map fun x => [Value.int .u64 (x.1 : Int), Value.int .i64 x.2]).flatten
theorem lcs_len (l : Xl) : (lcs l).length = l.length * 2 := by
  induction l with
  | nil => rfl
  | cons x l ih => simp only [lcs, List.map_cons, List.flatten_cons, List.length_append, List.length_cons] at ih ⊢; rw [ih]; simp; omega
theorem lcs_append (a b : Xl) : lcs (a ++ b) = lcs a ++ lcs b := by simp [lcs]
theorem lcs_at {l : Xl} {i : Nat} {x : Nat × Int} {sp : List Value} (h : l[i]? = some x) : (lcs l ++ sp)[i * 2]? = some (.int .u64 (x.1 : Int)) ∧ (lcs l ++ sp)[i * 2 + 1]? = some (.int .i64 x.2) ∧ ((lcs l ++ sp).drop (i * 2)).take 2 = [.int .u64 (x.1 : Int), .int .i64 x.2] := by
  induction l generalizing i with
  | nil => simp at h
  | cons y l ih =>
    cases i with
    | zero => simp at h; subst h; exact ⟨rfl, rfl, rfl⟩
    | succ i =>
      simp only [List.getElem?_cons_succ] at h
      have := ih h
      rw [show lcs (y :: l) = [Value.int .u64 (y.1 : Int), Value.int .i64 y.2] ++ lcs l from rfl, show (i + 1) * 2 = i * 2 + 2 by omega]
      simpa using this
/-- Where a number stands in the list. -/
def fnd (l : Xl) (n : Nat) : Int := match l.findIdx? (fun x => x.1 == n) with | some i => (i : Int) | none => -1
theorem fnd_at {l : Xl} {n i : Nat} {x : Nat × Int} (hi : l[i]? = some x) (hx : x.1 = n) (hno : ∀ j y, j < i → l[j]? = some y → y.1 ≠ n) : fnd l n = i := by
  unfold fnd
  obtain ⟨hlt, he⟩ := List.getElem?_eq_some_iff.1 hi
  have : l.findIdx? (fun x => x.1 == n) = some i := by
    rw [List.findIdx?_eq_some_iff_getElem]
    refine ⟨hlt, by rw [he]; simpa using hx, ?_⟩
    intro j hj
    have := hno j _ hj (List.getElem?_eq_getElem (by omega))
    simpa using this
  rw [this]
theorem fnd_no {l : Xl} {n : Nat} (hno : ∀ j y, j < l.length → l[j]? = some y → y.1 ≠ n) : fnd l n = -1 := by
  unfold fnd
  have : l.findIdx? (fun x => x.1 == n) = none := by
    rw [List.findIdx?_eq_none_iff]
    intro x hx
    obtain ⟨j, hj, rfl⟩ := List.getElem_of_mem hx
    have := hno j _ hj (List.getElem?_eq_getElem hj)
    simpa using this
  rw [this]
theorem fnd_none {l : Xl} {n : Nat} (h : xfind l n = none) : fnd l n = -1 := by
  refine fnd_no fun j y hj hy e => ?_
  unfold xfind at h
  rw [Option.map_eq_none_iff, List.find?_eq_none] at h
  exact h y (List.mem_of_getElem? hy) (by simp [e])
theorem fnd_some {l : Xl} (hs : Xs l) {n : Nat} {a : Int} (h : xfind l n = some a) : ∃ i, l[i]? = some (n, a) ∧ fnd l n = (i : Nat) ∧ i < l.length := by
  have hm := (xfind_mem hs).1 h
  obtain ⟨i, hi, e⟩ := List.getElem_of_mem hm
  have h1 : l[i]? = some (n, a) := by rw [List.getElem?_eq_getElem hi, e]
  refine ⟨i, h1, fnd_at h1 rfl ?_, hi⟩
  intro j y hj hy en
  have h3 := List.pairwise_iff_getElem.1 hs j i (by omega) hi hj
  rw [List.getElem?_eq_getElem (by omega)] at hy
  rw [Option.some.inj hy, e] at h3
  simp only at h3
  omega
/-! ### A number is laid among rising ones -/
def big (l : Xl) (n i : Nat) : Bool := (l.take i).any fun x => decide (n < x.1)
def outI (l : Xl) (n : Nat) (a : Int) (i : Nat) : Xl := if big l n i then xins (l.take i) n a else l.take i
theorem big_next {l : Xl} {n i : Nat} {x : Nat × Int} (h : l[i]? = some x) : big l n (i + 1) = (big l n i || decide (n < x.1)) := by
  unfold big
  rw [List.take_add_one, h]
  simp
theorem xins_end {l : Xl} {n : Nat} {a : Int} (h : ∀ x ∈ l, ¬ n < x.1) : xins l n a = l ++ [(n, a)] := by
  induction l with
  | nil => rfl
  | cons x l ih =>
    unfold xins
    rw [if_neg (h x (List.mem_cons_self ..)), ih fun y hy => h y (List.mem_cons_of_mem _ hy)]
    rfl
theorem xins_mid {l : Xl} {n : Nat} {a : Int} {x : Nat × Int} (h : ∀ x ∈ l, ¬ n < x.1) (hx : n < x.1) : xins (l ++ [x]) n a = l ++ [(n, a), x] := by
  induction l with
  | nil => show xins [x] n a = [(n, a), x]; rw [xins, if_pos hx]
  | cons y l ih =>
    rw [List.cons_append, xins, if_neg (h y (List.mem_cons_self ..)), ih fun z hz => h z (List.mem_cons_of_mem _ hz)]
    rfl
theorem xins_more {l : Xl} {n : Nat} {a : Int} {x : Nat × Int} (h : l.any (fun x => decide (n < x.1)) = true) : xins (l ++ [x]) n a = xins l n a ++ [x] := by
  induction l with
  | nil => cases h
  | cons y l ih =>
    rw [List.cons_append, xins]
    by_cases hy : n < y.1
    · rw [if_pos hy, xins, if_pos hy]; rfl
    · rw [if_neg hy, ih (by simpa [hy] using h)]
      rw [show xins (y :: l) n a = y :: xins l n a from by rw [xins, if_neg hy]]; rfl
section
variable {l : Xl} {n i : Nat} {a : Int} {x : Nat × Int}
theorem big_f (h : big l n i = false) : ∀ y ∈ l.take i, ¬ n < y.1 := by
  intro y hy hlt
  unfold big at h
  rw [List.any_eq_false] at h
  exact h y hy (by simpa using hlt)
theorem outI_0 : outI l n a 0 = [] := by unfold outI big; simp
theorem out_first (hb : big l n i = false) (hx : l[i]? = some x) (hlt : n < x.1) : outI l n a (i + 1) = outI l n a i ++ [(n, a)] ++ [x] := by
  unfold outI
  rw [big_next hx, hb, decide_eq_true hlt]
  simp only [Bool.or_true, if_true, Bool.false_eq_true, if_false]
  rw [List.take_add_one, hx, Option.toList_some, xins_mid (big_f hb) hlt]
  simp
theorem out_not (hb : big l n i = false) (hx : l[i]? = some x) (hlt : ¬ n < x.1) : outI l n a (i + 1) = outI l n a i ++ [x] := by
  unfold outI
  rw [big_next hx, hb, decide_eq_false hlt]
  simp only [Bool.or_false, Bool.false_eq_true, if_false]
  rw [List.take_add_one, hx]; rfl
theorem out_more (hb : big l n i = true) (hx : l[i]? = some x) : outI l n a (i + 1) = outI l n a i ++ [x] := by
  unfold outI
  rw [big_next hx, hb]
  simp only [Bool.true_or, if_true]
  rw [List.take_add_one, hx, Option.toList_some, xins_more hb]
theorem out_end (hb : big l n l.length = false) : outI l n a l.length ++ [(n, a)] = xins l n a := by
  have := big_f hb
  rw [List.take_length] at this
  rw [xins_end this]
  unfold outI
  rw [hb]; simp
theorem out_done (hb : big l n l.length = true) : outI l n a l.length = xins l n a := by
  unfold outI
  rw [hb, if_pos rfl, List.take_length]
theorem out_len (h : i ≤ l.length) : (outI l n a i).length ≤ l.length + 1 := by
  unfold outI
  split
  · rw [xins_len, List.length_take]; omega
  · rw [List.length_take]; omega
end
theorem lcs_one (l : Xl) : ∀ v ∈ lcs l, one v = true := by
  intro v hv
  unfold lcs at hv
  rw [List.mem_flatten] at hv
  obtain ⟨c, hc, hv⟩ := hv
  obtain ⟨x, _, rfl⟩ := List.mem_map.1 hc
  simp at hv
  rcases hv with rfl | rfl <;> rfl
end Go.Sl

/- Deeds on numbers (own work). -/
set_option linter.unusedVariables false
set_option linter.unusedSimpArgs false
namespace Go.Sl
/-- A deed: what the list is then, and the error. -/
def dd (segs size : Int) (l : Xl) (d n : Nat) (a : Int) : Xl × Int := if d % 4 = 2 then xput segs size l n a true else if d % 4 = 3 then xdrop l n else xput segs size l n a false
def bos (l : List Bool) : List Value := l.map Value.bool
theorem bos_len (l : List Bool) : (bos l).length = l.length := by simp [bos]
theorem us_hat {l : List Value} {off i : Nat} {u : List Nat} (hv : (l.drop off).take (us u).length = us u) (hi : i < u.length) : l[off + i * 1]? = some (Value.int .u64 ((u.getD i 0 : Nat) : Int)) := by
  have h1 : ((l.drop off).take (us u).length)[i]? = (us u)[i]? := by rw [hv]
  rw [List.getElem?_take_of_lt (by rw [us_len]; exact hi), List.getElem?_drop] at h1
  rw [Nat.mul_one, h1]
  simp [us, List.getD, hi]
theorem bos_hat {l : List Value} {off i : Nat} {u : List Bool} (hv : (l.drop off).take (bos u).length = bos u) (hi : i < u.length) : l[off + i * 1]? = some (Value.bool (u.getD i false)) := by
  have h1 : ((l.drop off).take (bos u).length)[i]? = (bos u)[i]? := by rw [hv]
  rw [List.getElem?_take_of_lt (by rw [bos_len]; exact hi), List.getElem?_drop] at h1
  rw [Nat.mul_one, h1]
  simp [bos, List.getD, hi]
end Go.Sl

/- What a plan gains (own work). -/
set_option linter.unusedVariables false
set_option linter.unusedSimpArgs false
namespace Go.Sl
/-- Does a number lie in the segment? -/
def liesIn (segs size : Int) (l : Xl) (seg : Int) (n : Nat) : Bool := match xfind l n with
  | some a => decide (ofS segs size a = some seg)
  | none => false
/-- The numbers that lie there, each once. -/
def gset (segs size : Int) (l : Xl) (seg : Int) (ns : List Nat) : List Nat := ns.foldl (fun acc n => if liesIn segs size l seg n && !acc.contains n then acc ++ [n] else acc) []
theorem gset_next {segs size : Int} {l : Xl} {seg : Int} {ns : List Nat} {i n : Nat} (h : ns[i]? = some n) : gset segs size l seg (ns.take (i + 1)) = if liesIn segs size l seg n && !(gset segs size l seg (ns.take i)).contains n then gset segs size l seg (ns.take i) ++ [n] else gset segs size l seg (ns.take i) := by
  unfold gset
  rw [List.take_add_one, h, Option.toList_some, List.foldl_append]
  rfl
/-- A map of numbers that has just these. -/
structure Gs (acc : List Nat) (G : Gm) : Prop where
  ok : G.ok
  has : ∀ n : Nat, (G.get (n : Int)).isSome = acc.contains n
  len : G.es.length = acc.length
theorem Gs.new : Gs [] Gm.new := ⟨Gm.new_ok, fun n => rfl, rfl⟩
theorem Gs.put {acc : List Nat} {G : Gm} (h : Gs acc G) (n : Nat) (v : Value) : Gs (if acc.contains n then acc else acc ++ [n]) (G.put (n : Int) v) where
  ok := Gm.put_ok h.ok _ _
  has m := by
    rw [Gm.get_put]
    by_cases e : (m : Int) = (n : Int)
    · have : m = n := by omega
      subst this
      rw [if_pos rfl]
      cases hc : acc.contains m
      · simp
      · simp only [if_true]; rw [hc]; rfl
    · rw [if_neg e, h.has]
      have : ¬ m = n := by omega
      split
      · rfl
      · simp [this]
  len := by
    rw [Gm.put_len, h.has, h.len]
    split <;> simp
theorem gset_len (segs size : Int) (l : Xl) (seg : Int) (ns : List Nat) (i : Nat) : (gset segs size l seg (ns.take i)).length ≤ ns.length := by
  have key : ∀ (ms acc : List Nat), (ms.foldl (fun acc n => if liesIn segs size l seg n && !acc.contains n then acc ++ [n] else acc) acc).length ≤ acc.length + ms.length := by
    intro ms
    induction ms with
    | nil => intro acc; simp
    | cons m ms ih =>
      intro acc
      rw [List.foldl_cons]
      refine Nat.le_trans (ih _) ?_
      split <;> simp <;> omega
  have := key (ns.take i) []
  unfold gset
  rw [List.length_take] at this
  simp at this ⊢
  omega
/-- Cells that are laid one by one. -/
def laidL (segs size : Int) (ll : Xl) : Xl := ll.foldl (fun x c => (xput segs size x c.1 c.2 false).1) []
theorem laid_next {segs size : Int} {ll : Xl} {i : Nat} {c : Nat × Int} (h : ll[i]? = some c) : laidL segs size (ll.take (i + 1)) = (xput segs size (laidL segs size (ll.take i)) c.1 c.2 false).1 := by
  unfold laidL
  rw [List.take_add_one, h, Option.toList_some, List.foldl_append]
  rfl
theorem lcs_hat {l : List Value} {off i : Nat} {al : Xl} {x : Nat × Int} (hv : (l.drop off).take (lcs al).length = lcs al) (hi : al[i]? = some x) : l[off + i * 2]? = some (.int .u64 (x.1 : Int)) ∧ l[off + i * 2 + 1]? = some (.int .i64 x.2) := by
  have hlt := (List.getElem?_eq_some_iff.1 hi).1
  have h := lcs_at (sp := []) hi
  rw [List.append_nil] at h
  have e : ∀ j, j < (lcs al).length → l[off + j]? = (lcs al)[j]? := fun j hj => by
    rw [← hv, List.getElem?_take_of_lt hj, List.getElem?_drop]
  have hl := lcs_len al
  exact ⟨by rw [e _ (by omega)]; exact h.1, by rw [Nat.add_assoc, e _ (by omega)]; exact h.2.1⟩
end Go.Sl

/- A slice of deeds on numbers (own work). -/
set_option linter.unusedVariables false
set_option linter.unusedSimpArgs false
namespace Go.Sl
abbrev A18 := UInt8 × UInt64 × Int
abbrev a8c (x : A18) : List Value := [.int .u8 (x.1.toNat : Int), .int .u64 (x.2.1.toNat : Int), .int .i64 x.2.2]
def a8s (l : List A18) : List Value := (l.map a8c).flatten
theorem xput_len {segs size : Int} {l : Xl} (hs : Xs l) (n : Nat) (a : Int) (mv : Bool) : (xput segs size l n a mv).1.length ≤ l.length + 1 := by
  unfold xput
  split
  · simp
  · split
    · simp
    · cases hf : xfind l n with
      | some b =>
        simp only
        split
        · have := xdel_len hs hf
          simp only [xins_len]; omega
        · simp
      | none =>
        simp only
        split
        · simp
        · simp [xins_len]
end Go.Sl

/- What the laws of layer 42 ask (own work). -/
set_option linter.unusedVariables false
set_option linter.unusedSimpArgs false
namespace Go.Sl
theorem holds_sl2 {w0 : World} {H : Hp} {sz e s len cap : Nat} {g : Option SlG} {vs : List Value} {a : Option Addr} (he : slV g len = .slice a len cap) (hs : H[s]? = some (slSeg e g vs)) (hok : slOk sz g len vs) : Holds w0 H a vs := by
  obtain ⟨a', cap', e', h⟩ := holds_sl (w0 := w0) hs hok
  rw [he] at e'
  injection e' with e1 e2 e3
  rw [e1]
  exact h
/-- The gain. -/
def gain42 (segs size : Int) (l : Xl) (seg : Int) (ns : List Nat) : Int :=
  if mayG segs size = false ∨ seg < 0 ∨ segs ≤ seg then 0 else max (size - ((gset segs size l seg ns).length : Int)) 0
end Go.Sl

/- The document's numbers and victim, as plain lists (own work). -/
set_option linter.unusedVariables false
set_option linter.unusedSimpArgs false
namespace Go.Sl
/-- The victim, as a number; -1: none. -/
def vicI (p : Nat → Bool) (c : Nat → Nat) (k : Nat) : Int := match vic p c k with | some b => (b : Int) | none => -1
def vicF (p : Nat → Bool) (c : Nat → Nat) (k : Nat) : Int := match vic p c k with | some b => (c b : Int) | none => 0
section
variable {p : Nat → Bool} {c : Nat → Nat} {k b : Nat}
end
/-- The used ones but the head. -/
def butK (lu : List Bool) (head : Int) (i : Nat) : List Bool := (List.range i).map fun k => lu.getD k false && !decide ((k : Int) = head)
/-- The document's choice. -/
def rch (segs size : Int) (l : Xl) (p : Nat → Bool) : Int := if mayG segs size then vicI p (fun j => cnt18 segs size l (j : Int)) segs.toNat else -1
end Go.Sl

/- What the laws of layer 18 ask of the plain list (own work). -/
set_option linter.unusedVariables false
set_option linter.unusedSimpArgs false
namespace Go.Sl
theorem us_ix {u : List Nat} {i x : Nat} {sp : List Value} (h : u[i]? = some x) : (us u ++ sp)[i]? = some (.int .u64 (x : Int)) := by
  have hi := (List.getElem?_eq_some_iff.1 h).1
  rw [List.getElem?_append_left (by rw [us_len]; exact hi)]
  simp [us, h]
theorem xnums_mem {segs size : Int} {l : Xl} {s : Int} {n : Nat} : n ∈ xnums segs size l s ↔ ∃ a, (n, a) ∈ l ∧ ofS segs size a = some s := by
  unfold xnums
  simp only [List.mem_map, List.mem_filter, beq_iff_eq]
  constructor
  · rintro ⟨⟨m, a⟩, ⟨h1, h2⟩, rfl⟩
    exact ⟨a, h1, h2⟩
  · rintro ⟨a, h1, h2⟩
    exact ⟨(n, a), ⟨h1, h2⟩, rfl⟩
theorem xnums_strict {segs size : Int} {l : Xl} (h : Xs l) (s : Int) : (xnums segs size l s).Pairwise (· < ·) := by
  unfold xnums
  rw [List.pairwise_map]
  exact h.sublist List.filter_sublist
/-- How many lie in the segments ahead of k. -/
def cntB (segs size : Int) (l : Xl) (k : Nat) : Nat := (l.filter fun x => match ofS segs size x.2 with | some s => decide (s < (k : Int)) | none => false).length
/-- A map that has, of the numbers, only those told. -/
structure Gh (p : Nat → Prop) (G : Gm) : Prop where
  ok : G.ok
  only : ∀ n : Nat, G.get (n : Int) ≠ none → p n
theorem Gh.new (p : Nat → Prop) : Gh p Gm.new := ⟨Gm.new_ok, fun n h => absurd rfl h⟩
theorem Gh.put {p q : Nat → Prop} {G : Gm} (h : Gh p G) (n : Nat) (v : Value) (hq : ∀ m, p m ∨ m = n → q m) : Gh q (G.put (n : Int) v) where
  ok := Gm.put_ok h.ok _ _
  only m hm := by
    rw [Gm.get_put] at hm
    by_cases e : (m : Int) = (n : Int)
    · exact hq m (.inr (by omega))
    · rw [if_neg e] at hm
      exact hq m (.inl (h.only m hm))
theorem Gh.mono {p q : Nat → Prop} {G : Gm} (h : Gh p G) (hq : ∀ m, p m → q m) : Gh q G := ⟨h.ok, fun n hn => hq n (h.only n hn)⟩
/-- The numbers that were seen when j of segment k's are done. -/
def seenP (segs size : Int) (l : Xl) (k j : Nat) (n : Nat) : Prop := ∃ s : Int, n ∈ xnums segs size l s ∧ (s < (k : Int) ∨ s = (k : Int) ∧ ∃ i, i < j ∧ (xnums segs size l (k : Int))[i]? = some n)
/-! ### In whatever order -/
theorem xput_s {segs size : Int} {l : Xl} (hs : Xs l) (n : Nat) (a : Int) : Xs (xput segs size l n a false).1 := by
  unfold xput
  split
  · exact hs
  · split
    · exact hs
    · cases hf : xfind l n with
      | some b => exact hs
      | none => exact xins_s hs hf
/-! ### First occurrences -/
def fewL (ll : List A18) : List A18 := ll.foldl (fun acc c => if acc.any (fun d => d.2.1 == c.2.1) then acc else acc ++ [c]) []
def FnL (l : List A18) : Prop := ∀ x ∈ l, ∀ y ∈ l, x.2.1 = y.2.1 → x = y
abbrev prA (x : A18) : Nat × Int := (x.2.1.toNat, x.2.2)
/-- The same ones, from another on. -/
def rotL (l : List A18) (k : Nat) : List A18 := (List.range l.length).filterMap fun i => l[(i + k) % l.length]?
/-- A map of numbers to true. -/
structure Gt (p : Nat → Bool) (G : Gm) : Prop where
  ok : G.ok
  get : ∀ n : Nat, G.get (n : Int) = if p n then some (.bool true) else none
theorem Gt.new : Gt (fun _ => false) Gm.new := ⟨Gm.new_ok, fun n => rfl⟩
theorem Gt.put {p : Nat → Bool} {G : Gm} (h : Gt p G) (n : Nat) {q : Nat → Bool} (hq : ∀ m, q m = (p m || m == n)) : Gt q (G.put (n : Int) (.bool true)) where
  ok := Gm.put_ok h.ok _ _
  get m := by
    rw [Gm.get_put, hq]
    by_cases e : (m : Int) = (n : Int)
    · have : m = n := by omega
      rw [if_pos e]; simp [this]
    · have : ¬ m = n := by omega
      rw [if_neg e, h.get]; simp [this]
theorem Gt.look {p : Nat → Bool} {G : Gm} (h : Gt p G) (n : Nat) : (G.get (n : Int)).getD (.bool false) = .bool (p n) := by
  rw [h.get]
  cases p n <;> rfl
def fewP (l : List A18) (n : Nat) : Bool := l.any fun d => d.2.1.toNat == n
end Go.Sl

/- The log over a mirror of two, as long as nothing is lost (own work). -/
set_option linter.unusedVariables false
set_option linter.unusedSimpArgs false
namespace Go.Sl
structure Lm where
  gens : List Nat
  head : Option Nat
  slot : Nat
  known : Nat
def Lm.hI (l : Lm) : Int := match l.head with
  | none => -1
  | some h => (h : Int)
abbrev lgcells (mb gb : Nat) (lv : Value) (sg sz : Nat) (l : Lm) : List Value := [ptr mb, lv, .int .i64 (sg : Int), .int .i64 (sz : Int), .slice (some ⟨gb, 0, none⟩) l.gens.length l.gens.length, .int .i64 l.hI, .int .i64 (l.slot : Int), .int .u64 (l.known : Int)]
/-- The first segment that is free. -/
def fz : List Nat → Option Nat
  | [] => none
  | g :: r => if g = 0 then some 0 else (fz r).map (· + 1)
def fzI (l : List Nat) : Int := match fz l with
  | none => -1
  | some i => (i : Int)
theorem fz_at : ∀ {l : List Nat} {i : Nat}, (∀ j, j < i → l.getD j 0 ≠ 0) → l[i]? = some 0 → fz l = some i
  | [], i, _, h => by simp at h
  | g :: r, 0, _, h => by simp at h; subst h; rfl
  | g :: r, i + 1, h0, h => by
    have hg : g ≠ 0 := by simpa using h0 0 (by omega)
    rw [fz, if_neg hg, fz_at (l := r) (i := i) (fun j hj => by simpa using h0 (j + 1) (by omega)) (by simpa using h)]
    rfl
theorem fz_no : ∀ {l : List Nat}, (∀ j, j < l.length → l.getD j 0 ≠ 0) → fz l = none
  | [], _ => rfl
  | g :: r, h0 => by
    have hg : g ≠ 0 := by simpa using h0 0 (by simp)
    rw [fz, if_neg hg, fz_no (l := r) (fun j hj => by simpa using h0 (j + 1) (by simpa using hj))]
    rfl
theorem fz_spec : ∀ {l : List Nat} {i : Nat}, fz l = some i → l[i]? = some 0
  | [], i, h => by cases h
  | g :: r, i, h => by
    rw [fz] at h
    split at h
    · rename_i hg; cases h; simp [hg]
    · cases hr : fz r with
      | none => rw [hr] at h; cases h
      | some j => rw [hr] at h; cases h; simpa using fz_spec hr
def Lm.fresh (l : Lm) : Option (Nat × Nat × Nat) := (fz l.gens).map fun s => (s, 0, l.known + 1)
def Lm.next (l : Lm) (sz : Nat) : Option (Nat × Nat × Nat) := match l.head with
  | some h => if l.slot < sz then some (h, l.slot, l.gens.getD h 0) else l.fresh
  | none => l.fresh
def Lm.put (l : Lm) (s o g : Nat) : Lm := ⟨l.gens.set s g, some s, o + 1, max l.known g⟩
def Lm.free (l : Lm) (s : Nat) : Lm := { l with gens := l.gens.set s 0 }
def Lm.room (l : Lm) (sz : Nat) : Int := (match l.head with
  | none => 0
  | some _ => (sz : Int) - l.slot) + ((l.gens.filter (· = 0)).length * sz : Nat)
def rTo (b : Int) (sz : Nat) (G : List Nat) : Nat → Int
  | 0 => b
  | i + 1 => if G.getD i 0 = 0 then rTo b sz G i + sz else rTo b sz G i
theorem rTo_eq (b : Int) (sz : Nat) (G : List Nat) : ∀ i, i ≤ G.length → rTo b sz G i = b + (((G.take i).filter (· = 0)).length * sz : Nat)
  | 0, _ => by simp [rTo]
  | i + 1, h => by
    obtain ⟨x, hx⟩ : ∃ x, G[i]? = some x := ⟨_, List.getElem?_eq_getElem (by omega)⟩
    have hd : G.getD i 0 = x := by simp [List.getD, hx]
    rw [rTo, hd, rTo_eq b sz G i (by omega), List.take_add_one, hx, Option.toList_some, List.filter_append, List.length_append, Nat.add_mul]
    by_cases e : x = 0
    · simp [e]; omega
    · simp [e]
theorem rTo_hi (b : Int) (sz : Nat) (G : List Nat) (hs : sz ≤ 32) : ∀ i, b ≤ rTo b sz G i ∧ rTo b sz G i ≤ b + 32 * i
  | 0 => by simp [rTo]
  | i + 1 => by
    have := rTo_hi b sz G hs i
    rw [rTo]
    split <;> omega
def updB (B : Nat → Option (List UInt8)) (a : Nat) (b : List UInt8) : Nat → Option (List UInt8) := fun x => if x = a then some b else B x
def freeB (B : Nat → Option (List UInt8)) (sz s : Nat) : Nat → Option (List UInt8) := fun x => if (x - 2) / sz = s then none else B x
/-- The log, its mirror and the devices below; B: what stands where. -/
structure Lst (t : DT) (gv : Value) (sg sz : Nat) (D : Duo) (A : Da) (m : Mi) (X : List Sec) (k mb bx bys bp : Nat) (l : Lm) (B : Nat → Option (List UInt8)) : Prop where
  ms : Ms t gv D A m (2 + sg * sz) X X k k mb bx bys bp
  may : mayG (sg : Int) (sz : Int) = true
  gl : l.gens.length = sg
  gb : ∀ g ∈ l.gens, g ≤ l.known
  kb : l.known ≤ k
  hd : ∀ h, l.head = some h → h < sg ∧ l.gens.getD h 0 ≠ 0
  sl : l.slot ≤ sz
  bo : ∀ a b, B a = some b → b.length ≤ 103 ∧ ∃ s o g, s < sg ∧ o < sz ∧ a = 2 + s * sz + o ∧ l.gens[s]? = some g ∧ g ≠ 0 ∧ X[a]? = some (packS a g b)
section
variable {t : DT} {gv : Value} {sg sz : Nat} {D : Duo} {A : Da} {m : Mi} {X : List Sec} {k mb bx bys bp : Nat} {l : Lm} {B : Nat → Option (List UInt8)}
theorem at_lt {s o : Nat} (hs : s < sg) (ho : o < sz) : 2 + s * sz + o < 2 + sg * sz := by
  have : (s + 1) * sz ≤ sg * sz := Nat.mul_le_mul_right _ hs
  rw [Nat.succ_mul] at this; omega
theorem may_lt (h : mayG (sg : Int) (sz : Int) = true) : sg ≤ 64 ∧ sz ≤ 32 ∧ 0 < sz ∧ 3 ≤ sg ∧ sg * sz ≤ 2048 := by
  obtain ⟨h1, h2, h3, h4⟩ := mayG_spec h
  have : sg * sz ≤ 64 * 32 := Nat.mul_le_mul (by omega) (by omega)
  omega
theorem seg_of {s o : Nat} (ho : o < sz) : (2 + s * sz + o - 2) / sz = s ∧ (2 + s * sz + o - 2) % sz = o := by
  rw [show 2 + s * sz + o - 2 = o + s * sz from by omega]
  exact ⟨by rw [Nat.add_mul_div_right _ _ (by omega), Nat.div_eq_of_lt ho, Nat.zero_add], by rw [Nat.add_mul_mod_self_right, Nat.mod_eq_of_lt ho]⟩
theorem Lst.xl (h : Lst t gv sg sz D A m X k mb bx bys bp l B) : X.length = 2 + sg * sz := h.ms.vw.a.wlen
theorem Lst.nx (h : Lst t gv sg sz D A m X k mb bx bys bp l B) {s o g : Nat} (hn : l.next sz = some (s, o, g)) : s < sg ∧ o < sz ∧ g ≠ 0 ∧ g ≤ k + 1 ∧ (l.gens[s]? = some g ∨ l.gens[s]? = some 0) := by
  have hz := (may_lt h.may).2.2.1
  have key : l.fresh = some (s, o, g) → s < sg ∧ o < sz ∧ g ≠ 0 ∧ g ≤ k + 1 ∧ (l.gens[s]? = some g ∨ l.gens[s]? = some 0) := by
    intro e
    unfold Lm.fresh at e
    cases hf : fz l.gens with
    | none => rw [hf] at e; cases e
    | some i =>
      rw [hf] at e
      simp only [Option.map_some, Option.some.injEq, Prod.mk.injEq] at e
      obtain ⟨rfl, rfl, rfl⟩ := e
      have h0 := fz_spec hf
      have := (List.getElem?_eq_some_iff.1 h0).1
      have := h.gl; have := h.kb
      exact ⟨by omega, hz, by omega, by omega, .inr h0⟩
  unfold Lm.next at hn
  split at hn
  · rename_i hh hhd
    obtain ⟨q1, q2⟩ := h.hd _ hhd
    split at hn
    · rename_i hlt
      simp only [Option.some.injEq, Prod.mk.injEq] at hn
      obtain ⟨rfl, rfl, rfl⟩ := hn
      have hl : hh < l.gens.length := by rw [h.gl]; exact q1
      have e : l.gens[hh]? = some (l.gens.getD hh 0) := by rw [List.getElem?_eq_getElem hl]; simp [List.getD, hl]
      have := h.gb _ (List.mem_of_getElem? e); have := h.kb
      exact ⟨q1, hlt, q2, by omega, .inl e⟩
    · exact key hn
  · exact key hn
theorem Lst.app (h : Lst t gv sg sz D A m X k mb bx bys bp l B) {s o g : Nat} (hn : l.next sz = some (s, o, g)) {b : List UInt8} (hb : b.length ≤ 103) {D' : Duo} {A' : Da}
    (hm : Ms t gv D' A' m (2 + sg * sz) (X.set (2 + s * sz + o) (packS (2 + s * sz + o) g b)) (X.set (2 + s * sz + o) (packS (2 + s * sz + o) g b)) (k + 1) (k + 1) mb bx bys bp) :
    Lst t gv sg sz D' A' m (X.set (2 + s * sz + o) (packS (2 + s * sz + o) g b)) (k + 1) mb bx bys bp (l.put s o g) (updB B (2 + s * sz + o) b) := by
  obtain ⟨n1, n2, n3, n4, n5⟩ := h.nx hn
  have hsl : s < l.gens.length := by rw [h.gl]; exact n1
  refine ⟨hm, h.may, by simp [Lm.put, h.gl], ?_, ?_, ?_, by simp only [Lm.put]; omega, ?_⟩
  · intro x hx
    simp only [Lm.put] at hx ⊢
    rcases List.mem_or_eq_of_mem_set hx with h1 | h1
    · have := h.gb x h1; omega
    · omega
  · have := h.kb; simp only [Lm.put]; omega
  · intro y hy
    simp only [Lm.put, Option.some.injEq] at hy ⊢
    subst hy
    exact ⟨n1, by simp [List.getD, hsl, n3]⟩
  · intro a b' hab
    unfold updB at hab
    split at hab
    · rename_i ha
      cases hab
      subst ha
      exact ⟨hb, s, o, g, n1, n2, rfl, by simp [Lm.put, hsl], n3, by rw [List.getElem?_set_self (by rw [h.xl]; exact at_lt n1 n2)]⟩
    · rename_i ha
      obtain ⟨q0, s', o', g', q1, q2, q3, q4, q5, q6⟩ := h.bo a b' hab
      refine ⟨q0, s', o', g', q1, q2, q3, ?_, q5, by rw [List.getElem?_set_ne (fun e => ha e.symm)]; exact q6⟩
      by_cases e : s = s'
      · subst e
        rcases n5 with n5 | n5
        · rw [q4] at n5; cases n5; simp [Lm.put, hsl]
        · rw [q4] at n5; cases n5; exact absurd rfl q5
      · simp only [Lm.put]; rw [List.getElem?_set_ne e]; exact q4
theorem Lst.rel (h : Lst t gv sg sz D A m X k mb bx bys bp l B) {s : Nat} (hs : s < sg) (hh : l.head ≠ some s) : Lst t gv sg sz D A m X k mb bx bys bp (l.free s) (freeB B sz s) := by
  have hsl : s < l.gens.length := by rw [h.gl]; exact hs
  refine ⟨h.ms, h.may, by simp [Lm.free, h.gl], ?_, h.kb, ?_, h.sl, ?_⟩
  · intro x hx
    simp only [Lm.free] at hx ⊢
    rcases List.mem_or_eq_of_mem_set hx with h1 | h1
    · exact h.gb x h1
    · omega
  · intro y hy
    simp only [Lm.free] at hy ⊢
    obtain ⟨q1, q2⟩ := h.hd y hy
    have hne : s ≠ y := fun e => hh (by rw [hy, e])
    refine ⟨q1, ?_⟩
    simp only [List.getD] at q2 ⊢
    rw [List.getElem?_set_ne hne]
    exact q2
  · intro a b hab
    unfold freeB at hab
    split at hab
    · cases hab
    · rename_i ha
      obtain ⟨q0, s', o', g', q1, q2, q3, q4, q5, q6⟩ := h.bo a b hab
      refine ⟨q0, s', o', g', q1, q2, q3, ?_, q5, q6⟩
      have : s ≠ s' := fun e => ha (by rw [q3, (seg_of q2).1, e])
      simp only [Lm.free]; rw [List.getElem?_set_ne this]; exact q4
/-- What a read finds. -/
theorem Lst.rd (h : Lst t gv sg sz D A m X k mb bx bys bp l B) (hk : k < 100000) {a : Nat} {b : List UInt8} (hb : B a = some b) : b.length ≤ 103 ∧ ∃ s g sec, s < sg ∧ ofS (sg : Int) (sz : Int) (a : Int) = some (s : Int) ∧ a < 4096 ∧ l.gens[s]? = some g ∧ g ≠ 0 ∧ X[a]? = some sec ∧ sec.length = 128 ∧ isS (a : Int) sec ∧ unpG (a : Int) sec = g ∧ unpB (a : Int) sec = b := by
  obtain ⟨q0, s, o, g, q1, q2, q3, q4, q5, q6⟩ := h.bo a b hb
  obtain ⟨w1, w2, w3, w4, w5⟩ := may_lt h.may
  have hlt := at_lt q1 q2
  have hg : g < M64 := by have := h.gb g (List.mem_of_getElem? q4); have := h.kb; simp only [M64]; omega
  have hp : packOk (a : Int) b := ⟨by omega, by omega, q0⟩
  have hi := packS_isS hp hg
  simp only [Int.toNat_natCast] at hi
  refine ⟨q0, s, g, _, q1, ?_, by omega, q4, q5, q6, packS_len q0, hi, by rw [unpG, if_pos hi, packS_gen hg], by rw [unpB, if_pos hi, packS_body q0]⟩
  obtain ⟨d1, d2⟩ := seg_of (s := s) q2
  have : (((2 + s * sz + o - 2) / sz : Nat) : Int) = ((a : Int) - 2) / (sz : Int) := by rw [q3]; push_cast; congr 1; omega
  unfold ofS
  rw [h.may, if_pos (by simp; constructor; omega; have : ((sg * sz : Nat) : Int) = (sg : Int) * sz := by push_cast; rfl
                        omega), ← this, d1]
end
theorem zus (k : Nat) : zcells [Value.int .u64 0] k = us (List.replicate k 0) := by
  induction k with
  | zero => rfl
  | succ k ih => simp [zcells, us, List.replicate_succ] at ih ⊢
def l0 (sg : Nat) : Lm := ⟨List.replicate sg 0, none, 0, 0⟩
theorem Lst.new {t : DT} {gv : Value} {sg sz : Nat} {D : Duo} {A : Da} {m : Mi} {X : List Sec} {mb bx bys bp : Nat} (hM : Ms t gv D A m (2 + sg * sz) X X 0 0 mb bx bys bp) (hm : mayG (sg : Int) (sz : Int) = true) : Lst t gv sg sz D A m X 0 mb bx bys bp (l0 sg) (fun _ => none) :=
  ⟨hM, hm, by simp [l0], (fun g hg => by simp [l0] at hg; omega), Nat.le_refl _, (fun h hh => by cases hh), Nat.zero_le _, (fun a b hb => by cases hb)⟩
end Go.Sl

/- walks (own work; the walks' lines by a program of this repo). -/
set_option linter.unusedVariables false
set_option linter.unusedSimpArgs false
set_option maxRecDepth 20000
namespace Go.Proofs.Ytighbhplfjjgpaa
open Go.Sl
attribute [local irreducible] BodyQ WpC WpL WpS WpH OpW FnS

abbrev lgo (lb mb gb : Nat) (zc : List Value) (sg sz : Nat) (l : Lm) : List (Nat × Obj) := [(lb, .cells (lgcells mb gb (.iface 67 (.agg zc.toArray)) sg sz l).toArray 105)]
abbrev lgg (gb : Nat) (l : Lm) : List (Nat × Obj) := [(gb, .cells (us l.gens).toArray 48)]
abbrev LGS (lb mb gb : Nat) (zc : List Value) (sg sz : Nat) (l : Lm) (m : Mi) (D : Duo) (H : Hp) : Hp := lgo lb mb gb zc sg sz l :: lgg gb l :: m.seg 111 :: D.seg dt :: H

theorem index0_s {w0 : World} {H : Hp} {gb cap : Nat} (G : List Nat) (hG : G.length ≤ 100000) : FnS Try.prog w0 66 #[.slice (some ⟨gb, 0, none⟩) G.length cap, .int .u64 0] ([(gb, .cells (us G).toArray 48)] :: H) (fun e H' => e = .returned (.int .i64 (fzI G)) ∧ H' = [(gb, .cells (us G).toArray 48)] :: H) := by
  refine FnS_intro (n := 19) (rs := [.tmp 4]) (vs := [.slice (some ⟨gb, 0, none⟩) G.length cap, .int .u64 0]) Try.func66 rfl Try.ntmps66 rfl rfl ?_
  refine C_seq (C_region (LY rfl (y_assign rfl) (L_nil (C_seq (C_seq (C_region (LY rfl (y_move rfl) ?_)))))))
  refine LY rfl (y_lenS rfl rfl Try.underlying33) ?_
  refine LY rfl (y_move rfl) (L_nil (C_block ?_))
  refine C_loop (ι := Nat) (fun i => [(0, .slice (some ⟨gb, 0, none⟩) G.length cap), (1, .int .u64 0), (7, .int .i64 (G.length : Int)), (8, .int .i64 (i : Int))]) (fun i => [(gb, .cells (us G).toArray 48)] :: H) (fun i => i ≤ G.length ∧ ∀ j, j < i → G.getD j 0 ≠ 0) (fun i => G.length - i) 0 ⟨Nat.zero_le _, fun j hj => absurd hj (Nat.not_lt_zero _)⟩ ⟨rfl, rfl, rfl, rfl, trivial⟩ (HSub.refl _) (fun i hi => ?_)
  obtain ⟨hi1, hi2⟩ := hi
  refine C_seq (C_region (LY rfl (y_lss rfl rfl) (L_nil (C_seq ?_))))
  refine C_cond rfl (fun hc0 => ?_) (fun hc0 => ?_)
  · replace hc0 : i < G.length := by have := of_decide_eq_true hc0; omega
    obtain ⟨x, hx⟩ : ∃ x, G[i]? = some x := ⟨_, List.getElem?_eq_getElem hc0⟩
    refine C_skip (C_seq (C_block (C_seq (C_region (LY rfl (y_move rfl) (LY rfl (y_assign rfl) (L_nil (C_seq (C_region (LY rfl (y_move rfl) (LY rfl (y_move rfl) (LY rfl (y_move rfl) ?_))))))))))))
    refine LY rfl (y_indexS rfl rfl Try.underlying33 sz_48 (by omega) (by omega) (show _ = i from by simp)) ?_
    refine LY rfl (y_load rfl ag_48 (sees 0 0 rfl) (show _ = some (Value.int .u64 (x : Int)) from by simp [us, hx])) ?_
    refine LY rfl (y_eqi rfl rfl) (L_nil ?_)
    refine C_cond rfl (fun hc1 => ?_) (fun hc1 => ?_)
    · replace hc1 : x = 0 := by have := of_decide_eq_true hc1; omega
      refine C_seq (C_region (LY rfl (y_move rfl) (LY rfl (y_assign rfl) (L_nil (C_ret ?_)))))
      refine B_ret (rv_tmp rfl rv_nil) (HSub.refl _) ?_
      first
      | exact ⟨ret_int (by subst hc1; rw [fzI, fz_at hi2 hx]), rfl⟩
      | exact ⟨ret_int (by subst hc0; rw [fzI, fz_no hi2]), rfl⟩
    · replace hc1 : x ≠ 0 := by have := of_decide_eq_false hc1; omega
      refine C_skip (C_region ?_)
      refine LY rfl (y_add rfl rfl (wi64 (by omega) (by omega))) ?_
      refine LY rfl (y_move rfl) (L_nil ?_)
      exact ⟨i + 1, ⟨by omega, fun j hj => by
        rcases Nat.lt_or_ge j i with h1 | h1
        · exact hi2 j h1
        · obtain rfl : j = i := by omega
          simp [List.getD, hx, hc1]⟩, by omega, ⟨rfl, rfl, rfl, rfl, trivial⟩, HSub.refl _⟩
  · replace hc0 : i = G.length := by have := of_decide_eq_false hc0; omega
    refine C_exit (C_seq (C_region (LY rfl (y_assign rfl) (L_nil (C_ret ?_)))))
    refine B_ret (rv_tmp rfl rv_nil) (HSub.refl _) ?_
    first
    | exact ⟨ret_int (by subst hc1; rw [fzI, fz_at hi2 hx]), rfl⟩
    | exact ⟨ret_int (by subst hc0; rw [fzI, fz_no hi2]), rfl⟩

theorem sectoro_s {w0 : World} {H : Hp} {sg sz : Nat} (hm : mayG (sg : Int) (sz : Int) = true) (s o : Nat) (hs : s < sg) (ho : o < sz) : FnS Try.prog w0 18 #[shV (sg : Int) (sz : Int), .int .i64 (s : Int), .int .i64 (o : Int)] H (fun e H' => e = .returned (.tuple #[.int .i64 ((2 + s * sz + o : Nat) : Int), .bool true]) ∧ H' = H) := by
  obtain ⟨m1, m2, m3, m4⟩ := mayG_spec hm
  obtain ⟨w1, w2, w3, w4, w5⟩ := may_lt hm
  have hlt := at_lt hs ho
  have q3 : (s : Int) * (sz : Int) = ((s * sz : Nat) : Int) := by push_cast; rfl
  refine FnS_intro (n := 38) (rs := [.tmp 6, .tmp 7]) (vs := [shV (sg : Int) (sz : Int), .int .i64 (s : Int), .int .i64 (o : Int)]) Try.func18 rfl Try.ntmps18 rfl rfl ?_
  refine C_seq (C_region ?_)
  refine L_op rfl (op_box rfl rfl rfl (fun B1 => ?_))
  refine LY rfl (y_assign rfl) (LY rfl (y_assign rfl) (L_nil (C_seq (C_seq (C_region ?_)))))
  refine LY rfl (y_loadA rfl ag_23 sz_23 (sees 0 0 rfl) (Nat.le_of_ble_eq_true rfl) rfl) ?_
  refine L_op rfl (op_call rfl rfl (fun a w => Try.call45 a w) rfl ?_)
  refine (shmay_s (sg : Int) (sz : Int)).mono ?_
  rintro _ _ ⟨rfl, e⟩
  obtain rfl := e.symm
  clear e
  rw [hm]
  refine ⟨_, rfl, ?_⟩
  refine LY rfl (y_not rfl) (LY rfl (y_move rfl) (LY rfl (y_move rfl) (LY rfl (y_lss rfl rfl) (LY rfl (y_pick_f rfl rfl) (LY rfl (y_move rfl) ?_)))))
  refine L_case 15 rfl (fun hg1_8 => ?_) (fun hg1_8 => ?_)
  · exact absurd (of_decide_eq_true hg1_8) (by omega)
  · skip
    refine LY rfl (y_move rfl) (LY rfl (y_fieldAddr rfl fl_23_0) (LY rfl (y_load rfl ag_3 (sees 0 0 rfl) rfl) ?_))
    refine LY rfl (y_geq rfl rfl) ?_
    refine LY rfl (y_pick_f rfl rfl) (LY rfl (y_move rfl) ?_)
    refine L_case 21 rfl (fun hg1_14 => ?_) (fun hg1_14 => ?_)
    · exact absurd (of_decide_eq_true hg1_14) (by omega)
    · skip
      refine LY rfl (y_move rfl) (LY rfl (y_lss rfl rfl) (LY rfl (y_pick_f rfl rfl) (LY rfl (y_move rfl) ?_)))
      refine L_case 25 rfl (fun hg1_18 => ?_) (fun hg1_18 => ?_)
      · exact absurd (of_decide_eq_true hg1_18) (by omega)
      · skip
        refine LY rfl (y_move rfl) (LY rfl (y_fieldAddr rfl fl_23_1) (LY rfl (y_load rfl ag_3 (sees 0 0 rfl) rfl) ?_))
        refine LY rfl (y_geq rfl rfl) ?_
        refine LY rfl (y_pick_f rfl rfl) (L_nil ?_)
        refine C_cond rfl (fun hc0 => absurd (of_decide_eq_true hc0) (by omega)) (fun hc0 => ?_)
        refine C_skip (C_seq (C_region (LY rfl (y_move rfl) (LY rfl (y_fieldAddr rfl fl_23_1) (LY rfl (y_load rfl ag_3 (sees 0 0 rfl) rfl) ?_)))))
        refine LY rfl (y_mul rfl rfl (show _ = ((s * sz : Nat) : Int) from by rw [q3]; exact wi64 (by omega) (by omega))) ?_
        refine LY rfl (y_add rfl rfl (show _ = ((2 + s * sz : Nat) : Int) from by rw [wi64 (by omega) (by omega)]; omega)) ?_
        refine LY rfl (y_move rfl) ?_
        refine LY rfl (y_add rfl rfl (show _ = ((2 + s * sz + o : Nat) : Int) from by rw [wi64 (by omega) (by omega)]; omega)) ?_
        refine LY rfl (y_assign rfl) (LY rfl (y_assign rfl) (L_nil (C_ret ?_)))
        refine B_ret (rv_tmp rfl (rv_tmp rfl rv_nil)) (hsub (.cons _ (.refl _))) ?_
        exact ⟨rfl, rfl⟩

theorem next_h {w0 : World} {H : Hp} {lb mb gb : Nat} {zc : List Value} {sg sz : Nat} {l : Lm} (hg : l.gens.length ≤ 100000) {hh gg : Nat} (hd : l.head = some hh) (hs : l.slot < sz) (hx : l.gens[hh]? = some gg) : FnS Try.prog w0 54 #[ptr lb] (lgo lb mb gb zc sg sz l :: lgg gb l :: H) (fun e H' => e = .returned (.tuple #[.int .i64 (hh : Int), .int .i64 (l.slot : Int), .int .u64 (gg : Int), .bool true]) ∧ H' = (lgo lb mb gb zc sg sz l :: lgg gb l :: H)) := by
  have hI : l.hI = (hh : Int) := by rw [Lm.hI, hd]
  have hl := (List.getElem?_eq_some_iff.1 hx).1
  refine FnS_intro (n := 54) (rs := [.tmp 2, .tmp 3, .tmp 4, .tmp 5]) (vs := [ptr lb]) Try.func54 rfl Try.ntmps54 rfl rfl ?_
  refine C_seq (C_region (LY rfl (y_assign rfl) (LY rfl (y_assign rfl) (LY rfl (y_assign rfl) (LY rfl (y_assign rfl) (L_nil (C_seq (C_seq ?_))))))))
  refine C_regionH0 (by kernel_rfl) ?_
  refine HY 0 rfl (HSub.refl _) rfl (y_move rfl) ?_
  refine HY 1 rfl (HSub.refl _) rfl (y_nilCheck rfl) ?_
  refine HY 2 rfl (HSub.refl _) rfl (y_fieldAddr rfl fl_105_4) ?_
  refine HY 3 rfl (HSub.refl _) rfl (y_load rfl ag_3 (sees 0 0 rfl) rfl) ?_
  refine HY 4 rfl (HSub.refl _) rfl (y_geq rfl rfl) ?_
  refine HY 5 rfl (HSub.refl _) rfl (y_move rfl) ?_
  refine H_case 11 rfl (fun hg1_6 => ?_) (fun hg1_6 => ?_)
  · skip
    refine HY 6 rfl (HSub.refl _) rfl (y_move rfl) ?_
    refine HY 7 rfl (HSub.refl _) rfl (y_nilCheck rfl) ?_
    refine HY 8 rfl (HSub.refl _) rfl (y_fieldAddr rfl fl_105_5) ?_
    refine HY 9 rfl (HSub.refl _) rfl (y_load rfl ag_3 (sees 0 0 rfl) rfl) ?_
    refine HY 10 rfl (HSub.refl _) rfl (y_move rfl) ?_
    refine HY 11 rfl (HSub.refl _) rfl (y_nilCheck rfl) ?_
    refine HY 12 rfl (HSub.refl _) rfl (y_fieldAddr rfl fl_105_2) ?_
    refine HY 13 rfl (HSub.refl _) rfl (y_fieldAddr rfl fl_23_1) ?_
    refine HY 14 rfl (HSub.refl _) rfl (y_load rfl ag_3 (sees 0 0 rfl) rfl) ?_
    refine HY 15 rfl (HSub.refl _) rfl (y_lss rfl rfl) ?_
    refine HY 16 rfl (HSub.refl _) rfl (y_pick_t rfl rfl) ?_
    refine H_done (by kernel_rfl) ?_
    refine C_cond rfl (fun hc0 => ?_) (fun hc0 => absurd hc0 (by first | (simp; omega) | simp <;> omega))
    refine C_seq ?_
    refine C_regionH0 (by kernel_rfl) ?_
    refine HY 0 rfl (HSub.refl _) rfl (y_move rfl) ?_
    refine HY 1 rfl (HSub.refl _) rfl (y_nilCheck rfl) ?_
    refine HY 2 rfl (HSub.refl _) rfl (y_fieldAddr rfl fl_105_4) ?_
    refine HY 3 rfl (HSub.refl _) rfl (y_load rfl ag_3 (sees 0 0 rfl) rfl) ?_
    refine HY 4 rfl (HSub.refl _) rfl (y_move rfl) ?_
    refine HY 5 rfl (HSub.refl _) rfl (y_nilCheck rfl) ?_
    refine HY 6 rfl (HSub.refl _) rfl (y_fieldAddr rfl fl_105_5) ?_
    refine HY 7 rfl (HSub.refl _) rfl (y_load rfl ag_3 (sees 0 0 rfl) rfl) ?_
    refine HY 8 rfl (HSub.refl _) rfl (y_move rfl) ?_
    refine HY 9 rfl (HSub.refl _) rfl (y_nilCheck rfl) ?_
    refine HY 10 rfl (HSub.refl _) rfl (y_fieldAddr rfl fl_105_3) ?_
    refine HY 11 rfl (HSub.refl _) rfl (y_load rfl ag_33 (sees 0 0 rfl) rfl) ?_
    refine HY 12 rfl (HSub.refl _) rfl (y_move rfl) ?_
    refine HY 13 rfl (HSub.refl _) rfl (y_nilCheck rfl) ?_
    refine HY 14 rfl (HSub.refl _) rfl (y_fieldAddr rfl fl_105_4) ?_
    refine HY 15 rfl (HSub.refl _) rfl (y_load rfl ag_3 (sees 0 0 rfl) rfl) ?_
    refine HY 16 rfl (HSub.refl _) rfl (y_indexS rfl rfl Try.underlying33 sz_48 (by omega) (by omega) (show _ = hh from by rw [hI]; simp)) ?_
    refine HY 17 rfl (HSub.refl _) rfl (y_load rfl ag_48 (sees 1 0 rfl) (show _ = some (Value.int .u64 (gg : Int)) from by simp [us, hx])) ?_
    refine HY 18 rfl (HSub.refl _) rfl (y_assign rfl) ?_
    refine HY 19 rfl (HSub.refl _) rfl (y_assign rfl) ?_
    refine HY 20 rfl (HSub.refl _) rfl (y_assign rfl) ?_
    refine HY 21 rfl (HSub.refl _) rfl (y_assign rfl) ?_
    refine H_done (by kernel_rfl) ?_
    refine C_ret ?_
    refine B_ret (rv_tmp rfl (rv_tmp rfl (rv_tmp rfl (rv_tmp rfl rv_nil)))) ((hsub (.cons_cons _ (.cons_cons _ (.refl _)))).trans (hsub_pick [0, 0] rfl)) ?_
    rw [hI]
    exact ⟨rfl, rfl⟩
  · exact absurd (of_decide_eq_false hg1_6) (by omega)

theorem next_f {w0 : World} {H : Hp} {lb mb gb : Nat} {zc : List Value} {sg sz : Nat} {l : Lm} (hg : l.gens.length ≤ 100000) (hf : ¬ (0 ≤ l.hI ∧ l.slot < sz)) (hk : l.known < 100000) : FnS Try.prog w0 54 #[ptr lb] (lgo lb mb gb zc sg sz l :: lgg gb l :: H) (fun e H' => e = .returned (.tuple #[.int .i64 (fzI l.gens), .int .i64 0, .int .u64 ((l.known + 1 : Nat) : Int), .bool (decide (0 ≤ fzI l.gens))]) ∧ H' = (lgo lb mb gb zc sg sz l :: lgg gb l :: H)) := by
  refine FnS_intro (n := 54) (rs := [.tmp 2, .tmp 3, .tmp 4, .tmp 5]) (vs := [ptr lb]) Try.func54 rfl Try.ntmps54 rfl rfl ?_
  refine C_seq (C_region (LY rfl (y_assign rfl) (LY rfl (y_assign rfl) (LY rfl (y_assign rfl) (LY rfl (y_assign rfl) (L_nil (C_seq (C_seq ?_))))))))
  refine C_regionH0 (by kernel_rfl) ?_
  refine HY 0 rfl (HSub.refl _) rfl (y_move rfl) ?_
  refine HY 1 rfl (HSub.refl _) rfl (y_nilCheck rfl) ?_
  refine HY 2 rfl (HSub.refl _) rfl (y_fieldAddr rfl fl_105_4) ?_
  refine HY 3 rfl (HSub.refl _) rfl (y_load rfl ag_3 (sees 0 0 rfl) rfl) ?_
  refine HY 4 rfl (HSub.refl _) rfl (y_geq rfl rfl) ?_
  refine HY 5 rfl (HSub.refl _) rfl (y_move rfl) ?_
  refine H_case 11 rfl (fun hg1_6 => ?_) (fun hg1_6 => ?_)
  · replace hg1_6 := of_decide_eq_true hg1_6
    refine HY 6 rfl (HSub.refl _) rfl (y_move rfl) ?_
    refine HY 7 rfl (HSub.refl _) rfl (y_nilCheck rfl) ?_
    refine HY 8 rfl (HSub.refl _) rfl (y_fieldAddr rfl fl_105_5) ?_
    refine HY 9 rfl (HSub.refl _) rfl (y_load rfl ag_3 (sees 0 0 rfl) rfl) ?_
    refine HY 10 rfl (HSub.refl _) rfl (y_move rfl) ?_
    refine HY 11 rfl (HSub.refl _) rfl (y_nilCheck rfl) ?_
    refine HY 12 rfl (HSub.refl _) rfl (y_fieldAddr rfl fl_105_2) ?_
    refine HY 13 rfl (HSub.refl _) rfl (y_fieldAddr rfl fl_23_1) ?_
    refine HY 14 rfl (HSub.refl _) rfl (y_load rfl ag_3 (sees 0 0 rfl) rfl) ?_
    refine HY 15 rfl (HSub.refl _) rfl (y_lss rfl rfl) ?_
    refine HY 16 rfl (HSub.refl _) rfl (y_pick_t rfl rfl) ?_
    refine H_done (by kernel_rfl) ?_
    refine C_cond rfl (fun hc0 => absurd hc0 (by first | (simp; omega) | simp <;> omega)) (fun hc0 => ?_)
    refine C_skip (C_seq (C_region (LY rfl (y_move rfl) (LY rfl (y_nilCheck rfl) (LY rfl (y_fieldAddr rfl fl_105_3) (LY rfl (y_load rfl ag_33 (sees 0 0 rfl) rfl) ?_))))))
    refine L_op rfl (op_call rfl rfl (fun a w => Try.call66 a w) rfl ?_)
    refine ((index0_s l.gens hg).sub (hsub_pick [1] rfl)).mono ?_
    rintro _ _ ⟨rfl, rfl⟩
    refine ⟨_, rfl, ?_⟩
    refine LY rfl (y_assign rfl) (L_nil (C_seq ?_))
    refine C_regionH0 (by kernel_rfl) ?_
    refine HY 0 rfl (HSub.refl _) rfl (y_move rfl) ?_
    refine HY 1 rfl (HSub.refl _) rfl (y_move rfl) ?_
    refine HY 2 rfl (HSub.refl _) rfl (y_nilCheck rfl) ?_
    refine HY 3 rfl (HSub.refl _) rfl (y_fieldAddr rfl fl_105_6) ?_
    refine HY 4 rfl (HSub.refl _) rfl (y_load rfl ag_48 (sees 1 0 rfl) rfl) ?_
    refine HY 5 rfl (HSub.refl _) rfl (y_add rfl rfl (show _ = ((l.known + 1 : Nat) : Int) from by rw [wu64 (by omega) (by omega)]; omega)) ?_
    refine HY 6 rfl (HSub.refl _) rfl (y_move rfl) ?_
    refine HY 7 rfl (HSub.refl _) rfl (y_geq rfl rfl) ?_
    refine HY 8 rfl (HSub.refl _) rfl (y_assign rfl) ?_
    refine HY 9 rfl (HSub.refl _) rfl (y_assign rfl) ?_
    refine HY 10 rfl (HSub.refl _) rfl (y_assign rfl) ?_
    refine HY 11 rfl (HSub.refl _) rfl (y_assign rfl) ?_
    refine H_done (by kernel_rfl) ?_
    refine C_ret ?_
    refine B_ret (rv_tmp rfl (rv_tmp rfl (rv_tmp rfl (rv_tmp rfl rv_nil)))) ((hsub (.cons_cons _ (.cons_cons _ (.refl _)))).trans (hsub_pick [1, 0] rfl)) ?_
    exact ⟨rfl, rfl⟩
  · skip
    refine HK 6 rfl (HSub.refl _) rfl ?_
    refine HK 7 rfl (HSub.refl _) rfl ?_
    refine HK 8 rfl (HSub.refl _) rfl ?_
    refine HK 9 rfl (HSub.refl _) rfl ?_
    refine HK 10 rfl (HSub.refl _) rfl ?_
    refine HK 11 rfl (HSub.refl _) rfl ?_
    refine HK 12 rfl (HSub.refl _) rfl ?_
    refine HK 13 rfl (HSub.refl _) rfl ?_
    refine HK 14 rfl (HSub.refl _) rfl ?_
    refine HK 15 rfl (HSub.refl _) rfl ?_
    refine HY 16 rfl (HSub.refl _) rfl (y_pick_f rfl rfl) ?_
    refine H_done (by kernel_rfl) ?_
    refine C_cond_f rfl (C_skip (C_seq (C_region (LY rfl (y_move rfl) (LY rfl (y_nilCheck rfl) (LY rfl (y_fieldAddr rfl fl_105_3) (LY rfl (y_load rfl ag_33 (sees 0 0 rfl) rfl) ?_)))))))
    refine L_op rfl (op_call rfl rfl (fun a w => Try.call66 a w) rfl ?_)
    refine ((index0_s l.gens hg).sub (hsub_pick [1] rfl)).mono ?_
    rintro _ _ ⟨rfl, rfl⟩
    refine ⟨_, rfl, ?_⟩
    refine LY rfl (y_assign rfl) (L_nil (C_seq ?_))
    refine C_regionH0 (by kernel_rfl) ?_
    refine HY 0 rfl (HSub.refl _) rfl (y_move rfl) ?_
    refine HY 1 rfl (HSub.refl _) rfl (y_move rfl) ?_
    refine HY 2 rfl (HSub.refl _) rfl (y_nilCheck rfl) ?_
    refine HY 3 rfl (HSub.refl _) rfl (y_fieldAddr rfl fl_105_6) ?_
    refine HY 4 rfl (HSub.refl _) rfl (y_load rfl ag_48 (sees 1 0 rfl) rfl) ?_
    refine HY 5 rfl (HSub.refl _) rfl (y_add rfl rfl (show _ = ((l.known + 1 : Nat) : Int) from by rw [wu64 (by omega) (by omega)]; omega)) ?_
    refine HY 6 rfl (HSub.refl _) rfl (y_move rfl) ?_
    refine HY 7 rfl (HSub.refl _) rfl (y_geq rfl rfl) ?_
    refine HY 8 rfl (HSub.refl _) rfl (y_assign rfl) ?_
    refine HY 9 rfl (HSub.refl _) rfl (y_assign rfl) ?_
    refine HY 10 rfl (HSub.refl _) rfl (y_assign rfl) ?_
    refine HY 11 rfl (HSub.refl _) rfl (y_assign rfl) ?_
    refine H_done (by kernel_rfl) ?_
    refine C_ret ?_
    refine B_ret (rv_tmp rfl (rv_tmp rfl (rv_tmp rfl (rv_tmp rfl rv_nil)))) ((hsub (.cons_cons _ (.cons_cons _ (.refl _)))).trans (hsub_pick [1, 0] rfl)) ?_
    exact ⟨rfl, rfl⟩

theorem next_s {w0 : World} {H : Hp} {lb mb gb : Nat} {zc : List Value} {sg sz : Nat} {l : Lm}  (hg : l.gens.length ≤ 100000) (hk : l.known < 100000) {s o g : Nat} (hn : l.next sz = some (s, o, g)) (hh : ∀ h, l.head = some h → h < l.gens.length) : FnS Try.prog w0 54 #[ptr lb] (lgo lb mb gb zc sg sz l :: lgg gb l :: H) (fun e H' => e = .returned (.tuple #[.int .i64 (s : Int), .int .i64 (o : Int), .int .u64 (g : Int), .bool true]) ∧ H' = (lgo lb mb gb zc sg sz l :: lgg gb l :: H)) := by
  have key : ¬ (0 ≤ l.hI ∧ l.slot < sz) → l.fresh = some (s, o, g) → FnS Try.prog w0 54 #[ptr lb] (lgo lb mb gb zc sg sz l :: lgg gb l :: H) (fun e H' => e = .returned (.tuple #[.int .i64 (s : Int), .int .i64 (o : Int), .int .u64 (g : Int), .bool true]) ∧ H' = (lgo lb mb gb zc sg sz l :: lgg gb l :: H)) := by
    intro hf e
    unfold Lm.fresh at e
    cases hz : fz l.gens with
    | none => rw [hz] at e; cases e
    | some i =>
      rw [hz] at e
      simp only [Option.map_some, Option.some.injEq, Prod.mk.injEq] at e
      obtain ⟨rfl, rfl, rfl⟩ := e
      refine (next_f hg hf hk).mono ?_
      rintro _ _ ⟨rfl, rfl⟩
      rw [show fzI l.gens = (i : Int) from by rw [fzI, hz]]
      exact ⟨by simp, rfl⟩
  unfold Lm.next at hn
  split at hn
  · rename_i h hd
    split at hn
    · rename_i hs
      simp only [Option.some.injEq, Prod.mk.injEq] at hn
      obtain ⟨rfl, rfl, rfl⟩ := hn
      have hl := hh _ hd
      exact next_h hg hd hs (by rw [List.getElem?_eq_getElem hl]; simp [List.getD, hl])
    · rename_i hs
      exact key (fun q => hs q.2) hn
  · rename_i hd
    exact key (fun q => by exact absurd q.1 (by rw [show l.hI = -1 from by rw [Lm.hI, hd]]; decide)) hn

end Go.Proofs.Ytighbhplfjjgpaa

/- walks (own work; the walks' lines by a program of this repo). -/
set_option linter.unusedVariables false
set_option linter.unusedSimpArgs false
set_option maxRecDepth 20000
namespace Go.Proofs.Ytighbhplfjjgpaa
open Go.Sl
attribute [local irreducible] BodyQ WpC WpL WpS WpH OpW FnS


theorem append_s {w0 : World} {H : Hp} {lb mb gb : Nat} {zc : List Value} {sg sz : Nat} {l : Lm} {gv : Value} {D : Duo} {A : Da} {m : Mi} {X : List Sec} {k bx bys bp : Nat} {B : Nat → Option (List UInt8)} (h : Lst dt gv sg sz D A m X k mb bx bys bp l B) (hk : k < 99000) {pa : Option Addr} {cap s o g : Nat} {body : List UInt8} (hB : Holds w0 H pa (bs body)) (hb : body.length ≤ 103) (hn : l.next sz = some (s, o, g)) : FnS Try.prog w0 29 #[ptr lb, .slice pa body.length cap] (LGS lb mb gb zc sg sz l m D H) (fun e H' => e = .returned (.tuple #[.int .i64 ((2 + s * sz + o : Nat) : Int), .int .i64 0]) ∧ ∃ D' A', Lst dt gv sg sz D' A' m (X.set (2 + s * sz + o) (packS (2 + s * sz + o) g body)) (k + 1) mb bx bys bp (l.put s o g) (updB B (2 + s * sz + o) body) ∧ H' = LGS lb mb gb zc sg sz (l.put s o g) m D' H) := by
  obtain ⟨w1, w2, w3, w4, w5⟩ := may_lt h.may
  have hgl := h.gl
  obtain ⟨n1, n2, n3, n4, n5⟩ := h.nx hn
  have hat := at_lt n1 n2
  have hgl' : l.gens.length ≤ 100000 := by omega
  have hkk : l.known < 100000 := by have := h.kb; omega
  have hhd : ∀ h, l.head = some h → h < l.gens.length := fun y hy => by rw [hgl]; exact (h.hd y hy).1
  have hg64 : g < M64 := by simp only [M64]; omega
  refine FnS_intro (n := 88) (rs := [.tmp 4, .tmp 5]) (vs := [ptr lb, .slice pa body.length cap]) Try.func29 rfl Try.ntmps29 rfl rfl ?_
  refine C_seq (C_region (LY rfl (y_assign rfl) (LY rfl (y_assign rfl) (L_nil (C_seq (C_block (C_seq (C_region (LY rfl (y_move rfl) ?_)))))))))
  refine LY rfl (y_eqp rfl rfl Try.underlying56) ?_
  refine LY rfl (y_assign rfl) (L_nil (C_cond_f rfl (C_seq (C_region (LY rfl (y_move rfl) ?_)))))
  refine LY rfl (y_lenS rfl rfl Try.underlying71) ?_
  refine LY rfl (y_gtr rfl rfl) ?_
  refine LY rfl (y_assign rfl) (L_nil ?_)
  refine C_cond rfl (fun hc1 => absurd hc1 (by simp <;> omega)) (fun hc1 => ?_)
  refine C_skip (C_seq (C_region (LY rfl (y_move rfl) ?_)))
  refine L_op rfl (op_call rfl rfl (fun a w => Try.call54 a w) rfl ?_)
  refine ((next_s hgl' hkk hn hhd).sub (hsub_pick [0, 0] rfl)).mono ?_
  rintro _ _ ⟨rfl, rfl⟩
  refine ⟨_, rfl, ?_⟩
  refine LY rfl (y_move rfl) (LY rfl (y_extract rfl rfl) (LY rfl (y_extract rfl rfl) (LY rfl (y_extract rfl rfl) (LY rfl (y_extract rfl rfl) (LY rfl (y_assign rfl) (LY rfl (y_assign rfl) (LY rfl (y_assign rfl) (LY rfl (y_assign rfl) (L_nil (C_seq (C_seq (C_region (LY rfl (y_move rfl) (LY rfl (y_not rfl) (L_nil ?_)))))))))))))))
  refine C_cond rfl (fun hc2 => absurd hc2 (by simp)) (fun hc2 => ?_)
  refine C_skip (C_seq (C_region (LY rfl (y_move rfl) (LY rfl (y_nilCheck rfl) (LY rfl (y_fieldAddr rfl fl_105_2) ?_)))))
  refine LY rfl (y_loadA rfl ag_23 sz_23 (sees 0 0 rfl) (Nat.le_of_ble_eq_true rfl) (show _ = [Value.int .i64 (sg : Int), .int .i64 (sz : Int)] from rfl)) ?_
  refine LY rfl (y_move rfl) (LY rfl (y_move rfl) ?_)
  refine L_op rfl (op_call rfl rfl (fun a w => Try.call18 a w) rfl ?_)
  refine (sectoro_s h.may s o n1 n2).mono ?_
  rintro _ _ ⟨rfl, e⟩
  obtain rfl := e.symm
  clear e
  refine ⟨_, rfl, ?_⟩
  refine LY rfl (y_move rfl) (LY rfl (y_extract rfl rfl) (LY rfl (y_extract rfl rfl) (LY rfl (y_assign rfl) (LY rfl (y_assign rfl) (L_nil (C_seq (C_region (LY rfl (y_move rfl) (LY rfl (y_nilCheck rfl) (LY rfl (y_fieldAddr rfl fl_105_1) (LY rfl (y_load rfl ag_103 (sees 0 0 rfl) rfl) (LY rfl (y_move rfl) (LY rfl (y_move rfl) (LY rfl (y_move rfl) ?_))))))))))))))
  refine L_op rfl (op_call rfl rfl (fun a w => Try.call55 a w) rfl ?_)
  refine (pack_ok (zc := zc) g hg64 body (hB.up.up.up.up) (2 + s * sz + o) (by omega) hb).mono ?_
  rintro _ _ ⟨rfl, rfl⟩
  refine ⟨_, rfl, ?_⟩
  refine LY rfl (y_move rfl) (LY rfl (y_extract rfl rfl) (LY rfl (y_extract rfl rfl) ?_))
  refine L_op rfl (op_alloc zl_114 rfl (fun B1 => ?_))
  refine L_op rfl (op_storeA 0 0 rfl rfl rfl sz_114 (by rw [bs_length, packS_len hb]) rfl (bs_one _) rfl ?_)
  refine LY rfl (y_assign rfl) (L_nil (C_seq (C_seq ?_)))
  refine C_regionH (lgo lb mb gb zc sg sz l :: [(B1, .cells (bs (packS (2 + s * sz + o) g body)).toArray 114)] :: H) (by kernel_rfl) ?_
  refine HY 0 rfl (((hsub (.cons_cons _ (.cons_cons _ (.cons _ (.cons _ (.cons _ (.refl _))))))).trans (hsub_pick [1, 0] rfl))) rfl (y_move rfl) ?_
  refine HY 1 rfl (((hsub (.cons_cons _ (.cons_cons _ (.cons _ (.cons _ (.cons _ (.refl _))))))).trans (hsub_pick [1, 0] rfl))) rfl (y_nilCheck rfl) ?_
  refine HY 2 rfl (((hsub (.cons_cons _ (.cons_cons _ (.cons _ (.cons _ (.cons _ (.refl _))))))).trans (hsub_pick [1, 0] rfl))) rfl (y_fieldAddr rfl fl_105_0) ?_
  refine HY 3 rfl (((hsub (.cons_cons _ (.cons_cons _ (.cons _ (.cons _ (.cons _ (.refl _))))))).trans (hsub_pick [1, 0] rfl))) rfl (y_load rfl ag_59 (sees 0 0 rfl) rfl) ?_
  refine HY 4 rfl (((hsub (.cons_cons _ (.cons_cons _ (.cons _ (.cons _ (.cons _ (.refl _))))))).trans (hsub_pick [1, 0] rfl))) rfl (y_move rfl) ?_
  refine HY 5 rfl (((hsub (.cons_cons _ (.cons_cons _ (.cons _ (.cons _ (.cons _ (.refl _))))))).trans (hsub_pick [1, 0] rfl))) rfl (y_loadA rfl ag_114 sz_114 (sees 1 0 rfl) (by rw [bs_length, packS_len hb]; decide) (bs_whole0 _ (packS_len hb))) ?_
  refine H_one 6 rfl (by kernel_rfl) rfl (op_call rfl rfl (fun a w => Try.call56 a w) rfl ?_)
  refine ((write_v h.ms hat (packS_len hb) (by omega) (by omega)).sub (hsub_pick [3, 3] rfl)).mono ?_
  rintro _ _ ⟨rfl, D2, A2, hM, rfl⟩
  refine ⟨_, rfl, ?_⟩
  refine ⟨((hsub (.cons_cons _ (.cons_cons _ (.cons _ (.cons _ (.cons _ (.refl _))))))).trans (hsub_pick [3, 2] rfl)), ?_⟩
  refine HY 7 rfl (((hsub (.cons_cons _ (.cons_cons _ (.cons _ (.cons _ (.cons _ (.refl _))))))).trans (hsub_pick [3, 2] rfl))) rfl (y_assign rfl) ?_
  refine H_done (by kernel_rfl) ?_
  refine C_seq (C_region (LY rfl (y_move rfl) ?_))
  refine LY rfl (y_nei rfl rfl) ?_
  refine L_nil (C_cond_f rfl (C_skip (C_seq (C_region (LY rfl (y_move rfl) (LY rfl (y_nilCheck rfl) (LY rfl (y_fieldAddr rfl fl_105_3) (LY rfl (y_load rfl ag_33 (sees 3 0 rfl) rfl) (LY rfl (y_move rfl) (LY rfl (y_move rfl) (LY rfl (y_move rfl) (LY rfl (y_move rfl) (LY rfl (y_move rfl) (LY rfl (y_move rfl) ?_))))))))))))))
  refine LY rfl (y_add rfl rfl (show _ = ((o + 1 : Nat) : Int) from by rw [wi64 (by omega) (by omega)]; omega)) ?_
  refine LY rfl (y_indexS rfl rfl Try.underlying33 sz_48 (by omega) (by omega) (show _ = s from by simp)) ?_
  refine L_op rfl (op_store1 4 0 rfl rfl rfl sz_48 rfl (by simp [us]; omega) ?_)
  refine LY rfl (y_nilCheck rfl) (LY rfl (y_fieldAddr rfl fl_105_4) ?_)
  refine L_op rfl (op_store1 3 0 rfl rfl rfl sz_3 rfl (Nat.le_of_ble_eq_true rfl) ?_)
  refine LY rfl (y_nilCheck rfl) (LY rfl (y_fieldAddr rfl fl_105_5) ?_)
  refine L_op rfl (op_store1 3 0 rfl rfl rfl sz_3 rfl (Nat.le_of_ble_eq_true rfl) ?_)
  refine L_nil (C_seq (C_region (LY rfl (y_move rfl) (LY rfl (y_move rfl) (LY rfl (y_nilCheck rfl) (LY rfl (y_fieldAddr rfl fl_105_6) (LY rfl (y_load rfl ag_48 (sees 3 0 rfl) rfl) (LY rfl (y_move rfl) ?_))))))))
  refine LY rfl (y_max rfl rfl) ?_
  refine LY rfl (y_nilCheck rfl) (LY rfl (y_fieldAddr rfl fl_105_6) ?_)
  refine L_op rfl (op_store1 3 0 rfl rfl rfl sz_48 rfl (Nat.le_of_ble_eq_true rfl) ?_)
  refine L_nil (C_seq (C_region (LY rfl (y_move rfl) (LY rfl (y_assign rfl) (LY rfl (y_assign rfl) (L_nil (C_ret ?_)))))))
  refine B_ret (rv_tmp rfl (rv_tmp rfl rv_nil)) ((hsub (.cons_cons _ (.cons_cons _ (.cons_cons _ (.cons_cons _ (.cons _ (.refl _))))))).trans (hsub_pick [3, 3, 0, 0] rfl)) ?_
  refine ⟨rfl, D2, A2, h.app hn hb hM, ?_⟩
  have e1 : (us l.gens).set s (Value.int .u64 (g : Int)) = us (l.gens.set s g) := by simp [us, List.map_set]
  have e2 : (l.gens.set s g).length = l.gens.length := List.length_set
  have e3 : ((max l.known g : Nat) : Int) = max (l.known : Int) (g : Int) := by omega
  unfold LGS lgo lgg lgcells Lm.put
  simp only [e2, e3, ← e1]
  rfl

theorem head_s {w0 : World} {H : Hp} {lb mb gb : Nat} {zc : List Value} {sg sz : Nat} {l : Lm} {gv : Value} {D : Duo} {A : Da} {m : Mi} {X : List Sec} {k bx bys bp : Nat} {B : Nat → Option (List UInt8)} (h : Lst dt gv sg sz D A m X k mb bx bys bp l B) {hh : Nat} (hd : l.head = some hh) : FnS Try.prog w0 35 #[ptr lb] (LGS lb mb gb zc sg sz l m D H) (fun e H' => e = .returned (.tuple #[.int .i64 (hh : Int), .int .i64 (l.slot : Int)]) ∧ H' = (LGS lb mb gb zc sg sz l m D H)) := by
  obtain ⟨w1, w2, w3, w4, w5⟩ := may_lt h.may
  have hgl := h.gl
  have hI : l.hI = (hh : Int) := by rw [Lm.hI, hd]
  refine FnS_intro (n := 21) (rs := [.tmp 2, .tmp 3]) (vs := [ptr lb]) Try.func35 rfl Try.ntmps35 rfl rfl ?_
  refine C_seq (C_region (LY rfl (y_assign rfl) (LY rfl (y_assign rfl) (L_nil (C_seq (C_seq (C_region (LY rfl (y_move rfl) ?_))))))))
  refine LY rfl (y_eqp rfl rfl Try.underlying56) ?_
  refine LY rfl (y_move rfl) (LY rfl (y_move rfl) (LY rfl (y_nilCheck rfl) (LY rfl (y_fieldAddr rfl fl_105_4) (LY rfl (y_load rfl ag_3 (sees 0 0 rfl) rfl) (LY rfl (y_lss rfl rfl) (LY rfl (y_pick_f rfl rfl) (L_nil ?_)))))))
  refine C_cond rfl (fun hc0 => absurd (of_decide_eq_true hc0) (by omega)) (fun hc0 => ?_)
  refine C_skip (C_seq ?_)
  refine C_regionH0 (by kernel_rfl) ?_
  refine HY 0 rfl (HSub.refl _) rfl (y_move rfl) ?_
  refine HY 1 rfl (HSub.refl _) rfl (y_nilCheck rfl) ?_
  refine HY 2 rfl (HSub.refl _) rfl (y_fieldAddr rfl fl_105_4) ?_
  refine HY 3 rfl (HSub.refl _) rfl (y_load rfl ag_3 (sees 0 0 rfl) rfl) ?_
  refine HY 4 rfl (HSub.refl _) rfl (y_move rfl) ?_
  refine HY 5 rfl (HSub.refl _) rfl (y_nilCheck rfl) ?_
  refine HY 6 rfl (HSub.refl _) rfl (y_fieldAddr rfl fl_105_5) ?_
  refine HY 7 rfl (HSub.refl _) rfl (y_load rfl ag_3 (sees 0 0 rfl) rfl) ?_
  refine HY 8 rfl (HSub.refl _) rfl (y_assign rfl) ?_
  refine HY 9 rfl (HSub.refl _) rfl (y_assign rfl) ?_
  refine H_done (by kernel_rfl) ?_
  refine C_ret ?_
  refine B_ret (rv_tmp rfl (rv_tmp rfl rv_nil)) ((hsub (.cons_cons _ (.cons_cons _ (.cons_cons _ (.cons_cons _ (.refl _)))))).trans (hsub_pick [0, 0, 0, 0] rfl)) ?_
  rw [hI]
  exact ⟨rfl, rfl⟩

theorem free_s {w0 : World} {H : Hp} {lb mb gb : Nat} {zc : List Value} {sg sz : Nat} {l : Lm} {gv : Value} {D : Duo} {A : Da} {m : Mi} {X : List Sec} {k bx bys bp : Nat} {B : Nat → Option (List UInt8)} (h : Lst dt gv sg sz D A m X k mb bx bys bp l B) {s g : Nat} (hs : s < sg) (hx : l.gens[s]? = some g) (hg : g ≠ 0) (hh : l.head ≠ some s) : FnS Try.prog w0 38 #[ptr lb, .int .i64 (s : Int)] (LGS lb mb gb zc sg sz l m D H) (fun e H' => e = .returned (.int .i64 0) ∧ H' = LGS lb mb gb zc sg sz (l.free s) m D H) := by
  obtain ⟨w1, w2, w3, w4, w5⟩ := may_lt h.may
  have hgl := h.gl
  have hne : ¬ (s : Int) = l.hI := fun e => by
    unfold Lm.hI at e
    split at e
    · omega
    · rename_i y hy
      exact hh (by rw [hy]; congr 1; omega)
  refine FnS_intro (n := 42) (rs := [.tmp 4]) (vs := [ptr lb, .int .i64 (s : Int)]) Try.func38 rfl Try.ntmps38 rfl rfl ?_
  refine C_seq (C_region (LY rfl (y_assign rfl) (L_nil (C_seq (C_block (C_seq (C_region (LY rfl (y_move rfl) ?_))))))))
  refine LY rfl (y_eqp rfl rfl Try.underlying56) ?_
  refine LY rfl (y_assign rfl) (L_nil (C_cond_f rfl (C_seq (C_region (LY rfl (y_move rfl) (LY rfl (y_lss rfl rfl) (LY rfl (y_move rfl) ?_)))))))
  refine L_case 11 rfl (fun hg3_3 => ?_) (fun hg3_3 => ?_)
  · exact absurd (of_decide_eq_true hg3_3) (by omega)
  · skip
    refine LY rfl (y_move rfl) (LY rfl (y_move rfl) (LY rfl (y_nilCheck rfl) (LY rfl (y_fieldAddr rfl fl_105_3) (LY rfl (y_load rfl ag_33 (sees 0 0 rfl) rfl) ?_))))
    refine LY rfl (y_lenS rfl rfl Try.underlying33) ?_
    refine LY rfl (y_geq rfl rfl) ?_
    refine LY rfl (y_pick_f rfl rfl) (LY rfl (y_assign rfl) (L_nil ?_))
    refine C_cond rfl (fun hc1 => absurd hc1 (by simp <;> omega)) (fun hc1 => ?_)
    refine C_seq (C_region (LY rfl (y_move rfl) (LY rfl (y_nilCheck rfl) (LY rfl (y_fieldAddr rfl fl_105_3) (LY rfl (y_load rfl ag_33 (sees 0 0 rfl) rfl) (LY rfl (y_move rfl) ?_))))))
    refine LY rfl (y_indexS rfl rfl Try.underlying33 sz_48 (by omega) (by omega) (show _ = s from by simp)) ?_
    refine LY rfl (y_load rfl ag_48 (sees 1 0 rfl) (show _ = some (Value.int .u64 (g : Int)) from by simp [us, hx])) ?_
    refine LY rfl (y_eqi rfl rfl) (LY rfl (y_assign rfl) (L_nil ?_))
    refine C_cond rfl (fun hc2 => absurd hc2 (by simp <;> omega)) (fun hc2 => ?_)
    refine C_seq (C_region (LY rfl (y_move rfl) (LY rfl (y_move rfl) (LY rfl (y_nilCheck rfl) (LY rfl (y_fieldAddr rfl fl_105_4) (LY rfl (y_load rfl ag_3 (sees 0 0 rfl) rfl) (LY rfl (y_eqi rfl rfl) (LY rfl (y_assign rfl) (L_nil ?_)))))))))
    refine C_cond rfl (fun hc3 => absurd hc3 (by simp <;> omega)) (fun hc3 => ?_)
    refine C_skip (C_seq (C_region (LY rfl (y_move rfl) (LY rfl (y_nilCheck rfl) (LY rfl (y_fieldAddr rfl fl_105_3) (LY rfl (y_load rfl ag_33 (sees 0 0 rfl) rfl) (LY rfl (y_move rfl) ?_)))))))
    refine LY rfl (y_indexS rfl rfl Try.underlying33 sz_48 (by omega) (by omega) (show _ = s from by simp)) ?_
    refine L_op rfl (op_store1 1 0 rfl rfl rfl sz_48 rfl (by simp [us]; omega) ?_)
    refine L_nil (C_seq (C_region (LY rfl (y_assign rfl) (L_nil (C_ret ?_)))))
    refine B_ret (rv_tmp rfl rv_nil) ((hsub (.cons_cons _ (.cons_cons _ (.cons_cons _ (.cons_cons _ (.refl _)))))).trans (hsub_pick [0, 0, 0, 0] rfl)) ?_
    have e1 : (us l.gens).set s (Value.int .u64 0) = us (l.gens.set s 0) := by simp [us, List.map_set]
    have e2 : (l.gens.set s 0).length = l.gens.length := List.length_set
    refine ⟨rfl, ?_⟩
    unfold LGS lgo lgg lgcells Lm.free
    simp only [e2, ← e1]
    rfl

end Go.Proofs.Ytighbhplfjjgpaa

/- walks (own work; the walks' lines by a program of this repo). -/
set_option linter.unusedVariables false
set_option linter.unusedSimpArgs false
set_option maxRecDepth 20000
namespace Go.Proofs.Ytighbhplfjjgpaa
open Go.Sl
attribute [local irreducible] BodyQ WpC WpL WpS WpH OpW FnS


theorem good_s {w0 : World} {H : Hp} (c : Value) (hc : c.cells = #[c]) : FnS Try.prog w0 27 #[c] H (fun e H' => ∃ b, e = .returned (.func (.func 52) #[] #[ptr b]) ∧ H' = [(b, .cells [c].toArray 103)] :: H) := by
  refine FnS_intro (n := 4) (rs := [.tmp 2]) (vs := [c]) Try.func27 rfl Try.ntmps27 rfl rfl ?_
  refine C_seq (C_region ?_)
  refine L_op rfl (op_box rfl hc rfl (fun B1 => ?_))
  refine LY rfl (y_assign rfl) (L_nil (C_seq (C_region ?_)))
  refine LY rfl (y_makeFunc rfl rfl) ?_
  refine LY rfl (y_assign rfl) (L_nil (C_ret ?_))
  refine B_ret (rv_tmp rfl rv_nil) (HSub.refl _) ?_
  exact ⟨B1, rfl, rfl⟩

theorem good1_s {w0 : World} {H : Hp} {zc : List Value} {cb : Nat} (hC : Sees (fun w => St w0 w H) cb (.cells [.iface 67 (.agg zc.toArray)].toArray 103)) (a : Int) (s : List UInt8) (hs : s.length = 128) : FnS Try.prog w0 52 #[.int .i64 a, .agg (bs s).toArray, ptr cb] H (fun e H' => e = .returned (.bool (decide (isS a s))) ∧ H' = H) := by
  refine FnS_intro (n := 18) (rs := [.tmp 5]) (vs := [.int .i64 a, .agg (bs s).toArray, ptr cb]) Try.func52 rfl Try.ntmps52 rfl rfl ?_
  refine C_seq (C_region ?_)
  refine L_op rfl (op_box rfl rfl rfl (fun B1 => ?_))
  refine LY rfl (y_assign rfl) (L_nil (C_seq (C_region ?_)))
  refine LY rfl (y_load rfl ag_103 (hC.up) rfl) ?_
  refine LY rfl (y_move rfl) ?_
  refine LY rfl (y_loadA rfl ag_114 sz_114 (sees 0 0 rfl) (by rw [bs_length, hs]; decide) (bs_whole0 _ hs)) ?_
  refine L_op rfl (op_call rfl rfl (fun a w => Try.call53 a w) rfl ?_)
  refine (unpack_u (zc := zc) a s hs).mono ?_
  rintro _ _ ⟨gu, hgu, rfl, rfl⟩
  refine ⟨_, rfl, ?_⟩
  refine LY rfl (y_move rfl) (LY rfl (y_extract rfl rfl) (LY rfl (y_extract rfl rfl) (LY rfl (y_extract rfl rfl) (LY rfl (y_assign rfl) (LY rfl (y_assign rfl) (LY rfl (y_assign rfl) (L_nil (C_seq (C_region (LY rfl (y_move rfl) (LY rfl (y_assign rfl) (L_nil (C_ret ?_)))))))))))))
  refine B_ret (rv_tmp rfl rv_nil) (hsub (.cons _ (.cons _ (.refl _)))) ?_
  exact ⟨rfl, rfl⟩

def gp : Int → Sec → Bool := fun n s => decide (isS n s)

theorem good_at {w0 : World} {H : Hp} {zc : List Value} {cb : Nat} (hC : Sees (fun w => St w0 w H) cb (.cells [.iface 67 (.agg zc.toArray)].toArray 103)) : GoodAt Try.prog w0 H (.func (.func 52) #[] #[ptr cb]) gp :=
  .inr ⟨52, [ptr cb], rfl, fun a w => Try.call52 a w, fun H' n s hs hl => good1_s (hC.sub hs) n s hl⟩

theorem read_s {w0 : World} {H : Hp} {lb mb gb : Nat} {zc : List Value} {sg sz : Nat} {l : Lm} {gv : Value} {D : Duo} {A : Da} {m : Mi} {X : List Sec} {k bx bys bp : Nat} {B : Nat → Option (List UInt8)} (h : Lst dt gv sg sz D A m X k mb bx bys bp l B) (hG : GoodAt Try.prog w0 H gv gp) (hk : k < 99000) {a : Nat} {body : List UInt8} (hb : B a = some body) : FnS Try.prog w0 34 #[ptr lb, .int .i64 (a : Int)] (LGS lb mb gb zc sg sz l m D H) (fun e H' => ∃ gd, slOk 1 gd body.length (bs body) ∧ e = .returned (.tuple #[slV gd body.length, .int .i64 0]) ∧ H' = slSeg 5 gd (bs body) :: LGS lb mb gb zc sg sz l m D H) := by
  obtain ⟨w1, w2, w3, w4, w5⟩ := may_lt h.may
  have hgl := h.gl
  obtain ⟨r0, sn, g, sec, r1, r2, r3, r4, r5, r6, r7, r8, r9, r10⟩ := h.rd (by omega) hb
  have zp : gp (a : Int) sec = true := decide_eq_true r8
  have z1 : rdv gp (a : Int) sec sec = sec := by unfold rdv; rw [if_pos zp]
  have z2 : rde gp (a : Int) sec sec = 0 := by unfold rde; rw [zp]; rfl
  refine FnS_intro (n := 74) (rs := [.tmp 4, .tmp 5]) (vs := [ptr lb, .int .i64 (a : Int)]) Try.func34 rfl Try.ntmps34 rfl rfl ?_
  refine C_seq (C_region (LY rfl (y_assign rfl) (LY rfl (y_assign rfl) (L_nil (C_seq (C_seq (C_region (LY rfl (y_move rfl) ?_))))))))
  refine LY rfl (y_eqp rfl rfl Try.underlying56) ?_
  refine L_nil (C_cond_f rfl (C_skip (C_seq (C_region (LY rfl (y_move rfl) (LY rfl (y_nilCheck rfl) (LY rfl (y_fieldAddr rfl fl_105_2) ?_)))))))
  refine LY rfl (y_loadA rfl ag_23 sz_23 (sees 0 0 rfl) (Nat.le_of_ble_eq_true rfl) (show _ = [Value.int .i64 (sg : Int), .int .i64 (sz : Int)] from rfl)) ?_
  refine LY rfl (y_move rfl) ?_
  refine L_op rfl (op_call rfl rfl (fun a w => Try.call44 a w) rfl ?_)
  refine (of_s (sg : Int) (sz : Int) (a : Int)).mono ?_
  rintro _ _ ⟨rfl, e⟩
  obtain rfl := e.symm
  clear e
  rw [r2]
  simp only [Option.getD_some, Option.isSome_some, if_true]
  refine ⟨_, rfl, ?_⟩
  refine LY rfl (y_move rfl) (LY rfl (y_extract rfl rfl) (LY rfl (y_extract rfl rfl) (LY rfl (y_extract rfl rfl) (LY rfl (y_assign rfl) (LY rfl (y_assign rfl) (LY rfl (y_assign rfl) (L_nil (C_seq (C_seq (C_region (LY rfl (y_move rfl) (LY rfl (y_not rfl) (LY rfl (y_move rfl) ?_)))))))))))))
  refine L_case 27 rfl (fun hg4_3 => ?_) (fun hg4_3 => ?_)
  · exact absurd hg4_3 (by simp)
  · skip
    refine LY rfl (y_move rfl) (LY rfl (y_nilCheck rfl) (LY rfl (y_fieldAddr rfl fl_105_3) (LY rfl (y_load rfl ag_33 (sees 0 0 rfl) rfl) (LY rfl (y_move rfl) ?_))))
    refine LY rfl (y_indexS rfl rfl Try.underlying33 sz_48 (by omega) (by omega) (show _ = sn from by simp)) ?_
    refine LY rfl (y_load rfl ag_48 (sees 1 0 rfl) (show _ = some (Value.int .u64 (g : Int)) from by simp [us, r4])) ?_
    refine LY rfl (y_eqi rfl rfl) (LY rfl (y_pick_f rfl rfl) (L_nil ?_))
    refine C_cond rfl (fun hc1 => absurd hc1 (by simp <;> omega)) (fun hc1 => ?_)
    refine C_skip (C_seq (C_region (LY rfl (y_move rfl) (LY rfl (y_nilCheck rfl) (LY rfl (y_fieldAddr rfl fl_105_0) (LY rfl (y_load rfl ag_59 (sees 0 0 rfl) rfl) (LY rfl (y_move rfl) ?_)))))))
    refine L_op rfl (op_call rfl rfl (fun a w => Try.call58 a w) rfl ?_)
    refine ((readg_v h.ms (p := gp) (hG.sub (hsub (.cons _ (.cons _ (.refl _))))) r6 r6 (n := a)).sub (hsub_pick [2, 2] rfl)).mono ?_
    rintro _ _ ⟨rfl, rfl⟩
    rw [z1, z2]
    refine ⟨_, rfl, ?_⟩
    refine LY rfl (y_move rfl) (LY rfl (y_extract rfl rfl) (LY rfl (y_extract rfl rfl) ?_))
    refine L_op rfl (op_alloc zl_114 rfl (fun B1 => ?_))
    refine L_op rfl (op_storeA 0 0 rfl rfl rfl sz_114 (by rw [bs_length, r7]) rfl (bs_one _) rfl ?_)
    refine LY rfl (y_assign rfl) (L_nil (C_seq (C_seq (C_region (LY rfl (y_move rfl) ?_)))))
    refine LY rfl (y_nei rfl rfl) ?_
    refine L_nil ?_
    refine C_cond rfl (fun hc2 => absurd hc2 (by simp)) (fun hc2 => ?_)
    refine C_skip (C_seq ?_)
    refine C_regionH (lgo lb mb gb zc sg sz l :: [(B1, .cells (bs sec).toArray 114)] :: H) (by kernel_rfl) ?_
    refine HY 0 rfl (((hsub (.cons_cons _ (.cons_cons _ (.cons _ (.cons _ (.cons _ (.refl _))))))).trans (hsub_pick [3, 0] rfl))) rfl (y_move rfl) ?_
    refine HY 1 rfl (((hsub (.cons_cons _ (.cons_cons _ (.cons _ (.cons _ (.cons _ (.refl _))))))).trans (hsub_pick [3, 0] rfl))) rfl (y_nilCheck rfl) ?_
    refine HY 2 rfl (((hsub (.cons_cons _ (.cons_cons _ (.cons _ (.cons _ (.cons _ (.refl _))))))).trans (hsub_pick [3, 0] rfl))) rfl (y_fieldAddr rfl fl_105_1) ?_
    refine HY 3 rfl (((hsub (.cons_cons _ (.cons_cons _ (.cons _ (.cons _ (.cons _ (.refl _))))))).trans (hsub_pick [3, 0] rfl))) rfl (y_load rfl ag_103 (sees 0 0 rfl) rfl) ?_
    refine HY 4 rfl (((hsub (.cons_cons _ (.cons_cons _ (.cons _ (.cons _ (.cons _ (.refl _))))))).trans (hsub_pick [3, 0] rfl))) rfl (y_move rfl) ?_
    refine HY 5 rfl (((hsub (.cons_cons _ (.cons_cons _ (.cons _ (.cons _ (.cons _ (.refl _))))))).trans (hsub_pick [3, 0] rfl))) rfl (y_loadA rfl ag_114 sz_114 (sees 1 0 rfl) (by rw [bs_length, r7]; decide) (bs_whole0 _ r7)) ?_
    refine H_one 6 rfl (by kernel_rfl) rfl (op_call rfl rfl (fun a w => Try.call53 a w) rfl ?_)
    refine (unpack_u (zc := zc) (a : Int) sec r7).mono ?_
    rintro _ _ ⟨gu, hgu, rfl, rfl⟩
    rw [r10] at hgu
    rw [r9, r10, decide_eq_true r8]
    refine ⟨_, rfl, ?_⟩
    refine ⟨((hsub (.cons_cons _ (.cons_cons _ (.cons _ (.cons _ (.cons _ (.cons _ (.refl _)))))))).trans (hsub_pick [4, 1] rfl)), ?_⟩
    refine HY 7 rfl (((hsub (.cons_cons _ (.cons_cons _ (.cons _ (.cons _ (.cons _ (.cons _ (.refl _)))))))).trans (hsub_pick [4, 1] rfl))) rfl (y_move rfl) ?_
    refine HY 8 rfl (((hsub (.cons_cons _ (.cons_cons _ (.cons _ (.cons _ (.cons _ (.cons _ (.refl _)))))))).trans (hsub_pick [4, 1] rfl))) rfl (y_extract rfl rfl) ?_
    refine HY 9 rfl (((hsub (.cons_cons _ (.cons_cons _ (.cons _ (.cons _ (.cons _ (.cons _ (.refl _)))))))).trans (hsub_pick [4, 1] rfl))) rfl (y_extract rfl rfl) ?_
    refine HY 10 rfl (((hsub (.cons_cons _ (.cons_cons _ (.cons _ (.cons _ (.cons _ (.cons _ (.refl _)))))))).trans (hsub_pick [4, 1] rfl))) rfl (y_extract rfl rfl) ?_
    refine HY 11 rfl (((hsub (.cons_cons _ (.cons_cons _ (.cons _ (.cons _ (.cons _ (.cons _ (.refl _)))))))).trans (hsub_pick [4, 1] rfl))) rfl (y_assign rfl) ?_
    refine HY 12 rfl (((hsub (.cons_cons _ (.cons_cons _ (.cons _ (.cons _ (.cons _ (.cons _ (.refl _)))))))).trans (hsub_pick [4, 1] rfl))) rfl (y_assign rfl) ?_
    refine HY 13 rfl (((hsub (.cons_cons _ (.cons_cons _ (.cons _ (.cons _ (.cons _ (.cons _ (.refl _)))))))).trans (hsub_pick [4, 1] rfl))) rfl (y_assign rfl) ?_
    refine H_done (by kernel_rfl) ?_
    refine C_seq (C_seq (C_region (LY rfl (y_move rfl) (LY rfl (y_not rfl) (LY rfl (y_move rfl) ?_)))))
    refine L_case 62 rfl (fun hg10_3 => ?_) (fun hg10_3 => ?_)
    · exact absurd hg10_3 (by simp)
    · skip
      refine LY rfl (y_move rfl) (LY rfl (y_move rfl) (LY rfl (y_nilCheck rfl) (LY rfl (y_fieldAddr rfl fl_105_3) (LY rfl (y_load rfl ag_33 (sees 4 0 rfl) rfl) (LY rfl (y_move rfl) ?_)))))
      refine LY rfl (y_indexS rfl rfl Try.underlying33 sz_48 (by omega) (by omega) (show _ = sn from by simp)) ?_
      refine LY rfl (y_load rfl ag_48 (sees 5 0 rfl) (show _ = some (Value.int .u64 (g : Int)) from by simp [us, r4])) ?_
      refine LY rfl (y_nei rfl rfl) ?_
      refine LY rfl (y_pick_f rfl rfl) (L_nil ?_)
      refine C_cond rfl (fun hc3 => absurd hc3 (by simp)) (fun hc3 => ?_)
      refine C_skip (C_seq (C_region (LY rfl (y_move rfl) (LY rfl (y_assign rfl) (LY rfl (y_assign rfl) (L_nil (C_ret ?_)))))))
      refine B_ret (rv_tmp rfl (rv_tmp rfl rv_nil)) ((hsub (.cons_cons _ (.cons_cons _ (.cons_cons _ (.cons_cons _ (.cons_cons _ (.cons _ (.refl _)))))))).trans (hsub_pick [0, 3, 3, 1, 1] rfl)) ?_
      exact ⟨gu, hgu, rfl, rfl⟩

end Go.Proofs.Ytighbhplfjjgpaa

/- walks (own work; the walks' lines by a program of this repo). -/
set_option linter.unusedVariables false
set_option linter.unusedSimpArgs false
set_option maxRecDepth 20000
namespace Go.Proofs.Ytighbhplfjjgpaa
open Go.Sl
attribute [local irreducible] BodyQ WpC WpL WpS WpH OpW FnS


theorem room_s {w0 : World} {H : Hp} {lb mb gb : Nat} {zc : List Value} {sg sz : Nat} {l : Lm} {gv : Value} {D : Duo} {A : Da} {m : Mi} {X : List Sec} {k bx bys bp : Nat} {B : Nat → Option (List UInt8)} (h : Lst dt gv sg sz D A m X k mb bx bys bp l B) {hh : Nat} (hd : l.head = some hh) : FnS Try.prog w0 36 #[ptr lb] (LGS lb mb gb zc sg sz l m D H) (fun e H' => e = .returned (.int .i64 (l.room sz)) ∧ H' = (LGS lb mb gb zc sg sz l m D H)) := by
  obtain ⟨w1, w2, w3, w4, w5⟩ := may_lt h.may
  have hgl := h.gl
  have hI : l.hI = (hh : Int) := by rw [Lm.hI, hd]
  have hsl := h.sl
  refine FnS_intro (n := 43) (rs := [.tmp 2]) (vs := [ptr lb]) Try.func36 rfl Try.ntmps36 rfl rfl ?_
  refine C_seq (C_region (LY rfl (y_assign rfl) (L_nil (C_seq (C_seq (C_region (LY rfl (y_move rfl) ?_)))))))
  refine LY rfl (y_eqp rfl rfl Try.underlying56) ?_
  refine L_nil (C_cond_f rfl (C_skip (C_seq (C_region (LY rfl (y_assign rfl) (L_nil (C_seq (C_seq (C_region (LY rfl (y_move rfl) (LY rfl (y_nilCheck rfl) (LY rfl (y_fieldAddr rfl fl_105_4) (LY rfl (y_load rfl ag_3 (sees 0 0 rfl) rfl) ?_)))))))))))))
  refine LY rfl (y_geq rfl rfl) ?_
  refine L_nil ?_
  refine C_cond rfl (fun hc1 => ?_) (fun hc1 => absurd (of_decide_eq_false hc1) (by omega))
  refine C_regionH0 (by kernel_rfl) ?_
  refine HY 0 rfl (HSub.refl _) rfl (y_move rfl) ?_
  refine HY 1 rfl (HSub.refl _) rfl (y_nilCheck rfl) ?_
  refine HY 2 rfl (HSub.refl _) rfl (y_fieldAddr rfl fl_105_2) ?_
  refine HY 3 rfl (HSub.refl _) rfl (y_fieldAddr rfl fl_23_1) ?_
  refine HY 4 rfl (HSub.refl _) rfl (y_load rfl ag_3 (sees 0 0 rfl) rfl) ?_
  refine HY 5 rfl (HSub.refl _) rfl (y_move rfl) ?_
  refine HY 6 rfl (HSub.refl _) rfl (y_nilCheck rfl) ?_
  refine HY 7 rfl (HSub.refl _) rfl (y_fieldAddr rfl fl_105_5) ?_
  refine HY 8 rfl (HSub.refl _) rfl (y_load rfl ag_3 (sees 0 0 rfl) rfl) ?_
  refine HY 9 rfl (HSub.refl _) rfl (y_sub rfl rfl (wi64 (by omega) (by omega))) ?_
  refine HY 10 rfl (HSub.refl _) rfl (y_assign rfl) ?_
  refine H_done (by kernel_rfl) ?_
  refine C_seq (C_seq (C_region (LY rfl (y_move rfl) (LY rfl (y_nilCheck rfl) (LY rfl (y_fieldAddr rfl fl_105_3) (LY rfl (y_load rfl ag_33 (sees 0 0 rfl) rfl) ?_))))))
  refine LY rfl (y_lenS rfl rfl Try.underlying33) ?_
  refine LY rfl (y_move rfl) (L_nil (C_block ?_))
  refine C_loop (ι := Nat) (fun i => [(0, ptr lb), (3, .int .i64 (rTo ((sz : Int) - (l.slot : Int)) sz l.gens i)), (26, .slice (some ⟨gb, 0, none⟩) l.gens.length l.gens.length), (27, .int .i64 (l.gens.length : Int)), (28, .int .i64 (i : Int))]) (fun i => LGS lb mb gb zc sg sz l m D H) (fun i => i ≤ l.gens.length) (fun i => l.gens.length - i) 0 (Nat.zero_le _) ⟨rfl, rfl, rfl, rfl, rfl, trivial⟩ (HSub.refl _) (fun i hi => ?_)
  skip
  refine C_seq (C_region (LY rfl (y_lss rfl rfl) (L_nil (C_seq ?_))))
  refine C_cond rfl (fun hc2 => ?_) (fun hc2 => ?_)
  · replace hc2 : i < l.gens.length := by have := of_decide_eq_true hc2; omega
    obtain ⟨x, hx⟩ : ∃ x, l.gens[i]? = some x := ⟨_, List.getElem?_eq_getElem hc2⟩
    have hxd : l.gens.getD i 0 = x := by simp [List.getD, hx]
    have hci := rTo_hi ((sz : Int) - (l.slot : Int)) sz l.gens w2 i
    refine C_skip (C_seq (C_block (C_seq (C_region ?_))))
    refine LY rfl (y_indexS rfl rfl Try.underlying33 sz_48 (by omega) (by omega) (show _ = i from by simp)) ?_
    refine LY rfl (y_load rfl ag_48 (sees 1 0 rfl) (show _ = some (Value.int .u64 (x : Int)) from by simp [us, hx])) ?_
    refine LY rfl (y_assign rfl) (L_nil (C_seq (C_region (LY rfl (y_move rfl) (LY rfl (y_eqi rfl rfl) (L_nil ?_))))))
    refine C_cond rfl (fun hc3 => ?_) (fun hc3 => ?_)
    · replace hc3 : x = 0 := by have := of_decide_eq_true hc3; omega
      refine C_region (LY rfl (y_move rfl) (LY rfl (y_move rfl) (LY rfl (y_nilCheck rfl) (LY rfl (y_fieldAddr rfl fl_105_2) (LY rfl (y_fieldAddr rfl fl_23_1) (LY rfl (y_load rfl ag_3 (sees 0 0 rfl) rfl) ?_))))))
      refine LY rfl (y_add rfl rfl (wi64 (by omega) (by omega))) ?_
      refine LY rfl (y_assign rfl) (L_nil (C_region ?_))
      refine LY rfl (y_add rfl rfl (wi64 (by omega) (by omega))) ?_
      refine LY rfl (y_move rfl) (L_nil ?_)
      exact ⟨i + 1, by omega, by omega, ⟨rfl, by rw [rTo, hxd]; first | (rw [if_pos hc3]; rfl) | (rw [if_neg hc3]; rfl), rfl, rfl, rfl, trivial⟩, HSub.refl _⟩
    · replace hc3 : ¬ x = 0 := by have := of_decide_eq_false hc3; omega
      refine C_skip (C_region ?_)
      refine LY rfl (y_add rfl rfl (wi64 (by omega) (by omega))) ?_
      refine LY rfl (y_move rfl) (L_nil ?_)
      exact ⟨i + 1, by omega, by omega, ⟨rfl, by rw [rTo, hxd]; first | (rw [if_pos hc3]; rfl) | (rw [if_neg hc3]; rfl), rfl, rfl, rfl, trivial⟩, HSub.refl _⟩
  · obtain rfl : i = l.gens.length := by have := of_decide_eq_false hc2; omega
    refine C_exit (C_seq (C_region (LY rfl (y_move rfl) (LY rfl (y_assign rfl) (L_nil (C_ret ?_))))))
    refine B_ret (rv_tmp rfl rv_nil) ((hsub (.cons_cons _ (.cons_cons _ (.cons_cons _ (.cons_cons _ (.refl _)))))).trans (hsub_pick [0, 0, 0, 0] rfl)) ?_
    refine ⟨ret_int ?_, rfl⟩
    rw [rTo_eq _ _ _ _ (Nat.le_refl _), List.take_length, Lm.room, hd]

end Go.Proofs.Ytighbhplfjjgpaa

/- walks (own work; the walks' lines by a program of this repo). -/
set_option linter.unusedVariables false
set_option linter.unusedSimpArgs false
set_option maxRecDepth 20000
namespace Go.Proofs.Ytighbhplfjjgpaa
open Go.Sl
attribute [local irreducible] BodyQ WpC WpL WpS WpH OpW FnS


theorem lognew_s {w0 : World} {H : Hp} {zc : List Value} {sg sz : Nat} {gv : Value} {D : Duo} {A : Da} {m : Mi} {X : List Sec} {mb bx bys bp : Nat} (hM : Ms dt gv D A m (2 + sg * sz) X X 0 0 mb bx bys bp) (hm : mayG (sg : Int) (sz : Int) = true) : FnS Try.prog w0 25 #[ptr mb, .iface 67 (.agg zc.toArray), shV (sg : Int) (sz : Int)] (m.seg 111 :: D.seg dt :: H) (fun e H' => ∃ lb gb, Lst dt gv sg sz D A m X 0 mb bx bys bp (l0 sg) (fun _ => none) ∧ e = .returned (.tuple #[ptr lb, .int .i64 0]) ∧ H' = LGS lb mb gb zc sg sz (l0 sg) m D H) := by
  obtain ⟨w1, w2, w3, w4, w5⟩ := may_lt hm
  have hL := Lst.new hM hm
  have hn := hM.n
  have hmb := hM.mb
  have q3 : (sg : Int) * (sz : Int) = ((sg * sz : Nat) : Int) := by push_cast; rfl
  refine FnS_intro (n := 34) (rs := [.tmp 6, .tmp 7]) (vs := [ptr mb, .iface 67 (.agg zc.toArray), shV (sg : Int) (sz : Int)]) Try.func25 rfl Try.ntmps25 rfl rfl ?_
  refine C_seq (C_region ?_)
  refine L_op rfl (op_box rfl rfl rfl (fun B1 => ?_))
  refine LY rfl (y_assign rfl) (LY rfl (y_assign rfl) (L_nil (C_seq (C_block (C_seq (C_region (LY rfl (y_move rfl) ?_)))))))
  refine LY rfl (y_eqp rfl rfl Try.underlying59) ?_
  refine LY rfl (y_move rfl) (LY rfl (y_move rfl) ?_)
  refine LY rfl (y_eqIf rfl rfl if_103) ?_
  refine LY rfl (y_pick_f rfl rfl) (LY rfl (y_assign rfl) (L_nil (C_cond_f rfl (C_seq (C_region ?_)))))
  refine LY rfl (y_loadA rfl ag_23 sz_23 (sees 0 0 rfl) (Nat.le_of_ble_eq_true rfl) (show _ = [Value.int .i64 (sg : Int), .int .i64 (sz : Int)] from rfl)) ?_
  refine L_op rfl (op_call rfl rfl (fun a w => Try.call9 a w) rfl ?_)
  refine (check_s (sg : Int) (sz : Int)).mono ?_
  rintro _ _ ⟨rfl, e⟩
  obtain rfl := e.symm
  clear e
  rw [show chkE (sg : Int) (sz : Int) = 0 from by unfold chkE; rw [if_pos hm]]
  refine ⟨_, rfl, ?_⟩
  refine LY rfl (y_nei rfl rfl) ?_
  refine LY rfl (y_move rfl) ?_
  refine LY rfl (y_loadA rfl ag_23 sz_23 (sees 0 0 rfl) (Nat.le_of_ble_eq_true rfl) (show _ = [Value.int .i64 (sg : Int), .int .i64 (sz : Int)] from rfl)) ?_
  refine L_op rfl (op_call rfl rfl (fun a w => Try.call24 a w) rfl ?_)
  refine (sectors_s (sg : Int) (sz : Int) hm).mono ?_
  rintro _ _ ⟨rfl, e⟩
  obtain rfl := e.symm
  clear e
  refine ⟨_, rfl, ?_⟩
  refine LY rfl (y_move rfl) ?_
  refine L_op rfl (op_call rfl rfl (fun a w => Try.call49 a w) rfl ?_)
  have hz := len_m (w0 := w0) (H := [(B1, .cells [Value.int .i64 (sg : Int), .int .i64 (sz : Int)].toArray 23)] :: m.seg 111 :: D.seg dt :: H) (m := m) (sees 1 0 rfl)
  rw [hmb] at hz
  refine hz.mono ?_
  rintro _ _ ⟨rfl, rfl⟩
  refine ⟨_, rfl, ?_⟩
  refine LY rfl (y_gtr rfl rfl) ?_
  refine LY rfl (y_pick_f rfl rfl) (LY rfl (y_assign rfl) (L_nil ?_))
  refine C_cond rfl (fun hc1 => absurd hc1 (by simp [hn])) (fun hc1 => ?_)
  refine C_skip (C_seq ?_)
  refine C_regionH0 (by kernel_rfl) ?_
  refine HY 0 rfl (HSub.refl _) rfl (y_move rfl) ?_
  refine HY 1 rfl (HSub.refl _) rfl (y_move rfl) ?_
  refine HY 2 rfl (HSub.refl _) rfl (y_loadA rfl ag_23 sz_23 (sees 0 0 rfl) (Nat.le_of_ble_eq_true rfl) (show _ = [Value.int .i64 (sg : Int), .int .i64 (sz : Int)] from rfl)) ?_
  refine HY 3 rfl (HSub.refl _) rfl (y_fieldAddr rfl fl_23_0) ?_
  refine HY 4 rfl (HSub.refl _) rfl (y_load rfl ag_3 (sees 0 0 rfl) rfl) ?_
  refine H_one 5 rfl (by kernel_rfl) rfl (op_makeSlice rfl Try.underlying33 by_48 sz_48 zl_48 rfl (by omega) (by omega) (by omega) rfl (fun B2 => ?_))
  refine ⟨hsub (.cons _ (.refl _)), ?_⟩
  refine HY 6 rfl (hsub (.cons _ (.refl _))) rfl (y_build (vs := [(0, _), (1, _), (2, .agg [Value.int .i64 (sg : Int), .int .i64 (sz : Int)].toArray), (3, _), (4, _)]) (l := [ptr mb, .iface 67 (.agg zc.toArray), .int .i64 (sg : Int), .int .i64 (sz : Int), _, .int .i64 (-1), .int .i64 0, .int .u64 0]) rfl pl_105 zl_105 (fill_cons (off := 0) (m := 1) (vs := [_]) rfl rfl rfl (Nat.le_of_ble_eq_true rfl) (fill_cons (off := 1) (m := 1) (vs := [_]) rfl rfl rfl (Nat.le_of_ble_eq_true rfl) (fill_cons (off := 2) (m := 2) (vs := [_, _]) rfl rfl rfl (Nat.le_of_ble_eq_true rfl) (fill_cons (off := 4) (m := 1) (vs := [_]) rfl rfl rfl (Nat.le_of_ble_eq_true rfl) (fill_cons (off := 5) (m := 1) (vs := [_]) rfl rfl rfl (Nat.le_of_ble_eq_true rfl) rfl)))))) ?_
  refine H_one 7 rfl (by kernel_rfl) rfl (op_box rfl rfl rfl (fun B3 => ?_))
  refine ⟨hsub (.cons _ (.cons _ (.refl _))), ?_⟩
  refine HY 8 rfl (hsub (.cons _ (.cons _ (.refl _)))) rfl (y_assign rfl) ?_
  refine HY 9 rfl (hsub (.cons _ (.cons _ (.refl _)))) rfl (y_assign rfl) ?_
  refine H_done (by kernel_rfl) ?_
  refine C_ret ?_
  refine B_ret (rv_tmp rfl (rv_tmp rfl rv_nil)) ((hsub (.cons_cons _ (.cons_cons _ (.cons_cons _ (.cons_cons _ (.cons _ (.refl _))))))).trans (hsub_pick [0, 0, 1, 1] rfl)) ?_
  refine ⟨B3, B2, hL, rfl, ?_⟩
  rw [Int.toNat_natCast, zus]
  unfold LGS lgo lgg lgcells l0
  simp only [List.length_replicate]
  rfl

end Go.Proofs.Ytighbhplfjjgpaa

/- Facts of the translation's types, for the kernel (own work, by a program of this repo). -/
namespace Go.Proofs.Ytighbhplfjjgpaa
open Go.Sl
theorem ag_25 : isAggT Try.prog 25 = some false := by kernel_rfl
theorem zl_4 : zeroL Try.prog 4 = some ([.bool false]) := by kernel_rfl
end Go.Proofs.Ytighbhplfjjgpaa

/- walks (own work; the walks' lines by a program of this repo). -/
set_option linter.unusedVariables false
set_option linter.unusedSimpArgs false
set_option maxRecDepth 20000
namespace Go.Proofs.Ytighbhplfjjgpaa
open Go.Sl
attribute [local irreducible] BodyQ WpC WpL WpS WpH OpW FnS


end Go.Proofs.Ytighbhplfjjgpaa

/- walks (own work; the walks' lines by a program of this repo). -/
set_option linter.unusedVariables false
set_option linter.unusedSimpArgs false
set_option maxRecDepth 20000
namespace Go.Proofs.Ytighbhplfjjgpaa
open Go.Sl
attribute [local irreducible] BodyQ WpC WpL WpS WpH OpW FnS


theorem xnew_s {w0 : World} {H : Hp} (segs size : Int) : FnS Try.prog w0 28 #[shV segs size] H (fun e H' => ∃ o : Xo, e = .returned (ptr o.b) ∧ H' = o.seg 90 segs size Gm.new Gm.new :: H) := by
  refine FnS_intro (n := 8) (rs := [.tmp 2]) (vs := [shV segs size]) Try.func28 rfl Try.ntmps28 rfl rfl ?_
  refine C_seq (C_region ?_)
  refine L_op rfl (op_box rfl rfl rfl (fun B1 => ?_))
  refine LY rfl (y_assign rfl) (L_nil (C_seq (C_region ?_)))
  refine LY rfl (y_loadA rfl ag_23 sz_23 (sees 0 0 rfl) (Nat.le_of_ble_eq_true rfl) rfl) ?_
  refine L_op rfl (op_makeMapG .u64 rfl (fun B2 => ?_))
  refine L_op rfl (op_makeMapG .i64 rfl (fun B3 => ?_))
  refine LY rfl (y_build (vs := [(0, _), (1, _), (2, _)]) (l := [.int .i64 segs, .int .i64 size, .map (some B2), .map (some B3)]) rfl pl_90 zl_90 (fill_cons (off := 0) (m := 2) (vs := [_, _]) rfl rfl rfl (Nat.le_of_ble_eq_true rfl) (fill_cons (off := 2) (m := 1) (vs := [_]) rfl rfl rfl (Nat.le_of_ble_eq_true rfl) (fill_cons (off := 3) (m := 1) (vs := [_]) rfl rfl rfl (Nat.le_of_ble_eq_true rfl) rfl)))) ?_
  refine L_op rfl (op_box rfl rfl rfl (fun B4 => ?_))
  refine LY rfl (y_assign rfl) (L_nil (C_ret ?_))
  refine B_ret (rv_tmp rfl rv_nil) (xgroup (o := ⟨B4, B2, B3⟩) rfl) ?_
  exact ⟨⟨B4, B2, B3⟩, rfl, rfl⟩

theorem slot_0 {w0 : World} {H : Hp} {o : Xo} {segs size : Int} {A L : Gm} (n : Nat) (a : Int) (h0 : n = 0) : FnS Try.prog w0 46 #[ptr o.b, .int .u64 (n : Int), .int .i64 a] (o.seg 90 segs size A L :: H) (fun e H' => e = .returned (.tuple #[.int .i64 0, .int .i64 1]) ∧ H' = o.seg 90 segs size A L :: H) := by
  refine FnS_intro (n := 30) (rs := [.tmp 6, .tmp 7]) (vs := [ptr o.b, .int .u64 (n : Int), .int .i64 a]) Try.func46 rfl Try.ntmps46 rfl rfl ?_
  refine C_seq (C_region (LY rfl (y_assign rfl) (LY rfl (y_assign rfl) (L_nil (C_seq (C_seq (C_region (LY rfl (y_move rfl) ?_))))))))
  refine LY rfl (y_eqp rfl rfl Try.underlying29) ?_
  refine LY rfl (y_move rfl) (LY rfl (y_move rfl) (LY rfl (y_eqi rfl rfl) (LY rfl (y_pick_f rfl rfl) (L_nil ?_))))
  refine C_cond rfl (fun hc0 => ?_) (fun hc0 => absurd hc0 (by simp [h0]))
  refine C_seq (C_region (LY rfl (y_assign rfl) (LY rfl (y_assign rfl) (L_nil (C_ret ?_)))))
  refine B_ret (rv_tmp rfl (rv_tmp rfl rv_nil)) ((hsub (.cons_cons _ (.refl _))).trans (hsub_pick [0] rfl)) ?_
  exact ⟨rfl, rfl⟩

theorem slot_n {w0 : World} {H : Hp} {o : Xo} {segs size : Int} {A L : Gm} (n : Nat) (a : Int) (h0 : n ≠ 0) : FnS Try.prog w0 46 #[ptr o.b, .int .u64 (n : Int), .int .i64 a] (o.seg 90 segs size A L :: H) (fun e H' => e = .returned (.tuple #[.int .i64 ((ofS segs size a).getD 0), .int .i64 (if (ofS segs size a).isSome then 0 else 2)]) ∧ H' = o.seg 90 segs size A L :: H) := by
  refine FnS_intro (n := 30) (rs := [.tmp 6, .tmp 7]) (vs := [ptr o.b, .int .u64 (n : Int), .int .i64 a]) Try.func46 rfl Try.ntmps46 rfl rfl ?_
  refine C_seq (C_region (LY rfl (y_assign rfl) (LY rfl (y_assign rfl) (L_nil (C_seq (C_seq (C_region (LY rfl (y_move rfl) ?_))))))))
  refine LY rfl (y_eqp rfl rfl Try.underlying29) ?_
  refine LY rfl (y_move rfl) (LY rfl (y_move rfl) (LY rfl (y_eqi rfl rfl) (LY rfl (y_pick_f rfl rfl) (L_nil ?_))))
  refine C_cond rfl (fun hc0 => absurd hc0 (by simp <;> omega)) (fun hc0 => ?_)
  refine C_skip (C_seq (C_region (LY rfl (y_move rfl) (LY rfl (y_nilCheck rfl) (LY rfl (y_fieldAddr rfl fl_90_0) ?_)))))
  refine LY rfl (y_loadA rfl ag_23 sz_23 (sees 0 0 rfl) (Nat.le_of_ble_eq_true rfl) rfl) ?_
  refine LY rfl (y_move rfl) ?_
  refine L_op rfl (op_call rfl rfl (fun a w => Try.call44 a w) rfl ?_)
  refine (of_s segs size a).mono ?_
  rintro _ _ ⟨rfl, e⟩
  obtain rfl := e.symm
  clear e
  refine ⟨_, rfl, ?_⟩
  refine LY rfl (y_move rfl) (LY rfl (y_extract rfl rfl) (LY rfl (y_extract rfl rfl) (LY rfl (y_extract rfl rfl) (LY rfl (y_assign rfl) (LY rfl (y_assign rfl) (LY rfl (y_assign rfl) (L_nil (C_seq (C_seq (C_region (LY rfl (y_move rfl) (LY rfl (y_not rfl) (L_nil ?_)))))))))))))
  refine C_cond rfl (fun hc1 => ?_) (fun hc1 => ?_)
  · skip
    refine C_seq (C_region (LY rfl (y_assign rfl) (LY rfl (y_assign rfl) (L_nil (C_ret ?_)))))
    refine B_ret (rv_tmp rfl (rv_tmp rfl rv_nil)) ((hsub (.cons_cons _ (.refl _))).trans (hsub_pick [0] rfl)) ?_
    refine ⟨?_, rfl⟩
    cases hq : ofS segs size a <;> rw [hq] at hc1 <;> first | rfl | exact absurd hc1 (by simp)
  · skip
    refine C_skip (C_seq (C_region (LY rfl (y_move rfl) (LY rfl (y_assign rfl) (LY rfl (y_assign rfl) (L_nil (C_ret ?_)))))))
    refine B_ret (rv_tmp rfl (rv_tmp rfl rv_nil)) ((hsub (.cons_cons _ (.refl _))).trans (hsub_pick [0] rfl)) ?_
    refine ⟨?_, rfl⟩
    cases hq : ofS segs size a <;> rw [hq] at hc1 <;> first | rfl | exact absurd hc1 (by simp)

theorem xput_0 {w0 : World} {H : Hp} {o : Xo} {segs size : Int} {l : Xl} {A L : Gm} (h : Xm segs size l A L) (n : Nat) (hn : n < 18446744073709551616) (a : Int) (hl : l.length < 4611686018427387904) (h0 : n = 0) : FnS Try.prog w0 30 #[ptr o.b, .int .u64 (n : Int), .int .i64 a] (o.seg 90 segs size A L :: H) (fun e H' => e = .returned (.int .i64 (xput segs size l n a false).2) ∧ ∃ A' L', Xm segs size (xput segs size l n a false).1 A' L' ∧ H' = o.seg 90 segs size A' L' :: H) := by
  refine FnS_intro (n := 44) (rs := [.tmp 6]) (vs := [ptr o.b, .int .u64 (n : Int), .int .i64 a]) Try.func30 rfl Try.ntmps30 rfl rfl ?_
  refine C_seq (C_region (LY rfl (y_assign rfl) (L_nil (C_seq (C_region (LY rfl (y_move rfl) (LY rfl (y_move rfl) (LY rfl (y_move rfl) ?_))))))))
  refine L_op rfl (op_call rfl rfl (fun a w => Try.call46 a w) rfl ?_)
  refine (slot_0 n a h0).mono ?_
  rintro _ _ ⟨rfl, rfl⟩
  refine ⟨_, rfl, ?_⟩
  refine LY rfl (y_move rfl) (LY rfl (y_extract rfl rfl) (LY rfl (y_extract rfl rfl) (LY rfl (y_assign rfl) (LY rfl (y_assign rfl) (L_nil (C_seq (C_seq (C_region (LY rfl (y_move rfl) ?_)))))))))
  refine LY rfl (y_nei rfl rfl) ?_
  refine L_nil (C_cond_t rfl (C_seq (C_region (LY rfl (y_move rfl) (LY rfl (y_assign rfl) (L_nil (C_ret ?_)))))))
  refine B_ret (rv_tmp rfl rv_nil) ((hsub (.cons_cons _ (.refl _))).trans (hsub_pick [0] rfl)) ?_
  have e4 : xput segs size l n a false = (l, 1) := by simp [xput, h0]
  rw [e4]
  exact ⟨rfl, A, L, h, rfl⟩

theorem xput_r {w0 : World} {H : Hp} {o : Xo} {segs size : Int} {l : Xl} {A L : Gm} (h : Xm segs size l A L) (n : Nat) (hn : n < 18446744073709551616) (a : Int) (hl : l.length < 4611686018427387904) (h0 : n ≠ 0) (ho : ofS segs size a = none) : FnS Try.prog w0 30 #[ptr o.b, .int .u64 (n : Int), .int .i64 a] (o.seg 90 segs size A L :: H) (fun e H' => e = .returned (.int .i64 (xput segs size l n a false).2) ∧ ∃ A' L', Xm segs size (xput segs size l n a false).1 A' L' ∧ H' = o.seg 90 segs size A' L' :: H) := by
  refine FnS_intro (n := 44) (rs := [.tmp 6]) (vs := [ptr o.b, .int .u64 (n : Int), .int .i64 a]) Try.func30 rfl Try.ntmps30 rfl rfl ?_
  refine C_seq (C_region (LY rfl (y_assign rfl) (L_nil (C_seq (C_region (LY rfl (y_move rfl) (LY rfl (y_move rfl) (LY rfl (y_move rfl) ?_))))))))
  refine L_op rfl (op_call rfl rfl (fun a w => Try.call46 a w) rfl ?_)
  have hz := slot_n (w0 := w0) (H := H) (o := o) (segs := segs) (size := size) (A := A) (L := L) n a h0
  rw [ho] at hz
  try simp only [Option.getD_some, Option.isSome_some, if_true] at hz
  refine hz.mono ?_
  rintro _ _ ⟨rfl, rfl⟩
  refine ⟨_, rfl, ?_⟩
  refine LY rfl (y_move rfl) (LY rfl (y_extract rfl rfl) (LY rfl (y_extract rfl rfl) (LY rfl (y_assign rfl) (LY rfl (y_assign rfl) (L_nil (C_seq (C_seq (C_region (LY rfl (y_move rfl) ?_)))))))))
  refine LY rfl (y_nei rfl rfl) ?_
  refine L_nil (C_cond_t rfl (C_seq (C_region (LY rfl (y_move rfl) (LY rfl (y_assign rfl) (L_nil (C_ret ?_)))))))
  refine B_ret (rv_tmp rfl rv_nil) ((hsub (.cons_cons _ (.refl _))).trans (hsub_pick [0] rfl)) ?_
  have e4 : xput segs size l n a false = (l, 2) := by simp [xput, h0, ho]
  rw [e4]
  exact ⟨rfl, A, L, h, rfl⟩

theorem xmove_0 {w0 : World} {H : Hp} {o : Xo} {segs size : Int} {l : Xl} {A L : Gm} (h : Xm segs size l A L) (n : Nat) (hn : n < 18446744073709551616) (a : Int) (hl : l.length < 4611686018427387904) (h0 : n = 0) : FnS Try.prog w0 19 #[ptr o.b, .int .u64 (n : Int), .int .i64 a] (o.seg 90 segs size A L :: H) (fun e H' => e = .returned (.int .i64 (xput segs size l n a true).2) ∧ ∃ A' L', Xm segs size (xput segs size l n a true).1 A' L' ∧ H' = o.seg 90 segs size A' L' :: H) := by
  refine FnS_intro (n := 65) (rs := [.tmp 6]) (vs := [ptr o.b, .int .u64 (n : Int), .int .i64 a]) Try.func19 rfl Try.ntmps19 rfl rfl ?_
  refine C_seq (C_region (LY rfl (y_assign rfl) (L_nil (C_seq (C_region (LY rfl (y_move rfl) (LY rfl (y_move rfl) (LY rfl (y_move rfl) ?_))))))))
  refine L_op rfl (op_call rfl rfl (fun a w => Try.call46 a w) rfl ?_)
  refine (slot_0 n a h0).mono ?_
  rintro _ _ ⟨rfl, rfl⟩
  refine ⟨_, rfl, ?_⟩
  refine LY rfl (y_move rfl) (LY rfl (y_extract rfl rfl) (LY rfl (y_extract rfl rfl) (LY rfl (y_assign rfl) (LY rfl (y_assign rfl) (L_nil (C_seq (C_seq (C_region (LY rfl (y_move rfl) ?_)))))))))
  refine LY rfl (y_nei rfl rfl) ?_
  refine L_nil (C_cond_t rfl (C_seq (C_region (LY rfl (y_move rfl) (LY rfl (y_assign rfl) (L_nil (C_ret ?_)))))))
  refine B_ret (rv_tmp rfl rv_nil) ((hsub (.cons_cons _ (.refl _))).trans (hsub_pick [0] rfl)) ?_
  have e4 : xput segs size l n a true = (l, 1) := by simp [xput, h0]
  rw [e4]
  exact ⟨rfl, A, L, h, rfl⟩

theorem xmove_r {w0 : World} {H : Hp} {o : Xo} {segs size : Int} {l : Xl} {A L : Gm} (h : Xm segs size l A L) (n : Nat) (hn : n < 18446744073709551616) (a : Int) (hl : l.length < 4611686018427387904) (h0 : n ≠ 0) (ho : ofS segs size a = none) : FnS Try.prog w0 19 #[ptr o.b, .int .u64 (n : Int), .int .i64 a] (o.seg 90 segs size A L :: H) (fun e H' => e = .returned (.int .i64 (xput segs size l n a true).2) ∧ ∃ A' L', Xm segs size (xput segs size l n a true).1 A' L' ∧ H' = o.seg 90 segs size A' L' :: H) := by
  refine FnS_intro (n := 65) (rs := [.tmp 6]) (vs := [ptr o.b, .int .u64 (n : Int), .int .i64 a]) Try.func19 rfl Try.ntmps19 rfl rfl ?_
  refine C_seq (C_region (LY rfl (y_assign rfl) (L_nil (C_seq (C_region (LY rfl (y_move rfl) (LY rfl (y_move rfl) (LY rfl (y_move rfl) ?_))))))))
  refine L_op rfl (op_call rfl rfl (fun a w => Try.call46 a w) rfl ?_)
  have hz := slot_n (w0 := w0) (H := H) (o := o) (segs := segs) (size := size) (A := A) (L := L) n a h0
  rw [ho] at hz
  try simp only [Option.getD_some, Option.isSome_some, if_true] at hz
  refine hz.mono ?_
  rintro _ _ ⟨rfl, rfl⟩
  refine ⟨_, rfl, ?_⟩
  refine LY rfl (y_move rfl) (LY rfl (y_extract rfl rfl) (LY rfl (y_extract rfl rfl) (LY rfl (y_assign rfl) (LY rfl (y_assign rfl) (L_nil (C_seq (C_seq (C_region (LY rfl (y_move rfl) ?_)))))))))
  refine LY rfl (y_nei rfl rfl) ?_
  refine L_nil (C_cond_t rfl (C_seq (C_region (LY rfl (y_move rfl) (LY rfl (y_assign rfl) (L_nil (C_ret ?_)))))))
  refine B_ret (rv_tmp rfl rv_nil) ((hsub (.cons_cons _ (.refl _))).trans (hsub_pick [0] rfl)) ?_
  have e4 : xput segs size l n a true = (l, 2) := by simp [xput, h0, ho]
  rw [e4]
  exact ⟨rfl, A, L, h, rfl⟩

theorem xput_t {w0 : World} {H : Hp} {o : Xo} {segs size : Int} {l : Xl} {A L : Gm} (h : Xm segs size l A L) (n : Nat) (hn : n < 18446744073709551616) (a : Int) (hl : l.length < 4611686018427387904) (h0 : n ≠ 0) {s : Int} (ho : ofS segs size a = some s) {b : Int} (hf : xfind l n = some b) : FnS Try.prog w0 30 #[ptr o.b, .int .u64 (n : Int), .int .i64 a] (o.seg 90 segs size A L :: H) (fun e H' => e = .returned (.int .i64 (xput segs size l n a false).2) ∧ ∃ A' L', Xm segs size (xput segs size l n a false).1 A' L' ∧ H' = o.seg 90 segs size A' L' :: H) := by
  refine FnS_intro (n := 44) (rs := [.tmp 6]) (vs := [ptr o.b, .int .u64 (n : Int), .int .i64 a]) Try.func30 rfl Try.ntmps30 rfl rfl ?_
  refine C_seq (C_region (LY rfl (y_assign rfl) (L_nil (C_seq (C_region (LY rfl (y_move rfl) (LY rfl (y_move rfl) (LY rfl (y_move rfl) ?_))))))))
  refine L_op rfl (op_call rfl rfl (fun a w => Try.call46 a w) rfl ?_)
  have hz := slot_n (w0 := w0) (H := H) (o := o) (segs := segs) (size := size) (A := A) (L := L) n a h0
  rw [ho] at hz
  try simp only [Option.getD_some, Option.isSome_some, if_true] at hz
  refine hz.mono ?_
  rintro _ _ ⟨rfl, rfl⟩
  refine ⟨_, rfl, ?_⟩
  refine LY rfl (y_move rfl) (LY rfl (y_extract rfl rfl) (LY rfl (y_extract rfl rfl) (LY rfl (y_assign rfl) (LY rfl (y_assign rfl) (L_nil (C_seq (C_seq (C_region (LY rfl (y_move rfl) ?_)))))))))
  refine LY rfl (y_nei rfl rfl) ?_
  refine L_nil (C_cond_f rfl (C_skip (C_seq (C_seq (C_region (LY rfl (y_move rfl) (LY rfl (y_nilCheck rfl) (LY rfl (y_fieldAddr rfl fl_90_1) (LY rfl (y_load rfl ag_87 (sees 0 0 rfl) rfl) (LY rfl (y_move rfl) ?_))))))))))
  refine LY rfl (y_lookupG2 rfl rfl Try.underlying87 Try.underlying48 zt_3 (sees 0 1 rfl)) ?_
  rw [h.get, hf]
  refine LY rfl (y_move rfl) (LY rfl (y_extract rfl rfl) (LY rfl (y_extract rfl rfl) (LY rfl (y_assign rfl) (LY rfl (y_assign rfl) (L_nil (C_seq (C_region (LY rfl (y_move rfl) (L_nil (C_cond_t rfl (C_seq (C_region (LY rfl (y_assign rfl) (L_nil (C_ret ?_)))))))))))))))
  refine B_ret (rv_tmp rfl rv_nil) ((hsub (.cons_cons _ (.refl _))).trans (hsub_pick [0] rfl)) ?_
  have e4 : xput segs size l n a false = (l, 5) := by simp [xput, h0, ho, hf]
  rw [e4]
  exact ⟨rfl, A, L, h, rfl⟩

theorem xput_y {w0 : World} {H : Hp} {o : Xo} {segs size : Int} {l : Xl} {A L : Gm} (h : Xm segs size l A L) (n : Nat) (hn : n < 18446744073709551616) (a : Int) (hl : l.length < 4611686018427387904) (h0 : n ≠ 0) {s : Int} (ho : ofS segs size a = some s) (hf : xfind l n = none) : FnS Try.prog w0 30 #[ptr o.b, .int .u64 (n : Int), .int .i64 a] (o.seg 90 segs size A L :: H) (fun e H' => e = .returned (.int .i64 (xput segs size l n a false).2) ∧ ∃ A' L', Xm segs size (xput segs size l n a false).1 A' L' ∧ H' = o.seg 90 segs size A' L' :: H) := by
  have hc := cnt_le segs size l s
  refine FnS_intro (n := 44) (rs := [.tmp 6]) (vs := [ptr o.b, .int .u64 (n : Int), .int .i64 a]) Try.func30 rfl Try.ntmps30 rfl rfl ?_
  refine C_seq (C_region (LY rfl (y_assign rfl) (L_nil (C_seq (C_region (LY rfl (y_move rfl) (LY rfl (y_move rfl) (LY rfl (y_move rfl) ?_))))))))
  refine L_op rfl (op_call rfl rfl (fun a w => Try.call46 a w) rfl ?_)
  have hz := slot_n (w0 := w0) (H := H) (o := o) (segs := segs) (size := size) (A := A) (L := L) n a h0
  rw [ho] at hz
  try simp only [Option.getD_some, Option.isSome_some, if_true] at hz
  refine hz.mono ?_
  rintro _ _ ⟨rfl, rfl⟩
  refine ⟨_, rfl, ?_⟩
  refine LY rfl (y_move rfl) (LY rfl (y_extract rfl rfl) (LY rfl (y_extract rfl rfl) (LY rfl (y_assign rfl) (LY rfl (y_assign rfl) (L_nil (C_seq (C_seq (C_region (LY rfl (y_move rfl) ?_)))))))))
  refine LY rfl (y_nei rfl rfl) ?_
  refine L_nil (C_cond_f rfl (C_skip (C_seq (C_seq (C_region (LY rfl (y_move rfl) (LY rfl (y_nilCheck rfl) (LY rfl (y_fieldAddr rfl fl_90_1) (LY rfl (y_load rfl ag_87 (sees 0 0 rfl) rfl) (LY rfl (y_move rfl) ?_))))))))))
  refine LY rfl (y_lookupG2 rfl rfl Try.underlying87 Try.underlying48 zt_3 (sees 0 1 rfl)) ?_
  rw [h.get, hf]
  refine LY rfl (y_move rfl) (LY rfl (y_extract rfl rfl) (LY rfl (y_extract rfl rfl) (LY rfl (y_assign rfl) (LY rfl (y_assign rfl) (L_nil (C_seq (C_region (LY rfl (y_move rfl) (L_nil (C_cond_f rfl (C_skip (C_seq (C_region (LY rfl (y_move rfl) (LY rfl (y_nilCheck rfl) (LY rfl (y_fieldAddr rfl fl_90_1) (LY rfl (y_load rfl ag_87 (sees 0 0 rfl) rfl) (LY rfl (y_move rfl) (LY rfl (y_move rfl) ?_)))))))))))))))))))
  refine L_op rfl (op_mapUpdateG 0 1 rfl rfl rfl Try.underlying87 Try.underlying48 h.okA rfl rfl ?_)
  refine L_nil (C_seq (C_region (LY rfl (y_move rfl) (LY rfl (y_nilCheck rfl) (LY rfl (y_fieldAddr rfl fl_90_2) (LY rfl (y_load rfl ag_88 (sees 0 0 rfl) rfl) (LY rfl (y_move rfl) ?_)))))))
  refine LY rfl (y_lookupG rfl rfl Try.underlying88 Try.underlying3 zt_3 (sees 0 2 rfl)) ?_
  rw [h.liv]
  refine LY rfl (y_add rfl rfl (wi64 (by omega) (by omega))) ?_
  refine L_op rfl (op_mapUpdateG 0 2 rfl rfl rfl Try.underlying88 Try.underlying3 h.okL rfl rfl ?_)
  refine L_nil (C_seq (C_region (LY rfl (y_assign rfl) (L_nil (C_ret ?_)))))
  refine B_ret (rv_tmp rfl rv_nil) ((hsub (.cons_cons _ (.refl _))).trans (hsub_pick [0] rfl)) ?_
  have e4 : xput segs size l n a false = (xins l n a, 0) := by simp [xput, h0, ho, hf]
  rw [e4]
  exact ⟨rfl, _, _, h.put h0 hn hf ho, rfl⟩

theorem xmove_n {w0 : World} {H : Hp} {o : Xo} {segs size : Int} {l : Xl} {A L : Gm} (h : Xm segs size l A L) (n : Nat) (hn : n < 18446744073709551616) (a : Int) (hl : l.length < 4611686018427387904) (h0 : n ≠ 0) {s : Int} (ho : ofS segs size a = some s) (hf : xfind l n = none) : FnS Try.prog w0 19 #[ptr o.b, .int .u64 (n : Int), .int .i64 a] (o.seg 90 segs size A L :: H) (fun e H' => e = .returned (.int .i64 (xput segs size l n a true).2) ∧ ∃ A' L', Xm segs size (xput segs size l n a true).1 A' L' ∧ H' = o.seg 90 segs size A' L' :: H) := by
  refine FnS_intro (n := 65) (rs := [.tmp 6]) (vs := [ptr o.b, .int .u64 (n : Int), .int .i64 a]) Try.func19 rfl Try.ntmps19 rfl rfl ?_
  refine C_seq (C_region (LY rfl (y_assign rfl) (L_nil (C_seq (C_region (LY rfl (y_move rfl) (LY rfl (y_move rfl) (LY rfl (y_move rfl) ?_))))))))
  refine L_op rfl (op_call rfl rfl (fun a w => Try.call46 a w) rfl ?_)
  have hz := slot_n (w0 := w0) (H := H) (o := o) (segs := segs) (size := size) (A := A) (L := L) n a h0
  rw [ho] at hz
  try simp only [Option.getD_some, Option.isSome_some, if_true] at hz
  refine hz.mono ?_
  rintro _ _ ⟨rfl, rfl⟩
  refine ⟨_, rfl, ?_⟩
  refine LY rfl (y_move rfl) (LY rfl (y_extract rfl rfl) (LY rfl (y_extract rfl rfl) (LY rfl (y_assign rfl) (LY rfl (y_assign rfl) (L_nil (C_seq (C_seq (C_region (LY rfl (y_move rfl) ?_)))))))))
  refine LY rfl (y_nei rfl rfl) ?_
  refine L_nil (C_cond_f rfl (C_skip (C_seq (C_region (LY rfl (y_move rfl) (LY rfl (y_nilCheck rfl) (LY rfl (y_fieldAddr rfl fl_90_1) (LY rfl (y_load rfl ag_87 (sees 0 0 rfl) rfl) (LY rfl (y_move rfl) ?_)))))))))
  refine LY rfl (y_lookupG2 rfl rfl Try.underlying87 Try.underlying48 zt_3 (sees 0 1 rfl)) ?_
  rw [h.get, hf]
  refine LY rfl (y_move rfl) (LY rfl (y_extract rfl rfl) (LY rfl (y_extract rfl rfl) (LY rfl (y_assign rfl) (LY rfl (y_assign rfl) (L_nil (C_seq (C_seq (C_region (LY rfl (y_move rfl) (LY rfl (y_not rfl) (L_nil (C_cond_t rfl (C_seq (C_region (LY rfl (y_assign rfl) (L_nil (C_ret ?_)))))))))))))))))
  refine B_ret (rv_tmp rfl rv_nil) ((hsub (.cons_cons _ (.refl _))).trans (hsub_pick [0] rfl)) ?_
  have e4 : xput segs size l n a true = (l, 4) := by simp [xput, h0, ho, hf]
  rw [e4]
  exact ⟨rfl, A, L, h, rfl⟩

theorem xmove_y {w0 : World} {H : Hp} {o : Xo} {segs size : Int} {l : Xl} {A L : Gm} (h : Xm segs size l A L) (n : Nat) (hn : n < 18446744073709551616) (a : Int) (hl : l.length < 4611686018427387904) (h0 : n ≠ 0) {s : Int} (ho : ofS segs size a = some s) {b t : Int} (hf : xfind l n = some b) (hb : ofS segs size b = some t) : FnS Try.prog w0 19 #[ptr o.b, .int .u64 (n : Int), .int .i64 a] (o.seg 90 segs size A L :: H) (fun e H' => e = .returned (.int .i64 (xput segs size l n a true).2) ∧ ∃ A' L', Xm segs size (xput segs size l n a true).1 A' L' ∧ H' = o.seg 90 segs size A' L' :: H) := by
  have hc := cnt_le segs size l s
  have hc2 := cnt_le segs size l t
  obtain ⟨c, hcc⟩ : ∃ c : Int, c = cnt18 segs size l s - (if s = t then 1 else 0) := ⟨_, rfl⟩
  have hdc := xdel_cnt (segs := segs) (size := size) h.s hf t
  rw [hb, if_pos rfl] at hdc
  have hc3 : -1 ≤ c ∧ c ≤ 4611686018427387904 := by split at hcc <;> omega
  have hg2 : (((L.put t (.int .i64 (cnt18 segs size l t - 1 : Int))).get s).getD (.int .i64 0)) = .int .i64 c := by
    rw [Gm.get_put, hcc]
    by_cases e : s = t
    · subst e; rw [if_pos rfl, if_pos rfl]; rfl
    · rw [if_neg e, if_neg e, h.liv]; simp
  refine FnS_intro (n := 65) (rs := [.tmp 6]) (vs := [ptr o.b, .int .u64 (n : Int), .int .i64 a]) Try.func19 rfl Try.ntmps19 rfl rfl ?_
  refine C_seq (C_region (LY rfl (y_assign rfl) (L_nil (C_seq (C_region (LY rfl (y_move rfl) (LY rfl (y_move rfl) (LY rfl (y_move rfl) ?_))))))))
  refine L_op rfl (op_call rfl rfl (fun a w => Try.call46 a w) rfl ?_)
  have hz := slot_n (w0 := w0) (H := H) (o := o) (segs := segs) (size := size) (A := A) (L := L) n a h0
  rw [ho] at hz
  try simp only [Option.getD_some, Option.isSome_some, if_true] at hz
  refine hz.mono ?_
  rintro _ _ ⟨rfl, rfl⟩
  refine ⟨_, rfl, ?_⟩
  refine LY rfl (y_move rfl) (LY rfl (y_extract rfl rfl) (LY rfl (y_extract rfl rfl) (LY rfl (y_assign rfl) (LY rfl (y_assign rfl) (L_nil (C_seq (C_seq (C_region (LY rfl (y_move rfl) ?_)))))))))
  refine LY rfl (y_nei rfl rfl) ?_
  refine L_nil (C_cond_f rfl (C_skip (C_seq (C_region (LY rfl (y_move rfl) (LY rfl (y_nilCheck rfl) (LY rfl (y_fieldAddr rfl fl_90_1) (LY rfl (y_load rfl ag_87 (sees 0 0 rfl) rfl) (LY rfl (y_move rfl) ?_)))))))))
  refine LY rfl (y_lookupG2 rfl rfl Try.underlying87 Try.underlying48 zt_3 (sees 0 1 rfl)) ?_
  rw [h.get, hf]
  refine LY rfl (y_move rfl) (LY rfl (y_extract rfl rfl) (LY rfl (y_extract rfl rfl) (LY rfl (y_assign rfl) (LY rfl (y_assign rfl) (L_nil (C_seq (C_seq (C_region (LY rfl (y_move rfl) (LY rfl (y_not rfl) (L_nil (C_cond_f rfl (C_skip (C_seq (C_region (LY rfl (y_move rfl) (LY rfl (y_nilCheck rfl) (LY rfl (y_fieldAddr rfl fl_90_0) ?_))))))))))))))))))
  refine LY rfl (y_loadA rfl ag_23 sz_23 (sees 0 0 rfl) (Nat.le_of_ble_eq_true rfl) rfl) ?_
  refine LY rfl (y_move rfl) ?_
  refine L_op rfl (op_call rfl rfl (fun a w => Try.call44 a w) rfl ?_)
  have hz := of_s (w0 := w0) (H := (o.seg 90 segs size A L :: H)) segs size b
  rw [hb] at hz
  try simp only [Option.getD_some, Option.isSome_some, if_true] at hz
  refine hz.mono ?_
  rintro _ _ ⟨rfl, rfl⟩
  refine ⟨_, rfl, ?_⟩
  refine LY rfl (y_move rfl) (LY rfl (y_extract rfl rfl) (LY rfl (y_extract rfl rfl) (LY rfl (y_extract rfl rfl) (LY rfl (y_assign rfl) (LY rfl (y_assign rfl) (LY rfl (y_assign rfl) (L_nil (C_seq (C_region (LY rfl (y_move rfl) (LY rfl (y_nilCheck rfl) (LY rfl (y_fieldAddr rfl fl_90_2) (LY rfl (y_load rfl ag_88 (sees 0 0 rfl) rfl) (LY rfl (y_move rfl) ?_))))))))))))))
  refine LY rfl (y_lookupG rfl rfl Try.underlying88 Try.underlying3 zt_3 (sees 0 2 rfl)) ?_
  rw [h.liv]
  refine LY rfl (y_sub rfl rfl (wi64 (by omega) (by omega))) ?_
  refine L_op rfl (op_mapUpdateG 0 2 rfl rfl rfl Try.underlying88 Try.underlying3 h.okL rfl rfl ?_)
  refine L_nil (C_seq (C_region (LY rfl (y_move rfl) (LY rfl (y_nilCheck rfl) (LY rfl (y_fieldAddr rfl fl_90_2) (LY rfl (y_load rfl ag_88 (sees 0 0 rfl) rfl) (LY rfl (y_move rfl) ?_)))))))
  refine LY rfl (y_lookupG rfl rfl Try.underlying88 Try.underlying3 zt_3 (sees 0 2 rfl)) ?_
  rw [hg2]
  refine LY rfl (y_add rfl rfl (wi64 (by omega) (by omega))) ?_
  refine L_op rfl (op_mapUpdateG 0 2 rfl rfl rfl Try.underlying88 Try.underlying3 (Gm.put_ok h.okL _ _) rfl rfl ?_)
  refine L_nil (C_seq (C_region (LY rfl (y_move rfl) (LY rfl (y_nilCheck rfl) (LY rfl (y_fieldAddr rfl fl_90_1) (LY rfl (y_load rfl ag_87 (sees 0 0 rfl) rfl) (LY rfl (y_move rfl) (LY rfl (y_move rfl) ?_))))))))
  refine L_op rfl (op_mapUpdateG 0 1 rfl rfl rfl Try.underlying87 Try.underlying48 h.okA rfl rfl ?_)
  refine L_nil (C_seq (C_region (LY rfl (y_assign rfl) (L_nil (C_ret ?_)))))
  refine B_ret (rv_tmp rfl rv_nil) ((hsub (.cons_cons _ (.refl _))).trans (hsub_pick [0] rfl)) ?_
  have e4 : xput segs size l n a true = (xins (xdel l n) n a, 0) := by simp [xput, h0, ho, hf]
  rw [e4]
  exact ⟨rfl, _, _, h.move hf hb ho hcc, rfl⟩

theorem xput_s {w0 : World} {H : Hp} {o : Xo} {segs size : Int} {l : Xl} {A L : Gm} (h : Xm segs size l A L) (n : Nat) (hn : n < 18446744073709551616) (a : Int) (hl : l.length < 4611686018427387904) : FnS Try.prog w0 30 #[ptr o.b, .int .u64 (n : Int), .int .i64 a] (o.seg 90 segs size A L :: H) (fun e H' => e = .returned (.int .i64 (xput segs size l n a false).2) ∧ ∃ A' L', Xm segs size (xput segs size l n a false).1 A' L' ∧ H' = o.seg 90 segs size A' L' :: H) := by
  by_cases h0 : n = 0
  · exact xput_0 h n hn a hl h0
  · cases ho : ofS segs size a with
    | none => exact xput_r h n hn a hl h0 ho
    | some s =>
      cases hf : xfind l n with
      | some b => exact xput_t h n hn a hl h0 ho hf
      | none => exact xput_y h n hn a hl h0 ho hf

theorem xmove_s {w0 : World} {H : Hp} {o : Xo} {segs size : Int} {l : Xl} {A L : Gm} (h : Xm segs size l A L) (n : Nat) (hn : n < 18446744073709551616) (a : Int) (hl : l.length < 4611686018427387904) : FnS Try.prog w0 19 #[ptr o.b, .int .u64 (n : Int), .int .i64 a] (o.seg 90 segs size A L :: H) (fun e H' => e = .returned (.int .i64 (xput segs size l n a true).2) ∧ ∃ A' L', Xm segs size (xput segs size l n a true).1 A' L' ∧ H' = o.seg 90 segs size A' L' :: H) := by
  by_cases h0 : n = 0
  · exact xmove_0 h n hn a hl h0
  · cases ho : ofS segs size a with
    | none => exact xmove_r h n hn a hl h0 ho
    | some s =>
      cases hf : xfind l n with
      | none => exact xmove_n h n hn a hl h0 ho hf
      | some b => obtain ⟨t, hb⟩ := ofS_some h hf; exact xmove_y h n hn a hl h0 ho hf hb

theorem xat_s {w0 : World} {H : Hp} {o : Xo} {segs size : Int} {l : Xl} {A L : Gm} (h : Xm segs size l A L) (n : Nat) : FnS Try.prog w0 33 #[ptr o.b, .int .u64 (n : Int)] (o.seg 90 segs size A L :: H) (fun e H' => e = .returned (.tuple #[.int .i64 ((xfind l n).getD 0), .bool (xfind l n).isSome]) ∧ H' = o.seg 90 segs size A L :: H) := by
  refine FnS_intro (n := 21) (rs := [.tmp 4, .tmp 5]) (vs := [ptr o.b, .int .u64 (n : Int)]) Try.func33 rfl Try.ntmps33 rfl rfl ?_
  refine C_seq (C_region (LY rfl (y_assign rfl) (LY rfl (y_assign rfl) (L_nil (C_seq (C_seq (C_region (LY rfl (y_move rfl) ?_))))))))
  refine LY rfl (y_eqp rfl rfl Try.underlying29) ?_
  refine L_nil (C_cond_f rfl (C_skip (C_seq (C_region (LY rfl (y_move rfl) (LY rfl (y_nilCheck rfl) (LY rfl (y_fieldAddr rfl fl_90_1) (LY rfl (y_load rfl ag_87 (sees 0 0 rfl) rfl) (LY rfl (y_move rfl) ?_)))))))))
  refine LY rfl (y_lookupG2 rfl rfl Try.underlying87 Try.underlying48 zt_3 (sees 0 1 rfl)) ?_
  refine LY rfl (y_move rfl) (LY rfl (y_extract rfl rfl) (LY rfl (y_extract rfl rfl) (LY rfl (y_assign rfl) (LY rfl (y_assign rfl) (L_nil (C_seq (C_region (LY rfl (y_move rfl) (LY rfl (y_move rfl) (LY rfl (y_assign rfl) (LY rfl (y_assign rfl) (L_nil (C_ret ?_)))))))))))))
  refine B_ret (rv_tmp rfl (rv_tmp rfl rv_nil)) ((hsub (.cons_cons _ (.refl _))).trans (hsub_pick [0] rfl)) ?_
  refine ⟨?_, rfl⟩
  rw [h.get]
  cases xfind l n <;> rfl

theorem xlen_s {w0 : World} {H : Hp} {o : Xo} {segs size : Int} {l : Xl} {A L : Gm} (h : Xm segs size l A L) : FnS Try.prog w0 15 #[ptr o.b] (o.seg 90 segs size A L :: H) (fun e H' => e = .returned (.int .i64 (l.length : Int)) ∧ H' = o.seg 90 segs size A L :: H) := by
  refine FnS_intro (n := 10) (rs := [.tmp 2]) (vs := [ptr o.b]) Try.func15 rfl Try.ntmps15 rfl rfl ?_
  refine C_seq (C_region (LY rfl (y_assign rfl) (L_nil (C_seq (C_seq (C_region (LY rfl (y_move rfl) ?_)))))))
  refine LY rfl (y_eqp rfl rfl Try.underlying29) ?_
  refine L_nil (C_cond_f rfl (C_skip (C_seq (C_region (LY rfl (y_move rfl) (LY rfl (y_nilCheck rfl) (LY rfl (y_fieldAddr rfl fl_90_1) (LY rfl (y_load rfl ag_87 (sees 0 0 rfl) rfl) ?_))))))))
  refine LY rfl (y_lenG rfl rfl Try.underlying87 (sees 0 1 rfl)) ?_
  refine LY rfl (y_assign rfl) (L_nil (C_ret ?_))
  refine B_ret (rv_tmp rfl rv_nil) ((hsub (.cons_cons _ (.refl _))).trans (hsub_pick [0] rfl)) ?_
  exact ⟨by rw [h.len]; rfl, rfl⟩

theorem xlive_s {w0 : World} {H : Hp} {o : Xo} {segs size : Int} {l : Xl} {A L : Gm} (h : Xm segs size l A L) (s : Int) : FnS Try.prog w0 20 #[ptr o.b, .int .i64 s] (o.seg 90 segs size A L :: H) (fun e H' => e = .returned (.int .i64 (cnt18 segs size l s : Int)) ∧ H' = o.seg 90 segs size A L :: H) := by
  refine FnS_intro (n := 13) (rs := [.tmp 4]) (vs := [ptr o.b, .int .i64 s]) Try.func20 rfl Try.ntmps20 rfl rfl ?_
  refine C_seq (C_region (LY rfl (y_assign rfl) (L_nil (C_seq (C_seq (C_region (LY rfl (y_move rfl) ?_)))))))
  refine LY rfl (y_eqp rfl rfl Try.underlying29) ?_
  refine L_nil (C_cond_f rfl (C_skip (C_seq (C_region (LY rfl (y_move rfl) (LY rfl (y_nilCheck rfl) (LY rfl (y_fieldAddr rfl fl_90_2) (LY rfl (y_load rfl ag_88 (sees 0 0 rfl) rfl) (LY rfl (y_move rfl) ?_)))))))))
  refine LY rfl (y_lookupG rfl rfl Try.underlying88 Try.underlying3 zt_3 (sees 0 2 rfl)) ?_
  refine LY rfl (y_assign rfl) (L_nil (C_ret ?_))
  refine B_ret (rv_tmp rfl rv_nil) ((hsub (.cons_cons _ (.refl _))).trans (hsub_pick [0] rfl)) ?_
  exact ⟨by rw [h.liv]; rfl, rfl⟩

end Go.Proofs.Ytighbhplfjjgpaa

/- Facts of the translation's types, for the kernel (own work, by a program of this repo). -/
namespace Go.Proofs.Ytighbhplfjjgpaa
open Go.Sl
theorem ag_168 : isAggT Try.prog 168 = some false := by kernel_rfl
theorem sz_168 : szT Try.prog 168 = some 1 := by kernel_rfl
theorem us_144 : (Try.prog.underlying 144).isSome = true := by kernel_rfl
theorem zl_168 : zeroL Try.prog 168 = some ([.int .u64 0]) := by kernel_rfl
end Go.Proofs.Ytighbhplfjjgpaa

/- Facts of the translation's types, for the kernel (own work, by a program of this repo). -/
namespace Go.Proofs.Ytighbhplfjjgpaa
open Go.Sl
end Go.Proofs.Ytighbhplfjjgpaa

/- walks (own work; the walks' lines by a program of this repo). -/
set_option linter.unusedVariables false
set_option linter.unusedSimpArgs false
set_option maxRecDepth 20000
namespace Go.Proofs.Ytighbhplfjjgpaa
open Go.Sl
attribute [local irreducible] BodyQ WpC WpL WpS WpH OpW FnS


theorem isnan_u {w0 : World} {H : Hp} (x : Int) : FnS Try.prog w0 101 #[.int .u64 x] H (fun e H' => e = .returned (.bool false) ∧ H' = H) := by
  refine FnS_intro (n := 6) (rs := [.tmp 2]) (vs := [.int .u64 x]) Try.func101 rfl Try.ntmps101 rfl rfl ?_
  refine C_seq (C_region (LY rfl (y_assign rfl) (L_nil (C_seq (C_region (LY rfl (y_move rfl) (LY rfl (y_move rfl) ?_)))))))
  refine LY rfl (y_nei rfl rfl) ?_
  refine LY rfl (y_assign rfl) (L_nil (C_ret ?_))
  refine B_ret (rv_tmp rfl rv_nil) (HSub.refl _) ?_
  refine ⟨congrArg (fun b => Ending.returned (.bool b)) ?_, rfl⟩
  simp

theorem less_u {w0 : World} {H : Hp} (x y : Nat) : FnS Try.prog w0 89 #[.int .u64 (x : Int), .int .u64 (y : Int)] H (fun e H' => e = .returned (.bool (ltN x y)) ∧ H' = H) := by
  refine FnS_intro (n := 17) (rs := [.tmp 4]) (vs := [.int .u64 (x : Int), .int .u64 (y : Int)]) Try.func89 rfl Try.ntmps89 rfl rfl ?_
  refine C_seq (C_region (LY rfl (y_assign rfl) (L_nil (C_seq (C_region (LY rfl (y_move rfl) ?_))))))
  refine L_op rfl (op_call rfl rfl (fun a w => Try.call101 a w) rfl ?_)
  refine (isnan_u _).mono ?_
  rintro _ _ ⟨rfl, e⟩
  obtain rfl := e.symm
  clear e
  refine ⟨_, rfl, ?_⟩
  refine LY rfl (y_move rfl) (L_skip rfl rfl (L_skip rfl rfl (L_skip rfl rfl (LY rfl (y_pick_f rfl rfl) (LY rfl (y_move rfl) (LY rfl (y_move rfl) (LY rfl (y_move rfl) (LY rfl (y_lss rfl rfl) (LY rfl (y_pick_f rfl rfl) (LY rfl (y_assign rfl) (L_nil (C_ret ?_))))))))))))
  refine B_ret (rv_tmp rfl rv_nil) (HSub.refl _) ?_
  refine ⟨congrArg (fun b => Ending.returned (.bool b)) ?_, rfl⟩
  simp [ltN]

theorem insert_u {w0 : World} {H : Hp} {sb n cap : Nat} {sp : List Value} (d : Array Nat) (hd : d.size = n) (hn : n < 4611686018427387904) (a b : Nat) (hab : a ≤ b) (hb : b ≤ n) : FnS Try.prog w0 83 #[(.slice (some ⟨sb, 0, none⟩) n cap), .int .i64 (a : Int), .int .i64 (b : Int)] (useg 48 sb d sp :: H) (fun e H' => e = .returned (.tuple #[]) ∧ H' = useg 48 sb (Go.Sort.insertionSort ltN d a b) sp :: H) := by
  refine FnS_intro (n := 49) (rs := []) (vs := [(.slice (some ⟨sb, 0, none⟩) n cap), .int .i64 (a : Int), .int .i64 (b : Int)]) Try.func83 rfl Try.ntmps83 rfl rfl ?_
  refine C_seq (C_region (LY rfl (y_move rfl) ?_))
  refine LY rfl (y_add rfl rfl (show _ = ((a + 1 : Nat) : Int) from by rw [wi64 (by omega) (by omega)]; omega)) ?_
  refine LY rfl (y_assign rfl) (L_nil (C_block ?_))
  refine C_loop (ι := Array Nat × Nat) (fun i => [(0, (.slice (some ⟨sb, 0, none⟩) n cap)), (1, .int .i64 (a : Int)), (2, .int .i64 (b : Int)), (6, .int .i64 (i.2 : Int))]) (fun i => useg 48 sb i.1 sp :: H) (fun i => i.1.size = n ∧ a < i.2 ∧ i.2 ≤ n + 1 ∧ Go.Sort.insOuter ltN a b i.2 i.1 = Go.Sort.insertionSort ltN d a b) (fun i => b - i.2) (d, a + 1) ⟨hd, Nat.lt_succ_self _, by simp only; omega, rfl⟩ ⟨rfl, rfl, rfl, rfl, trivial⟩ ((hsub (.cons_cons _ (.refl _))).trans (hsub_pick [0] rfl)) (fun i hi => ?_)
  obtain ⟨d1, i⟩ := i
  obtain ⟨hs1, hai, hin, hr1⟩ := hi
  try simp only at hs1 hai hin hr1
  try dsimp only
  refine C_seq (C_seq (C_region (LY rfl (y_move rfl) (LY rfl (y_move rfl) (LY rfl (y_lss rfl rfl) (L_nil ?_))))))
  refine C_cond rfl (fun hc0 => ?_) (fun hc0 => ?_)
  · replace hc0 : i < b := by have := of_decide_eq_true hc0; omega
    refine C_skip (C_seq (C_block (C_seq (C_region (LY rfl (y_move rfl) (LY rfl (y_assign rfl) (L_nil (C_block ?_))))))))
    refine C_loop (ι := Array Nat × Nat) (fun j => [(0, (.slice (some ⟨sb, 0, none⟩) n cap)), (1, .int .i64 (a : Int)), (2, .int .i64 (b : Int)), (6, .int .i64 (i : Int)), (7, .int .i64 (j.2 : Int))]) (fun j => useg 48 sb j.1 sp :: H) (fun j => j.1.size = n ∧ a ≤ j.2 ∧ j.2 ≤ i ∧ Go.Sort.insInner ltN a j.2 j.1 = Go.Sort.insInner ltN a i d1) (fun j => j.2) (d1, i) ⟨hs1, by simp only; omega, Nat.le_refl _, rfl⟩ ⟨rfl, rfl, rfl, rfl, rfl, trivial⟩ ((hsub (.cons_cons _ (.refl _))).trans (hsub_pick [0] rfl)) (fun j hj => ?_)
    obtain ⟨d2, j⟩ := j
    obtain ⟨hs2, haj, hji, hr2⟩ := hj
    try simp only at hs2 haj hji hr2
    try dsimp only
    refine C_seq (C_seq ?_)
    refine C_regionH0 (by kernel_rfl) ?_
    refine HY 0 rfl (HSub.refl _) rfl (y_move rfl) ?_
    refine HY 1 rfl (HSub.refl _) rfl (y_move rfl) ?_
    refine HY 2 rfl (HSub.refl _) rfl (y_gtr rfl rfl) ?_
    refine HY 3 rfl (HSub.refl _) rfl (y_move rfl) ?_
    refine H_case 19 rfl (fun hg4_4 => ?_) (fun hg4_4 => ?_)
    · have hja : a < j := by have := of_decide_eq_true hg4_4; omega
      refine HY 4 rfl (HSub.refl _) rfl (y_move rfl) ?_
      refine HY 5 rfl (HSub.refl _) rfl (y_move rfl) ?_
      refine HY 6 rfl (HSub.refl _) rfl (y_indexS rfl rfl Try.underlying33 sz_48 (by omega) (by omega) (show _ = j from by simp)) ?_
      refine HY 7 rfl (HSub.refl _) rfl (y_load rfl ag_48 (sees 0 0 rfl) (us_at (by omega))) ?_
      refine HY 8 rfl (HSub.refl _) rfl (y_move rfl) ?_
      refine HY 9 rfl (HSub.refl _) rfl (y_move rfl) ?_
      refine HY 10 rfl (HSub.refl _) rfl (y_sub rfl rfl (show _ = ((j - 1 : Nat) : Int) from by rw [wi64 (by omega) (by omega)]; omega)) ?_
      refine HY 11 rfl (HSub.refl _) rfl (y_indexS rfl rfl Try.underlying33 sz_48 (by omega) (by omega) (show _ = j - 1 from by simp)) ?_
      refine HY 12 rfl (HSub.refl _) rfl (y_load rfl ag_48 (sees 0 0 rfl) (us_at (by omega))) ?_
      refine H_one 13 rfl (by kernel_rfl) rfl (op_call rfl rfl (fun a w => Try.call89 a w) rfl ?_)
      refine (less_u (d2[j]!) (d2[j - 1]!)).mono ?_
      rintro _ _ ⟨rfl, e⟩
      obtain rfl := e.symm
      clear e
      refine ⟨_, rfl, ?_⟩
      refine ⟨HSub.refl _, ?_⟩
      refine HY 14 rfl (HSub.refl _) rfl (y_pick_t rfl rfl) ?_
      refine H_done (by kernel_rfl) ?_
      refine C_cond rfl (fun hc1 => ?_) (fun hc1 => ?_)
      · have hlt : ltN d2[j]! d2[j - 1]! = true := hc1
        refine C_skip (C_seq (C_block ?_))
        refine C_regionH H (by kernel_rfl) ?_
        refine HY 0 rfl ((hsub (.cons _ (.refl _)))) rfl (y_move rfl) ?_
        refine HY 1 rfl ((hsub (.cons _ (.refl _)))) rfl (y_move rfl) ?_
        refine HY 2 rfl ((hsub (.cons _ (.refl _)))) rfl (y_move rfl) ?_
        refine HY 3 rfl ((hsub (.cons _ (.refl _)))) rfl (y_move rfl) ?_
        refine HY 4 rfl ((hsub (.cons _ (.refl _)))) rfl (y_sub rfl rfl (show _ = ((j - 1 : Nat) : Int) from by rw [wi64 (by omega) (by omega)]; omega)) ?_
        refine HY 5 rfl ((hsub (.cons _ (.refl _)))) rfl (y_move rfl) ?_
        refine HY 6 rfl ((hsub (.cons _ (.refl _)))) rfl (y_move rfl) ?_
        refine HY 7 rfl ((hsub (.cons _ (.refl _)))) rfl (y_sub rfl rfl (show _ = ((j - 1 : Nat) : Int) from by rw [wi64 (by omega) (by omega)]; omega)) ?_
        refine HY 8 rfl ((hsub (.cons _ (.refl _)))) rfl (y_indexS rfl rfl Try.underlying33 sz_48 (by omega) (by omega) (show _ = j - 1 from by simp)) ?_
        refine HY 10 rfl ((hsub (.cons _ (.refl _)))) rfl (y_move rfl) ?_
        refine HY 11 rfl ((hsub (.cons _ (.refl _)))) rfl (y_move rfl) ?_
        refine HY 12 rfl ((hsub (.cons _ (.refl _)))) rfl (y_indexS rfl rfl Try.underlying33 sz_48 (by omega) (by omega) (show _ = j from by simp)) ?_
        refine H_two 9 13 rfl rfl (by kernel_rfl) rfl rfl ?_ ?_
        · refine op_y (y_load rfl ag_48 (sees 0 0 rfl) (us_at (by omega))) rfl ?_
          refine ⟨(hsub (.cons _ (.refl _))), ?_⟩
          refine H_one 13 rfl (by kernel_rfl) rfl (op_y (y_load rfl ag_48 (sees 0 0 rfl) (us_at (by omega))) rfl ?_)
          refine ⟨(hsub (.cons _ (.refl _))), ?_⟩
          refine HY 14 rfl ((hsub (.cons _ (.refl _)))) rfl (y_indexS rfl rfl Try.underlying33 sz_48 (by omega) (by omega) (show _ = j from by simp)) ?_
          refine H_one 15 rfl (by kernel_rfl) rfl (op_store1 0 0 rfl rfl rfl sz_48 rfl (us_lt (by omega)) ?_)
          refine ⟨(hsub (.cons _ (.refl _))), ?_⟩
          refine HY 16 rfl ((hsub (.cons _ (.refl _)))) rfl (y_indexS rfl rfl Try.underlying33 sz_48 (by omega) (by omega) (show _ = j - 1 from by simp)) ?_
          refine H_one 17 rfl (by kernel_rfl) rfl (op_store1 0 0 rfl rfl rfl sz_48 rfl (by rw [List.length_set]; exact us_lt (by omega)) ?_)
          refine ⟨(hsub (.cons _ (.refl _))), ?_⟩
          refine H_done (by kernel_rfl) ?_
          rw [us_swp (by omega) (by omega)]
          refine C_region (LY rfl (y_move rfl) ?_)
          refine LY rfl (y_sub rfl rfl (show _ = ((j - 1 : Nat) : Int) from by rw [wi64 (by omega) (by omega)]; omega)) ?_
          refine LY rfl (y_assign rfl) (L_nil ?_)
          refine ⟨(Go.Sort.swp d2 j (j - 1), j - 1), ⟨by simp only; rw [swp_size]; exact hs2, by simp only; omega, by simp only; omega, by simp only; rw [← hr2, ins_step hja hlt]⟩, by simp only; omega, ⟨rfl, rfl, rfl, rfl, rfl, trivial⟩, ((hsub (.cons_cons _ (.refl _))).trans (hsub_pick [0] rfl))⟩
        · refine op_y (y_load rfl ag_48 (sees 0 0 rfl) (us_at (by omega))) rfl ?_
          refine ⟨(hsub (.cons _ (.refl _))), ?_⟩
          refine H_one 9 rfl (by kernel_rfl) rfl (op_y (y_load rfl ag_48 (sees 0 0 rfl) (us_at (by omega))) rfl ?_)
          refine ⟨(hsub (.cons _ (.refl _))), ?_⟩
          refine HY 14 rfl ((hsub (.cons _ (.refl _)))) rfl (y_indexS rfl rfl Try.underlying33 sz_48 (by omega) (by omega) (show _ = j from by simp)) ?_
          refine H_one 15 rfl (by kernel_rfl) rfl (op_store1 0 0 rfl rfl rfl sz_48 rfl (us_lt (by omega)) ?_)
          refine ⟨(hsub (.cons _ (.refl _))), ?_⟩
          refine HY 16 rfl ((hsub (.cons _ (.refl _)))) rfl (y_indexS rfl rfl Try.underlying33 sz_48 (by omega) (by omega) (show _ = j - 1 from by simp)) ?_
          refine H_one 17 rfl (by kernel_rfl) rfl (op_store1 0 0 rfl rfl rfl sz_48 rfl (by rw [List.length_set]; exact us_lt (by omega)) ?_)
          refine ⟨(hsub (.cons _ (.refl _))), ?_⟩
          refine H_done (by kernel_rfl) ?_
          rw [us_swp (by omega) (by omega)]
          refine C_region (LY rfl (y_move rfl) ?_)
          refine LY rfl (y_sub rfl rfl (show _ = ((j - 1 : Nat) : Int) from by rw [wi64 (by omega) (by omega)]; omega)) ?_
          refine LY rfl (y_assign rfl) (L_nil ?_)
          refine ⟨(Go.Sort.swp d2 j (j - 1), j - 1), ⟨by simp only; rw [swp_size]; exact hs2, by simp only; omega, by simp only; omega, by simp only; rw [← hr2, ins_step hja hlt]⟩, by simp only; omega, ⟨rfl, rfl, rfl, rfl, rfl, trivial⟩, ((hsub (.cons_cons _ (.refl _))).trans (hsub_pick [0] rfl))⟩
      · have hfin : Go.Sort.insInner ltN a i d1 = d2 := by rw [← hr2]; exact ins_stop (.inr hc1)
        refine C_exit (C_region (LY rfl (y_move rfl) ?_))
        refine LY rfl (y_add rfl rfl (show _ = ((i + 1 : Nat) : Int) from by rw [wi64 (by omega) (by omega)]; omega)) ?_
        refine LY rfl (y_assign rfl) (L_nil ?_)
        exact ⟨(d2, i + 1), ⟨hs2, by simp only; omega, by simp only; omega, by rw [← hr1, ins_next hc0, hfin]⟩, by simp only; omega, ⟨rfl, rfl, rfl, rfl, trivial⟩, ((hsub (.cons_cons _ (.refl _))).trans (hsub_pick [0] rfl))⟩
    · have hja : ¬ a < j := by have := of_decide_eq_false hg4_4; omega
      have hfin : Go.Sort.insInner ltN a i d1 = d2 := by rw [← hr2]; exact ins_stop (.inl hja)
      refine HK 4 rfl (HSub.refl _) rfl ?_
      refine HK 5 rfl (HSub.refl _) rfl ?_
      refine HK 6 rfl (HSub.refl _) rfl ?_
      refine HK 7 rfl (HSub.refl _) rfl ?_
      refine HK 8 rfl (HSub.refl _) rfl ?_
      refine HK 9 rfl (HSub.refl _) rfl ?_
      refine HK 10 rfl (HSub.refl _) rfl ?_
      refine HK 11 rfl (HSub.refl _) rfl ?_
      refine HK 12 rfl (HSub.refl _) rfl ?_
      refine HK 13 rfl (HSub.refl _) rfl ?_
      refine HY 14 rfl (HSub.refl _) rfl (y_pick_f rfl rfl) ?_
      refine H_done (by kernel_rfl) ?_
      refine C_cond_f rfl (C_exit (C_region (LY rfl (y_move rfl) ?_)))
      refine LY rfl (y_add rfl rfl (show _ = ((i + 1 : Nat) : Int) from by rw [wi64 (by omega) (by omega)]; omega)) ?_
      refine LY rfl (y_assign rfl) (L_nil ?_)
      exact ⟨(d2, i + 1), ⟨hs2, by simp only; omega, by simp only; omega, by rw [← hr1, ins_next hc0, hfin]⟩, by simp only; omega, ⟨rfl, rfl, rfl, rfl, trivial⟩, ((hsub (.cons_cons _ (.refl _))).trans (hsub_pick [0] rfl))⟩
  · replace hc0 : ¬ i < b := by have := of_decide_eq_false hc0; omega
    refine C_exit ?_
    refine B_end rv_nil ((hsub (.cons_cons _ (.refl _))).trans (hsub_pick [0] rfl)) ?_
    refine ⟨rfl, ?_⟩
    rw [← hr1, ins_over hc0]
    rfl

end Go.Proofs.Ytighbhplfjjgpaa

/- The rest of slices.Sort, as the code has it: each round of each loop (own work). -/
set_option linter.unusedVariables false
set_option linter.unusedSimpArgs false
namespace Go.Sl
open Go.Sort (swp)
theorem ix0 (x : Nat) : 0 + ((x : Nat) : Int).toNat * 1 = x := by simp
section
variable {hi first root : Nat} {d : Array Nat}
theorem sd_stop (h : hi ≤ 2 * root + 1) : Go.Sort.siftDown ltN hi first root d = d := by rw [Go.Sort.siftDown, dif_pos h]
theorem sd_2 (h : 2 * root + 2 < hi) (hl : ltN d[first + (2 * root + 1)]! d[first + (2 * root + 2)]! = true) (hg : ltN d[first + root]! d[first + (2 * root + 2)]! = true) :
    Go.Sort.siftDown ltN hi first root d = Go.Sort.siftDown ltN hi first (2 * root + 2) (swp d (first + root) (first + (2 * root + 2))) := by
  have hl' : ltN d[first + (2 * root + 1)]! d[first + (2 * root + 1) + 1]! = true := hl
  rw [Go.Sort.siftDown, dif_neg (by omega), if_pos (by rw [hl', decide_eq_true (by omega : 2 * root + 1 + 1 < hi)]; rfl), if_neg (by rw [hg]; decide), dif_pos h]
theorem sd_2s (h : 2 * root + 2 < hi) (hl : ltN d[first + (2 * root + 1)]! d[first + (2 * root + 2)]! = true) (hg : ltN d[first + root]! d[first + (2 * root + 2)]! = false) :
    Go.Sort.siftDown ltN hi first root d = d := by
  have hl' : ltN d[first + (2 * root + 1)]! d[first + (2 * root + 1) + 1]! = true := hl
  rw [Go.Sort.siftDown, dif_neg (by omega), if_pos (by rw [hl', decide_eq_true (by omega : 2 * root + 1 + 1 < hi)]; rfl), if_pos (by rw [hg]; rfl)]
theorem sd_1 (h : 2 * root + 1 < hi) (hn : ¬ 2 * root + 2 < hi ∨ ltN d[first + (2 * root + 1)]! d[first + (2 * root + 2)]! = false) (hg : ltN d[first + root]! d[first + (2 * root + 1)]! = true) :
    Go.Sort.siftDown ltN hi first root d = Go.Sort.siftDown ltN hi first (2 * root + 1) (swp d (first + root) (first + (2 * root + 1))) := by
  have hc : ¬ ((decide (2 * root + 1 + 1 < hi) && ltN d[first + (2 * root + 1)]! d[first + (2 * root + 1) + 1]!) = true) := by
    rcases hn with hn | hn
    · rw [decide_eq_false (by omega : ¬ 2 * root + 1 + 1 < hi)]; simp
    · have hn' : ltN d[first + (2 * root + 1)]! d[first + (2 * root + 1) + 1]! = false := hn
      rw [hn']; simp
  rw [Go.Sort.siftDown, dif_neg (by omega), if_neg hc, if_neg (by rw [hg]; decide)]
theorem sd_1s (h : 2 * root + 1 < hi) (hn : ¬ 2 * root + 2 < hi ∨ ltN d[first + (2 * root + 1)]! d[first + (2 * root + 2)]! = false) (hg : ltN d[first + root]! d[first + (2 * root + 1)]! = false) :
    Go.Sort.siftDown ltN hi first root d = d := by
  have hc : ¬ ((decide (2 * root + 1 + 1 < hi) && ltN d[first + (2 * root + 1)]! d[first + (2 * root + 1) + 1]!) = true) := by
    rcases hn with hn | hn
    · rw [decide_eq_false (by omega : ¬ 2 * root + 1 + 1 < hi)]; simp
    · have hn' : ltN d[first + (2 * root + 1)]! d[first + (2 * root + 1) + 1]! = false := hn
      rw [hn']; simp
  rw [Go.Sort.siftDown, dif_neg (by omega), if_neg hc, if_pos (by rw [hg]; rfl)]
end
theorem sd_size (hi first : Nat) : ∀ (m root : Nat) (d : Array Nat), hi - root ≤ m → (Go.Sort.siftDown ltN hi first root d).size = d.size := by
  intro m
  induction m with
  | zero => intro root d h; rw [sd_stop (by omega)]
  | succ m ih =>
    intro root d h
    rw [Go.Sort.siftDown]
    split
    · rfl
    · split
      · split
        · rfl
        · split
          · rw [ih _ _ (by omega), swp_size]
          · rfl
      · split
        · rfl
        · rw [ih _ _ (by omega), swp_size]
section
variable {a b i j i2 j2 n : Nat} {d d2 : Array Nat} {p : Nat → Bool}
theorem su_go (h : i ≤ j) (hp : p d[i]! = true) : Go.Sort.scanUp p d j i = Go.Sort.scanUp p d j (i + 1) := by rw [Go.Sort.scanUp, if_pos (by rw [hp, decide_eq_true h]; rfl)]
theorem su_stop (h : ¬ i ≤ j ∨ p d[i]! = false) : Go.Sort.scanUp p d j i = i := by
  rw [Go.Sort.scanUp, if_neg]
  rcases h with h | h
  · rw [decide_eq_false h]; simp
  · rw [h]; simp
theorem sn_go (h : i ≤ j) (hi : 1 ≤ i) (hp : p d[j]! = true) : Go.Sort.scanDown p d i j = Go.Sort.scanDown p d i (j - 1) := by
  cases j with
  | zero => omega
  | succ j => rw [Go.Sort.scanDown, if_pos (by rw [hp, decide_eq_true h]; rfl)]; rfl
theorem sn_stop (h : ¬ i ≤ j ∨ p d[j]! = false) : Go.Sort.scanDown p d i j = j := by
  cases j with
  | zero => rfl
  | succ j =>
    rw [Go.Sort.scanDown, if_neg]
    rcases h with h | h
    · rw [decide_eq_false h]; simp
    · rw [h]; simp
abbrev upP (a : Nat) (d : Array Nat) : Nat → Bool := fun x => ltN x d[a]!
abbrev dnP (a : Nat) (d : Array Nat) : Nat → Bool := fun x => !ltN x d[a]!
abbrev upE (a : Nat) (d : Array Nat) : Nat → Bool := fun x => !ltN d[a]! x
abbrev dnE (a : Nat) (d : Array Nat) : Nat → Bool := fun x => ltN d[a]! x
theorem pl_stop (h1 : Go.Sort.scanUp (upP a d) d j i = i2) (h2 : Go.Sort.scanDown (dnP a d) d i2 j = j2) (h : j2 < i2) : Go.Sort.partLoop ltN a i j d = (j2, d) := by
  rw [Go.Sort.partLoop_eq, h1, h2, if_pos h]
theorem pl_go (h1 : Go.Sort.scanUp (upP a d) d j i = i2) (h2 : Go.Sort.scanDown (dnP a d) d i2 j = j2) (h : ¬ j2 < i2) : Go.Sort.partLoop ltN a i j d = Go.Sort.partLoop ltN a (i2 + 1) (j2 - 1) (swp d i2 j2) := by
  rw [Go.Sort.partLoop_eq, h1, h2, if_neg h]
theorem pe_stop (h1 : Go.Sort.scanUp (upE a d) d j i = i2) (h2 : Go.Sort.scanDown (dnE a d) d i2 j = j2) (h : j2 < i2) : Go.Sort.partEqLoop ltN a i j d = (i2, d) := by
  rw [Go.Sort.partEqLoop_eq, h1, h2, if_pos h]
theorem pe_go (h1 : Go.Sort.scanUp (upE a d) d j i = i2) (h2 : Go.Sort.scanDown (dnE a d) d i2 j = j2) (h : ¬ j2 < i2) : Go.Sort.partEqLoop ltN a i j d = Go.Sort.partEqLoop ltN a (i2 + 1) (j2 - 1) (swp d i2 j2) := by
  rw [Go.Sort.partEqLoop_eq, h1, h2, if_neg h]
variable {d1 : Array Nat} {pivot : Nat}
theorem pt_t (hd1 : d1 = swp d a pivot) (h1 : Go.Sort.scanUp (upP a d1) d1 (b - 1) (a + 1) = i) (h2 : Go.Sort.scanDown (dnP a d1) d1 i (b - 1) = j) (h : j < i) : Go.Sort.partition ltN d a b pivot = (j, true, swp d1 j a) := by
  subst hd1
  unfold Go.Sort.partition
  simp only
  rw [h1, h2, if_pos h]
theorem pt_f (hd1 : d1 = swp d a pivot) (h1 : Go.Sort.scanUp (upP a d1) d1 (b - 1) (a + 1) = i) (h2 : Go.Sort.scanDown (dnP a d1) d1 i (b - 1) = j) (h : ¬ j < i) (hl : Go.Sort.partLoop ltN a (i + 1) (j - 1) (swp d1 i j) = (j2, d2)) : Go.Sort.partition ltN d a b pivot = (j2, false, swp d2 j2 a) := by
  subst hd1
  unfold Go.Sort.partition
  simp only
  rw [h1, h2, if_neg h, hl]
theorem pq_eq (hd1 : d1 = swp d a pivot) : Go.Sort.partitionEqual ltN d a b pivot = Go.Sort.partEqLoop ltN a (a + 1) (b - 1) d1 := by
  subst hd1
  rfl
/-! ### partialInsertionSort -/
theorem ss_go (h : i < b) (hp : ltN d[i]! d[i - 1]! = false) : Go.Sort.scanSorted ltN d b i = Go.Sort.scanSorted ltN d b (i + 1) := by rw [Go.Sort.scanSorted, if_pos (by rw [hp, decide_eq_true h]; rfl)]
theorem ss_stop (h : ¬ i < b ∨ ltN d[i]! d[i - 1]! = true) : Go.Sort.scanSorted ltN d b i = i := by
  rw [Go.Sort.scanSorted, if_neg]
  rcases h with h | h
  · rw [decide_eq_false h]; simp
  · rw [h]; simp
theorem sw_stop (h : j = 0 ∨ ltN d[j]! d[j - 1]! = false) : Go.Sort.shiftDown ltN j d = d := by
  cases j with
  | zero => rfl
  | succ j =>
    rcases h with h | h
    · omega
    · simp only [Nat.add_sub_cancel] at h
      rw [Go.Sort.shiftDown, if_pos (by rw [h]; rfl)]
theorem sw_go (h0 : 1 ≤ j) (h : ltN d[j]! d[j - 1]! = true) : Go.Sort.shiftDown ltN j d = Go.Sort.shiftDown ltN (j - 1) (swp d j (j - 1)) := by
  cases j with
  | zero => omega
  | succ j =>
    simp only [Nat.add_sub_cancel] at h
    rw [Go.Sort.shiftDown, if_neg (by rw [h]; decide)]
    rfl
theorem sp_stop (h : ¬ j < b ∨ ltN d[j]! d[j - 1]! = false) : Go.Sort.shiftUp ltN b j d = d := by
  rw [Go.Sort.shiftUp]
  split
  · rename_i hb
    rcases h with h | h
    · exact absurd hb h
    · rw [if_pos (by rw [h]; rfl)]
  · rfl
theorem sp_go (h0 : j < b) (h : ltN d[j]! d[j - 1]! = true) : Go.Sort.shiftUp ltN b j d = Go.Sort.shiftUp ltN b (j + 1) (swp d j (j - 1)) := by
  rw [Go.Sort.shiftUp, if_pos h0, if_neg (by rw [h]; decide)]
theorem pi_true {s : Nat} (h1 : Go.Sort.scanSorted ltN d b i = i2) (h : i2 = b) : Go.Sort.partialIns ltN a b (s + 1) i d = (d, true) := by
  rw [Go.Sort.partialIns]
  simp only
  rw [h1, if_pos h]
theorem pi_short {s : Nat} (h1 : Go.Sort.scanSorted ltN d b i = i2) (h : ¬ i2 = b) (h5 : b - a < 50) : Go.Sort.partialIns ltN a b (s + 1) i d = (d, false) := by
  rw [Go.Sort.partialIns]
  simp only
  rw [h1, if_neg h, if_pos h5]
theorem pi_go {s : Nat} {da db dc : Array Nat} (h1 : Go.Sort.scanSorted ltN d b i = i2) (h : ¬ i2 = b) (h5 : ¬ b - a < 50) (ha : da = swp d i2 (i2 - 1)) (hb : db = if 2 ≤ i2 - a then Go.Sort.shiftDown ltN (i2 - 1) da else da) (hc : dc = if 2 ≤ b - i2 then Go.Sort.shiftUp ltN b (i2 + 1) db else db) :
    Go.Sort.partialIns ltN a b (s + 1) i d = Go.Sort.partialIns ltN a b s i2 dc := by
  subst ha; subst hb; subst hc
  rw [Go.Sort.partialIns]
  simp only
  rw [h1, if_neg h, if_neg h5]
end
/-! ### bits, patterns -/
theorem rev_go {i j : Nat} {d : Array Nat} (h : i < j) : Go.Sort.reverseLoop i j d = Go.Sort.reverseLoop (i + 1) (j - 1) (swp d i j) := by rw [Go.Sort.reverseLoop, if_pos h]
theorem rev_stop {i j : Nat} {d : Array Nat} (h : ¬ i < j) : Go.Sort.reverseLoop i j d = d := by rw [Go.Sort.reverseLoop, if_neg h]
theorem xor_u64 {x y : Nat} (hx : x < 18446744073709551616) (hy : y < 18446744073709551616) : (x ^^^ y) < 18446744073709551616 := by
  have p : (18446744073709551616 : Nat) = 2 ^ 64 := by decide
  rw [p] at hx hy ⊢
  exact Nat.xor_lt_two_pow hx hy
theorem shl_u64 {x k : Nat} : IntKind.u64.wrap ((x : Int) * 2 ^ k) = ((x * 2 ^ k % 18446744073709551616 : Nat) : Int) := by
  simp only [IntKind.wrap, IntKind.bits, IntKind.signed]
  simp
theorem pow_bits {x : Nat} (h0 : 0 < x) (h : x < 65536) : 1 ≤ 2 ^ Go.Sort.bitsLen x ∧ 2 ^ Go.Sort.bitsLen x ≤ 2 * x ∧ Go.Sort.bitsLen x ≤ 17 := by
  refine ⟨Nat.one_le_two_pow, Go.Sort.two_pow_bitsLen_le h0, ?_⟩
  exact (Go.Sort.bitsLen_le_iff x 17).2 (by omega)
theorem bits_le {x : Nat} (h : x < 65536) : Go.Sort.bitsLen x ≤ 16 := (Go.Sort.bitsLen_le_iff x 16).2 (by omega)
/-- What is asked of what comes back: the part sorted, all else as it was. -/
abbrev Srt (a b : Nat) (d d' : Array Nat) : Prop := Go.Sort.PermIn a b d d' ∧ Go.Sort.SortedIn ltN a b d'
end Go.Sl

