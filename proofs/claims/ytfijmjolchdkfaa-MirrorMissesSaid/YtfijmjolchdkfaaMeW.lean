/- walks (own work; the walks' lines by a program of this repo). -/
import Derived.Test.YtfijmjolchdkfaaMrW
set_option linter.unusedVariables false
set_option linter.unusedSimpArgs false
set_option maxRecDepth 20000
namespace Go.Proofs.Ytfijmjolchdkfaa
open Go.Sl
attribute [local irreducible] BodyQ WpC WpL WpS WpH OpW FnS


theorem mread_no {w0 : World} {H : Hp} {D : Duo} {A : Da} {bp : Nat} {m : Mi} (h : Two dt D A m.bx m.bys bp) {p : Int → Sec → Bool} (hG : GoodAt Try.prog w0 H m.gv p) (n : Int) (hn : m.has n = false) : FnS Try.prog w0 22 #[ptr m.b, .int .i64 n] (m.seg 104 :: D.seg dt :: H) (fun e H' => e = .returned (.tuple #[.agg (bs (mrS m A p n)).toArray, .int .i64 (mrE m A p n)]) ∧ H' = m.seg 104 :: D.seg dt :: H) := by
  refine FnS_intro (n := 63) (rs := [.cell 4 32, .tmp 5]) (vs := [ptr m.b, .int .i64 n]) Try.func22 rfl Try.ntmps22 rfl rfl ?_
  refine C_seq ?_
  refine C_region ?_
  refine L_op rfl (op_alloc zl_32 rfl (fun B1 => ?_))
  refine L_y rfl (y_assign rfl) rfl ?_
  refine L_nil ?_
  refine C_seq ?_
  refine C_seq ?_
  refine C_region ?_
  refine L_y rfl (y_move rfl) rfl ?_
  refine L_y rfl (y_move rfl) rfl ?_
  refine L_op rfl (op_call rfl rfl (fun a w => Try.call55 a w) rfl ?_)
  refine (has_m _ (sees 1 0 rfl)).mono ?_
  rintro _ _ ⟨rfl, rfl⟩
  rw [hn]
  refine ⟨_, rfl, ?_⟩
  refine L_y rfl (y_not rfl) rfl ?_
  refine L_nil ?_
  refine C_cond_t rfl ?_
  refine C_seq ?_
  refine C_region ?_
  refine L_y rfl (y_buildA0 Try.underlying32 sz_5 zl_32) rfl ?_
  refine L_op rfl (op_storeA 0 0 rfl rfl rfl sz_32 (by rw [zsec, bs_length, secOf_len]) rfl (by rw [zsec]; exact bs_one _) (by simp) ?_)
  rw [zsec]
  refine L_y rfl (y_assign rfl) rfl ?_
  refine L_nil ?_
  refine C_ret ?_
  refine B_ret (rv_cellA rfl ag_32 sz_32 (sees 0 0 rfl) (by first | (rw [bs_length, rS_len _ h.oks]; decide) | (rw [bs_length, secOf_len]; decide)) (by first | exact bs_whole0 _ (rS_len _ h.oks) | exact bs_whole0 _ (secOf_len 0)) (rv_tmp rfl rv_nil)) ((hsub (.cons_cons _ (.cons_cons _ (.cons _ (.refl _))))).trans (hsub_pick [1, 1] rfl)) ?_
  exact ⟨by simp_all [mrE, mrS, okAt] <;> rfl, rfl⟩

theorem mread_tt {w0 : World} {H : Hp} {D : Duo} {A : Da} {bp : Nat} {m : Mi} (h : Two dt D A m.bx m.bys bp) {p : Int → Sec → Bool} (hG : GoodAt Try.prog w0 H m.gv p) (n : Int) (hn : m.has n = true) (hp : thr A false = true) (hq : thr A true = true) : FnS Try.prog w0 22 #[ptr m.b, .int .i64 n] (m.seg 104 :: D.seg dt :: H) (fun e H' => e = .returned (.tuple #[.agg (bs (mrS m A p n)).toArray, .int .i64 (mrE m A p n)]) ∧ H' = m.seg 104 :: D.seg dt :: H) := by
  refine FnS_intro (n := 63) (rs := [.cell 4 32, .tmp 5]) (vs := [ptr m.b, .int .i64 n]) Try.func22 rfl Try.ntmps22 rfl rfl ?_
  refine C_seq ?_
  refine C_region ?_
  refine L_op rfl (op_alloc zl_32 rfl (fun B1 => ?_))
  refine L_y rfl (y_assign rfl) rfl ?_
  refine L_nil ?_
  refine C_seq ?_
  refine C_seq ?_
  refine C_region ?_
  refine L_y rfl (y_move rfl) rfl ?_
  refine L_y rfl (y_move rfl) rfl ?_
  refine L_op rfl (op_call rfl rfl (fun a w => Try.call55 a w) rfl ?_)
  refine (has_m _ (sees 1 0 rfl)).mono ?_
  rintro _ _ ⟨rfl, rfl⟩
  rw [hn]
  refine ⟨_, rfl, ?_⟩
  refine L_y rfl (y_not rfl) rfl ?_
  refine L_nil ?_
  refine C_cond_f rfl ?_
  refine C_skip ?_
  refine C_seq ?_
  refine C_region ?_
  refine L_y rfl (y_move rfl) rfl ?_
  refine L_op rfl (op_call rfl rfl (fun a w => Try.call56 a w) rfl ?_)
  refine ((present_tt h hp hq).sub (hsub_pick [1, 1] rfl)).mono ?_
  rintro _ _ ⟨g1, hg1, rfl, rfl⟩
  cases g1 with
  | none => exact slOk_none hg1 (by decide)
  | some g1 => ?_
  refine ⟨_, rfl, ?_⟩
  refine L_y rfl (y_assign rfl) rfl ?_
  refine L_nil ?_
  refine C_seq ?_
  refine C_seq ?_
  refine C_region ?_
  refine L_y rfl (y_move rfl) rfl ?_
  refine L_y rfl (y_lenS rfl rfl Try.underlying112) rfl ?_
  refine L_y rfl (y_eqi rfl rfl) rfl ?_
  refine L_nil ?_
  refine C_cond_f rfl ?_
  refine C_skip ?_
  refine C_seq ?_
  refine C_seq ?_
  refine C_region ?_
  refine L_y rfl (y_move rfl) rfl ?_
  refine L_y rfl (y_lenS rfl rfl Try.underlying112) rfl ?_
  refine L_y rfl (y_move rfl) rfl ?_
  refine L_nil ?_
  refine C_block ?_
  refine C_loopIn (In_round ?_)
  refine C_seq ?_
  refine C_region ?_
  refine L_y rfl (y_lss rfl rfl) rfl ?_
  refine L_nil ?_
  refine C_seq ?_
  refine C_cond_t rfl ?_
  refine C_skip ?_
  refine C_seq ?_
  refine C_block ?_
  refine C_seq ?_
  refine C_region ?_
  refine L_y rfl (y_indexS rfl rfl Try.underlying112 sz_3 (by omega) (by omega) (show _ = 0 from rfl)) rfl ?_
  refine L_y rfl (y_load rfl ag_3 (sees 0 0 rfl) rfl) rfl ?_
  refine L_y rfl (y_assign rfl) rfl ?_
  refine L_nil ?_
  refine C_seq ?_
  refine C_region ?_
  refine L_y rfl (y_move rfl) rfl ?_
  refine L_y rfl (y_move rfl) rfl ?_
  refine L_y rfl (y_nilCheck rfl) rfl ?_
  refine L_y rfl (y_fieldAddr rfl fl_104_0) rfl ?_
  refine L_y rfl (y_indexA rfl rfl Try.underlying102 sz_101 (by omega) (by omega) (show _ = 0 from rfl)) rfl ?_
  refine L_y rfl (y_fieldAddr rfl fl_101_0) rfl ?_
  refine L_y rfl (y_load rfl ag_24 (sees 1 0 rfl) rfl) rfl ?_
  refine L_y rfl (y_move rfl) rfl ?_
  refine L_op rfl (op_call rfl rfl (fun a w => Try.call57 a w) rfl ?_)
  refine ((read_d h false (n)).sub (hsub_pick [2] rfl)).mono ?_
  rintro _ _ ⟨rfl, rfl⟩
  refine ⟨_, rfl, ?_⟩
  refine L_y rfl (y_move rfl) rfl ?_
  refine L_y rfl (y_extract rfl rfl) rfl ?_
  refine L_y rfl (y_extract rfl rfl) rfl ?_
  refine L_op rfl (op_alloc zl_32 rfl (fun B2 => ?_))
  refine L_op rfl (op_storeA 0 0 rfl rfl rfl sz_32 (by rw [bs_length, (rS_len false h.oks)]) rfl (bs_one _) (by simp) ?_)
  refine L_y rfl (y_assign rfl) rfl ?_
  refine L_nil ?_
  refine C_seq ?_
  refine C_region ?_
  refine L_y rfl (y_move rfl) rfl ?_
  refine L_y rfl (y_eqi rfl rfl) rfl ?_
  refine L_y rfl (y_move rfl) rfl ?_
  refine L_case 42 rfl (fun hg10_3 => ?_) (fun hg10_3 => ?_)
  · skip
    refine L_y rfl (y_move rfl) rfl ?_
    refine L_y rfl (y_move rfl) rfl ?_
    refine L_y rfl (y_nilCheck rfl) rfl ?_
    refine L_y rfl (y_fieldAddr rfl fl_104_0) rfl ?_
    refine L_y rfl (y_indexA rfl rfl Try.underlying102 sz_101 (by omega) (by omega) (show _ = 0 from rfl)) rfl ?_
    refine L_y rfl (y_fieldAddr rfl fl_101_1) rfl ?_
    refine L_y rfl (y_load rfl ag_99 (sees 3 0 rfl) rfl) rfl ?_
    refine L_y rfl (y_move rfl) rfl ?_
    refine L_y rfl (y_lookup rfl rfl Try.underlying99 Try.underlying3 zt_4 (sees 3 1 rfl)) rfl ?_
    refine L_y rfl (y_not rfl) rfl ?_
    refine L_y rfl (y_pick_t rfl rfl) rfl ?_
    refine L_y rfl (y_move rfl) rfl ?_
    refine L_case 54 rfl (fun hg10_15 => ?_) (fun hg10_15 => ?_)
    · skip
      refine L_y rfl (y_move rfl) rfl ?_
      refine L_y rfl (y_move rfl) rfl ?_
      refine L_y rfl (y_loadA rfl ag_32 sz_32 (sees 0 0 rfl) (by rw [bs_length, rS_len _ h.oks]; decide) (bs_whole0 _ (rS_len _ h.oks))) rfl ?_
      refine L_op rfl (op_call rfl rfl (fun a w => Try.call58 a w) rfl ?_)
      refine FnS.mono (right_m (sees 3 0 rfl) (hG.sub (hsub (.cons _ (.cons _ (.cons _ (.cons _ (.cons _ (.refl _)))))))) n _ (rS_len _ h.oks)) ?_
      rintro _ _ ⟨rfl, e⟩
      obtain rfl := e.symm
      refine ⟨_, rfl, ?_⟩
      refine L_y rfl (y_pick_t rfl rfl) rfl ?_
      refine L_nil ?_
      refine C_cond rfl (fun hc3 => ?_) (fun hc3 => ?_)
      · skip
        refine C_seq ?_
        refine C_region ?_
        refine L_y rfl (y_loadA rfl ag_32 sz_32 (sees 0 0 rfl) (by rw [bs_length, rS_len _ h.oks]; decide) (bs_whole0 _ (rS_len _ h.oks))) rfl ?_
        refine L_op rfl (op_storeA 4 0 rfl rfl rfl sz_32 (by rw [bs_length, rS_len _ h.oks]) rfl (bs_one _) (by simp) ?_)
        refine L_y rfl (y_assign rfl) rfl ?_
        refine L_nil ?_
        refine C_ret ?_
        refine B_ret (rv_cellA rfl ag_32 sz_32 (sees 4 0 rfl) (by first | (rw [bs_length, rS_len _ h.oks]; decide) | (rw [bs_length, secOf_len]; decide)) (by first | exact bs_whole0 _ (rS_len _ h.oks) | exact bs_whole0 _ (secOf_len 0)) (rv_tmp rfl rv_nil)) ((hsub (.cons_cons _ (.cons_cons _ (.cons _ (.cons _ (.cons _ (.refl _))))))).trans (hsub_pick [3, 1] rfl)) ?_
        exact ⟨by simp_all [mrE, mrS, okAt] <;> rfl, rfl⟩
      · skip
        refine C_skip ?_
        refine C_region ?_
        refine L_y rfl (y_add rfl rfl (show _ = (1 : Int) from rfl)) rfl ?_
        refine L_y rfl (y_move rfl) rfl ?_
        refine L_nil ?_
        refine In_round ?_
        refine C_seq ?_
        refine C_region ?_
        refine L_y rfl (y_lss rfl rfl) rfl ?_
        refine L_nil ?_
        refine C_seq ?_
        refine C_cond_t rfl ?_
        refine C_skip ?_
        refine C_seq ?_
        refine C_block ?_
        refine C_seq ?_
        refine C_region ?_
        refine L_y rfl (y_indexS rfl rfl Try.underlying112 sz_3 (by omega) (by omega) (show _ = 1 from rfl)) rfl ?_
        refine L_y rfl (y_load rfl ag_3 (sees 2 0 rfl) rfl) rfl ?_
        refine L_y rfl (y_assign rfl) rfl ?_
        refine L_nil ?_
        refine C_seq ?_
        refine C_region ?_
        refine L_y rfl (y_move rfl) rfl ?_
        refine L_y rfl (y_move rfl) rfl ?_
        refine L_y rfl (y_nilCheck rfl) rfl ?_
        refine L_y rfl (y_fieldAddr rfl fl_104_0) rfl ?_
        refine L_y rfl (y_indexA rfl rfl Try.underlying102 sz_101 (by omega) (by omega) (show _ = 2 from rfl)) rfl ?_
        refine L_y rfl (y_fieldAddr rfl fl_101_0) rfl ?_
        refine L_y rfl (y_load rfl ag_24 (sees 3 0 rfl) rfl) rfl ?_
        refine L_y rfl (y_move rfl) rfl ?_
        refine L_op rfl (op_call rfl rfl (fun a w => Try.call57 a w) rfl ?_)
        refine ((read_d h true (n)).sub (hsub_pick [1] rfl)).mono ?_
        rintro _ _ ⟨rfl, rfl⟩
        refine ⟨_, rfl, ?_⟩
        refine L_y rfl (y_move rfl) rfl ?_
        refine L_y rfl (y_extract rfl rfl) rfl ?_
        refine L_y rfl (y_extract rfl rfl) rfl ?_
        refine L_op rfl (op_alloc zl_32 rfl (fun B3 => ?_))
        refine L_op rfl (op_storeA 0 0 rfl rfl rfl sz_32 (by rw [bs_length, (rS_len true h.oks)]) rfl (bs_one _) (by simp) ?_)
        refine L_y rfl (y_assign rfl) rfl ?_
        refine L_nil ?_
        refine C_seq ?_
        refine C_region ?_
        refine L_y rfl (y_move rfl) rfl ?_
        refine L_y rfl (y_eqi rfl rfl) rfl ?_
        refine L_y rfl (y_move rfl) rfl ?_
        refine L_case 42 rfl (fun hg10_3 => ?_) (fun hg10_3 => ?_)
        · skip
          refine L_y rfl (y_move rfl) rfl ?_
          refine L_y rfl (y_move rfl) rfl ?_
          refine L_y rfl (y_nilCheck rfl) rfl ?_
          refine L_y rfl (y_fieldAddr rfl fl_104_0) rfl ?_
          refine L_y rfl (y_indexA rfl rfl Try.underlying102 sz_101 (by omega) (by omega) (show _ = 2 from rfl)) rfl ?_
          refine L_y rfl (y_fieldAddr rfl fl_101_1) rfl ?_
          refine L_y rfl (y_load rfl ag_99 (sees 4 0 rfl) rfl) rfl ?_
          refine L_y rfl (y_move rfl) rfl ?_
          refine L_y rfl (y_lookup rfl rfl Try.underlying99 Try.underlying3 zt_4 (sees 4 2 rfl)) rfl ?_
          refine L_y rfl (y_not rfl) rfl ?_
          refine L_y rfl (y_pick_t rfl rfl) rfl ?_
          refine L_y rfl (y_move rfl) rfl ?_
          refine L_case 54 rfl (fun hg10_15 => ?_) (fun hg10_15 => ?_)
          · skip
            refine L_y rfl (y_move rfl) rfl ?_
            refine L_y rfl (y_move rfl) rfl ?_
            refine L_y rfl (y_loadA rfl ag_32 sz_32 (sees 0 0 rfl) (by rw [bs_length, rS_len _ h.oks]; decide) (bs_whole0 _ (rS_len _ h.oks))) rfl ?_
            refine L_op rfl (op_call rfl rfl (fun a w => Try.call58 a w) rfl ?_)
            refine FnS.mono (right_m (sees 4 0 rfl) (hG.sub (hsub (.cons _ (.cons _ (.cons _ (.cons _ (.cons _ (.cons _ (.refl _))))))))) n _ (rS_len _ h.oks)) ?_
            rintro _ _ ⟨rfl, e⟩
            obtain rfl := e.symm
            refine ⟨_, rfl, ?_⟩
            refine L_y rfl (y_pick_t rfl rfl) rfl ?_
            refine L_nil ?_
            refine C_cond rfl (fun hc3 => ?_) (fun hc3 => ?_)
            · skip
              refine C_seq ?_
              refine C_region ?_
              refine L_y rfl (y_loadA rfl ag_32 sz_32 (sees 0 0 rfl) (by rw [bs_length, rS_len _ h.oks]; decide) (bs_whole0 _ (rS_len _ h.oks))) rfl ?_
              refine L_op rfl (op_storeA 5 0 rfl rfl rfl sz_32 (by rw [bs_length, rS_len _ h.oks]) rfl (bs_one _) (by simp) ?_)
              refine L_y rfl (y_assign rfl) rfl ?_
              refine L_nil ?_
              refine C_ret ?_
              refine B_ret (rv_cellA rfl ag_32 sz_32 (sees 5 0 rfl) (by first | (rw [bs_length, rS_len _ h.oks]; decide) | (rw [bs_length, secOf_len]; decide)) (by first | exact bs_whole0 _ (rS_len _ h.oks) | exact bs_whole0 _ (secOf_len 0)) (rv_tmp rfl rv_nil)) ((hsub (.cons_cons _ (.cons_cons _ (.cons _ (.cons _ (.cons _ (.cons _ (.refl _)))))))).trans (hsub_pick [4, 1] rfl)) ?_
              exact ⟨by simp_all [mrE, mrS, okAt] <;> rfl, rfl⟩
            · skip
              refine C_skip ?_
              refine C_region ?_
              refine L_y rfl (y_add rfl rfl (show _ = (2 : Int) from rfl)) rfl ?_
              refine L_y rfl (y_move rfl) rfl ?_
              refine L_nil ?_
              refine In_round ?_
              refine C_seq ?_
              refine C_region ?_
              refine L_y rfl (y_lss rfl rfl) rfl ?_
              refine L_nil ?_
              refine C_seq ?_
              refine C_cond_f rfl ?_
              refine C_exit ?_
              refine C_seq ?_
              refine C_region ?_
              refine L_y rfl (y_buildA0 Try.underlying32 sz_5 zl_32) rfl ?_
              refine L_op rfl (op_storeA 5 0 rfl rfl rfl sz_32 (by rw [zsec, bs_length, secOf_len]) rfl (by rw [zsec]; exact bs_one _) (by simp) ?_)
              rw [zsec]
              refine L_y rfl (y_assign rfl) rfl ?_
              refine L_nil ?_
              refine C_ret ?_
              refine B_ret (rv_cellA rfl ag_32 sz_32 (sees 5 0 rfl) (by first | (rw [bs_length, rS_len _ h.oks]; decide) | (rw [bs_length, secOf_len]; decide)) (by first | exact bs_whole0 _ (rS_len _ h.oks) | exact bs_whole0 _ (secOf_len 0)) (rv_tmp rfl rv_nil)) ((hsub (.cons_cons _ (.cons_cons _ (.cons _ (.cons _ (.cons _ (.cons _ (.refl _)))))))).trans (hsub_pick [4, 1] rfl)) ?_
              exact ⟨by simp_all [mrE, mrS, okAt] <;> rfl, rfl⟩
          · skip
            refine L_skip rfl rfl ?_
            refine L_skip rfl rfl ?_
            refine L_skip rfl rfl ?_
            refine L_skip rfl rfl ?_
            refine L_y rfl (y_pick_f rfl rfl) rfl ?_
            refine L_nil ?_
            refine C_cond_f rfl ?_
            refine C_skip ?_
            refine C_region ?_
            refine L_y rfl (y_add rfl rfl (show _ = (2 : Int) from rfl)) rfl ?_
            refine L_y rfl (y_move rfl) rfl ?_
            refine L_nil ?_
            refine In_round ?_
            refine C_seq ?_
            refine C_region ?_
            refine L_y rfl (y_lss rfl rfl) rfl ?_
            refine L_nil ?_
            refine C_seq ?_
            refine C_cond_f rfl ?_
            refine C_exit ?_
            refine C_seq ?_
            refine C_region ?_
            refine L_y rfl (y_buildA0 Try.underlying32 sz_5 zl_32) rfl ?_
            refine L_op rfl (op_storeA 5 0 rfl rfl rfl sz_32 (by rw [zsec, bs_length, secOf_len]) rfl (by rw [zsec]; exact bs_one _) (by simp) ?_)
            rw [zsec]
            refine L_y rfl (y_assign rfl) rfl ?_
            refine L_nil ?_
            refine C_ret ?_
            refine B_ret (rv_cellA rfl ag_32 sz_32 (sees 5 0 rfl) (by first | (rw [bs_length, rS_len _ h.oks]; decide) | (rw [bs_length, secOf_len]; decide)) (by first | exact bs_whole0 _ (rS_len _ h.oks) | exact bs_whole0 _ (secOf_len 0)) (rv_tmp rfl rv_nil)) ((hsub (.cons_cons _ (.cons_cons _ (.cons _ (.cons _ (.cons _ (.cons _ (.refl _)))))))).trans (hsub_pick [4, 1] rfl)) ?_
            exact ⟨by simp_all [mrE, mrS, okAt] <;> rfl, rfl⟩
        · skip
          refine L_skip rfl rfl ?_
          refine L_skip rfl rfl ?_
          refine L_skip rfl rfl ?_
          refine L_skip rfl rfl ?_
          refine L_skip rfl rfl ?_
          refine L_skip rfl rfl ?_
          refine L_skip rfl rfl ?_
          refine L_skip rfl rfl ?_
          refine L_skip rfl rfl ?_
          refine L_skip rfl rfl ?_
          refine L_y rfl (y_pick_f rfl rfl) rfl ?_
          refine L_y rfl (y_move rfl) rfl ?_
          refine L_skip rfl rfl ?_
          refine L_skip rfl rfl ?_
          refine L_skip rfl rfl ?_
          refine L_skip rfl rfl ?_
          refine L_y rfl (y_pick_f rfl rfl) rfl ?_
          refine L_nil ?_
          refine C_cond_f rfl ?_
          refine C_skip ?_
          refine C_region ?_
          refine L_y rfl (y_add rfl rfl (show _ = (2 : Int) from rfl)) rfl ?_
          refine L_y rfl (y_move rfl) rfl ?_
          refine L_nil ?_
          refine In_round ?_
          refine C_seq ?_
          refine C_region ?_
          refine L_y rfl (y_lss rfl rfl) rfl ?_
          refine L_nil ?_
          refine C_seq ?_
          refine C_cond_f rfl ?_
          refine C_exit ?_
          refine C_seq ?_
          refine C_region ?_
          refine L_y rfl (y_buildA0 Try.underlying32 sz_5 zl_32) rfl ?_
          refine L_op rfl (op_storeA 5 0 rfl rfl rfl sz_32 (by rw [zsec, bs_length, secOf_len]) rfl (by rw [zsec]; exact bs_one _) (by simp) ?_)
          rw [zsec]
          refine L_y rfl (y_assign rfl) rfl ?_
          refine L_nil ?_
          refine C_ret ?_
          refine B_ret (rv_cellA rfl ag_32 sz_32 (sees 5 0 rfl) (by first | (rw [bs_length, rS_len _ h.oks]; decide) | (rw [bs_length, secOf_len]; decide)) (by first | exact bs_whole0 _ (rS_len _ h.oks) | exact bs_whole0 _ (secOf_len 0)) (rv_tmp rfl rv_nil)) ((hsub (.cons_cons _ (.cons_cons _ (.cons _ (.cons _ (.cons _ (.cons _ (.refl _)))))))).trans (hsub_pick [4, 1] rfl)) ?_
          exact ⟨by simp_all [mrE, mrS, okAt] <;> rfl, rfl⟩
    · skip
      refine L_skip rfl rfl ?_
      refine L_skip rfl rfl ?_
      refine L_skip rfl rfl ?_
      refine L_skip rfl rfl ?_
      refine L_y rfl (y_pick_f rfl rfl) rfl ?_
      refine L_nil ?_
      refine C_cond_f rfl ?_
      refine C_skip ?_
      refine C_region ?_
      refine L_y rfl (y_add rfl rfl (show _ = (1 : Int) from rfl)) rfl ?_
      refine L_y rfl (y_move rfl) rfl ?_
      refine L_nil ?_
      refine In_round ?_
      refine C_seq ?_
      refine C_region ?_
      refine L_y rfl (y_lss rfl rfl) rfl ?_
      refine L_nil ?_
      refine C_seq ?_
      refine C_cond_t rfl ?_
      refine C_skip ?_
      refine C_seq ?_
      refine C_block ?_
      refine C_seq ?_
      refine C_region ?_
      refine L_y rfl (y_indexS rfl rfl Try.underlying112 sz_3 (by omega) (by omega) (show _ = 1 from rfl)) rfl ?_
      refine L_y rfl (y_load rfl ag_3 (sees 2 0 rfl) rfl) rfl ?_
      refine L_y rfl (y_assign rfl) rfl ?_
      refine L_nil ?_
      refine C_seq ?_
      refine C_region ?_
      refine L_y rfl (y_move rfl) rfl ?_
      refine L_y rfl (y_move rfl) rfl ?_
      refine L_y rfl (y_nilCheck rfl) rfl ?_
      refine L_y rfl (y_fieldAddr rfl fl_104_0) rfl ?_
      refine L_y rfl (y_indexA rfl rfl Try.underlying102 sz_101 (by omega) (by omega) (show _ = 2 from rfl)) rfl ?_
      refine L_y rfl (y_fieldAddr rfl fl_101_0) rfl ?_
      refine L_y rfl (y_load rfl ag_24 (sees 3 0 rfl) rfl) rfl ?_
      refine L_y rfl (y_move rfl) rfl ?_
      refine L_op rfl (op_call rfl rfl (fun a w => Try.call57 a w) rfl ?_)
      refine ((read_d h true (n)).sub (hsub_pick [1] rfl)).mono ?_
      rintro _ _ ⟨rfl, rfl⟩
      refine ⟨_, rfl, ?_⟩
      refine L_y rfl (y_move rfl) rfl ?_
      refine L_y rfl (y_extract rfl rfl) rfl ?_
      refine L_y rfl (y_extract rfl rfl) rfl ?_
      refine L_op rfl (op_alloc zl_32 rfl (fun B4 => ?_))
      refine L_op rfl (op_storeA 0 0 rfl rfl rfl sz_32 (by rw [bs_length, (rS_len true h.oks)]) rfl (bs_one _) (by simp) ?_)
      refine L_y rfl (y_assign rfl) rfl ?_
      refine L_nil ?_
      refine C_seq ?_
      refine C_region ?_
      refine L_y rfl (y_move rfl) rfl ?_
      refine L_y rfl (y_eqi rfl rfl) rfl ?_
      refine L_y rfl (y_move rfl) rfl ?_
      refine L_case 42 rfl (fun hg10_3 => ?_) (fun hg10_3 => ?_)
      · skip
        refine L_y rfl (y_move rfl) rfl ?_
        refine L_y rfl (y_move rfl) rfl ?_
        refine L_y rfl (y_nilCheck rfl) rfl ?_
        refine L_y rfl (y_fieldAddr rfl fl_104_0) rfl ?_
        refine L_y rfl (y_indexA rfl rfl Try.underlying102 sz_101 (by omega) (by omega) (show _ = 2 from rfl)) rfl ?_
        refine L_y rfl (y_fieldAddr rfl fl_101_1) rfl ?_
        refine L_y rfl (y_load rfl ag_99 (sees 4 0 rfl) rfl) rfl ?_
        refine L_y rfl (y_move rfl) rfl ?_
        refine L_y rfl (y_lookup rfl rfl Try.underlying99 Try.underlying3 zt_4 (sees 4 2 rfl)) rfl ?_
        refine L_y rfl (y_not rfl) rfl ?_
        refine L_y rfl (y_pick_t rfl rfl) rfl ?_
        refine L_y rfl (y_move rfl) rfl ?_
        refine L_case 54 rfl (fun hg10_15 => ?_) (fun hg10_15 => ?_)
        · skip
          refine L_y rfl (y_move rfl) rfl ?_
          refine L_y rfl (y_move rfl) rfl ?_
          refine L_y rfl (y_loadA rfl ag_32 sz_32 (sees 0 0 rfl) (by rw [bs_length, rS_len _ h.oks]; decide) (bs_whole0 _ (rS_len _ h.oks))) rfl ?_
          refine L_op rfl (op_call rfl rfl (fun a w => Try.call58 a w) rfl ?_)
          refine FnS.mono (right_m (sees 4 0 rfl) (hG.sub (hsub (.cons _ (.cons _ (.cons _ (.cons _ (.cons _ (.cons _ (.refl _))))))))) n _ (rS_len _ h.oks)) ?_
          rintro _ _ ⟨rfl, e⟩
          obtain rfl := e.symm
          refine ⟨_, rfl, ?_⟩
          refine L_y rfl (y_pick_t rfl rfl) rfl ?_
          refine L_nil ?_
          refine C_cond rfl (fun hc3 => ?_) (fun hc3 => ?_)
          · skip
            refine C_seq ?_
            refine C_region ?_
            refine L_y rfl (y_loadA rfl ag_32 sz_32 (sees 0 0 rfl) (by rw [bs_length, rS_len _ h.oks]; decide) (bs_whole0 _ (rS_len _ h.oks))) rfl ?_
            refine L_op rfl (op_storeA 5 0 rfl rfl rfl sz_32 (by rw [bs_length, rS_len _ h.oks]) rfl (bs_one _) (by simp) ?_)
            refine L_y rfl (y_assign rfl) rfl ?_
            refine L_nil ?_
            refine C_ret ?_
            refine B_ret (rv_cellA rfl ag_32 sz_32 (sees 5 0 rfl) (by first | (rw [bs_length, rS_len _ h.oks]; decide) | (rw [bs_length, secOf_len]; decide)) (by first | exact bs_whole0 _ (rS_len _ h.oks) | exact bs_whole0 _ (secOf_len 0)) (rv_tmp rfl rv_nil)) ((hsub (.cons_cons _ (.cons_cons _ (.cons _ (.cons _ (.cons _ (.cons _ (.refl _)))))))).trans (hsub_pick [4, 1] rfl)) ?_
            exact ⟨by simp_all [mrE, mrS, okAt] <;> rfl, rfl⟩
          · skip
            refine C_skip ?_
            refine C_region ?_
            refine L_y rfl (y_add rfl rfl (show _ = (2 : Int) from rfl)) rfl ?_
            refine L_y rfl (y_move rfl) rfl ?_
            refine L_nil ?_
            refine In_round ?_
            refine C_seq ?_
            refine C_region ?_
            refine L_y rfl (y_lss rfl rfl) rfl ?_
            refine L_nil ?_
            refine C_seq ?_
            refine C_cond_f rfl ?_
            refine C_exit ?_
            refine C_seq ?_
            refine C_region ?_
            refine L_y rfl (y_buildA0 Try.underlying32 sz_5 zl_32) rfl ?_
            refine L_op rfl (op_storeA 5 0 rfl rfl rfl sz_32 (by rw [zsec, bs_length, secOf_len]) rfl (by rw [zsec]; exact bs_one _) (by simp) ?_)
            rw [zsec]
            refine L_y rfl (y_assign rfl) rfl ?_
            refine L_nil ?_
            refine C_ret ?_
            refine B_ret (rv_cellA rfl ag_32 sz_32 (sees 5 0 rfl) (by first | (rw [bs_length, rS_len _ h.oks]; decide) | (rw [bs_length, secOf_len]; decide)) (by first | exact bs_whole0 _ (rS_len _ h.oks) | exact bs_whole0 _ (secOf_len 0)) (rv_tmp rfl rv_nil)) ((hsub (.cons_cons _ (.cons_cons _ (.cons _ (.cons _ (.cons _ (.cons _ (.refl _)))))))).trans (hsub_pick [4, 1] rfl)) ?_
            exact ⟨by simp_all [mrE, mrS, okAt] <;> rfl, rfl⟩
        · skip
          refine L_skip rfl rfl ?_
          refine L_skip rfl rfl ?_
          refine L_skip rfl rfl ?_
          refine L_skip rfl rfl ?_
          refine L_y rfl (y_pick_f rfl rfl) rfl ?_
          refine L_nil ?_
          refine C_cond_f rfl ?_
          refine C_skip ?_
          refine C_region ?_
          refine L_y rfl (y_add rfl rfl (show _ = (2 : Int) from rfl)) rfl ?_
          refine L_y rfl (y_move rfl) rfl ?_
          refine L_nil ?_
          refine In_round ?_
          refine C_seq ?_
          refine C_region ?_
          refine L_y rfl (y_lss rfl rfl) rfl ?_
          refine L_nil ?_
          refine C_seq ?_
          refine C_cond_f rfl ?_
          refine C_exit ?_
          refine C_seq ?_
          refine C_region ?_
          refine L_y rfl (y_buildA0 Try.underlying32 sz_5 zl_32) rfl ?_
          refine L_op rfl (op_storeA 5 0 rfl rfl rfl sz_32 (by rw [zsec, bs_length, secOf_len]) rfl (by rw [zsec]; exact bs_one _) (by simp) ?_)
          rw [zsec]
          refine L_y rfl (y_assign rfl) rfl ?_
          refine L_nil ?_
          refine C_ret ?_
          refine B_ret (rv_cellA rfl ag_32 sz_32 (sees 5 0 rfl) (by first | (rw [bs_length, rS_len _ h.oks]; decide) | (rw [bs_length, secOf_len]; decide)) (by first | exact bs_whole0 _ (rS_len _ h.oks) | exact bs_whole0 _ (secOf_len 0)) (rv_tmp rfl rv_nil)) ((hsub (.cons_cons _ (.cons_cons _ (.cons _ (.cons _ (.cons _ (.cons _ (.refl _)))))))).trans (hsub_pick [4, 1] rfl)) ?_
          exact ⟨by simp_all [mrE, mrS, okAt] <;> rfl, rfl⟩
      · skip
        refine L_skip rfl rfl ?_
        refine L_skip rfl rfl ?_
        refine L_skip rfl rfl ?_
        refine L_skip rfl rfl ?_
        refine L_skip rfl rfl ?_
        refine L_skip rfl rfl ?_
        refine L_skip rfl rfl ?_
        refine L_skip rfl rfl ?_
        refine L_skip rfl rfl ?_
        refine L_skip rfl rfl ?_
        refine L_y rfl (y_pick_f rfl rfl) rfl ?_
        refine L_y rfl (y_move rfl) rfl ?_
        refine L_skip rfl rfl ?_
        refine L_skip rfl rfl ?_
        refine L_skip rfl rfl ?_
        refine L_skip rfl rfl ?_
        refine L_y rfl (y_pick_f rfl rfl) rfl ?_
        refine L_nil ?_
        refine C_cond_f rfl ?_
        refine C_skip ?_
        refine C_region ?_
        refine L_y rfl (y_add rfl rfl (show _ = (2 : Int) from rfl)) rfl ?_
        refine L_y rfl (y_move rfl) rfl ?_
        refine L_nil ?_
        refine In_round ?_
        refine C_seq ?_
        refine C_region ?_
        refine L_y rfl (y_lss rfl rfl) rfl ?_
        refine L_nil ?_
        refine C_seq ?_
        refine C_cond_f rfl ?_
        refine C_exit ?_
        refine C_seq ?_
        refine C_region ?_
        refine L_y rfl (y_buildA0 Try.underlying32 sz_5 zl_32) rfl ?_
        refine L_op rfl (op_storeA 5 0 rfl rfl rfl sz_32 (by rw [zsec, bs_length, secOf_len]) rfl (by rw [zsec]; exact bs_one _) (by simp) ?_)
        rw [zsec]
        refine L_y rfl (y_assign rfl) rfl ?_
        refine L_nil ?_
        refine C_ret ?_
        refine B_ret (rv_cellA rfl ag_32 sz_32 (sees 5 0 rfl) (by first | (rw [bs_length, rS_len _ h.oks]; decide) | (rw [bs_length, secOf_len]; decide)) (by first | exact bs_whole0 _ (rS_len _ h.oks) | exact bs_whole0 _ (secOf_len 0)) (rv_tmp rfl rv_nil)) ((hsub (.cons_cons _ (.cons_cons _ (.cons _ (.cons _ (.cons _ (.cons _ (.refl _)))))))).trans (hsub_pick [4, 1] rfl)) ?_
        exact ⟨by simp_all [mrE, mrS, okAt] <;> rfl, rfl⟩
  · skip
    refine L_skip rfl rfl ?_
    refine L_skip rfl rfl ?_
    refine L_skip rfl rfl ?_
    refine L_skip rfl rfl ?_
    refine L_skip rfl rfl ?_
    refine L_skip rfl rfl ?_
    refine L_skip rfl rfl ?_
    refine L_skip rfl rfl ?_
    refine L_skip rfl rfl ?_
    refine L_skip rfl rfl ?_
    refine L_y rfl (y_pick_f rfl rfl) rfl ?_
    refine L_y rfl (y_move rfl) rfl ?_
    refine L_skip rfl rfl ?_
    refine L_skip rfl rfl ?_
    refine L_skip rfl rfl ?_
    refine L_skip rfl rfl ?_
    refine L_y rfl (y_pick_f rfl rfl) rfl ?_
    refine L_nil ?_
    refine C_cond_f rfl ?_
    refine C_skip ?_
    refine C_region ?_
    refine L_y rfl (y_add rfl rfl (show _ = (1 : Int) from rfl)) rfl ?_
    refine L_y rfl (y_move rfl) rfl ?_
    refine L_nil ?_
    refine In_round ?_
    refine C_seq ?_
    refine C_region ?_
    refine L_y rfl (y_lss rfl rfl) rfl ?_
    refine L_nil ?_
    refine C_seq ?_
    refine C_cond_t rfl ?_
    refine C_skip ?_
    refine C_seq ?_
    refine C_block ?_
    refine C_seq ?_
    refine C_region ?_
    refine L_y rfl (y_indexS rfl rfl Try.underlying112 sz_3 (by omega) (by omega) (show _ = 1 from rfl)) rfl ?_
    refine L_y rfl (y_load rfl ag_3 (sees 2 0 rfl) rfl) rfl ?_
    refine L_y rfl (y_assign rfl) rfl ?_
    refine L_nil ?_
    refine C_seq ?_
    refine C_region ?_
    refine L_y rfl (y_move rfl) rfl ?_
    refine L_y rfl (y_move rfl) rfl ?_
    refine L_y rfl (y_nilCheck rfl) rfl ?_
    refine L_y rfl (y_fieldAddr rfl fl_104_0) rfl ?_
    refine L_y rfl (y_indexA rfl rfl Try.underlying102 sz_101 (by omega) (by omega) (show _ = 2 from rfl)) rfl ?_
    refine L_y rfl (y_fieldAddr rfl fl_101_0) rfl ?_
    refine L_y rfl (y_load rfl ag_24 (sees 3 0 rfl) rfl) rfl ?_
    refine L_y rfl (y_move rfl) rfl ?_
    refine L_op rfl (op_call rfl rfl (fun a w => Try.call57 a w) rfl ?_)
    refine ((read_d h true (n)).sub (hsub_pick [1] rfl)).mono ?_
    rintro _ _ ⟨rfl, rfl⟩
    refine ⟨_, rfl, ?_⟩
    refine L_y rfl (y_move rfl) rfl ?_
    refine L_y rfl (y_extract rfl rfl) rfl ?_
    refine L_y rfl (y_extract rfl rfl) rfl ?_
    refine L_op rfl (op_alloc zl_32 rfl (fun B5 => ?_))
    refine L_op rfl (op_storeA 0 0 rfl rfl rfl sz_32 (by rw [bs_length, (rS_len true h.oks)]) rfl (bs_one _) (by simp) ?_)
    refine L_y rfl (y_assign rfl) rfl ?_
    refine L_nil ?_
    refine C_seq ?_
    refine C_region ?_
    refine L_y rfl (y_move rfl) rfl ?_
    refine L_y rfl (y_eqi rfl rfl) rfl ?_
    refine L_y rfl (y_move rfl) rfl ?_
    refine L_case 42 rfl (fun hg10_3 => ?_) (fun hg10_3 => ?_)
    · skip
      refine L_y rfl (y_move rfl) rfl ?_
      refine L_y rfl (y_move rfl) rfl ?_
      refine L_y rfl (y_nilCheck rfl) rfl ?_
      refine L_y rfl (y_fieldAddr rfl fl_104_0) rfl ?_
      refine L_y rfl (y_indexA rfl rfl Try.underlying102 sz_101 (by omega) (by omega) (show _ = 2 from rfl)) rfl ?_
      refine L_y rfl (y_fieldAddr rfl fl_101_1) rfl ?_
      refine L_y rfl (y_load rfl ag_99 (sees 4 0 rfl) rfl) rfl ?_
      refine L_y rfl (y_move rfl) rfl ?_
      refine L_y rfl (y_lookup rfl rfl Try.underlying99 Try.underlying3 zt_4 (sees 4 2 rfl)) rfl ?_
      refine L_y rfl (y_not rfl) rfl ?_
      refine L_y rfl (y_pick_t rfl rfl) rfl ?_
      refine L_y rfl (y_move rfl) rfl ?_
      refine L_case 54 rfl (fun hg10_15 => ?_) (fun hg10_15 => ?_)
      · skip
        refine L_y rfl (y_move rfl) rfl ?_
        refine L_y rfl (y_move rfl) rfl ?_
        refine L_y rfl (y_loadA rfl ag_32 sz_32 (sees 0 0 rfl) (by rw [bs_length, rS_len _ h.oks]; decide) (bs_whole0 _ (rS_len _ h.oks))) rfl ?_
        refine L_op rfl (op_call rfl rfl (fun a w => Try.call58 a w) rfl ?_)
        refine FnS.mono (right_m (sees 4 0 rfl) (hG.sub (hsub (.cons _ (.cons _ (.cons _ (.cons _ (.cons _ (.cons _ (.refl _))))))))) n _ (rS_len _ h.oks)) ?_
        rintro _ _ ⟨rfl, e⟩
        obtain rfl := e.symm
        refine ⟨_, rfl, ?_⟩
        refine L_y rfl (y_pick_t rfl rfl) rfl ?_
        refine L_nil ?_
        refine C_cond rfl (fun hc3 => ?_) (fun hc3 => ?_)
        · skip
          refine C_seq ?_
          refine C_region ?_
          refine L_y rfl (y_loadA rfl ag_32 sz_32 (sees 0 0 rfl) (by rw [bs_length, rS_len _ h.oks]; decide) (bs_whole0 _ (rS_len _ h.oks))) rfl ?_
          refine L_op rfl (op_storeA 5 0 rfl rfl rfl sz_32 (by rw [bs_length, rS_len _ h.oks]) rfl (bs_one _) (by simp) ?_)
          refine L_y rfl (y_assign rfl) rfl ?_
          refine L_nil ?_
          refine C_ret ?_
          refine B_ret (rv_cellA rfl ag_32 sz_32 (sees 5 0 rfl) (by first | (rw [bs_length, rS_len _ h.oks]; decide) | (rw [bs_length, secOf_len]; decide)) (by first | exact bs_whole0 _ (rS_len _ h.oks) | exact bs_whole0 _ (secOf_len 0)) (rv_tmp rfl rv_nil)) ((hsub (.cons_cons _ (.cons_cons _ (.cons _ (.cons _ (.cons _ (.cons _ (.refl _)))))))).trans (hsub_pick [4, 1] rfl)) ?_
          exact ⟨by simp_all [mrE, mrS, okAt] <;> rfl, rfl⟩
        · skip
          refine C_skip ?_
          refine C_region ?_
          refine L_y rfl (y_add rfl rfl (show _ = (2 : Int) from rfl)) rfl ?_
          refine L_y rfl (y_move rfl) rfl ?_
          refine L_nil ?_
          refine In_round ?_
          refine C_seq ?_
          refine C_region ?_
          refine L_y rfl (y_lss rfl rfl) rfl ?_
          refine L_nil ?_
          refine C_seq ?_
          refine C_cond_f rfl ?_
          refine C_exit ?_
          refine C_seq ?_
          refine C_region ?_
          refine L_y rfl (y_buildA0 Try.underlying32 sz_5 zl_32) rfl ?_
          refine L_op rfl (op_storeA 5 0 rfl rfl rfl sz_32 (by rw [zsec, bs_length, secOf_len]) rfl (by rw [zsec]; exact bs_one _) (by simp) ?_)
          rw [zsec]
          refine L_y rfl (y_assign rfl) rfl ?_
          refine L_nil ?_
          refine C_ret ?_
          refine B_ret (rv_cellA rfl ag_32 sz_32 (sees 5 0 rfl) (by first | (rw [bs_length, rS_len _ h.oks]; decide) | (rw [bs_length, secOf_len]; decide)) (by first | exact bs_whole0 _ (rS_len _ h.oks) | exact bs_whole0 _ (secOf_len 0)) (rv_tmp rfl rv_nil)) ((hsub (.cons_cons _ (.cons_cons _ (.cons _ (.cons _ (.cons _ (.cons _ (.refl _)))))))).trans (hsub_pick [4, 1] rfl)) ?_
          exact ⟨by simp_all [mrE, mrS, okAt] <;> rfl, rfl⟩
      · skip
        refine L_skip rfl rfl ?_
        refine L_skip rfl rfl ?_
        refine L_skip rfl rfl ?_
        refine L_skip rfl rfl ?_
        refine L_y rfl (y_pick_f rfl rfl) rfl ?_
        refine L_nil ?_
        refine C_cond_f rfl ?_
        refine C_skip ?_
        refine C_region ?_
        refine L_y rfl (y_add rfl rfl (show _ = (2 : Int) from rfl)) rfl ?_
        refine L_y rfl (y_move rfl) rfl ?_
        refine L_nil ?_
        refine In_round ?_
        refine C_seq ?_
        refine C_region ?_
        refine L_y rfl (y_lss rfl rfl) rfl ?_
        refine L_nil ?_
        refine C_seq ?_
        refine C_cond_f rfl ?_
        refine C_exit ?_
        refine C_seq ?_
        refine C_region ?_
        refine L_y rfl (y_buildA0 Try.underlying32 sz_5 zl_32) rfl ?_
        refine L_op rfl (op_storeA 5 0 rfl rfl rfl sz_32 (by rw [zsec, bs_length, secOf_len]) rfl (by rw [zsec]; exact bs_one _) (by simp) ?_)
        rw [zsec]
        refine L_y rfl (y_assign rfl) rfl ?_
        refine L_nil ?_
        refine C_ret ?_
        refine B_ret (rv_cellA rfl ag_32 sz_32 (sees 5 0 rfl) (by first | (rw [bs_length, rS_len _ h.oks]; decide) | (rw [bs_length, secOf_len]; decide)) (by first | exact bs_whole0 _ (rS_len _ h.oks) | exact bs_whole0 _ (secOf_len 0)) (rv_tmp rfl rv_nil)) ((hsub (.cons_cons _ (.cons_cons _ (.cons _ (.cons _ (.cons _ (.cons _ (.refl _)))))))).trans (hsub_pick [4, 1] rfl)) ?_
        exact ⟨by simp_all [mrE, mrS, okAt] <;> rfl, rfl⟩
    · skip
      refine L_skip rfl rfl ?_
      refine L_skip rfl rfl ?_
      refine L_skip rfl rfl ?_
      refine L_skip rfl rfl ?_
      refine L_skip rfl rfl ?_
      refine L_skip rfl rfl ?_
      refine L_skip rfl rfl ?_
      refine L_skip rfl rfl ?_
      refine L_skip rfl rfl ?_
      refine L_skip rfl rfl ?_
      refine L_y rfl (y_pick_f rfl rfl) rfl ?_
      refine L_y rfl (y_move rfl) rfl ?_
      refine L_skip rfl rfl ?_
      refine L_skip rfl rfl ?_
      refine L_skip rfl rfl ?_
      refine L_skip rfl rfl ?_
      refine L_y rfl (y_pick_f rfl rfl) rfl ?_
      refine L_nil ?_
      refine C_cond_f rfl ?_
      refine C_skip ?_
      refine C_region ?_
      refine L_y rfl (y_add rfl rfl (show _ = (2 : Int) from rfl)) rfl ?_
      refine L_y rfl (y_move rfl) rfl ?_
      refine L_nil ?_
      refine In_round ?_
      refine C_seq ?_
      refine C_region ?_
      refine L_y rfl (y_lss rfl rfl) rfl ?_
      refine L_nil ?_
      refine C_seq ?_
      refine C_cond_f rfl ?_
      refine C_exit ?_
      refine C_seq ?_
      refine C_region ?_
      refine L_y rfl (y_buildA0 Try.underlying32 sz_5 zl_32) rfl ?_
      refine L_op rfl (op_storeA 5 0 rfl rfl rfl sz_32 (by rw [zsec, bs_length, secOf_len]) rfl (by rw [zsec]; exact bs_one _) (by simp) ?_)
      rw [zsec]
      refine L_y rfl (y_assign rfl) rfl ?_
      refine L_nil ?_
      refine C_ret ?_
      refine B_ret (rv_cellA rfl ag_32 sz_32 (sees 5 0 rfl) (by first | (rw [bs_length, rS_len _ h.oks]; decide) | (rw [bs_length, secOf_len]; decide)) (by first | exact bs_whole0 _ (rS_len _ h.oks) | exact bs_whole0 _ (secOf_len 0)) (rv_tmp rfl rv_nil)) ((hsub (.cons_cons _ (.cons_cons _ (.cons _ (.cons _ (.cons _ (.cons _ (.refl _)))))))).trans (hsub_pick [4, 1] rfl)) ?_
      exact ⟨by simp_all [mrE, mrS, okAt] <;> rfl, rfl⟩

theorem mread_tf {w0 : World} {H : Hp} {D : Duo} {A : Da} {bp : Nat} {m : Mi} (h : Two dt D A m.bx m.bys bp) {p : Int → Sec → Bool} (hG : GoodAt Try.prog w0 H m.gv p) (n : Int) (hn : m.has n = true) (hp : thr A false = true) (hq : thr A true = false) : FnS Try.prog w0 22 #[ptr m.b, .int .i64 n] (m.seg 104 :: D.seg dt :: H) (fun e H' => e = .returned (.tuple #[.agg (bs (mrS m A p n)).toArray, .int .i64 (mrE m A p n)]) ∧ H' = m.seg 104 :: D.seg dt :: H) := by
  refine FnS_intro (n := 63) (rs := [.cell 4 32, .tmp 5]) (vs := [ptr m.b, .int .i64 n]) Try.func22 rfl Try.ntmps22 rfl rfl ?_
  refine C_seq ?_
  refine C_region ?_
  refine L_op rfl (op_alloc zl_32 rfl (fun B1 => ?_))
  refine L_y rfl (y_assign rfl) rfl ?_
  refine L_nil ?_
  refine C_seq ?_
  refine C_seq ?_
  refine C_region ?_
  refine L_y rfl (y_move rfl) rfl ?_
  refine L_y rfl (y_move rfl) rfl ?_
  refine L_op rfl (op_call rfl rfl (fun a w => Try.call55 a w) rfl ?_)
  refine (has_m _ (sees 1 0 rfl)).mono ?_
  rintro _ _ ⟨rfl, rfl⟩
  rw [hn]
  refine ⟨_, rfl, ?_⟩
  refine L_y rfl (y_not rfl) rfl ?_
  refine L_nil ?_
  refine C_cond_f rfl ?_
  refine C_skip ?_
  refine C_seq ?_
  refine C_region ?_
  refine L_y rfl (y_move rfl) rfl ?_
  refine L_op rfl (op_call rfl rfl (fun a w => Try.call56 a w) rfl ?_)
  refine ((present_tf h hp hq).sub (hsub_pick [1, 1] rfl)).mono ?_
  rintro _ _ ⟨g1, hg1, rfl, rfl⟩
  cases g1 with
  | none => exact slOk_none hg1 (by decide)
  | some g1 => ?_
  refine ⟨_, rfl, ?_⟩
  refine L_y rfl (y_assign rfl) rfl ?_
  refine L_nil ?_
  refine C_seq ?_
  refine C_seq ?_
  refine C_region ?_
  refine L_y rfl (y_move rfl) rfl ?_
  refine L_y rfl (y_lenS rfl rfl Try.underlying112) rfl ?_
  refine L_y rfl (y_eqi rfl rfl) rfl ?_
  refine L_nil ?_
  refine C_cond_f rfl ?_
  refine C_skip ?_
  refine C_seq ?_
  refine C_seq ?_
  refine C_region ?_
  refine L_y rfl (y_move rfl) rfl ?_
  refine L_y rfl (y_lenS rfl rfl Try.underlying112) rfl ?_
  refine L_y rfl (y_move rfl) rfl ?_
  refine L_nil ?_
  refine C_block ?_
  refine C_loopIn (In_round ?_)
  refine C_seq ?_
  refine C_region ?_
  refine L_y rfl (y_lss rfl rfl) rfl ?_
  refine L_nil ?_
  refine C_seq ?_
  refine C_cond_t rfl ?_
  refine C_skip ?_
  refine C_seq ?_
  refine C_block ?_
  refine C_seq ?_
  refine C_region ?_
  refine L_y rfl (y_indexS rfl rfl Try.underlying112 sz_3 (by omega) (by omega) (show _ = 0 from rfl)) rfl ?_
  refine L_y rfl (y_load rfl ag_3 (sees 0 0 rfl) rfl) rfl ?_
  refine L_y rfl (y_assign rfl) rfl ?_
  refine L_nil ?_
  refine C_seq ?_
  refine C_region ?_
  refine L_y rfl (y_move rfl) rfl ?_
  refine L_y rfl (y_move rfl) rfl ?_
  refine L_y rfl (y_nilCheck rfl) rfl ?_
  refine L_y rfl (y_fieldAddr rfl fl_104_0) rfl ?_
  refine L_y rfl (y_indexA rfl rfl Try.underlying102 sz_101 (by omega) (by omega) (show _ = 0 from rfl)) rfl ?_
  refine L_y rfl (y_fieldAddr rfl fl_101_0) rfl ?_
  refine L_y rfl (y_load rfl ag_24 (sees 1 0 rfl) rfl) rfl ?_
  refine L_y rfl (y_move rfl) rfl ?_
  refine L_op rfl (op_call rfl rfl (fun a w => Try.call57 a w) rfl ?_)
  refine ((read_d h false (n)).sub (hsub_pick [2] rfl)).mono ?_
  rintro _ _ ⟨rfl, rfl⟩
  refine ⟨_, rfl, ?_⟩
  refine L_y rfl (y_move rfl) rfl ?_
  refine L_y rfl (y_extract rfl rfl) rfl ?_
  refine L_y rfl (y_extract rfl rfl) rfl ?_
  refine L_op rfl (op_alloc zl_32 rfl (fun B2 => ?_))
  refine L_op rfl (op_storeA 0 0 rfl rfl rfl sz_32 (by rw [bs_length, (rS_len false h.oks)]) rfl (bs_one _) (by simp) ?_)
  refine L_y rfl (y_assign rfl) rfl ?_
  refine L_nil ?_
  refine C_seq ?_
  refine C_region ?_
  refine L_y rfl (y_move rfl) rfl ?_
  refine L_y rfl (y_eqi rfl rfl) rfl ?_
  refine L_y rfl (y_move rfl) rfl ?_
  refine L_case 42 rfl (fun hg10_3 => ?_) (fun hg10_3 => ?_)
  · skip
    refine L_y rfl (y_move rfl) rfl ?_
    refine L_y rfl (y_move rfl) rfl ?_
    refine L_y rfl (y_nilCheck rfl) rfl ?_
    refine L_y rfl (y_fieldAddr rfl fl_104_0) rfl ?_
    refine L_y rfl (y_indexA rfl rfl Try.underlying102 sz_101 (by omega) (by omega) (show _ = 0 from rfl)) rfl ?_
    refine L_y rfl (y_fieldAddr rfl fl_101_1) rfl ?_
    refine L_y rfl (y_load rfl ag_99 (sees 3 0 rfl) rfl) rfl ?_
    refine L_y rfl (y_move rfl) rfl ?_
    refine L_y rfl (y_lookup rfl rfl Try.underlying99 Try.underlying3 zt_4 (sees 3 1 rfl)) rfl ?_
    refine L_y rfl (y_not rfl) rfl ?_
    refine L_y rfl (y_pick_t rfl rfl) rfl ?_
    refine L_y rfl (y_move rfl) rfl ?_
    refine L_case 54 rfl (fun hg10_15 => ?_) (fun hg10_15 => ?_)
    · skip
      refine L_y rfl (y_move rfl) rfl ?_
      refine L_y rfl (y_move rfl) rfl ?_
      refine L_y rfl (y_loadA rfl ag_32 sz_32 (sees 0 0 rfl) (by rw [bs_length, rS_len _ h.oks]; decide) (bs_whole0 _ (rS_len _ h.oks))) rfl ?_
      refine L_op rfl (op_call rfl rfl (fun a w => Try.call58 a w) rfl ?_)
      refine FnS.mono (right_m (sees 3 0 rfl) (hG.sub (hsub (.cons _ (.cons _ (.cons _ (.cons _ (.cons _ (.refl _)))))))) n _ (rS_len _ h.oks)) ?_
      rintro _ _ ⟨rfl, e⟩
      obtain rfl := e.symm
      refine ⟨_, rfl, ?_⟩
      refine L_y rfl (y_pick_t rfl rfl) rfl ?_
      refine L_nil ?_
      refine C_cond rfl (fun hc3 => ?_) (fun hc3 => ?_)
      · skip
        refine C_seq ?_
        refine C_region ?_
        refine L_y rfl (y_loadA rfl ag_32 sz_32 (sees 0 0 rfl) (by rw [bs_length, rS_len _ h.oks]; decide) (bs_whole0 _ (rS_len _ h.oks))) rfl ?_
        refine L_op rfl (op_storeA 4 0 rfl rfl rfl sz_32 (by rw [bs_length, rS_len _ h.oks]) rfl (bs_one _) (by simp) ?_)
        refine L_y rfl (y_assign rfl) rfl ?_
        refine L_nil ?_
        refine C_ret ?_
        refine B_ret (rv_cellA rfl ag_32 sz_32 (sees 4 0 rfl) (by first | (rw [bs_length, rS_len _ h.oks]; decide) | (rw [bs_length, secOf_len]; decide)) (by first | exact bs_whole0 _ (rS_len _ h.oks) | exact bs_whole0 _ (secOf_len 0)) (rv_tmp rfl rv_nil)) ((hsub (.cons_cons _ (.cons_cons _ (.cons _ (.cons _ (.cons _ (.refl _))))))).trans (hsub_pick [3, 1] rfl)) ?_
        exact ⟨by simp_all [mrE, mrS, okAt] <;> rfl, rfl⟩
      · skip
        refine C_skip ?_
        refine C_region ?_
        refine L_y rfl (y_add rfl rfl (show _ = (1 : Int) from rfl)) rfl ?_
        refine L_y rfl (y_move rfl) rfl ?_
        refine L_nil ?_
        refine In_round ?_
        refine C_seq ?_
        refine C_region ?_
        refine L_y rfl (y_lss rfl rfl) rfl ?_
        refine L_nil ?_
        refine C_seq ?_
        refine C_cond_f rfl ?_
        refine C_exit ?_
        refine C_seq ?_
        refine C_region ?_
        refine L_y rfl (y_buildA0 Try.underlying32 sz_5 zl_32) rfl ?_
        refine L_op rfl (op_storeA 4 0 rfl rfl rfl sz_32 (by rw [zsec, bs_length, secOf_len]) rfl (by rw [zsec]; exact bs_one _) (by simp) ?_)
        rw [zsec]
        refine L_y rfl (y_assign rfl) rfl ?_
        refine L_nil ?_
        refine C_ret ?_
        refine B_ret (rv_cellA rfl ag_32 sz_32 (sees 4 0 rfl) (by first | (rw [bs_length, rS_len _ h.oks]; decide) | (rw [bs_length, secOf_len]; decide)) (by first | exact bs_whole0 _ (rS_len _ h.oks) | exact bs_whole0 _ (secOf_len 0)) (rv_tmp rfl rv_nil)) ((hsub (.cons_cons _ (.cons_cons _ (.cons _ (.cons _ (.cons _ (.refl _))))))).trans (hsub_pick [3, 1] rfl)) ?_
        exact ⟨by simp_all [mrE, mrS, okAt] <;> rfl, rfl⟩
    · skip
      refine L_skip rfl rfl ?_
      refine L_skip rfl rfl ?_
      refine L_skip rfl rfl ?_
      refine L_skip rfl rfl ?_
      refine L_y rfl (y_pick_f rfl rfl) rfl ?_
      refine L_nil ?_
      refine C_cond_f rfl ?_
      refine C_skip ?_
      refine C_region ?_
      refine L_y rfl (y_add rfl rfl (show _ = (1 : Int) from rfl)) rfl ?_
      refine L_y rfl (y_move rfl) rfl ?_
      refine L_nil ?_
      refine In_round ?_
      refine C_seq ?_
      refine C_region ?_
      refine L_y rfl (y_lss rfl rfl) rfl ?_
      refine L_nil ?_
      refine C_seq ?_
      refine C_cond_f rfl ?_
      refine C_exit ?_
      refine C_seq ?_
      refine C_region ?_
      refine L_y rfl (y_buildA0 Try.underlying32 sz_5 zl_32) rfl ?_
      refine L_op rfl (op_storeA 4 0 rfl rfl rfl sz_32 (by rw [zsec, bs_length, secOf_len]) rfl (by rw [zsec]; exact bs_one _) (by simp) ?_)
      rw [zsec]
      refine L_y rfl (y_assign rfl) rfl ?_
      refine L_nil ?_
      refine C_ret ?_
      refine B_ret (rv_cellA rfl ag_32 sz_32 (sees 4 0 rfl) (by first | (rw [bs_length, rS_len _ h.oks]; decide) | (rw [bs_length, secOf_len]; decide)) (by first | exact bs_whole0 _ (rS_len _ h.oks) | exact bs_whole0 _ (secOf_len 0)) (rv_tmp rfl rv_nil)) ((hsub (.cons_cons _ (.cons_cons _ (.cons _ (.cons _ (.cons _ (.refl _))))))).trans (hsub_pick [3, 1] rfl)) ?_
      exact ⟨by simp_all [mrE, mrS, okAt] <;> rfl, rfl⟩
  · skip
    refine L_skip rfl rfl ?_
    refine L_skip rfl rfl ?_
    refine L_skip rfl rfl ?_
    refine L_skip rfl rfl ?_
    refine L_skip rfl rfl ?_
    refine L_skip rfl rfl ?_
    refine L_skip rfl rfl ?_
    refine L_skip rfl rfl ?_
    refine L_skip rfl rfl ?_
    refine L_skip rfl rfl ?_
    refine L_y rfl (y_pick_f rfl rfl) rfl ?_
    refine L_y rfl (y_move rfl) rfl ?_
    refine L_skip rfl rfl ?_
    refine L_skip rfl rfl ?_
    refine L_skip rfl rfl ?_
    refine L_skip rfl rfl ?_
    refine L_y rfl (y_pick_f rfl rfl) rfl ?_
    refine L_nil ?_
    refine C_cond_f rfl ?_
    refine C_skip ?_
    refine C_region ?_
    refine L_y rfl (y_add rfl rfl (show _ = (1 : Int) from rfl)) rfl ?_
    refine L_y rfl (y_move rfl) rfl ?_
    refine L_nil ?_
    refine In_round ?_
    refine C_seq ?_
    refine C_region ?_
    refine L_y rfl (y_lss rfl rfl) rfl ?_
    refine L_nil ?_
    refine C_seq ?_
    refine C_cond_f rfl ?_
    refine C_exit ?_
    refine C_seq ?_
    refine C_region ?_
    refine L_y rfl (y_buildA0 Try.underlying32 sz_5 zl_32) rfl ?_
    refine L_op rfl (op_storeA 4 0 rfl rfl rfl sz_32 (by rw [zsec, bs_length, secOf_len]) rfl (by rw [zsec]; exact bs_one _) (by simp) ?_)
    rw [zsec]
    refine L_y rfl (y_assign rfl) rfl ?_
    refine L_nil ?_
    refine C_ret ?_
    refine B_ret (rv_cellA rfl ag_32 sz_32 (sees 4 0 rfl) (by first | (rw [bs_length, rS_len _ h.oks]; decide) | (rw [bs_length, secOf_len]; decide)) (by first | exact bs_whole0 _ (rS_len _ h.oks) | exact bs_whole0 _ (secOf_len 0)) (rv_tmp rfl rv_nil)) ((hsub (.cons_cons _ (.cons_cons _ (.cons _ (.cons _ (.cons _ (.refl _))))))).trans (hsub_pick [3, 1] rfl)) ?_
    exact ⟨by simp_all [mrE, mrS, okAt] <;> rfl, rfl⟩

theorem mread_ft {w0 : World} {H : Hp} {D : Duo} {A : Da} {bp : Nat} {m : Mi} (h : Two dt D A m.bx m.bys bp) {p : Int → Sec → Bool} (hG : GoodAt Try.prog w0 H m.gv p) (n : Int) (hn : m.has n = true) (hp : thr A false = false) (hq : thr A true = true) : FnS Try.prog w0 22 #[ptr m.b, .int .i64 n] (m.seg 104 :: D.seg dt :: H) (fun e H' => e = .returned (.tuple #[.agg (bs (mrS m A p n)).toArray, .int .i64 (mrE m A p n)]) ∧ H' = m.seg 104 :: D.seg dt :: H) := by
  refine FnS_intro (n := 63) (rs := [.cell 4 32, .tmp 5]) (vs := [ptr m.b, .int .i64 n]) Try.func22 rfl Try.ntmps22 rfl rfl ?_
  refine C_seq ?_
  refine C_region ?_
  refine L_op rfl (op_alloc zl_32 rfl (fun B1 => ?_))
  refine L_y rfl (y_assign rfl) rfl ?_
  refine L_nil ?_
  refine C_seq ?_
  refine C_seq ?_
  refine C_region ?_
  refine L_y rfl (y_move rfl) rfl ?_
  refine L_y rfl (y_move rfl) rfl ?_
  refine L_op rfl (op_call rfl rfl (fun a w => Try.call55 a w) rfl ?_)
  refine (has_m _ (sees 1 0 rfl)).mono ?_
  rintro _ _ ⟨rfl, rfl⟩
  rw [hn]
  refine ⟨_, rfl, ?_⟩
  refine L_y rfl (y_not rfl) rfl ?_
  refine L_nil ?_
  refine C_cond_f rfl ?_
  refine C_skip ?_
  refine C_seq ?_
  refine C_region ?_
  refine L_y rfl (y_move rfl) rfl ?_
  refine L_op rfl (op_call rfl rfl (fun a w => Try.call56 a w) rfl ?_)
  refine ((present_ft h hp hq).sub (hsub_pick [1, 1] rfl)).mono ?_
  rintro _ _ ⟨g1, hg1, rfl, rfl⟩
  cases g1 with
  | none => exact slOk_none hg1 (by decide)
  | some g1 => ?_
  refine ⟨_, rfl, ?_⟩
  refine L_y rfl (y_assign rfl) rfl ?_
  refine L_nil ?_
  refine C_seq ?_
  refine C_seq ?_
  refine C_region ?_
  refine L_y rfl (y_move rfl) rfl ?_
  refine L_y rfl (y_lenS rfl rfl Try.underlying112) rfl ?_
  refine L_y rfl (y_eqi rfl rfl) rfl ?_
  refine L_nil ?_
  refine C_cond_f rfl ?_
  refine C_skip ?_
  refine C_seq ?_
  refine C_seq ?_
  refine C_region ?_
  refine L_y rfl (y_move rfl) rfl ?_
  refine L_y rfl (y_lenS rfl rfl Try.underlying112) rfl ?_
  refine L_y rfl (y_move rfl) rfl ?_
  refine L_nil ?_
  refine C_block ?_
  refine C_loopIn (In_round ?_)
  refine C_seq ?_
  refine C_region ?_
  refine L_y rfl (y_lss rfl rfl) rfl ?_
  refine L_nil ?_
  refine C_seq ?_
  refine C_cond_t rfl ?_
  refine C_skip ?_
  refine C_seq ?_
  refine C_block ?_
  refine C_seq ?_
  refine C_region ?_
  refine L_y rfl (y_indexS rfl rfl Try.underlying112 sz_3 (by omega) (by omega) (show _ = 0 from rfl)) rfl ?_
  refine L_y rfl (y_load rfl ag_3 (sees 0 0 rfl) rfl) rfl ?_
  refine L_y rfl (y_assign rfl) rfl ?_
  refine L_nil ?_
  refine C_seq ?_
  refine C_region ?_
  refine L_y rfl (y_move rfl) rfl ?_
  refine L_y rfl (y_move rfl) rfl ?_
  refine L_y rfl (y_nilCheck rfl) rfl ?_
  refine L_y rfl (y_fieldAddr rfl fl_104_0) rfl ?_
  refine L_y rfl (y_indexA rfl rfl Try.underlying102 sz_101 (by omega) (by omega) (show _ = 2 from rfl)) rfl ?_
  refine L_y rfl (y_fieldAddr rfl fl_101_0) rfl ?_
  refine L_y rfl (y_load rfl ag_24 (sees 1 0 rfl) rfl) rfl ?_
  refine L_y rfl (y_move rfl) rfl ?_
  refine L_op rfl (op_call rfl rfl (fun a w => Try.call57 a w) rfl ?_)
  refine ((read_d h true (n)).sub (hsub_pick [2] rfl)).mono ?_
  rintro _ _ ⟨rfl, rfl⟩
  refine ⟨_, rfl, ?_⟩
  refine L_y rfl (y_move rfl) rfl ?_
  refine L_y rfl (y_extract rfl rfl) rfl ?_
  refine L_y rfl (y_extract rfl rfl) rfl ?_
  refine L_op rfl (op_alloc zl_32 rfl (fun B2 => ?_))
  refine L_op rfl (op_storeA 0 0 rfl rfl rfl sz_32 (by rw [bs_length, (rS_len true h.oks)]) rfl (bs_one _) (by simp) ?_)
  refine L_y rfl (y_assign rfl) rfl ?_
  refine L_nil ?_
  refine C_seq ?_
  refine C_region ?_
  refine L_y rfl (y_move rfl) rfl ?_
  refine L_y rfl (y_eqi rfl rfl) rfl ?_
  refine L_y rfl (y_move rfl) rfl ?_
  refine L_case 42 rfl (fun hg10_3 => ?_) (fun hg10_3 => ?_)
  · skip
    refine L_y rfl (y_move rfl) rfl ?_
    refine L_y rfl (y_move rfl) rfl ?_
    refine L_y rfl (y_nilCheck rfl) rfl ?_
    refine L_y rfl (y_fieldAddr rfl fl_104_0) rfl ?_
    refine L_y rfl (y_indexA rfl rfl Try.underlying102 sz_101 (by omega) (by omega) (show _ = 2 from rfl)) rfl ?_
    refine L_y rfl (y_fieldAddr rfl fl_101_1) rfl ?_
    refine L_y rfl (y_load rfl ag_99 (sees 3 0 rfl) rfl) rfl ?_
    refine L_y rfl (y_move rfl) rfl ?_
    refine L_y rfl (y_lookup rfl rfl Try.underlying99 Try.underlying3 zt_4 (sees 3 2 rfl)) rfl ?_
    refine L_y rfl (y_not rfl) rfl ?_
    refine L_y rfl (y_pick_t rfl rfl) rfl ?_
    refine L_y rfl (y_move rfl) rfl ?_
    refine L_case 54 rfl (fun hg10_15 => ?_) (fun hg10_15 => ?_)
    · skip
      refine L_y rfl (y_move rfl) rfl ?_
      refine L_y rfl (y_move rfl) rfl ?_
      refine L_y rfl (y_loadA rfl ag_32 sz_32 (sees 0 0 rfl) (by rw [bs_length, rS_len _ h.oks]; decide) (bs_whole0 _ (rS_len _ h.oks))) rfl ?_
      refine L_op rfl (op_call rfl rfl (fun a w => Try.call58 a w) rfl ?_)
      refine FnS.mono (right_m (sees 3 0 rfl) (hG.sub (hsub (.cons _ (.cons _ (.cons _ (.cons _ (.cons _ (.refl _)))))))) n _ (rS_len _ h.oks)) ?_
      rintro _ _ ⟨rfl, e⟩
      obtain rfl := e.symm
      refine ⟨_, rfl, ?_⟩
      refine L_y rfl (y_pick_t rfl rfl) rfl ?_
      refine L_nil ?_
      refine C_cond rfl (fun hc3 => ?_) (fun hc3 => ?_)
      · skip
        refine C_seq ?_
        refine C_region ?_
        refine L_y rfl (y_loadA rfl ag_32 sz_32 (sees 0 0 rfl) (by rw [bs_length, rS_len _ h.oks]; decide) (bs_whole0 _ (rS_len _ h.oks))) rfl ?_
        refine L_op rfl (op_storeA 4 0 rfl rfl rfl sz_32 (by rw [bs_length, rS_len _ h.oks]) rfl (bs_one _) (by simp) ?_)
        refine L_y rfl (y_assign rfl) rfl ?_
        refine L_nil ?_
        refine C_ret ?_
        refine B_ret (rv_cellA rfl ag_32 sz_32 (sees 4 0 rfl) (by first | (rw [bs_length, rS_len _ h.oks]; decide) | (rw [bs_length, secOf_len]; decide)) (by first | exact bs_whole0 _ (rS_len _ h.oks) | exact bs_whole0 _ (secOf_len 0)) (rv_tmp rfl rv_nil)) ((hsub (.cons_cons _ (.cons_cons _ (.cons _ (.cons _ (.cons _ (.refl _))))))).trans (hsub_pick [3, 1] rfl)) ?_
        exact ⟨by simp_all [mrE, mrS, okAt] <;> rfl, rfl⟩
      · skip
        refine C_skip ?_
        refine C_region ?_
        refine L_y rfl (y_add rfl rfl (show _ = (1 : Int) from rfl)) rfl ?_
        refine L_y rfl (y_move rfl) rfl ?_
        refine L_nil ?_
        refine In_round ?_
        refine C_seq ?_
        refine C_region ?_
        refine L_y rfl (y_lss rfl rfl) rfl ?_
        refine L_nil ?_
        refine C_seq ?_
        refine C_cond_f rfl ?_
        refine C_exit ?_
        refine C_seq ?_
        refine C_region ?_
        refine L_y rfl (y_buildA0 Try.underlying32 sz_5 zl_32) rfl ?_
        refine L_op rfl (op_storeA 4 0 rfl rfl rfl sz_32 (by rw [zsec, bs_length, secOf_len]) rfl (by rw [zsec]; exact bs_one _) (by simp) ?_)
        rw [zsec]
        refine L_y rfl (y_assign rfl) rfl ?_
        refine L_nil ?_
        refine C_ret ?_
        refine B_ret (rv_cellA rfl ag_32 sz_32 (sees 4 0 rfl) (by first | (rw [bs_length, rS_len _ h.oks]; decide) | (rw [bs_length, secOf_len]; decide)) (by first | exact bs_whole0 _ (rS_len _ h.oks) | exact bs_whole0 _ (secOf_len 0)) (rv_tmp rfl rv_nil)) ((hsub (.cons_cons _ (.cons_cons _ (.cons _ (.cons _ (.cons _ (.refl _))))))).trans (hsub_pick [3, 1] rfl)) ?_
        exact ⟨by simp_all [mrE, mrS, okAt] <;> rfl, rfl⟩
    · skip
      refine L_skip rfl rfl ?_
      refine L_skip rfl rfl ?_
      refine L_skip rfl rfl ?_
      refine L_skip rfl rfl ?_
      refine L_y rfl (y_pick_f rfl rfl) rfl ?_
      refine L_nil ?_
      refine C_cond_f rfl ?_
      refine C_skip ?_
      refine C_region ?_
      refine L_y rfl (y_add rfl rfl (show _ = (1 : Int) from rfl)) rfl ?_
      refine L_y rfl (y_move rfl) rfl ?_
      refine L_nil ?_
      refine In_round ?_
      refine C_seq ?_
      refine C_region ?_
      refine L_y rfl (y_lss rfl rfl) rfl ?_
      refine L_nil ?_
      refine C_seq ?_
      refine C_cond_f rfl ?_
      refine C_exit ?_
      refine C_seq ?_
      refine C_region ?_
      refine L_y rfl (y_buildA0 Try.underlying32 sz_5 zl_32) rfl ?_
      refine L_op rfl (op_storeA 4 0 rfl rfl rfl sz_32 (by rw [zsec, bs_length, secOf_len]) rfl (by rw [zsec]; exact bs_one _) (by simp) ?_)
      rw [zsec]
      refine L_y rfl (y_assign rfl) rfl ?_
      refine L_nil ?_
      refine C_ret ?_
      refine B_ret (rv_cellA rfl ag_32 sz_32 (sees 4 0 rfl) (by first | (rw [bs_length, rS_len _ h.oks]; decide) | (rw [bs_length, secOf_len]; decide)) (by first | exact bs_whole0 _ (rS_len _ h.oks) | exact bs_whole0 _ (secOf_len 0)) (rv_tmp rfl rv_nil)) ((hsub (.cons_cons _ (.cons_cons _ (.cons _ (.cons _ (.cons _ (.refl _))))))).trans (hsub_pick [3, 1] rfl)) ?_
      exact ⟨by simp_all [mrE, mrS, okAt] <;> rfl, rfl⟩
  · skip
    refine L_skip rfl rfl ?_
    refine L_skip rfl rfl ?_
    refine L_skip rfl rfl ?_
    refine L_skip rfl rfl ?_
    refine L_skip rfl rfl ?_
    refine L_skip rfl rfl ?_
    refine L_skip rfl rfl ?_
    refine L_skip rfl rfl ?_
    refine L_skip rfl rfl ?_
    refine L_skip rfl rfl ?_
    refine L_y rfl (y_pick_f rfl rfl) rfl ?_
    refine L_y rfl (y_move rfl) rfl ?_
    refine L_skip rfl rfl ?_
    refine L_skip rfl rfl ?_
    refine L_skip rfl rfl ?_
    refine L_skip rfl rfl ?_
    refine L_y rfl (y_pick_f rfl rfl) rfl ?_
    refine L_nil ?_
    refine C_cond_f rfl ?_
    refine C_skip ?_
    refine C_region ?_
    refine L_y rfl (y_add rfl rfl (show _ = (1 : Int) from rfl)) rfl ?_
    refine L_y rfl (y_move rfl) rfl ?_
    refine L_nil ?_
    refine In_round ?_
    refine C_seq ?_
    refine C_region ?_
    refine L_y rfl (y_lss rfl rfl) rfl ?_
    refine L_nil ?_
    refine C_seq ?_
    refine C_cond_f rfl ?_
    refine C_exit ?_
    refine C_seq ?_
    refine C_region ?_
    refine L_y rfl (y_buildA0 Try.underlying32 sz_5 zl_32) rfl ?_
    refine L_op rfl (op_storeA 4 0 rfl rfl rfl sz_32 (by rw [zsec, bs_length, secOf_len]) rfl (by rw [zsec]; exact bs_one _) (by simp) ?_)
    rw [zsec]
    refine L_y rfl (y_assign rfl) rfl ?_
    refine L_nil ?_
    refine C_ret ?_
    refine B_ret (rv_cellA rfl ag_32 sz_32 (sees 4 0 rfl) (by first | (rw [bs_length, rS_len _ h.oks]; decide) | (rw [bs_length, secOf_len]; decide)) (by first | exact bs_whole0 _ (rS_len _ h.oks) | exact bs_whole0 _ (secOf_len 0)) (rv_tmp rfl rv_nil)) ((hsub (.cons_cons _ (.cons_cons _ (.cons _ (.cons _ (.cons _ (.refl _))))))).trans (hsub_pick [3, 1] rfl)) ?_
    exact ⟨by simp_all [mrE, mrS, okAt] <;> rfl, rfl⟩

theorem mread_ff {w0 : World} {H : Hp} {D : Duo} {A : Da} {bp : Nat} {m : Mi} (h : Two dt D A m.bx m.bys bp) {p : Int → Sec → Bool} (hG : GoodAt Try.prog w0 H m.gv p) (n : Int) (hn : m.has n = true) (hp : thr A false = false) (hq : thr A true = false) : FnS Try.prog w0 22 #[ptr m.b, .int .i64 n] (m.seg 104 :: D.seg dt :: H) (fun e H' => e = .returned (.tuple #[.agg (bs (mrS m A p n)).toArray, .int .i64 (mrE m A p n)]) ∧ H' = m.seg 104 :: D.seg dt :: H) := by
  refine FnS_intro (n := 63) (rs := [.cell 4 32, .tmp 5]) (vs := [ptr m.b, .int .i64 n]) Try.func22 rfl Try.ntmps22 rfl rfl ?_
  refine C_seq ?_
  refine C_region ?_
  refine L_op rfl (op_alloc zl_32 rfl (fun B1 => ?_))
  refine L_y rfl (y_assign rfl) rfl ?_
  refine L_nil ?_
  refine C_seq ?_
  refine C_seq ?_
  refine C_region ?_
  refine L_y rfl (y_move rfl) rfl ?_
  refine L_y rfl (y_move rfl) rfl ?_
  refine L_op rfl (op_call rfl rfl (fun a w => Try.call55 a w) rfl ?_)
  refine (has_m _ (sees 1 0 rfl)).mono ?_
  rintro _ _ ⟨rfl, rfl⟩
  rw [hn]
  refine ⟨_, rfl, ?_⟩
  refine L_y rfl (y_not rfl) rfl ?_
  refine L_nil ?_
  refine C_cond_f rfl ?_
  refine C_skip ?_
  refine C_seq ?_
  refine C_region ?_
  refine L_y rfl (y_move rfl) rfl ?_
  refine L_op rfl (op_call rfl rfl (fun a w => Try.call56 a w) rfl ?_)
  refine ((present_ff h hp hq).sub (hsub_pick [1, 1] rfl)).mono ?_
  rintro _ _ ⟨rfl, rfl⟩
  refine ⟨_, rfl, ?_⟩
  refine L_y rfl (y_assign rfl) rfl ?_
  refine L_nil ?_
  refine C_seq ?_
  refine C_seq ?_
  refine C_region ?_
  refine L_y rfl (y_move rfl) rfl ?_
  refine L_y rfl (y_lenS rfl rfl Try.underlying112) rfl ?_
  refine L_y rfl (y_eqi rfl rfl) rfl ?_
  refine L_nil ?_
  refine C_cond_t rfl ?_
  refine C_seq ?_
  refine C_region ?_
  refine L_y rfl (y_buildA0 Try.underlying32 sz_5 zl_32) rfl ?_
  refine L_op rfl (op_storeA 2 0 rfl rfl rfl sz_32 (by rw [zsec, bs_length, secOf_len]) rfl (by rw [zsec]; exact bs_one _) (by simp) ?_)
  rw [zsec]
  refine L_y rfl (y_assign rfl) rfl ?_
  refine L_nil ?_
  refine C_ret ?_
  refine B_ret (rv_cellA rfl ag_32 sz_32 (sees 2 0 rfl) (by first | (rw [bs_length, rS_len _ h.oks]; decide) | (rw [bs_length, secOf_len]; decide)) (by first | exact bs_whole0 _ (rS_len _ h.oks) | exact bs_whole0 _ (secOf_len 0)) (rv_tmp rfl rv_nil)) ((hsub (.cons_cons _ (.cons_cons _ (.cons _ (.refl _))))).trans (hsub_pick [0, 0] rfl)) ?_
  exact ⟨by simp_all [mrE, mrS, okAt] <;> rfl, rfl⟩

theorem mread_m {w0 : World} {H : Hp} {D : Duo} {A : Da} {bp : Nat} {m : Mi} (h : Two dt D A m.bx m.bys bp) {p : Int → Sec → Bool} (hG : GoodAt Try.prog w0 H m.gv p) (n : Int) : FnS Try.prog w0 22 #[ptr m.b, .int .i64 n] (m.seg 104 :: D.seg dt :: H) (fun e H' => e = .returned (.tuple #[.agg (bs (mrS m A p n)).toArray, .int .i64 (mrE m A p n)]) ∧ H' = m.seg 104 :: D.seg dt :: H) := by
  cases hn : m.has n
  · exact mread_no h hG n hn
  · cases hp : thr A false <;> cases hq : thr A true
    · exact mread_ff h hG n hn hp hq
    · exact mread_ft h hG n hn hp hq
    · exact mread_tf h hG n hn hp hq
    · exact mread_tt h hG n hn hp hq

end Go.Proofs.Ytfijmjolchdkfaa
