/- Own work: texts MeW, VqW, MhW, MbW, MnW, VzW, VwW, VnW, VrW, VhW, VdW, LaW, St, Se, L3W, put together. -/
import Derived.Test.YtjjiclgbdenkkaaMMirrorHealsd
/- walks (own work; the walks' lines by a program of this repo). -/
set_option linter.unusedVariables false
set_option linter.unusedSimpArgs false
set_option maxRecDepth 20000
namespace Go.Proofs.Ytjjiclgbdenkkaa
open Go.Sl
attribute [local irreducible] BodyQ WpC WpL WpS WpH OpW FnS


theorem mread_no {w0 : World} {H : Hp} {D : Duo} {A : Da} {bp : Nat} {m : Mi} (h : Two dt D A m.bx m.bys bp) {p : Int → Sec → Bool} (hG : GoodAt Try.prog w0 H m.gv p) (n : Int) (hn : m.has n = false) : FnS Try.prog w0 22 #[ptr m.b, .int .i64 n] (m.seg 110 :: D.seg dt :: H) (fun e H' => e = .returned (.tuple #[.agg (bs (mrS m A p n)).toArray, .int .i64 (mrE m A p n)]) ∧ H' = m.seg 110 :: D.seg dt :: H) := by
  refine FnS_intro (n := 63) (rs := [.cell 4 32, .tmp 5]) (vs := [ptr m.b, .int .i64 n]) Try.func22 rfl Try.ntmps22 rfl rfl ?_
  refine C_seq (C_region ?_)
  refine L_op rfl (op_alloc zl_32 rfl (fun B1 => ?_))
  refine LY rfl (y_assign rfl) (L_nil (C_seq (C_seq (C_region (LY rfl (y_move rfl) (LY rfl (y_move rfl) ?_))))))
  refine L_op rfl (op_call rfl rfl (fun a w => Try.call58 a w) rfl ?_)
  refine (has_m _ (sees 1 0 rfl)).mono ?_
  rintro _ _ ⟨rfl, rfl⟩
  rw [hn]
  refine ⟨_, rfl, ?_⟩
  refine LY rfl (y_not rfl) (L_nil (C_cond_t rfl (C_seq (C_region ?_))))
  refine LY rfl (y_buildA0 Try.underlying32 sz_5 zl_32) ?_
  refine L_op rfl (op_storeA 0 0 rfl rfl rfl sz_32 (by rw [zsec, bs_length, secOf_len]) rfl (by rw [zsec]; exact bs_one _) (by simp) ?_)
  rw [zsec]
  refine LY rfl (y_assign rfl) (L_nil (C_ret ?_))
  refine B_ret (rv_cellA rfl ag_32 sz_32 (sees 0 0 rfl) (by first | (rw [bs_length, rS_len _ h.oks]; decide) | (rw [bs_length, secOf_len]; decide)) (by first | exact bs_whole0 _ (rS_len _ h.oks) | exact bs_whole0 _ (secOf_len 0)) (rv_tmp rfl rv_nil)) ((hsub (.cons_cons _ (.cons_cons _ (.cons _ (.refl _))))).trans (hsub_pick [1, 1] rfl)) ?_
  exact ⟨by simp_all [mrE, mrS, okAt] <;> rfl, rfl⟩

theorem mread_tt {w0 : World} {H : Hp} {D : Duo} {A : Da} {bp : Nat} {m : Mi} (h : Two dt D A m.bx m.bys bp) {p : Int → Sec → Bool} (hG : GoodAt Try.prog w0 H m.gv p) (n : Int) (hn : m.has n = true) (hp : thr A false = true) (hq : thr A true = true) : FnS Try.prog w0 22 #[ptr m.b, .int .i64 n] (m.seg 110 :: D.seg dt :: H) (fun e H' => e = .returned (.tuple #[.agg (bs (mrS m A p n)).toArray, .int .i64 (mrE m A p n)]) ∧ H' = m.seg 110 :: D.seg dt :: H) := by
  refine FnS_intro (n := 63) (rs := [.cell 4 32, .tmp 5]) (vs := [ptr m.b, .int .i64 n]) Try.func22 rfl Try.ntmps22 rfl rfl ?_
  refine C_seq (C_region ?_)
  refine L_op rfl (op_alloc zl_32 rfl (fun B1 => ?_))
  refine LY rfl (y_assign rfl) (L_nil (C_seq (C_seq (C_region (LY rfl (y_move rfl) (LY rfl (y_move rfl) ?_))))))
  refine L_op rfl (op_call rfl rfl (fun a w => Try.call58 a w) rfl ?_)
  refine (has_m _ (sees 1 0 rfl)).mono ?_
  rintro _ _ ⟨rfl, rfl⟩
  rw [hn]
  refine ⟨_, rfl, ?_⟩
  refine LY rfl (y_not rfl) (L_nil (C_cond_f rfl (C_skip (C_seq (C_region (LY rfl (y_move rfl) ?_))))))
  refine L_op rfl (op_call rfl rfl (fun a w => Try.call59 a w) rfl ?_)
  refine ((present_tt h hp hq).sub (hsub_pick [1, 1] rfl)).mono ?_
  rintro _ _ ⟨g1, hg1, rfl, rfl⟩
  cases g1 with
  | none => exact slOk_none hg1 (by decide)
  | some g1 => ?_
  refine ⟨_, rfl, ?_⟩
  refine LY rfl (y_assign rfl) (L_nil (C_seq (C_seq (C_region (LY rfl (y_move rfl) ?_)))))
  refine LY rfl (y_lenS rfl rfl Try.underlying118) ?_
  refine LY rfl (y_eqi rfl rfl) (L_nil (C_cond_f rfl (C_skip (C_seq (C_seq (C_region (LY rfl (y_move rfl) ?_)))))))
  refine LY rfl (y_lenS rfl rfl Try.underlying118) ?_
  refine LY rfl (y_move rfl) (L_nil (C_block ?_))
  refine C_loopIn (In_round ?_)
  refine C_seq (C_region (LY rfl (y_lss rfl rfl) (L_nil (C_seq (C_cond_t rfl (C_skip (C_seq (C_block (C_seq (C_region ?_))))))))))
  refine LY rfl (y_indexS rfl rfl Try.underlying118 sz_3 (by omega) (by omega) (show _ = 0 from rfl)) ?_
  refine LY rfl (y_load rfl ag_3 (sees 0 0 rfl) rfl) (LY rfl (y_assign rfl) (L_nil (C_seq (C_region (LY rfl (y_move rfl) (LY rfl (y_move rfl) (LY rfl (y_nilCheck rfl) (LY rfl (y_fieldAddr rfl fl_110_0) ?_))))))))
  refine LY rfl (y_indexA rfl rfl Try.underlying108 sz_107 (by omega) (by omega) (show _ = 0 from rfl)) ?_
  refine LY rfl (y_fieldAddr rfl fl_107_0) (LY rfl (y_load rfl ag_24 (sees 1 0 rfl) rfl) (LY rfl (y_move rfl) ?_))
  refine L_op rfl (op_call rfl rfl (fun a w => Try.call60 a w) rfl ?_)
  refine ((read_d h false (n)).sub (hsub_pick [2] rfl)).mono ?_
  rintro _ _ ⟨rfl, rfl⟩
  refine ⟨_, rfl, ?_⟩
  refine LY rfl (y_move rfl) (LY rfl (y_extract rfl rfl) (LY rfl (y_extract rfl rfl) ?_))
  refine L_op rfl (op_alloc zl_32 rfl (fun B2 => ?_))
  refine L_op rfl (op_storeA 0 0 rfl rfl rfl sz_32 (by rw [bs_length, (rS_len false h.oks)]) rfl (bs_one _) (by simp) ?_)
  refine LY rfl (y_assign rfl) (L_nil (C_seq (C_region (LY rfl (y_move rfl) (LY rfl (y_eqi rfl rfl) (LY rfl (y_move rfl) ?_))))))
  refine L_case 42 rfl (fun hg10_3 => ?_) (fun hg10_3 => ?_)
  · skip
    refine LY rfl (y_move rfl) (LY rfl (y_move rfl) (LY rfl (y_nilCheck rfl) (LY rfl (y_fieldAddr rfl fl_110_0) ?_)))
    refine LY rfl (y_indexA rfl rfl Try.underlying108 sz_107 (by omega) (by omega) (show _ = 0 from rfl)) ?_
    refine LY rfl (y_fieldAddr rfl fl_107_1) (LY rfl (y_load rfl ag_105 (sees 3 0 rfl) rfl) (LY rfl (y_move rfl) ?_))
    refine LY rfl (y_lookup rfl rfl Try.underlying105 Try.underlying3 zt_4 (sees 3 1 rfl)) ?_
    refine LY rfl (y_not rfl) (LY rfl (y_pick_t rfl rfl) (LY rfl (y_move rfl) ?_))
    refine L_case 54 rfl (fun hg10_15 => ?_) (fun hg10_15 => ?_)
    · skip
      refine LY rfl (y_move rfl) (LY rfl (y_move rfl) ?_)
      refine LY rfl (y_loadA rfl ag_32 sz_32 (sees 0 0 rfl) (by rw [bs_length, rS_len _ h.oks]; decide) (bs_whole0 _ (rS_len _ h.oks))) ?_
      refine L_op rfl (op_call rfl rfl (fun a w => Try.call61 a w) rfl ?_)
      refine FnS.mono (right_m (sees 3 0 rfl) (hG.sub (hsub (.cons _ (.cons _ (.cons _ (.cons _ (.cons _ (.refl _)))))))) n _ (rS_len _ h.oks)) ?_
      rintro _ _ ⟨rfl, e⟩
      obtain rfl := e.symm
      refine ⟨_, rfl, ?_⟩
      refine LY rfl (y_pick_t rfl rfl) (L_nil ?_)
      refine C_cond rfl (fun hc3 => ?_) (fun hc3 => ?_)
      · skip
        refine C_seq (C_region ?_)
        refine LY rfl (y_loadA rfl ag_32 sz_32 (sees 0 0 rfl) (by rw [bs_length, rS_len _ h.oks]; decide) (bs_whole0 _ (rS_len _ h.oks))) ?_
        refine L_op rfl (op_storeA 4 0 rfl rfl rfl sz_32 (by rw [bs_length, rS_len _ h.oks]) rfl (bs_one _) (by simp) ?_)
        refine LY rfl (y_assign rfl) (L_nil (C_ret ?_))
        refine B_ret (rv_cellA rfl ag_32 sz_32 (sees 4 0 rfl) (by first | (rw [bs_length, rS_len _ h.oks]; decide) | (rw [bs_length, secOf_len]; decide)) (by first | exact bs_whole0 _ (rS_len _ h.oks) | exact bs_whole0 _ (secOf_len 0)) (rv_tmp rfl rv_nil)) ((hsub (.cons_cons _ (.cons_cons _ (.cons _ (.cons _ (.cons _ (.refl _))))))).trans (hsub_pick [3, 1] rfl)) ?_
        exact ⟨by simp_all [mrE, mrS, okAt] <;> rfl, rfl⟩
      · skip
        refine C_skip (C_region ?_)
        refine LY rfl (y_add rfl rfl (show _ = (1 : Int) from rfl)) ?_
        refine LY rfl (y_move rfl) (L_nil ?_)
        refine In_round ?_
        refine C_seq (C_region (LY rfl (y_lss rfl rfl) (L_nil (C_seq (C_cond_t rfl (C_skip (C_seq (C_block (C_seq (C_region ?_))))))))))
        refine LY rfl (y_indexS rfl rfl Try.underlying118 sz_3 (by omega) (by omega) (show _ = 1 from rfl)) ?_
        refine LY rfl (y_load rfl ag_3 (sees 2 0 rfl) rfl) (LY rfl (y_assign rfl) (L_nil (C_seq (C_region (LY rfl (y_move rfl) (LY rfl (y_move rfl) (LY rfl (y_nilCheck rfl) (LY rfl (y_fieldAddr rfl fl_110_0) ?_))))))))
        refine LY rfl (y_indexA rfl rfl Try.underlying108 sz_107 (by omega) (by omega) (show _ = 2 from rfl)) ?_
        refine LY rfl (y_fieldAddr rfl fl_107_0) (LY rfl (y_load rfl ag_24 (sees 3 0 rfl) rfl) (LY rfl (y_move rfl) ?_))
        refine L_op rfl (op_call rfl rfl (fun a w => Try.call60 a w) rfl ?_)
        refine ((read_d h true (n)).sub (hsub_pick [1] rfl)).mono ?_
        rintro _ _ ⟨rfl, rfl⟩
        refine ⟨_, rfl, ?_⟩
        refine LY rfl (y_move rfl) (LY rfl (y_extract rfl rfl) (LY rfl (y_extract rfl rfl) ?_))
        refine L_op rfl (op_alloc zl_32 rfl (fun B3 => ?_))
        refine L_op rfl (op_storeA 0 0 rfl rfl rfl sz_32 (by rw [bs_length, (rS_len true h.oks)]) rfl (bs_one _) (by simp) ?_)
        refine LY rfl (y_assign rfl) (L_nil (C_seq (C_region (LY rfl (y_move rfl) (LY rfl (y_eqi rfl rfl) (LY rfl (y_move rfl) ?_))))))
        refine L_case 42 rfl (fun hg10_3 => ?_) (fun hg10_3 => ?_)
        · skip
          refine LY rfl (y_move rfl) (LY rfl (y_move rfl) (LY rfl (y_nilCheck rfl) (LY rfl (y_fieldAddr rfl fl_110_0) ?_)))
          refine LY rfl (y_indexA rfl rfl Try.underlying108 sz_107 (by omega) (by omega) (show _ = 2 from rfl)) ?_
          refine LY rfl (y_fieldAddr rfl fl_107_1) (LY rfl (y_load rfl ag_105 (sees 4 0 rfl) rfl) (LY rfl (y_move rfl) ?_))
          refine LY rfl (y_lookup rfl rfl Try.underlying105 Try.underlying3 zt_4 (sees 4 2 rfl)) ?_
          refine LY rfl (y_not rfl) (LY rfl (y_pick_t rfl rfl) (LY rfl (y_move rfl) ?_))
          refine L_case 54 rfl (fun hg10_15 => ?_) (fun hg10_15 => ?_)
          · skip
            refine LY rfl (y_move rfl) (LY rfl (y_move rfl) ?_)
            refine LY rfl (y_loadA rfl ag_32 sz_32 (sees 0 0 rfl) (by rw [bs_length, rS_len _ h.oks]; decide) (bs_whole0 _ (rS_len _ h.oks))) ?_
            refine L_op rfl (op_call rfl rfl (fun a w => Try.call61 a w) rfl ?_)
            refine FnS.mono (right_m (sees 4 0 rfl) (hG.sub (hsub (.cons _ (.cons _ (.cons _ (.cons _ (.cons _ (.cons _ (.refl _))))))))) n _ (rS_len _ h.oks)) ?_
            rintro _ _ ⟨rfl, e⟩
            obtain rfl := e.symm
            refine ⟨_, rfl, ?_⟩
            refine LY rfl (y_pick_t rfl rfl) (L_nil ?_)
            refine C_cond rfl (fun hc3 => ?_) (fun hc3 => ?_)
            · skip
              refine C_seq (C_region ?_)
              refine LY rfl (y_loadA rfl ag_32 sz_32 (sees 0 0 rfl) (by rw [bs_length, rS_len _ h.oks]; decide) (bs_whole0 _ (rS_len _ h.oks))) ?_
              refine L_op rfl (op_storeA 5 0 rfl rfl rfl sz_32 (by rw [bs_length, rS_len _ h.oks]) rfl (bs_one _) (by simp) ?_)
              refine LY rfl (y_assign rfl) (L_nil (C_ret ?_))
              refine B_ret (rv_cellA rfl ag_32 sz_32 (sees 5 0 rfl) (by first | (rw [bs_length, rS_len _ h.oks]; decide) | (rw [bs_length, secOf_len]; decide)) (by first | exact bs_whole0 _ (rS_len _ h.oks) | exact bs_whole0 _ (secOf_len 0)) (rv_tmp rfl rv_nil)) ((hsub (.cons_cons _ (.cons_cons _ (.cons _ (.cons _ (.cons _ (.cons _ (.refl _)))))))).trans (hsub_pick [4, 1] rfl)) ?_
              exact ⟨by simp_all [mrE, mrS, okAt] <;> rfl, rfl⟩
            · skip
              refine C_skip (C_region ?_)
              refine LY rfl (y_add rfl rfl (show _ = (2 : Int) from rfl)) ?_
              refine LY rfl (y_move rfl) (L_nil ?_)
              refine In_round ?_
              refine C_seq (C_region (LY rfl (y_lss rfl rfl) (L_nil (C_seq (C_cond_f rfl (C_exit (C_seq (C_region ?_))))))))
              refine LY rfl (y_buildA0 Try.underlying32 sz_5 zl_32) ?_
              refine L_op rfl (op_storeA 5 0 rfl rfl rfl sz_32 (by rw [zsec, bs_length, secOf_len]) rfl (by rw [zsec]; exact bs_one _) (by simp) ?_)
              rw [zsec]
              refine LY rfl (y_assign rfl) (L_nil (C_ret ?_))
              refine B_ret (rv_cellA rfl ag_32 sz_32 (sees 5 0 rfl) (by first | (rw [bs_length, rS_len _ h.oks]; decide) | (rw [bs_length, secOf_len]; decide)) (by first | exact bs_whole0 _ (rS_len _ h.oks) | exact bs_whole0 _ (secOf_len 0)) (rv_tmp rfl rv_nil)) ((hsub (.cons_cons _ (.cons_cons _ (.cons _ (.cons _ (.cons _ (.cons _ (.refl _)))))))).trans (hsub_pick [4, 1] rfl)) ?_
              exact ⟨by simp_all [mrE, mrS, okAt] <;> rfl, rfl⟩
          · skip
            refine L_skip rfl rfl (L_skip rfl rfl (L_skip rfl rfl (L_skip rfl rfl (LY rfl (y_pick_f rfl rfl) (L_nil (C_cond_f rfl (C_skip (C_region ?_))))))))
            refine LY rfl (y_add rfl rfl (show _ = (2 : Int) from rfl)) ?_
            refine LY rfl (y_move rfl) (L_nil ?_)
            refine In_round ?_
            refine C_seq (C_region (LY rfl (y_lss rfl rfl) (L_nil (C_seq (C_cond_f rfl (C_exit (C_seq (C_region ?_))))))))
            refine LY rfl (y_buildA0 Try.underlying32 sz_5 zl_32) ?_
            refine L_op rfl (op_storeA 5 0 rfl rfl rfl sz_32 (by rw [zsec, bs_length, secOf_len]) rfl (by rw [zsec]; exact bs_one _) (by simp) ?_)
            rw [zsec]
            refine LY rfl (y_assign rfl) (L_nil (C_ret ?_))
            refine B_ret (rv_cellA rfl ag_32 sz_32 (sees 5 0 rfl) (by first | (rw [bs_length, rS_len _ h.oks]; decide) | (rw [bs_length, secOf_len]; decide)) (by first | exact bs_whole0 _ (rS_len _ h.oks) | exact bs_whole0 _ (secOf_len 0)) (rv_tmp rfl rv_nil)) ((hsub (.cons_cons _ (.cons_cons _ (.cons _ (.cons _ (.cons _ (.cons _ (.refl _)))))))).trans (hsub_pick [4, 1] rfl)) ?_
            exact ⟨by simp_all [mrE, mrS, okAt] <;> rfl, rfl⟩
        · skip
          refine L_skip rfl rfl (L_skip rfl rfl (L_skip rfl rfl (L_skip rfl rfl (L_skip rfl rfl (L_skip rfl rfl (L_skip rfl rfl (L_skip rfl rfl (L_skip rfl rfl (L_skip rfl rfl (LY rfl (y_pick_f rfl rfl) (LY rfl (y_move rfl) (L_skip rfl rfl (L_skip rfl rfl (L_skip rfl rfl (L_skip rfl rfl (LY rfl (y_pick_f rfl rfl) (L_nil (C_cond_f rfl (C_skip (C_region ?_))))))))))))))))))))
          refine LY rfl (y_add rfl rfl (show _ = (2 : Int) from rfl)) ?_
          refine LY rfl (y_move rfl) (L_nil ?_)
          refine In_round ?_
          refine C_seq (C_region (LY rfl (y_lss rfl rfl) (L_nil (C_seq (C_cond_f rfl (C_exit (C_seq (C_region ?_))))))))
          refine LY rfl (y_buildA0 Try.underlying32 sz_5 zl_32) ?_
          refine L_op rfl (op_storeA 5 0 rfl rfl rfl sz_32 (by rw [zsec, bs_length, secOf_len]) rfl (by rw [zsec]; exact bs_one _) (by simp) ?_)
          rw [zsec]
          refine LY rfl (y_assign rfl) (L_nil (C_ret ?_))
          refine B_ret (rv_cellA rfl ag_32 sz_32 (sees 5 0 rfl) (by first | (rw [bs_length, rS_len _ h.oks]; decide) | (rw [bs_length, secOf_len]; decide)) (by first | exact bs_whole0 _ (rS_len _ h.oks) | exact bs_whole0 _ (secOf_len 0)) (rv_tmp rfl rv_nil)) ((hsub (.cons_cons _ (.cons_cons _ (.cons _ (.cons _ (.cons _ (.cons _ (.refl _)))))))).trans (hsub_pick [4, 1] rfl)) ?_
          exact ⟨by simp_all [mrE, mrS, okAt] <;> rfl, rfl⟩
    · skip
      refine L_skip rfl rfl (L_skip rfl rfl (L_skip rfl rfl (L_skip rfl rfl (LY rfl (y_pick_f rfl rfl) (L_nil (C_cond_f rfl (C_skip (C_region ?_))))))))
      refine LY rfl (y_add rfl rfl (show _ = (1 : Int) from rfl)) ?_
      refine LY rfl (y_move rfl) (L_nil ?_)
      refine In_round ?_
      refine C_seq (C_region (LY rfl (y_lss rfl rfl) (L_nil (C_seq (C_cond_t rfl (C_skip (C_seq (C_block (C_seq (C_region ?_))))))))))
      refine LY rfl (y_indexS rfl rfl Try.underlying118 sz_3 (by omega) (by omega) (show _ = 1 from rfl)) ?_
      refine LY rfl (y_load rfl ag_3 (sees 2 0 rfl) rfl) (LY rfl (y_assign rfl) (L_nil (C_seq (C_region (LY rfl (y_move rfl) (LY rfl (y_move rfl) (LY rfl (y_nilCheck rfl) (LY rfl (y_fieldAddr rfl fl_110_0) ?_))))))))
      refine LY rfl (y_indexA rfl rfl Try.underlying108 sz_107 (by omega) (by omega) (show _ = 2 from rfl)) ?_
      refine LY rfl (y_fieldAddr rfl fl_107_0) (LY rfl (y_load rfl ag_24 (sees 3 0 rfl) rfl) (LY rfl (y_move rfl) ?_))
      refine L_op rfl (op_call rfl rfl (fun a w => Try.call60 a w) rfl ?_)
      refine ((read_d h true (n)).sub (hsub_pick [1] rfl)).mono ?_
      rintro _ _ ⟨rfl, rfl⟩
      refine ⟨_, rfl, ?_⟩
      refine LY rfl (y_move rfl) (LY rfl (y_extract rfl rfl) (LY rfl (y_extract rfl rfl) ?_))
      refine L_op rfl (op_alloc zl_32 rfl (fun B4 => ?_))
      refine L_op rfl (op_storeA 0 0 rfl rfl rfl sz_32 (by rw [bs_length, (rS_len true h.oks)]) rfl (bs_one _) (by simp) ?_)
      refine LY rfl (y_assign rfl) (L_nil (C_seq (C_region (LY rfl (y_move rfl) (LY rfl (y_eqi rfl rfl) (LY rfl (y_move rfl) ?_))))))
      refine L_case 42 rfl (fun hg10_3 => ?_) (fun hg10_3 => ?_)
      · skip
        refine LY rfl (y_move rfl) (LY rfl (y_move rfl) (LY rfl (y_nilCheck rfl) (LY rfl (y_fieldAddr rfl fl_110_0) ?_)))
        refine LY rfl (y_indexA rfl rfl Try.underlying108 sz_107 (by omega) (by omega) (show _ = 2 from rfl)) ?_
        refine LY rfl (y_fieldAddr rfl fl_107_1) (LY rfl (y_load rfl ag_105 (sees 4 0 rfl) rfl) (LY rfl (y_move rfl) ?_))
        refine LY rfl (y_lookup rfl rfl Try.underlying105 Try.underlying3 zt_4 (sees 4 2 rfl)) ?_
        refine LY rfl (y_not rfl) (LY rfl (y_pick_t rfl rfl) (LY rfl (y_move rfl) ?_))
        refine L_case 54 rfl (fun hg10_15 => ?_) (fun hg10_15 => ?_)
        · skip
          refine LY rfl (y_move rfl) (LY rfl (y_move rfl) ?_)
          refine LY rfl (y_loadA rfl ag_32 sz_32 (sees 0 0 rfl) (by rw [bs_length, rS_len _ h.oks]; decide) (bs_whole0 _ (rS_len _ h.oks))) ?_
          refine L_op rfl (op_call rfl rfl (fun a w => Try.call61 a w) rfl ?_)
          refine FnS.mono (right_m (sees 4 0 rfl) (hG.sub (hsub (.cons _ (.cons _ (.cons _ (.cons _ (.cons _ (.cons _ (.refl _))))))))) n _ (rS_len _ h.oks)) ?_
          rintro _ _ ⟨rfl, e⟩
          obtain rfl := e.symm
          refine ⟨_, rfl, ?_⟩
          refine LY rfl (y_pick_t rfl rfl) (L_nil ?_)
          refine C_cond rfl (fun hc3 => ?_) (fun hc3 => ?_)
          · skip
            refine C_seq (C_region ?_)
            refine LY rfl (y_loadA rfl ag_32 sz_32 (sees 0 0 rfl) (by rw [bs_length, rS_len _ h.oks]; decide) (bs_whole0 _ (rS_len _ h.oks))) ?_
            refine L_op rfl (op_storeA 5 0 rfl rfl rfl sz_32 (by rw [bs_length, rS_len _ h.oks]) rfl (bs_one _) (by simp) ?_)
            refine LY rfl (y_assign rfl) (L_nil (C_ret ?_))
            refine B_ret (rv_cellA rfl ag_32 sz_32 (sees 5 0 rfl) (by first | (rw [bs_length, rS_len _ h.oks]; decide) | (rw [bs_length, secOf_len]; decide)) (by first | exact bs_whole0 _ (rS_len _ h.oks) | exact bs_whole0 _ (secOf_len 0)) (rv_tmp rfl rv_nil)) ((hsub (.cons_cons _ (.cons_cons _ (.cons _ (.cons _ (.cons _ (.cons _ (.refl _)))))))).trans (hsub_pick [4, 1] rfl)) ?_
            exact ⟨by simp_all [mrE, mrS, okAt] <;> rfl, rfl⟩
          · skip
            refine C_skip (C_region ?_)
            refine LY rfl (y_add rfl rfl (show _ = (2 : Int) from rfl)) ?_
            refine LY rfl (y_move rfl) (L_nil ?_)
            refine In_round ?_
            refine C_seq (C_region (LY rfl (y_lss rfl rfl) (L_nil (C_seq (C_cond_f rfl (C_exit (C_seq (C_region ?_))))))))
            refine LY rfl (y_buildA0 Try.underlying32 sz_5 zl_32) ?_
            refine L_op rfl (op_storeA 5 0 rfl rfl rfl sz_32 (by rw [zsec, bs_length, secOf_len]) rfl (by rw [zsec]; exact bs_one _) (by simp) ?_)
            rw [zsec]
            refine LY rfl (y_assign rfl) (L_nil (C_ret ?_))
            refine B_ret (rv_cellA rfl ag_32 sz_32 (sees 5 0 rfl) (by first | (rw [bs_length, rS_len _ h.oks]; decide) | (rw [bs_length, secOf_len]; decide)) (by first | exact bs_whole0 _ (rS_len _ h.oks) | exact bs_whole0 _ (secOf_len 0)) (rv_tmp rfl rv_nil)) ((hsub (.cons_cons _ (.cons_cons _ (.cons _ (.cons _ (.cons _ (.cons _ (.refl _)))))))).trans (hsub_pick [4, 1] rfl)) ?_
            exact ⟨by simp_all [mrE, mrS, okAt] <;> rfl, rfl⟩
        · skip
          refine L_skip rfl rfl (L_skip rfl rfl (L_skip rfl rfl (L_skip rfl rfl (LY rfl (y_pick_f rfl rfl) (L_nil (C_cond_f rfl (C_skip (C_region ?_))))))))
          refine LY rfl (y_add rfl rfl (show _ = (2 : Int) from rfl)) ?_
          refine LY rfl (y_move rfl) (L_nil ?_)
          refine In_round ?_
          refine C_seq (C_region (LY rfl (y_lss rfl rfl) (L_nil (C_seq (C_cond_f rfl (C_exit (C_seq (C_region ?_))))))))
          refine LY rfl (y_buildA0 Try.underlying32 sz_5 zl_32) ?_
          refine L_op rfl (op_storeA 5 0 rfl rfl rfl sz_32 (by rw [zsec, bs_length, secOf_len]) rfl (by rw [zsec]; exact bs_one _) (by simp) ?_)
          rw [zsec]
          refine LY rfl (y_assign rfl) (L_nil (C_ret ?_))
          refine B_ret (rv_cellA rfl ag_32 sz_32 (sees 5 0 rfl) (by first | (rw [bs_length, rS_len _ h.oks]; decide) | (rw [bs_length, secOf_len]; decide)) (by first | exact bs_whole0 _ (rS_len _ h.oks) | exact bs_whole0 _ (secOf_len 0)) (rv_tmp rfl rv_nil)) ((hsub (.cons_cons _ (.cons_cons _ (.cons _ (.cons _ (.cons _ (.cons _ (.refl _)))))))).trans (hsub_pick [4, 1] rfl)) ?_
          exact ⟨by simp_all [mrE, mrS, okAt] <;> rfl, rfl⟩
      · skip
        refine L_skip rfl rfl (L_skip rfl rfl (L_skip rfl rfl (L_skip rfl rfl (L_skip rfl rfl (L_skip rfl rfl (L_skip rfl rfl (L_skip rfl rfl (L_skip rfl rfl (L_skip rfl rfl (LY rfl (y_pick_f rfl rfl) (LY rfl (y_move rfl) (L_skip rfl rfl (L_skip rfl rfl (L_skip rfl rfl (L_skip rfl rfl (LY rfl (y_pick_f rfl rfl) (L_nil (C_cond_f rfl (C_skip (C_region ?_))))))))))))))))))))
        refine LY rfl (y_add rfl rfl (show _ = (2 : Int) from rfl)) ?_
        refine LY rfl (y_move rfl) (L_nil ?_)
        refine In_round ?_
        refine C_seq (C_region (LY rfl (y_lss rfl rfl) (L_nil (C_seq (C_cond_f rfl (C_exit (C_seq (C_region ?_))))))))
        refine LY rfl (y_buildA0 Try.underlying32 sz_5 zl_32) ?_
        refine L_op rfl (op_storeA 5 0 rfl rfl rfl sz_32 (by rw [zsec, bs_length, secOf_len]) rfl (by rw [zsec]; exact bs_one _) (by simp) ?_)
        rw [zsec]
        refine LY rfl (y_assign rfl) (L_nil (C_ret ?_))
        refine B_ret (rv_cellA rfl ag_32 sz_32 (sees 5 0 rfl) (by first | (rw [bs_length, rS_len _ h.oks]; decide) | (rw [bs_length, secOf_len]; decide)) (by first | exact bs_whole0 _ (rS_len _ h.oks) | exact bs_whole0 _ (secOf_len 0)) (rv_tmp rfl rv_nil)) ((hsub (.cons_cons _ (.cons_cons _ (.cons _ (.cons _ (.cons _ (.cons _ (.refl _)))))))).trans (hsub_pick [4, 1] rfl)) ?_
        exact ⟨by simp_all [mrE, mrS, okAt] <;> rfl, rfl⟩
  · skip
    refine L_skip rfl rfl (L_skip rfl rfl (L_skip rfl rfl (L_skip rfl rfl (L_skip rfl rfl (L_skip rfl rfl (L_skip rfl rfl (L_skip rfl rfl (L_skip rfl rfl (L_skip rfl rfl (LY rfl (y_pick_f rfl rfl) (LY rfl (y_move rfl) (L_skip rfl rfl (L_skip rfl rfl (L_skip rfl rfl (L_skip rfl rfl (LY rfl (y_pick_f rfl rfl) (L_nil (C_cond_f rfl (C_skip (C_region ?_))))))))))))))))))))
    refine LY rfl (y_add rfl rfl (show _ = (1 : Int) from rfl)) ?_
    refine LY rfl (y_move rfl) (L_nil ?_)
    refine In_round ?_
    refine C_seq (C_region (LY rfl (y_lss rfl rfl) (L_nil (C_seq (C_cond_t rfl (C_skip (C_seq (C_block (C_seq (C_region ?_))))))))))
    refine LY rfl (y_indexS rfl rfl Try.underlying118 sz_3 (by omega) (by omega) (show _ = 1 from rfl)) ?_
    refine LY rfl (y_load rfl ag_3 (sees 2 0 rfl) rfl) (LY rfl (y_assign rfl) (L_nil (C_seq (C_region (LY rfl (y_move rfl) (LY rfl (y_move rfl) (LY rfl (y_nilCheck rfl) (LY rfl (y_fieldAddr rfl fl_110_0) ?_))))))))
    refine LY rfl (y_indexA rfl rfl Try.underlying108 sz_107 (by omega) (by omega) (show _ = 2 from rfl)) ?_
    refine LY rfl (y_fieldAddr rfl fl_107_0) (LY rfl (y_load rfl ag_24 (sees 3 0 rfl) rfl) (LY rfl (y_move rfl) ?_))
    refine L_op rfl (op_call rfl rfl (fun a w => Try.call60 a w) rfl ?_)
    refine ((read_d h true (n)).sub (hsub_pick [1] rfl)).mono ?_
    rintro _ _ ⟨rfl, rfl⟩
    refine ⟨_, rfl, ?_⟩
    refine LY rfl (y_move rfl) (LY rfl (y_extract rfl rfl) (LY rfl (y_extract rfl rfl) ?_))
    refine L_op rfl (op_alloc zl_32 rfl (fun B5 => ?_))
    refine L_op rfl (op_storeA 0 0 rfl rfl rfl sz_32 (by rw [bs_length, (rS_len true h.oks)]) rfl (bs_one _) (by simp) ?_)
    refine LY rfl (y_assign rfl) (L_nil (C_seq (C_region (LY rfl (y_move rfl) (LY rfl (y_eqi rfl rfl) (LY rfl (y_move rfl) ?_))))))
    refine L_case 42 rfl (fun hg10_3 => ?_) (fun hg10_3 => ?_)
    · skip
      refine LY rfl (y_move rfl) (LY rfl (y_move rfl) (LY rfl (y_nilCheck rfl) (LY rfl (y_fieldAddr rfl fl_110_0) ?_)))
      refine LY rfl (y_indexA rfl rfl Try.underlying108 sz_107 (by omega) (by omega) (show _ = 2 from rfl)) ?_
      refine LY rfl (y_fieldAddr rfl fl_107_1) (LY rfl (y_load rfl ag_105 (sees 4 0 rfl) rfl) (LY rfl (y_move rfl) ?_))
      refine LY rfl (y_lookup rfl rfl Try.underlying105 Try.underlying3 zt_4 (sees 4 2 rfl)) ?_
      refine LY rfl (y_not rfl) (LY rfl (y_pick_t rfl rfl) (LY rfl (y_move rfl) ?_))
      refine L_case 54 rfl (fun hg10_15 => ?_) (fun hg10_15 => ?_)
      · skip
        refine LY rfl (y_move rfl) (LY rfl (y_move rfl) ?_)
        refine LY rfl (y_loadA rfl ag_32 sz_32 (sees 0 0 rfl) (by rw [bs_length, rS_len _ h.oks]; decide) (bs_whole0 _ (rS_len _ h.oks))) ?_
        refine L_op rfl (op_call rfl rfl (fun a w => Try.call61 a w) rfl ?_)
        refine FnS.mono (right_m (sees 4 0 rfl) (hG.sub (hsub (.cons _ (.cons _ (.cons _ (.cons _ (.cons _ (.cons _ (.refl _))))))))) n _ (rS_len _ h.oks)) ?_
        rintro _ _ ⟨rfl, e⟩
        obtain rfl := e.symm
        refine ⟨_, rfl, ?_⟩
        refine LY rfl (y_pick_t rfl rfl) (L_nil ?_)
        refine C_cond rfl (fun hc3 => ?_) (fun hc3 => ?_)
        · skip
          refine C_seq (C_region ?_)
          refine LY rfl (y_loadA rfl ag_32 sz_32 (sees 0 0 rfl) (by rw [bs_length, rS_len _ h.oks]; decide) (bs_whole0 _ (rS_len _ h.oks))) ?_
          refine L_op rfl (op_storeA 5 0 rfl rfl rfl sz_32 (by rw [bs_length, rS_len _ h.oks]) rfl (bs_one _) (by simp) ?_)
          refine LY rfl (y_assign rfl) (L_nil (C_ret ?_))
          refine B_ret (rv_cellA rfl ag_32 sz_32 (sees 5 0 rfl) (by first | (rw [bs_length, rS_len _ h.oks]; decide) | (rw [bs_length, secOf_len]; decide)) (by first | exact bs_whole0 _ (rS_len _ h.oks) | exact bs_whole0 _ (secOf_len 0)) (rv_tmp rfl rv_nil)) ((hsub (.cons_cons _ (.cons_cons _ (.cons _ (.cons _ (.cons _ (.cons _ (.refl _)))))))).trans (hsub_pick [4, 1] rfl)) ?_
          exact ⟨by simp_all [mrE, mrS, okAt] <;> rfl, rfl⟩
        · skip
          refine C_skip (C_region ?_)
          refine LY rfl (y_add rfl rfl (show _ = (2 : Int) from rfl)) ?_
          refine LY rfl (y_move rfl) (L_nil ?_)
          refine In_round ?_
          refine C_seq (C_region (LY rfl (y_lss rfl rfl) (L_nil (C_seq (C_cond_f rfl (C_exit (C_seq (C_region ?_))))))))
          refine LY rfl (y_buildA0 Try.underlying32 sz_5 zl_32) ?_
          refine L_op rfl (op_storeA 5 0 rfl rfl rfl sz_32 (by rw [zsec, bs_length, secOf_len]) rfl (by rw [zsec]; exact bs_one _) (by simp) ?_)
          rw [zsec]
          refine LY rfl (y_assign rfl) (L_nil (C_ret ?_))
          refine B_ret (rv_cellA rfl ag_32 sz_32 (sees 5 0 rfl) (by first | (rw [bs_length, rS_len _ h.oks]; decide) | (rw [bs_length, secOf_len]; decide)) (by first | exact bs_whole0 _ (rS_len _ h.oks) | exact bs_whole0 _ (secOf_len 0)) (rv_tmp rfl rv_nil)) ((hsub (.cons_cons _ (.cons_cons _ (.cons _ (.cons _ (.cons _ (.cons _ (.refl _)))))))).trans (hsub_pick [4, 1] rfl)) ?_
          exact ⟨by simp_all [mrE, mrS, okAt] <;> rfl, rfl⟩
      · skip
        refine L_skip rfl rfl (L_skip rfl rfl (L_skip rfl rfl (L_skip rfl rfl (LY rfl (y_pick_f rfl rfl) (L_nil (C_cond_f rfl (C_skip (C_region ?_))))))))
        refine LY rfl (y_add rfl rfl (show _ = (2 : Int) from rfl)) ?_
        refine LY rfl (y_move rfl) (L_nil ?_)
        refine In_round ?_
        refine C_seq (C_region (LY rfl (y_lss rfl rfl) (L_nil (C_seq (C_cond_f rfl (C_exit (C_seq (C_region ?_))))))))
        refine LY rfl (y_buildA0 Try.underlying32 sz_5 zl_32) ?_
        refine L_op rfl (op_storeA 5 0 rfl rfl rfl sz_32 (by rw [zsec, bs_length, secOf_len]) rfl (by rw [zsec]; exact bs_one _) (by simp) ?_)
        rw [zsec]
        refine LY rfl (y_assign rfl) (L_nil (C_ret ?_))
        refine B_ret (rv_cellA rfl ag_32 sz_32 (sees 5 0 rfl) (by first | (rw [bs_length, rS_len _ h.oks]; decide) | (rw [bs_length, secOf_len]; decide)) (by first | exact bs_whole0 _ (rS_len _ h.oks) | exact bs_whole0 _ (secOf_len 0)) (rv_tmp rfl rv_nil)) ((hsub (.cons_cons _ (.cons_cons _ (.cons _ (.cons _ (.cons _ (.cons _ (.refl _)))))))).trans (hsub_pick [4, 1] rfl)) ?_
        exact ⟨by simp_all [mrE, mrS, okAt] <;> rfl, rfl⟩
    · skip
      refine L_skip rfl rfl (L_skip rfl rfl (L_skip rfl rfl (L_skip rfl rfl (L_skip rfl rfl (L_skip rfl rfl (L_skip rfl rfl (L_skip rfl rfl (L_skip rfl rfl (L_skip rfl rfl (LY rfl (y_pick_f rfl rfl) (LY rfl (y_move rfl) (L_skip rfl rfl (L_skip rfl rfl (L_skip rfl rfl (L_skip rfl rfl (LY rfl (y_pick_f rfl rfl) (L_nil (C_cond_f rfl (C_skip (C_region ?_))))))))))))))))))))
      refine LY rfl (y_add rfl rfl (show _ = (2 : Int) from rfl)) ?_
      refine LY rfl (y_move rfl) (L_nil ?_)
      refine In_round ?_
      refine C_seq (C_region (LY rfl (y_lss rfl rfl) (L_nil (C_seq (C_cond_f rfl (C_exit (C_seq (C_region ?_))))))))
      refine LY rfl (y_buildA0 Try.underlying32 sz_5 zl_32) ?_
      refine L_op rfl (op_storeA 5 0 rfl rfl rfl sz_32 (by rw [zsec, bs_length, secOf_len]) rfl (by rw [zsec]; exact bs_one _) (by simp) ?_)
      rw [zsec]
      refine LY rfl (y_assign rfl) (L_nil (C_ret ?_))
      refine B_ret (rv_cellA rfl ag_32 sz_32 (sees 5 0 rfl) (by first | (rw [bs_length, rS_len _ h.oks]; decide) | (rw [bs_length, secOf_len]; decide)) (by first | exact bs_whole0 _ (rS_len _ h.oks) | exact bs_whole0 _ (secOf_len 0)) (rv_tmp rfl rv_nil)) ((hsub (.cons_cons _ (.cons_cons _ (.cons _ (.cons _ (.cons _ (.cons _ (.refl _)))))))).trans (hsub_pick [4, 1] rfl)) ?_
      exact ⟨by simp_all [mrE, mrS, okAt] <;> rfl, rfl⟩

theorem mread_tf {w0 : World} {H : Hp} {D : Duo} {A : Da} {bp : Nat} {m : Mi} (h : Two dt D A m.bx m.bys bp) {p : Int → Sec → Bool} (hG : GoodAt Try.prog w0 H m.gv p) (n : Int) (hn : m.has n = true) (hp : thr A false = true) (hq : thr A true = false) : FnS Try.prog w0 22 #[ptr m.b, .int .i64 n] (m.seg 110 :: D.seg dt :: H) (fun e H' => e = .returned (.tuple #[.agg (bs (mrS m A p n)).toArray, .int .i64 (mrE m A p n)]) ∧ H' = m.seg 110 :: D.seg dt :: H) := by
  refine FnS_intro (n := 63) (rs := [.cell 4 32, .tmp 5]) (vs := [ptr m.b, .int .i64 n]) Try.func22 rfl Try.ntmps22 rfl rfl ?_
  refine C_seq (C_region ?_)
  refine L_op rfl (op_alloc zl_32 rfl (fun B1 => ?_))
  refine LY rfl (y_assign rfl) (L_nil (C_seq (C_seq (C_region (LY rfl (y_move rfl) (LY rfl (y_move rfl) ?_))))))
  refine L_op rfl (op_call rfl rfl (fun a w => Try.call58 a w) rfl ?_)
  refine (has_m _ (sees 1 0 rfl)).mono ?_
  rintro _ _ ⟨rfl, rfl⟩
  rw [hn]
  refine ⟨_, rfl, ?_⟩
  refine LY rfl (y_not rfl) (L_nil (C_cond_f rfl (C_skip (C_seq (C_region (LY rfl (y_move rfl) ?_))))))
  refine L_op rfl (op_call rfl rfl (fun a w => Try.call59 a w) rfl ?_)
  refine ((present_tf h hp hq).sub (hsub_pick [1, 1] rfl)).mono ?_
  rintro _ _ ⟨g1, hg1, rfl, rfl⟩
  cases g1 with
  | none => exact slOk_none hg1 (by decide)
  | some g1 => ?_
  refine ⟨_, rfl, ?_⟩
  refine LY rfl (y_assign rfl) (L_nil (C_seq (C_seq (C_region (LY rfl (y_move rfl) ?_)))))
  refine LY rfl (y_lenS rfl rfl Try.underlying118) ?_
  refine LY rfl (y_eqi rfl rfl) (L_nil (C_cond_f rfl (C_skip (C_seq (C_seq (C_region (LY rfl (y_move rfl) ?_)))))))
  refine LY rfl (y_lenS rfl rfl Try.underlying118) ?_
  refine LY rfl (y_move rfl) (L_nil (C_block ?_))
  refine C_loopIn (In_round ?_)
  refine C_seq (C_region (LY rfl (y_lss rfl rfl) (L_nil (C_seq (C_cond_t rfl (C_skip (C_seq (C_block (C_seq (C_region ?_))))))))))
  refine LY rfl (y_indexS rfl rfl Try.underlying118 sz_3 (by omega) (by omega) (show _ = 0 from rfl)) ?_
  refine LY rfl (y_load rfl ag_3 (sees 0 0 rfl) rfl) (LY rfl (y_assign rfl) (L_nil (C_seq (C_region (LY rfl (y_move rfl) (LY rfl (y_move rfl) (LY rfl (y_nilCheck rfl) (LY rfl (y_fieldAddr rfl fl_110_0) ?_))))))))
  refine LY rfl (y_indexA rfl rfl Try.underlying108 sz_107 (by omega) (by omega) (show _ = 0 from rfl)) ?_
  refine LY rfl (y_fieldAddr rfl fl_107_0) (LY rfl (y_load rfl ag_24 (sees 1 0 rfl) rfl) (LY rfl (y_move rfl) ?_))
  refine L_op rfl (op_call rfl rfl (fun a w => Try.call60 a w) rfl ?_)
  refine ((read_d h false (n)).sub (hsub_pick [2] rfl)).mono ?_
  rintro _ _ ⟨rfl, rfl⟩
  refine ⟨_, rfl, ?_⟩
  refine LY rfl (y_move rfl) (LY rfl (y_extract rfl rfl) (LY rfl (y_extract rfl rfl) ?_))
  refine L_op rfl (op_alloc zl_32 rfl (fun B2 => ?_))
  refine L_op rfl (op_storeA 0 0 rfl rfl rfl sz_32 (by rw [bs_length, (rS_len false h.oks)]) rfl (bs_one _) (by simp) ?_)
  refine LY rfl (y_assign rfl) (L_nil (C_seq (C_region (LY rfl (y_move rfl) (LY rfl (y_eqi rfl rfl) (LY rfl (y_move rfl) ?_))))))
  refine L_case 42 rfl (fun hg10_3 => ?_) (fun hg10_3 => ?_)
  · skip
    refine LY rfl (y_move rfl) (LY rfl (y_move rfl) (LY rfl (y_nilCheck rfl) (LY rfl (y_fieldAddr rfl fl_110_0) ?_)))
    refine LY rfl (y_indexA rfl rfl Try.underlying108 sz_107 (by omega) (by omega) (show _ = 0 from rfl)) ?_
    refine LY rfl (y_fieldAddr rfl fl_107_1) (LY rfl (y_load rfl ag_105 (sees 3 0 rfl) rfl) (LY rfl (y_move rfl) ?_))
    refine LY rfl (y_lookup rfl rfl Try.underlying105 Try.underlying3 zt_4 (sees 3 1 rfl)) ?_
    refine LY rfl (y_not rfl) (LY rfl (y_pick_t rfl rfl) (LY rfl (y_move rfl) ?_))
    refine L_case 54 rfl (fun hg10_15 => ?_) (fun hg10_15 => ?_)
    · skip
      refine LY rfl (y_move rfl) (LY rfl (y_move rfl) ?_)
      refine LY rfl (y_loadA rfl ag_32 sz_32 (sees 0 0 rfl) (by rw [bs_length, rS_len _ h.oks]; decide) (bs_whole0 _ (rS_len _ h.oks))) ?_
      refine L_op rfl (op_call rfl rfl (fun a w => Try.call61 a w) rfl ?_)
      refine FnS.mono (right_m (sees 3 0 rfl) (hG.sub (hsub (.cons _ (.cons _ (.cons _ (.cons _ (.cons _ (.refl _)))))))) n _ (rS_len _ h.oks)) ?_
      rintro _ _ ⟨rfl, e⟩
      obtain rfl := e.symm
      refine ⟨_, rfl, ?_⟩
      refine LY rfl (y_pick_t rfl rfl) (L_nil ?_)
      refine C_cond rfl (fun hc3 => ?_) (fun hc3 => ?_)
      · skip
        refine C_seq (C_region ?_)
        refine LY rfl (y_loadA rfl ag_32 sz_32 (sees 0 0 rfl) (by rw [bs_length, rS_len _ h.oks]; decide) (bs_whole0 _ (rS_len _ h.oks))) ?_
        refine L_op rfl (op_storeA 4 0 rfl rfl rfl sz_32 (by rw [bs_length, rS_len _ h.oks]) rfl (bs_one _) (by simp) ?_)
        refine LY rfl (y_assign rfl) (L_nil (C_ret ?_))
        refine B_ret (rv_cellA rfl ag_32 sz_32 (sees 4 0 rfl) (by first | (rw [bs_length, rS_len _ h.oks]; decide) | (rw [bs_length, secOf_len]; decide)) (by first | exact bs_whole0 _ (rS_len _ h.oks) | exact bs_whole0 _ (secOf_len 0)) (rv_tmp rfl rv_nil)) ((hsub (.cons_cons _ (.cons_cons _ (.cons _ (.cons _ (.cons _ (.refl _))))))).trans (hsub_pick [3, 1] rfl)) ?_
        exact ⟨by simp_all [mrE, mrS, okAt] <;> rfl, rfl⟩
      · skip
        refine C_skip (C_region ?_)
        refine LY rfl (y_add rfl rfl (show _ = (1 : Int) from rfl)) ?_
        refine LY rfl (y_move rfl) (L_nil ?_)
        refine In_round ?_
        refine C_seq (C_region (LY rfl (y_lss rfl rfl) (L_nil (C_seq (C_cond_f rfl (C_exit (C_seq (C_region ?_))))))))
        refine LY rfl (y_buildA0 Try.underlying32 sz_5 zl_32) ?_
        refine L_op rfl (op_storeA 4 0 rfl rfl rfl sz_32 (by rw [zsec, bs_length, secOf_len]) rfl (by rw [zsec]; exact bs_one _) (by simp) ?_)
        rw [zsec]
        refine LY rfl (y_assign rfl) (L_nil (C_ret ?_))
        refine B_ret (rv_cellA rfl ag_32 sz_32 (sees 4 0 rfl) (by first | (rw [bs_length, rS_len _ h.oks]; decide) | (rw [bs_length, secOf_len]; decide)) (by first | exact bs_whole0 _ (rS_len _ h.oks) | exact bs_whole0 _ (secOf_len 0)) (rv_tmp rfl rv_nil)) ((hsub (.cons_cons _ (.cons_cons _ (.cons _ (.cons _ (.cons _ (.refl _))))))).trans (hsub_pick [3, 1] rfl)) ?_
        exact ⟨by simp_all [mrE, mrS, okAt] <;> rfl, rfl⟩
    · skip
      refine L_skip rfl rfl (L_skip rfl rfl (L_skip rfl rfl (L_skip rfl rfl (LY rfl (y_pick_f rfl rfl) (L_nil (C_cond_f rfl (C_skip (C_region ?_))))))))
      refine LY rfl (y_add rfl rfl (show _ = (1 : Int) from rfl)) ?_
      refine LY rfl (y_move rfl) (L_nil ?_)
      refine In_round ?_
      refine C_seq (C_region (LY rfl (y_lss rfl rfl) (L_nil (C_seq (C_cond_f rfl (C_exit (C_seq (C_region ?_))))))))
      refine LY rfl (y_buildA0 Try.underlying32 sz_5 zl_32) ?_
      refine L_op rfl (op_storeA 4 0 rfl rfl rfl sz_32 (by rw [zsec, bs_length, secOf_len]) rfl (by rw [zsec]; exact bs_one _) (by simp) ?_)
      rw [zsec]
      refine LY rfl (y_assign rfl) (L_nil (C_ret ?_))
      refine B_ret (rv_cellA rfl ag_32 sz_32 (sees 4 0 rfl) (by first | (rw [bs_length, rS_len _ h.oks]; decide) | (rw [bs_length, secOf_len]; decide)) (by first | exact bs_whole0 _ (rS_len _ h.oks) | exact bs_whole0 _ (secOf_len 0)) (rv_tmp rfl rv_nil)) ((hsub (.cons_cons _ (.cons_cons _ (.cons _ (.cons _ (.cons _ (.refl _))))))).trans (hsub_pick [3, 1] rfl)) ?_
      exact ⟨by simp_all [mrE, mrS, okAt] <;> rfl, rfl⟩
  · skip
    refine L_skip rfl rfl (L_skip rfl rfl (L_skip rfl rfl (L_skip rfl rfl (L_skip rfl rfl (L_skip rfl rfl (L_skip rfl rfl (L_skip rfl rfl (L_skip rfl rfl (L_skip rfl rfl (LY rfl (y_pick_f rfl rfl) (LY rfl (y_move rfl) (L_skip rfl rfl (L_skip rfl rfl (L_skip rfl rfl (L_skip rfl rfl (LY rfl (y_pick_f rfl rfl) (L_nil (C_cond_f rfl (C_skip (C_region ?_))))))))))))))))))))
    refine LY rfl (y_add rfl rfl (show _ = (1 : Int) from rfl)) ?_
    refine LY rfl (y_move rfl) (L_nil ?_)
    refine In_round ?_
    refine C_seq (C_region (LY rfl (y_lss rfl rfl) (L_nil (C_seq (C_cond_f rfl (C_exit (C_seq (C_region ?_))))))))
    refine LY rfl (y_buildA0 Try.underlying32 sz_5 zl_32) ?_
    refine L_op rfl (op_storeA 4 0 rfl rfl rfl sz_32 (by rw [zsec, bs_length, secOf_len]) rfl (by rw [zsec]; exact bs_one _) (by simp) ?_)
    rw [zsec]
    refine LY rfl (y_assign rfl) (L_nil (C_ret ?_))
    refine B_ret (rv_cellA rfl ag_32 sz_32 (sees 4 0 rfl) (by first | (rw [bs_length, rS_len _ h.oks]; decide) | (rw [bs_length, secOf_len]; decide)) (by first | exact bs_whole0 _ (rS_len _ h.oks) | exact bs_whole0 _ (secOf_len 0)) (rv_tmp rfl rv_nil)) ((hsub (.cons_cons _ (.cons_cons _ (.cons _ (.cons _ (.cons _ (.refl _))))))).trans (hsub_pick [3, 1] rfl)) ?_
    exact ⟨by simp_all [mrE, mrS, okAt] <;> rfl, rfl⟩

theorem mread_ft {w0 : World} {H : Hp} {D : Duo} {A : Da} {bp : Nat} {m : Mi} (h : Two dt D A m.bx m.bys bp) {p : Int → Sec → Bool} (hG : GoodAt Try.prog w0 H m.gv p) (n : Int) (hn : m.has n = true) (hp : thr A false = false) (hq : thr A true = true) : FnS Try.prog w0 22 #[ptr m.b, .int .i64 n] (m.seg 110 :: D.seg dt :: H) (fun e H' => e = .returned (.tuple #[.agg (bs (mrS m A p n)).toArray, .int .i64 (mrE m A p n)]) ∧ H' = m.seg 110 :: D.seg dt :: H) := by
  refine FnS_intro (n := 63) (rs := [.cell 4 32, .tmp 5]) (vs := [ptr m.b, .int .i64 n]) Try.func22 rfl Try.ntmps22 rfl rfl ?_
  refine C_seq (C_region ?_)
  refine L_op rfl (op_alloc zl_32 rfl (fun B1 => ?_))
  refine LY rfl (y_assign rfl) (L_nil (C_seq (C_seq (C_region (LY rfl (y_move rfl) (LY rfl (y_move rfl) ?_))))))
  refine L_op rfl (op_call rfl rfl (fun a w => Try.call58 a w) rfl ?_)
  refine (has_m _ (sees 1 0 rfl)).mono ?_
  rintro _ _ ⟨rfl, rfl⟩
  rw [hn]
  refine ⟨_, rfl, ?_⟩
  refine LY rfl (y_not rfl) (L_nil (C_cond_f rfl (C_skip (C_seq (C_region (LY rfl (y_move rfl) ?_))))))
  refine L_op rfl (op_call rfl rfl (fun a w => Try.call59 a w) rfl ?_)
  refine ((present_ft h hp hq).sub (hsub_pick [1, 1] rfl)).mono ?_
  rintro _ _ ⟨g1, hg1, rfl, rfl⟩
  cases g1 with
  | none => exact slOk_none hg1 (by decide)
  | some g1 => ?_
  refine ⟨_, rfl, ?_⟩
  refine LY rfl (y_assign rfl) (L_nil (C_seq (C_seq (C_region (LY rfl (y_move rfl) ?_)))))
  refine LY rfl (y_lenS rfl rfl Try.underlying118) ?_
  refine LY rfl (y_eqi rfl rfl) (L_nil (C_cond_f rfl (C_skip (C_seq (C_seq (C_region (LY rfl (y_move rfl) ?_)))))))
  refine LY rfl (y_lenS rfl rfl Try.underlying118) ?_
  refine LY rfl (y_move rfl) (L_nil (C_block ?_))
  refine C_loopIn (In_round ?_)
  refine C_seq (C_region (LY rfl (y_lss rfl rfl) (L_nil (C_seq (C_cond_t rfl (C_skip (C_seq (C_block (C_seq (C_region ?_))))))))))
  refine LY rfl (y_indexS rfl rfl Try.underlying118 sz_3 (by omega) (by omega) (show _ = 0 from rfl)) ?_
  refine LY rfl (y_load rfl ag_3 (sees 0 0 rfl) rfl) (LY rfl (y_assign rfl) (L_nil (C_seq (C_region (LY rfl (y_move rfl) (LY rfl (y_move rfl) (LY rfl (y_nilCheck rfl) (LY rfl (y_fieldAddr rfl fl_110_0) ?_))))))))
  refine LY rfl (y_indexA rfl rfl Try.underlying108 sz_107 (by omega) (by omega) (show _ = 2 from rfl)) ?_
  refine LY rfl (y_fieldAddr rfl fl_107_0) (LY rfl (y_load rfl ag_24 (sees 1 0 rfl) rfl) (LY rfl (y_move rfl) ?_))
  refine L_op rfl (op_call rfl rfl (fun a w => Try.call60 a w) rfl ?_)
  refine ((read_d h true (n)).sub (hsub_pick [2] rfl)).mono ?_
  rintro _ _ ⟨rfl, rfl⟩
  refine ⟨_, rfl, ?_⟩
  refine LY rfl (y_move rfl) (LY rfl (y_extract rfl rfl) (LY rfl (y_extract rfl rfl) ?_))
  refine L_op rfl (op_alloc zl_32 rfl (fun B2 => ?_))
  refine L_op rfl (op_storeA 0 0 rfl rfl rfl sz_32 (by rw [bs_length, (rS_len true h.oks)]) rfl (bs_one _) (by simp) ?_)
  refine LY rfl (y_assign rfl) (L_nil (C_seq (C_region (LY rfl (y_move rfl) (LY rfl (y_eqi rfl rfl) (LY rfl (y_move rfl) ?_))))))
  refine L_case 42 rfl (fun hg10_3 => ?_) (fun hg10_3 => ?_)
  · skip
    refine LY rfl (y_move rfl) (LY rfl (y_move rfl) (LY rfl (y_nilCheck rfl) (LY rfl (y_fieldAddr rfl fl_110_0) ?_)))
    refine LY rfl (y_indexA rfl rfl Try.underlying108 sz_107 (by omega) (by omega) (show _ = 2 from rfl)) ?_
    refine LY rfl (y_fieldAddr rfl fl_107_1) (LY rfl (y_load rfl ag_105 (sees 3 0 rfl) rfl) (LY rfl (y_move rfl) ?_))
    refine LY rfl (y_lookup rfl rfl Try.underlying105 Try.underlying3 zt_4 (sees 3 2 rfl)) ?_
    refine LY rfl (y_not rfl) (LY rfl (y_pick_t rfl rfl) (LY rfl (y_move rfl) ?_))
    refine L_case 54 rfl (fun hg10_15 => ?_) (fun hg10_15 => ?_)
    · skip
      refine LY rfl (y_move rfl) (LY rfl (y_move rfl) ?_)
      refine LY rfl (y_loadA rfl ag_32 sz_32 (sees 0 0 rfl) (by rw [bs_length, rS_len _ h.oks]; decide) (bs_whole0 _ (rS_len _ h.oks))) ?_
      refine L_op rfl (op_call rfl rfl (fun a w => Try.call61 a w) rfl ?_)
      refine FnS.mono (right_m (sees 3 0 rfl) (hG.sub (hsub (.cons _ (.cons _ (.cons _ (.cons _ (.cons _ (.refl _)))))))) n _ (rS_len _ h.oks)) ?_
      rintro _ _ ⟨rfl, e⟩
      obtain rfl := e.symm
      refine ⟨_, rfl, ?_⟩
      refine LY rfl (y_pick_t rfl rfl) (L_nil ?_)
      refine C_cond rfl (fun hc3 => ?_) (fun hc3 => ?_)
      · skip
        refine C_seq (C_region ?_)
        refine LY rfl (y_loadA rfl ag_32 sz_32 (sees 0 0 rfl) (by rw [bs_length, rS_len _ h.oks]; decide) (bs_whole0 _ (rS_len _ h.oks))) ?_
        refine L_op rfl (op_storeA 4 0 rfl rfl rfl sz_32 (by rw [bs_length, rS_len _ h.oks]) rfl (bs_one _) (by simp) ?_)
        refine LY rfl (y_assign rfl) (L_nil (C_ret ?_))
        refine B_ret (rv_cellA rfl ag_32 sz_32 (sees 4 0 rfl) (by first | (rw [bs_length, rS_len _ h.oks]; decide) | (rw [bs_length, secOf_len]; decide)) (by first | exact bs_whole0 _ (rS_len _ h.oks) | exact bs_whole0 _ (secOf_len 0)) (rv_tmp rfl rv_nil)) ((hsub (.cons_cons _ (.cons_cons _ (.cons _ (.cons _ (.cons _ (.refl _))))))).trans (hsub_pick [3, 1] rfl)) ?_
        exact ⟨by simp_all [mrE, mrS, okAt] <;> rfl, rfl⟩
      · skip
        refine C_skip (C_region ?_)
        refine LY rfl (y_add rfl rfl (show _ = (1 : Int) from rfl)) ?_
        refine LY rfl (y_move rfl) (L_nil ?_)
        refine In_round ?_
        refine C_seq (C_region (LY rfl (y_lss rfl rfl) (L_nil (C_seq (C_cond_f rfl (C_exit (C_seq (C_region ?_))))))))
        refine LY rfl (y_buildA0 Try.underlying32 sz_5 zl_32) ?_
        refine L_op rfl (op_storeA 4 0 rfl rfl rfl sz_32 (by rw [zsec, bs_length, secOf_len]) rfl (by rw [zsec]; exact bs_one _) (by simp) ?_)
        rw [zsec]
        refine LY rfl (y_assign rfl) (L_nil (C_ret ?_))
        refine B_ret (rv_cellA rfl ag_32 sz_32 (sees 4 0 rfl) (by first | (rw [bs_length, rS_len _ h.oks]; decide) | (rw [bs_length, secOf_len]; decide)) (by first | exact bs_whole0 _ (rS_len _ h.oks) | exact bs_whole0 _ (secOf_len 0)) (rv_tmp rfl rv_nil)) ((hsub (.cons_cons _ (.cons_cons _ (.cons _ (.cons _ (.cons _ (.refl _))))))).trans (hsub_pick [3, 1] rfl)) ?_
        exact ⟨by simp_all [mrE, mrS, okAt] <;> rfl, rfl⟩
    · skip
      refine L_skip rfl rfl (L_skip rfl rfl (L_skip rfl rfl (L_skip rfl rfl (LY rfl (y_pick_f rfl rfl) (L_nil (C_cond_f rfl (C_skip (C_region ?_))))))))
      refine LY rfl (y_add rfl rfl (show _ = (1 : Int) from rfl)) ?_
      refine LY rfl (y_move rfl) (L_nil ?_)
      refine In_round ?_
      refine C_seq (C_region (LY rfl (y_lss rfl rfl) (L_nil (C_seq (C_cond_f rfl (C_exit (C_seq (C_region ?_))))))))
      refine LY rfl (y_buildA0 Try.underlying32 sz_5 zl_32) ?_
      refine L_op rfl (op_storeA 4 0 rfl rfl rfl sz_32 (by rw [zsec, bs_length, secOf_len]) rfl (by rw [zsec]; exact bs_one _) (by simp) ?_)
      rw [zsec]
      refine LY rfl (y_assign rfl) (L_nil (C_ret ?_))
      refine B_ret (rv_cellA rfl ag_32 sz_32 (sees 4 0 rfl) (by first | (rw [bs_length, rS_len _ h.oks]; decide) | (rw [bs_length, secOf_len]; decide)) (by first | exact bs_whole0 _ (rS_len _ h.oks) | exact bs_whole0 _ (secOf_len 0)) (rv_tmp rfl rv_nil)) ((hsub (.cons_cons _ (.cons_cons _ (.cons _ (.cons _ (.cons _ (.refl _))))))).trans (hsub_pick [3, 1] rfl)) ?_
      exact ⟨by simp_all [mrE, mrS, okAt] <;> rfl, rfl⟩
  · skip
    refine L_skip rfl rfl (L_skip rfl rfl (L_skip rfl rfl (L_skip rfl rfl (L_skip rfl rfl (L_skip rfl rfl (L_skip rfl rfl (L_skip rfl rfl (L_skip rfl rfl (L_skip rfl rfl (LY rfl (y_pick_f rfl rfl) (LY rfl (y_move rfl) (L_skip rfl rfl (L_skip rfl rfl (L_skip rfl rfl (L_skip rfl rfl (LY rfl (y_pick_f rfl rfl) (L_nil (C_cond_f rfl (C_skip (C_region ?_))))))))))))))))))))
    refine LY rfl (y_add rfl rfl (show _ = (1 : Int) from rfl)) ?_
    refine LY rfl (y_move rfl) (L_nil ?_)
    refine In_round ?_
    refine C_seq (C_region (LY rfl (y_lss rfl rfl) (L_nil (C_seq (C_cond_f rfl (C_exit (C_seq (C_region ?_))))))))
    refine LY rfl (y_buildA0 Try.underlying32 sz_5 zl_32) ?_
    refine L_op rfl (op_storeA 4 0 rfl rfl rfl sz_32 (by rw [zsec, bs_length, secOf_len]) rfl (by rw [zsec]; exact bs_one _) (by simp) ?_)
    rw [zsec]
    refine LY rfl (y_assign rfl) (L_nil (C_ret ?_))
    refine B_ret (rv_cellA rfl ag_32 sz_32 (sees 4 0 rfl) (by first | (rw [bs_length, rS_len _ h.oks]; decide) | (rw [bs_length, secOf_len]; decide)) (by first | exact bs_whole0 _ (rS_len _ h.oks) | exact bs_whole0 _ (secOf_len 0)) (rv_tmp rfl rv_nil)) ((hsub (.cons_cons _ (.cons_cons _ (.cons _ (.cons _ (.cons _ (.refl _))))))).trans (hsub_pick [3, 1] rfl)) ?_
    exact ⟨by simp_all [mrE, mrS, okAt] <;> rfl, rfl⟩

theorem mread_ff {w0 : World} {H : Hp} {D : Duo} {A : Da} {bp : Nat} {m : Mi} (h : Two dt D A m.bx m.bys bp) {p : Int → Sec → Bool} (hG : GoodAt Try.prog w0 H m.gv p) (n : Int) (hn : m.has n = true) (hp : thr A false = false) (hq : thr A true = false) : FnS Try.prog w0 22 #[ptr m.b, .int .i64 n] (m.seg 110 :: D.seg dt :: H) (fun e H' => e = .returned (.tuple #[.agg (bs (mrS m A p n)).toArray, .int .i64 (mrE m A p n)]) ∧ H' = m.seg 110 :: D.seg dt :: H) := by
  refine FnS_intro (n := 63) (rs := [.cell 4 32, .tmp 5]) (vs := [ptr m.b, .int .i64 n]) Try.func22 rfl Try.ntmps22 rfl rfl ?_
  refine C_seq (C_region ?_)
  refine L_op rfl (op_alloc zl_32 rfl (fun B1 => ?_))
  refine LY rfl (y_assign rfl) (L_nil (C_seq (C_seq (C_region (LY rfl (y_move rfl) (LY rfl (y_move rfl) ?_))))))
  refine L_op rfl (op_call rfl rfl (fun a w => Try.call58 a w) rfl ?_)
  refine (has_m _ (sees 1 0 rfl)).mono ?_
  rintro _ _ ⟨rfl, rfl⟩
  rw [hn]
  refine ⟨_, rfl, ?_⟩
  refine LY rfl (y_not rfl) (L_nil (C_cond_f rfl (C_skip (C_seq (C_region (LY rfl (y_move rfl) ?_))))))
  refine L_op rfl (op_call rfl rfl (fun a w => Try.call59 a w) rfl ?_)
  refine ((present_ff h hp hq).sub (hsub_pick [1, 1] rfl)).mono ?_
  rintro _ _ ⟨rfl, rfl⟩
  refine ⟨_, rfl, ?_⟩
  refine LY rfl (y_assign rfl) (L_nil (C_seq (C_seq (C_region (LY rfl (y_move rfl) ?_)))))
  refine LY rfl (y_lenS rfl rfl Try.underlying118) ?_
  refine LY rfl (y_eqi rfl rfl) (L_nil (C_cond_t rfl (C_seq (C_region ?_))))
  refine LY rfl (y_buildA0 Try.underlying32 sz_5 zl_32) ?_
  refine L_op rfl (op_storeA 2 0 rfl rfl rfl sz_32 (by rw [zsec, bs_length, secOf_len]) rfl (by rw [zsec]; exact bs_one _) (by simp) ?_)
  rw [zsec]
  refine LY rfl (y_assign rfl) (L_nil (C_ret ?_))
  refine B_ret (rv_cellA rfl ag_32 sz_32 (sees 2 0 rfl) (by first | (rw [bs_length, rS_len _ h.oks]; decide) | (rw [bs_length, secOf_len]; decide)) (by first | exact bs_whole0 _ (rS_len _ h.oks) | exact bs_whole0 _ (secOf_len 0)) (rv_tmp rfl rv_nil)) ((hsub (.cons_cons _ (.cons_cons _ (.cons _ (.refl _))))).trans (hsub_pick [0, 0] rfl)) ?_
  exact ⟨by simp_all [mrE, mrS, okAt] <;> rfl, rfl⟩

theorem mread_m {w0 : World} {H : Hp} {D : Duo} {A : Da} {bp : Nat} {m : Mi} (h : Two dt D A m.bx m.bys bp) {p : Int → Sec → Bool} (hG : GoodAt Try.prog w0 H m.gv p) (n : Int) : FnS Try.prog w0 22 #[ptr m.b, .int .i64 n] (m.seg 110 :: D.seg dt :: H) (fun e H' => e = .returned (.tuple #[.agg (bs (mrS m A p n)).toArray, .int .i64 (mrE m A p n)]) ∧ H' = m.seg 110 :: D.seg dt :: H) := by
  cases hn : m.has n
  · exact mread_no h hG n hn
  · cases hp : thr A false <;> cases hq : thr A true
    · exact mread_ff h hG n hn hp hq
    · exact mread_ft h hG n hn hp hq
    · exact mread_tf h hG n hn hp hq
    · exact mread_tt h hG n hn hp hq

end Go.Proofs.Ytjjiclgbdenkkaa

/- walks (own work; the walks' lines by a program of this repo). -/
set_option linter.unusedVariables false
set_option linter.unusedSimpArgs false
set_option maxRecDepth 20000
namespace Go.Proofs.Ytjjiclgbdenkkaa
open Go.Sl
attribute [local irreducible] BodyQ WpC WpL WpS WpH OpW FnS


end Go.Proofs.Ytjjiclgbdenkkaa

/- walks (own work; the walks' lines by a program of this repo). -/
set_option linter.unusedVariables false
set_option linter.unusedSimpArgs false
set_option maxRecDepth 20000
namespace Go.Proofs.Ytjjiclgbdenkkaa
open Go.Sl
attribute [local irreducible] BodyQ WpC WpL WpS WpH OpW FnS



set_option maxHeartbeats 4000000 in

theorem heal_no {w0 : World} {H : Hp} {D : Duo} {A : Da} {bp : Nat} {m : Mi} (h : Two dt D A m.bx m.bys bp) {p : Int → Sec → Bool} (hG : GoodAt Try.prog w0 H m.gv p) (n : Int) (hQ : ∀ i, (A.dev i).Q.length < 99990) (hn : m.has n = false) : FnS Try.prog w0 23 #[ptr m.b, .int .i64 n] (m.seg 110 :: D.seg dt :: H) (fun e H' => e = .returned (.tuple #[.int .i64 (healR m A p n).1, .int .i64 (healR m A p n).2]) ∧ ∃ D', Two dt D' (healA m A p n) m.bx m.bys bp ∧ H' = (healM m A p n).seg 110 :: D'.seg dt :: H) := by
  refine FnS_intro (n := 105) (rs := [.tmp 4, .tmp 5]) (vs := [ptr m.b, .int .i64 n]) Try.func23 rfl Try.ntmps23 rfl rfl ?_
  refine C_seq (C_region (LY rfl (y_assign rfl) (LY rfl (y_assign rfl) (L_nil (C_seq (C_seq (C_region (LY rfl (y_move rfl) (LY rfl (y_move rfl) ?_)))))))))
  refine L_op rfl (op_call rfl rfl (fun a w => Try.call58 a w) rfl ?_)
  refine (has_m _ (sees 0 0 rfl)).mono ?_
  rintro _ _ ⟨rfl, rfl⟩
  rw [hn]
  refine ⟨_, rfl, ?_⟩
  refine LY rfl (y_not rfl) (L_nil (C_cond_t rfl (C_seq (C_region (LY rfl (y_assign rfl) (LY rfl (y_assign rfl) (L_nil (C_ret ?_))))))))
  refine B_ret (rv_tmp rfl (rv_tmp rfl rv_nil)) ((hsub (.cons_cons _ (.cons_cons _ (.refl _)))).trans (hsub_pick [0, 0] rfl)) ?_
  exact ⟨by simp_all [healR, healTo, Go.Sl.hg0, Go.Sl.hg1] <;> rfl, D, h.to (by simp_all [healA, healTo, Go.Sl.hg0, Go.Sl.hg1]), by rw [show healM m A p n = m from by simp_all [healM, healTo, Go.Sl.hg0, Go.Sl.hg1]]; first | done | rfl⟩

set_option maxHeartbeats 4000000 in

theorem heal_tt {w0 : World} {H : Hp} {D : Duo} {A : Da} {bp : Nat} {m : Mi} (h : Two dt D A m.bx m.bys bp) {p : Int → Sec → Bool} (hG : GoodAt Try.prog w0 H m.gv p) (n : Int) (hQ : ∀ i, (A.dev i).Q.length < 99990) (hn : m.has n = true) (hp : thr A false = true) (hq : thr A true = true) : FnS Try.prog w0 23 #[ptr m.b, .int .i64 n] (m.seg 110 :: D.seg dt :: H) (fun e H' => e = .returned (.tuple #[.int .i64 (healR m A p n).1, .int .i64 (healR m A p n).2]) ∧ ∃ D', Two dt D' (healA m A p n) m.bx m.bys bp ∧ H' = (healM m A p n).seg 110 :: D'.seg dt :: H) := by
  refine FnS_intro (n := 105) (rs := [.tmp 4, .tmp 5]) (vs := [ptr m.b, .int .i64 n]) Try.func23 rfl Try.ntmps23 rfl rfl ?_
  refine C_seq (C_region (LY rfl (y_assign rfl) (LY rfl (y_assign rfl) (L_nil (C_seq (C_seq (C_region (LY rfl (y_move rfl) (LY rfl (y_move rfl) ?_)))))))))
  refine L_op rfl (op_call rfl rfl (fun a w => Try.call58 a w) rfl ?_)
  refine (has_m _ (sees 0 0 rfl)).mono ?_
  rintro _ _ ⟨rfl, rfl⟩
  rw [hn]
  refine ⟨_, rfl, ?_⟩
  refine LY rfl (y_not rfl) (L_nil (C_cond_f rfl (C_skip (C_seq (C_seq (C_region (LY rfl (y_move rfl) ?_)))))))
  refine L_op rfl (op_call rfl rfl (fun a w => Try.call59 a w) rfl ?_)
  refine ((present_tt h hp hq).sub (hsub_pick [0, 0] rfl)).mono ?_
  rintro _ _ ⟨g1, hg1, rfl, rfl⟩
  cases g1 with
  | none => exact slOk_none hg1 (by decide)
  | some g1 => ?_
  refine ⟨_, rfl, ?_⟩
  refine LY rfl (y_lenS rfl rfl Try.underlying118) ?_
  refine LY rfl (y_lss rfl rfl) (L_nil (C_cond_f rfl (C_skip (C_seq (C_region ?_)))))
  refine L_op rfl (op_alloc zl_120 rfl (fun B1 => ?_))
  refine L_nil (C_seq (C_region ?_))
  refine L_op rfl (op_alloc zl_62 rfl (fun B2 => ?_))
  refine L_nil (C_seq (C_seq (C_region (LY rfl (y_move rfl) (L_nil (C_block ?_))))))
  refine C_loopIn (In_round ?_)
  refine C_seq (C_region (LY rfl (y_lss rfl rfl) (L_nil (C_seq (C_cond_t rfl (C_skip (C_seq (C_block (C_seq (C_region (LY rfl (y_move rfl) (LY rfl (y_assign rfl) (L_nil (C_seq (C_region (LY rfl (y_move rfl) (LY rfl (y_move rfl) (LY rfl (y_move rfl) (LY rfl (y_nilCheck rfl) (LY rfl (y_fieldAddr rfl fl_110_0) ?_))))))))))))))))))))
  refine LY rfl (y_indexA rfl rfl Try.underlying108 sz_107 (by omega) (by omega) (show _ = 0 from rfl)) ?_
  refine LY rfl (y_fieldAddr rfl fl_107_0) (LY rfl (y_load rfl ag_24 (sees 3 0 rfl) rfl) (LY rfl (y_move rfl) ?_))
  refine L_op rfl (op_call rfl rfl (fun a w => Try.call60 a w) rfl ?_)
  refine ((read_d h false (n)).sub (hsub_pick [4] rfl)).mono ?_
  rintro _ _ ⟨rfl, rfl⟩
  refine ⟨_, rfl, ?_⟩
  refine LY rfl (y_move rfl) (LY rfl (y_extract rfl rfl) (LY rfl (y_extract rfl rfl) ?_))
  refine LY rfl (y_indexA rfl rfl Try.underlying120 sz_32 (by omega) (by omega) (show _ = 0 from rfl)) ?_
  rw [z256]
  refine L_op rfl (op_store (vs := bs (A.rS false n)) 2 0 rfl rfl rfl sz_32 (by rw [bs_length, rS_len _ h.oks]) rfl (bs_one _) (by simp [bs_length, secOf_len, rS_len _ h.oks]) ?_)
  rw [spl_lo (by rw [secOf_len, rS_len _ h.oks])]
  refine L_nil (C_region (LY rfl (y_move rfl) (LY rfl (y_move rfl) (LY rfl (y_move rfl) (LY rfl (y_nilCheck rfl) (LY rfl (y_fieldAddr rfl fl_110_0) ?_))))))
  refine LY rfl (y_indexA rfl rfl Try.underlying108 sz_107 (by omega) (by omega) (show _ = 0 from rfl)) ?_
  refine LY rfl (y_fieldAddr rfl fl_107_1) (LY rfl (y_load rfl ag_105 (sees 4 0 rfl) rfl) (LY rfl (y_move rfl) ?_))
  refine LY rfl (y_lookup rfl rfl Try.underlying105 Try.underlying3 zt_4 (sees 4 1 rfl)) ?_
  refine LY rfl (y_not rfl) (LY rfl (y_move rfl) ?_)
  refine L_case 47 rfl (fun hg11_12 => ?_) (fun hg11_12 => ?_)
  · skip
    refine LY rfl (y_move rfl) (LY rfl (y_move rfl) (LY rfl (y_move rfl) ?_))
    refine LY rfl (y_indexA rfl rfl Try.underlying120 sz_32 (by omega) (by omega) (show _ = 0 from rfl)) ?_
    refine LY rfl (y_loadA rfl ag_32 sz_32 (sees 2 0 rfl) (by simp [bs_length, secOf_len, rS_len _ h.oks]) (by first | exact two_hi (rS_len _ h.oks) (rS_len _ h.oks) | exact two_lo (rS_len _ h.oks))) ?_
    refine L_op rfl (op_call rfl rfl (fun a w => Try.call61 a w) rfl ?_)
    refine FnS.mono (right_m (sees 4 0 rfl) (hG.sub (hsub (.cons _ (.cons _ (.cons _ (.cons _ (.cons _ (.refl _)))))))) n _ (rS_len _ h.oks)) ?_
    rintro _ _ ⟨rfl, e⟩
    obtain rfl := e.symm
    refine ⟨_, rfl, ?_⟩
    refine L_case 53 rfl (fun hg11_18 => ?_) (fun hg11_18 => ?_)
    · skip
      refine LY rfl (y_pick_t rfl rfl) ?_
      refine LY rfl (y_indexA rfl rfl Try.underlying62 sz_4 (by omega) (by omega) (show _ = 0 from rfl)) ?_
      refine L_op rfl (op_store1 1 0 rfl rfl rfl sz_4 rfl (Nat.le_of_ble_eq_true rfl) ?_)
      refine L_nil (C_region ?_)
      refine LY rfl (y_add rfl rfl (show _ = (1 : Int) from rfl)) ?_
      refine LY rfl (y_move rfl) (L_nil ?_)
      refine In_round ?_
      refine C_seq (C_region (LY rfl (y_lss rfl rfl) (L_nil (C_seq (C_cond_t rfl (C_skip (C_seq (C_block (C_seq (C_region (LY rfl (y_move rfl) (LY rfl (y_assign rfl) (L_nil (C_seq (C_region (LY rfl (y_move rfl) (LY rfl (y_move rfl) (LY rfl (y_move rfl) (LY rfl (y_nilCheck rfl) (LY rfl (y_fieldAddr rfl fl_110_0) ?_))))))))))))))))))))
      refine LY rfl (y_indexA rfl rfl Try.underlying108 sz_107 (by omega) (by omega) (show _ = 2 from rfl)) ?_
      refine LY rfl (y_fieldAddr rfl fl_107_0) (LY rfl (y_load rfl ag_24 (sees 4 0 rfl) rfl) (LY rfl (y_move rfl) ?_))
      refine L_op rfl (op_call rfl rfl (fun a w => Try.call60 a w) rfl ?_)
      refine ((read_d h true (n)).sub (hsub_pick [0] rfl)).mono ?_
      rintro _ _ ⟨rfl, rfl⟩
      refine ⟨_, rfl, ?_⟩
      refine LY rfl (y_move rfl) (LY rfl (y_extract rfl rfl) (LY rfl (y_extract rfl rfl) ?_))
      refine LY rfl (y_indexA rfl rfl Try.underlying120 sz_32 (by omega) (by omega) (show _ = 128 from rfl)) ?_
      skip
      refine L_op rfl (op_store (vs := bs (A.rS true n)) 2 0 rfl rfl rfl sz_32 (by rw [bs_length, rS_len _ h.oks]) rfl (bs_one _) (by simp [bs_length, secOf_len, rS_len _ h.oks]) ?_)
      rw [spl_hi (rS_len _ h.oks) (by rw [secOf_len, rS_len _ h.oks])]
      refine L_nil (C_region (LY rfl (y_move rfl) (LY rfl (y_move rfl) (LY rfl (y_move rfl) (LY rfl (y_nilCheck rfl) (LY rfl (y_fieldAddr rfl fl_110_0) ?_))))))
      refine LY rfl (y_indexA rfl rfl Try.underlying108 sz_107 (by omega) (by omega) (show _ = 2 from rfl)) ?_
      refine LY rfl (y_fieldAddr rfl fl_107_1) (LY rfl (y_load rfl ag_105 (sees 4 0 rfl) rfl) (LY rfl (y_move rfl) ?_))
      refine LY rfl (y_lookup rfl rfl Try.underlying105 Try.underlying3 zt_4 (sees 4 2 rfl)) ?_
      refine LY rfl (y_not rfl) (LY rfl (y_move rfl) ?_)
      refine L_case 47 rfl (fun hg11_12 => ?_) (fun hg11_12 => ?_)
      · skip
        refine LY rfl (y_move rfl) (LY rfl (y_move rfl) (LY rfl (y_move rfl) ?_))
        refine LY rfl (y_indexA rfl rfl Try.underlying120 sz_32 (by omega) (by omega) (show _ = 128 from rfl)) ?_
        refine LY rfl (y_loadA rfl ag_32 sz_32 (sees 2 0 rfl) (by simp [bs_length, secOf_len, rS_len _ h.oks]) (by first | exact two_hi (rS_len _ h.oks) (rS_len _ h.oks) | exact two_lo (rS_len _ h.oks))) ?_
        refine L_op rfl (op_call rfl rfl (fun a w => Try.call61 a w) rfl ?_)
        refine FnS.mono (right_m (sees 4 0 rfl) (hG.sub (hsub (.cons _ (.cons _ (.cons _ (.cons _ (.cons _ (.refl _)))))))) n _ (rS_len _ h.oks)) ?_
        rintro _ _ ⟨rfl, e⟩
        obtain rfl := e.symm
        refine ⟨_, rfl, ?_⟩
        refine L_case 53 rfl (fun hg11_18 => ?_) (fun hg11_18 => ?_)
        · skip
          refine LY rfl (y_pick_t rfl rfl) ?_
          refine LY rfl (y_indexA rfl rfl Try.underlying62 sz_4 (by omega) (by omega) (show _ = 1 from rfl)) ?_
          refine L_op rfl (op_store1 1 0 rfl rfl rfl sz_4 rfl (Nat.le_of_ble_eq_true rfl) ?_)
          refine L_nil (C_region ?_)
          refine LY rfl (y_add rfl rfl (show _ = (2 : Int) from rfl)) ?_
          refine LY rfl (y_move rfl) (L_nil ?_)
          refine In_round ?_
          refine C_seq (C_region (LY rfl (y_lss rfl rfl) (L_nil (C_seq (C_cond_f rfl (C_exit (C_seq (C_region (LY rfl (y_assign rfl) (L_nil (C_seq (C_block (C_seq (C_region ?_))))))))))))))
          refine LY rfl (y_indexA rfl rfl Try.underlying62 sz_4 (by omega) (by omega) (show _ = 0 from rfl)) ?_
          refine LY rfl (y_load rfl ag_4 (sees 1 0 rfl) rfl) (LY rfl (y_not rfl) (LY rfl (y_move rfl) (L_skip rfl rfl (L_skip rfl rfl (L_skip rfl rfl (LY rfl (y_pick_f rfl rfl) (LY rfl (y_assign rfl) (L_nil (C_cond_f rfl (C_seq (C_region ?_)))))))))))
          refine LY rfl (y_indexA rfl rfl Try.underlying62 sz_4 (by omega) (by omega) (show _ = 0 from rfl)) ?_
          refine LY rfl (y_load rfl ag_4 (sees 1 0 rfl) rfl) (LY rfl (y_move rfl) ?_)
          refine LY rfl (y_indexA rfl rfl Try.underlying62 sz_4 (by omega) (by omega) (show _ = 1 from rfl)) ?_
          refine LY rfl (y_load rfl ag_4 (sees 1 0 rfl) rfl) (LY rfl (y_pick_t rfl rfl) (LY rfl (y_move rfl) ?_))
          refine LY rfl (y_indexA rfl rfl Try.underlying120 sz_32 (by omega) (by omega) (show _ = 0 from rfl)) ?_
          refine LY rfl (y_loadA rfl ag_32 sz_32 (sees 2 0 rfl) (by simp [bs_length, secOf_len, rS_len _ h.oks]) (two_lo (rS_len _ h.oks))) ?_
          refine LY rfl (y_indexA rfl rfl Try.underlying120 sz_32 (by omega) (by omega) (show _ = 128 from rfl)) ?_
          refine LY rfl (y_loadA rfl ag_32 sz_32 (sees 2 0 rfl) (by simp [bs_length, secOf_len, rS_len _ h.oks]) (two_hi (rS_len _ h.oks) (rS_len _ h.oks))) ?_
          refine LY rfl (y_eqa rfl rfl Try.underlying32 Try.underlying5 sz_5 eg_32 (rS_len _ h.oks) (rS_len _ h.oks)) ?_
          refine LY rfl (y_pick_t rfl rfl) (LY rfl (y_assign rfl) (L_nil ?_))
          refine C_cond rfl (fun hc4 => ?_) (fun hc4 => ?_)
          · replace hc4 := of_decide_eq_true hc4
            refine C_seq (C_region (LY rfl (y_assign rfl) (LY rfl (y_assign rfl) (L_nil (C_ret ?_)))))
            refine B_ret (rv_tmp rfl (rv_tmp rfl rv_nil)) ((hsub (.cons_cons _ (.cons_cons _ (.cons _ (.cons _ (.cons _ (.refl _))))))).trans (hsub_pick [4, 0] rfl)) ?_
            exact ⟨by simp_all [healR, healTo, Go.Sl.hg0, Go.Sl.hg1] <;> rfl, D, h.to (by simp_all [healA, healTo, Go.Sl.hg0, Go.Sl.hg1]), by rw [show healM m A p n = m from by simp_all [healM, healTo, Go.Sl.hg0, Go.Sl.hg1]]; first | done | rfl⟩
          · replace hc4 := of_decide_eq_false hc4
            refine C_seq (C_region ?_)
            refine LY rfl (y_indexA rfl rfl Try.underlying62 sz_4 (by omega) (by omega) (show _ = 0 from rfl)) ?_
            refine LY rfl (y_load rfl ag_4 (sees 1 0 rfl) rfl) (LY rfl (y_not rfl) (LY rfl (y_assign rfl) (L_nil (C_cond_f rfl (C_skip (C_seq (C_seq (C_region (LY rfl (y_move rfl) (LY rfl (y_move rfl) ?_))))))))))
            refine LY rfl (y_sub rfl rfl (show _ = (1 : Int) from rfl)) ?_
            refine LY rfl (y_nilCheck rfl) (LY rfl (y_fieldAddr rfl fl_110_0) ?_)
            refine LY rfl (y_indexA rfl rfl Try.underlying108 sz_107 (by omega) (by omega) (show _ = 2 from rfl)) ?_
            refine LY rfl (y_assign rfl) (L_nil (C_seq ?_))
            refine C_regionH (m.seg 110 :: H) (by kernel_rfl) ?_
            refine HY 0 rfl (((hsub (.cons_cons _ (.cons _ (.cons _ (.cons _ (.cons _ (.refl _))))))).trans (hsub_pick [4] rfl))) rfl (y_move rfl) ?_
            refine HY 1 rfl (((hsub (.cons_cons _ (.cons _ (.cons _ (.cons _ (.cons _ (.refl _))))))).trans (hsub_pick [4] rfl))) rfl (y_nilCheck rfl) ?_
            refine HY 2 rfl (((hsub (.cons_cons _ (.cons _ (.cons _ (.cons _ (.cons _ (.refl _))))))).trans (hsub_pick [4] rfl))) rfl (y_fieldAddr rfl fl_107_0) ?_
            refine HY 3 rfl (((hsub (.cons_cons _ (.cons _ (.cons _ (.cons _ (.cons _ (.refl _))))))).trans (hsub_pick [4] rfl))) rfl (y_load rfl ag_24 (sees 0 0 rfl) rfl) ?_
            refine HY 4 rfl (((hsub (.cons_cons _ (.cons _ (.cons _ (.cons _ (.cons _ (.refl _))))))).trans (hsub_pick [4] rfl))) rfl (y_move rfl) ?_
            refine HY 5 rfl (((hsub (.cons_cons _ (.cons _ (.cons _ (.cons _ (.cons _ (.refl _))))))).trans (hsub_pick [4] rfl))) rfl (y_move rfl) ?_
            refine HY 6 rfl (((hsub (.cons_cons _ (.cons _ (.cons _ (.cons _ (.cons _ (.refl _))))))).trans (hsub_pick [4] rfl))) rfl (y_indexA rfl rfl Try.underlying120 sz_32 (by omega) (by omega) (show _ = 0 from rfl)) ?_
            refine H_one 7 rfl (by kernel_rfl) rfl (op_y (y_loadA rfl ag_32 sz_32 (sees 2 0 rfl) (by simp [bs_length, secOf_len, rS_len _ h.oks]) (by first | exact two_hi (rS_len _ h.oks) (rS_len _ h.oks) | exact two_lo (rS_len _ h.oks))) rfl ?_)
            refine ⟨((hsub (.cons_cons _ (.cons _ (.cons _ (.cons _ (.cons _ (.refl _))))))).trans (hsub_pick [4] rfl)), ?_⟩
            refine H_one 8 rfl (by kernel_rfl) rfl (op_call rfl rfl (fun a w => Try.call62 a w) rfl ?_)
            refine ((write_d h true n (A.rS false n) (rS_len _ h.oks) (by have := hQ true; omega)).sub (hsub_pick [0] rfl)).mono ?_
            rintro _ _ ⟨rfl, D2, h2, rfl⟩
            refine ⟨_, rfl, ?_⟩
            refine ⟨((hsub (.cons_cons _ (.cons _ (.cons _ (.cons _ (.cons _ (.refl _))))))).trans (hsub_pick [4] rfl)), ?_⟩
            refine HY 9 rfl (((hsub (.cons_cons _ (.cons _ (.cons _ (.cons _ (.cons _ (.refl _))))))).trans (hsub_pick [4] rfl))) rfl (y_eqi rfl rfl) ?_
            refine H_done (by kernel_rfl) ?_
            refine C_cond rfl (fun hc6 => ?_) (fun hc6 => ?_)
            · replace hc6 := of_decide_eq_true hc6
              refine C_region (LY rfl (y_move rfl) (LY rfl (y_nilCheck rfl) (LY rfl (y_fieldAddr rfl fl_107_1) (LY rfl (y_load rfl ag_105 (sees 4 0 rfl) rfl) (LY rfl (y_move rfl) ?_)))))
              refine L_op rfl (op_delete 4 2 rfl rfl rfl Try.underlying105 Try.underlying3 rfl rfl ?_)
              refine L_nil (C_seq (C_region (LY rfl (y_assign rfl) (LY rfl (y_assign rfl) (L_nil (C_ret ?_))))))
              refine B_ret (rv_tmp rfl (rv_tmp rfl rv_nil)) ((hsub (.cons_cons _ (.cons_cons _ (.cons _ (.cons _ (.cons _ (.refl _))))))).trans (hsub_pick [4, 0] rfl)) ?_
              have e0 : healTo m A p n = some true := by simp_all [healTo, Go.Sl.hg0, Go.Sl.hg1]
              have e1 : healM m A p n = (if A.wE true n = 0 then { m with k1 := kDel m.k1 n } else m) := by simp [healM, e0]
              exact ⟨by simp_all [healR, Go.Sl.hg0, Go.Sl.hg1] <;> rfl, D2, h2.to (by simp [healA, e0]), by rw [e1]; first | (rw [if_pos (by simpa using hc6)]; rfl) | (rw [if_neg (by simpa using hc6)]; rfl)⟩
            · replace hc6 := of_decide_eq_false hc6
              refine C_skip (C_seq (C_region (LY rfl (y_assign rfl) (LY rfl (y_assign rfl) (L_nil (C_ret ?_))))))
              refine B_ret (rv_tmp rfl (rv_tmp rfl rv_nil)) ((hsub (.cons_cons _ (.cons_cons _ (.cons _ (.cons _ (.cons _ (.refl _))))))).trans (hsub_pick [4, 0] rfl)) ?_
              have e0 : healTo m A p n = some true := by simp_all [healTo, Go.Sl.hg0, Go.Sl.hg1]
              have e1 : healM m A p n = (if A.wE true n = 0 then { m with k1 := kDel m.k1 n } else m) := by simp [healM, e0]
              exact ⟨by simp_all [healR, Go.Sl.hg0, Go.Sl.hg1] <;> rfl, D2, h2.to (by simp [healA, e0]), by rw [e1]; first | (rw [if_pos (by simpa using hc6)]; rfl) | (rw [if_neg (by simpa using hc6)]; rfl)⟩
        · skip
          refine LY rfl (y_pick_t rfl rfl) ?_
          refine LY rfl (y_indexA rfl rfl Try.underlying62 sz_4 (by omega) (by omega) (show _ = 1 from rfl)) ?_
          refine L_op rfl (op_store1 1 0 rfl rfl rfl sz_4 rfl (Nat.le_of_ble_eq_true rfl) ?_)
          refine L_nil (C_region ?_)
          refine LY rfl (y_add rfl rfl (show _ = (2 : Int) from rfl)) ?_
          refine LY rfl (y_move rfl) (L_nil ?_)
          refine In_round ?_
          refine C_seq (C_region (LY rfl (y_lss rfl rfl) (L_nil (C_seq (C_cond_f rfl (C_exit (C_seq (C_region (LY rfl (y_assign rfl) (L_nil (C_seq (C_block (C_seq (C_region ?_))))))))))))))
          refine LY rfl (y_indexA rfl rfl Try.underlying62 sz_4 (by omega) (by omega) (show _ = 0 from rfl)) ?_
          refine LY rfl (y_load rfl ag_4 (sees 1 0 rfl) rfl) (LY rfl (y_not rfl) (LY rfl (y_move rfl) (L_skip rfl rfl (L_skip rfl rfl (L_skip rfl rfl (LY rfl (y_pick_f rfl rfl) (LY rfl (y_assign rfl) (L_nil (C_cond_f rfl (C_seq (C_region ?_)))))))))))
          refine LY rfl (y_indexA rfl rfl Try.underlying62 sz_4 (by omega) (by omega) (show _ = 0 from rfl)) ?_
          refine LY rfl (y_load rfl ag_4 (sees 1 0 rfl) rfl) (LY rfl (y_move rfl) ?_)
          refine LY rfl (y_indexA rfl rfl Try.underlying62 sz_4 (by omega) (by omega) (show _ = 1 from rfl)) ?_
          refine LY rfl (y_load rfl ag_4 (sees 1 0 rfl) rfl) (LY rfl (y_pick_t rfl rfl) (LY rfl (y_move rfl) (L_skip rfl rfl (L_skip rfl rfl (L_skip rfl rfl (L_skip rfl rfl (L_skip rfl rfl (LY rfl (y_pick_f rfl rfl) (LY rfl (y_assign rfl) (L_nil (C_cond_f rfl (C_seq (C_region ?_)))))))))))))
          refine LY rfl (y_indexA rfl rfl Try.underlying62 sz_4 (by omega) (by omega) (show _ = 0 from rfl)) ?_
          refine LY rfl (y_load rfl ag_4 (sees 1 0 rfl) rfl) (LY rfl (y_not rfl) (LY rfl (y_assign rfl) (L_nil (C_cond_f rfl (C_skip (C_seq (C_seq (C_region (LY rfl (y_move rfl) (LY rfl (y_move rfl) ?_))))))))))
          refine LY rfl (y_sub rfl rfl (show _ = (1 : Int) from rfl)) ?_
          refine LY rfl (y_nilCheck rfl) (LY rfl (y_fieldAddr rfl fl_110_0) ?_)
          refine LY rfl (y_indexA rfl rfl Try.underlying108 sz_107 (by omega) (by omega) (show _ = 2 from rfl)) ?_
          refine LY rfl (y_assign rfl) (L_nil (C_seq ?_))
          refine C_regionH (m.seg 110 :: H) (by kernel_rfl) ?_
          refine HY 0 rfl (((hsub (.cons_cons _ (.cons _ (.cons _ (.cons _ (.cons _ (.refl _))))))).trans (hsub_pick [4] rfl))) rfl (y_move rfl) ?_
          refine HY 1 rfl (((hsub (.cons_cons _ (.cons _ (.cons _ (.cons _ (.cons _ (.refl _))))))).trans (hsub_pick [4] rfl))) rfl (y_nilCheck rfl) ?_
          refine HY 2 rfl (((hsub (.cons_cons _ (.cons _ (.cons _ (.cons _ (.cons _ (.refl _))))))).trans (hsub_pick [4] rfl))) rfl (y_fieldAddr rfl fl_107_0) ?_
          refine HY 3 rfl (((hsub (.cons_cons _ (.cons _ (.cons _ (.cons _ (.cons _ (.refl _))))))).trans (hsub_pick [4] rfl))) rfl (y_load rfl ag_24 (sees 0 0 rfl) rfl) ?_
          refine HY 4 rfl (((hsub (.cons_cons _ (.cons _ (.cons _ (.cons _ (.cons _ (.refl _))))))).trans (hsub_pick [4] rfl))) rfl (y_move rfl) ?_
          refine HY 5 rfl (((hsub (.cons_cons _ (.cons _ (.cons _ (.cons _ (.cons _ (.refl _))))))).trans (hsub_pick [4] rfl))) rfl (y_move rfl) ?_
          refine HY 6 rfl (((hsub (.cons_cons _ (.cons _ (.cons _ (.cons _ (.cons _ (.refl _))))))).trans (hsub_pick [4] rfl))) rfl (y_indexA rfl rfl Try.underlying120 sz_32 (by omega) (by omega) (show _ = 0 from rfl)) ?_
          refine H_one 7 rfl (by kernel_rfl) rfl (op_y (y_loadA rfl ag_32 sz_32 (sees 2 0 rfl) (by simp [bs_length, secOf_len, rS_len _ h.oks]) (by first | exact two_hi (rS_len _ h.oks) (rS_len _ h.oks) | exact two_lo (rS_len _ h.oks))) rfl ?_)
          refine ⟨((hsub (.cons_cons _ (.cons _ (.cons _ (.cons _ (.cons _ (.refl _))))))).trans (hsub_pick [4] rfl)), ?_⟩
          refine H_one 8 rfl (by kernel_rfl) rfl (op_call rfl rfl (fun a w => Try.call62 a w) rfl ?_)
          refine ((write_d h true n (A.rS false n) (rS_len _ h.oks) (by have := hQ true; omega)).sub (hsub_pick [0] rfl)).mono ?_
          rintro _ _ ⟨rfl, D3, h3, rfl⟩
          refine ⟨_, rfl, ?_⟩
          refine ⟨((hsub (.cons_cons _ (.cons _ (.cons _ (.cons _ (.cons _ (.refl _))))))).trans (hsub_pick [4] rfl)), ?_⟩
          refine HY 9 rfl (((hsub (.cons_cons _ (.cons _ (.cons _ (.cons _ (.cons _ (.refl _))))))).trans (hsub_pick [4] rfl))) rfl (y_eqi rfl rfl) ?_
          refine H_done (by kernel_rfl) ?_
          refine C_cond rfl (fun hc6 => ?_) (fun hc6 => ?_)
          · replace hc6 := of_decide_eq_true hc6
            refine C_region (LY rfl (y_move rfl) (LY rfl (y_nilCheck rfl) (LY rfl (y_fieldAddr rfl fl_107_1) (LY rfl (y_load rfl ag_105 (sees 4 0 rfl) rfl) (LY rfl (y_move rfl) ?_)))))
            refine L_op rfl (op_delete 4 2 rfl rfl rfl Try.underlying105 Try.underlying3 rfl rfl ?_)
            refine L_nil (C_seq (C_region (LY rfl (y_assign rfl) (LY rfl (y_assign rfl) (L_nil (C_ret ?_))))))
            refine B_ret (rv_tmp rfl (rv_tmp rfl rv_nil)) ((hsub (.cons_cons _ (.cons_cons _ (.cons _ (.cons _ (.cons _ (.refl _))))))).trans (hsub_pick [4, 0] rfl)) ?_
            have e0 : healTo m A p n = some true := by simp_all [healTo, Go.Sl.hg0, Go.Sl.hg1]
            have e1 : healM m A p n = (if A.wE true n = 0 then { m with k1 := kDel m.k1 n } else m) := by simp [healM, e0]
            exact ⟨by simp_all [healR, Go.Sl.hg0, Go.Sl.hg1] <;> rfl, D3, h3.to (by simp [healA, e0]), by rw [e1]; first | (rw [if_pos (by simpa using hc6)]; rfl) | (rw [if_neg (by simpa using hc6)]; rfl)⟩
          · replace hc6 := of_decide_eq_false hc6
            refine C_skip (C_seq (C_region (LY rfl (y_assign rfl) (LY rfl (y_assign rfl) (L_nil (C_ret ?_))))))
            refine B_ret (rv_tmp rfl (rv_tmp rfl rv_nil)) ((hsub (.cons_cons _ (.cons_cons _ (.cons _ (.cons _ (.cons _ (.refl _))))))).trans (hsub_pick [4, 0] rfl)) ?_
            have e0 : healTo m A p n = some true := by simp_all [healTo, Go.Sl.hg0, Go.Sl.hg1]
            have e1 : healM m A p n = (if A.wE true n = 0 then { m with k1 := kDel m.k1 n } else m) := by simp [healM, e0]
            exact ⟨by simp_all [healR, Go.Sl.hg0, Go.Sl.hg1] <;> rfl, D3, h3.to (by simp [healA, e0]), by rw [e1]; first | (rw [if_pos (by simpa using hc6)]; rfl) | (rw [if_neg (by simpa using hc6)]; rfl)⟩
      · skip
        refine L_skip rfl rfl (L_skip rfl rfl (L_skip rfl rfl (L_skip rfl rfl (L_skip rfl rfl (L_skip rfl rfl (LY rfl (y_pick_f rfl rfl) ?_))))))
        refine LY rfl (y_indexA rfl rfl Try.underlying62 sz_4 (by omega) (by omega) (show _ = 1 from rfl)) ?_
        refine L_op rfl (op_store1 1 0 rfl rfl rfl sz_4 rfl (Nat.le_of_ble_eq_true rfl) ?_)
        refine L_nil (C_region ?_)
        refine LY rfl (y_add rfl rfl (show _ = (2 : Int) from rfl)) ?_
        refine LY rfl (y_move rfl) (L_nil ?_)
        refine In_round ?_
        refine C_seq (C_region (LY rfl (y_lss rfl rfl) (L_nil (C_seq (C_cond_f rfl (C_exit (C_seq (C_region (LY rfl (y_assign rfl) (L_nil (C_seq (C_block (C_seq (C_region ?_))))))))))))))
        refine LY rfl (y_indexA rfl rfl Try.underlying62 sz_4 (by omega) (by omega) (show _ = 0 from rfl)) ?_
        refine LY rfl (y_load rfl ag_4 (sees 1 0 rfl) rfl) (LY rfl (y_not rfl) (LY rfl (y_move rfl) (L_skip rfl rfl (L_skip rfl rfl (L_skip rfl rfl (LY rfl (y_pick_f rfl rfl) (LY rfl (y_assign rfl) (L_nil (C_cond_f rfl (C_seq (C_region ?_)))))))))))
        refine LY rfl (y_indexA rfl rfl Try.underlying62 sz_4 (by omega) (by omega) (show _ = 0 from rfl)) ?_
        refine LY rfl (y_load rfl ag_4 (sees 1 0 rfl) rfl) (LY rfl (y_move rfl) ?_)
        refine LY rfl (y_indexA rfl rfl Try.underlying62 sz_4 (by omega) (by omega) (show _ = 1 from rfl)) ?_
        refine LY rfl (y_load rfl ag_4 (sees 1 0 rfl) rfl) (LY rfl (y_pick_t rfl rfl) (LY rfl (y_move rfl) (L_skip rfl rfl (L_skip rfl rfl (L_skip rfl rfl (L_skip rfl rfl (L_skip rfl rfl (LY rfl (y_pick_f rfl rfl) (LY rfl (y_assign rfl) (L_nil (C_cond_f rfl (C_seq (C_region ?_)))))))))))))
        refine LY rfl (y_indexA rfl rfl Try.underlying62 sz_4 (by omega) (by omega) (show _ = 0 from rfl)) ?_
        refine LY rfl (y_load rfl ag_4 (sees 1 0 rfl) rfl) (LY rfl (y_not rfl) (LY rfl (y_assign rfl) (L_nil (C_cond_f rfl (C_skip (C_seq (C_seq (C_region (LY rfl (y_move rfl) (LY rfl (y_move rfl) ?_))))))))))
        refine LY rfl (y_sub rfl rfl (show _ = (1 : Int) from rfl)) ?_
        refine LY rfl (y_nilCheck rfl) (LY rfl (y_fieldAddr rfl fl_110_0) ?_)
        refine LY rfl (y_indexA rfl rfl Try.underlying108 sz_107 (by omega) (by omega) (show _ = 2 from rfl)) ?_
        refine LY rfl (y_assign rfl) (L_nil (C_seq ?_))
        refine C_regionH (m.seg 110 :: H) (by kernel_rfl) ?_
        refine HY 0 rfl (((hsub (.cons_cons _ (.cons _ (.cons _ (.cons _ (.cons _ (.refl _))))))).trans (hsub_pick [4] rfl))) rfl (y_move rfl) ?_
        refine HY 1 rfl (((hsub (.cons_cons _ (.cons _ (.cons _ (.cons _ (.cons _ (.refl _))))))).trans (hsub_pick [4] rfl))) rfl (y_nilCheck rfl) ?_
        refine HY 2 rfl (((hsub (.cons_cons _ (.cons _ (.cons _ (.cons _ (.cons _ (.refl _))))))).trans (hsub_pick [4] rfl))) rfl (y_fieldAddr rfl fl_107_0) ?_
        refine HY 3 rfl (((hsub (.cons_cons _ (.cons _ (.cons _ (.cons _ (.cons _ (.refl _))))))).trans (hsub_pick [4] rfl))) rfl (y_load rfl ag_24 (sees 0 0 rfl) rfl) ?_
        refine HY 4 rfl (((hsub (.cons_cons _ (.cons _ (.cons _ (.cons _ (.cons _ (.refl _))))))).trans (hsub_pick [4] rfl))) rfl (y_move rfl) ?_
        refine HY 5 rfl (((hsub (.cons_cons _ (.cons _ (.cons _ (.cons _ (.cons _ (.refl _))))))).trans (hsub_pick [4] rfl))) rfl (y_move rfl) ?_
        refine HY 6 rfl (((hsub (.cons_cons _ (.cons _ (.cons _ (.cons _ (.cons _ (.refl _))))))).trans (hsub_pick [4] rfl))) rfl (y_indexA rfl rfl Try.underlying120 sz_32 (by omega) (by omega) (show _ = 0 from rfl)) ?_
        refine H_one 7 rfl (by kernel_rfl) rfl (op_y (y_loadA rfl ag_32 sz_32 (sees 2 0 rfl) (by simp [bs_length, secOf_len, rS_len _ h.oks]) (by first | exact two_hi (rS_len _ h.oks) (rS_len _ h.oks) | exact two_lo (rS_len _ h.oks))) rfl ?_)
        refine ⟨((hsub (.cons_cons _ (.cons _ (.cons _ (.cons _ (.cons _ (.refl _))))))).trans (hsub_pick [4] rfl)), ?_⟩
        refine H_one 8 rfl (by kernel_rfl) rfl (op_call rfl rfl (fun a w => Try.call62 a w) rfl ?_)
        refine ((write_d h true n (A.rS false n) (rS_len _ h.oks) (by have := hQ true; omega)).sub (hsub_pick [0] rfl)).mono ?_
        rintro _ _ ⟨rfl, D4, h4, rfl⟩
        refine ⟨_, rfl, ?_⟩
        refine ⟨((hsub (.cons_cons _ (.cons _ (.cons _ (.cons _ (.cons _ (.refl _))))))).trans (hsub_pick [4] rfl)), ?_⟩
        refine HY 9 rfl (((hsub (.cons_cons _ (.cons _ (.cons _ (.cons _ (.cons _ (.refl _))))))).trans (hsub_pick [4] rfl))) rfl (y_eqi rfl rfl) ?_
        refine H_done (by kernel_rfl) ?_
        refine C_cond rfl (fun hc6 => ?_) (fun hc6 => ?_)
        · replace hc6 := of_decide_eq_true hc6
          refine C_region (LY rfl (y_move rfl) (LY rfl (y_nilCheck rfl) (LY rfl (y_fieldAddr rfl fl_107_1) (LY rfl (y_load rfl ag_105 (sees 4 0 rfl) rfl) (LY rfl (y_move rfl) ?_)))))
          refine L_op rfl (op_delete 4 2 rfl rfl rfl Try.underlying105 Try.underlying3 rfl rfl ?_)
          refine L_nil (C_seq (C_region (LY rfl (y_assign rfl) (LY rfl (y_assign rfl) (L_nil (C_ret ?_))))))
          refine B_ret (rv_tmp rfl (rv_tmp rfl rv_nil)) ((hsub (.cons_cons _ (.cons_cons _ (.cons _ (.cons _ (.cons _ (.refl _))))))).trans (hsub_pick [4, 0] rfl)) ?_
          have e0 : healTo m A p n = some true := by simp_all [healTo, Go.Sl.hg0, Go.Sl.hg1]
          have e1 : healM m A p n = (if A.wE true n = 0 then { m with k1 := kDel m.k1 n } else m) := by simp [healM, e0]
          exact ⟨by simp_all [healR, Go.Sl.hg0, Go.Sl.hg1] <;> rfl, D4, h4.to (by simp [healA, e0]), by rw [e1]; first | (rw [if_pos (by simpa using hc6)]; rfl) | (rw [if_neg (by simpa using hc6)]; rfl)⟩
        · replace hc6 := of_decide_eq_false hc6
          refine C_skip (C_seq (C_region (LY rfl (y_assign rfl) (LY rfl (y_assign rfl) (L_nil (C_ret ?_))))))
          refine B_ret (rv_tmp rfl (rv_tmp rfl rv_nil)) ((hsub (.cons_cons _ (.cons_cons _ (.cons _ (.cons _ (.cons _ (.refl _))))))).trans (hsub_pick [4, 0] rfl)) ?_
          have e0 : healTo m A p n = some true := by simp_all [healTo, Go.Sl.hg0, Go.Sl.hg1]
          have e1 : healM m A p n = (if A.wE true n = 0 then { m with k1 := kDel m.k1 n } else m) := by simp [healM, e0]
          exact ⟨by simp_all [healR, Go.Sl.hg0, Go.Sl.hg1] <;> rfl, D4, h4.to (by simp [healA, e0]), by rw [e1]; first | (rw [if_pos (by simpa using hc6)]; rfl) | (rw [if_neg (by simpa using hc6)]; rfl)⟩
    · skip
      refine LY rfl (y_pick_t rfl rfl) ?_
      refine LY rfl (y_indexA rfl rfl Try.underlying62 sz_4 (by omega) (by omega) (show _ = 0 from rfl)) ?_
      refine L_op rfl (op_store1 1 0 rfl rfl rfl sz_4 rfl (Nat.le_of_ble_eq_true rfl) ?_)
      refine L_nil (C_region ?_)
      refine LY rfl (y_add rfl rfl (show _ = (1 : Int) from rfl)) ?_
      refine LY rfl (y_move rfl) (L_nil ?_)
      refine In_round ?_
      refine C_seq (C_region (LY rfl (y_lss rfl rfl) (L_nil (C_seq (C_cond_t rfl (C_skip (C_seq (C_block (C_seq (C_region (LY rfl (y_move rfl) (LY rfl (y_assign rfl) (L_nil (C_seq (C_region (LY rfl (y_move rfl) (LY rfl (y_move rfl) (LY rfl (y_move rfl) (LY rfl (y_nilCheck rfl) (LY rfl (y_fieldAddr rfl fl_110_0) ?_))))))))))))))))))))
      refine LY rfl (y_indexA rfl rfl Try.underlying108 sz_107 (by omega) (by omega) (show _ = 2 from rfl)) ?_
      refine LY rfl (y_fieldAddr rfl fl_107_0) (LY rfl (y_load rfl ag_24 (sees 4 0 rfl) rfl) (LY rfl (y_move rfl) ?_))
      refine L_op rfl (op_call rfl rfl (fun a w => Try.call60 a w) rfl ?_)
      refine ((read_d h true (n)).sub (hsub_pick [0] rfl)).mono ?_
      rintro _ _ ⟨rfl, rfl⟩
      refine ⟨_, rfl, ?_⟩
      refine LY rfl (y_move rfl) (LY rfl (y_extract rfl rfl) (LY rfl (y_extract rfl rfl) ?_))
      refine LY rfl (y_indexA rfl rfl Try.underlying120 sz_32 (by omega) (by omega) (show _ = 128 from rfl)) ?_
      skip
      refine L_op rfl (op_store (vs := bs (A.rS true n)) 2 0 rfl rfl rfl sz_32 (by rw [bs_length, rS_len _ h.oks]) rfl (bs_one _) (by simp [bs_length, secOf_len, rS_len _ h.oks]) ?_)
      rw [spl_hi (rS_len _ h.oks) (by rw [secOf_len, rS_len _ h.oks])]
      refine L_nil (C_region (LY rfl (y_move rfl) (LY rfl (y_move rfl) (LY rfl (y_move rfl) (LY rfl (y_nilCheck rfl) (LY rfl (y_fieldAddr rfl fl_110_0) ?_))))))
      refine LY rfl (y_indexA rfl rfl Try.underlying108 sz_107 (by omega) (by omega) (show _ = 2 from rfl)) ?_
      refine LY rfl (y_fieldAddr rfl fl_107_1) (LY rfl (y_load rfl ag_105 (sees 4 0 rfl) rfl) (LY rfl (y_move rfl) ?_))
      refine LY rfl (y_lookup rfl rfl Try.underlying105 Try.underlying3 zt_4 (sees 4 2 rfl)) ?_
      refine LY rfl (y_not rfl) (LY rfl (y_move rfl) ?_)
      refine L_case 47 rfl (fun hg11_12 => ?_) (fun hg11_12 => ?_)
      · skip
        refine LY rfl (y_move rfl) (LY rfl (y_move rfl) (LY rfl (y_move rfl) ?_))
        refine LY rfl (y_indexA rfl rfl Try.underlying120 sz_32 (by omega) (by omega) (show _ = 128 from rfl)) ?_
        refine LY rfl (y_loadA rfl ag_32 sz_32 (sees 2 0 rfl) (by simp [bs_length, secOf_len, rS_len _ h.oks]) (by first | exact two_hi (rS_len _ h.oks) (rS_len _ h.oks) | exact two_lo (rS_len _ h.oks))) ?_
        refine L_op rfl (op_call rfl rfl (fun a w => Try.call61 a w) rfl ?_)
        refine FnS.mono (right_m (sees 4 0 rfl) (hG.sub (hsub (.cons _ (.cons _ (.cons _ (.cons _ (.cons _ (.refl _)))))))) n _ (rS_len _ h.oks)) ?_
        rintro _ _ ⟨rfl, e⟩
        obtain rfl := e.symm
        refine ⟨_, rfl, ?_⟩
        refine L_case 53 rfl (fun hg11_18 => ?_) (fun hg11_18 => ?_)
        · skip
          refine LY rfl (y_pick_t rfl rfl) ?_
          refine LY rfl (y_indexA rfl rfl Try.underlying62 sz_4 (by omega) (by omega) (show _ = 1 from rfl)) ?_
          refine L_op rfl (op_store1 1 0 rfl rfl rfl sz_4 rfl (Nat.le_of_ble_eq_true rfl) ?_)
          refine L_nil (C_region ?_)
          refine LY rfl (y_add rfl rfl (show _ = (2 : Int) from rfl)) ?_
          refine LY rfl (y_move rfl) (L_nil ?_)
          refine In_round ?_
          refine C_seq (C_region (LY rfl (y_lss rfl rfl) (L_nil (C_seq (C_cond_f rfl (C_exit (C_seq (C_region (LY rfl (y_assign rfl) (L_nil (C_seq (C_block (C_seq (C_region ?_))))))))))))))
          refine LY rfl (y_indexA rfl rfl Try.underlying62 sz_4 (by omega) (by omega) (show _ = 0 from rfl)) ?_
          refine LY rfl (y_load rfl ag_4 (sees 1 0 rfl) rfl) (LY rfl (y_not rfl) (LY rfl (y_move rfl) ?_))
          refine LY rfl (y_indexA rfl rfl Try.underlying62 sz_4 (by omega) (by omega) (show _ = 1 from rfl)) ?_
          refine LY rfl (y_load rfl ag_4 (sees 1 0 rfl) rfl) (LY rfl (y_not rfl) (LY rfl (y_pick_t rfl rfl) (LY rfl (y_assign rfl) (L_nil (C_cond_f rfl (C_seq (C_region ?_)))))))
          refine LY rfl (y_indexA rfl rfl Try.underlying62 sz_4 (by omega) (by omega) (show _ = 0 from rfl)) ?_
          refine LY rfl (y_load rfl ag_4 (sees 1 0 rfl) rfl) (LY rfl (y_move rfl) (L_skip rfl rfl (L_skip rfl rfl (LY rfl (y_pick_f rfl rfl) (LY rfl (y_move rfl) (L_skip rfl rfl (L_skip rfl rfl (L_skip rfl rfl (L_skip rfl rfl (L_skip rfl rfl (LY rfl (y_pick_f rfl rfl) (LY rfl (y_assign rfl) (L_nil (C_cond_f rfl (C_seq (C_region ?_))))))))))))))))
          refine LY rfl (y_indexA rfl rfl Try.underlying62 sz_4 (by omega) (by omega) (show _ = 0 from rfl)) ?_
          refine LY rfl (y_load rfl ag_4 (sees 1 0 rfl) rfl) (LY rfl (y_not rfl) (LY rfl (y_assign rfl) (L_nil (C_cond_t rfl (C_region (LY rfl (y_assign rfl) (L_nil (C_seq (C_seq (C_region (LY rfl (y_move rfl) (LY rfl (y_move rfl) ?_))))))))))))
          refine LY rfl (y_sub rfl rfl (show _ = (0 : Int) from rfl)) ?_
          refine LY rfl (y_nilCheck rfl) (LY rfl (y_fieldAddr rfl fl_110_0) ?_)
          refine LY rfl (y_indexA rfl rfl Try.underlying108 sz_107 (by omega) (by omega) (show _ = 0 from rfl)) ?_
          refine LY rfl (y_assign rfl) (L_nil (C_seq ?_))
          refine C_regionH (m.seg 110 :: H) (by kernel_rfl) ?_
          refine HY 0 rfl (((hsub (.cons_cons _ (.cons _ (.cons _ (.cons _ (.cons _ (.refl _))))))).trans (hsub_pick [4] rfl))) rfl (y_move rfl) ?_
          refine HY 1 rfl (((hsub (.cons_cons _ (.cons _ (.cons _ (.cons _ (.cons _ (.refl _))))))).trans (hsub_pick [4] rfl))) rfl (y_nilCheck rfl) ?_
          refine HY 2 rfl (((hsub (.cons_cons _ (.cons _ (.cons _ (.cons _ (.cons _ (.refl _))))))).trans (hsub_pick [4] rfl))) rfl (y_fieldAddr rfl fl_107_0) ?_
          refine HY 3 rfl (((hsub (.cons_cons _ (.cons _ (.cons _ (.cons _ (.cons _ (.refl _))))))).trans (hsub_pick [4] rfl))) rfl (y_load rfl ag_24 (sees 0 0 rfl) rfl) ?_
          refine HY 4 rfl (((hsub (.cons_cons _ (.cons _ (.cons _ (.cons _ (.cons _ (.refl _))))))).trans (hsub_pick [4] rfl))) rfl (y_move rfl) ?_
          refine HY 5 rfl (((hsub (.cons_cons _ (.cons _ (.cons _ (.cons _ (.cons _ (.refl _))))))).trans (hsub_pick [4] rfl))) rfl (y_move rfl) ?_
          refine HY 6 rfl (((hsub (.cons_cons _ (.cons _ (.cons _ (.cons _ (.cons _ (.refl _))))))).trans (hsub_pick [4] rfl))) rfl (y_indexA rfl rfl Try.underlying120 sz_32 (by omega) (by omega) (show _ = 128 from rfl)) ?_
          refine H_one 7 rfl (by kernel_rfl) rfl (op_y (y_loadA rfl ag_32 sz_32 (sees 2 0 rfl) (by simp [bs_length, secOf_len, rS_len _ h.oks]) (by first | exact two_hi (rS_len _ h.oks) (rS_len _ h.oks) | exact two_lo (rS_len _ h.oks))) rfl ?_)
          refine ⟨((hsub (.cons_cons _ (.cons _ (.cons _ (.cons _ (.cons _ (.refl _))))))).trans (hsub_pick [4] rfl)), ?_⟩
          refine H_one 8 rfl (by kernel_rfl) rfl (op_call rfl rfl (fun a w => Try.call62 a w) rfl ?_)
          refine ((write_d h false n (A.rS true n) (rS_len _ h.oks) (by have := hQ false; omega)).sub (hsub_pick [0] rfl)).mono ?_
          rintro _ _ ⟨rfl, D5, h5, rfl⟩
          refine ⟨_, rfl, ?_⟩
          refine ⟨((hsub (.cons_cons _ (.cons _ (.cons _ (.cons _ (.cons _ (.refl _))))))).trans (hsub_pick [4] rfl)), ?_⟩
          refine HY 9 rfl (((hsub (.cons_cons _ (.cons _ (.cons _ (.cons _ (.cons _ (.refl _))))))).trans (hsub_pick [4] rfl))) rfl (y_eqi rfl rfl) ?_
          refine H_done (by kernel_rfl) ?_
          refine C_cond rfl (fun hc6 => ?_) (fun hc6 => ?_)
          · replace hc6 := of_decide_eq_true hc6
            refine C_region (LY rfl (y_move rfl) (LY rfl (y_nilCheck rfl) (LY rfl (y_fieldAddr rfl fl_107_1) (LY rfl (y_load rfl ag_105 (sees 4 0 rfl) rfl) (LY rfl (y_move rfl) ?_)))))
            refine L_op rfl (op_delete 4 1 rfl rfl rfl Try.underlying105 Try.underlying3 rfl rfl ?_)
            refine L_nil (C_seq (C_region (LY rfl (y_assign rfl) (LY rfl (y_assign rfl) (L_nil (C_ret ?_))))))
            refine B_ret (rv_tmp rfl (rv_tmp rfl rv_nil)) ((hsub (.cons_cons _ (.cons_cons _ (.cons _ (.cons _ (.cons _ (.refl _))))))).trans (hsub_pick [4, 0] rfl)) ?_
            have e0 : healTo m A p n = some false := by simp_all [healTo, Go.Sl.hg0, Go.Sl.hg1]
            have e1 : healM m A p n = (if A.wE false n = 0 then { m with k0 := kDel m.k0 n } else m) := by simp [healM, e0]
            exact ⟨by simp_all [healR, Go.Sl.hg0, Go.Sl.hg1] <;> rfl, D5, h5.to (by simp [healA, e0]), by rw [e1]; first | (rw [if_pos (by simpa using hc6)]; rfl) | (rw [if_neg (by simpa using hc6)]; rfl)⟩
          · replace hc6 := of_decide_eq_false hc6
            refine C_skip (C_seq (C_region (LY rfl (y_assign rfl) (LY rfl (y_assign rfl) (L_nil (C_ret ?_))))))
            refine B_ret (rv_tmp rfl (rv_tmp rfl rv_nil)) ((hsub (.cons_cons _ (.cons_cons _ (.cons _ (.cons _ (.cons _ (.refl _))))))).trans (hsub_pick [4, 0] rfl)) ?_
            have e0 : healTo m A p n = some false := by simp_all [healTo, Go.Sl.hg0, Go.Sl.hg1]
            have e1 : healM m A p n = (if A.wE false n = 0 then { m with k0 := kDel m.k0 n } else m) := by simp [healM, e0]
            exact ⟨by simp_all [healR, Go.Sl.hg0, Go.Sl.hg1] <;> rfl, D5, h5.to (by simp [healA, e0]), by rw [e1]; first | (rw [if_pos (by simpa using hc6)]; rfl) | (rw [if_neg (by simpa using hc6)]; rfl)⟩
        · skip
          refine LY rfl (y_pick_t rfl rfl) ?_
          refine LY rfl (y_indexA rfl rfl Try.underlying62 sz_4 (by omega) (by omega) (show _ = 1 from rfl)) ?_
          refine L_op rfl (op_store1 1 0 rfl rfl rfl sz_4 rfl (Nat.le_of_ble_eq_true rfl) ?_)
          refine L_nil (C_region ?_)
          refine LY rfl (y_add rfl rfl (show _ = (2 : Int) from rfl)) ?_
          refine LY rfl (y_move rfl) (L_nil ?_)
          refine In_round ?_
          refine C_seq (C_region (LY rfl (y_lss rfl rfl) (L_nil (C_seq (C_cond_f rfl (C_exit (C_seq (C_region (LY rfl (y_assign rfl) (L_nil (C_seq (C_block (C_seq (C_region ?_))))))))))))))
          refine LY rfl (y_indexA rfl rfl Try.underlying62 sz_4 (by omega) (by omega) (show _ = 0 from rfl)) ?_
          refine LY rfl (y_load rfl ag_4 (sees 1 0 rfl) rfl) (LY rfl (y_not rfl) (LY rfl (y_move rfl) ?_))
          refine LY rfl (y_indexA rfl rfl Try.underlying62 sz_4 (by omega) (by omega) (show _ = 1 from rfl)) ?_
          refine LY rfl (y_load rfl ag_4 (sees 1 0 rfl) rfl) (LY rfl (y_not rfl) (LY rfl (y_pick_t rfl rfl) (LY rfl (y_assign rfl) (L_nil (C_cond_t rfl (C_seq (C_region (LY rfl (y_assign rfl) (LY rfl (y_assign rfl) (L_nil (C_ret ?_)))))))))))
          refine B_ret (rv_tmp rfl (rv_tmp rfl rv_nil)) ((hsub (.cons_cons _ (.cons_cons _ (.cons _ (.cons _ (.cons _ (.refl _))))))).trans (hsub_pick [4, 0] rfl)) ?_
          exact ⟨by simp_all [healR, healTo, Go.Sl.hg0, Go.Sl.hg1] <;> rfl, D, h.to (by simp_all [healA, healTo, Go.Sl.hg0, Go.Sl.hg1]), by rw [show healM m A p n = m from by simp_all [healM, healTo, Go.Sl.hg0, Go.Sl.hg1]]; first | done | rfl⟩
      · skip
        refine L_skip rfl rfl (L_skip rfl rfl (L_skip rfl rfl (L_skip rfl rfl (L_skip rfl rfl (L_skip rfl rfl (LY rfl (y_pick_f rfl rfl) ?_))))))
        refine LY rfl (y_indexA rfl rfl Try.underlying62 sz_4 (by omega) (by omega) (show _ = 1 from rfl)) ?_
        refine L_op rfl (op_store1 1 0 rfl rfl rfl sz_4 rfl (Nat.le_of_ble_eq_true rfl) ?_)
        refine L_nil (C_region ?_)
        refine LY rfl (y_add rfl rfl (show _ = (2 : Int) from rfl)) ?_
        refine LY rfl (y_move rfl) (L_nil ?_)
        refine In_round ?_
        refine C_seq (C_region (LY rfl (y_lss rfl rfl) (L_nil (C_seq (C_cond_f rfl (C_exit (C_seq (C_region (LY rfl (y_assign rfl) (L_nil (C_seq (C_block (C_seq (C_region ?_))))))))))))))
        refine LY rfl (y_indexA rfl rfl Try.underlying62 sz_4 (by omega) (by omega) (show _ = 0 from rfl)) ?_
        refine LY rfl (y_load rfl ag_4 (sees 1 0 rfl) rfl) (LY rfl (y_not rfl) (LY rfl (y_move rfl) ?_))
        refine LY rfl (y_indexA rfl rfl Try.underlying62 sz_4 (by omega) (by omega) (show _ = 1 from rfl)) ?_
        refine LY rfl (y_load rfl ag_4 (sees 1 0 rfl) rfl) (LY rfl (y_not rfl) (LY rfl (y_pick_t rfl rfl) (LY rfl (y_assign rfl) (L_nil (C_cond_t rfl (C_seq (C_region (LY rfl (y_assign rfl) (LY rfl (y_assign rfl) (L_nil (C_ret ?_)))))))))))
        refine B_ret (rv_tmp rfl (rv_tmp rfl rv_nil)) ((hsub (.cons_cons _ (.cons_cons _ (.cons _ (.cons _ (.cons _ (.refl _))))))).trans (hsub_pick [4, 0] rfl)) ?_
        exact ⟨by simp_all [healR, healTo, Go.Sl.hg0, Go.Sl.hg1] <;> rfl, D, h.to (by simp_all [healA, healTo, Go.Sl.hg0, Go.Sl.hg1]), by rw [show healM m A p n = m from by simp_all [healM, healTo, Go.Sl.hg0, Go.Sl.hg1]]; first | done | rfl⟩
  · skip
    refine L_skip rfl rfl (L_skip rfl rfl (L_skip rfl rfl (L_skip rfl rfl (L_skip rfl rfl (L_skip rfl rfl (LY rfl (y_pick_f rfl rfl) ?_))))))
    refine LY rfl (y_indexA rfl rfl Try.underlying62 sz_4 (by omega) (by omega) (show _ = 0 from rfl)) ?_
    refine L_op rfl (op_store1 1 0 rfl rfl rfl sz_4 rfl (Nat.le_of_ble_eq_true rfl) ?_)
    refine L_nil (C_region ?_)
    refine LY rfl (y_add rfl rfl (show _ = (1 : Int) from rfl)) ?_
    refine LY rfl (y_move rfl) (L_nil ?_)
    refine In_round ?_
    refine C_seq (C_region (LY rfl (y_lss rfl rfl) (L_nil (C_seq (C_cond_t rfl (C_skip (C_seq (C_block (C_seq (C_region (LY rfl (y_move rfl) (LY rfl (y_assign rfl) (L_nil (C_seq (C_region (LY rfl (y_move rfl) (LY rfl (y_move rfl) (LY rfl (y_move rfl) (LY rfl (y_nilCheck rfl) (LY rfl (y_fieldAddr rfl fl_110_0) ?_))))))))))))))))))))
    refine LY rfl (y_indexA rfl rfl Try.underlying108 sz_107 (by omega) (by omega) (show _ = 2 from rfl)) ?_
    refine LY rfl (y_fieldAddr rfl fl_107_0) (LY rfl (y_load rfl ag_24 (sees 4 0 rfl) rfl) (LY rfl (y_move rfl) ?_))
    refine L_op rfl (op_call rfl rfl (fun a w => Try.call60 a w) rfl ?_)
    refine ((read_d h true (n)).sub (hsub_pick [0] rfl)).mono ?_
    rintro _ _ ⟨rfl, rfl⟩
    refine ⟨_, rfl, ?_⟩
    refine LY rfl (y_move rfl) (LY rfl (y_extract rfl rfl) (LY rfl (y_extract rfl rfl) ?_))
    refine LY rfl (y_indexA rfl rfl Try.underlying120 sz_32 (by omega) (by omega) (show _ = 128 from rfl)) ?_
    skip
    refine L_op rfl (op_store (vs := bs (A.rS true n)) 2 0 rfl rfl rfl sz_32 (by rw [bs_length, rS_len _ h.oks]) rfl (bs_one _) (by simp [bs_length, secOf_len, rS_len _ h.oks]) ?_)
    rw [spl_hi (rS_len _ h.oks) (by rw [secOf_len, rS_len _ h.oks])]
    refine L_nil (C_region (LY rfl (y_move rfl) (LY rfl (y_move rfl) (LY rfl (y_move rfl) (LY rfl (y_nilCheck rfl) (LY rfl (y_fieldAddr rfl fl_110_0) ?_))))))
    refine LY rfl (y_indexA rfl rfl Try.underlying108 sz_107 (by omega) (by omega) (show _ = 2 from rfl)) ?_
    refine LY rfl (y_fieldAddr rfl fl_107_1) (LY rfl (y_load rfl ag_105 (sees 4 0 rfl) rfl) (LY rfl (y_move rfl) ?_))
    refine LY rfl (y_lookup rfl rfl Try.underlying105 Try.underlying3 zt_4 (sees 4 2 rfl)) ?_
    refine LY rfl (y_not rfl) (LY rfl (y_move rfl) ?_)
    refine L_case 47 rfl (fun hg11_12 => ?_) (fun hg11_12 => ?_)
    · skip
      refine LY rfl (y_move rfl) (LY rfl (y_move rfl) (LY rfl (y_move rfl) ?_))
      refine LY rfl (y_indexA rfl rfl Try.underlying120 sz_32 (by omega) (by omega) (show _ = 128 from rfl)) ?_
      refine LY rfl (y_loadA rfl ag_32 sz_32 (sees 2 0 rfl) (by simp [bs_length, secOf_len, rS_len _ h.oks]) (by first | exact two_hi (rS_len _ h.oks) (rS_len _ h.oks) | exact two_lo (rS_len _ h.oks))) ?_
      refine L_op rfl (op_call rfl rfl (fun a w => Try.call61 a w) rfl ?_)
      refine FnS.mono (right_m (sees 4 0 rfl) (hG.sub (hsub (.cons _ (.cons _ (.cons _ (.cons _ (.cons _ (.refl _)))))))) n _ (rS_len _ h.oks)) ?_
      rintro _ _ ⟨rfl, e⟩
      obtain rfl := e.symm
      refine ⟨_, rfl, ?_⟩
      refine L_case 53 rfl (fun hg11_18 => ?_) (fun hg11_18 => ?_)
      · skip
        refine LY rfl (y_pick_t rfl rfl) ?_
        refine LY rfl (y_indexA rfl rfl Try.underlying62 sz_4 (by omega) (by omega) (show _ = 1 from rfl)) ?_
        refine L_op rfl (op_store1 1 0 rfl rfl rfl sz_4 rfl (Nat.le_of_ble_eq_true rfl) ?_)
        refine L_nil (C_region ?_)
        refine LY rfl (y_add rfl rfl (show _ = (2 : Int) from rfl)) ?_
        refine LY rfl (y_move rfl) (L_nil ?_)
        refine In_round ?_
        refine C_seq (C_region (LY rfl (y_lss rfl rfl) (L_nil (C_seq (C_cond_f rfl (C_exit (C_seq (C_region (LY rfl (y_assign rfl) (L_nil (C_seq (C_block (C_seq (C_region ?_))))))))))))))
        refine LY rfl (y_indexA rfl rfl Try.underlying62 sz_4 (by omega) (by omega) (show _ = 0 from rfl)) ?_
        refine LY rfl (y_load rfl ag_4 (sees 1 0 rfl) rfl) (LY rfl (y_not rfl) (LY rfl (y_move rfl) ?_))
        refine LY rfl (y_indexA rfl rfl Try.underlying62 sz_4 (by omega) (by omega) (show _ = 1 from rfl)) ?_
        refine LY rfl (y_load rfl ag_4 (sees 1 0 rfl) rfl) (LY rfl (y_not rfl) (LY rfl (y_pick_t rfl rfl) (LY rfl (y_assign rfl) (L_nil (C_cond_f rfl (C_seq (C_region ?_)))))))
        refine LY rfl (y_indexA rfl rfl Try.underlying62 sz_4 (by omega) (by omega) (show _ = 0 from rfl)) ?_
        refine LY rfl (y_load rfl ag_4 (sees 1 0 rfl) rfl) (LY rfl (y_move rfl) (L_skip rfl rfl (L_skip rfl rfl (LY rfl (y_pick_f rfl rfl) (LY rfl (y_move rfl) (L_skip rfl rfl (L_skip rfl rfl (L_skip rfl rfl (L_skip rfl rfl (L_skip rfl rfl (LY rfl (y_pick_f rfl rfl) (LY rfl (y_assign rfl) (L_nil (C_cond_f rfl (C_seq (C_region ?_))))))))))))))))
        refine LY rfl (y_indexA rfl rfl Try.underlying62 sz_4 (by omega) (by omega) (show _ = 0 from rfl)) ?_
        refine LY rfl (y_load rfl ag_4 (sees 1 0 rfl) rfl) (LY rfl (y_not rfl) (LY rfl (y_assign rfl) (L_nil (C_cond_t rfl (C_region (LY rfl (y_assign rfl) (L_nil (C_seq (C_seq (C_region (LY rfl (y_move rfl) (LY rfl (y_move rfl) ?_))))))))))))
        refine LY rfl (y_sub rfl rfl (show _ = (0 : Int) from rfl)) ?_
        refine LY rfl (y_nilCheck rfl) (LY rfl (y_fieldAddr rfl fl_110_0) ?_)
        refine LY rfl (y_indexA rfl rfl Try.underlying108 sz_107 (by omega) (by omega) (show _ = 0 from rfl)) ?_
        refine LY rfl (y_assign rfl) (L_nil (C_seq ?_))
        refine C_regionH (m.seg 110 :: H) (by kernel_rfl) ?_
        refine HY 0 rfl (((hsub (.cons_cons _ (.cons _ (.cons _ (.cons _ (.cons _ (.refl _))))))).trans (hsub_pick [4] rfl))) rfl (y_move rfl) ?_
        refine HY 1 rfl (((hsub (.cons_cons _ (.cons _ (.cons _ (.cons _ (.cons _ (.refl _))))))).trans (hsub_pick [4] rfl))) rfl (y_nilCheck rfl) ?_
        refine HY 2 rfl (((hsub (.cons_cons _ (.cons _ (.cons _ (.cons _ (.cons _ (.refl _))))))).trans (hsub_pick [4] rfl))) rfl (y_fieldAddr rfl fl_107_0) ?_
        refine HY 3 rfl (((hsub (.cons_cons _ (.cons _ (.cons _ (.cons _ (.cons _ (.refl _))))))).trans (hsub_pick [4] rfl))) rfl (y_load rfl ag_24 (sees 0 0 rfl) rfl) ?_
        refine HY 4 rfl (((hsub (.cons_cons _ (.cons _ (.cons _ (.cons _ (.cons _ (.refl _))))))).trans (hsub_pick [4] rfl))) rfl (y_move rfl) ?_
        refine HY 5 rfl (((hsub (.cons_cons _ (.cons _ (.cons _ (.cons _ (.cons _ (.refl _))))))).trans (hsub_pick [4] rfl))) rfl (y_move rfl) ?_
        refine HY 6 rfl (((hsub (.cons_cons _ (.cons _ (.cons _ (.cons _ (.cons _ (.refl _))))))).trans (hsub_pick [4] rfl))) rfl (y_indexA rfl rfl Try.underlying120 sz_32 (by omega) (by omega) (show _ = 128 from rfl)) ?_
        refine H_one 7 rfl (by kernel_rfl) rfl (op_y (y_loadA rfl ag_32 sz_32 (sees 2 0 rfl) (by simp [bs_length, secOf_len, rS_len _ h.oks]) (by first | exact two_hi (rS_len _ h.oks) (rS_len _ h.oks) | exact two_lo (rS_len _ h.oks))) rfl ?_)
        refine ⟨((hsub (.cons_cons _ (.cons _ (.cons _ (.cons _ (.cons _ (.refl _))))))).trans (hsub_pick [4] rfl)), ?_⟩
        refine H_one 8 rfl (by kernel_rfl) rfl (op_call rfl rfl (fun a w => Try.call62 a w) rfl ?_)
        refine ((write_d h false n (A.rS true n) (rS_len _ h.oks) (by have := hQ false; omega)).sub (hsub_pick [0] rfl)).mono ?_
        rintro _ _ ⟨rfl, D6, h6, rfl⟩
        refine ⟨_, rfl, ?_⟩
        refine ⟨((hsub (.cons_cons _ (.cons _ (.cons _ (.cons _ (.cons _ (.refl _))))))).trans (hsub_pick [4] rfl)), ?_⟩
        refine HY 9 rfl (((hsub (.cons_cons _ (.cons _ (.cons _ (.cons _ (.cons _ (.refl _))))))).trans (hsub_pick [4] rfl))) rfl (y_eqi rfl rfl) ?_
        refine H_done (by kernel_rfl) ?_
        refine C_cond rfl (fun hc6 => ?_) (fun hc6 => ?_)
        · replace hc6 := of_decide_eq_true hc6
          refine C_region (LY rfl (y_move rfl) (LY rfl (y_nilCheck rfl) (LY rfl (y_fieldAddr rfl fl_107_1) (LY rfl (y_load rfl ag_105 (sees 4 0 rfl) rfl) (LY rfl (y_move rfl) ?_)))))
          refine L_op rfl (op_delete 4 1 rfl rfl rfl Try.underlying105 Try.underlying3 rfl rfl ?_)
          refine L_nil (C_seq (C_region (LY rfl (y_assign rfl) (LY rfl (y_assign rfl) (L_nil (C_ret ?_))))))
          refine B_ret (rv_tmp rfl (rv_tmp rfl rv_nil)) ((hsub (.cons_cons _ (.cons_cons _ (.cons _ (.cons _ (.cons _ (.refl _))))))).trans (hsub_pick [4, 0] rfl)) ?_
          have e0 : healTo m A p n = some false := by simp_all [healTo, Go.Sl.hg0, Go.Sl.hg1]
          have e1 : healM m A p n = (if A.wE false n = 0 then { m with k0 := kDel m.k0 n } else m) := by simp [healM, e0]
          exact ⟨by simp_all [healR, Go.Sl.hg0, Go.Sl.hg1] <;> rfl, D6, h6.to (by simp [healA, e0]), by rw [e1]; first | (rw [if_pos (by simpa using hc6)]; rfl) | (rw [if_neg (by simpa using hc6)]; rfl)⟩
        · replace hc6 := of_decide_eq_false hc6
          refine C_skip (C_seq (C_region (LY rfl (y_assign rfl) (LY rfl (y_assign rfl) (L_nil (C_ret ?_))))))
          refine B_ret (rv_tmp rfl (rv_tmp rfl rv_nil)) ((hsub (.cons_cons _ (.cons_cons _ (.cons _ (.cons _ (.cons _ (.refl _))))))).trans (hsub_pick [4, 0] rfl)) ?_
          have e0 : healTo m A p n = some false := by simp_all [healTo, Go.Sl.hg0, Go.Sl.hg1]
          have e1 : healM m A p n = (if A.wE false n = 0 then { m with k0 := kDel m.k0 n } else m) := by simp [healM, e0]
          exact ⟨by simp_all [healR, Go.Sl.hg0, Go.Sl.hg1] <;> rfl, D6, h6.to (by simp [healA, e0]), by rw [e1]; first | (rw [if_pos (by simpa using hc6)]; rfl) | (rw [if_neg (by simpa using hc6)]; rfl)⟩
      · skip
        refine LY rfl (y_pick_t rfl rfl) ?_
        refine LY rfl (y_indexA rfl rfl Try.underlying62 sz_4 (by omega) (by omega) (show _ = 1 from rfl)) ?_
        refine L_op rfl (op_store1 1 0 rfl rfl rfl sz_4 rfl (Nat.le_of_ble_eq_true rfl) ?_)
        refine L_nil (C_region ?_)
        refine LY rfl (y_add rfl rfl (show _ = (2 : Int) from rfl)) ?_
        refine LY rfl (y_move rfl) (L_nil ?_)
        refine In_round ?_
        refine C_seq (C_region (LY rfl (y_lss rfl rfl) (L_nil (C_seq (C_cond_f rfl (C_exit (C_seq (C_region (LY rfl (y_assign rfl) (L_nil (C_seq (C_block (C_seq (C_region ?_))))))))))))))
        refine LY rfl (y_indexA rfl rfl Try.underlying62 sz_4 (by omega) (by omega) (show _ = 0 from rfl)) ?_
        refine LY rfl (y_load rfl ag_4 (sees 1 0 rfl) rfl) (LY rfl (y_not rfl) (LY rfl (y_move rfl) ?_))
        refine LY rfl (y_indexA rfl rfl Try.underlying62 sz_4 (by omega) (by omega) (show _ = 1 from rfl)) ?_
        refine LY rfl (y_load rfl ag_4 (sees 1 0 rfl) rfl) (LY rfl (y_not rfl) (LY rfl (y_pick_t rfl rfl) (LY rfl (y_assign rfl) (L_nil (C_cond_t rfl (C_seq (C_region (LY rfl (y_assign rfl) (LY rfl (y_assign rfl) (L_nil (C_ret ?_)))))))))))
        refine B_ret (rv_tmp rfl (rv_tmp rfl rv_nil)) ((hsub (.cons_cons _ (.cons_cons _ (.cons _ (.cons _ (.cons _ (.refl _))))))).trans (hsub_pick [4, 0] rfl)) ?_
        exact ⟨by simp_all [healR, healTo, Go.Sl.hg0, Go.Sl.hg1] <;> rfl, D, h.to (by simp_all [healA, healTo, Go.Sl.hg0, Go.Sl.hg1]), by rw [show healM m A p n = m from by simp_all [healM, healTo, Go.Sl.hg0, Go.Sl.hg1]]; first | done | rfl⟩
    · skip
      refine L_skip rfl rfl (L_skip rfl rfl (L_skip rfl rfl (L_skip rfl rfl (L_skip rfl rfl (L_skip rfl rfl (LY rfl (y_pick_f rfl rfl) ?_))))))
      refine LY rfl (y_indexA rfl rfl Try.underlying62 sz_4 (by omega) (by omega) (show _ = 1 from rfl)) ?_
      refine L_op rfl (op_store1 1 0 rfl rfl rfl sz_4 rfl (Nat.le_of_ble_eq_true rfl) ?_)
      refine L_nil (C_region ?_)
      refine LY rfl (y_add rfl rfl (show _ = (2 : Int) from rfl)) ?_
      refine LY rfl (y_move rfl) (L_nil ?_)
      refine In_round ?_
      refine C_seq (C_region (LY rfl (y_lss rfl rfl) (L_nil (C_seq (C_cond_f rfl (C_exit (C_seq (C_region (LY rfl (y_assign rfl) (L_nil (C_seq (C_block (C_seq (C_region ?_))))))))))))))
      refine LY rfl (y_indexA rfl rfl Try.underlying62 sz_4 (by omega) (by omega) (show _ = 0 from rfl)) ?_
      refine LY rfl (y_load rfl ag_4 (sees 1 0 rfl) rfl) (LY rfl (y_not rfl) (LY rfl (y_move rfl) ?_))
      refine LY rfl (y_indexA rfl rfl Try.underlying62 sz_4 (by omega) (by omega) (show _ = 1 from rfl)) ?_
      refine LY rfl (y_load rfl ag_4 (sees 1 0 rfl) rfl) (LY rfl (y_not rfl) (LY rfl (y_pick_t rfl rfl) (LY rfl (y_assign rfl) (L_nil (C_cond_t rfl (C_seq (C_region (LY rfl (y_assign rfl) (LY rfl (y_assign rfl) (L_nil (C_ret ?_)))))))))))
      refine B_ret (rv_tmp rfl (rv_tmp rfl rv_nil)) ((hsub (.cons_cons _ (.cons_cons _ (.cons _ (.cons _ (.cons _ (.refl _))))))).trans (hsub_pick [4, 0] rfl)) ?_
      exact ⟨by simp_all [healR, healTo, Go.Sl.hg0, Go.Sl.hg1] <;> rfl, D, h.to (by simp_all [healA, healTo, Go.Sl.hg0, Go.Sl.hg1]), by rw [show healM m A p n = m from by simp_all [healM, healTo, Go.Sl.hg0, Go.Sl.hg1]]; first | done | rfl⟩

set_option maxHeartbeats 4000000 in

theorem heal_tf {w0 : World} {H : Hp} {D : Duo} {A : Da} {bp : Nat} {m : Mi} (h : Two dt D A m.bx m.bys bp) {p : Int → Sec → Bool} (hG : GoodAt Try.prog w0 H m.gv p) (n : Int) (hQ : ∀ i, (A.dev i).Q.length < 99990) (hn : m.has n = true) (hp : thr A false = true) (hq : thr A true = false) : FnS Try.prog w0 23 #[ptr m.b, .int .i64 n] (m.seg 110 :: D.seg dt :: H) (fun e H' => e = .returned (.tuple #[.int .i64 (healR m A p n).1, .int .i64 (healR m A p n).2]) ∧ ∃ D', Two dt D' (healA m A p n) m.bx m.bys bp ∧ H' = (healM m A p n).seg 110 :: D'.seg dt :: H) := by
  refine FnS_intro (n := 105) (rs := [.tmp 4, .tmp 5]) (vs := [ptr m.b, .int .i64 n]) Try.func23 rfl Try.ntmps23 rfl rfl ?_
  refine C_seq (C_region (LY rfl (y_assign rfl) (LY rfl (y_assign rfl) (L_nil (C_seq (C_seq (C_region (LY rfl (y_move rfl) (LY rfl (y_move rfl) ?_)))))))))
  refine L_op rfl (op_call rfl rfl (fun a w => Try.call58 a w) rfl ?_)
  refine (has_m _ (sees 0 0 rfl)).mono ?_
  rintro _ _ ⟨rfl, rfl⟩
  rw [hn]
  refine ⟨_, rfl, ?_⟩
  refine LY rfl (y_not rfl) (L_nil (C_cond_f rfl (C_skip (C_seq (C_seq (C_region (LY rfl (y_move rfl) ?_)))))))
  refine L_op rfl (op_call rfl rfl (fun a w => Try.call59 a w) rfl ?_)
  refine ((present_tf h hp hq).sub (hsub_pick [0, 0] rfl)).mono ?_
  rintro _ _ ⟨g1, hg1, rfl, rfl⟩
  cases g1 with
  | none => exact slOk_none hg1 (by decide)
  | some g1 => ?_
  refine ⟨_, rfl, ?_⟩
  refine LY rfl (y_lenS rfl rfl Try.underlying118) ?_
  refine LY rfl (y_lss rfl rfl) (L_nil (C_cond_t rfl (C_seq (C_region (LY rfl (y_assign rfl) (LY rfl (y_assign rfl) (L_nil (C_ret ?_))))))))
  refine B_ret (rv_tmp rfl (rv_tmp rfl rv_nil)) ((hsub (.cons_cons _ (.cons_cons _ (.cons _ (.refl _))))).trans (hsub_pick [1, 1] rfl)) ?_
  exact ⟨by simp_all [healR, healTo, Go.Sl.hg0, Go.Sl.hg1] <;> rfl, D, h.to (by simp_all [healA, healTo, Go.Sl.hg0, Go.Sl.hg1]), by rw [show healM m A p n = m from by simp_all [healM, healTo, Go.Sl.hg0, Go.Sl.hg1]]; first | done | rfl⟩

set_option maxHeartbeats 4000000 in

theorem heal_ft {w0 : World} {H : Hp} {D : Duo} {A : Da} {bp : Nat} {m : Mi} (h : Two dt D A m.bx m.bys bp) {p : Int → Sec → Bool} (hG : GoodAt Try.prog w0 H m.gv p) (n : Int) (hQ : ∀ i, (A.dev i).Q.length < 99990) (hn : m.has n = true) (hp : thr A false = false) (hq : thr A true = true) : FnS Try.prog w0 23 #[ptr m.b, .int .i64 n] (m.seg 110 :: D.seg dt :: H) (fun e H' => e = .returned (.tuple #[.int .i64 (healR m A p n).1, .int .i64 (healR m A p n).2]) ∧ ∃ D', Two dt D' (healA m A p n) m.bx m.bys bp ∧ H' = (healM m A p n).seg 110 :: D'.seg dt :: H) := by
  refine FnS_intro (n := 105) (rs := [.tmp 4, .tmp 5]) (vs := [ptr m.b, .int .i64 n]) Try.func23 rfl Try.ntmps23 rfl rfl ?_
  refine C_seq (C_region (LY rfl (y_assign rfl) (LY rfl (y_assign rfl) (L_nil (C_seq (C_seq (C_region (LY rfl (y_move rfl) (LY rfl (y_move rfl) ?_)))))))))
  refine L_op rfl (op_call rfl rfl (fun a w => Try.call58 a w) rfl ?_)
  refine (has_m _ (sees 0 0 rfl)).mono ?_
  rintro _ _ ⟨rfl, rfl⟩
  rw [hn]
  refine ⟨_, rfl, ?_⟩
  refine LY rfl (y_not rfl) (L_nil (C_cond_f rfl (C_skip (C_seq (C_seq (C_region (LY rfl (y_move rfl) ?_)))))))
  refine L_op rfl (op_call rfl rfl (fun a w => Try.call59 a w) rfl ?_)
  refine ((present_ft h hp hq).sub (hsub_pick [0, 0] rfl)).mono ?_
  rintro _ _ ⟨g1, hg1, rfl, rfl⟩
  cases g1 with
  | none => exact slOk_none hg1 (by decide)
  | some g1 => ?_
  refine ⟨_, rfl, ?_⟩
  refine LY rfl (y_lenS rfl rfl Try.underlying118) ?_
  refine LY rfl (y_lss rfl rfl) (L_nil (C_cond_t rfl (C_seq (C_region (LY rfl (y_assign rfl) (LY rfl (y_assign rfl) (L_nil (C_ret ?_))))))))
  refine B_ret (rv_tmp rfl (rv_tmp rfl rv_nil)) ((hsub (.cons_cons _ (.cons_cons _ (.cons _ (.refl _))))).trans (hsub_pick [1, 1] rfl)) ?_
  exact ⟨by simp_all [healR, healTo, Go.Sl.hg0, Go.Sl.hg1] <;> rfl, D, h.to (by simp_all [healA, healTo, Go.Sl.hg0, Go.Sl.hg1]), by rw [show healM m A p n = m from by simp_all [healM, healTo, Go.Sl.hg0, Go.Sl.hg1]]; first | done | rfl⟩

set_option maxHeartbeats 4000000 in

theorem heal_ff {w0 : World} {H : Hp} {D : Duo} {A : Da} {bp : Nat} {m : Mi} (h : Two dt D A m.bx m.bys bp) {p : Int → Sec → Bool} (hG : GoodAt Try.prog w0 H m.gv p) (n : Int) (hQ : ∀ i, (A.dev i).Q.length < 99990) (hn : m.has n = true) (hp : thr A false = false) (hq : thr A true = false) : FnS Try.prog w0 23 #[ptr m.b, .int .i64 n] (m.seg 110 :: D.seg dt :: H) (fun e H' => e = .returned (.tuple #[.int .i64 (healR m A p n).1, .int .i64 (healR m A p n).2]) ∧ ∃ D', Two dt D' (healA m A p n) m.bx m.bys bp ∧ H' = (healM m A p n).seg 110 :: D'.seg dt :: H) := by
  refine FnS_intro (n := 105) (rs := [.tmp 4, .tmp 5]) (vs := [ptr m.b, .int .i64 n]) Try.func23 rfl Try.ntmps23 rfl rfl ?_
  refine C_seq (C_region (LY rfl (y_assign rfl) (LY rfl (y_assign rfl) (L_nil (C_seq (C_seq (C_region (LY rfl (y_move rfl) (LY rfl (y_move rfl) ?_)))))))))
  refine L_op rfl (op_call rfl rfl (fun a w => Try.call58 a w) rfl ?_)
  refine (has_m _ (sees 0 0 rfl)).mono ?_
  rintro _ _ ⟨rfl, rfl⟩
  rw [hn]
  refine ⟨_, rfl, ?_⟩
  refine LY rfl (y_not rfl) (L_nil (C_cond_f rfl (C_skip (C_seq (C_seq (C_region (LY rfl (y_move rfl) ?_)))))))
  refine L_op rfl (op_call rfl rfl (fun a w => Try.call59 a w) rfl ?_)
  refine ((present_ff h hp hq).sub (hsub_pick [0, 0] rfl)).mono ?_
  rintro _ _ ⟨rfl, rfl⟩
  refine ⟨_, rfl, ?_⟩
  refine LY rfl (y_lenS rfl rfl Try.underlying118) ?_
  refine LY rfl (y_lss rfl rfl) (L_nil (C_cond_t rfl (C_seq (C_region (LY rfl (y_assign rfl) (LY rfl (y_assign rfl) (L_nil (C_ret ?_))))))))
  refine B_ret (rv_tmp rfl (rv_tmp rfl rv_nil)) ((hsub (.cons_cons _ (.cons_cons _ (.refl _)))).trans (hsub_pick [0, 0] rfl)) ?_
  exact ⟨by simp_all [healR, healTo, Go.Sl.hg0, Go.Sl.hg1] <;> rfl, D, h.to (by simp_all [healA, healTo, Go.Sl.hg0, Go.Sl.hg1]), by rw [show healM m A p n = m from by simp_all [healM, healTo, Go.Sl.hg0, Go.Sl.hg1]]; first | done | rfl⟩

theorem heal_m {w0 : World} {H : Hp} {D : Duo} {A : Da} {bp : Nat} {m : Mi} (h : Two dt D A m.bx m.bys bp) {p : Int → Sec → Bool} (hG : GoodAt Try.prog w0 H m.gv p) (n : Int) (hQ : ∀ i, (A.dev i).Q.length < 99990) : FnS Try.prog w0 23 #[ptr m.b, .int .i64 n] (m.seg 110 :: D.seg dt :: H) (fun e H' => e = .returned (.tuple #[.int .i64 (healR m A p n).1, .int .i64 (healR m A p n).2]) ∧ ∃ D', Two dt D' (healA m A p n) m.bx m.bys bp ∧ H' = (healM m A p n).seg 110 :: D'.seg dt :: H) := by
  cases hn : m.has n
  · exact heal_no h hG n hQ hn
  · cases hp : thr A false <;> cases hq : thr A true
    · exact heal_ff h hG n hQ hn hp hq
    · exact heal_ft h hG n hQ hn hp hq
    · exact heal_tf h hG n hQ hn hp hq
    · exact heal_tt h hG n hQ hn hp hq

end Go.Proofs.Ytjjiclgbdenkkaa

/- walks (own work; the walks' lines by a program of this repo). -/
set_option linter.unusedVariables false
set_option linter.unusedSimpArgs false
set_option maxRecDepth 20000
namespace Go.Proofs.Ytjjiclgbdenkkaa
open Go.Sl
attribute [local irreducible] BodyQ WpC WpL WpS WpH OpW FnS



set_option maxHeartbeats 4000000 in

theorem both_no {w0 : World} {H : Hp} {D : Duo} {A : Da} {bp : Nat} {m : Mi} (h : Two dt D A m.bx m.bys bp) {p : Int → Sec → Bool} (hG : GoodAt Try.prog w0 H m.gv p) (n : Int) (hn : m.has n = false) : FnS Try.prog w0 25 #[ptr m.b, .int .i64 n] (m.seg 110 :: D.seg dt :: H) (fun e H' => ∃ g, slOk 128 g (bothS m A p n).length (bs (bothS m A p n).flatten) ∧ e = .returned (slV g (bothS m A p n).length) ∧ H' = slSeg 32 g (bs (bothS m A p n).flatten) :: m.seg 110 :: D.seg dt :: H) := by
  refine FnS_intro (n := 47) (rs := [.tmp 4]) (vs := [ptr m.b, .int .i64 n]) Try.func25 rfl Try.ntmps25 rfl rfl ?_
  refine C_seq (C_region (LY rfl (y_assign rfl) (L_nil (C_seq (C_region (LY rfl (y_assign rfl) (L_nil (C_seq (C_seq (C_region (LY rfl (y_move rfl) (LY rfl (y_move rfl) ?_))))))))))))
  refine L_op rfl (op_call rfl rfl (fun a w => Try.call58 a w) rfl ?_)
  refine (has_m _ (sees 0 0 rfl)).mono ?_
  rintro _ _ ⟨rfl, rfl⟩
  rw [hn]
  refine ⟨_, rfl, ?_⟩
  refine LY rfl (y_not rfl) (L_nil (C_cond_t rfl (C_seq (C_region (LY rfl (y_assign rfl) (L_nil (C_ret ?_)))))))
  refine B_ret (rv_tmp rfl rv_nil) (hsub_nil0.trans ((hsub (.cons_cons _ (.cons_cons _ (.refl _)))).trans (hsub_pick [0, 0] rfl))) ?_
  have e0 : bothS m A p n = [] := by simp_all [bothS]
  rw [e0]
  exact ⟨none, ⟨rfl, rfl⟩, rfl, rfl⟩

set_option maxHeartbeats 4000000 in

theorem both_tt {w0 : World} {H : Hp} {D : Duo} {A : Da} {bp : Nat} {m : Mi} (h : Two dt D A m.bx m.bys bp) {p : Int → Sec → Bool} (hG : GoodAt Try.prog w0 H m.gv p) (n : Int) (hn : m.has n = true) (hp : thr A false = true) (hq : thr A true = true) : FnS Try.prog w0 25 #[ptr m.b, .int .i64 n] (m.seg 110 :: D.seg dt :: H) (fun e H' => ∃ g, slOk 128 g (bothS m A p n).length (bs (bothS m A p n).flatten) ∧ e = .returned (slV g (bothS m A p n).length) ∧ H' = slSeg 32 g (bs (bothS m A p n).flatten) :: m.seg 110 :: D.seg dt :: H) := by
  refine FnS_intro (n := 47) (rs := [.tmp 4]) (vs := [ptr m.b, .int .i64 n]) Try.func25 rfl Try.ntmps25 rfl rfl ?_
  refine C_seq (C_region (LY rfl (y_assign rfl) (L_nil (C_seq (C_region (LY rfl (y_assign rfl) (L_nil (C_seq (C_seq (C_region (LY rfl (y_move rfl) (LY rfl (y_move rfl) ?_))))))))))))
  refine L_op rfl (op_call rfl rfl (fun a w => Try.call58 a w) rfl ?_)
  refine (has_m _ (sees 0 0 rfl)).mono ?_
  rintro _ _ ⟨rfl, rfl⟩
  rw [hn]
  refine ⟨_, rfl, ?_⟩
  refine LY rfl (y_not rfl) (L_nil (C_cond_f rfl (C_skip (C_seq (C_seq (C_region (LY rfl (y_move rfl) ?_)))))))
  refine L_op rfl (op_call rfl rfl (fun a w => Try.call59 a w) rfl ?_)
  refine ((present_tt h hp hq).sub (hsub_pick [0, 0] rfl)).mono ?_
  rintro _ _ ⟨g1, hg1, rfl, rfl⟩
  cases g1 with
  | none => exact slOk_none hg1 (by decide)
  | some g1 => ?_
  refine ⟨_, rfl, ?_⟩
  refine LY rfl (y_lenS rfl rfl Try.underlying118) ?_
  refine LY rfl (y_move rfl) (L_nil (C_block ?_))
  refine C_loopIn (In_round ?_)
  refine C_seq (C_region (LY rfl (y_lss rfl rfl) (L_nil (C_seq (C_cond_t rfl (C_skip (C_seq (C_block (C_seq (C_region ?_))))))))))
  refine LY rfl (y_indexS rfl rfl Try.underlying118 sz_3 (by omega) (by omega) (show _ = 0 from rfl)) ?_
  refine LY rfl (y_load rfl ag_3 (sees 0 0 rfl) rfl) (LY rfl (y_assign rfl) (L_nil (C_seq (C_region (LY rfl (y_move rfl) (LY rfl (y_move rfl) (LY rfl (y_nilCheck rfl) (LY rfl (y_fieldAddr rfl fl_110_0) ?_))))))))
  refine LY rfl (y_indexA rfl rfl Try.underlying108 sz_107 (by omega) (by omega) (show _ = 0 from rfl)) ?_
  refine LY rfl (y_fieldAddr rfl fl_107_0) (LY rfl (y_load rfl ag_24 (sees 1 0 rfl) rfl) (LY rfl (y_move rfl) ?_))
  refine L_op rfl (op_call rfl rfl (fun a w => Try.call60 a w) rfl ?_)
  refine ((read_d h false (n)).sub (hsub_pick [2] rfl)).mono ?_
  rintro _ _ ⟨rfl, rfl⟩
  refine ⟨_, rfl, ?_⟩
  refine LY rfl (y_move rfl) (LY rfl (y_extract rfl rfl) (LY rfl (y_extract rfl rfl) ?_))
  refine L_op rfl (op_alloc zl_32 rfl (fun B1 => ?_))
  refine L_op rfl (op_storeA 0 0 rfl rfl rfl sz_32 (by rw [bs_length, (rS_len false h.oks)]) rfl (bs_one _) (by simp) ?_)
  refine LY rfl (y_assign rfl) (L_nil (C_seq (C_region (LY rfl (y_move rfl) (LY rfl (y_eqi rfl rfl) (LY rfl (y_move rfl) ?_))))))
  refine L_case 35 rfl (fun hg8_3 => ?_) (fun hg8_3 => ?_)
  · skip
    refine LY rfl (y_move rfl) (LY rfl (y_move rfl) ?_)
    refine LY rfl (y_loadA rfl ag_32 sz_32 (sees 0 0 rfl) (by rw [bs_length, rS_len _ h.oks]; decide) (bs_whole0 _ (rS_len _ h.oks))) ?_
    refine L_op rfl (op_call rfl rfl (fun a w => Try.call61 a w) rfl ?_)
    refine FnS.mono (right_m (sees 3 0 rfl) (hG.sub (hsub (.cons _ (.cons _ (.cons _ (.cons _ (.refl _))))))) n _ (rS_len _ h.oks)) ?_
    rintro _ _ ⟨rfl, e⟩
    obtain rfl := e.symm
    refine ⟨_, rfl, ?_⟩
    refine LY rfl (y_pick_t rfl rfl) (L_nil ?_)
    refine C_cond rfl (fun hc2 => ?_) (fun hc2 => ?_)
    · skip
      refine C_region (LY rfl (y_move rfl) ?_)
      refine LY rfl (y_loadA rfl ag_32 sz_32 (sees 0 0 rfl) (by rw [bs_length, rS_len _ h.oks]; decide) (bs_whole0 _ (rS_len _ h.oks))) ?_
      refine L_op rfl (op_buildSlice (vs := [(0, _)]) rfl Try.underlying40 sz_32 zl_32 rfl (by decide) (fill_one rfl (by rw [bs_length, rS_len _ h.oks]) rfl) rfl (fun B2 => ?_))
      refine L_op rfl (op_append0 (m := 1) (vs := bs (A.rS false n)) rfl rfl (src_slice (vs := bs (A.rS false n)) (sees 0 0 rfl) (by rw [bs_length, rS_len _ h.oks]; decide) (bs_whole0 _ (rS_len _ h.oks))) (by rw [bs_length, rS_len _ h.oks]) (bs_one _) Try.underlying40 ni_40 sz_32 by_32 (by decide) zl_32 rfl (by decide) rfl (fun r1 hr1 => ?_))
      refine LY rfl (y_assign rfl) (L_nil (C_region ?_))
      refine LY rfl (y_add rfl rfl (show _ = (1 : Int) from rfl)) ?_
      refine LY rfl (y_move rfl) (L_nil ?_)
      refine In_round ?_
      refine C_seq (C_region (LY rfl (y_lss rfl rfl) (L_nil (C_seq (C_cond_t rfl (C_skip (C_seq (C_block (C_seq (C_region ?_))))))))))
      refine LY rfl (y_indexS rfl rfl Try.underlying118 sz_3 (by omega) (by omega) (show _ = 1 from rfl)) ?_
      refine LY rfl (y_load rfl ag_3 (sees 4 0 rfl) rfl) (LY rfl (y_assign rfl) (L_nil (C_seq (C_region (LY rfl (y_move rfl) (LY rfl (y_move rfl) (LY rfl (y_nilCheck rfl) (LY rfl (y_fieldAddr rfl fl_110_0) ?_))))))))
      refine LY rfl (y_indexA rfl rfl Try.underlying108 sz_107 (by omega) (by omega) (show _ = 2 from rfl)) ?_
      refine LY rfl (y_fieldAddr rfl fl_107_0) (LY rfl (y_load rfl ag_24 (sees 5 0 rfl) rfl) (LY rfl (y_move rfl) ?_))
      refine L_op rfl (op_call rfl rfl (fun a w => Try.call60 a w) rfl ?_)
      refine ((read_d h true (n)).sub (hsub_pick [3] rfl)).mono ?_
      rintro _ _ ⟨rfl, rfl⟩
      refine ⟨_, rfl, ?_⟩
      refine LY rfl (y_move rfl) (LY rfl (y_extract rfl rfl) (LY rfl (y_extract rfl rfl) ?_))
      refine L_op rfl (op_alloc zl_32 rfl (fun B3 => ?_))
      refine L_op rfl (op_storeA 0 0 rfl rfl rfl sz_32 (by rw [bs_length, (rS_len true h.oks)]) rfl (bs_one _) (by simp) ?_)
      refine LY rfl (y_assign rfl) (L_nil (C_seq (C_region (LY rfl (y_move rfl) (LY rfl (y_eqi rfl rfl) (LY rfl (y_move rfl) ?_))))))
      refine L_case 35 rfl (fun hg8_3 => ?_) (fun hg8_3 => ?_)
      · skip
        refine LY rfl (y_move rfl) (LY rfl (y_move rfl) ?_)
        refine LY rfl (y_loadA rfl ag_32 sz_32 (sees 0 0 rfl) (by rw [bs_length, rS_len _ h.oks]; decide) (bs_whole0 _ (rS_len _ h.oks))) ?_
        refine L_op rfl (op_call rfl rfl (fun a w => Try.call61 a w) rfl ?_)
        refine FnS.mono (right_m (sees 6 0 rfl) (hG.sub (hsub (.cons _ (.cons _ (.cons _ (.cons _ (.cons _ (.cons _ (.cons _ (.refl _)))))))))) n _ (rS_len _ h.oks)) ?_
        rintro _ _ ⟨rfl, e⟩
        obtain rfl := e.symm
        refine ⟨_, rfl, ?_⟩
        refine LY rfl (y_pick_t rfl rfl) (L_nil ?_)
        refine C_cond rfl (fun hc2 => ?_) (fun hc2 => ?_)
        · skip
          refine C_region (LY rfl (y_move rfl) ?_)
          refine LY rfl (y_loadA rfl ag_32 sz_32 (sees 0 0 rfl) (by rw [bs_length, rS_len _ h.oks]; decide) (bs_whole0 _ (rS_len _ h.oks))) ?_
          refine L_op rfl (op_buildSlice (vs := [(0, _)]) rfl Try.underlying40 sz_32 zl_32 rfl (by decide) (fill_one rfl (by rw [bs_length, rS_len _ h.oks]) rfl) rfl (fun B4 => ?_))
          refine L_op rfl (op_append (gs := r1) (len := 1) (m := 1) (xs := bs (A.rS false n)) (vs := bs (A.rS true n)) 3 rfl rfl rfl hr1 (src_slice (vs := bs (A.rS true n)) (sees 0 0 rfl) (by rw [bs_length, rS_len _ h.oks]; decide) (bs_whole0 _ (rS_len _ h.oks))) (by rw [bs_length, rS_len _ h.oks]) (bs_one _) Try.underlying40 ni_40 sz_32 by_32 (by decide) zl_32 rfl (by decide) rfl (fun r2 hr2 => ?_))
          refine LY rfl (y_assign rfl) (L_nil (C_region ?_))
          refine LY rfl (y_add rfl rfl (show _ = (2 : Int) from rfl)) ?_
          refine LY rfl (y_move rfl) (L_nil ?_)
          refine In_round ?_
          refine C_seq (C_region (LY rfl (y_lss rfl rfl) (L_nil (C_seq (C_cond_f rfl (C_exit (C_seq (C_region (LY rfl (y_move rfl) (LY rfl (y_assign rfl) (L_nil (C_ret ?_))))))))))))
          refine B_ret (rv_tmp rfl rv_nil) ((hsub (.cons_cons _ (.cons_cons _ (.cons_cons _ (.cons _ (.cons _ (.cons _ (.cons _ (.cons _ (.refl _)))))))))).trans (hsub_pick [3, 6, 2] rfl)) ?_
          have e0 : bothS m A p n = [(A.rS false n), (A.rS true n)] := by simp_all [bothS]
          rw [e0, show List.flatten [(A.rS false n), (A.rS true n)] = (A.rS false n) ++ (A.rS true n) from by simp]
          rw [← bs_append] at hr2 ⊢
          exact ⟨r2, hr2, rfl, rfl⟩
        · skip
          refine C_skip (C_region ?_)
          refine LY rfl (y_add rfl rfl (show _ = (2 : Int) from rfl)) ?_
          refine LY rfl (y_move rfl) (L_nil ?_)
          refine In_round ?_
          refine C_seq (C_region (LY rfl (y_lss rfl rfl) (L_nil (C_seq (C_cond_f rfl (C_exit (C_seq (C_region (LY rfl (y_move rfl) (LY rfl (y_assign rfl) (L_nil (C_ret ?_))))))))))))
          refine B_ret (rv_tmp rfl rv_nil) ((hsub (.cons_cons _ (.cons_cons _ (.cons_cons _ (.cons _ (.cons _ (.cons _ (.cons _ (.refl _))))))))).trans (hsub_pick [2, 5, 1] rfl)) ?_
          have e0 : bothS m A p n = [(A.rS false n)] := by simp_all [bothS]
          rw [e0, show List.flatten [(A.rS false n)] = (A.rS false n) from by simp]
          exact ⟨r1, hr1, rfl, rfl⟩
      · skip
        refine L_skip rfl rfl (L_skip rfl rfl (L_skip rfl rfl (L_skip rfl rfl (LY rfl (y_pick_f rfl rfl) (L_nil (C_cond_f rfl (C_skip (C_region ?_))))))))
        refine LY rfl (y_add rfl rfl (show _ = (2 : Int) from rfl)) ?_
        refine LY rfl (y_move rfl) (L_nil ?_)
        refine In_round ?_
        refine C_seq (C_region (LY rfl (y_lss rfl rfl) (L_nil (C_seq (C_cond_f rfl (C_exit (C_seq (C_region (LY rfl (y_move rfl) (LY rfl (y_assign rfl) (L_nil (C_ret ?_))))))))))))
        refine B_ret (rv_tmp rfl rv_nil) ((hsub (.cons_cons _ (.cons_cons _ (.cons_cons _ (.cons _ (.cons _ (.cons _ (.cons _ (.refl _))))))))).trans (hsub_pick [2, 5, 1] rfl)) ?_
        have e0 : bothS m A p n = [(A.rS false n)] := by simp_all [bothS]
        rw [e0, show List.flatten [(A.rS false n)] = (A.rS false n) from by simp]
        exact ⟨r1, hr1, rfl, rfl⟩
    · skip
      refine C_skip (C_region ?_)
      refine LY rfl (y_add rfl rfl (show _ = (1 : Int) from rfl)) ?_
      refine LY rfl (y_move rfl) (L_nil ?_)
      refine In_round ?_
      refine C_seq (C_region (LY rfl (y_lss rfl rfl) (L_nil (C_seq (C_cond_t rfl (C_skip (C_seq (C_block (C_seq (C_region ?_))))))))))
      refine LY rfl (y_indexS rfl rfl Try.underlying118 sz_3 (by omega) (by omega) (show _ = 1 from rfl)) ?_
      refine LY rfl (y_load rfl ag_3 (sees 2 0 rfl) rfl) (LY rfl (y_assign rfl) (L_nil (C_seq (C_region (LY rfl (y_move rfl) (LY rfl (y_move rfl) (LY rfl (y_nilCheck rfl) (LY rfl (y_fieldAddr rfl fl_110_0) ?_))))))))
      refine LY rfl (y_indexA rfl rfl Try.underlying108 sz_107 (by omega) (by omega) (show _ = 2 from rfl)) ?_
      refine LY rfl (y_fieldAddr rfl fl_107_0) (LY rfl (y_load rfl ag_24 (sees 3 0 rfl) rfl) (LY rfl (y_move rfl) ?_))
      refine L_op rfl (op_call rfl rfl (fun a w => Try.call60 a w) rfl ?_)
      refine ((read_d h true (n)).sub (hsub_pick [1] rfl)).mono ?_
      rintro _ _ ⟨rfl, rfl⟩
      refine ⟨_, rfl, ?_⟩
      refine LY rfl (y_move rfl) (LY rfl (y_extract rfl rfl) (LY rfl (y_extract rfl rfl) ?_))
      refine L_op rfl (op_alloc zl_32 rfl (fun B5 => ?_))
      refine L_op rfl (op_storeA 0 0 rfl rfl rfl sz_32 (by rw [bs_length, (rS_len true h.oks)]) rfl (bs_one _) (by simp) ?_)
      refine LY rfl (y_assign rfl) (L_nil (C_seq (C_region (LY rfl (y_move rfl) (LY rfl (y_eqi rfl rfl) (LY rfl (y_move rfl) ?_))))))
      refine L_case 35 rfl (fun hg8_3 => ?_) (fun hg8_3 => ?_)
      · skip
        refine LY rfl (y_move rfl) (LY rfl (y_move rfl) ?_)
        refine LY rfl (y_loadA rfl ag_32 sz_32 (sees 0 0 rfl) (by rw [bs_length, rS_len _ h.oks]; decide) (bs_whole0 _ (rS_len _ h.oks))) ?_
        refine L_op rfl (op_call rfl rfl (fun a w => Try.call61 a w) rfl ?_)
        refine FnS.mono (right_m (sees 4 0 rfl) (hG.sub (hsub (.cons _ (.cons _ (.cons _ (.cons _ (.cons _ (.refl _)))))))) n _ (rS_len _ h.oks)) ?_
        rintro _ _ ⟨rfl, e⟩
        obtain rfl := e.symm
        refine ⟨_, rfl, ?_⟩
        refine LY rfl (y_pick_t rfl rfl) (L_nil ?_)
        refine C_cond rfl (fun hc2 => ?_) (fun hc2 => ?_)
        · skip
          refine C_region (LY rfl (y_move rfl) ?_)
          refine LY rfl (y_loadA rfl ag_32 sz_32 (sees 0 0 rfl) (by rw [bs_length, rS_len _ h.oks]; decide) (bs_whole0 _ (rS_len _ h.oks))) ?_
          refine L_op rfl (op_buildSlice (vs := [(0, _)]) rfl Try.underlying40 sz_32 zl_32 rfl (by decide) (fill_one rfl (by rw [bs_length, rS_len _ h.oks]) rfl) rfl (fun B6 => ?_))
          refine L_op rfl (op_append0 (m := 1) (vs := bs (A.rS true n)) rfl rfl (src_slice (vs := bs (A.rS true n)) (sees 0 0 rfl) (by rw [bs_length, rS_len _ h.oks]; decide) (bs_whole0 _ (rS_len _ h.oks))) (by rw [bs_length, rS_len _ h.oks]) (bs_one _) Try.underlying40 ni_40 sz_32 by_32 (by decide) zl_32 rfl (by decide) rfl (fun r1 hr1 => ?_))
          refine LY rfl (y_assign rfl) (L_nil (C_region ?_))
          refine LY rfl (y_add rfl rfl (show _ = (2 : Int) from rfl)) ?_
          refine LY rfl (y_move rfl) (L_nil ?_)
          refine In_round ?_
          refine C_seq (C_region (LY rfl (y_lss rfl rfl) (L_nil (C_seq (C_cond_f rfl (C_exit (C_seq (C_region (LY rfl (y_move rfl) (LY rfl (y_assign rfl) (L_nil (C_ret ?_))))))))))))
          refine B_ret (rv_tmp rfl rv_nil) ((hsub (.cons_cons _ (.cons_cons _ (.cons_cons _ (.cons _ (.cons _ (.cons _ (.cons _ (.refl _))))))))).trans (hsub_pick [0, 5, 2] rfl)) ?_
          have e0 : bothS m A p n = [(A.rS true n)] := by simp_all [bothS]
          rw [e0, show List.flatten [(A.rS true n)] = (A.rS true n) from by simp]
          exact ⟨r1, hr1, rfl, rfl⟩
        · skip
          refine C_skip (C_region ?_)
          refine LY rfl (y_add rfl rfl (show _ = (2 : Int) from rfl)) ?_
          refine LY rfl (y_move rfl) (L_nil ?_)
          refine In_round ?_
          refine C_seq (C_region (LY rfl (y_lss rfl rfl) (L_nil (C_seq (C_cond_f rfl (C_exit (C_seq (C_region (LY rfl (y_move rfl) (LY rfl (y_assign rfl) (L_nil (C_ret ?_))))))))))))
          refine B_ret (rv_tmp rfl rv_nil) (hsub_nil0.trans ((hsub (.cons_cons _ (.cons_cons _ (.cons _ (.cons _ (.cons _ (.refl _))))))).trans (hsub_pick [4, 1] rfl))) ?_
          have e0 : bothS m A p n = [] := by simp_all [bothS]
          rw [e0]
          exact ⟨none, ⟨rfl, rfl⟩, rfl, rfl⟩
      · skip
        refine L_skip rfl rfl (L_skip rfl rfl (L_skip rfl rfl (L_skip rfl rfl (LY rfl (y_pick_f rfl rfl) (L_nil (C_cond_f rfl (C_skip (C_region ?_))))))))
        refine LY rfl (y_add rfl rfl (show _ = (2 : Int) from rfl)) ?_
        refine LY rfl (y_move rfl) (L_nil ?_)
        refine In_round ?_
        refine C_seq (C_region (LY rfl (y_lss rfl rfl) (L_nil (C_seq (C_cond_f rfl (C_exit (C_seq (C_region (LY rfl (y_move rfl) (LY rfl (y_assign rfl) (L_nil (C_ret ?_))))))))))))
        refine B_ret (rv_tmp rfl rv_nil) (hsub_nil0.trans ((hsub (.cons_cons _ (.cons_cons _ (.cons _ (.cons _ (.cons _ (.refl _))))))).trans (hsub_pick [4, 1] rfl))) ?_
        have e0 : bothS m A p n = [] := by simp_all [bothS]
        rw [e0]
        exact ⟨none, ⟨rfl, rfl⟩, rfl, rfl⟩
  · skip
    refine L_skip rfl rfl (L_skip rfl rfl (L_skip rfl rfl (L_skip rfl rfl (LY rfl (y_pick_f rfl rfl) (L_nil (C_cond_f rfl (C_skip (C_region ?_))))))))
    refine LY rfl (y_add rfl rfl (show _ = (1 : Int) from rfl)) ?_
    refine LY rfl (y_move rfl) (L_nil ?_)
    refine In_round ?_
    refine C_seq (C_region (LY rfl (y_lss rfl rfl) (L_nil (C_seq (C_cond_t rfl (C_skip (C_seq (C_block (C_seq (C_region ?_))))))))))
    refine LY rfl (y_indexS rfl rfl Try.underlying118 sz_3 (by omega) (by omega) (show _ = 1 from rfl)) ?_
    refine LY rfl (y_load rfl ag_3 (sees 2 0 rfl) rfl) (LY rfl (y_assign rfl) (L_nil (C_seq (C_region (LY rfl (y_move rfl) (LY rfl (y_move rfl) (LY rfl (y_nilCheck rfl) (LY rfl (y_fieldAddr rfl fl_110_0) ?_))))))))
    refine LY rfl (y_indexA rfl rfl Try.underlying108 sz_107 (by omega) (by omega) (show _ = 2 from rfl)) ?_
    refine LY rfl (y_fieldAddr rfl fl_107_0) (LY rfl (y_load rfl ag_24 (sees 3 0 rfl) rfl) (LY rfl (y_move rfl) ?_))
    refine L_op rfl (op_call rfl rfl (fun a w => Try.call60 a w) rfl ?_)
    refine ((read_d h true (n)).sub (hsub_pick [1] rfl)).mono ?_
    rintro _ _ ⟨rfl, rfl⟩
    refine ⟨_, rfl, ?_⟩
    refine LY rfl (y_move rfl) (LY rfl (y_extract rfl rfl) (LY rfl (y_extract rfl rfl) ?_))
    refine L_op rfl (op_alloc zl_32 rfl (fun B7 => ?_))
    refine L_op rfl (op_storeA 0 0 rfl rfl rfl sz_32 (by rw [bs_length, (rS_len true h.oks)]) rfl (bs_one _) (by simp) ?_)
    refine LY rfl (y_assign rfl) (L_nil (C_seq (C_region (LY rfl (y_move rfl) (LY rfl (y_eqi rfl rfl) (LY rfl (y_move rfl) ?_))))))
    refine L_case 35 rfl (fun hg8_3 => ?_) (fun hg8_3 => ?_)
    · skip
      refine LY rfl (y_move rfl) (LY rfl (y_move rfl) ?_)
      refine LY rfl (y_loadA rfl ag_32 sz_32 (sees 0 0 rfl) (by rw [bs_length, rS_len _ h.oks]; decide) (bs_whole0 _ (rS_len _ h.oks))) ?_
      refine L_op rfl (op_call rfl rfl (fun a w => Try.call61 a w) rfl ?_)
      refine FnS.mono (right_m (sees 4 0 rfl) (hG.sub (hsub (.cons _ (.cons _ (.cons _ (.cons _ (.cons _ (.refl _)))))))) n _ (rS_len _ h.oks)) ?_
      rintro _ _ ⟨rfl, e⟩
      obtain rfl := e.symm
      refine ⟨_, rfl, ?_⟩
      refine LY rfl (y_pick_t rfl rfl) (L_nil ?_)
      refine C_cond rfl (fun hc2 => ?_) (fun hc2 => ?_)
      · skip
        refine C_region (LY rfl (y_move rfl) ?_)
        refine LY rfl (y_loadA rfl ag_32 sz_32 (sees 0 0 rfl) (by rw [bs_length, rS_len _ h.oks]; decide) (bs_whole0 _ (rS_len _ h.oks))) ?_
        refine L_op rfl (op_buildSlice (vs := [(0, _)]) rfl Try.underlying40 sz_32 zl_32 rfl (by decide) (fill_one rfl (by rw [bs_length, rS_len _ h.oks]) rfl) rfl (fun B8 => ?_))
        refine L_op rfl (op_append0 (m := 1) (vs := bs (A.rS true n)) rfl rfl (src_slice (vs := bs (A.rS true n)) (sees 0 0 rfl) (by rw [bs_length, rS_len _ h.oks]; decide) (bs_whole0 _ (rS_len _ h.oks))) (by rw [bs_length, rS_len _ h.oks]) (bs_one _) Try.underlying40 ni_40 sz_32 by_32 (by decide) zl_32 rfl (by decide) rfl (fun r1 hr1 => ?_))
        refine LY rfl (y_assign rfl) (L_nil (C_region ?_))
        refine LY rfl (y_add rfl rfl (show _ = (2 : Int) from rfl)) ?_
        refine LY rfl (y_move rfl) (L_nil ?_)
        refine In_round ?_
        refine C_seq (C_region (LY rfl (y_lss rfl rfl) (L_nil (C_seq (C_cond_f rfl (C_exit (C_seq (C_region (LY rfl (y_move rfl) (LY rfl (y_assign rfl) (L_nil (C_ret ?_))))))))))))
        refine B_ret (rv_tmp rfl rv_nil) ((hsub (.cons_cons _ (.cons_cons _ (.cons_cons _ (.cons _ (.cons _ (.cons _ (.cons _ (.refl _))))))))).trans (hsub_pick [0, 5, 2] rfl)) ?_
        have e0 : bothS m A p n = [(A.rS true n)] := by simp_all [bothS]
        rw [e0, show List.flatten [(A.rS true n)] = (A.rS true n) from by simp]
        exact ⟨r1, hr1, rfl, rfl⟩
      · skip
        refine C_skip (C_region ?_)
        refine LY rfl (y_add rfl rfl (show _ = (2 : Int) from rfl)) ?_
        refine LY rfl (y_move rfl) (L_nil ?_)
        refine In_round ?_
        refine C_seq (C_region (LY rfl (y_lss rfl rfl) (L_nil (C_seq (C_cond_f rfl (C_exit (C_seq (C_region (LY rfl (y_move rfl) (LY rfl (y_assign rfl) (L_nil (C_ret ?_))))))))))))
        refine B_ret (rv_tmp rfl rv_nil) (hsub_nil0.trans ((hsub (.cons_cons _ (.cons_cons _ (.cons _ (.cons _ (.cons _ (.refl _))))))).trans (hsub_pick [4, 1] rfl))) ?_
        have e0 : bothS m A p n = [] := by simp_all [bothS]
        rw [e0]
        exact ⟨none, ⟨rfl, rfl⟩, rfl, rfl⟩
    · skip
      refine L_skip rfl rfl (L_skip rfl rfl (L_skip rfl rfl (L_skip rfl rfl (LY rfl (y_pick_f rfl rfl) (L_nil (C_cond_f rfl (C_skip (C_region ?_))))))))
      refine LY rfl (y_add rfl rfl (show _ = (2 : Int) from rfl)) ?_
      refine LY rfl (y_move rfl) (L_nil ?_)
      refine In_round ?_
      refine C_seq (C_region (LY rfl (y_lss rfl rfl) (L_nil (C_seq (C_cond_f rfl (C_exit (C_seq (C_region (LY rfl (y_move rfl) (LY rfl (y_assign rfl) (L_nil (C_ret ?_))))))))))))
      refine B_ret (rv_tmp rfl rv_nil) (hsub_nil0.trans ((hsub (.cons_cons _ (.cons_cons _ (.cons _ (.cons _ (.cons _ (.refl _))))))).trans (hsub_pick [4, 1] rfl))) ?_
      have e0 : bothS m A p n = [] := by simp_all [bothS]
      rw [e0]
      exact ⟨none, ⟨rfl, rfl⟩, rfl, rfl⟩

set_option maxHeartbeats 4000000 in

theorem both_tf {w0 : World} {H : Hp} {D : Duo} {A : Da} {bp : Nat} {m : Mi} (h : Two dt D A m.bx m.bys bp) {p : Int → Sec → Bool} (hG : GoodAt Try.prog w0 H m.gv p) (n : Int) (hn : m.has n = true) (hp : thr A false = true) (hq : thr A true = false) : FnS Try.prog w0 25 #[ptr m.b, .int .i64 n] (m.seg 110 :: D.seg dt :: H) (fun e H' => ∃ g, slOk 128 g (bothS m A p n).length (bs (bothS m A p n).flatten) ∧ e = .returned (slV g (bothS m A p n).length) ∧ H' = slSeg 32 g (bs (bothS m A p n).flatten) :: m.seg 110 :: D.seg dt :: H) := by
  refine FnS_intro (n := 47) (rs := [.tmp 4]) (vs := [ptr m.b, .int .i64 n]) Try.func25 rfl Try.ntmps25 rfl rfl ?_
  refine C_seq (C_region (LY rfl (y_assign rfl) (L_nil (C_seq (C_region (LY rfl (y_assign rfl) (L_nil (C_seq (C_seq (C_region (LY rfl (y_move rfl) (LY rfl (y_move rfl) ?_))))))))))))
  refine L_op rfl (op_call rfl rfl (fun a w => Try.call58 a w) rfl ?_)
  refine (has_m _ (sees 0 0 rfl)).mono ?_
  rintro _ _ ⟨rfl, rfl⟩
  rw [hn]
  refine ⟨_, rfl, ?_⟩
  refine LY rfl (y_not rfl) (L_nil (C_cond_f rfl (C_skip (C_seq (C_seq (C_region (LY rfl (y_move rfl) ?_)))))))
  refine L_op rfl (op_call rfl rfl (fun a w => Try.call59 a w) rfl ?_)
  refine ((present_tf h hp hq).sub (hsub_pick [0, 0] rfl)).mono ?_
  rintro _ _ ⟨g1, hg1, rfl, rfl⟩
  cases g1 with
  | none => exact slOk_none hg1 (by decide)
  | some g1 => ?_
  refine ⟨_, rfl, ?_⟩
  refine LY rfl (y_lenS rfl rfl Try.underlying118) ?_
  refine LY rfl (y_move rfl) (L_nil (C_block ?_))
  refine C_loopIn (In_round ?_)
  refine C_seq (C_region (LY rfl (y_lss rfl rfl) (L_nil (C_seq (C_cond_t rfl (C_skip (C_seq (C_block (C_seq (C_region ?_))))))))))
  refine LY rfl (y_indexS rfl rfl Try.underlying118 sz_3 (by omega) (by omega) (show _ = 0 from rfl)) ?_
  refine LY rfl (y_load rfl ag_3 (sees 0 0 rfl) rfl) (LY rfl (y_assign rfl) (L_nil (C_seq (C_region (LY rfl (y_move rfl) (LY rfl (y_move rfl) (LY rfl (y_nilCheck rfl) (LY rfl (y_fieldAddr rfl fl_110_0) ?_))))))))
  refine LY rfl (y_indexA rfl rfl Try.underlying108 sz_107 (by omega) (by omega) (show _ = 0 from rfl)) ?_
  refine LY rfl (y_fieldAddr rfl fl_107_0) (LY rfl (y_load rfl ag_24 (sees 1 0 rfl) rfl) (LY rfl (y_move rfl) ?_))
  refine L_op rfl (op_call rfl rfl (fun a w => Try.call60 a w) rfl ?_)
  refine ((read_d h false (n)).sub (hsub_pick [2] rfl)).mono ?_
  rintro _ _ ⟨rfl, rfl⟩
  refine ⟨_, rfl, ?_⟩
  refine LY rfl (y_move rfl) (LY rfl (y_extract rfl rfl) (LY rfl (y_extract rfl rfl) ?_))
  refine L_op rfl (op_alloc zl_32 rfl (fun B1 => ?_))
  refine L_op rfl (op_storeA 0 0 rfl rfl rfl sz_32 (by rw [bs_length, (rS_len false h.oks)]) rfl (bs_one _) (by simp) ?_)
  refine LY rfl (y_assign rfl) (L_nil (C_seq (C_region (LY rfl (y_move rfl) (LY rfl (y_eqi rfl rfl) (LY rfl (y_move rfl) ?_))))))
  refine L_case 35 rfl (fun hg8_3 => ?_) (fun hg8_3 => ?_)
  · skip
    refine LY rfl (y_move rfl) (LY rfl (y_move rfl) ?_)
    refine LY rfl (y_loadA rfl ag_32 sz_32 (sees 0 0 rfl) (by rw [bs_length, rS_len _ h.oks]; decide) (bs_whole0 _ (rS_len _ h.oks))) ?_
    refine L_op rfl (op_call rfl rfl (fun a w => Try.call61 a w) rfl ?_)
    refine FnS.mono (right_m (sees 3 0 rfl) (hG.sub (hsub (.cons _ (.cons _ (.cons _ (.cons _ (.refl _))))))) n _ (rS_len _ h.oks)) ?_
    rintro _ _ ⟨rfl, e⟩
    obtain rfl := e.symm
    refine ⟨_, rfl, ?_⟩
    refine LY rfl (y_pick_t rfl rfl) (L_nil ?_)
    refine C_cond rfl (fun hc2 => ?_) (fun hc2 => ?_)
    · skip
      refine C_region (LY rfl (y_move rfl) ?_)
      refine LY rfl (y_loadA rfl ag_32 sz_32 (sees 0 0 rfl) (by rw [bs_length, rS_len _ h.oks]; decide) (bs_whole0 _ (rS_len _ h.oks))) ?_
      refine L_op rfl (op_buildSlice (vs := [(0, _)]) rfl Try.underlying40 sz_32 zl_32 rfl (by decide) (fill_one rfl (by rw [bs_length, rS_len _ h.oks]) rfl) rfl (fun B2 => ?_))
      refine L_op rfl (op_append0 (m := 1) (vs := bs (A.rS false n)) rfl rfl (src_slice (vs := bs (A.rS false n)) (sees 0 0 rfl) (by rw [bs_length, rS_len _ h.oks]; decide) (bs_whole0 _ (rS_len _ h.oks))) (by rw [bs_length, rS_len _ h.oks]) (bs_one _) Try.underlying40 ni_40 sz_32 by_32 (by decide) zl_32 rfl (by decide) rfl (fun r1 hr1 => ?_))
      refine LY rfl (y_assign rfl) (L_nil (C_region ?_))
      refine LY rfl (y_add rfl rfl (show _ = (1 : Int) from rfl)) ?_
      refine LY rfl (y_move rfl) (L_nil ?_)
      refine In_round ?_
      refine C_seq (C_region (LY rfl (y_lss rfl rfl) (L_nil (C_seq (C_cond_f rfl (C_exit (C_seq (C_region (LY rfl (y_move rfl) (LY rfl (y_assign rfl) (L_nil (C_ret ?_))))))))))))
      refine B_ret (rv_tmp rfl rv_nil) ((hsub (.cons_cons _ (.cons_cons _ (.cons_cons _ (.cons _ (.cons _ (.cons _ (.refl _)))))))).trans (hsub_pick [0, 4, 2] rfl)) ?_
      have e0 : bothS m A p n = [(A.rS false n)] := by simp_all [bothS]
      rw [e0, show List.flatten [(A.rS false n)] = (A.rS false n) from by simp]
      exact ⟨r1, hr1, rfl, rfl⟩
    · skip
      refine C_skip (C_region ?_)
      refine LY rfl (y_add rfl rfl (show _ = (1 : Int) from rfl)) ?_
      refine LY rfl (y_move rfl) (L_nil ?_)
      refine In_round ?_
      refine C_seq (C_region (LY rfl (y_lss rfl rfl) (L_nil (C_seq (C_cond_f rfl (C_exit (C_seq (C_region (LY rfl (y_move rfl) (LY rfl (y_assign rfl) (L_nil (C_ret ?_))))))))))))
      refine B_ret (rv_tmp rfl rv_nil) (hsub_nil0.trans ((hsub (.cons_cons _ (.cons_cons _ (.cons _ (.cons _ (.refl _)))))).trans (hsub_pick [3, 1] rfl))) ?_
      have e0 : bothS m A p n = [] := by simp_all [bothS]
      rw [e0]
      exact ⟨none, ⟨rfl, rfl⟩, rfl, rfl⟩
  · skip
    refine L_skip rfl rfl (L_skip rfl rfl (L_skip rfl rfl (L_skip rfl rfl (LY rfl (y_pick_f rfl rfl) (L_nil (C_cond_f rfl (C_skip (C_region ?_))))))))
    refine LY rfl (y_add rfl rfl (show _ = (1 : Int) from rfl)) ?_
    refine LY rfl (y_move rfl) (L_nil ?_)
    refine In_round ?_
    refine C_seq (C_region (LY rfl (y_lss rfl rfl) (L_nil (C_seq (C_cond_f rfl (C_exit (C_seq (C_region (LY rfl (y_move rfl) (LY rfl (y_assign rfl) (L_nil (C_ret ?_))))))))))))
    refine B_ret (rv_tmp rfl rv_nil) (hsub_nil0.trans ((hsub (.cons_cons _ (.cons_cons _ (.cons _ (.cons _ (.refl _)))))).trans (hsub_pick [3, 1] rfl))) ?_
    have e0 : bothS m A p n = [] := by simp_all [bothS]
    rw [e0]
    exact ⟨none, ⟨rfl, rfl⟩, rfl, rfl⟩

set_option maxHeartbeats 4000000 in

theorem both_ft {w0 : World} {H : Hp} {D : Duo} {A : Da} {bp : Nat} {m : Mi} (h : Two dt D A m.bx m.bys bp) {p : Int → Sec → Bool} (hG : GoodAt Try.prog w0 H m.gv p) (n : Int) (hn : m.has n = true) (hp : thr A false = false) (hq : thr A true = true) : FnS Try.prog w0 25 #[ptr m.b, .int .i64 n] (m.seg 110 :: D.seg dt :: H) (fun e H' => ∃ g, slOk 128 g (bothS m A p n).length (bs (bothS m A p n).flatten) ∧ e = .returned (slV g (bothS m A p n).length) ∧ H' = slSeg 32 g (bs (bothS m A p n).flatten) :: m.seg 110 :: D.seg dt :: H) := by
  refine FnS_intro (n := 47) (rs := [.tmp 4]) (vs := [ptr m.b, .int .i64 n]) Try.func25 rfl Try.ntmps25 rfl rfl ?_
  refine C_seq (C_region (LY rfl (y_assign rfl) (L_nil (C_seq (C_region (LY rfl (y_assign rfl) (L_nil (C_seq (C_seq (C_region (LY rfl (y_move rfl) (LY rfl (y_move rfl) ?_))))))))))))
  refine L_op rfl (op_call rfl rfl (fun a w => Try.call58 a w) rfl ?_)
  refine (has_m _ (sees 0 0 rfl)).mono ?_
  rintro _ _ ⟨rfl, rfl⟩
  rw [hn]
  refine ⟨_, rfl, ?_⟩
  refine LY rfl (y_not rfl) (L_nil (C_cond_f rfl (C_skip (C_seq (C_seq (C_region (LY rfl (y_move rfl) ?_)))))))
  refine L_op rfl (op_call rfl rfl (fun a w => Try.call59 a w) rfl ?_)
  refine ((present_ft h hp hq).sub (hsub_pick [0, 0] rfl)).mono ?_
  rintro _ _ ⟨g1, hg1, rfl, rfl⟩
  cases g1 with
  | none => exact slOk_none hg1 (by decide)
  | some g1 => ?_
  refine ⟨_, rfl, ?_⟩
  refine LY rfl (y_lenS rfl rfl Try.underlying118) ?_
  refine LY rfl (y_move rfl) (L_nil (C_block ?_))
  refine C_loopIn (In_round ?_)
  refine C_seq (C_region (LY rfl (y_lss rfl rfl) (L_nil (C_seq (C_cond_t rfl (C_skip (C_seq (C_block (C_seq (C_region ?_))))))))))
  refine LY rfl (y_indexS rfl rfl Try.underlying118 sz_3 (by omega) (by omega) (show _ = 0 from rfl)) ?_
  refine LY rfl (y_load rfl ag_3 (sees 0 0 rfl) rfl) (LY rfl (y_assign rfl) (L_nil (C_seq (C_region (LY rfl (y_move rfl) (LY rfl (y_move rfl) (LY rfl (y_nilCheck rfl) (LY rfl (y_fieldAddr rfl fl_110_0) ?_))))))))
  refine LY rfl (y_indexA rfl rfl Try.underlying108 sz_107 (by omega) (by omega) (show _ = 2 from rfl)) ?_
  refine LY rfl (y_fieldAddr rfl fl_107_0) (LY rfl (y_load rfl ag_24 (sees 1 0 rfl) rfl) (LY rfl (y_move rfl) ?_))
  refine L_op rfl (op_call rfl rfl (fun a w => Try.call60 a w) rfl ?_)
  refine ((read_d h true (n)).sub (hsub_pick [2] rfl)).mono ?_
  rintro _ _ ⟨rfl, rfl⟩
  refine ⟨_, rfl, ?_⟩
  refine LY rfl (y_move rfl) (LY rfl (y_extract rfl rfl) (LY rfl (y_extract rfl rfl) ?_))
  refine L_op rfl (op_alloc zl_32 rfl (fun B1 => ?_))
  refine L_op rfl (op_storeA 0 0 rfl rfl rfl sz_32 (by rw [bs_length, (rS_len true h.oks)]) rfl (bs_one _) (by simp) ?_)
  refine LY rfl (y_assign rfl) (L_nil (C_seq (C_region (LY rfl (y_move rfl) (LY rfl (y_eqi rfl rfl) (LY rfl (y_move rfl) ?_))))))
  refine L_case 35 rfl (fun hg8_3 => ?_) (fun hg8_3 => ?_)
  · skip
    refine LY rfl (y_move rfl) (LY rfl (y_move rfl) ?_)
    refine LY rfl (y_loadA rfl ag_32 sz_32 (sees 0 0 rfl) (by rw [bs_length, rS_len _ h.oks]; decide) (bs_whole0 _ (rS_len _ h.oks))) ?_
    refine L_op rfl (op_call rfl rfl (fun a w => Try.call61 a w) rfl ?_)
    refine FnS.mono (right_m (sees 3 0 rfl) (hG.sub (hsub (.cons _ (.cons _ (.cons _ (.cons _ (.refl _))))))) n _ (rS_len _ h.oks)) ?_
    rintro _ _ ⟨rfl, e⟩
    obtain rfl := e.symm
    refine ⟨_, rfl, ?_⟩
    refine LY rfl (y_pick_t rfl rfl) (L_nil ?_)
    refine C_cond rfl (fun hc2 => ?_) (fun hc2 => ?_)
    · skip
      refine C_region (LY rfl (y_move rfl) ?_)
      refine LY rfl (y_loadA rfl ag_32 sz_32 (sees 0 0 rfl) (by rw [bs_length, rS_len _ h.oks]; decide) (bs_whole0 _ (rS_len _ h.oks))) ?_
      refine L_op rfl (op_buildSlice (vs := [(0, _)]) rfl Try.underlying40 sz_32 zl_32 rfl (by decide) (fill_one rfl (by rw [bs_length, rS_len _ h.oks]) rfl) rfl (fun B2 => ?_))
      refine L_op rfl (op_append0 (m := 1) (vs := bs (A.rS true n)) rfl rfl (src_slice (vs := bs (A.rS true n)) (sees 0 0 rfl) (by rw [bs_length, rS_len _ h.oks]; decide) (bs_whole0 _ (rS_len _ h.oks))) (by rw [bs_length, rS_len _ h.oks]) (bs_one _) Try.underlying40 ni_40 sz_32 by_32 (by decide) zl_32 rfl (by decide) rfl (fun r1 hr1 => ?_))
      refine LY rfl (y_assign rfl) (L_nil (C_region ?_))
      refine LY rfl (y_add rfl rfl (show _ = (1 : Int) from rfl)) ?_
      refine LY rfl (y_move rfl) (L_nil ?_)
      refine In_round ?_
      refine C_seq (C_region (LY rfl (y_lss rfl rfl) (L_nil (C_seq (C_cond_f rfl (C_exit (C_seq (C_region (LY rfl (y_move rfl) (LY rfl (y_assign rfl) (L_nil (C_ret ?_))))))))))))
      refine B_ret (rv_tmp rfl rv_nil) ((hsub (.cons_cons _ (.cons_cons _ (.cons_cons _ (.cons _ (.cons _ (.cons _ (.refl _)))))))).trans (hsub_pick [0, 4, 2] rfl)) ?_
      have e0 : bothS m A p n = [(A.rS true n)] := by simp_all [bothS]
      rw [e0, show List.flatten [(A.rS true n)] = (A.rS true n) from by simp]
      exact ⟨r1, hr1, rfl, rfl⟩
    · skip
      refine C_skip (C_region ?_)
      refine LY rfl (y_add rfl rfl (show _ = (1 : Int) from rfl)) ?_
      refine LY rfl (y_move rfl) (L_nil ?_)
      refine In_round ?_
      refine C_seq (C_region (LY rfl (y_lss rfl rfl) (L_nil (C_seq (C_cond_f rfl (C_exit (C_seq (C_region (LY rfl (y_move rfl) (LY rfl (y_assign rfl) (L_nil (C_ret ?_))))))))))))
      refine B_ret (rv_tmp rfl rv_nil) (hsub_nil0.trans ((hsub (.cons_cons _ (.cons_cons _ (.cons _ (.cons _ (.refl _)))))).trans (hsub_pick [3, 1] rfl))) ?_
      have e0 : bothS m A p n = [] := by simp_all [bothS]
      rw [e0]
      exact ⟨none, ⟨rfl, rfl⟩, rfl, rfl⟩
  · skip
    refine L_skip rfl rfl (L_skip rfl rfl (L_skip rfl rfl (L_skip rfl rfl (LY rfl (y_pick_f rfl rfl) (L_nil (C_cond_f rfl (C_skip (C_region ?_))))))))
    refine LY rfl (y_add rfl rfl (show _ = (1 : Int) from rfl)) ?_
    refine LY rfl (y_move rfl) (L_nil ?_)
    refine In_round ?_
    refine C_seq (C_region (LY rfl (y_lss rfl rfl) (L_nil (C_seq (C_cond_f rfl (C_exit (C_seq (C_region (LY rfl (y_move rfl) (LY rfl (y_assign rfl) (L_nil (C_ret ?_))))))))))))
    refine B_ret (rv_tmp rfl rv_nil) (hsub_nil0.trans ((hsub (.cons_cons _ (.cons_cons _ (.cons _ (.cons _ (.refl _)))))).trans (hsub_pick [3, 1] rfl))) ?_
    have e0 : bothS m A p n = [] := by simp_all [bothS]
    rw [e0]
    exact ⟨none, ⟨rfl, rfl⟩, rfl, rfl⟩

set_option maxHeartbeats 4000000 in

theorem both_ff {w0 : World} {H : Hp} {D : Duo} {A : Da} {bp : Nat} {m : Mi} (h : Two dt D A m.bx m.bys bp) {p : Int → Sec → Bool} (hG : GoodAt Try.prog w0 H m.gv p) (n : Int) (hn : m.has n = true) (hp : thr A false = false) (hq : thr A true = false) : FnS Try.prog w0 25 #[ptr m.b, .int .i64 n] (m.seg 110 :: D.seg dt :: H) (fun e H' => ∃ g, slOk 128 g (bothS m A p n).length (bs (bothS m A p n).flatten) ∧ e = .returned (slV g (bothS m A p n).length) ∧ H' = slSeg 32 g (bs (bothS m A p n).flatten) :: m.seg 110 :: D.seg dt :: H) := by
  refine FnS_intro (n := 47) (rs := [.tmp 4]) (vs := [ptr m.b, .int .i64 n]) Try.func25 rfl Try.ntmps25 rfl rfl ?_
  refine C_seq (C_region (LY rfl (y_assign rfl) (L_nil (C_seq (C_region (LY rfl (y_assign rfl) (L_nil (C_seq (C_seq (C_region (LY rfl (y_move rfl) (LY rfl (y_move rfl) ?_))))))))))))
  refine L_op rfl (op_call rfl rfl (fun a w => Try.call58 a w) rfl ?_)
  refine (has_m _ (sees 0 0 rfl)).mono ?_
  rintro _ _ ⟨rfl, rfl⟩
  rw [hn]
  refine ⟨_, rfl, ?_⟩
  refine LY rfl (y_not rfl) (L_nil (C_cond_f rfl (C_skip (C_seq (C_seq (C_region (LY rfl (y_move rfl) ?_)))))))
  refine L_op rfl (op_call rfl rfl (fun a w => Try.call59 a w) rfl ?_)
  refine ((present_ff h hp hq).sub (hsub_pick [0, 0] rfl)).mono ?_
  rintro _ _ ⟨rfl, rfl⟩
  refine ⟨_, rfl, ?_⟩
  refine LY rfl (y_lenS rfl rfl Try.underlying118) ?_
  refine LY rfl (y_move rfl) (L_nil (C_block ?_))
  refine C_loopIn (In_round ?_)
  refine C_seq (C_region (LY rfl (y_lss rfl rfl) (L_nil (C_seq (C_cond_f rfl (C_exit (C_seq (C_region (LY rfl (y_move rfl) (LY rfl (y_assign rfl) (L_nil (C_ret ?_))))))))))))
  refine B_ret (rv_tmp rfl rv_nil) (hsub_nil0.trans ((hsub (.cons_cons _ (.cons_cons _ (.refl _)))).trans (hsub_pick [0, 0] rfl))) ?_
  have e0 : bothS m A p n = [] := by simp_all [bothS]
  rw [e0]
  exact ⟨none, ⟨rfl, rfl⟩, rfl, rfl⟩

theorem both_m {w0 : World} {H : Hp} {D : Duo} {A : Da} {bp : Nat} {m : Mi} (h : Two dt D A m.bx m.bys bp) {p : Int → Sec → Bool} (hG : GoodAt Try.prog w0 H m.gv p) (n : Int) : FnS Try.prog w0 25 #[ptr m.b, .int .i64 n] (m.seg 110 :: D.seg dt :: H) (fun e H' => ∃ g, slOk 128 g (bothS m A p n).length (bs (bothS m A p n).flatten) ∧ e = .returned (slV g (bothS m A p n).length) ∧ H' = slSeg 32 g (bs (bothS m A p n).flatten) :: m.seg 110 :: D.seg dt :: H) := by
  cases hn : m.has n
  · exact both_no h hG n hn
  · cases hp : thr A false <;> cases hq : thr A true
    · exact both_ff h hG n hn hp hq
    · exact both_ft h hG n hn hp hq
    · exact both_tf h hG n hn hp hq
    · exact both_tt h hG n hn hp hq

end Go.Proofs.Ytjjiclgbdenkkaa

/- walks (own work; the walks' lines by a program of this repo). -/
set_option linter.unusedVariables false
set_option linter.unusedSimpArgs false
set_option maxRecDepth 20000
namespace Go.Proofs.Ytjjiclgbdenkkaa
open Go.Sl
attribute [local irreducible] BodyQ WpC WpL WpS WpH OpW FnS



set_option maxHeartbeats 4000000 in

theorem new_fn_tt {w0 : World} {H : Hp} {f : Nat} {cap : List Value} {D : Duo} {A : Da} {bx bys bp : Nat} (h : Two dt D A bx bys bp) (hp : thr A false = true) (hq : thr A true = true) : FnS Try.prog w0 17 #[ptr bx, ptr bys, .func (.func f) #[] cap.toArray] (D.seg dt :: H) (fun e H' => ∃ b r0 r1, e = .returned (ptr b) ∧ H' = (mnew A bx bys (.func (.func f) #[] cap.toArray) b r0 r1).seg 110 :: D.seg dt :: H) := by
  have hlen : A.a.S.length ≤ 4096 := (h.oks false).2.1
  refine FnS_intro (n := 64) (rs := [.tmp 6]) (vs := [ptr bx, ptr bys, .func (.func f) #[] cap.toArray]) Try.func17 rfl Try.ntmps17 rfl rfl ?_
  refine C_seq (C_region (LY rfl (y_assign rfl) (L_nil (C_seq (C_region (LY rfl (y_move rfl) ?_))))))
  refine L_op rfl (op_call rfl rfl (fun a w => Try.call52 a w) rfl ?_)
  refine ((len_d h false).sub (hsub_pick [0] rfl)).mono ?_
  rintro _ _ ⟨rfl, rfl⟩
  refine ⟨_, rfl, ?_⟩
  refine LY rfl (y_move rfl) ?_
  refine L_op rfl (op_call rfl rfl (fun a w => Try.call52 a w) rfl ?_)
  refine ((len_d h true).sub (hsub_pick [0] rfl)).mono ?_
  rintro _ _ ⟨rfl, rfl⟩
  refine ⟨_, rfl, ?_⟩
  refine LY rfl (y_minN rfl rfl) ?_
  refine LY rfl (y_move rfl) ?_
  refine LY rfl (y_build (vs := [(1, _), (2, _)]) (l := [.pointer none, .map none, .pointer none, .map none, .int .i64 (((min A.a.S.length A.b.S.length) : Nat) : Int), .func (.func f) #[] cap.toArray]) rfl pl_110 zl_110 (fill_cons (off := 4) (m := 1) (vs := [_]) rfl rfl rfl (Nat.le_of_ble_eq_true rfl) (fill_cons (off := 5) (m := 1) (vs := [_]) rfl rfl rfl (Nat.le_of_ble_eq_true rfl) rfl))) ?_
  refine L_op rfl (op_box rfl rfl rfl (fun B1 => ?_))
  refine LY rfl (y_assign rfl) (L_nil (C_seq (C_seq (C_region (LY rfl (y_move rfl) (LY rfl (y_move rfl) ?_))))))
  refine L_op rfl (op_buildSlice (vs := [(0, _), (1, _)]) rfl Try.underlying111 sz_24 zl_24 rfl (by decide) rfl rfl (fun B2 => ?_))
  refine LY rfl (y_lenS rfl rfl Try.underlying111) ?_
  refine LY rfl (y_move rfl) (L_nil (C_block ?_))
  refine C_loopIn (In_round ?_)
  refine C_seq (C_region (LY rfl (y_lss rfl rfl) (L_nil (C_seq (C_cond_t rfl (C_skip (C_seq (C_block (C_seq (C_region (LY rfl (y_move rfl) ?_)))))))))))
  refine LY rfl (y_indexS rfl rfl Try.underlying111 sz_24 (by omega) (by omega) (show _ = 0 from rfl)) ?_
  refine LY rfl (y_load rfl ag_24 (sees 0 0 rfl) rfl) (LY rfl (y_assign rfl) (LY rfl (y_assign rfl) (L_nil (C_seq (C_region (LY rfl (y_move rfl) (LY rfl (y_move rfl) (LY rfl (y_move rfl) ?_))))))))
  refine L_op rfl (op_makeMap rfl (fun B3 => ?_))
  refine LY rfl (y_build (vs := [(0, _), (1, _)]) (l := [ptr bx, .map (some B3)]) rfl pl_107 zl_107 (fill_cons (off := 0) (m := 1) (vs := [_]) rfl rfl rfl (Nat.le_of_ble_eq_true rfl) (fill_cons (off := 1) (m := 1) (vs := [_]) rfl rfl rfl (Nat.le_of_ble_eq_true rfl) rfl))) ?_
  refine LY rfl (y_nilCheck rfl) (LY rfl (y_fieldAddr rfl fl_110_0) ?_)
  refine LY rfl (y_indexA rfl rfl Try.underlying108 sz_107 (by omega) (by omega) (show _ = 0 from rfl)) ?_
  refine L_op rfl (op_store (vs := [ptr bx, .map (some B3)]) 2 0 rfl rfl rfl sz_107 rfl rfl (ones rfl) (Nat.le_of_ble_eq_true rfl) ?_)
  rw [show spl [.pointer none, .map none, .pointer none, .map none, .int .i64 (((min A.a.S.length A.b.S.length) : Nat) : Int), .func (.func f) #[] cap.toArray] 0 [ptr bx, .map (some B3)] = [ptr bx, .map (some B3), .pointer none, .map none, .int .i64 (((min A.a.S.length A.b.S.length) : Nat) : Int), .func (.func f) #[] cap.toArray] from rfl]
  refine L_nil (C_seq (C_region (LY rfl (y_assign rfl) (L_nil (C_block ?_)))))
  refine C_loopIn (In_round ?_)
  refine C_seq (C_seq (C_region (LY rfl (y_move rfl) (LY rfl (y_move rfl) (LY rfl (y_nilCheck rfl) (LY rfl (y_fieldAddr rfl fl_110_1) (LY rfl (y_load rfl ag_3 (sees 2 0 rfl) rfl) (LY rfl (y_lss rfl rfl) (LY rfl (y_move rfl) ?_)))))))))
  refine L_case 42 rfl (fun hg7_7 => ?_) (fun hg7_7 => ?_)
  · have hj := of_decide_eq_true hg7_7
    refine LY rfl (y_move rfl) (LY rfl (y_move rfl) (LY rfl (y_nilCheck rfl) (LY rfl (y_fieldAddr rfl fl_110_0) ?_)))
    refine LY rfl (y_indexA rfl rfl Try.underlying108 sz_107 (by omega) (by omega) (show _ = 0 from rfl)) ?_
    refine LY rfl (y_loadA rfl ag_107 sz_107 (sees 2 0 rfl) (Nat.le_of_ble_eq_true rfl) rfl) ?_
    refine L_op rfl (op_call rfl rfl (fun a w => Try.call53 a w) rfl ?_)
    refine ((there_d h false).sub (hsub_pick [3] rfl)).mono ?_
    rintro _ _ ⟨rfl, rfl⟩
    rw [hp]
    refine ⟨_, rfl, ?_⟩
    refine LY rfl (y_not rfl) (LY rfl (y_pick_t rfl rfl) (L_nil (C_cond_f rfl (C_exit (C_region ?_)))))
    refine LY rfl (y_add rfl rfl (show _ = (1 : Int) from rfl)) ?_
    refine LY rfl (y_move rfl) (L_nil ?_)
    refine In_round ?_
    refine C_seq (C_region (LY rfl (y_lss rfl rfl) (L_nil (C_seq (C_cond_t rfl (C_skip (C_seq (C_block (C_seq (C_region (LY rfl (y_move rfl) ?_)))))))))))
    refine LY rfl (y_indexS rfl rfl Try.underlying111 sz_24 (by omega) (by omega) (show _ = 1 from rfl)) ?_
    refine LY rfl (y_load rfl ag_24 (sees 2 0 rfl) rfl) (LY rfl (y_assign rfl) (LY rfl (y_assign rfl) (L_nil (C_seq (C_region (LY rfl (y_move rfl) (LY rfl (y_move rfl) (LY rfl (y_move rfl) ?_))))))))
    refine L_op rfl (op_makeMap rfl (fun B4 => ?_))
    refine LY rfl (y_build (vs := [(0, _), (1, _)]) (l := [ptr bys, .map (some B4)]) rfl pl_107 zl_107 (fill_cons (off := 0) (m := 1) (vs := [_]) rfl rfl rfl (Nat.le_of_ble_eq_true rfl) (fill_cons (off := 1) (m := 1) (vs := [_]) rfl rfl rfl (Nat.le_of_ble_eq_true rfl) rfl))) ?_
    refine LY rfl (y_nilCheck rfl) (LY rfl (y_fieldAddr rfl fl_110_0) ?_)
    refine LY rfl (y_indexA rfl rfl Try.underlying108 sz_107 (by omega) (by omega) (show _ = 2 from rfl)) ?_
    refine L_op rfl (op_store (vs := [ptr bys, .map (some B4)]) 4 0 rfl rfl rfl sz_107 rfl rfl (ones rfl) (Nat.le_of_ble_eq_true rfl) ?_)
    rw [show spl [ptr bx, .map (some B3), .pointer none, .map none, .int .i64 (((min A.a.S.length A.b.S.length) : Nat) : Int), .func (.func f) #[] cap.toArray] 2 [ptr bys, .map (some B4)] = [ptr bx, .map (some B3), ptr bys, .map (some B4), .int .i64 (((min A.a.S.length A.b.S.length) : Nat) : Int), .func (.func f) #[] cap.toArray] from rfl]
    refine L_nil (C_seq (C_region (LY rfl (y_assign rfl) (L_nil (C_block ?_)))))
    refine C_loopIn (In_round ?_)
    refine C_seq (C_seq (C_region (LY rfl (y_move rfl) (LY rfl (y_move rfl) (LY rfl (y_nilCheck rfl) (LY rfl (y_fieldAddr rfl fl_110_1) (LY rfl (y_load rfl ag_3 (sees 4 0 rfl) rfl) (LY rfl (y_lss rfl rfl) (LY rfl (y_move rfl) ?_)))))))))
    refine L_case 42 rfl (fun hg7_7 => ?_) (fun hg7_7 => ?_)
    · have hj := of_decide_eq_true hg7_7
      refine LY rfl (y_move rfl) (LY rfl (y_move rfl) (LY rfl (y_nilCheck rfl) (LY rfl (y_fieldAddr rfl fl_110_0) ?_)))
      refine LY rfl (y_indexA rfl rfl Try.underlying108 sz_107 (by omega) (by omega) (show _ = 2 from rfl)) ?_
      refine LY rfl (y_loadA rfl ag_107 sz_107 (sees 4 0 rfl) (Nat.le_of_ble_eq_true rfl) rfl) ?_
      refine L_op rfl (op_call rfl rfl (fun a w => Try.call53 a w) rfl ?_)
      refine ((there_d h true).sub (hsub_pick [1] rfl)).mono ?_
      rintro _ _ ⟨rfl, rfl⟩
      rw [hq]
      refine ⟨_, rfl, ?_⟩
      refine LY rfl (y_not rfl) (LY rfl (y_pick_t rfl rfl) (L_nil (C_cond_f rfl (C_exit (C_region ?_)))))
      refine LY rfl (y_add rfl rfl (show _ = (2 : Int) from rfl)) ?_
      refine LY rfl (y_move rfl) (L_nil ?_)
      refine In_round ?_
      refine C_seq (C_region (LY rfl (y_lss rfl rfl) (L_nil (C_seq (C_cond_f rfl (C_exit (C_seq (C_region (LY rfl (y_move rfl) (LY rfl (y_assign rfl) (L_nil (C_ret ?_))))))))))))
      refine B_ret (rv_tmp rfl rv_nil) ((hsub_flat (H := [_] :: [_] :: [_] :: D.seg dt :: H) (H' := Mi.seg 110 ⟨B1, B3, B4, bx, bys, (min A.a.S.length A.b.S.length), .func (.func f) #[] cap.toArray, stale0 true (min A.a.S.length A.b.S.length), (if true then 0 else (min A.a.S.length A.b.S.length)), stale0 true (min A.a.S.length A.b.S.length), (if true then 0 else (min A.a.S.length A.b.S.length))⟩ :: D.seg dt :: H) rfl).trans ((hsub (.cons_cons _ (.cons_cons _ (.cons_cons _ (.cons_cons _ (.cons _ (.refl _))))))).trans (hsub_pick [4, 2, 1, 0] rfl))) ?_
      exact ⟨B1, B3, B4, rfl, by simp only [mnew, stale0, hp, hq] <;> rfl⟩
    · have hj := of_decide_eq_false hg7_7
      refine L_skip rfl rfl (L_skip rfl rfl (L_skip rfl rfl (L_skip rfl rfl (L_skip rfl rfl (L_skip rfl rfl (L_skip rfl rfl (L_skip rfl rfl (LY rfl (y_pick_f rfl rfl) (L_nil (C_cond_f rfl (C_exit (C_region ?_))))))))))))
      refine LY rfl (y_add rfl rfl (show _ = (2 : Int) from rfl)) ?_
      refine LY rfl (y_move rfl) (L_nil ?_)
      refine In_round ?_
      refine C_seq (C_region (LY rfl (y_lss rfl rfl) (L_nil (C_seq (C_cond_f rfl (C_exit (C_seq (C_region (LY rfl (y_move rfl) (LY rfl (y_assign rfl) (L_nil (C_ret ?_))))))))))))
      refine B_ret (rv_tmp rfl rv_nil) ((hsub_flat (H := [_] :: [_] :: [_] :: D.seg dt :: H) (H' := Mi.seg 110 ⟨B1, B3, B4, bx, bys, (min A.a.S.length A.b.S.length), .func (.func f) #[] cap.toArray, stale0 true (min A.a.S.length A.b.S.length), (if true then 0 else (min A.a.S.length A.b.S.length)), stale0 true (min A.a.S.length A.b.S.length), (if true then 0 else (min A.a.S.length A.b.S.length))⟩ :: D.seg dt :: H) rfl).trans ((hsub (.cons_cons _ (.cons_cons _ (.cons_cons _ (.cons_cons _ (.cons _ (.refl _))))))).trans (hsub_pick [4, 2, 0, 0] rfl))) ?_
      exact ⟨B1, B3, B4, rfl, by simp only [mnew, stale0, hp, hq] <;> rfl⟩
  · have hj := of_decide_eq_false hg7_7
    refine L_skip rfl rfl (L_skip rfl rfl (L_skip rfl rfl (L_skip rfl rfl (L_skip rfl rfl (L_skip rfl rfl (L_skip rfl rfl (L_skip rfl rfl (LY rfl (y_pick_f rfl rfl) (L_nil (C_cond_f rfl (C_exit (C_region ?_))))))))))))
    refine LY rfl (y_add rfl rfl (show _ = (1 : Int) from rfl)) ?_
    refine LY rfl (y_move rfl) (L_nil ?_)
    refine In_round ?_
    refine C_seq (C_region (LY rfl (y_lss rfl rfl) (L_nil (C_seq (C_cond_t rfl (C_skip (C_seq (C_block (C_seq (C_region (LY rfl (y_move rfl) ?_)))))))))))
    refine LY rfl (y_indexS rfl rfl Try.underlying111 sz_24 (by omega) (by omega) (show _ = 1 from rfl)) ?_
    refine LY rfl (y_load rfl ag_24 (sees 1 0 rfl) rfl) (LY rfl (y_assign rfl) (LY rfl (y_assign rfl) (L_nil (C_seq (C_region (LY rfl (y_move rfl) (LY rfl (y_move rfl) (LY rfl (y_move rfl) ?_))))))))
    refine L_op rfl (op_makeMap rfl (fun B5 => ?_))
    refine LY rfl (y_build (vs := [(0, _), (1, _)]) (l := [ptr bys, .map (some B5)]) rfl pl_107 zl_107 (fill_cons (off := 0) (m := 1) (vs := [_]) rfl rfl rfl (Nat.le_of_ble_eq_true rfl) (fill_cons (off := 1) (m := 1) (vs := [_]) rfl rfl rfl (Nat.le_of_ble_eq_true rfl) rfl))) ?_
    refine LY rfl (y_nilCheck rfl) (LY rfl (y_fieldAddr rfl fl_110_0) ?_)
    refine LY rfl (y_indexA rfl rfl Try.underlying108 sz_107 (by omega) (by omega) (show _ = 2 from rfl)) ?_
    refine L_op rfl (op_store (vs := [ptr bys, .map (some B5)]) 3 0 rfl rfl rfl sz_107 rfl rfl (ones rfl) (Nat.le_of_ble_eq_true rfl) ?_)
    rw [show spl [ptr bx, .map (some B3), .pointer none, .map none, .int .i64 (((min A.a.S.length A.b.S.length) : Nat) : Int), .func (.func f) #[] cap.toArray] 2 [ptr bys, .map (some B5)] = [ptr bx, .map (some B3), ptr bys, .map (some B5), .int .i64 (((min A.a.S.length A.b.S.length) : Nat) : Int), .func (.func f) #[] cap.toArray] from rfl]
    refine L_nil (C_seq (C_region (LY rfl (y_assign rfl) (L_nil (C_block ?_)))))
    refine C_loopIn (In_round ?_)
    refine C_seq (C_seq (C_region (LY rfl (y_move rfl) (LY rfl (y_move rfl) (LY rfl (y_nilCheck rfl) (LY rfl (y_fieldAddr rfl fl_110_1) (LY rfl (y_load rfl ag_3 (sees 3 0 rfl) rfl) (LY rfl (y_lss rfl rfl) (LY rfl (y_move rfl) ?_)))))))))
    refine L_case 42 rfl (fun hg7_7 => ?_) (fun hg7_7 => ?_)
    · have hj := of_decide_eq_true hg7_7
      refine LY rfl (y_move rfl) (LY rfl (y_move rfl) (LY rfl (y_nilCheck rfl) (LY rfl (y_fieldAddr rfl fl_110_0) ?_)))
      refine LY rfl (y_indexA rfl rfl Try.underlying108 sz_107 (by omega) (by omega) (show _ = 2 from rfl)) ?_
      refine LY rfl (y_loadA rfl ag_107 sz_107 (sees 3 0 rfl) (Nat.le_of_ble_eq_true rfl) rfl) ?_
      refine L_op rfl (op_call rfl rfl (fun a w => Try.call53 a w) rfl ?_)
      refine ((there_d h true).sub (hsub_pick [4] rfl)).mono ?_
      rintro _ _ ⟨rfl, rfl⟩
      rw [hq]
      refine ⟨_, rfl, ?_⟩
      refine LY rfl (y_not rfl) (LY rfl (y_pick_t rfl rfl) (L_nil (C_cond_f rfl (C_exit (C_region ?_)))))
      refine LY rfl (y_add rfl rfl (show _ = (2 : Int) from rfl)) ?_
      refine LY rfl (y_move rfl) (L_nil ?_)
      refine In_round ?_
      refine C_seq (C_region (LY rfl (y_lss rfl rfl) (L_nil (C_seq (C_cond_f rfl (C_exit (C_seq (C_region (LY rfl (y_move rfl) (LY rfl (y_assign rfl) (L_nil (C_ret ?_))))))))))))
      refine B_ret (rv_tmp rfl rv_nil) ((hsub_flat (H := [_] :: [_] :: [_] :: D.seg dt :: H) (H' := Mi.seg 110 ⟨B1, B3, B5, bx, bys, (min A.a.S.length A.b.S.length), .func (.func f) #[] cap.toArray, stale0 true (min A.a.S.length A.b.S.length), (if true then 0 else (min A.a.S.length A.b.S.length)), stale0 true (min A.a.S.length A.b.S.length), (if true then 0 else (min A.a.S.length A.b.S.length))⟩ :: D.seg dt :: H) rfl).trans ((hsub (.cons_cons _ (.cons_cons _ (.cons_cons _ (.cons_cons _ (.cons _ (.refl _))))))).trans (hsub_pick [4, 2, 1, 0] rfl))) ?_
      exact ⟨B1, B3, B5, rfl, by simp only [mnew, stale0, hp, hq] <;> rfl⟩
    · have hj := of_decide_eq_false hg7_7
      refine L_skip rfl rfl (L_skip rfl rfl (L_skip rfl rfl (L_skip rfl rfl (L_skip rfl rfl (L_skip rfl rfl (L_skip rfl rfl (L_skip rfl rfl (LY rfl (y_pick_f rfl rfl) (L_nil (C_cond_f rfl (C_exit (C_region ?_))))))))))))
      refine LY rfl (y_add rfl rfl (show _ = (2 : Int) from rfl)) ?_
      refine LY rfl (y_move rfl) (L_nil ?_)
      refine In_round ?_
      refine C_seq (C_region (LY rfl (y_lss rfl rfl) (L_nil (C_seq (C_cond_f rfl (C_exit (C_seq (C_region (LY rfl (y_move rfl) (LY rfl (y_assign rfl) (L_nil (C_ret ?_))))))))))))
      refine B_ret (rv_tmp rfl rv_nil) ((hsub_flat (H := [_] :: [_] :: [_] :: D.seg dt :: H) (H' := Mi.seg 110 ⟨B1, B3, B5, bx, bys, (min A.a.S.length A.b.S.length), .func (.func f) #[] cap.toArray, stale0 true (min A.a.S.length A.b.S.length), (if true then 0 else (min A.a.S.length A.b.S.length)), stale0 true (min A.a.S.length A.b.S.length), (if true then 0 else (min A.a.S.length A.b.S.length))⟩ :: D.seg dt :: H) rfl).trans ((hsub (.cons_cons _ (.cons_cons _ (.cons_cons _ (.cons_cons _ (.cons _ (.refl _))))))).trans (hsub_pick [3, 1, 0, 1] rfl))) ?_
      exact ⟨B1, B3, B5, rfl, by simp only [mnew, stale0, hp, hq] <;> rfl⟩

set_option maxHeartbeats 4000000 in

theorem new_fn_tf {w0 : World} {H : Hp} {f : Nat} {cap : List Value} {D : Duo} {A : Da} {bx bys bp : Nat} (h : Two dt D A bx bys bp) (hp : thr A false = true) (hq : thr A true = false) : FnS Try.prog w0 17 #[ptr bx, ptr bys, .func (.func f) #[] cap.toArray] (D.seg dt :: H) (fun e H' => ∃ b r0 r1, e = .returned (ptr b) ∧ H' = (mnew A bx bys (.func (.func f) #[] cap.toArray) b r0 r1).seg 110 :: D.seg dt :: H) := by
  have hlen : A.a.S.length ≤ 4096 := (h.oks false).2.1
  refine FnS_intro (n := 64) (rs := [.tmp 6]) (vs := [ptr bx, ptr bys, .func (.func f) #[] cap.toArray]) Try.func17 rfl Try.ntmps17 rfl rfl ?_
  refine C_seq (C_region (LY rfl (y_assign rfl) (L_nil (C_seq (C_region (LY rfl (y_move rfl) ?_))))))
  refine L_op rfl (op_call rfl rfl (fun a w => Try.call52 a w) rfl ?_)
  refine ((len_d h false).sub (hsub_pick [0] rfl)).mono ?_
  rintro _ _ ⟨rfl, rfl⟩
  refine ⟨_, rfl, ?_⟩
  refine LY rfl (y_move rfl) ?_
  refine L_op rfl (op_call rfl rfl (fun a w => Try.call52 a w) rfl ?_)
  refine ((len_d h true).sub (hsub_pick [0] rfl)).mono ?_
  rintro _ _ ⟨rfl, rfl⟩
  refine ⟨_, rfl, ?_⟩
  refine LY rfl (y_minN rfl rfl) ?_
  refine LY rfl (y_move rfl) ?_
  refine LY rfl (y_build (vs := [(1, _), (2, _)]) (l := [.pointer none, .map none, .pointer none, .map none, .int .i64 (((min A.a.S.length A.b.S.length) : Nat) : Int), .func (.func f) #[] cap.toArray]) rfl pl_110 zl_110 (fill_cons (off := 4) (m := 1) (vs := [_]) rfl rfl rfl (Nat.le_of_ble_eq_true rfl) (fill_cons (off := 5) (m := 1) (vs := [_]) rfl rfl rfl (Nat.le_of_ble_eq_true rfl) rfl))) ?_
  refine L_op rfl (op_box rfl rfl rfl (fun B1 => ?_))
  refine LY rfl (y_assign rfl) (L_nil (C_seq (C_seq (C_region (LY rfl (y_move rfl) (LY rfl (y_move rfl) ?_))))))
  refine L_op rfl (op_buildSlice (vs := [(0, _), (1, _)]) rfl Try.underlying111 sz_24 zl_24 rfl (by decide) rfl rfl (fun B2 => ?_))
  refine LY rfl (y_lenS rfl rfl Try.underlying111) ?_
  refine LY rfl (y_move rfl) (L_nil (C_block ?_))
  refine C_loopIn (In_round ?_)
  refine C_seq (C_region (LY rfl (y_lss rfl rfl) (L_nil (C_seq (C_cond_t rfl (C_skip (C_seq (C_block (C_seq (C_region (LY rfl (y_move rfl) ?_)))))))))))
  refine LY rfl (y_indexS rfl rfl Try.underlying111 sz_24 (by omega) (by omega) (show _ = 0 from rfl)) ?_
  refine LY rfl (y_load rfl ag_24 (sees 0 0 rfl) rfl) (LY rfl (y_assign rfl) (LY rfl (y_assign rfl) (L_nil (C_seq (C_region (LY rfl (y_move rfl) (LY rfl (y_move rfl) (LY rfl (y_move rfl) ?_))))))))
  refine L_op rfl (op_makeMap rfl (fun B3 => ?_))
  refine LY rfl (y_build (vs := [(0, _), (1, _)]) (l := [ptr bx, .map (some B3)]) rfl pl_107 zl_107 (fill_cons (off := 0) (m := 1) (vs := [_]) rfl rfl rfl (Nat.le_of_ble_eq_true rfl) (fill_cons (off := 1) (m := 1) (vs := [_]) rfl rfl rfl (Nat.le_of_ble_eq_true rfl) rfl))) ?_
  refine LY rfl (y_nilCheck rfl) (LY rfl (y_fieldAddr rfl fl_110_0) ?_)
  refine LY rfl (y_indexA rfl rfl Try.underlying108 sz_107 (by omega) (by omega) (show _ = 0 from rfl)) ?_
  refine L_op rfl (op_store (vs := [ptr bx, .map (some B3)]) 2 0 rfl rfl rfl sz_107 rfl rfl (ones rfl) (Nat.le_of_ble_eq_true rfl) ?_)
  rw [show spl [.pointer none, .map none, .pointer none, .map none, .int .i64 (((min A.a.S.length A.b.S.length) : Nat) : Int), .func (.func f) #[] cap.toArray] 0 [ptr bx, .map (some B3)] = [ptr bx, .map (some B3), .pointer none, .map none, .int .i64 (((min A.a.S.length A.b.S.length) : Nat) : Int), .func (.func f) #[] cap.toArray] from rfl]
  refine L_nil (C_seq (C_region (LY rfl (y_assign rfl) (L_nil (C_block ?_)))))
  refine C_loopIn (In_round ?_)
  refine C_seq (C_seq (C_region (LY rfl (y_move rfl) (LY rfl (y_move rfl) (LY rfl (y_nilCheck rfl) (LY rfl (y_fieldAddr rfl fl_110_1) (LY rfl (y_load rfl ag_3 (sees 2 0 rfl) rfl) (LY rfl (y_lss rfl rfl) (LY rfl (y_move rfl) ?_)))))))))
  refine L_case 42 rfl (fun hg7_7 => ?_) (fun hg7_7 => ?_)
  · have hj := of_decide_eq_true hg7_7
    refine LY rfl (y_move rfl) (LY rfl (y_move rfl) (LY rfl (y_nilCheck rfl) (LY rfl (y_fieldAddr rfl fl_110_0) ?_)))
    refine LY rfl (y_indexA rfl rfl Try.underlying108 sz_107 (by omega) (by omega) (show _ = 0 from rfl)) ?_
    refine LY rfl (y_loadA rfl ag_107 sz_107 (sees 2 0 rfl) (Nat.le_of_ble_eq_true rfl) rfl) ?_
    refine L_op rfl (op_call rfl rfl (fun a w => Try.call53 a w) rfl ?_)
    refine ((there_d h false).sub (hsub_pick [3] rfl)).mono ?_
    rintro _ _ ⟨rfl, rfl⟩
    rw [hp]
    refine ⟨_, rfl, ?_⟩
    refine LY rfl (y_not rfl) (LY rfl (y_pick_t rfl rfl) (L_nil (C_cond_f rfl (C_exit (C_region ?_)))))
    refine LY rfl (y_add rfl rfl (show _ = (1 : Int) from rfl)) ?_
    refine LY rfl (y_move rfl) (L_nil ?_)
    refine In_round ?_
    refine C_seq (C_region (LY rfl (y_lss rfl rfl) (L_nil (C_seq (C_cond_t rfl (C_skip (C_seq (C_block (C_seq (C_region (LY rfl (y_move rfl) ?_)))))))))))
    refine LY rfl (y_indexS rfl rfl Try.underlying111 sz_24 (by omega) (by omega) (show _ = 1 from rfl)) ?_
    refine LY rfl (y_load rfl ag_24 (sees 2 0 rfl) rfl) (LY rfl (y_assign rfl) (LY rfl (y_assign rfl) (L_nil (C_seq (C_region (LY rfl (y_move rfl) (LY rfl (y_move rfl) (LY rfl (y_move rfl) ?_))))))))
    refine L_op rfl (op_makeMap rfl (fun B4 => ?_))
    refine LY rfl (y_build (vs := [(0, _), (1, _)]) (l := [ptr bys, .map (some B4)]) rfl pl_107 zl_107 (fill_cons (off := 0) (m := 1) (vs := [_]) rfl rfl rfl (Nat.le_of_ble_eq_true rfl) (fill_cons (off := 1) (m := 1) (vs := [_]) rfl rfl rfl (Nat.le_of_ble_eq_true rfl) rfl))) ?_
    refine LY rfl (y_nilCheck rfl) (LY rfl (y_fieldAddr rfl fl_110_0) ?_)
    refine LY rfl (y_indexA rfl rfl Try.underlying108 sz_107 (by omega) (by omega) (show _ = 2 from rfl)) ?_
    refine L_op rfl (op_store (vs := [ptr bys, .map (some B4)]) 4 0 rfl rfl rfl sz_107 rfl rfl (ones rfl) (Nat.le_of_ble_eq_true rfl) ?_)
    rw [show spl [ptr bx, .map (some B3), .pointer none, .map none, .int .i64 (((min A.a.S.length A.b.S.length) : Nat) : Int), .func (.func f) #[] cap.toArray] 2 [ptr bys, .map (some B4)] = [ptr bx, .map (some B3), ptr bys, .map (some B4), .int .i64 (((min A.a.S.length A.b.S.length) : Nat) : Int), .func (.func f) #[] cap.toArray] from rfl]
    refine L_nil (C_seq (C_region (LY rfl (y_assign rfl) (L_nil (C_block ?_)))))
    refine C_loop (ι := Nat) (fun j => [(7, ptr B1), (8, .int .i64 1), (10, .int .i64 (j : Int)), (21, .slice (some ⟨B2, 0, none⟩) 2 2), (22, .int .i64 2), (23, .int .i64 1)]) (fun j => [(B4, mapO (stN j) j)] :: [(B1, .cells [ptr bx, .map (some B3), ptr bys, .map (some B4), .int .i64 (((min A.a.S.length A.b.S.length) : Nat) : Int), .func (.func f) #[] cap.toArray].toArray 110)] :: [(B2, .cells [ptr bx, ptr bys].toArray 24)] :: D.seg dt :: [(B3, mapO (stale0 true (min A.a.S.length A.b.S.length)) (if true then 0 else (min A.a.S.length A.b.S.length)))] :: H) (fun j => j ≤ (min A.a.S.length A.b.S.length)) (fun j => (min A.a.S.length A.b.S.length) - j) 0 (Nat.zero_le _) ⟨rfl, rfl, rfl, rfl, rfl, rfl, trivial⟩ (hsub_pick [0, 3, 2, 0, 0] rfl) (fun j hj => ?_)
    skip
    refine C_seq (C_seq (C_region (LY rfl (y_move rfl) (LY rfl (y_move rfl) (LY rfl (y_nilCheck rfl) (LY rfl (y_fieldAddr rfl fl_110_1) (LY rfl (y_load rfl ag_3 (sees 1 0 rfl) rfl) (LY rfl (y_lss rfl rfl) (LY rfl (y_move rfl) ?_)))))))))
    refine L_case 42 rfl (fun hg7_7 => ?_) (fun hg7_7 => ?_)
    · have hj := of_decide_eq_true hg7_7
      refine LY rfl (y_move rfl) (LY rfl (y_move rfl) (LY rfl (y_nilCheck rfl) (LY rfl (y_fieldAddr rfl fl_110_0) ?_)))
      refine LY rfl (y_indexA rfl rfl Try.underlying108 sz_107 (by omega) (by omega) (show _ = 2 from rfl)) ?_
      refine LY rfl (y_loadA rfl ag_107 sz_107 (sees 1 0 rfl) (Nat.le_of_ble_eq_true rfl) rfl) ?_
      refine L_op rfl (op_call rfl rfl (fun a w => Try.call53 a w) rfl ?_)
      refine ((there_d h true).sub (hsub_pick [3] rfl)).mono ?_
      rintro _ _ ⟨rfl, rfl⟩
      rw [hq]
      refine ⟨_, rfl, ?_⟩
      refine LY rfl (y_not rfl) (LY rfl (y_pick_t rfl rfl) (L_nil (C_cond_t rfl (C_skip (C_seq (C_block (C_region (LY rfl (y_move rfl) (LY rfl (y_move rfl) (LY rfl (y_nilCheck rfl) (LY rfl (y_fieldAddr rfl fl_110_0) ?_)))))))))))
      refine LY rfl (y_indexA rfl rfl Try.underlying108 sz_107 (by omega) (by omega) (show _ = 2 from rfl)) ?_
      refine LY rfl (y_fieldAddr rfl fl_107_1) (LY rfl (y_load rfl ag_105 (sees 2 0 rfl) rfl) (LY rfl (y_move rfl) ?_))
      refine L_op rfl (op_mapUpdate 1 0 rfl rfl rfl Try.underlying105 Try.underlying3 rfl rfl ?_)
      refine L_nil (C_region (LY rfl (y_move rfl) ?_))
      refine LY rfl (y_add rfl rfl (wi64 (by omega) (by omega))) ?_
      refine LY rfl (y_assign rfl) (L_nil ?_)
      refine ⟨j + 1, by omega, by omega, ⟨rfl, rfl, rfl, rfl, rfl, rfl, trivial⟩, ?_⟩
      rw [← (stN_put j).1, show mapO (kPut (stN j) j (j : Int)) (j + 1) = mapO (kPut (stN j) j (j : Int)) (kClk (stN j) j (j : Int)) from by rw [(stN_put j).2]]
      exact ((hsub (.cons_cons _ (.cons_cons _ (.cons_cons _ (.cons_cons _ (.cons_cons _ (.refl _))))))).trans (hsub_pick [1, 1, 1, 0, 0] rfl))
    · have hj := of_decide_eq_false hg7_7
      refine L_skip rfl rfl (L_skip rfl rfl (L_skip rfl rfl (L_skip rfl rfl (L_skip rfl rfl (L_skip rfl rfl (L_skip rfl rfl (L_skip rfl rfl (LY rfl (y_pick_f rfl rfl) (L_nil (C_cond_f rfl (C_exit ?_)))))))))))
      obtain rfl : j = (min A.a.S.length A.b.S.length) := by omega
      refine C_region ?_
      refine LY rfl (y_add rfl rfl (show _ = (2 : Int) from rfl)) ?_
      refine LY rfl (y_move rfl) (L_nil ?_)
      refine In_round ?_
      refine C_seq (C_region (LY rfl (y_lss rfl rfl) (L_nil (C_seq (C_cond_f rfl (C_exit (C_seq (C_region (LY rfl (y_move rfl) (LY rfl (y_assign rfl) (L_nil (C_ret ?_))))))))))))
      refine B_ret (rv_tmp rfl rv_nil) ((hsub_flat (H := [_] :: [_] :: [_] :: D.seg dt :: H) (H' := Mi.seg 110 ⟨B1, B3, B4, bx, bys, (min A.a.S.length A.b.S.length), .func (.func f) #[] cap.toArray, stale0 true (min A.a.S.length A.b.S.length), (if true then 0 else (min A.a.S.length A.b.S.length)), stale0 false (min A.a.S.length A.b.S.length), (if false then 0 else (min A.a.S.length A.b.S.length))⟩ :: D.seg dt :: H) rfl).trans ((hsub (.cons_cons _ (.cons_cons _ (.cons_cons _ (.cons_cons _ (.cons _ (.refl _))))))).trans (hsub_pick [1, 3, 0, 1] rfl))) ?_
      exact ⟨B1, B3, B4, rfl, by simp only [mnew, stale0, hp, hq] <;> rfl⟩
  · have hj := of_decide_eq_false hg7_7
    refine L_skip rfl rfl (L_skip rfl rfl (L_skip rfl rfl (L_skip rfl rfl (L_skip rfl rfl (L_skip rfl rfl (L_skip rfl rfl (L_skip rfl rfl (LY rfl (y_pick_f rfl rfl) (L_nil (C_cond_f rfl (C_exit (C_region ?_))))))))))))
    refine LY rfl (y_add rfl rfl (show _ = (1 : Int) from rfl)) ?_
    refine LY rfl (y_move rfl) (L_nil ?_)
    refine In_round ?_
    refine C_seq (C_region (LY rfl (y_lss rfl rfl) (L_nil (C_seq (C_cond_t rfl (C_skip (C_seq (C_block (C_seq (C_region (LY rfl (y_move rfl) ?_)))))))))))
    refine LY rfl (y_indexS rfl rfl Try.underlying111 sz_24 (by omega) (by omega) (show _ = 1 from rfl)) ?_
    refine LY rfl (y_load rfl ag_24 (sees 1 0 rfl) rfl) (LY rfl (y_assign rfl) (LY rfl (y_assign rfl) (L_nil (C_seq (C_region (LY rfl (y_move rfl) (LY rfl (y_move rfl) (LY rfl (y_move rfl) ?_))))))))
    refine L_op rfl (op_makeMap rfl (fun B5 => ?_))
    refine LY rfl (y_build (vs := [(0, _), (1, _)]) (l := [ptr bys, .map (some B5)]) rfl pl_107 zl_107 (fill_cons (off := 0) (m := 1) (vs := [_]) rfl rfl rfl (Nat.le_of_ble_eq_true rfl) (fill_cons (off := 1) (m := 1) (vs := [_]) rfl rfl rfl (Nat.le_of_ble_eq_true rfl) rfl))) ?_
    refine LY rfl (y_nilCheck rfl) (LY rfl (y_fieldAddr rfl fl_110_0) ?_)
    refine LY rfl (y_indexA rfl rfl Try.underlying108 sz_107 (by omega) (by omega) (show _ = 2 from rfl)) ?_
    refine L_op rfl (op_store (vs := [ptr bys, .map (some B5)]) 3 0 rfl rfl rfl sz_107 rfl rfl (ones rfl) (Nat.le_of_ble_eq_true rfl) ?_)
    rw [show spl [ptr bx, .map (some B3), .pointer none, .map none, .int .i64 (((min A.a.S.length A.b.S.length) : Nat) : Int), .func (.func f) #[] cap.toArray] 2 [ptr bys, .map (some B5)] = [ptr bx, .map (some B3), ptr bys, .map (some B5), .int .i64 (((min A.a.S.length A.b.S.length) : Nat) : Int), .func (.func f) #[] cap.toArray] from rfl]
    refine L_nil (C_seq (C_region (LY rfl (y_assign rfl) (L_nil (C_block ?_)))))
    refine C_loop (ι := Nat) (fun j => [(7, ptr B1), (8, .int .i64 1), (10, .int .i64 (j : Int)), (21, .slice (some ⟨B2, 0, none⟩) 2 2), (22, .int .i64 2), (23, .int .i64 1)]) (fun j => [(B5, mapO (stN j) j)] :: [(B1, .cells [ptr bx, .map (some B3), ptr bys, .map (some B5), .int .i64 (((min A.a.S.length A.b.S.length) : Nat) : Int), .func (.func f) #[] cap.toArray].toArray 110)] :: [(B2, .cells [ptr bx, ptr bys].toArray 24)] :: D.seg dt :: [(B3, mapO (stale0 true (min A.a.S.length A.b.S.length)) (if true then 0 else (min A.a.S.length A.b.S.length)))] :: H) (fun j => j ≤ (min A.a.S.length A.b.S.length)) (fun j => (min A.a.S.length A.b.S.length) - j) 0 (Nat.zero_le _) ⟨rfl, rfl, rfl, rfl, rfl, rfl, trivial⟩ (hsub_pick [0, 2, 1, 1, 0] rfl) (fun j hj => ?_)
    skip
    refine C_seq (C_seq (C_region (LY rfl (y_move rfl) (LY rfl (y_move rfl) (LY rfl (y_nilCheck rfl) (LY rfl (y_fieldAddr rfl fl_110_1) (LY rfl (y_load rfl ag_3 (sees 1 0 rfl) rfl) (LY rfl (y_lss rfl rfl) (LY rfl (y_move rfl) ?_)))))))))
    refine L_case 42 rfl (fun hg7_7 => ?_) (fun hg7_7 => ?_)
    · have hj := of_decide_eq_true hg7_7
      refine LY rfl (y_move rfl) (LY rfl (y_move rfl) (LY rfl (y_nilCheck rfl) (LY rfl (y_fieldAddr rfl fl_110_0) ?_)))
      refine LY rfl (y_indexA rfl rfl Try.underlying108 sz_107 (by omega) (by omega) (show _ = 2 from rfl)) ?_
      refine LY rfl (y_loadA rfl ag_107 sz_107 (sees 1 0 rfl) (Nat.le_of_ble_eq_true rfl) rfl) ?_
      refine L_op rfl (op_call rfl rfl (fun a w => Try.call53 a w) rfl ?_)
      refine ((there_d h true).sub (hsub_pick [3] rfl)).mono ?_
      rintro _ _ ⟨rfl, rfl⟩
      rw [hq]
      refine ⟨_, rfl, ?_⟩
      refine LY rfl (y_not rfl) (LY rfl (y_pick_t rfl rfl) (L_nil (C_cond_t rfl (C_skip (C_seq (C_block (C_region (LY rfl (y_move rfl) (LY rfl (y_move rfl) (LY rfl (y_nilCheck rfl) (LY rfl (y_fieldAddr rfl fl_110_0) ?_)))))))))))
      refine LY rfl (y_indexA rfl rfl Try.underlying108 sz_107 (by omega) (by omega) (show _ = 2 from rfl)) ?_
      refine LY rfl (y_fieldAddr rfl fl_107_1) (LY rfl (y_load rfl ag_105 (sees 2 0 rfl) rfl) (LY rfl (y_move rfl) ?_))
      refine L_op rfl (op_mapUpdate 1 0 rfl rfl rfl Try.underlying105 Try.underlying3 rfl rfl ?_)
      refine L_nil (C_region (LY rfl (y_move rfl) ?_))
      refine LY rfl (y_add rfl rfl (wi64 (by omega) (by omega))) ?_
      refine LY rfl (y_assign rfl) (L_nil ?_)
      refine ⟨j + 1, by omega, by omega, ⟨rfl, rfl, rfl, rfl, rfl, rfl, trivial⟩, ?_⟩
      rw [← (stN_put j).1, show mapO (kPut (stN j) j (j : Int)) (j + 1) = mapO (kPut (stN j) j (j : Int)) (kClk (stN j) j (j : Int)) from by rw [(stN_put j).2]]
      exact ((hsub (.cons_cons _ (.cons_cons _ (.cons_cons _ (.cons_cons _ (.cons_cons _ (.refl _))))))).trans (hsub_pick [1, 1, 1, 0, 0] rfl))
    · have hj := of_decide_eq_false hg7_7
      refine L_skip rfl rfl (L_skip rfl rfl (L_skip rfl rfl (L_skip rfl rfl (L_skip rfl rfl (L_skip rfl rfl (L_skip rfl rfl (L_skip rfl rfl (LY rfl (y_pick_f rfl rfl) (L_nil (C_cond_f rfl (C_exit ?_)))))))))))
      obtain rfl : j = (min A.a.S.length A.b.S.length) := by omega
      refine C_region ?_
      refine LY rfl (y_add rfl rfl (show _ = (2 : Int) from rfl)) ?_
      refine LY rfl (y_move rfl) (L_nil ?_)
      refine In_round ?_
      refine C_seq (C_region (LY rfl (y_lss rfl rfl) (L_nil (C_seq (C_cond_f rfl (C_exit (C_seq (C_region (LY rfl (y_move rfl) (LY rfl (y_assign rfl) (L_nil (C_ret ?_))))))))))))
      refine B_ret (rv_tmp rfl rv_nil) ((hsub_flat (H := [_] :: [_] :: [_] :: D.seg dt :: H) (H' := Mi.seg 110 ⟨B1, B3, B5, bx, bys, (min A.a.S.length A.b.S.length), .func (.func f) #[] cap.toArray, stale0 true (min A.a.S.length A.b.S.length), (if true then 0 else (min A.a.S.length A.b.S.length)), stale0 false (min A.a.S.length A.b.S.length), (if false then 0 else (min A.a.S.length A.b.S.length))⟩ :: D.seg dt :: H) rfl).trans ((hsub (.cons_cons _ (.cons_cons _ (.cons_cons _ (.cons_cons _ (.cons _ (.refl _))))))).trans (hsub_pick [1, 3, 0, 1] rfl))) ?_
      exact ⟨B1, B3, B5, rfl, by simp only [mnew, stale0, hp, hq] <;> rfl⟩

set_option maxHeartbeats 4000000 in

theorem new_fn_ft {w0 : World} {H : Hp} {f : Nat} {cap : List Value} {D : Duo} {A : Da} {bx bys bp : Nat} (h : Two dt D A bx bys bp) (hp : thr A false = false) (hq : thr A true = true) : FnS Try.prog w0 17 #[ptr bx, ptr bys, .func (.func f) #[] cap.toArray] (D.seg dt :: H) (fun e H' => ∃ b r0 r1, e = .returned (ptr b) ∧ H' = (mnew A bx bys (.func (.func f) #[] cap.toArray) b r0 r1).seg 110 :: D.seg dt :: H) := by
  have hlen : A.a.S.length ≤ 4096 := (h.oks false).2.1
  refine FnS_intro (n := 64) (rs := [.tmp 6]) (vs := [ptr bx, ptr bys, .func (.func f) #[] cap.toArray]) Try.func17 rfl Try.ntmps17 rfl rfl ?_
  refine C_seq (C_region (LY rfl (y_assign rfl) (L_nil (C_seq (C_region (LY rfl (y_move rfl) ?_))))))
  refine L_op rfl (op_call rfl rfl (fun a w => Try.call52 a w) rfl ?_)
  refine ((len_d h false).sub (hsub_pick [0] rfl)).mono ?_
  rintro _ _ ⟨rfl, rfl⟩
  refine ⟨_, rfl, ?_⟩
  refine LY rfl (y_move rfl) ?_
  refine L_op rfl (op_call rfl rfl (fun a w => Try.call52 a w) rfl ?_)
  refine ((len_d h true).sub (hsub_pick [0] rfl)).mono ?_
  rintro _ _ ⟨rfl, rfl⟩
  refine ⟨_, rfl, ?_⟩
  refine LY rfl (y_minN rfl rfl) ?_
  refine LY rfl (y_move rfl) ?_
  refine LY rfl (y_build (vs := [(1, _), (2, _)]) (l := [.pointer none, .map none, .pointer none, .map none, .int .i64 (((min A.a.S.length A.b.S.length) : Nat) : Int), .func (.func f) #[] cap.toArray]) rfl pl_110 zl_110 (fill_cons (off := 4) (m := 1) (vs := [_]) rfl rfl rfl (Nat.le_of_ble_eq_true rfl) (fill_cons (off := 5) (m := 1) (vs := [_]) rfl rfl rfl (Nat.le_of_ble_eq_true rfl) rfl))) ?_
  refine L_op rfl (op_box rfl rfl rfl (fun B1 => ?_))
  refine LY rfl (y_assign rfl) (L_nil (C_seq (C_seq (C_region (LY rfl (y_move rfl) (LY rfl (y_move rfl) ?_))))))
  refine L_op rfl (op_buildSlice (vs := [(0, _), (1, _)]) rfl Try.underlying111 sz_24 zl_24 rfl (by decide) rfl rfl (fun B2 => ?_))
  refine LY rfl (y_lenS rfl rfl Try.underlying111) ?_
  refine LY rfl (y_move rfl) (L_nil (C_block ?_))
  refine C_loopIn (In_round ?_)
  refine C_seq (C_region (LY rfl (y_lss rfl rfl) (L_nil (C_seq (C_cond_t rfl (C_skip (C_seq (C_block (C_seq (C_region (LY rfl (y_move rfl) ?_)))))))))))
  refine LY rfl (y_indexS rfl rfl Try.underlying111 sz_24 (by omega) (by omega) (show _ = 0 from rfl)) ?_
  refine LY rfl (y_load rfl ag_24 (sees 0 0 rfl) rfl) (LY rfl (y_assign rfl) (LY rfl (y_assign rfl) (L_nil (C_seq (C_region (LY rfl (y_move rfl) (LY rfl (y_move rfl) (LY rfl (y_move rfl) ?_))))))))
  refine L_op rfl (op_makeMap rfl (fun B3 => ?_))
  refine LY rfl (y_build (vs := [(0, _), (1, _)]) (l := [ptr bx, .map (some B3)]) rfl pl_107 zl_107 (fill_cons (off := 0) (m := 1) (vs := [_]) rfl rfl rfl (Nat.le_of_ble_eq_true rfl) (fill_cons (off := 1) (m := 1) (vs := [_]) rfl rfl rfl (Nat.le_of_ble_eq_true rfl) rfl))) ?_
  refine LY rfl (y_nilCheck rfl) (LY rfl (y_fieldAddr rfl fl_110_0) ?_)
  refine LY rfl (y_indexA rfl rfl Try.underlying108 sz_107 (by omega) (by omega) (show _ = 0 from rfl)) ?_
  refine L_op rfl (op_store (vs := [ptr bx, .map (some B3)]) 2 0 rfl rfl rfl sz_107 rfl rfl (ones rfl) (Nat.le_of_ble_eq_true rfl) ?_)
  rw [show spl [.pointer none, .map none, .pointer none, .map none, .int .i64 (((min A.a.S.length A.b.S.length) : Nat) : Int), .func (.func f) #[] cap.toArray] 0 [ptr bx, .map (some B3)] = [ptr bx, .map (some B3), .pointer none, .map none, .int .i64 (((min A.a.S.length A.b.S.length) : Nat) : Int), .func (.func f) #[] cap.toArray] from rfl]
  refine L_nil (C_seq (C_region (LY rfl (y_assign rfl) (L_nil (C_block ?_)))))
  refine C_loop (ι := Nat) (fun j => [(7, ptr B1), (8, .int .i64 0), (10, .int .i64 (j : Int)), (21, .slice (some ⟨B2, 0, none⟩) 2 2), (22, .int .i64 2), (23, .int .i64 0)]) (fun j => [(B3, mapO (stN j) j)] :: [(B1, .cells [ptr bx, .map (some B3), .pointer none, .map none, .int .i64 (((min A.a.S.length A.b.S.length) : Nat) : Int), .func (.func f) #[] cap.toArray].toArray 110)] :: [(B2, .cells [ptr bx, ptr bys].toArray 24)] :: D.seg dt :: H) (fun j => j ≤ (min A.a.S.length A.b.S.length)) (fun j => (min A.a.S.length A.b.S.length) - j) 0 (Nat.zero_le _) ⟨rfl, rfl, rfl, rfl, rfl, rfl, trivial⟩ (hsub_pick [0, 1, 0, 0] rfl) (fun j hj => ?_)
  skip
  refine C_seq (C_seq (C_region (LY rfl (y_move rfl) (LY rfl (y_move rfl) (LY rfl (y_nilCheck rfl) (LY rfl (y_fieldAddr rfl fl_110_1) (LY rfl (y_load rfl ag_3 (sees 1 0 rfl) rfl) (LY rfl (y_lss rfl rfl) (LY rfl (y_move rfl) ?_)))))))))
  refine L_case 42 rfl (fun hg7_7 => ?_) (fun hg7_7 => ?_)
  · have hj := of_decide_eq_true hg7_7
    refine LY rfl (y_move rfl) (LY rfl (y_move rfl) (LY rfl (y_nilCheck rfl) (LY rfl (y_fieldAddr rfl fl_110_0) ?_)))
    refine LY rfl (y_indexA rfl rfl Try.underlying108 sz_107 (by omega) (by omega) (show _ = 0 from rfl)) ?_
    refine LY rfl (y_loadA rfl ag_107 sz_107 (sees 1 0 rfl) (Nat.le_of_ble_eq_true rfl) rfl) ?_
    refine L_op rfl (op_call rfl rfl (fun a w => Try.call53 a w) rfl ?_)
    refine ((there_d h false).sub (hsub_pick [3] rfl)).mono ?_
    rintro _ _ ⟨rfl, rfl⟩
    rw [hp]
    refine ⟨_, rfl, ?_⟩
    refine LY rfl (y_not rfl) (LY rfl (y_pick_t rfl rfl) (L_nil (C_cond_t rfl (C_skip (C_seq (C_block (C_region (LY rfl (y_move rfl) (LY rfl (y_move rfl) (LY rfl (y_nilCheck rfl) (LY rfl (y_fieldAddr rfl fl_110_0) ?_)))))))))))
    refine LY rfl (y_indexA rfl rfl Try.underlying108 sz_107 (by omega) (by omega) (show _ = 0 from rfl)) ?_
    refine LY rfl (y_fieldAddr rfl fl_107_1) (LY rfl (y_load rfl ag_105 (sees 2 0 rfl) rfl) (LY rfl (y_move rfl) ?_))
    refine L_op rfl (op_mapUpdate 1 0 rfl rfl rfl Try.underlying105 Try.underlying3 rfl rfl ?_)
    refine L_nil (C_region (LY rfl (y_move rfl) ?_))
    refine LY rfl (y_add rfl rfl (wi64 (by omega) (by omega))) ?_
    refine LY rfl (y_assign rfl) (L_nil ?_)
    refine ⟨j + 1, by omega, by omega, ⟨rfl, rfl, rfl, rfl, rfl, rfl, trivial⟩, ?_⟩
    rw [← (stN_put j).1, show mapO (kPut (stN j) j (j : Int)) (j + 1) = mapO (kPut (stN j) j (j : Int)) (kClk (stN j) j (j : Int)) from by rw [(stN_put j).2]]
    exact ((hsub (.cons_cons _ (.cons_cons _ (.cons_cons _ (.cons_cons _ (.refl _)))))).trans (hsub_pick [1, 1, 1, 0] rfl))
  · have hj := of_decide_eq_false hg7_7
    refine L_skip rfl rfl (L_skip rfl rfl (L_skip rfl rfl (L_skip rfl rfl (L_skip rfl rfl (L_skip rfl rfl (L_skip rfl rfl (L_skip rfl rfl (LY rfl (y_pick_f rfl rfl) (L_nil (C_cond_f rfl (C_exit ?_)))))))))))
    obtain rfl : j = (min A.a.S.length A.b.S.length) := by omega
    refine C_region ?_
    refine LY rfl (y_add rfl rfl (show _ = (1 : Int) from rfl)) ?_
    refine LY rfl (y_move rfl) (L_nil ?_)
    refine In_round ?_
    refine C_seq (C_region (LY rfl (y_lss rfl rfl) (L_nil (C_seq (C_cond_t rfl (C_skip (C_seq (C_block (C_seq (C_region (LY rfl (y_move rfl) ?_)))))))))))
    refine LY rfl (y_indexS rfl rfl Try.underlying111 sz_24 (by omega) (by omega) (show _ = 1 from rfl)) ?_
    refine LY rfl (y_load rfl ag_24 (sees 2 0 rfl) rfl) (LY rfl (y_assign rfl) (LY rfl (y_assign rfl) (L_nil (C_seq (C_region (LY rfl (y_move rfl) (LY rfl (y_move rfl) (LY rfl (y_move rfl) ?_))))))))
    refine L_op rfl (op_makeMap rfl (fun B4 => ?_))
    refine LY rfl (y_build (vs := [(0, _), (1, _)]) (l := [ptr bys, .map (some B4)]) rfl pl_107 zl_107 (fill_cons (off := 0) (m := 1) (vs := [_]) rfl rfl rfl (Nat.le_of_ble_eq_true rfl) (fill_cons (off := 1) (m := 1) (vs := [_]) rfl rfl rfl (Nat.le_of_ble_eq_true rfl) rfl))) ?_
    refine LY rfl (y_nilCheck rfl) (LY rfl (y_fieldAddr rfl fl_110_0) ?_)
    refine LY rfl (y_indexA rfl rfl Try.underlying108 sz_107 (by omega) (by omega) (show _ = 2 from rfl)) ?_
    refine L_op rfl (op_store (vs := [ptr bys, .map (some B4)]) 2 0 rfl rfl rfl sz_107 rfl rfl (ones rfl) (Nat.le_of_ble_eq_true rfl) ?_)
    rw [show spl [ptr bx, .map (some B3), .pointer none, .map none, .int .i64 (((min A.a.S.length A.b.S.length) : Nat) : Int), .func (.func f) #[] cap.toArray] 2 [ptr bys, .map (some B4)] = [ptr bx, .map (some B3), ptr bys, .map (some B4), .int .i64 (((min A.a.S.length A.b.S.length) : Nat) : Int), .func (.func f) #[] cap.toArray] from rfl]
    refine L_nil (C_seq (C_region (LY rfl (y_assign rfl) (L_nil (C_block ?_)))))
    refine C_loopIn (In_round ?_)
    refine C_seq (C_seq (C_region (LY rfl (y_move rfl) (LY rfl (y_move rfl) (LY rfl (y_nilCheck rfl) (LY rfl (y_fieldAddr rfl fl_110_1) (LY rfl (y_load rfl ag_3 (sees 2 0 rfl) rfl) (LY rfl (y_lss rfl rfl) (LY rfl (y_move rfl) ?_)))))))))
    refine L_case 42 rfl (fun hg7_7 => ?_) (fun hg7_7 => ?_)
    · have hj := of_decide_eq_true hg7_7
      refine LY rfl (y_move rfl) (LY rfl (y_move rfl) (LY rfl (y_nilCheck rfl) (LY rfl (y_fieldAddr rfl fl_110_0) ?_)))
      refine LY rfl (y_indexA rfl rfl Try.underlying108 sz_107 (by omega) (by omega) (show _ = 2 from rfl)) ?_
      refine LY rfl (y_loadA rfl ag_107 sz_107 (sees 2 0 rfl) (Nat.le_of_ble_eq_true rfl) rfl) ?_
      refine L_op rfl (op_call rfl rfl (fun a w => Try.call53 a w) rfl ?_)
      refine ((there_d h true).sub (hsub_pick [4] rfl)).mono ?_
      rintro _ _ ⟨rfl, rfl⟩
      rw [hq]
      refine ⟨_, rfl, ?_⟩
      refine LY rfl (y_not rfl) (LY rfl (y_pick_t rfl rfl) (L_nil (C_cond_f rfl (C_exit (C_region ?_)))))
      refine LY rfl (y_add rfl rfl (show _ = (2 : Int) from rfl)) ?_
      refine LY rfl (y_move rfl) (L_nil ?_)
      refine In_round ?_
      refine C_seq (C_region (LY rfl (y_lss rfl rfl) (L_nil (C_seq (C_cond_f rfl (C_exit (C_seq (C_region (LY rfl (y_move rfl) (LY rfl (y_assign rfl) (L_nil (C_ret ?_))))))))))))
      refine B_ret (rv_tmp rfl rv_nil) ((hsub_flat (H := [_] :: [_] :: [_] :: D.seg dt :: H) (H' := Mi.seg 110 ⟨B1, B3, B4, bx, bys, (min A.a.S.length A.b.S.length), .func (.func f) #[] cap.toArray, stale0 false (min A.a.S.length A.b.S.length), (if false then 0 else (min A.a.S.length A.b.S.length)), stale0 true (min A.a.S.length A.b.S.length), (if true then 0 else (min A.a.S.length A.b.S.length))⟩ :: D.seg dt :: H) rfl).trans ((hsub (.cons_cons _ (.cons_cons _ (.cons_cons _ (.cons_cons _ (.cons _ (.refl _))))))).trans (hsub_pick [3, 2, 1, 0] rfl))) ?_
      exact ⟨B1, B3, B4, rfl, by simp only [mnew, stale0, hp, hq] <;> rfl⟩
    · have hj := of_decide_eq_false hg7_7
      refine L_skip rfl rfl (L_skip rfl rfl (L_skip rfl rfl (L_skip rfl rfl (L_skip rfl rfl (L_skip rfl rfl (L_skip rfl rfl (L_skip rfl rfl (LY rfl (y_pick_f rfl rfl) (L_nil (C_cond_f rfl (C_exit (C_region ?_))))))))))))
      refine LY rfl (y_add rfl rfl (show _ = (2 : Int) from rfl)) ?_
      refine LY rfl (y_move rfl) (L_nil ?_)
      refine In_round ?_
      refine C_seq (C_region (LY rfl (y_lss rfl rfl) (L_nil (C_seq (C_cond_f rfl (C_exit (C_seq (C_region (LY rfl (y_move rfl) (LY rfl (y_assign rfl) (L_nil (C_ret ?_))))))))))))
      refine B_ret (rv_tmp rfl rv_nil) ((hsub_flat (H := [_] :: [_] :: [_] :: D.seg dt :: H) (H' := Mi.seg 110 ⟨B1, B3, B4, bx, bys, (min A.a.S.length A.b.S.length), .func (.func f) #[] cap.toArray, stale0 false (min A.a.S.length A.b.S.length), (if false then 0 else (min A.a.S.length A.b.S.length)), stale0 true (min A.a.S.length A.b.S.length), (if true then 0 else (min A.a.S.length A.b.S.length))⟩ :: D.seg dt :: H) rfl).trans ((hsub (.cons_cons _ (.cons_cons _ (.cons_cons _ (.cons_cons _ (.cons _ (.refl _))))))).trans (hsub_pick [2, 1, 0, 1] rfl))) ?_
      exact ⟨B1, B3, B4, rfl, by simp only [mnew, stale0, hp, hq] <;> rfl⟩

set_option maxHeartbeats 4000000 in

theorem new_fn_ff {w0 : World} {H : Hp} {f : Nat} {cap : List Value} {D : Duo} {A : Da} {bx bys bp : Nat} (h : Two dt D A bx bys bp) (hp : thr A false = false) (hq : thr A true = false) : FnS Try.prog w0 17 #[ptr bx, ptr bys, .func (.func f) #[] cap.toArray] (D.seg dt :: H) (fun e H' => ∃ b r0 r1, e = .returned (ptr b) ∧ H' = (mnew A bx bys (.func (.func f) #[] cap.toArray) b r0 r1).seg 110 :: D.seg dt :: H) := by
  have hlen : A.a.S.length ≤ 4096 := (h.oks false).2.1
  refine FnS_intro (n := 64) (rs := [.tmp 6]) (vs := [ptr bx, ptr bys, .func (.func f) #[] cap.toArray]) Try.func17 rfl Try.ntmps17 rfl rfl ?_
  refine C_seq (C_region (LY rfl (y_assign rfl) (L_nil (C_seq (C_region (LY rfl (y_move rfl) ?_))))))
  refine L_op rfl (op_call rfl rfl (fun a w => Try.call52 a w) rfl ?_)
  refine ((len_d h false).sub (hsub_pick [0] rfl)).mono ?_
  rintro _ _ ⟨rfl, rfl⟩
  refine ⟨_, rfl, ?_⟩
  refine LY rfl (y_move rfl) ?_
  refine L_op rfl (op_call rfl rfl (fun a w => Try.call52 a w) rfl ?_)
  refine ((len_d h true).sub (hsub_pick [0] rfl)).mono ?_
  rintro _ _ ⟨rfl, rfl⟩
  refine ⟨_, rfl, ?_⟩
  refine LY rfl (y_minN rfl rfl) ?_
  refine LY rfl (y_move rfl) ?_
  refine LY rfl (y_build (vs := [(1, _), (2, _)]) (l := [.pointer none, .map none, .pointer none, .map none, .int .i64 (((min A.a.S.length A.b.S.length) : Nat) : Int), .func (.func f) #[] cap.toArray]) rfl pl_110 zl_110 (fill_cons (off := 4) (m := 1) (vs := [_]) rfl rfl rfl (Nat.le_of_ble_eq_true rfl) (fill_cons (off := 5) (m := 1) (vs := [_]) rfl rfl rfl (Nat.le_of_ble_eq_true rfl) rfl))) ?_
  refine L_op rfl (op_box rfl rfl rfl (fun B1 => ?_))
  refine LY rfl (y_assign rfl) (L_nil (C_seq (C_seq (C_region (LY rfl (y_move rfl) (LY rfl (y_move rfl) ?_))))))
  refine L_op rfl (op_buildSlice (vs := [(0, _), (1, _)]) rfl Try.underlying111 sz_24 zl_24 rfl (by decide) rfl rfl (fun B2 => ?_))
  refine LY rfl (y_lenS rfl rfl Try.underlying111) ?_
  refine LY rfl (y_move rfl) (L_nil (C_block ?_))
  refine C_loopIn (In_round ?_)
  refine C_seq (C_region (LY rfl (y_lss rfl rfl) (L_nil (C_seq (C_cond_t rfl (C_skip (C_seq (C_block (C_seq (C_region (LY rfl (y_move rfl) ?_)))))))))))
  refine LY rfl (y_indexS rfl rfl Try.underlying111 sz_24 (by omega) (by omega) (show _ = 0 from rfl)) ?_
  refine LY rfl (y_load rfl ag_24 (sees 0 0 rfl) rfl) (LY rfl (y_assign rfl) (LY rfl (y_assign rfl) (L_nil (C_seq (C_region (LY rfl (y_move rfl) (LY rfl (y_move rfl) (LY rfl (y_move rfl) ?_))))))))
  refine L_op rfl (op_makeMap rfl (fun B3 => ?_))
  refine LY rfl (y_build (vs := [(0, _), (1, _)]) (l := [ptr bx, .map (some B3)]) rfl pl_107 zl_107 (fill_cons (off := 0) (m := 1) (vs := [_]) rfl rfl rfl (Nat.le_of_ble_eq_true rfl) (fill_cons (off := 1) (m := 1) (vs := [_]) rfl rfl rfl (Nat.le_of_ble_eq_true rfl) rfl))) ?_
  refine LY rfl (y_nilCheck rfl) (LY rfl (y_fieldAddr rfl fl_110_0) ?_)
  refine LY rfl (y_indexA rfl rfl Try.underlying108 sz_107 (by omega) (by omega) (show _ = 0 from rfl)) ?_
  refine L_op rfl (op_store (vs := [ptr bx, .map (some B3)]) 2 0 rfl rfl rfl sz_107 rfl rfl (ones rfl) (Nat.le_of_ble_eq_true rfl) ?_)
  rw [show spl [.pointer none, .map none, .pointer none, .map none, .int .i64 (((min A.a.S.length A.b.S.length) : Nat) : Int), .func (.func f) #[] cap.toArray] 0 [ptr bx, .map (some B3)] = [ptr bx, .map (some B3), .pointer none, .map none, .int .i64 (((min A.a.S.length A.b.S.length) : Nat) : Int), .func (.func f) #[] cap.toArray] from rfl]
  refine L_nil (C_seq (C_region (LY rfl (y_assign rfl) (L_nil (C_block ?_)))))
  refine C_loop (ι := Nat) (fun j => [(7, ptr B1), (8, .int .i64 0), (10, .int .i64 (j : Int)), (21, .slice (some ⟨B2, 0, none⟩) 2 2), (22, .int .i64 2), (23, .int .i64 0)]) (fun j => [(B3, mapO (stN j) j)] :: [(B1, .cells [ptr bx, .map (some B3), .pointer none, .map none, .int .i64 (((min A.a.S.length A.b.S.length) : Nat) : Int), .func (.func f) #[] cap.toArray].toArray 110)] :: [(B2, .cells [ptr bx, ptr bys].toArray 24)] :: D.seg dt :: H) (fun j => j ≤ (min A.a.S.length A.b.S.length)) (fun j => (min A.a.S.length A.b.S.length) - j) 0 (Nat.zero_le _) ⟨rfl, rfl, rfl, rfl, rfl, rfl, trivial⟩ (hsub_pick [0, 1, 0, 0] rfl) (fun j hj => ?_)
  skip
  refine C_seq (C_seq (C_region (LY rfl (y_move rfl) (LY rfl (y_move rfl) (LY rfl (y_nilCheck rfl) (LY rfl (y_fieldAddr rfl fl_110_1) (LY rfl (y_load rfl ag_3 (sees 1 0 rfl) rfl) (LY rfl (y_lss rfl rfl) (LY rfl (y_move rfl) ?_)))))))))
  refine L_case 42 rfl (fun hg7_7 => ?_) (fun hg7_7 => ?_)
  · have hj := of_decide_eq_true hg7_7
    refine LY rfl (y_move rfl) (LY rfl (y_move rfl) (LY rfl (y_nilCheck rfl) (LY rfl (y_fieldAddr rfl fl_110_0) ?_)))
    refine LY rfl (y_indexA rfl rfl Try.underlying108 sz_107 (by omega) (by omega) (show _ = 0 from rfl)) ?_
    refine LY rfl (y_loadA rfl ag_107 sz_107 (sees 1 0 rfl) (Nat.le_of_ble_eq_true rfl) rfl) ?_
    refine L_op rfl (op_call rfl rfl (fun a w => Try.call53 a w) rfl ?_)
    refine ((there_d h false).sub (hsub_pick [3] rfl)).mono ?_
    rintro _ _ ⟨rfl, rfl⟩
    rw [hp]
    refine ⟨_, rfl, ?_⟩
    refine LY rfl (y_not rfl) (LY rfl (y_pick_t rfl rfl) (L_nil (C_cond_t rfl (C_skip (C_seq (C_block (C_region (LY rfl (y_move rfl) (LY rfl (y_move rfl) (LY rfl (y_nilCheck rfl) (LY rfl (y_fieldAddr rfl fl_110_0) ?_)))))))))))
    refine LY rfl (y_indexA rfl rfl Try.underlying108 sz_107 (by omega) (by omega) (show _ = 0 from rfl)) ?_
    refine LY rfl (y_fieldAddr rfl fl_107_1) (LY rfl (y_load rfl ag_105 (sees 2 0 rfl) rfl) (LY rfl (y_move rfl) ?_))
    refine L_op rfl (op_mapUpdate 1 0 rfl rfl rfl Try.underlying105 Try.underlying3 rfl rfl ?_)
    refine L_nil (C_region (LY rfl (y_move rfl) ?_))
    refine LY rfl (y_add rfl rfl (wi64 (by omega) (by omega))) ?_
    refine LY rfl (y_assign rfl) (L_nil ?_)
    refine ⟨j + 1, by omega, by omega, ⟨rfl, rfl, rfl, rfl, rfl, rfl, trivial⟩, ?_⟩
    rw [← (stN_put j).1, show mapO (kPut (stN j) j (j : Int)) (j + 1) = mapO (kPut (stN j) j (j : Int)) (kClk (stN j) j (j : Int)) from by rw [(stN_put j).2]]
    exact ((hsub (.cons_cons _ (.cons_cons _ (.cons_cons _ (.cons_cons _ (.refl _)))))).trans (hsub_pick [1, 1, 1, 0] rfl))
  · have hj := of_decide_eq_false hg7_7
    refine L_skip rfl rfl (L_skip rfl rfl (L_skip rfl rfl (L_skip rfl rfl (L_skip rfl rfl (L_skip rfl rfl (L_skip rfl rfl (L_skip rfl rfl (LY rfl (y_pick_f rfl rfl) (L_nil (C_cond_f rfl (C_exit ?_)))))))))))
    obtain rfl : j = (min A.a.S.length A.b.S.length) := by omega
    refine C_region ?_
    refine LY rfl (y_add rfl rfl (show _ = (1 : Int) from rfl)) ?_
    refine LY rfl (y_move rfl) (L_nil ?_)
    refine In_round ?_
    refine C_seq (C_region (LY rfl (y_lss rfl rfl) (L_nil (C_seq (C_cond_t rfl (C_skip (C_seq (C_block (C_seq (C_region (LY rfl (y_move rfl) ?_)))))))))))
    refine LY rfl (y_indexS rfl rfl Try.underlying111 sz_24 (by omega) (by omega) (show _ = 1 from rfl)) ?_
    refine LY rfl (y_load rfl ag_24 (sees 2 0 rfl) rfl) (LY rfl (y_assign rfl) (LY rfl (y_assign rfl) (L_nil (C_seq (C_region (LY rfl (y_move rfl) (LY rfl (y_move rfl) (LY rfl (y_move rfl) ?_))))))))
    refine L_op rfl (op_makeMap rfl (fun B4 => ?_))
    refine LY rfl (y_build (vs := [(0, _), (1, _)]) (l := [ptr bys, .map (some B4)]) rfl pl_107 zl_107 (fill_cons (off := 0) (m := 1) (vs := [_]) rfl rfl rfl (Nat.le_of_ble_eq_true rfl) (fill_cons (off := 1) (m := 1) (vs := [_]) rfl rfl rfl (Nat.le_of_ble_eq_true rfl) rfl))) ?_
    refine LY rfl (y_nilCheck rfl) (LY rfl (y_fieldAddr rfl fl_110_0) ?_)
    refine LY rfl (y_indexA rfl rfl Try.underlying108 sz_107 (by omega) (by omega) (show _ = 2 from rfl)) ?_
    refine L_op rfl (op_store (vs := [ptr bys, .map (some B4)]) 2 0 rfl rfl rfl sz_107 rfl rfl (ones rfl) (Nat.le_of_ble_eq_true rfl) ?_)
    rw [show spl [ptr bx, .map (some B3), .pointer none, .map none, .int .i64 (((min A.a.S.length A.b.S.length) : Nat) : Int), .func (.func f) #[] cap.toArray] 2 [ptr bys, .map (some B4)] = [ptr bx, .map (some B3), ptr bys, .map (some B4), .int .i64 (((min A.a.S.length A.b.S.length) : Nat) : Int), .func (.func f) #[] cap.toArray] from rfl]
    refine L_nil (C_seq (C_region (LY rfl (y_assign rfl) (L_nil (C_block ?_)))))
    refine C_loop (ι := Nat) (fun j => [(7, ptr B1), (8, .int .i64 1), (10, .int .i64 (j : Int)), (21, .slice (some ⟨B2, 0, none⟩) 2 2), (22, .int .i64 2), (23, .int .i64 1)]) (fun j => [(B4, mapO (stN j) j)] :: [(B1, .cells [ptr bx, .map (some B3), ptr bys, .map (some B4), .int .i64 (((min A.a.S.length A.b.S.length) : Nat) : Int), .func (.func f) #[] cap.toArray].toArray 110)] :: [(B2, .cells [ptr bx, ptr bys].toArray 24)] :: D.seg dt :: [(B3, mapO (stale0 false (min A.a.S.length A.b.S.length)) (if false then 0 else (min A.a.S.length A.b.S.length)))] :: H) (fun j => j ≤ (min A.a.S.length A.b.S.length)) (fun j => (min A.a.S.length A.b.S.length) - j) 0 (Nat.zero_le _) ⟨rfl, rfl, rfl, rfl, rfl, rfl, trivial⟩ (hsub_pick [0, 1, 1, 1, 0] rfl) (fun j hj => ?_)
    skip
    refine C_seq (C_seq (C_region (LY rfl (y_move rfl) (LY rfl (y_move rfl) (LY rfl (y_nilCheck rfl) (LY rfl (y_fieldAddr rfl fl_110_1) (LY rfl (y_load rfl ag_3 (sees 1 0 rfl) rfl) (LY rfl (y_lss rfl rfl) (LY rfl (y_move rfl) ?_)))))))))
    refine L_case 42 rfl (fun hg7_7 => ?_) (fun hg7_7 => ?_)
    · have hj := of_decide_eq_true hg7_7
      refine LY rfl (y_move rfl) (LY rfl (y_move rfl) (LY rfl (y_nilCheck rfl) (LY rfl (y_fieldAddr rfl fl_110_0) ?_)))
      refine LY rfl (y_indexA rfl rfl Try.underlying108 sz_107 (by omega) (by omega) (show _ = 2 from rfl)) ?_
      refine LY rfl (y_loadA rfl ag_107 sz_107 (sees 1 0 rfl) (Nat.le_of_ble_eq_true rfl) rfl) ?_
      refine L_op rfl (op_call rfl rfl (fun a w => Try.call53 a w) rfl ?_)
      refine ((there_d h true).sub (hsub_pick [3] rfl)).mono ?_
      rintro _ _ ⟨rfl, rfl⟩
      rw [hq]
      refine ⟨_, rfl, ?_⟩
      refine LY rfl (y_not rfl) (LY rfl (y_pick_t rfl rfl) (L_nil (C_cond_t rfl (C_skip (C_seq (C_block (C_region (LY rfl (y_move rfl) (LY rfl (y_move rfl) (LY rfl (y_nilCheck rfl) (LY rfl (y_fieldAddr rfl fl_110_0) ?_)))))))))))
      refine LY rfl (y_indexA rfl rfl Try.underlying108 sz_107 (by omega) (by omega) (show _ = 2 from rfl)) ?_
      refine LY rfl (y_fieldAddr rfl fl_107_1) (LY rfl (y_load rfl ag_105 (sees 2 0 rfl) rfl) (LY rfl (y_move rfl) ?_))
      refine L_op rfl (op_mapUpdate 1 0 rfl rfl rfl Try.underlying105 Try.underlying3 rfl rfl ?_)
      refine L_nil (C_region (LY rfl (y_move rfl) ?_))
      refine LY rfl (y_add rfl rfl (wi64 (by omega) (by omega))) ?_
      refine LY rfl (y_assign rfl) (L_nil ?_)
      refine ⟨j + 1, by omega, by omega, ⟨rfl, rfl, rfl, rfl, rfl, rfl, trivial⟩, ?_⟩
      rw [← (stN_put j).1, show mapO (kPut (stN j) j (j : Int)) (j + 1) = mapO (kPut (stN j) j (j : Int)) (kClk (stN j) j (j : Int)) from by rw [(stN_put j).2]]
      exact ((hsub (.cons_cons _ (.cons_cons _ (.cons_cons _ (.cons_cons _ (.cons_cons _ (.refl _))))))).trans (hsub_pick [1, 1, 1, 0, 0] rfl))
    · have hj := of_decide_eq_false hg7_7
      refine L_skip rfl rfl (L_skip rfl rfl (L_skip rfl rfl (L_skip rfl rfl (L_skip rfl rfl (L_skip rfl rfl (L_skip rfl rfl (L_skip rfl rfl (LY rfl (y_pick_f rfl rfl) (L_nil (C_cond_f rfl (C_exit ?_)))))))))))
      obtain rfl : j = (min A.a.S.length A.b.S.length) := by omega
      refine C_region ?_
      refine LY rfl (y_add rfl rfl (show _ = (2 : Int) from rfl)) ?_
      refine LY rfl (y_move rfl) (L_nil ?_)
      refine In_round ?_
      refine C_seq (C_region (LY rfl (y_lss rfl rfl) (L_nil (C_seq (C_cond_f rfl (C_exit (C_seq (C_region (LY rfl (y_move rfl) (LY rfl (y_assign rfl) (L_nil (C_ret ?_))))))))))))
      refine B_ret (rv_tmp rfl rv_nil) ((hsub_flat (H := [_] :: [_] :: [_] :: D.seg dt :: H) (H' := Mi.seg 110 ⟨B1, B3, B4, bx, bys, (min A.a.S.length A.b.S.length), .func (.func f) #[] cap.toArray, stale0 false (min A.a.S.length A.b.S.length), (if false then 0 else (min A.a.S.length A.b.S.length)), stale0 false (min A.a.S.length A.b.S.length), (if false then 0 else (min A.a.S.length A.b.S.length))⟩ :: D.seg dt :: H) rfl).trans ((hsub (.cons_cons _ (.cons_cons _ (.cons_cons _ (.cons_cons _ (.cons _ (.refl _))))))).trans (hsub_pick [1, 3, 0, 1] rfl))) ?_
      exact ⟨B1, B3, B4, rfl, by simp only [mnew, stale0, hp, hq] <;> rfl⟩

theorem mnew_fn {w0 : World} {H : Hp} {f : Nat} {cap : List Value} {D : Duo} {A : Da} {bx bys bp : Nat} (h : Two dt D A bx bys bp) : FnS Try.prog w0 17 #[ptr bx, ptr bys, .func (.func f) #[] cap.toArray] (D.seg dt :: H) (fun e H' => ∃ b r0 r1, e = .returned (ptr b) ∧ H' = (mnew A bx bys (.func (.func f) #[] cap.toArray) b r0 r1).seg 110 :: D.seg dt :: H) := by
  cases hp : thr A false <;> cases hq : thr A true
  · exact new_fn_ff h hp hq
  · exact new_fn_ft h hp hq
  · exact new_fn_tf h hp hq
  · exact new_fn_tt h hp hq

end Go.Proofs.Ytjjiclgbdenkkaa

/- walks (own work; the walks' lines by a program of this repo). -/
set_option linter.unusedVariables false
set_option linter.unusedSimpArgs false
set_option maxRecDepth 20000
namespace Go.Proofs.Ytjjiclgbdenkkaa
open Go.Sl
attribute [local irreducible] BodyQ WpC WpL WpS WpH OpW FnS


theorem write_r {w0 : World} {H : Hp} {gv : Value} {D : Duo} {A : Da} {m : Mi} {r : Rm} {K k0 k1 mb bx bys bp : Nat} (h : Mq dt gv D A m r K k0 k1 mb bx bys bp) (n : Int) (s : Sec) (hs : s.length = 128) (h0 : k0 < 99990) (h1 : k1 < 99990) : FnS Try.prog w0 19 #[ptr mb, .int .i64 n, .agg (bs s).toArray] (m.seg 110 :: D.seg dt :: H) (fun e H' => e = .returned (.int .i64 (r.writeE n)) ∧ ∃ D' A' m', Mq dt gv D' A' m' (r.write n s) K (k0 + 1) (k1 + 1) mb bx bys bp ∧ H' = m'.seg 110 :: D'.seg dt :: H) := by
  obtain ⟨e, v⟩ := h.rel.put (ask := askAll) n hs (askrel_all n s)
  have hq : ∀ i, (A.dev i).Q.length < 99990 := fun i => Nat.lt_of_le_of_lt (h.many (c := 99989) (by omega) (by omega) i) (by decide)
  have := mwrite_m (w0 := w0) (H := H) h.two2 n s hs hq
  rw [e, h.mb] at this
  refine this.mono ?_
  rintro _ _ ⟨rfl, D', hT', rfl⟩
  exact ⟨rfl, D', _, _, h.with hT' v (putm_same _ _ _ _ _), rfl⟩

theorem choose_r {w0 : World} {H : Hp} {gv : Value} {D : Duo} {A : Da} {m : Mi} {r : Rm} {K k0 k1 mb bx bys bp : Nat} (h : Mq dt gv D A m r K k0 k1 mb bx bys bp) (n : Int) (s : Sec) (hs : s.length = 128) (h0 : k0 < 99990) (h1 : k1 < 99990) : FnS Try.prog w0 31 #[ptr mb, .int .i64 n, .agg (bs s).toArray] (m.seg 110 :: D.seg dt :: H) (fun e H' => e = .returned (.int .i64 (r.writeE n)) ∧ ∃ D' A' m', Mq dt gv D' A' m' (r.write n s) K (k0 + 1) (k1 + 1) mb bx bys bp ∧ H' = m'.seg 110 :: D'.seg dt :: H) := by
  obtain ⟨e, v⟩ := h.rel.put (ask := (askNew n s)) n hs (askrel_new n s)
  have hq : ∀ i, (A.dev i).Q.length < 99990 := fun i => Nat.lt_of_le_of_lt (h.many (c := 99989) (by omega) (by omega) i) (by decide)
  have := mchoose_m (w0 := w0) (H := H) h.two2 n s hs hq
  rw [e, h.mb] at this
  refine this.mono ?_
  rintro _ _ ⟨rfl, D', hT', rfl⟩
  exact ⟨rfl, D', _, _, h.with hT' v (putm_same _ _ _ _ _), rfl⟩

theorem flush_r {w0 : World} {H : Hp} {gv : Value} {D : Duo} {A : Da} {m : Mi} {r : Rm} {K k0 k1 mb bx bys bp : Nat} (h : Mq dt gv D A m r K k0 k1 mb bx bys bp) : FnS Try.prog w0 21 #[ptr mb] (m.seg 110 :: D.seg dt :: H) (fun e H' => e = .returned (.int .i64 (if r.x.o && r.y.o then 13 else 0)) ∧ ∃ D' A' m', Mq dt gv D' A' m' r K 0 0 mb bx bys bp ∧ H' = m'.seg 110 :: D'.seg dt :: H) := by
  obtain ⟨e, v⟩ := h.rel.mfl
  have := mflush_m (w0 := w0) (H := H) h.two2
  rw [e, h.mb] at this
  refine this.mono ?_
  rintro _ _ ⟨rfl, D', hT', rfl⟩
  exact ⟨rfl, D', _, _, h.with hT' v ⟨rfl, rfl, rfl, rfl⟩, rfl⟩

theorem read_r {w0 : World} {H : Hp} {gv : Value} {D : Duo} {A : Da} {m : Mi} {r : Rm} {K k0 k1 mb bx bys bp : Nat} (h : Mq dt gv D A m r K k0 k1 mb bx bys bp) {p : Int → Sec → Bool} (hG : GoodAt Try.prog w0 H gv p) (n : Int) : FnS Try.prog w0 22 #[ptr mb, .int .i64 n] (m.seg 110 :: D.seg dt :: H) (fun e H' => e = .returned (.tuple #[.agg (bs (r.readS p n)).toArray, .int .i64 (r.readE p n)]) ∧ H' = m.seg 110 :: D.seg dt :: H) := by
  have := mread_m (w0 := w0) (H := H) h.two2 (p := p) (by rw [h.gv]; exact hG) n
  rw [(h.rel.read n).1, (h.rel.read n).2, h.mb] at this
  exact this

theorem heal_r {w0 : World} {H : Hp} {gv : Value} {D : Duo} {A : Da} {m : Mi} {r : Rm} {K k0 k1 mb bx bys bp : Nat} (h : Mq dt gv D A m r K k0 k1 mb bx bys bp) {p : Int → Sec → Bool} (hG : GoodAt Try.prog w0 H gv p) (n : Int) (h0 : k0 < 99990) (h1 : k1 < 99990) : FnS Try.prog w0 23 #[ptr mb, .int .i64 n] (m.seg 110 :: D.seg dt :: H) (fun e H' => e = .returned (.tuple #[.int .i64 (r.healR p n).1, .int .i64 (r.healR p n).2]) ∧ ∃ D' A' m', Mq dt gv D' A' m' (r.heal p n) K (k0 + 1) (k1 + 1) mb bx bys bp ∧ H' = m'.seg 110 :: D'.seg dt :: H) := by
  obtain ⟨e, v⟩ := h.rel.heal (p := p) n
  have hq : ∀ i, (A.dev i).Q.length < 99990 := fun i => Nat.lt_of_le_of_lt (h.many (c := 99989) (by omega) (by omega) i) (by decide)
  have := heal_m (w0 := w0) (H := H) h.two2 (p := p) (by rw [h.gv]; exact hG) n hq
  rw [e, h.mb] at this
  refine this.mono ?_
  rintro _ _ ⟨rfl, D', hT', rfl⟩
  exact ⟨rfl, D', _, _, h.with hT' v (healM_same2 _ _ _ _), rfl⟩

theorem both_r {w0 : World} {H : Hp} {gv : Value} {D : Duo} {A : Da} {m : Mi} {r : Rm} {K k0 k1 mb bx bys bp : Nat} (h : Mq dt gv D A m r K k0 k1 mb bx bys bp) {p : Int → Sec → Bool} (hG : GoodAt Try.prog w0 H gv p) (n : Int) : FnS Try.prog w0 25 #[ptr mb, .int .i64 n] (m.seg 110 :: D.seg dt :: H) (fun e H' => ∃ g, slOk 128 g (r.both p n).length (bs (r.both p n).flatten) ∧ e = .returned (slV g (r.both p n).length) ∧ H' = slSeg 32 g (bs (r.both p n).flatten) :: m.seg 110 :: D.seg dt :: H) := by
  have := both_m (w0 := w0) (H := H) h.two2 (p := p) (by rw [h.gv]; exact hG) n
  rw [h.rel.both n, h.mb] at this
  exact this

theorem sync_r {w0 : World} {H : Hp} {gv : Value} {D : Duo} {A : Da} {m : Mi} {r : Rm} {K k0 k1 mb bx bys bp : Nat} (h : Mq dt gv D A m r K k0 k1 mb bx bys bp) {p : Int → Sec → Bool} (hG : GoodAt Try.prog w0 H gv p) (h0 : k0 ≤ 50000) (h1 : k1 ≤ 50000) (hK : K ≤ 4096) : FnS Try.prog w0 32 #[ptr mb] (m.seg 110 :: D.seg dt :: H) (fun e H' => e = .returned (.int .i64 (r.syncE p)) ∧ ∃ D' A' m', Mq dt gv D' A' m' (r.sync p) K k0 k1 mb bx bys bp ∧ H' = m'.seg 110 :: D'.seg dt :: H) := by
  obtain ⟨e, v⟩ := h.rel.sync (p := p)
  obtain ⟨c1, c2, c3, c4⟩ := h.rel.cnts
  have hn := h.rel.n
  have := sync_m (w0 := w0) (H := H) h.two2 (p := p) (by rw [h.gv]; exact hG) (h.many h0 h1) (by omega) (by omega)
  rw [e, h.mb] at this
  refine this.mono ?_
  rintro _ _ ⟨rfl, D', hT', rfl⟩
  exact ⟨rfl, D', _, _, h.with hT' v (syncM_same _ _ _), rfl⟩

theorem stale_r {w0 : World} {H : Hp} {gv : Value} {D : Duo} {A : Da} {m : Mi} {r : Rm} {K k0 k1 mb bx bys bp : Nat} (h : Mq dt gv D A m r K k0 k1 mb bx bys bp) : FnS Try.prog w0 35 #[ptr mb] (m.seg 110 :: H) (fun e H' => e = .returned (.tuple #[.int .i64 (r.x.cnt : Int), .int .i64 (r.y.cnt : Int)]) ∧ H' = m.seg 110 :: H) := by
  obtain ⟨c1, c2, _⟩ := h.rel.cnts
  have := stale_m (w0 := w0) (H := H) (m := m)
  rw [c1, c2, h.mb] at this
  exact this

theorem out_r {w0 : World} {H : Hp} {gv : Value} {D : Duo} {A : Da} {m : Mi} {r : Rm} {K mb bx bys bp : Nat} (h : Mq dt gv D A m r K 0 0 mb bx bys bp) (i on : Bool) : FnS Try.prog w0 33 #[ptr (sel bx bys i), .bool on] (D.seg dt :: H) (fun e H' => e = .returned (.tuple #[]) ∧ ∃ D' A', Mq dt gv D' A' m (r.outs i on) K 0 0 mb bx bys bp ∧ H' = D'.seg dt :: H) := by
  refine (out_d h.two i on).mono ?_
  rintro _ _ ⟨rfl, D', hT', rfl⟩
  exact ⟨rfl, D', _, ⟨hT', h.rel.outs i on, h.mb, h.bx, h.bys, h.gv⟩, rfl⟩

theorem rot_r {w0 : World} {H : Hp} {gv : Value} {D : Duo} {A : Da} {m : Mi} {r : Rm} {K mb bx bys bp : Nat} (h : Mq dt gv D A m r K 0 0 mb bx bys bp) (i : Bool) (n : Int) {j : Nat} {c : UInt8} (hj : j < 128) : FnS Try.prog w0 34 #[ptr (sel bx bys i), .int .i64 n, .int .i64 (j : Int), .int .u8 (c.toNat : Int)] (D.seg dt :: H) (fun e H' => e = .returned (.bool (r.has n)) ∧ ∃ D' A', Mq dt gv D' A' m (r.rot i n j c) K 0 0 mb bx bys bp ∧ H' = D'.seg dt :: H) := by
  obtain ⟨e, v⟩ := h.rel.rot i n (c := c) hj
  refine (rot_d h.two i n (j : Int) c).mono ?_
  rintro _ _ ⟨rfl, D', hT', rfl⟩
  rw [e]
  exact ⟨rfl, D', _, ⟨hT', v, h.mb, h.bx, h.bys, h.gv⟩, rfl⟩

theorem new_r {w0 : World} {H : Hp} {f : Nat} {cap : List Value} {D : Duo} {A : Da} {K bx bys bp : Nat} {a b : Bool} (hT : Two dt D A bx bys bp) (hK : K ≤ 4096) (hc : A.calm) (hx : A.a = (Ab.new K).outs a) (hy : A.b = (Ab.new K).outs b) : FnS Try.prog w0 17 #[ptr bx, ptr bys, .func (.func f) #[] cap.toArray] (D.seg dt :: H) (fun e H' => ∃ mb m, Mq dt (.func (.func f) #[] cap.toArray) D A m (Rm.new K a b) K 0 0 mb bx bys bp ∧ e = .returned (ptr mb) ∧ H' = m.seg 110 :: D.seg dt :: H) := by
  refine (mnew_fn hT).mono ?_
  rintro _ _ ⟨mb, r0, r1, rfl, rfl⟩
  exact ⟨mb, _, ⟨hT, Rel.new hK hc hx hy bx bys _ mb r0 r1, rfl, rfl, rfl, rfl⟩, rfl, rfl⟩

end Go.Proofs.Ytjjiclgbdenkkaa

/- walks (own work; the walks' lines by a program of this repo). -/
set_option linter.unusedVariables false
set_option linter.unusedSimpArgs false
set_option maxRecDepth 20000
namespace Go.Proofs.Ytjjiclgbdenkkaa
open Go.Sl
attribute [local irreducible] BodyQ WpC WpL WpS WpH OpW FnS


theorem write_v {w0 : World} {H : Hp} {gv : Value} {D : Duo} {A : Da} {m : Mi} {K : Nat} {X Y : List Sec} {k0 k1 mb bx bys bp : Nat} (h : Ms dt gv D A m K X Y k0 k1 mb bx bys bp) {n : Nat} {s : Sec} (hn : n < K) (hs : s.length = 128) (h0 : k0 < 99990) (h1 : k1 < 99990) : FnS Try.prog w0 19 #[ptr mb, .int .i64 (n : Int), .agg (bs s).toArray] (m.seg 110 :: D.seg dt :: H) (fun e H' => e = .returned (.int .i64 0) ∧ ∃ D' A', Ms dt gv D' A' m K (X.set n s) (Y.set n s) (k0 + 1) (k1 + 1) mb bx bys bp ∧ H' = m.seg 110 :: D'.seg dt :: H) := by
  have hT : Two dt D A m.bx m.bys bp := by rw [h.bx, h.bys]; exact h.two
  obtain ⟨e0, e1, v⟩ := h.vw.put (m := m) h.n h.s0 h.s1 hn hs (askok_all K n s)
  have hq : ∀ i, (A.dev i).Q.length < 99990 := fun i => by cases i; exact Nat.lt_of_le_of_lt (h.vw.dev false).many h0; exact Nat.lt_of_le_of_lt (h.vw.dev true).many h1
  have := mwrite_m (w0 := w0) (H := H) hT (n : Int) s hs hq
  rw [e0, e1, h.mb, h.bx, h.bys] at this
  refine this.mono ?_
  rintro _ _ ⟨rfl, D', hT', rfl⟩
  exact ⟨rfl, D', _, h.with hT' v (set_ok2 h.okX hs) (set_ok2 h.okY hs), rfl⟩

theorem flush_v {w0 : World} {H : Hp} {gv : Value} {D : Duo} {A : Da} {m : Mi} {K : Nat} {X Y : List Sec} {k0 k1 mb bx bys bp : Nat} (h : Ms dt gv D A m K X Y k0 k1 mb bx bys bp) : FnS Try.prog w0 21 #[ptr mb] (m.seg 110 :: D.seg dt :: H) (fun e H' => e = .returned (.int .i64 0) ∧ ∃ D' A', Ms dt gv D' A' m K X Y 0 0 mb bx bys bp ∧ H' = m.seg 110 :: D'.seg dt :: H) := by
  have hT : Two dt D A m.bx m.bys bp := by rw [h.bx, h.bys]; exact h.two
  obtain ⟨e0, v⟩ := h.vw.mfl
  have := mflush_m (w0 := w0) (H := H) hT
  rw [e0, h.mb, h.bx, h.bys] at this
  refine this.mono ?_
  rintro _ _ ⟨rfl, D', hT', rfl⟩
  exact ⟨rfl, D', _, h.with hT' v h.okX h.okY, rfl⟩

end Go.Proofs.Ytjjiclgbdenkkaa

/- walks (own work; the walks' lines by a program of this repo). -/
set_option linter.unusedVariables false
set_option linter.unusedSimpArgs false
set_option maxRecDepth 20000
namespace Go.Proofs.Ytjjiclgbdenkkaa
open Go.Sl
attribute [local irreducible] BodyQ WpC WpL WpS WpH OpW FnS


theorem new_v {w0 : World} {H : Hp} {f : Nat} {cap : List Value} {D : Duo} {A : Da} {K : Nat} {X Y : List Sec} {k0 k1 bx bys bp : Nat} (hT : Two dt D A bx bys bp) (hv : Vw A K X Y k0 k1) (hX : ∀ s ∈ X, s.length = 128) (hY : ∀ s ∈ Y, s.length = 128) : FnS Try.prog w0 17 #[ptr bx, ptr bys, .func (.func f) #[] cap.toArray] (D.seg dt :: H) (fun e H' => ∃ mb m, Ms dt (.func (.func f) #[] cap.toArray) D A m K X Y k0 k1 mb bx bys bp ∧ e = .returned (ptr mb) ∧ H' = m.seg 110 :: D.seg dt :: H) := by
  refine (mnew_fn hT).mono ?_
  rintro _ _ ⟨b, r0, r1, rfl, rfl⟩
  exact ⟨b, _, Ms.new hT hv b r0 r1 hX hY, rfl, rfl⟩

end Go.Proofs.Ytjjiclgbdenkkaa

/- walks (own work; the walks' lines by a program of this repo). -/
set_option linter.unusedVariables false
set_option linter.unusedSimpArgs false
set_option maxRecDepth 20000
namespace Go.Proofs.Ytjjiclgbdenkkaa
open Go.Sl
attribute [local irreducible] BodyQ WpC WpL WpS WpH OpW FnS


theorem readg_v {w0 : World} {H : Hp} {gv : Value} {D : Duo} {A : Da} {m : Mi} {K : Nat} {X Y : List Sec} {k0 k1 mb bx bys bp : Nat} (h : Ms dt gv D A m K X Y k0 k1 mb bx bys bp) {p : Int → Sec → Bool} (hG : GoodAt Try.prog w0 H gv p) {n : Nat} {s t : Sec} (hs : X[n]? = some s) (ht : Y[n]? = some t) : FnS Try.prog w0 22 #[ptr mb, .int .i64 (n : Int)] (m.seg 110 :: D.seg dt :: H) (fun e H' => e = .returned (.tuple #[.agg (bs (rdv p n s t)).toArray, .int .i64 (rde p n s t)]) ∧ H' = m.seg 110 :: D.seg dt :: H) := by
  have hT : Two dt D A m.bx m.bys bp := by rw [h.bx, h.bys]; exact h.two
  have := mread_m (w0 := w0) (H := H) hT (p := p) (by rw [h.gv]; exact hG) (n : Int)
  rw [(h.rd hs ht).1, (h.rd hs ht).2, h.mb] at this
  exact this

end Go.Proofs.Ytjjiclgbdenkkaa

/- walks (own work; the walks' lines by a program of this repo). -/
set_option linter.unusedVariables false
set_option linter.unusedSimpArgs false
set_option maxRecDepth 20000
namespace Go.Proofs.Ytjjiclgbdenkkaa
open Go.Sl
attribute [local irreducible] BodyQ WpC WpL WpS WpH OpW FnS


theorem healg_v {w0 : World} {H : Hp} {gv : Value} {D : Duo} {A : Da} {m : Mi} {K : Nat} {X Y : List Sec} {k0 k1 mb bx bys bp : Nat} (h : Ms dt gv D A m K X Y k0 k1 mb bx bys bp) {p : Int → Sec → Bool} (hG : GoodAt Try.prog w0 H gv p) {n : Nat} {s t : Sec} (hs : X[n]? = some s) (ht : Y[n]? = some t) (h0 : k0 < 99990) (h1 : k1 < 99990) : FnS Try.prog w0 23 #[ptr mb, .int .i64 (n : Int)] (m.seg 110 :: D.seg dt :: H) (fun e H' => e = .returned (.tuple #[.int .i64 (hC p n s t), .int .i64 0]) ∧ ∃ D' A' m', Ms dt gv D' A' m' K (X.set n (hX p n s t)) (Y.set n (hY p n s t)) (k0 + 1) (k1 + 1) mb bx bys bp ∧ H' = m'.seg 110 :: D'.seg dt :: H) := by
  have hT : Two dt D A m.bx m.bys bp := by rw [h.bx, h.bys]; exact h.two
  have hq : ∀ i, (A.dev i).Q.length < 99990 := fun i => by cases i; exact Nat.lt_of_le_of_lt (h.vw.dev false).many h0; exact Nat.lt_of_le_of_lt (h.vw.dev true).many h1
  have ls := h.okX s (List.mem_of_getElem? hs)
  have lt := h.okY t (List.mem_of_getElem? ht)
  obtain ⟨r, z0, z1, v⟩ := h.vw.heal (p := p) h.n h.s0 h.s1 hs ht ls lt
  have := heal_m (w0 := w0) (H := H) hT (p := p) (by rw [h.gv]; exact hG) (n : Int) hq
  rw [r, h.mb] at this
  refine this.mono ?_
  rintro _ _ ⟨rfl, D', hT', rfl⟩
  obtain ⟨q1, q2, q3, q4, q5⟩ := healM_same m A p n
  rw [h.bx, h.bys] at hT'
  exact ⟨rfl, D', _, _, ⟨hT', v, q1.trans h.mb, q2.trans h.bx, q3.trans h.bys, q4.trans h.n, z0, z1, q5.trans h.gv, set_ok2 h.okX (hX_len ls lt), set_ok2 h.okY (hY_len ls lt)⟩, rfl⟩

end Go.Proofs.Ytjjiclgbdenkkaa

/- walks (own work; the walks' lines by a program of this repo). -/
set_option linter.unusedVariables false
set_option linter.unusedSimpArgs false
set_option maxRecDepth 20000
namespace Go.Proofs.Ytjjiclgbdenkkaa
open Go.Sl
attribute [local irreducible] BodyQ WpC WpL WpS WpH OpW FnS


theorem rotg_v {w0 : World} {H : Hp} {gv : Value} {D : Duo} {A : Da} {m : Mi} {K : Nat} {X Y : List Sec} {mb bx bys bp : Nat} (h : Ms dt gv D A m K X Y 0 0 mb bx bys bp) (i : Bool) {n j : Nat} {s : Sec} {c : UInt8} (hs : (pick2 i X Y)[n]? = some s) (hj : j < 128) : FnS Try.prog w0 34 #[ptr (sel bx bys i), .int .i64 (n : Int), .int .i64 (j : Int), .int .u8 (c.toNat : Int)] (D.seg dt :: H) (fun e H' => e = .returned (.bool true) ∧ ∃ D' A', Ms dt gv D' A' m K (if i then X else X.set n (rotB s j c)) (if i then Y.set n (rotB s j c) else Y) 0 0 mb bx bys bp ∧ H' = D'.seg dt :: H) := by
  obtain ⟨e, v⟩ := h.vw.rot (c := c) hs hj
  refine (rot_d h.two i (n : Int) (j : Int) c).mono ?_
  rintro _ _ ⟨rfl, D', hT', rfl⟩
  rw [e]
  have ls : s.length = 128 := by cases i; exact h.okX s (List.mem_of_getElem? hs); exact h.okY s (List.mem_of_getElem? hs)
  refine ⟨rfl, D', _, h.with hT' v ?_ ?_, rfl⟩
  · cases i
    · exact set_ok2 h.okX (rotB_len.trans ls)
    · exact h.okX
  · cases i
    · exact h.okY
    · exact set_ok2 h.okY (rotB_len.trans ls)

end Go.Proofs.Ytjjiclgbdenkkaa

/- walks (own work; the walks' lines by a program of this repo). -/
set_option linter.unusedVariables false
set_option linter.unusedSimpArgs false
set_option maxRecDepth 20000
namespace Go.Proofs.Ytjjiclgbdenkkaa
open Go.Sl
attribute [local irreducible] BodyQ WpC WpL WpS WpH OpW FnS


theorem sector3_s {w0 : World} {H : Hp} (x y : UInt8) : FnS Try.prog w0 20 #[.int .u8 (x.toNat : Int), .int .u8 (y.toNat : Int)] H (fun e H' => e = .returned (.agg (bs (sec3 x y 9)).toArray) ∧ H' = H) := by
  refine FnS_intro (n := 8) (rs := [.cell 4 32]) (vs := [.int .u8 (x.toNat : Int), .int .u8 (y.toNat : Int)]) Try.func20 rfl Try.ntmps20 rfl rfl ?_
  refine C_seq (C_region ?_)
  refine L_op rfl (op_alloc zl_32 rfl (fun B1 => ?_))
  refine L_nil (C_seq (C_region (LY rfl (y_move rfl) (LY rfl (y_move rfl) ?_))))
  refine LY rfl (y_buildA (vs := [(0, _), (1, _), (2, _)]) (l := bs (sec3 x y 9)) rfl Try.underlying32 sz_5 zl_32 (by rw [sec3_fill]; exact (fill_cons (off := 0) (m := 1) (vs := [_]) rfl rfl rfl (Nat.le_of_ble_eq_true rfl) (fill_cons (off := 1) (m := 1) (vs := [_]) rfl rfl rfl (Nat.le_of_ble_eq_true rfl) (fill_cons (off := 2) (m := 1) (vs := [_]) rfl rfl rfl (Nat.le_of_ble_eq_true rfl) rfl))))) ?_
  refine L_op rfl (op_storeA 0 0 rfl rfl rfl sz_32 (by rw [bs_length, sec3_len]) rfl (bs_one _) (by simp) ?_)
  refine L_nil (C_ret ?_)
  refine B_ret (rv_cellA rfl ag_32 sz_32 (sees 0 0 rfl) (Nat.le_of_ble_eq_true rfl) rfl rv_nil) (hsub (.cons _ (.refl _))) ?_
  exact ⟨rfl, rfl⟩

theorem awake09_s {w0 : World} {H : Hp} : FnS Try.prog w0 15 #[] H (fun e H' => e = .returned (.bool true) ∧ H' = H) := by
  refine FnS_intro (n := 56) (rs := [.tmp 0]) (vs := []) Try.func15 rfl Try.ntmps15 rfl rfl ?_
  refine C_seq (C_region (LY rfl (y_assign rfl) (L_nil (C_seq (C_region ?_)))))
  refine L_op rfl (op_call rfl rfl (fun a w => Try.call16 a w) rfl ?_)
  refine (new_ln 5).mono ?_
  rintro _ _ ⟨d91, p91, hG91, ha91, hP91, rfl, rfl⟩
  have hA91 : d91.a = Ab.new 5 := by rw [ha91] <;> (rfl)
  have hb91 : d91.b = d91.b := rfl
  refine ⟨_, rfl, ?_⟩
  refine L_op rfl (op_call rfl rfl (fun a w => Try.call16 a w) rfl ?_)
  refine ((newnil_d hG91 rfl 5).sub (hsub_pick [0, 0, 0, 0, 0] rfl)).mono ?_
  rintro _ _ ⟨by81, D81, h81, rfl, rfl⟩
  replace h81 := h81.to (B := ⟨Ab.new 5, Ab.new 5, q0, some q0⟩) (by rw [hA91, hP91] <;> (rfl))
  have hv1 : Vw ⟨Ab.new 5, Ab.new 5, q0, some q0⟩ 5 (List.replicate 5 (secOf 0)) (List.replicate 5 (secOf 0)) 0 0 := Vw.new (by omega) (some q0) (.inr rfl)
  refine ⟨_, rfl, ?_⟩
  refine LY rfl (y_assign rfl) (LY rfl (y_assign rfl) (L_nil (C_seq (C_region (LY rfl (y_move rfl) (LY rfl (y_move rfl) ?_))))))
  refine L_op rfl (op_call rfl rfl (fun a w => Try.call17 a w) rfl ?_)
  refine (FnS.sub (hsub_pick [0] rfl) (new_v (f := 18) (cap := []) h81 hv1 (fun s hs => by rw [List.eq_of_mem_replicate hs]; exact secOf_len _) (fun s hs => by rw [List.eq_of_mem_replicate hs]; exact secOf_len _))).mono ?_
  rintro _ _ ⟨mb2, m2, hS2, rfl, rfl⟩
  refine ⟨_, rfl, ?_⟩
  refine LY rfl (y_assign rfl) (L_nil (C_seq (C_region (LY rfl (y_move rfl) ?_))))
  refine L_op rfl (op_call rfl rfl (fun a w => Try.call20 a w) rfl ?_)
  refine (sector3_s 1 0).mono ?_
  rintro _ _ ⟨rfl, e⟩
  obtain rfl := e.symm
  clear e
  refine ⟨_, rfl, ?_⟩
  refine L_op rfl (op_call rfl rfl (fun a w => Try.call19 a w) rfl ?_)
  refine (FnS.sub (hsub_pick [0, 0] rfl) (write_v hS2 (n := 3) (s := (sec3 1 0 9)) (by decide) (sec3_len _ _ _) (by omega) (by omega))).mono ?_
  rintro _ _ ⟨rfl, D3, A3, hS3, rfl⟩
  refine ⟨_, rfl, ?_⟩
  refine LY rfl (y_assign rfl) (L_nil (C_seq (C_region (LY rfl (y_move rfl) ?_))))
  refine L_op rfl (op_call rfl rfl (fun a w => Try.call21 a w) rfl ?_)
  refine (FnS.sub (hsub_pick [0, 0] rfl) (flush_v hS3)).mono ?_
  rintro _ _ ⟨rfl, D4, A4, hS4, rfl⟩
  refine ⟨_, rfl, ?_⟩
  refine LY rfl (y_assign rfl) (L_nil (C_seq (C_seq (C_region (LY rfl (y_move rfl) ?_)))))
  refine L_op rfl (op_call rfl rfl (fun a w => Try.call34 a w) rfl ?_)
  refine (FnS.sub (hsub_pick [1] rfl) (rotg_v hS4 false (n := 3) (j := 0) (c := 1) (s := (sec3 1 0 9)) rfl (by decide))).mono ?_
  rintro _ _ ⟨rfl, D5, A5, hS5, rfl⟩
  simp only [Bool.false_eq_true, if_false, if_true] at hS5
  refine ⟨_, rfl, ?_⟩
  refine LY rfl (y_not rfl) (L_nil (C_cond_f rfl (C_skip (C_seq (C_region (LY rfl (y_move rfl) ?_))))))
  refine L_op rfl (op_call rfl rfl (fun a w => Try.call22 a w) rfl ?_)
  refine (FnS.sub (hsub_pick [1, 0] rfl) (readg_v hS5 good_at (n := 3) (s := (sec3 0 0 9)) (show _ = some (sec3 0 0 9) from rfl) (t := (sec3 1 0 9)) rfl)).mono ?_
  rintro _ _ ⟨e4, rfl⟩
  rw [show rdv goodP ((3 : Nat) : Int) (sec3 0 0 9) (sec3 1 0 9) = (sec3 1 0 9) from by decide +kernel, show rde goodP ((3 : Nat) : Int) (sec3 0 0 9) (sec3 1 0 9) = 0 from by decide +kernel] at e4
  obtain rfl := e4
  refine ⟨_, rfl, ?_⟩
  refine LY rfl (y_move rfl) (LY rfl (y_extract rfl rfl) (LY rfl (y_extract rfl rfl) ?_))
  refine L_op rfl (op_alloc zl_32 rfl (fun B1 => ?_))
  refine L_op rfl (op_storeA 0 0 rfl rfl rfl sz_32 (by rw [bs_length, sec3_len _ _ _]) rfl (bs_one _) (by simp) ?_)
  refine LY rfl (y_assign rfl) (L_nil (C_seq (C_region (LY rfl (y_move rfl) ?_))))
  refine L_op rfl (op_call rfl rfl (fun a w => Try.call23 a w) rfl ?_)
  refine (FnS.sub (hsub_pick [1, 1] rfl) (healg_v hS5 good_at (n := 3) (s := (sec3 0 0 9)) (show _ = some (sec3 0 0 9) from rfl) (t := (sec3 1 0 9)) rfl (by omega) (by omega))).mono ?_
  rintro _ _ ⟨e4, D6, A6, m6, hS6, rfl⟩
  rw [show hC goodP 3 (sec3 0 0 9) (sec3 1 0 9) = 1 from by decide +kernel] at e4
  obtain rfl := e4
  refine ⟨_, rfl, ?_⟩
  refine LY rfl (y_move rfl) (LY rfl (y_extract rfl rfl) (LY rfl (y_extract rfl rfl) (LY rfl (y_assign rfl) (LY rfl (y_assign rfl) (L_nil (C_seq ?_))))))
  refine C_regionH0 (by kernel_rfl) ?_
  refine HY 0 rfl (HSub.refl _) rfl (y_move rfl) ?_
  refine HY 1 rfl (HSub.refl _) rfl (y_eqi rfl rfl) ?_
  refine HY 2 rfl (HSub.refl _) rfl (y_move rfl) ?_
  refine H_case 35 rfl (fun hg9_3 => ?_) (fun hg9_3 => ?_)
  · skip
    refine HY 3 rfl (HSub.refl _) rfl (y_move rfl) ?_
    refine HY 4 rfl (HSub.refl _) rfl (y_eqi rfl rfl) ?_
    refine HY 5 rfl (HSub.refl _) rfl (y_pick_t rfl rfl) ?_
    refine HY 6 rfl (HSub.refl _) rfl (y_move rfl) ?_
    refine H_case 39 rfl (fun hg9_7 => ?_) (fun hg9_7 => ?_)
    · skip
      refine HY 7 rfl (HSub.refl _) rfl (y_move rfl) ?_
      refine HY 8 rfl (HSub.refl _) rfl (y_eqi rfl rfl) ?_
      refine HY 9 rfl (HSub.refl _) rfl (y_pick_t rfl rfl) ?_
      refine HY 10 rfl (HSub.refl _) rfl (y_move rfl) ?_
      refine H_case 43 rfl (fun hg9_11 => ?_) (fun hg9_11 => ?_)
      · skip
        refine HY 11 rfl (HSub.refl _) rfl (y_move rfl) ?_
        refine HY 12 rfl (HSub.refl _) rfl (y_eqi rfl rfl) ?_
        refine HY 13 rfl (HSub.refl _) rfl (y_pick_t rfl rfl) ?_
        refine HY 14 rfl (HSub.refl _) rfl (y_move rfl) ?_
        refine H_case 47 rfl (fun hg9_15 => ?_) (fun hg9_15 => ?_)
        · skip
          refine HY 15 rfl (HSub.refl _) rfl (y_loadA rfl ag_32 sz_32 (sees 2 0 rfl) (by rw [bs_length, sec3_len _ _ _]; decide) (bs_whole0 _ (sec3_len _ _ _))) ?_
          refine H_one 16 rfl (by kernel_rfl) rfl (op_call rfl rfl (fun a w => Try.call20 a w) rfl ?_)
          refine (sector3_s 1 0).mono ?_
          rintro _ _ ⟨rfl, e⟩
          obtain rfl := e.symm
          clear e
          refine ⟨_, rfl, ?_⟩
          refine ⟨HSub.refl _, ?_⟩
          refine HY 17 rfl (HSub.refl _) rfl (y_eqa rfl rfl Try.underlying32 Try.underlying5 sz_5 eg_32 (sec3_len _ _ _) (sec3_len _ _ _)) ?_
          refine HY 18 rfl (HSub.refl _) rfl (y_pick_t rfl rfl) ?_
          refine HY 19 rfl (HSub.refl _) rfl (y_move rfl) ?_
          refine H_case 52 rfl (fun hg9_20 => ?_) (fun hg9_20 => ?_)
          · skip
            refine HY 20 rfl (HSub.refl _) rfl (y_move rfl) ?_
            refine HY 21 rfl (HSub.refl _) rfl (y_eqi rfl rfl) ?_
            refine HY 22 rfl (HSub.refl _) rfl (y_pick_t rfl rfl) ?_
            refine HY 23 rfl (HSub.refl _) rfl (y_assign rfl) ?_
            refine H_done (by kernel_rfl) ?_
            refine C_ret ?_
            refine B_ret (rv_tmp rfl rv_nil) (hsub (.cons _ (.cons _ (.cons _ (.refl _))))) ?_
            exact ⟨ret_bool (by simp), rfl⟩
          · exact absurd hg9_20 (by simp)
        · exact absurd hg9_15 (by simp)
      · exact absurd hg9_11 (by simp)
    · exact absurd hg9_7 (by simp)
  · exact absurd hg9_3 (by simp)

end Go.Proofs.Ytjjiclgbdenkkaa

/- Which device is the first one (own work). -/
set_option linter.unusedVariables false
set_option linter.unusedSimpArgs false
namespace Go.Sl
theorem Two.swap {t : DT} {D : Duo} {A : Da} {bx bys bp : Nat} {q : Pa} (h : Two t D A bx bys bp) (hq : A.q = some q) : ∃ (D' : Duo) (bq : Nat), Two t D' ⟨A.b, A.a, q, some A.p⟩ bys bx bq ∧ ∀ H, (D.seg t :: H).flatten.Perm (D'.seg t :: H).flatten := by
  obtain ⟨x, y, p, r⟩ := D
  have hda := h.da
  cases r with
  | none => rw [← hda] at hq; cases hq
  | some r =>
    have hr : r.a = q := by rw [← hda] at hq; exact Option.some.inj hq
    have ok := h.ok
    refine ⟨⟨y, x, r, some p⟩, r.b, ⟨⟨ok.2, ok.1⟩, ?_, h.y, h.x, rfl⟩, fun H => ?_⟩
    · rw [← hda, ← hr]; rfl
    · exact ((Duo.pick t ⟨y, x, r, some p⟩ (H := H) [5, 5, 5, 5, 5] rfl).symm.trans ((Duo.flat t ⟨x, y, p, some r⟩ H) ▸ List.Perm.refl _)).symm
section
variable {A : Da} {K : Nat} {X Y : List Sec} {k0 k1 : Nat} {m : Mi} {n : Int} {s : Sec} {ask : Da → Bool → Bool} {q : Pa}
theorem Vw.swap (h : Vw A K X Y k0 k1) (hq : A.q = some q) : Vw ⟨A.b, A.a, q, some A.p⟩ K Y X k1 k0 := by
  obtain ⟨h1, h2, h3⟩ := h.calm
  obtain ⟨g1, g2⟩ := h3 q hq
  exact ⟨⟨g1, g2, fun r hr => by obtain rfl := Option.some.inj hr; exact ⟨h1, h2⟩⟩, h.b, h.a⟩
end
/-! ### What is told where both have the same -/
def hasX (X : List Sec) (n : Int) : Bool := decide (0 ≤ n) && decide (n < X.length)
def rX (p : Int → Sec → Bool) (X : List Sec) (n : Int) : Sec := if hasX X n then rdv p n (gt X n.toNat) (gt X n.toNat) else secOf 0
def eX (p : Int → Sec → Bool) (X : List Sec) (n : Int) : Int := if hasX X n then rde p n (gt X n.toNat) (gt X n.toNat) else 2
def cX (p : Int → Sec → Bool) (X : List Sec) (n : Int) : Int × Int := if hasX X n then (if p n (gt X n.toNat) then 0 else 2, 0) else (0, 2)
def lX (p : Int → Sec → Bool) (X : List Sec) (n : Int) : List Sec := if hasX X n then gl p n (gt X n.toNat) (gt X n.toNat) else []
theorem Ms.same {t : DT} {gv : Value} {D : Duo} {A : Da} {m : Mi} {K : Nat} {X : List Sec} {k0 k1 mb bx bys bp : Nat} {p : Int → Sec → Bool} (h : Ms t gv D A m K X X k0 k1 mb bx bys bp) (n : Int) :
    mrS m A p n = rX p X n ∧ mrE m A p n = eX p X n ∧ healR m A p n = cX p X n ∧ healA m A p n = A ∧ healM m A p n = m ∧ bothS m A p n = lX p X n := by
  have hl := h.vw.a.wlen
  have hn := h.n
  have hh : m.has n = hasX X n := by simp [Mi.has, hasX, hn, hl]
  unfold rX eX cX lX
  cases hb : hasX X n
  · rw [hb] at hh
    have e : healTo m A p n = none := by unfold healTo; rw [hh]; rfl
    refine ⟨by unfold mrS; rw [hh]; rfl, by unfold mrE; rw [hh]; rfl, by unfold healR; rw [hh]; rfl, by unfold healA; rw [e], by unfold healM; rw [e], by unfold bothS; rw [hh]; rfl⟩
  · have hb2 := hb
    unfold hasX at hb2
    simp at hb2
    obtain ⟨k, rfl⟩ : ∃ k : Nat, n = k := ⟨n.toNat, by omega⟩
    have hk : k < K := by omega
    simp only [Int.toNat_natCast, if_true]
    have g := gt_get hl hk
    obtain ⟨r1, r2⟩ := h.rd (p := p) (n := k) g g
    obtain ⟨c1, c2, c3⟩ := heal_none (p := p) (h.has hk) (h.vw.thr false) (h.vw.thr true) (by rw [h.s0]; rfl) (by rw [h.s1]; rfl) (h.vw.reads false (s := gt X k) g).1 (h.vw.reads true (s := gt X k) g).1
    exact ⟨r1, r2, c3, c1, c2, h.both g g⟩
end Go.Sl
namespace Go.Sl
end Go.Sl

/- Sealed sectors of one byte's copies, some of them spoilt (own work). -/
set_option linter.unusedVariables false
set_option linter.unusedSimpArgs false
namespace Go.Sl
def b8 (n : Int) : UInt8 := UInt8.ofNat (n % 256).toNat
def sealL (n : Int) (x : UInt8) : Sec := b8 n :: List.replicate 127 x
theorem sealL_len (n : Int) (x : UInt8) : (sealL n x).length = 128 := by simp [sealL]
def healP (n : Int) (s : Sec) : Bool := (decide (s = sealL n (s.getD 1 0)) && decide (s.getD 1 0 = s.getD 2 0)) && decide (s.getD 2 0 = s.getD 3 0)
theorem seal_at (n : Int) (x : UInt8) {j : Nat} (h0 : 0 < j) (h : j < 128) : (sealL n x)[j]? = some x := by
  obtain ⟨j, rfl⟩ : ∃ k, j = k + 1 := ⟨j - 1, by omega⟩
  rw [sealL, List.getElem?_cons_succ, List.getElem?_replicate, if_pos (by omega)]
theorem seal_getD (n : Int) (x : UInt8) {j : Nat} (h0 : 0 < j) (h : j < 128) : (sealL n x).getD j 0 = x := by
  rw [List.getD, seal_at n x h0 h]; rfl
theorem healP_seal (n : Int) (x : UInt8) : healP n (sealL n x) = true := by
  unfold healP
  rw [seal_getD n x (by decide) (by decide), seal_getD n x (by decide) (by decide), seal_getD n x (by decide) (by decide)]
  simp
theorem xor_self_zero {a c : UInt8} (h : a ^^^ c = a) : c = 0 := by
  have h2 := congrArg (a ^^^ ·) h
  simpa [← UInt8.xor_assoc] using h2
theorem healP_rot {n : Int} {x c : UInt8} {j : Nat} (hj : j < 128) (hc : c ≠ 0) : healP n (rotB (sealL n x) j c) = false := by
  have key : ¬ (rotB (sealL n x) j c = sealL n ((rotB (sealL n x) j c).getD 1 0)) := fun h => by
    have hl := sealL_len n x
    have self : (rotB (sealL n x) j c)[j]? = some ((sealL n x).getD j 0 ^^^ c) := by unfold rotB; rw [List.getElem?_set_self (by omega)]
    have other : ∀ i, i ≠ j → (rotB (sealL n x) j c)[i]? = (sealL n x)[i]? := fun i hi => by unfold rotB; rw [List.getElem?_set_ne (by omega)]
    rcases Nat.eq_zero_or_pos j with rfl | hp
    · have h0 := congrArg (fun l => l[0]?) h
      rw [self] at h0
      have : (sealL n x).getD 0 0 = b8 n := rfl
      rw [this] at h0
      have h1 : (sealL n ((rotB (sealL n x) 0 c).getD 1 0))[0]? = some (b8 n) := rfl
      rw [h1] at h0
      exact hc (xor_self_zero (Option.some.inj h0))
    · rw [seal_getD n x hp hj] at self
      by_cases h1 : j = 1
      · subst h1
        have g1 : (rotB (sealL n x) 1 c).getD 1 0 = x ^^^ c := by rw [List.getD, self]; rfl
        have h2 := congrArg (fun l => l[2]?) h
        rw [other 2 (by decide), seal_at n x (by decide) (by decide), g1, seal_at n _ (by decide) (by decide)] at h2
        exact hc (xor_self_zero (Option.some.inj h2).symm)
      · have g1 : (rotB (sealL n x) j c).getD 1 0 = x := by rw [List.getD, other 1 (by omega), seal_at n x (by decide) (by decide)]; rfl
        have h2 := congrArg (fun l => l[j]?) h
        rw [self, g1, seal_at n x hp hj] at h2
        exact hc (xor_self_zero (Option.some.inj h2))
  unfold healP
  rw [decide_eq_false key]
  rfl
/-! ### What was written -/
def wS (dd : List UInt8) (k : Nat) : List Sec := (List.range dd.length).map fun (i : Nat) => if i < k then sealL (i : Int) (dd.getD i 0) else secOf 0
theorem wS_len (dd : List UInt8) (k : Nat) : (wS dd k).length = dd.length := by simp [wS]
theorem wS_ok (dd : List UInt8) (k : Nat) : ∀ s ∈ wS dd k, s.length = 128 := fun s hs => by
  obtain ⟨i, _, rfl⟩ := List.mem_map.1 hs
  split
  · exact sealL_len _ _
  · exact secOf_len _
def allS (dd : List UInt8) : List Sec := wS dd dd.length
theorem allS_at {dd : List UInt8} {i : Nat} (h : i < dd.length) : (allS dd)[i]? = some (sealL (i : Int) (dd.getD i 0)) := by
  simp [allS, wS, h]
/-- The places that are spoilt, told by a map. -/
def nHas (ks : List (Int × Nat)) (k : Nat) : Nat := ((List.range k).filter fun (i : Nat) => kHas ks (i : Int)).length
structure Rotten (dd : List UInt8) (c : UInt8) (ks : List (Int × Nat)) (R : List Sec) : Prop where
  len : R.length = dd.length
  ok : ∀ s ∈ R, s.length = 128
  same : ∀ i, i < dd.length → kHas ks (i : Int) = false → R[i]? = some (sealL (i : Int) (dd.getD i 0))
  rot : ∀ i, i < dd.length → kHas ks (i : Int) = true → c ≠ 0 ∧ ∃ j, j < 128 ∧ R[i]? = some (rotB (sealL (i : Int) (dd.getD i 0)) j c)
  cnt : nHas ks dd.length = ks.length
theorem nHas_nil (k : Nat) : nHas [] k = 0 := by
  unfold nHas
  rw [List.length_eq_zero_iff, List.filter_eq_nil_iff]
  intro i _
  simp [kHas]
theorem Rotten.nil (dd : List UInt8) (c : UInt8) : Rotten dd c [] (allS dd) :=
  ⟨wS_len _ _, wS_ok _ _, fun i hi _ => allS_at hi, fun i _ h => by simp [kHas] at h, nHas_nil _⟩
theorem kHas_app {ks : List (Int × Nat)} {c n i : Nat} : kHas (ks ++ [((n : Int), c)]) (i : Int) = (kHas ks (i : Int) || decide (i = n)) := by
  unfold kHas
  rw [List.any_append]
  congr 1
  have := kHas_one (t := n) (c := c) (j := i)
  unfold kHas at this
  exact this
theorem nHas_app {ks : List (Int × Nat)} {c n : Nat} (h : kHas ks (n : Int) = false) : ∀ k, nHas (ks ++ [((n : Int), c)]) k = nHas ks k + (if n < k then 1 else 0)
  | 0 => rfl
  | k + 1 => by
    have ih := nHas_app (c := c) h k
    unfold nHas at ih ⊢
    rw [List.range_succ, List.filter_append, List.filter_append, List.length_append, List.length_append, ih]
    by_cases hk : k = n
    · subst hk
      simp [kHas_app, h]
    · by_cases hb : kHas ks (k : Int) = true
      · have : (n < k + 1) ↔ n < k := by omega
        simp [kHas_app, hb, hk, this]; omega
      · have : (n < k + 1) ↔ n < k := by omega
        simp [kHas_app, hb, hk, this]
theorem kPut_new {ks : List (Int × Nat)} {c n : Nat} (h : kHas ks (n : Int) = false) : kPut ks c (n : Int) = ks ++ [((n : Int), c)] := by unfold kPut; rw [h]; rfl
theorem Rotten.put {dd : List UInt8} {c : UInt8} {ks : List (Int × Nat)} {R : List Sec} {n j ck : Nat} (h : Rotten dd c ks R) (hn : n < dd.length) (hk : kHas ks (n : Int) = false) (hj : j < 128) (hc : c ≠ 0) :
    Rotten dd c (kPut ks ck (n : Int)) (R.set n (rotB (sealL (n : Int) (dd.getD n 0)) j c)) := by
  rw [kPut_new hk]
  have hl := h.len
  refine ⟨by simp [hl], set_ok2 h.ok (rotB_len.trans (sealL_len _ _)), fun i hi hf => ?_, fun i hi hf => ?_, ?_⟩
  · rw [kHas_app] at hf
    have h1 : kHas ks (i : Int) = false := by cases hq : kHas ks (i : Int) <;> simp_all
    have h2 : i ≠ n := fun e => by subst e; simp at hf
    rw [List.getElem?_set_ne (by omega)]
    exact h.same i hi h1
  · by_cases e : i = n
    · subst e
      exact ⟨hc, j, hj, by rw [List.getElem?_set_self (by omega)]⟩
    · rw [kHas_app] at hf
      have h1 : kHas ks (i : Int) = true := by simpa [e] using hf
      rw [List.getElem?_set_ne (by omega)]
      exact h.rot i hi h1
  · rw [nHas_app hk, h.cnt, if_pos hn]; simp
section
variable {dd : List UInt8} {c : UInt8} {ks : List (Int × Nat)} {R : List Sec}
theorem Rotten.gt (h : Rotten dd c ks R) {i : Nat} (hi : i < dd.length) : ∃ r, Sl.gt R i = r ∧ healP (i : Int) r = !kHas ks (i : Int) ∧ (kHas ks (i : Int) = false → r = sealL (i : Int) (dd.getD i 0)) := by
  cases hk : kHas ks (i : Int)
  · have := gt_is (h.same i hi hk)
    exact ⟨_, this, healP_seal _ _, fun _ => rfl⟩
  · obtain ⟨hc, j, hj, e⟩ := h.rot i hi hk
    exact ⟨_, gt_is e, healP_rot hj hc, fun h => by cases h⟩
theorem nHas_succ (ks : List (Int × Nat)) (k : Nat) : nHas ks (k + 1) = nHas ks k + (if kHas ks (k : Int) then 1 else 0) := by
  unfold nHas
  rw [List.range_succ, List.filter_append, List.length_append]
  cases hq : kHas ks (k : Int) <;> simp [hq]
theorem Rotten.rK (h : Rotten dd c ks R) (f : Bool) : ∀ k : Nat, k ≤ dd.length → Sl.rK healP (if f then R else allS dd) (if f then allS dd else R) k = ((k : Int) - (nHas ks k : Int), (nHas ks k : Int), 0)
  | 0, _ => rfl
  | k + 1, hk => by
    have ih := h.rK f k (by omega)
    obtain ⟨r, e, hp, hs⟩ := h.gt (show k < dd.length by omega)
    have e2 := gt_is (allS_at (dd := dd) (show k < dd.length by omega))
    have hC1 : hC healP k (Sl.gt (if f then R else allS dd) k) (Sl.gt (if f then allS dd else R) k) = (if kHas ks (k : Int) then 1 else 0) := by
      have hw := healP_seal (k : Int) (dd.getD k 0)
      cases hq : kHas ks (k : Int)
      · have hr := hs hq
        rw [hr] at e
        cases f
        · simp only [Bool.false_eq_true, if_false]; rw [e, e2]; unfold hC; rw [hw]; simp
        · simp only [if_true]; rw [e, e2]; unfold hC; rw [hw]; simp
      · rw [hq] at hp
        cases f
        · simp only [Bool.false_eq_true, if_false]; rw [e, e2]; unfold hC; rw [hw, hp]; simp
        · simp only [if_true]; rw [e, e2]; unfold hC; rw [hw, hp]; simp
    show Sl.cnt _ _ = _
    rw [ih, hC1, nHas_succ]
    cases kHas ks (k : Int)
    · simp [Sl.cnt]; omega
    · simp [Sl.cnt]; omega
theorem Rotten.end (h : Rotten dd c ks R) (f : Bool) {i : Nat} (hi : i < dd.length) : (if f then XK healP R (allS dd) dd.length dd.length else YK healP (allS dd) R dd.length dd.length)[i]? = some (sealL (i : Int) (dd.getD i 0)) := by
  obtain ⟨r, e, hp, hs⟩ := h.gt hi
  have e2 := gt_is (allS_at (dd := dd) hi)
  have hw := healP_seal (i : Int) (dd.getD i 0)
  cases f
  · simp only [Bool.false_eq_true, if_false]
    rw [YK_get hi, if_pos hi, e, e2, hY, hw]; rfl
  · simp only [if_true]
    rw [XK_get hi, if_pos hi, e, e2, hX, hp, hw]
    cases hq : kHas ks (i : Int)
    · simp [hs hq]
    · simp
theorem Rotten.all (h : Rotten dd c ks R) (f : Bool) : Sl.rK healP (if f then R else allS dd) (if f then allS dd else R) dd.length = ((dd.length : Int) - (ks.length : Int), (ks.length : Int), 0) := by
  rw [h.rK f dd.length (Nat.le_refl _), h.cnt]
theorem Rotten.le (h : Rotten dd c ks R) : ks.length ≤ dd.length := by
  rw [← h.cnt]
  unfold nHas
  have := List.length_filter_le (fun (i : Nat) => kHas ks (i : Int)) (List.range dd.length)
  simpa using this
end
def fillS (x : UInt8) (i : Nat) : Sec := List.replicate i x ++ List.replicate (128 - i) 0
end Go.Sl
namespace Go.Sl
end Go.Sl
namespace Go.Sl
end Go.Sl

/- walks (own work; the walks' lines by a program of this repo). -/
set_option linter.unusedVariables false
set_option linter.unusedSimpArgs false
set_option maxRecDepth 20000
namespace Go.Proofs.Ytjjiclgbdenkkaa
open Go.Sl
attribute [local irreducible] BodyQ WpC WpL WpS WpH OpW FnS


theorem sectors_s {w0 : World} {H : Hp} {pa pb : Option Addr} {ca cb : Nat} {l : List Sec} (ok : ∀ s ∈ l, s.length = 128) (hm : l.length ≤ 4096) (hA : Holds w0 H pa (bs l.flatten)) (hB : Holds w0 H pb (bs l.flatten)) : FnS Try.prog w0 24 #[.slice pa l.length ca, .slice pb l.length cb] H (fun e H' => e = .returned (.bool true) ∧ H' = H) := by
  refine FnS_intro (n := 26) (rs := [.tmp 4]) (vs := [.slice pa l.length ca, .slice pb l.length cb]) Try.func24 rfl Try.ntmps24 rfl rfl ?_
  refine C_seq (C_region (LY rfl (y_assign rfl) (L_nil (C_seq (C_seq (C_region (LY rfl (y_move rfl) ?_)))))))
  refine LY rfl (y_lenS rfl rfl Try.underlying40) ?_
  refine LY rfl (y_move rfl) ?_
  refine LY rfl (y_lenS rfl rfl Try.underlying40) ?_
  refine LY rfl (y_nei rfl rfl) ?_
  refine L_nil ?_
  refine C_cond rfl (fun hc0 => absurd hc0 (by simp)) (fun hc0 => ?_)
  refine C_skip (C_seq (C_seq (C_region (LY rfl (y_assign rfl) (L_nil (C_block ?_))))))
  refine C_loop (ι := Nat) (fun k => [(0, .slice pa l.length ca), (1, .slice pb l.length cb), (5, .int .i64 (k : Int))]) (fun k => H) (fun k => k ≤ l.length) (fun k => l.length - k) 0 (Nat.zero_le _) ⟨rfl, rfl, rfl, trivial⟩ (HSub.refl _) (fun k hk => ?_)
  skip
  refine C_seq (C_seq (C_region (LY rfl (y_move rfl) (LY rfl (y_move rfl) ?_))))
  refine LY rfl (y_lenS rfl rfl Try.underlying40) ?_
  refine LY rfl (y_lss rfl rfl) (L_nil ?_)
  refine C_cond rfl (fun hc1 => ?_) (fun hc1 => ?_)
  · replace hc1 : k < l.length := by have := of_decide_eq_true hc1; omega
    obtain ⟨s, hs⟩ : ∃ s, l[k]? = some s := ⟨_, gt_get rfl hc1⟩
    have hs8 := ok s (List.mem_of_getElem? hs)
    have hfl := flat_len ok
    obtain ⟨b1, o1, l1, T1, fr1, rfl, hs1, hle1, hv1⟩ := hA (by rw [bs_length]; omega)
    obtain ⟨b2, o2, l2, T2, fr2, rfl, hs2, hle2, hv2⟩ := hB (by rw [bs_length]; omega)
    rw [bs_length] at hle1 hle2
    refine C_skip (C_seq (C_block (C_seq ?_)))
    refine C_regionH0 (by kernel_rfl) ?_
    refine HY 0 rfl (HSub.refl _) rfl (y_move rfl) ?_
    refine HY 1 rfl (HSub.refl _) rfl (y_move rfl) ?_
    refine HY 2 rfl (HSub.refl _) rfl (y_indexS rfl rfl Try.underlying40 sz_32 (by omega) (by omega) (show _ = o1 + k * 128 from by simp)) ?_
    refine HY 3 rfl (HSub.refl _) rfl (y_loadA rfl ag_32 sz_32 (hs1) (by omega) (sec_at (n := 0) ok hv1 hs)) ?_
    refine HY 4 rfl (HSub.refl _) rfl (y_move rfl) ?_
    refine HY 5 rfl (HSub.refl _) rfl (y_move rfl) ?_
    refine HY 6 rfl (HSub.refl _) rfl (y_indexS rfl rfl Try.underlying40 sz_32 (by omega) (by omega) (show _ = o2 + k * 128 from by simp)) ?_
    refine HY 7 rfl (HSub.refl _) rfl (y_loadA rfl ag_32 sz_32 (hs2) (by omega) (sec_at (n := 0) ok hv2 hs)) ?_
    refine HY 8 rfl (HSub.refl _) rfl (y_nea rfl rfl Try.underlying32 Try.underlying5 sz_5 eg_32 hs8 hs8) ?_
    refine H_done (by kernel_rfl) ?_
    refine C_cond rfl (fun hc2 => absurd hc2 (by simp)) (fun hc2 => ?_)
    refine C_skip (C_region (LY rfl (y_move rfl) ?_))
    refine LY rfl (y_add rfl rfl (wi64 (by omega) (by omega))) ?_
    refine LY rfl (y_assign rfl) (L_nil ?_)
    exact ⟨k + 1, by omega, by omega, ⟨rfl, rfl, rfl, trivial⟩, HSub.refl _⟩
  · replace hc1 := of_decide_eq_false hc1
    refine C_exit (C_seq (C_region (LY rfl (y_assign rfl) (L_nil (C_ret ?_)))))
    refine B_ret (rv_tmp rfl rv_nil) (hsub (.refl _)) ?_
    exact ⟨rfl, rfl⟩

theorem sectors_v {w0 : World} {H : Hp} {l : List Sec} {ga gb : Option SlG} {sa sb ea eb : Nat} (ok : ∀ s ∈ l, s.length = 128) (hm : l.length ≤ 4096) (hsa : H[sa]? = some (slSeg ea ga (bs l.flatten))) (hsb : H[sb]? = some (slSeg eb gb (bs l.flatten))) (oka : slOk 128 ga l.length (bs l.flatten)) (okb : slOk 128 gb l.length (bs l.flatten)) :
    FnS Try.prog w0 24 #[slV ga l.length, slV gb l.length] H (fun e H' => e = .returned (.bool true) ∧ H' = H) := by
  obtain ⟨x, c, e1, h1⟩ := holds_sl (w0 := w0) hsa oka
  obtain ⟨y, c2, e2, h2⟩ := holds_sl (w0 := w0) hsb okb
  rw [e1, e2]
  exact sectors_s ok hm h1 h2

end Go.Proofs.Ytjjiclgbdenkkaa

