/- Own work: texts MhW, VhW, VdW, Sd, LaW, Sy, MyW, VqW, Sz, Po, Pq, MbW, put together. -/
import Derived.Test.YtjjiclgbdenkkaaMMirrorOned
/- walks (own work; the walks' lines by a program of this repo). -/
set_option linter.unusedVariables false
set_option linter.unusedSimpArgs false
set_option maxRecDepth 20000
namespace Go.Proofs.Ytjjiclgbdenkkaa
open Go.Sl
attribute [local irreducible] BodyQ WpC WpL WpS WpH OpW FnS



set_option maxHeartbeats 4000000 in

theorem heal_no {w0 : World} {H : Hp} {D : Duo} {A : Da} {bp : Nat} {m : Mi} (h : Two dt D A m.bx m.bys bp) {p : Int → Sec → Bool} (hG : GoodAt Try.prog w0 H m.gv p) (n : Int) (hQ : ∀ i, (A.dev i).Q.length < 99990) (hn : m.has n = false) : FnS Try.prog w0 23 #[ptr m.b, .int .i64 n] (m.seg 110 :: D.seg dt :: H) (fun e H' => e = .returned (.tuple #[.int .i64 (healR m A p n).1, .int .i64 (healR m A p n).2]) ∧ ∃ D', Two dt D' (healA m A p n) m.bx m.bys bp ∧ H' = (healM m A p n).seg 110 :: D'.seg dt :: H) := by
  refine FnS_intro (n := 105) (rs := [.tmp 4, .tmp 5]) (vs := [ptr m.b, .int .i64 n]) Try.func23 rfl Try.ntmps23 rfl rfl ?_
  refine C_seq ?_
  refine C_region ?_
  refine L_y rfl (y_assign rfl) rfl ?_
  refine L_y rfl (y_assign rfl) rfl ?_
  refine L_nil ?_
  refine C_seq ?_
  refine C_seq ?_
  refine C_region ?_
  refine L_y rfl (y_move rfl) rfl ?_
  refine L_y rfl (y_move rfl) rfl ?_
  refine L_op rfl (op_call rfl rfl (fun a w => Try.call58 a w) rfl ?_)
  refine (has_m _ (sees 0 0 rfl)).mono ?_
  rintro _ _ ⟨rfl, rfl⟩
  rw [hn]
  refine ⟨_, rfl, ?_⟩
  refine L_y rfl (y_not rfl) rfl ?_
  refine L_nil ?_
  refine C_cond_t rfl ?_
  refine C_seq ?_
  refine C_region ?_
  refine L_y rfl (y_assign rfl) rfl ?_
  refine L_y rfl (y_assign rfl) rfl ?_
  refine L_nil ?_
  refine C_ret ?_
  refine B_ret (rv_tmp rfl (rv_tmp rfl rv_nil)) ((hsub (.cons_cons _ (.cons_cons _ (.refl _)))).trans (hsub_pick [0, 0] rfl)) ?_
  exact ⟨by simp_all [healR, healTo, Go.Sl.hg0, Go.Sl.hg1] <;> rfl, D, h.to (by simp_all [healA, healTo, Go.Sl.hg0, Go.Sl.hg1]), by rw [show healM m A p n = m from by simp_all [healM, healTo, Go.Sl.hg0, Go.Sl.hg1]]; first | done | rfl⟩

set_option maxHeartbeats 4000000 in

theorem heal_tt {w0 : World} {H : Hp} {D : Duo} {A : Da} {bp : Nat} {m : Mi} (h : Two dt D A m.bx m.bys bp) {p : Int → Sec → Bool} (hG : GoodAt Try.prog w0 H m.gv p) (n : Int) (hQ : ∀ i, (A.dev i).Q.length < 99990) (hn : m.has n = true) (hp : thr A false = true) (hq : thr A true = true) : FnS Try.prog w0 23 #[ptr m.b, .int .i64 n] (m.seg 110 :: D.seg dt :: H) (fun e H' => e = .returned (.tuple #[.int .i64 (healR m A p n).1, .int .i64 (healR m A p n).2]) ∧ ∃ D', Two dt D' (healA m A p n) m.bx m.bys bp ∧ H' = (healM m A p n).seg 110 :: D'.seg dt :: H) := by
  refine FnS_intro (n := 105) (rs := [.tmp 4, .tmp 5]) (vs := [ptr m.b, .int .i64 n]) Try.func23 rfl Try.ntmps23 rfl rfl ?_
  refine C_seq ?_
  refine C_region ?_
  refine L_y rfl (y_assign rfl) rfl ?_
  refine L_y rfl (y_assign rfl) rfl ?_
  refine L_nil ?_
  refine C_seq ?_
  refine C_seq ?_
  refine C_region ?_
  refine L_y rfl (y_move rfl) rfl ?_
  refine L_y rfl (y_move rfl) rfl ?_
  refine L_op rfl (op_call rfl rfl (fun a w => Try.call58 a w) rfl ?_)
  refine (has_m _ (sees 0 0 rfl)).mono ?_
  rintro _ _ ⟨rfl, rfl⟩
  rw [hn]
  refine ⟨_, rfl, ?_⟩
  refine L_y rfl (y_not rfl) rfl ?_
  refine L_nil ?_
  refine C_cond_f rfl ?_
  refine C_skip ?_
  refine C_seq ?_
  refine C_seq ?_
  refine C_region ?_
  refine L_y rfl (y_move rfl) rfl ?_
  refine L_op rfl (op_call rfl rfl (fun a w => Try.call59 a w) rfl ?_)
  refine ((present_tt h hp hq).sub (hsub_pick [0, 0] rfl)).mono ?_
  rintro _ _ ⟨g1, hg1, rfl, rfl⟩
  cases g1 with
  | none => exact slOk_none hg1 (by decide)
  | some g1 => ?_
  refine ⟨_, rfl, ?_⟩
  refine L_y rfl (y_lenS rfl rfl Try.underlying118) rfl ?_
  refine L_y rfl (y_lss rfl rfl) rfl ?_
  refine L_nil ?_
  refine C_cond_f rfl ?_
  refine C_skip ?_
  refine C_seq ?_
  refine C_region ?_
  refine L_op rfl (op_alloc zl_120 rfl (fun B1 => ?_))
  refine L_nil ?_
  refine C_seq ?_
  refine C_region ?_
  refine L_op rfl (op_alloc zl_62 rfl (fun B2 => ?_))
  refine L_nil ?_
  refine C_seq ?_
  refine C_seq ?_
  refine C_region ?_
  refine L_y rfl (y_move rfl) rfl ?_
  refine L_nil ?_
  refine C_block ?_
  refine C_loopIn (In_round ?_)
  refine C_seq ?_
  refine C_region ?_
  refine L_y rfl (y_lss rfl rfl) rfl ?_
  refine L_nil ?_
  refine C_seq ?_
  refine C_cond_t rfl ?_
  refine C_skip ?_
  refine C_seq ?_
  refine C_block ?_
  refine C_seq ?_
  refine C_region ?_
  refine L_y rfl (y_move rfl) rfl ?_
  refine L_y rfl (y_assign rfl) rfl ?_
  refine L_nil ?_
  refine C_seq ?_
  refine C_region ?_
  refine L_y rfl (y_move rfl) rfl ?_
  refine L_y rfl (y_move rfl) rfl ?_
  refine L_y rfl (y_move rfl) rfl ?_
  refine L_y rfl (y_nilCheck rfl) rfl ?_
  refine L_y rfl (y_fieldAddr rfl fl_110_0) rfl ?_
  refine L_y rfl (y_indexA rfl rfl Try.underlying108 sz_107 (by omega) (by omega) (show _ = 0 from rfl)) rfl ?_
  refine L_y rfl (y_fieldAddr rfl fl_107_0) rfl ?_
  refine L_y rfl (y_load rfl ag_24 (sees 3 0 rfl) rfl) rfl ?_
  refine L_y rfl (y_move rfl) rfl ?_
  refine L_op rfl (op_call rfl rfl (fun a w => Try.call60 a w) rfl ?_)
  refine ((read_d h false (n)).sub (hsub_pick [4] rfl)).mono ?_
  rintro _ _ ⟨rfl, rfl⟩
  refine ⟨_, rfl, ?_⟩
  refine L_y rfl (y_move rfl) rfl ?_
  refine L_y rfl (y_extract rfl rfl) rfl ?_
  refine L_y rfl (y_extract rfl rfl) rfl ?_
  refine L_y rfl (y_indexA rfl rfl Try.underlying120 sz_32 (by omega) (by omega) (show _ = 0 from rfl)) rfl ?_
  rw [z256]
  refine L_op rfl (op_store (vs := bs (A.rS false n)) 2 0 rfl rfl rfl sz_32 (by rw [bs_length, rS_len _ h.oks]) rfl (bs_one _) (by simp [bs_length, secOf_len, rS_len _ h.oks]) ?_)
  rw [spl_lo (by rw [secOf_len, rS_len _ h.oks])]
  refine L_nil ?_
  refine C_region ?_
  refine L_y rfl (y_move rfl) rfl ?_
  refine L_y rfl (y_move rfl) rfl ?_
  refine L_y rfl (y_move rfl) rfl ?_
  refine L_y rfl (y_nilCheck rfl) rfl ?_
  refine L_y rfl (y_fieldAddr rfl fl_110_0) rfl ?_
  refine L_y rfl (y_indexA rfl rfl Try.underlying108 sz_107 (by omega) (by omega) (show _ = 0 from rfl)) rfl ?_
  refine L_y rfl (y_fieldAddr rfl fl_107_1) rfl ?_
  refine L_y rfl (y_load rfl ag_105 (sees 4 0 rfl) rfl) rfl ?_
  refine L_y rfl (y_move rfl) rfl ?_
  refine L_y rfl (y_lookup rfl rfl Try.underlying105 Try.underlying3 zt_4 (sees 4 1 rfl)) rfl ?_
  refine L_y rfl (y_not rfl) rfl ?_
  refine L_y rfl (y_move rfl) rfl ?_
  refine L_case 47 rfl (fun hg11_12 => ?_) (fun hg11_12 => ?_)
  · skip
    refine L_y rfl (y_move rfl) rfl ?_
    refine L_y rfl (y_move rfl) rfl ?_
    refine L_y rfl (y_move rfl) rfl ?_
    refine L_y rfl (y_indexA rfl rfl Try.underlying120 sz_32 (by omega) (by omega) (show _ = 0 from rfl)) rfl ?_
    refine L_y rfl (y_loadA rfl ag_32 sz_32 (sees 2 0 rfl) (by simp [bs_length, secOf_len, rS_len _ h.oks]) (by first | exact two_hi (rS_len _ h.oks) (rS_len _ h.oks) | exact two_lo (rS_len _ h.oks))) rfl ?_
    refine L_op rfl (op_call rfl rfl (fun a w => Try.call61 a w) rfl ?_)
    refine FnS.mono (right_m (sees 4 0 rfl) (hG.sub (hsub (.cons _ (.cons _ (.cons _ (.cons _ (.cons _ (.refl _)))))))) n _ (rS_len _ h.oks)) ?_
    rintro _ _ ⟨rfl, e⟩
    obtain rfl := e.symm
    refine ⟨_, rfl, ?_⟩
    refine L_case 53 rfl (fun hg11_18 => ?_) (fun hg11_18 => ?_)
    · skip
      refine L_y rfl (y_pick_t rfl rfl) rfl ?_
      refine L_y rfl (y_indexA rfl rfl Try.underlying62 sz_4 (by omega) (by omega) (show _ = 0 from rfl)) rfl ?_
      refine L_op rfl (op_store1 1 0 rfl rfl rfl sz_4 rfl (Nat.le_of_ble_eq_true rfl) ?_)
      refine L_nil ?_
      refine C_region ?_
      refine L_y rfl (y_add rfl rfl (show _ = (1 : Int) from rfl)) rfl ?_
      refine L_y rfl (y_move rfl) rfl ?_
      refine L_nil ?_
      refine In_round ?_
      refine C_seq ?_
      refine C_region ?_
      refine L_y rfl (y_lss rfl rfl) rfl ?_
      refine L_nil ?_
      refine C_seq ?_
      refine C_cond_t rfl ?_
      refine C_skip ?_
      refine C_seq ?_
      refine C_block ?_
      refine C_seq ?_
      refine C_region ?_
      refine L_y rfl (y_move rfl) rfl ?_
      refine L_y rfl (y_assign rfl) rfl ?_
      refine L_nil ?_
      refine C_seq ?_
      refine C_region ?_
      refine L_y rfl (y_move rfl) rfl ?_
      refine L_y rfl (y_move rfl) rfl ?_
      refine L_y rfl (y_move rfl) rfl ?_
      refine L_y rfl (y_nilCheck rfl) rfl ?_
      refine L_y rfl (y_fieldAddr rfl fl_110_0) rfl ?_
      refine L_y rfl (y_indexA rfl rfl Try.underlying108 sz_107 (by omega) (by omega) (show _ = 2 from rfl)) rfl ?_
      refine L_y rfl (y_fieldAddr rfl fl_107_0) rfl ?_
      refine L_y rfl (y_load rfl ag_24 (sees 4 0 rfl) rfl) rfl ?_
      refine L_y rfl (y_move rfl) rfl ?_
      refine L_op rfl (op_call rfl rfl (fun a w => Try.call60 a w) rfl ?_)
      refine ((read_d h true (n)).sub (hsub_pick [0] rfl)).mono ?_
      rintro _ _ ⟨rfl, rfl⟩
      refine ⟨_, rfl, ?_⟩
      refine L_y rfl (y_move rfl) rfl ?_
      refine L_y rfl (y_extract rfl rfl) rfl ?_
      refine L_y rfl (y_extract rfl rfl) rfl ?_
      refine L_y rfl (y_indexA rfl rfl Try.underlying120 sz_32 (by omega) (by omega) (show _ = 128 from rfl)) rfl ?_
      skip
      refine L_op rfl (op_store (vs := bs (A.rS true n)) 2 0 rfl rfl rfl sz_32 (by rw [bs_length, rS_len _ h.oks]) rfl (bs_one _) (by simp [bs_length, secOf_len, rS_len _ h.oks]) ?_)
      rw [spl_hi (rS_len _ h.oks) (by rw [secOf_len, rS_len _ h.oks])]
      refine L_nil ?_
      refine C_region ?_
      refine L_y rfl (y_move rfl) rfl ?_
      refine L_y rfl (y_move rfl) rfl ?_
      refine L_y rfl (y_move rfl) rfl ?_
      refine L_y rfl (y_nilCheck rfl) rfl ?_
      refine L_y rfl (y_fieldAddr rfl fl_110_0) rfl ?_
      refine L_y rfl (y_indexA rfl rfl Try.underlying108 sz_107 (by omega) (by omega) (show _ = 2 from rfl)) rfl ?_
      refine L_y rfl (y_fieldAddr rfl fl_107_1) rfl ?_
      refine L_y rfl (y_load rfl ag_105 (sees 4 0 rfl) rfl) rfl ?_
      refine L_y rfl (y_move rfl) rfl ?_
      refine L_y rfl (y_lookup rfl rfl Try.underlying105 Try.underlying3 zt_4 (sees 4 2 rfl)) rfl ?_
      refine L_y rfl (y_not rfl) rfl ?_
      refine L_y rfl (y_move rfl) rfl ?_
      refine L_case 47 rfl (fun hg11_12 => ?_) (fun hg11_12 => ?_)
      · skip
        refine L_y rfl (y_move rfl) rfl ?_
        refine L_y rfl (y_move rfl) rfl ?_
        refine L_y rfl (y_move rfl) rfl ?_
        refine L_y rfl (y_indexA rfl rfl Try.underlying120 sz_32 (by omega) (by omega) (show _ = 128 from rfl)) rfl ?_
        refine L_y rfl (y_loadA rfl ag_32 sz_32 (sees 2 0 rfl) (by simp [bs_length, secOf_len, rS_len _ h.oks]) (by first | exact two_hi (rS_len _ h.oks) (rS_len _ h.oks) | exact two_lo (rS_len _ h.oks))) rfl ?_
        refine L_op rfl (op_call rfl rfl (fun a w => Try.call61 a w) rfl ?_)
        refine FnS.mono (right_m (sees 4 0 rfl) (hG.sub (hsub (.cons _ (.cons _ (.cons _ (.cons _ (.cons _ (.refl _)))))))) n _ (rS_len _ h.oks)) ?_
        rintro _ _ ⟨rfl, e⟩
        obtain rfl := e.symm
        refine ⟨_, rfl, ?_⟩
        refine L_case 53 rfl (fun hg11_18 => ?_) (fun hg11_18 => ?_)
        · skip
          refine L_y rfl (y_pick_t rfl rfl) rfl ?_
          refine L_y rfl (y_indexA rfl rfl Try.underlying62 sz_4 (by omega) (by omega) (show _ = 1 from rfl)) rfl ?_
          refine L_op rfl (op_store1 1 0 rfl rfl rfl sz_4 rfl (Nat.le_of_ble_eq_true rfl) ?_)
          refine L_nil ?_
          refine C_region ?_
          refine L_y rfl (y_add rfl rfl (show _ = (2 : Int) from rfl)) rfl ?_
          refine L_y rfl (y_move rfl) rfl ?_
          refine L_nil ?_
          refine In_round ?_
          refine C_seq ?_
          refine C_region ?_
          refine L_y rfl (y_lss rfl rfl) rfl ?_
          refine L_nil ?_
          refine C_seq ?_
          refine C_cond_f rfl ?_
          refine C_exit ?_
          refine C_seq ?_
          refine C_region ?_
          refine L_y rfl (y_assign rfl) rfl ?_
          refine L_nil ?_
          refine C_seq ?_
          refine C_block ?_
          refine C_seq ?_
          refine C_region ?_
          refine L_y rfl (y_indexA rfl rfl Try.underlying62 sz_4 (by omega) (by omega) (show _ = 0 from rfl)) rfl ?_
          refine L_y rfl (y_load rfl ag_4 (sees 1 0 rfl) rfl) rfl ?_
          refine L_y rfl (y_not rfl) rfl ?_
          refine L_y rfl (y_move rfl) rfl ?_
          refine L_skip rfl rfl ?_
          refine L_skip rfl rfl ?_
          refine L_skip rfl rfl ?_
          refine L_y rfl (y_pick_f rfl rfl) rfl ?_
          refine L_y rfl (y_assign rfl) rfl ?_
          refine L_nil ?_
          refine C_cond_f rfl ?_
          refine C_seq ?_
          refine C_region ?_
          refine L_y rfl (y_indexA rfl rfl Try.underlying62 sz_4 (by omega) (by omega) (show _ = 0 from rfl)) rfl ?_
          refine L_y rfl (y_load rfl ag_4 (sees 1 0 rfl) rfl) rfl ?_
          refine L_y rfl (y_move rfl) rfl ?_
          refine L_y rfl (y_indexA rfl rfl Try.underlying62 sz_4 (by omega) (by omega) (show _ = 1 from rfl)) rfl ?_
          refine L_y rfl (y_load rfl ag_4 (sees 1 0 rfl) rfl) rfl ?_
          refine L_y rfl (y_pick_t rfl rfl) rfl ?_
          refine L_y rfl (y_move rfl) rfl ?_
          refine L_y rfl (y_indexA rfl rfl Try.underlying120 sz_32 (by omega) (by omega) (show _ = 0 from rfl)) rfl ?_
          refine L_y rfl (y_loadA rfl ag_32 sz_32 (sees 2 0 rfl) (by simp [bs_length, secOf_len, rS_len _ h.oks]) (two_lo (rS_len _ h.oks))) rfl ?_
          refine L_y rfl (y_indexA rfl rfl Try.underlying120 sz_32 (by omega) (by omega) (show _ = 128 from rfl)) rfl ?_
          refine L_y rfl (y_loadA rfl ag_32 sz_32 (sees 2 0 rfl) (by simp [bs_length, secOf_len, rS_len _ h.oks]) (two_hi (rS_len _ h.oks) (rS_len _ h.oks))) rfl ?_
          refine L_y rfl (y_eqa rfl rfl Try.underlying32 Try.underlying5 sz_5 eg_32 (rS_len _ h.oks) (rS_len _ h.oks)) rfl ?_
          refine L_y rfl (y_pick_t rfl rfl) rfl ?_
          refine L_y rfl (y_assign rfl) rfl ?_
          refine L_nil ?_
          refine C_cond rfl (fun hc4 => ?_) (fun hc4 => ?_)
          · replace hc4 := of_decide_eq_true hc4
            refine C_seq ?_
            refine C_region ?_
            refine L_y rfl (y_assign rfl) rfl ?_
            refine L_y rfl (y_assign rfl) rfl ?_
            refine L_nil ?_
            refine C_ret ?_
            refine B_ret (rv_tmp rfl (rv_tmp rfl rv_nil)) ((hsub (.cons_cons _ (.cons_cons _ (.cons _ (.cons _ (.cons _ (.refl _))))))).trans (hsub_pick [4, 0] rfl)) ?_
            exact ⟨by simp_all [healR, healTo, Go.Sl.hg0, Go.Sl.hg1] <;> rfl, D, h.to (by simp_all [healA, healTo, Go.Sl.hg0, Go.Sl.hg1]), by rw [show healM m A p n = m from by simp_all [healM, healTo, Go.Sl.hg0, Go.Sl.hg1]]; first | done | rfl⟩
          · replace hc4 := of_decide_eq_false hc4
            refine C_seq ?_
            refine C_region ?_
            refine L_y rfl (y_indexA rfl rfl Try.underlying62 sz_4 (by omega) (by omega) (show _ = 0 from rfl)) rfl ?_
            refine L_y rfl (y_load rfl ag_4 (sees 1 0 rfl) rfl) rfl ?_
            refine L_y rfl (y_not rfl) rfl ?_
            refine L_y rfl (y_assign rfl) rfl ?_
            refine L_nil ?_
            refine C_cond_f rfl ?_
            refine C_skip ?_
            refine C_seq ?_
            refine C_seq ?_
            refine C_region ?_
            refine L_y rfl (y_move rfl) rfl ?_
            refine L_y rfl (y_move rfl) rfl ?_
            refine L_y rfl (y_sub rfl rfl (show _ = (1 : Int) from rfl)) rfl ?_
            refine L_y rfl (y_nilCheck rfl) rfl ?_
            refine L_y rfl (y_fieldAddr rfl fl_110_0) rfl ?_
            refine L_y rfl (y_indexA rfl rfl Try.underlying108 sz_107 (by omega) (by omega) (show _ = 2 from rfl)) rfl ?_
            refine L_y rfl (y_assign rfl) rfl ?_
            refine L_nil ?_
            refine C_seq ?_
            refine C_regionH (m.seg 110 :: H) (by kernel_rfl) ?_
            refine H_y 0 rfl (by kernel_rfl) (by kernel_rfl) (by kernel_rfl) (((hsub (.cons_cons _ (.cons _ (.cons _ (.cons _ (.cons _ (.refl _))))))).trans (hsub_pick [4] rfl))) rfl (y_move rfl) rfl ?_
            refine H_y 1 rfl (by kernel_rfl) (by kernel_rfl) (by kernel_rfl) (((hsub (.cons_cons _ (.cons _ (.cons _ (.cons _ (.cons _ (.refl _))))))).trans (hsub_pick [4] rfl))) rfl (y_nilCheck rfl) rfl ?_
            refine H_y 2 rfl (by kernel_rfl) (by kernel_rfl) (by kernel_rfl) (((hsub (.cons_cons _ (.cons _ (.cons _ (.cons _ (.cons _ (.refl _))))))).trans (hsub_pick [4] rfl))) rfl (y_fieldAddr rfl fl_107_0) rfl ?_
            refine H_y 3 rfl (by kernel_rfl) (by kernel_rfl) (by kernel_rfl) (((hsub (.cons_cons _ (.cons _ (.cons _ (.cons _ (.cons _ (.refl _))))))).trans (hsub_pick [4] rfl))) rfl (y_load rfl ag_24 (sees 0 0 rfl) rfl) rfl ?_
            refine H_y 4 rfl (by kernel_rfl) (by kernel_rfl) (by kernel_rfl) (((hsub (.cons_cons _ (.cons _ (.cons _ (.cons _ (.cons _ (.refl _))))))).trans (hsub_pick [4] rfl))) rfl (y_move rfl) rfl ?_
            refine H_y 5 rfl (by kernel_rfl) (by kernel_rfl) (by kernel_rfl) (((hsub (.cons_cons _ (.cons _ (.cons _ (.cons _ (.cons _ (.refl _))))))).trans (hsub_pick [4] rfl))) rfl (y_move rfl) rfl ?_
            refine H_y 6 rfl (by kernel_rfl) (by kernel_rfl) (by kernel_rfl) (((hsub (.cons_cons _ (.cons _ (.cons _ (.cons _ (.cons _ (.refl _))))))).trans (hsub_pick [4] rfl))) rfl (y_indexA rfl rfl Try.underlying120 sz_32 (by omega) (by omega) (show _ = 0 from rfl)) rfl ?_
            refine H_one 7 rfl (by kernel_rfl) rfl (op_y (y_loadA rfl ag_32 sz_32 (sees 2 0 rfl) (by simp [bs_length, secOf_len, rS_len _ h.oks]) (by first | exact two_hi (rS_len _ h.oks) (rS_len _ h.oks) | exact two_lo (rS_len _ h.oks))) rfl ?_)
            refine ⟨((hsub (.cons_cons _ (.cons _ (.cons _ (.cons _ (.cons _ (.refl _))))))).trans (hsub_pick [4] rfl)), ?_⟩
            refine H_one 8 rfl (by kernel_rfl) rfl (op_call rfl rfl (fun a w => Try.call62 a w) rfl ?_)
            refine ((write_d h true n (A.rS false n) (rS_len _ h.oks) (by have := hQ true; omega)).sub (hsub_pick [0] rfl)).mono ?_
            rintro _ _ ⟨rfl, D2, h2, rfl⟩
            refine ⟨_, rfl, ?_⟩
            refine ⟨((hsub (.cons_cons _ (.cons _ (.cons _ (.cons _ (.cons _ (.refl _))))))).trans (hsub_pick [4] rfl)), ?_⟩
            refine H_y 9 rfl (by kernel_rfl) (by kernel_rfl) (by kernel_rfl) (((hsub (.cons_cons _ (.cons _ (.cons _ (.cons _ (.cons _ (.refl _))))))).trans (hsub_pick [4] rfl))) rfl (y_eqi rfl rfl) rfl ?_
            refine H_done (by kernel_rfl) ?_
            refine C_cond rfl (fun hc6 => ?_) (fun hc6 => ?_)
            · replace hc6 := of_decide_eq_true hc6
              refine C_region ?_
              refine L_y rfl (y_move rfl) rfl ?_
              refine L_y rfl (y_nilCheck rfl) rfl ?_
              refine L_y rfl (y_fieldAddr rfl fl_107_1) rfl ?_
              refine L_y rfl (y_load rfl ag_105 (sees 4 0 rfl) rfl) rfl ?_
              refine L_y rfl (y_move rfl) rfl ?_
              refine L_op rfl (op_delete 4 2 rfl rfl rfl Try.underlying105 Try.underlying3 rfl rfl ?_)
              refine L_nil ?_
              refine C_seq ?_
              refine C_region ?_
              refine L_y rfl (y_assign rfl) rfl ?_
              refine L_y rfl (y_assign rfl) rfl ?_
              refine L_nil ?_
              refine C_ret ?_
              refine B_ret (rv_tmp rfl (rv_tmp rfl rv_nil)) ((hsub (.cons_cons _ (.cons_cons _ (.cons _ (.cons _ (.cons _ (.refl _))))))).trans (hsub_pick [4, 0] rfl)) ?_
              have e0 : healTo m A p n = some true := by simp_all [healTo, Go.Sl.hg0, Go.Sl.hg1]
              have e1 : healM m A p n = (if A.wE true n = 0 then { m with k1 := kDel m.k1 n } else m) := by simp [healM, e0]
              exact ⟨by simp_all [healR, Go.Sl.hg0, Go.Sl.hg1] <;> rfl, D2, h2.to (by simp [healA, e0]), by rw [e1]; first | (rw [if_pos (by simpa using hc6)]; rfl) | (rw [if_neg (by simpa using hc6)]; rfl)⟩
            · replace hc6 := of_decide_eq_false hc6
              refine C_skip ?_
              refine C_seq ?_
              refine C_region ?_
              refine L_y rfl (y_assign rfl) rfl ?_
              refine L_y rfl (y_assign rfl) rfl ?_
              refine L_nil ?_
              refine C_ret ?_
              refine B_ret (rv_tmp rfl (rv_tmp rfl rv_nil)) ((hsub (.cons_cons _ (.cons_cons _ (.cons _ (.cons _ (.cons _ (.refl _))))))).trans (hsub_pick [4, 0] rfl)) ?_
              have e0 : healTo m A p n = some true := by simp_all [healTo, Go.Sl.hg0, Go.Sl.hg1]
              have e1 : healM m A p n = (if A.wE true n = 0 then { m with k1 := kDel m.k1 n } else m) := by simp [healM, e0]
              exact ⟨by simp_all [healR, Go.Sl.hg0, Go.Sl.hg1] <;> rfl, D2, h2.to (by simp [healA, e0]), by rw [e1]; first | (rw [if_pos (by simpa using hc6)]; rfl) | (rw [if_neg (by simpa using hc6)]; rfl)⟩
        · skip
          refine L_y rfl (y_pick_t rfl rfl) rfl ?_
          refine L_y rfl (y_indexA rfl rfl Try.underlying62 sz_4 (by omega) (by omega) (show _ = 1 from rfl)) rfl ?_
          refine L_op rfl (op_store1 1 0 rfl rfl rfl sz_4 rfl (Nat.le_of_ble_eq_true rfl) ?_)
          refine L_nil ?_
          refine C_region ?_
          refine L_y rfl (y_add rfl rfl (show _ = (2 : Int) from rfl)) rfl ?_
          refine L_y rfl (y_move rfl) rfl ?_
          refine L_nil ?_
          refine In_round ?_
          refine C_seq ?_
          refine C_region ?_
          refine L_y rfl (y_lss rfl rfl) rfl ?_
          refine L_nil ?_
          refine C_seq ?_
          refine C_cond_f rfl ?_
          refine C_exit ?_
          refine C_seq ?_
          refine C_region ?_
          refine L_y rfl (y_assign rfl) rfl ?_
          refine L_nil ?_
          refine C_seq ?_
          refine C_block ?_
          refine C_seq ?_
          refine C_region ?_
          refine L_y rfl (y_indexA rfl rfl Try.underlying62 sz_4 (by omega) (by omega) (show _ = 0 from rfl)) rfl ?_
          refine L_y rfl (y_load rfl ag_4 (sees 1 0 rfl) rfl) rfl ?_
          refine L_y rfl (y_not rfl) rfl ?_
          refine L_y rfl (y_move rfl) rfl ?_
          refine L_skip rfl rfl ?_
          refine L_skip rfl rfl ?_
          refine L_skip rfl rfl ?_
          refine L_y rfl (y_pick_f rfl rfl) rfl ?_
          refine L_y rfl (y_assign rfl) rfl ?_
          refine L_nil ?_
          refine C_cond_f rfl ?_
          refine C_seq ?_
          refine C_region ?_
          refine L_y rfl (y_indexA rfl rfl Try.underlying62 sz_4 (by omega) (by omega) (show _ = 0 from rfl)) rfl ?_
          refine L_y rfl (y_load rfl ag_4 (sees 1 0 rfl) rfl) rfl ?_
          refine L_y rfl (y_move rfl) rfl ?_
          refine L_y rfl (y_indexA rfl rfl Try.underlying62 sz_4 (by omega) (by omega) (show _ = 1 from rfl)) rfl ?_
          refine L_y rfl (y_load rfl ag_4 (sees 1 0 rfl) rfl) rfl ?_
          refine L_y rfl (y_pick_t rfl rfl) rfl ?_
          refine L_y rfl (y_move rfl) rfl ?_
          refine L_skip rfl rfl ?_
          refine L_skip rfl rfl ?_
          refine L_skip rfl rfl ?_
          refine L_skip rfl rfl ?_
          refine L_skip rfl rfl ?_
          refine L_y rfl (y_pick_f rfl rfl) rfl ?_
          refine L_y rfl (y_assign rfl) rfl ?_
          refine L_nil ?_
          refine C_cond_f rfl ?_
          refine C_seq ?_
          refine C_region ?_
          refine L_y rfl (y_indexA rfl rfl Try.underlying62 sz_4 (by omega) (by omega) (show _ = 0 from rfl)) rfl ?_
          refine L_y rfl (y_load rfl ag_4 (sees 1 0 rfl) rfl) rfl ?_
          refine L_y rfl (y_not rfl) rfl ?_
          refine L_y rfl (y_assign rfl) rfl ?_
          refine L_nil ?_
          refine C_cond_f rfl ?_
          refine C_skip ?_
          refine C_seq ?_
          refine C_seq ?_
          refine C_region ?_
          refine L_y rfl (y_move rfl) rfl ?_
          refine L_y rfl (y_move rfl) rfl ?_
          refine L_y rfl (y_sub rfl rfl (show _ = (1 : Int) from rfl)) rfl ?_
          refine L_y rfl (y_nilCheck rfl) rfl ?_
          refine L_y rfl (y_fieldAddr rfl fl_110_0) rfl ?_
          refine L_y rfl (y_indexA rfl rfl Try.underlying108 sz_107 (by omega) (by omega) (show _ = 2 from rfl)) rfl ?_
          refine L_y rfl (y_assign rfl) rfl ?_
          refine L_nil ?_
          refine C_seq ?_
          refine C_regionH (m.seg 110 :: H) (by kernel_rfl) ?_
          refine H_y 0 rfl (by kernel_rfl) (by kernel_rfl) (by kernel_rfl) (((hsub (.cons_cons _ (.cons _ (.cons _ (.cons _ (.cons _ (.refl _))))))).trans (hsub_pick [4] rfl))) rfl (y_move rfl) rfl ?_
          refine H_y 1 rfl (by kernel_rfl) (by kernel_rfl) (by kernel_rfl) (((hsub (.cons_cons _ (.cons _ (.cons _ (.cons _ (.cons _ (.refl _))))))).trans (hsub_pick [4] rfl))) rfl (y_nilCheck rfl) rfl ?_
          refine H_y 2 rfl (by kernel_rfl) (by kernel_rfl) (by kernel_rfl) (((hsub (.cons_cons _ (.cons _ (.cons _ (.cons _ (.cons _ (.refl _))))))).trans (hsub_pick [4] rfl))) rfl (y_fieldAddr rfl fl_107_0) rfl ?_
          refine H_y 3 rfl (by kernel_rfl) (by kernel_rfl) (by kernel_rfl) (((hsub (.cons_cons _ (.cons _ (.cons _ (.cons _ (.cons _ (.refl _))))))).trans (hsub_pick [4] rfl))) rfl (y_load rfl ag_24 (sees 0 0 rfl) rfl) rfl ?_
          refine H_y 4 rfl (by kernel_rfl) (by kernel_rfl) (by kernel_rfl) (((hsub (.cons_cons _ (.cons _ (.cons _ (.cons _ (.cons _ (.refl _))))))).trans (hsub_pick [4] rfl))) rfl (y_move rfl) rfl ?_
          refine H_y 5 rfl (by kernel_rfl) (by kernel_rfl) (by kernel_rfl) (((hsub (.cons_cons _ (.cons _ (.cons _ (.cons _ (.cons _ (.refl _))))))).trans (hsub_pick [4] rfl))) rfl (y_move rfl) rfl ?_
          refine H_y 6 rfl (by kernel_rfl) (by kernel_rfl) (by kernel_rfl) (((hsub (.cons_cons _ (.cons _ (.cons _ (.cons _ (.cons _ (.refl _))))))).trans (hsub_pick [4] rfl))) rfl (y_indexA rfl rfl Try.underlying120 sz_32 (by omega) (by omega) (show _ = 0 from rfl)) rfl ?_
          refine H_one 7 rfl (by kernel_rfl) rfl (op_y (y_loadA rfl ag_32 sz_32 (sees 2 0 rfl) (by simp [bs_length, secOf_len, rS_len _ h.oks]) (by first | exact two_hi (rS_len _ h.oks) (rS_len _ h.oks) | exact two_lo (rS_len _ h.oks))) rfl ?_)
          refine ⟨((hsub (.cons_cons _ (.cons _ (.cons _ (.cons _ (.cons _ (.refl _))))))).trans (hsub_pick [4] rfl)), ?_⟩
          refine H_one 8 rfl (by kernel_rfl) rfl (op_call rfl rfl (fun a w => Try.call62 a w) rfl ?_)
          refine ((write_d h true n (A.rS false n) (rS_len _ h.oks) (by have := hQ true; omega)).sub (hsub_pick [0] rfl)).mono ?_
          rintro _ _ ⟨rfl, D3, h3, rfl⟩
          refine ⟨_, rfl, ?_⟩
          refine ⟨((hsub (.cons_cons _ (.cons _ (.cons _ (.cons _ (.cons _ (.refl _))))))).trans (hsub_pick [4] rfl)), ?_⟩
          refine H_y 9 rfl (by kernel_rfl) (by kernel_rfl) (by kernel_rfl) (((hsub (.cons_cons _ (.cons _ (.cons _ (.cons _ (.cons _ (.refl _))))))).trans (hsub_pick [4] rfl))) rfl (y_eqi rfl rfl) rfl ?_
          refine H_done (by kernel_rfl) ?_
          refine C_cond rfl (fun hc6 => ?_) (fun hc6 => ?_)
          · replace hc6 := of_decide_eq_true hc6
            refine C_region ?_
            refine L_y rfl (y_move rfl) rfl ?_
            refine L_y rfl (y_nilCheck rfl) rfl ?_
            refine L_y rfl (y_fieldAddr rfl fl_107_1) rfl ?_
            refine L_y rfl (y_load rfl ag_105 (sees 4 0 rfl) rfl) rfl ?_
            refine L_y rfl (y_move rfl) rfl ?_
            refine L_op rfl (op_delete 4 2 rfl rfl rfl Try.underlying105 Try.underlying3 rfl rfl ?_)
            refine L_nil ?_
            refine C_seq ?_
            refine C_region ?_
            refine L_y rfl (y_assign rfl) rfl ?_
            refine L_y rfl (y_assign rfl) rfl ?_
            refine L_nil ?_
            refine C_ret ?_
            refine B_ret (rv_tmp rfl (rv_tmp rfl rv_nil)) ((hsub (.cons_cons _ (.cons_cons _ (.cons _ (.cons _ (.cons _ (.refl _))))))).trans (hsub_pick [4, 0] rfl)) ?_
            have e0 : healTo m A p n = some true := by simp_all [healTo, Go.Sl.hg0, Go.Sl.hg1]
            have e1 : healM m A p n = (if A.wE true n = 0 then { m with k1 := kDel m.k1 n } else m) := by simp [healM, e0]
            exact ⟨by simp_all [healR, Go.Sl.hg0, Go.Sl.hg1] <;> rfl, D3, h3.to (by simp [healA, e0]), by rw [e1]; first | (rw [if_pos (by simpa using hc6)]; rfl) | (rw [if_neg (by simpa using hc6)]; rfl)⟩
          · replace hc6 := of_decide_eq_false hc6
            refine C_skip ?_
            refine C_seq ?_
            refine C_region ?_
            refine L_y rfl (y_assign rfl) rfl ?_
            refine L_y rfl (y_assign rfl) rfl ?_
            refine L_nil ?_
            refine C_ret ?_
            refine B_ret (rv_tmp rfl (rv_tmp rfl rv_nil)) ((hsub (.cons_cons _ (.cons_cons _ (.cons _ (.cons _ (.cons _ (.refl _))))))).trans (hsub_pick [4, 0] rfl)) ?_
            have e0 : healTo m A p n = some true := by simp_all [healTo, Go.Sl.hg0, Go.Sl.hg1]
            have e1 : healM m A p n = (if A.wE true n = 0 then { m with k1 := kDel m.k1 n } else m) := by simp [healM, e0]
            exact ⟨by simp_all [healR, Go.Sl.hg0, Go.Sl.hg1] <;> rfl, D3, h3.to (by simp [healA, e0]), by rw [e1]; first | (rw [if_pos (by simpa using hc6)]; rfl) | (rw [if_neg (by simpa using hc6)]; rfl)⟩
      · skip
        refine L_skip rfl rfl ?_
        refine L_skip rfl rfl ?_
        refine L_skip rfl rfl ?_
        refine L_skip rfl rfl ?_
        refine L_skip rfl rfl ?_
        refine L_skip rfl rfl ?_
        refine L_y rfl (y_pick_f rfl rfl) rfl ?_
        refine L_y rfl (y_indexA rfl rfl Try.underlying62 sz_4 (by omega) (by omega) (show _ = 1 from rfl)) rfl ?_
        refine L_op rfl (op_store1 1 0 rfl rfl rfl sz_4 rfl (Nat.le_of_ble_eq_true rfl) ?_)
        refine L_nil ?_
        refine C_region ?_
        refine L_y rfl (y_add rfl rfl (show _ = (2 : Int) from rfl)) rfl ?_
        refine L_y rfl (y_move rfl) rfl ?_
        refine L_nil ?_
        refine In_round ?_
        refine C_seq ?_
        refine C_region ?_
        refine L_y rfl (y_lss rfl rfl) rfl ?_
        refine L_nil ?_
        refine C_seq ?_
        refine C_cond_f rfl ?_
        refine C_exit ?_
        refine C_seq ?_
        refine C_region ?_
        refine L_y rfl (y_assign rfl) rfl ?_
        refine L_nil ?_
        refine C_seq ?_
        refine C_block ?_
        refine C_seq ?_
        refine C_region ?_
        refine L_y rfl (y_indexA rfl rfl Try.underlying62 sz_4 (by omega) (by omega) (show _ = 0 from rfl)) rfl ?_
        refine L_y rfl (y_load rfl ag_4 (sees 1 0 rfl) rfl) rfl ?_
        refine L_y rfl (y_not rfl) rfl ?_
        refine L_y rfl (y_move rfl) rfl ?_
        refine L_skip rfl rfl ?_
        refine L_skip rfl rfl ?_
        refine L_skip rfl rfl ?_
        refine L_y rfl (y_pick_f rfl rfl) rfl ?_
        refine L_y rfl (y_assign rfl) rfl ?_
        refine L_nil ?_
        refine C_cond_f rfl ?_
        refine C_seq ?_
        refine C_region ?_
        refine L_y rfl (y_indexA rfl rfl Try.underlying62 sz_4 (by omega) (by omega) (show _ = 0 from rfl)) rfl ?_
        refine L_y rfl (y_load rfl ag_4 (sees 1 0 rfl) rfl) rfl ?_
        refine L_y rfl (y_move rfl) rfl ?_
        refine L_y rfl (y_indexA rfl rfl Try.underlying62 sz_4 (by omega) (by omega) (show _ = 1 from rfl)) rfl ?_
        refine L_y rfl (y_load rfl ag_4 (sees 1 0 rfl) rfl) rfl ?_
        refine L_y rfl (y_pick_t rfl rfl) rfl ?_
        refine L_y rfl (y_move rfl) rfl ?_
        refine L_skip rfl rfl ?_
        refine L_skip rfl rfl ?_
        refine L_skip rfl rfl ?_
        refine L_skip rfl rfl ?_
        refine L_skip rfl rfl ?_
        refine L_y rfl (y_pick_f rfl rfl) rfl ?_
        refine L_y rfl (y_assign rfl) rfl ?_
        refine L_nil ?_
        refine C_cond_f rfl ?_
        refine C_seq ?_
        refine C_region ?_
        refine L_y rfl (y_indexA rfl rfl Try.underlying62 sz_4 (by omega) (by omega) (show _ = 0 from rfl)) rfl ?_
        refine L_y rfl (y_load rfl ag_4 (sees 1 0 rfl) rfl) rfl ?_
        refine L_y rfl (y_not rfl) rfl ?_
        refine L_y rfl (y_assign rfl) rfl ?_
        refine L_nil ?_
        refine C_cond_f rfl ?_
        refine C_skip ?_
        refine C_seq ?_
        refine C_seq ?_
        refine C_region ?_
        refine L_y rfl (y_move rfl) rfl ?_
        refine L_y rfl (y_move rfl) rfl ?_
        refine L_y rfl (y_sub rfl rfl (show _ = (1 : Int) from rfl)) rfl ?_
        refine L_y rfl (y_nilCheck rfl) rfl ?_
        refine L_y rfl (y_fieldAddr rfl fl_110_0) rfl ?_
        refine L_y rfl (y_indexA rfl rfl Try.underlying108 sz_107 (by omega) (by omega) (show _ = 2 from rfl)) rfl ?_
        refine L_y rfl (y_assign rfl) rfl ?_
        refine L_nil ?_
        refine C_seq ?_
        refine C_regionH (m.seg 110 :: H) (by kernel_rfl) ?_
        refine H_y 0 rfl (by kernel_rfl) (by kernel_rfl) (by kernel_rfl) (((hsub (.cons_cons _ (.cons _ (.cons _ (.cons _ (.cons _ (.refl _))))))).trans (hsub_pick [4] rfl))) rfl (y_move rfl) rfl ?_
        refine H_y 1 rfl (by kernel_rfl) (by kernel_rfl) (by kernel_rfl) (((hsub (.cons_cons _ (.cons _ (.cons _ (.cons _ (.cons _ (.refl _))))))).trans (hsub_pick [4] rfl))) rfl (y_nilCheck rfl) rfl ?_
        refine H_y 2 rfl (by kernel_rfl) (by kernel_rfl) (by kernel_rfl) (((hsub (.cons_cons _ (.cons _ (.cons _ (.cons _ (.cons _ (.refl _))))))).trans (hsub_pick [4] rfl))) rfl (y_fieldAddr rfl fl_107_0) rfl ?_
        refine H_y 3 rfl (by kernel_rfl) (by kernel_rfl) (by kernel_rfl) (((hsub (.cons_cons _ (.cons _ (.cons _ (.cons _ (.cons _ (.refl _))))))).trans (hsub_pick [4] rfl))) rfl (y_load rfl ag_24 (sees 0 0 rfl) rfl) rfl ?_
        refine H_y 4 rfl (by kernel_rfl) (by kernel_rfl) (by kernel_rfl) (((hsub (.cons_cons _ (.cons _ (.cons _ (.cons _ (.cons _ (.refl _))))))).trans (hsub_pick [4] rfl))) rfl (y_move rfl) rfl ?_
        refine H_y 5 rfl (by kernel_rfl) (by kernel_rfl) (by kernel_rfl) (((hsub (.cons_cons _ (.cons _ (.cons _ (.cons _ (.cons _ (.refl _))))))).trans (hsub_pick [4] rfl))) rfl (y_move rfl) rfl ?_
        refine H_y 6 rfl (by kernel_rfl) (by kernel_rfl) (by kernel_rfl) (((hsub (.cons_cons _ (.cons _ (.cons _ (.cons _ (.cons _ (.refl _))))))).trans (hsub_pick [4] rfl))) rfl (y_indexA rfl rfl Try.underlying120 sz_32 (by omega) (by omega) (show _ = 0 from rfl)) rfl ?_
        refine H_one 7 rfl (by kernel_rfl) rfl (op_y (y_loadA rfl ag_32 sz_32 (sees 2 0 rfl) (by simp [bs_length, secOf_len, rS_len _ h.oks]) (by first | exact two_hi (rS_len _ h.oks) (rS_len _ h.oks) | exact two_lo (rS_len _ h.oks))) rfl ?_)
        refine ⟨((hsub (.cons_cons _ (.cons _ (.cons _ (.cons _ (.cons _ (.refl _))))))).trans (hsub_pick [4] rfl)), ?_⟩
        refine H_one 8 rfl (by kernel_rfl) rfl (op_call rfl rfl (fun a w => Try.call62 a w) rfl ?_)
        refine ((write_d h true n (A.rS false n) (rS_len _ h.oks) (by have := hQ true; omega)).sub (hsub_pick [0] rfl)).mono ?_
        rintro _ _ ⟨rfl, D4, h4, rfl⟩
        refine ⟨_, rfl, ?_⟩
        refine ⟨((hsub (.cons_cons _ (.cons _ (.cons _ (.cons _ (.cons _ (.refl _))))))).trans (hsub_pick [4] rfl)), ?_⟩
        refine H_y 9 rfl (by kernel_rfl) (by kernel_rfl) (by kernel_rfl) (((hsub (.cons_cons _ (.cons _ (.cons _ (.cons _ (.cons _ (.refl _))))))).trans (hsub_pick [4] rfl))) rfl (y_eqi rfl rfl) rfl ?_
        refine H_done (by kernel_rfl) ?_
        refine C_cond rfl (fun hc6 => ?_) (fun hc6 => ?_)
        · replace hc6 := of_decide_eq_true hc6
          refine C_region ?_
          refine L_y rfl (y_move rfl) rfl ?_
          refine L_y rfl (y_nilCheck rfl) rfl ?_
          refine L_y rfl (y_fieldAddr rfl fl_107_1) rfl ?_
          refine L_y rfl (y_load rfl ag_105 (sees 4 0 rfl) rfl) rfl ?_
          refine L_y rfl (y_move rfl) rfl ?_
          refine L_op rfl (op_delete 4 2 rfl rfl rfl Try.underlying105 Try.underlying3 rfl rfl ?_)
          refine L_nil ?_
          refine C_seq ?_
          refine C_region ?_
          refine L_y rfl (y_assign rfl) rfl ?_
          refine L_y rfl (y_assign rfl) rfl ?_
          refine L_nil ?_
          refine C_ret ?_
          refine B_ret (rv_tmp rfl (rv_tmp rfl rv_nil)) ((hsub (.cons_cons _ (.cons_cons _ (.cons _ (.cons _ (.cons _ (.refl _))))))).trans (hsub_pick [4, 0] rfl)) ?_
          have e0 : healTo m A p n = some true := by simp_all [healTo, Go.Sl.hg0, Go.Sl.hg1]
          have e1 : healM m A p n = (if A.wE true n = 0 then { m with k1 := kDel m.k1 n } else m) := by simp [healM, e0]
          exact ⟨by simp_all [healR, Go.Sl.hg0, Go.Sl.hg1] <;> rfl, D4, h4.to (by simp [healA, e0]), by rw [e1]; first | (rw [if_pos (by simpa using hc6)]; rfl) | (rw [if_neg (by simpa using hc6)]; rfl)⟩
        · replace hc6 := of_decide_eq_false hc6
          refine C_skip ?_
          refine C_seq ?_
          refine C_region ?_
          refine L_y rfl (y_assign rfl) rfl ?_
          refine L_y rfl (y_assign rfl) rfl ?_
          refine L_nil ?_
          refine C_ret ?_
          refine B_ret (rv_tmp rfl (rv_tmp rfl rv_nil)) ((hsub (.cons_cons _ (.cons_cons _ (.cons _ (.cons _ (.cons _ (.refl _))))))).trans (hsub_pick [4, 0] rfl)) ?_
          have e0 : healTo m A p n = some true := by simp_all [healTo, Go.Sl.hg0, Go.Sl.hg1]
          have e1 : healM m A p n = (if A.wE true n = 0 then { m with k1 := kDel m.k1 n } else m) := by simp [healM, e0]
          exact ⟨by simp_all [healR, Go.Sl.hg0, Go.Sl.hg1] <;> rfl, D4, h4.to (by simp [healA, e0]), by rw [e1]; first | (rw [if_pos (by simpa using hc6)]; rfl) | (rw [if_neg (by simpa using hc6)]; rfl)⟩
    · skip
      refine L_y rfl (y_pick_t rfl rfl) rfl ?_
      refine L_y rfl (y_indexA rfl rfl Try.underlying62 sz_4 (by omega) (by omega) (show _ = 0 from rfl)) rfl ?_
      refine L_op rfl (op_store1 1 0 rfl rfl rfl sz_4 rfl (Nat.le_of_ble_eq_true rfl) ?_)
      refine L_nil ?_
      refine C_region ?_
      refine L_y rfl (y_add rfl rfl (show _ = (1 : Int) from rfl)) rfl ?_
      refine L_y rfl (y_move rfl) rfl ?_
      refine L_nil ?_
      refine In_round ?_
      refine C_seq ?_
      refine C_region ?_
      refine L_y rfl (y_lss rfl rfl) rfl ?_
      refine L_nil ?_
      refine C_seq ?_
      refine C_cond_t rfl ?_
      refine C_skip ?_
      refine C_seq ?_
      refine C_block ?_
      refine C_seq ?_
      refine C_region ?_
      refine L_y rfl (y_move rfl) rfl ?_
      refine L_y rfl (y_assign rfl) rfl ?_
      refine L_nil ?_
      refine C_seq ?_
      refine C_region ?_
      refine L_y rfl (y_move rfl) rfl ?_
      refine L_y rfl (y_move rfl) rfl ?_
      refine L_y rfl (y_move rfl) rfl ?_
      refine L_y rfl (y_nilCheck rfl) rfl ?_
      refine L_y rfl (y_fieldAddr rfl fl_110_0) rfl ?_
      refine L_y rfl (y_indexA rfl rfl Try.underlying108 sz_107 (by omega) (by omega) (show _ = 2 from rfl)) rfl ?_
      refine L_y rfl (y_fieldAddr rfl fl_107_0) rfl ?_
      refine L_y rfl (y_load rfl ag_24 (sees 4 0 rfl) rfl) rfl ?_
      refine L_y rfl (y_move rfl) rfl ?_
      refine L_op rfl (op_call rfl rfl (fun a w => Try.call60 a w) rfl ?_)
      refine ((read_d h true (n)).sub (hsub_pick [0] rfl)).mono ?_
      rintro _ _ ⟨rfl, rfl⟩
      refine ⟨_, rfl, ?_⟩
      refine L_y rfl (y_move rfl) rfl ?_
      refine L_y rfl (y_extract rfl rfl) rfl ?_
      refine L_y rfl (y_extract rfl rfl) rfl ?_
      refine L_y rfl (y_indexA rfl rfl Try.underlying120 sz_32 (by omega) (by omega) (show _ = 128 from rfl)) rfl ?_
      skip
      refine L_op rfl (op_store (vs := bs (A.rS true n)) 2 0 rfl rfl rfl sz_32 (by rw [bs_length, rS_len _ h.oks]) rfl (bs_one _) (by simp [bs_length, secOf_len, rS_len _ h.oks]) ?_)
      rw [spl_hi (rS_len _ h.oks) (by rw [secOf_len, rS_len _ h.oks])]
      refine L_nil ?_
      refine C_region ?_
      refine L_y rfl (y_move rfl) rfl ?_
      refine L_y rfl (y_move rfl) rfl ?_
      refine L_y rfl (y_move rfl) rfl ?_
      refine L_y rfl (y_nilCheck rfl) rfl ?_
      refine L_y rfl (y_fieldAddr rfl fl_110_0) rfl ?_
      refine L_y rfl (y_indexA rfl rfl Try.underlying108 sz_107 (by omega) (by omega) (show _ = 2 from rfl)) rfl ?_
      refine L_y rfl (y_fieldAddr rfl fl_107_1) rfl ?_
      refine L_y rfl (y_load rfl ag_105 (sees 4 0 rfl) rfl) rfl ?_
      refine L_y rfl (y_move rfl) rfl ?_
      refine L_y rfl (y_lookup rfl rfl Try.underlying105 Try.underlying3 zt_4 (sees 4 2 rfl)) rfl ?_
      refine L_y rfl (y_not rfl) rfl ?_
      refine L_y rfl (y_move rfl) rfl ?_
      refine L_case 47 rfl (fun hg11_12 => ?_) (fun hg11_12 => ?_)
      · skip
        refine L_y rfl (y_move rfl) rfl ?_
        refine L_y rfl (y_move rfl) rfl ?_
        refine L_y rfl (y_move rfl) rfl ?_
        refine L_y rfl (y_indexA rfl rfl Try.underlying120 sz_32 (by omega) (by omega) (show _ = 128 from rfl)) rfl ?_
        refine L_y rfl (y_loadA rfl ag_32 sz_32 (sees 2 0 rfl) (by simp [bs_length, secOf_len, rS_len _ h.oks]) (by first | exact two_hi (rS_len _ h.oks) (rS_len _ h.oks) | exact two_lo (rS_len _ h.oks))) rfl ?_
        refine L_op rfl (op_call rfl rfl (fun a w => Try.call61 a w) rfl ?_)
        refine FnS.mono (right_m (sees 4 0 rfl) (hG.sub (hsub (.cons _ (.cons _ (.cons _ (.cons _ (.cons _ (.refl _)))))))) n _ (rS_len _ h.oks)) ?_
        rintro _ _ ⟨rfl, e⟩
        obtain rfl := e.symm
        refine ⟨_, rfl, ?_⟩
        refine L_case 53 rfl (fun hg11_18 => ?_) (fun hg11_18 => ?_)
        · skip
          refine L_y rfl (y_pick_t rfl rfl) rfl ?_
          refine L_y rfl (y_indexA rfl rfl Try.underlying62 sz_4 (by omega) (by omega) (show _ = 1 from rfl)) rfl ?_
          refine L_op rfl (op_store1 1 0 rfl rfl rfl sz_4 rfl (Nat.le_of_ble_eq_true rfl) ?_)
          refine L_nil ?_
          refine C_region ?_
          refine L_y rfl (y_add rfl rfl (show _ = (2 : Int) from rfl)) rfl ?_
          refine L_y rfl (y_move rfl) rfl ?_
          refine L_nil ?_
          refine In_round ?_
          refine C_seq ?_
          refine C_region ?_
          refine L_y rfl (y_lss rfl rfl) rfl ?_
          refine L_nil ?_
          refine C_seq ?_
          refine C_cond_f rfl ?_
          refine C_exit ?_
          refine C_seq ?_
          refine C_region ?_
          refine L_y rfl (y_assign rfl) rfl ?_
          refine L_nil ?_
          refine C_seq ?_
          refine C_block ?_
          refine C_seq ?_
          refine C_region ?_
          refine L_y rfl (y_indexA rfl rfl Try.underlying62 sz_4 (by omega) (by omega) (show _ = 0 from rfl)) rfl ?_
          refine L_y rfl (y_load rfl ag_4 (sees 1 0 rfl) rfl) rfl ?_
          refine L_y rfl (y_not rfl) rfl ?_
          refine L_y rfl (y_move rfl) rfl ?_
          refine L_y rfl (y_indexA rfl rfl Try.underlying62 sz_4 (by omega) (by omega) (show _ = 1 from rfl)) rfl ?_
          refine L_y rfl (y_load rfl ag_4 (sees 1 0 rfl) rfl) rfl ?_
          refine L_y rfl (y_not rfl) rfl ?_
          refine L_y rfl (y_pick_t rfl rfl) rfl ?_
          refine L_y rfl (y_assign rfl) rfl ?_
          refine L_nil ?_
          refine C_cond_f rfl ?_
          refine C_seq ?_
          refine C_region ?_
          refine L_y rfl (y_indexA rfl rfl Try.underlying62 sz_4 (by omega) (by omega) (show _ = 0 from rfl)) rfl ?_
          refine L_y rfl (y_load rfl ag_4 (sees 1 0 rfl) rfl) rfl ?_
          refine L_y rfl (y_move rfl) rfl ?_
          refine L_skip rfl rfl ?_
          refine L_skip rfl rfl ?_
          refine L_y rfl (y_pick_f rfl rfl) rfl ?_
          refine L_y rfl (y_move rfl) rfl ?_
          refine L_skip rfl rfl ?_
          refine L_skip rfl rfl ?_
          refine L_skip rfl rfl ?_
          refine L_skip rfl rfl ?_
          refine L_skip rfl rfl ?_
          refine L_y rfl (y_pick_f rfl rfl) rfl ?_
          refine L_y rfl (y_assign rfl) rfl ?_
          refine L_nil ?_
          refine C_cond_f rfl ?_
          refine C_seq ?_
          refine C_region ?_
          refine L_y rfl (y_indexA rfl rfl Try.underlying62 sz_4 (by omega) (by omega) (show _ = 0 from rfl)) rfl ?_
          refine L_y rfl (y_load rfl ag_4 (sees 1 0 rfl) rfl) rfl ?_
          refine L_y rfl (y_not rfl) rfl ?_
          refine L_y rfl (y_assign rfl) rfl ?_
          refine L_nil ?_
          refine C_cond_t rfl ?_
          refine C_region ?_
          refine L_y rfl (y_assign rfl) rfl ?_
          refine L_nil ?_
          refine C_seq ?_
          refine C_seq ?_
          refine C_region ?_
          refine L_y rfl (y_move rfl) rfl ?_
          refine L_y rfl (y_move rfl) rfl ?_
          refine L_y rfl (y_sub rfl rfl (show _ = (0 : Int) from rfl)) rfl ?_
          refine L_y rfl (y_nilCheck rfl) rfl ?_
          refine L_y rfl (y_fieldAddr rfl fl_110_0) rfl ?_
          refine L_y rfl (y_indexA rfl rfl Try.underlying108 sz_107 (by omega) (by omega) (show _ = 0 from rfl)) rfl ?_
          refine L_y rfl (y_assign rfl) rfl ?_
          refine L_nil ?_
          refine C_seq ?_
          refine C_regionH (m.seg 110 :: H) (by kernel_rfl) ?_
          refine H_y 0 rfl (by kernel_rfl) (by kernel_rfl) (by kernel_rfl) (((hsub (.cons_cons _ (.cons _ (.cons _ (.cons _ (.cons _ (.refl _))))))).trans (hsub_pick [4] rfl))) rfl (y_move rfl) rfl ?_
          refine H_y 1 rfl (by kernel_rfl) (by kernel_rfl) (by kernel_rfl) (((hsub (.cons_cons _ (.cons _ (.cons _ (.cons _ (.cons _ (.refl _))))))).trans (hsub_pick [4] rfl))) rfl (y_nilCheck rfl) rfl ?_
          refine H_y 2 rfl (by kernel_rfl) (by kernel_rfl) (by kernel_rfl) (((hsub (.cons_cons _ (.cons _ (.cons _ (.cons _ (.cons _ (.refl _))))))).trans (hsub_pick [4] rfl))) rfl (y_fieldAddr rfl fl_107_0) rfl ?_
          refine H_y 3 rfl (by kernel_rfl) (by kernel_rfl) (by kernel_rfl) (((hsub (.cons_cons _ (.cons _ (.cons _ (.cons _ (.cons _ (.refl _))))))).trans (hsub_pick [4] rfl))) rfl (y_load rfl ag_24 (sees 0 0 rfl) rfl) rfl ?_
          refine H_y 4 rfl (by kernel_rfl) (by kernel_rfl) (by kernel_rfl) (((hsub (.cons_cons _ (.cons _ (.cons _ (.cons _ (.cons _ (.refl _))))))).trans (hsub_pick [4] rfl))) rfl (y_move rfl) rfl ?_
          refine H_y 5 rfl (by kernel_rfl) (by kernel_rfl) (by kernel_rfl) (((hsub (.cons_cons _ (.cons _ (.cons _ (.cons _ (.cons _ (.refl _))))))).trans (hsub_pick [4] rfl))) rfl (y_move rfl) rfl ?_
          refine H_y 6 rfl (by kernel_rfl) (by kernel_rfl) (by kernel_rfl) (((hsub (.cons_cons _ (.cons _ (.cons _ (.cons _ (.cons _ (.refl _))))))).trans (hsub_pick [4] rfl))) rfl (y_indexA rfl rfl Try.underlying120 sz_32 (by omega) (by omega) (show _ = 128 from rfl)) rfl ?_
          refine H_one 7 rfl (by kernel_rfl) rfl (op_y (y_loadA rfl ag_32 sz_32 (sees 2 0 rfl) (by simp [bs_length, secOf_len, rS_len _ h.oks]) (by first | exact two_hi (rS_len _ h.oks) (rS_len _ h.oks) | exact two_lo (rS_len _ h.oks))) rfl ?_)
          refine ⟨((hsub (.cons_cons _ (.cons _ (.cons _ (.cons _ (.cons _ (.refl _))))))).trans (hsub_pick [4] rfl)), ?_⟩
          refine H_one 8 rfl (by kernel_rfl) rfl (op_call rfl rfl (fun a w => Try.call62 a w) rfl ?_)
          refine ((write_d h false n (A.rS true n) (rS_len _ h.oks) (by have := hQ false; omega)).sub (hsub_pick [0] rfl)).mono ?_
          rintro _ _ ⟨rfl, D5, h5, rfl⟩
          refine ⟨_, rfl, ?_⟩
          refine ⟨((hsub (.cons_cons _ (.cons _ (.cons _ (.cons _ (.cons _ (.refl _))))))).trans (hsub_pick [4] rfl)), ?_⟩
          refine H_y 9 rfl (by kernel_rfl) (by kernel_rfl) (by kernel_rfl) (((hsub (.cons_cons _ (.cons _ (.cons _ (.cons _ (.cons _ (.refl _))))))).trans (hsub_pick [4] rfl))) rfl (y_eqi rfl rfl) rfl ?_
          refine H_done (by kernel_rfl) ?_
          refine C_cond rfl (fun hc6 => ?_) (fun hc6 => ?_)
          · replace hc6 := of_decide_eq_true hc6
            refine C_region ?_
            refine L_y rfl (y_move rfl) rfl ?_
            refine L_y rfl (y_nilCheck rfl) rfl ?_
            refine L_y rfl (y_fieldAddr rfl fl_107_1) rfl ?_
            refine L_y rfl (y_load rfl ag_105 (sees 4 0 rfl) rfl) rfl ?_
            refine L_y rfl (y_move rfl) rfl ?_
            refine L_op rfl (op_delete 4 1 rfl rfl rfl Try.underlying105 Try.underlying3 rfl rfl ?_)
            refine L_nil ?_
            refine C_seq ?_
            refine C_region ?_
            refine L_y rfl (y_assign rfl) rfl ?_
            refine L_y rfl (y_assign rfl) rfl ?_
            refine L_nil ?_
            refine C_ret ?_
            refine B_ret (rv_tmp rfl (rv_tmp rfl rv_nil)) ((hsub (.cons_cons _ (.cons_cons _ (.cons _ (.cons _ (.cons _ (.refl _))))))).trans (hsub_pick [4, 0] rfl)) ?_
            have e0 : healTo m A p n = some false := by simp_all [healTo, Go.Sl.hg0, Go.Sl.hg1]
            have e1 : healM m A p n = (if A.wE false n = 0 then { m with k0 := kDel m.k0 n } else m) := by simp [healM, e0]
            exact ⟨by simp_all [healR, Go.Sl.hg0, Go.Sl.hg1] <;> rfl, D5, h5.to (by simp [healA, e0]), by rw [e1]; first | (rw [if_pos (by simpa using hc6)]; rfl) | (rw [if_neg (by simpa using hc6)]; rfl)⟩
          · replace hc6 := of_decide_eq_false hc6
            refine C_skip ?_
            refine C_seq ?_
            refine C_region ?_
            refine L_y rfl (y_assign rfl) rfl ?_
            refine L_y rfl (y_assign rfl) rfl ?_
            refine L_nil ?_
            refine C_ret ?_
            refine B_ret (rv_tmp rfl (rv_tmp rfl rv_nil)) ((hsub (.cons_cons _ (.cons_cons _ (.cons _ (.cons _ (.cons _ (.refl _))))))).trans (hsub_pick [4, 0] rfl)) ?_
            have e0 : healTo m A p n = some false := by simp_all [healTo, Go.Sl.hg0, Go.Sl.hg1]
            have e1 : healM m A p n = (if A.wE false n = 0 then { m with k0 := kDel m.k0 n } else m) := by simp [healM, e0]
            exact ⟨by simp_all [healR, Go.Sl.hg0, Go.Sl.hg1] <;> rfl, D5, h5.to (by simp [healA, e0]), by rw [e1]; first | (rw [if_pos (by simpa using hc6)]; rfl) | (rw [if_neg (by simpa using hc6)]; rfl)⟩
        · skip
          refine L_y rfl (y_pick_t rfl rfl) rfl ?_
          refine L_y rfl (y_indexA rfl rfl Try.underlying62 sz_4 (by omega) (by omega) (show _ = 1 from rfl)) rfl ?_
          refine L_op rfl (op_store1 1 0 rfl rfl rfl sz_4 rfl (Nat.le_of_ble_eq_true rfl) ?_)
          refine L_nil ?_
          refine C_region ?_
          refine L_y rfl (y_add rfl rfl (show _ = (2 : Int) from rfl)) rfl ?_
          refine L_y rfl (y_move rfl) rfl ?_
          refine L_nil ?_
          refine In_round ?_
          refine C_seq ?_
          refine C_region ?_
          refine L_y rfl (y_lss rfl rfl) rfl ?_
          refine L_nil ?_
          refine C_seq ?_
          refine C_cond_f rfl ?_
          refine C_exit ?_
          refine C_seq ?_
          refine C_region ?_
          refine L_y rfl (y_assign rfl) rfl ?_
          refine L_nil ?_
          refine C_seq ?_
          refine C_block ?_
          refine C_seq ?_
          refine C_region ?_
          refine L_y rfl (y_indexA rfl rfl Try.underlying62 sz_4 (by omega) (by omega) (show _ = 0 from rfl)) rfl ?_
          refine L_y rfl (y_load rfl ag_4 (sees 1 0 rfl) rfl) rfl ?_
          refine L_y rfl (y_not rfl) rfl ?_
          refine L_y rfl (y_move rfl) rfl ?_
          refine L_y rfl (y_indexA rfl rfl Try.underlying62 sz_4 (by omega) (by omega) (show _ = 1 from rfl)) rfl ?_
          refine L_y rfl (y_load rfl ag_4 (sees 1 0 rfl) rfl) rfl ?_
          refine L_y rfl (y_not rfl) rfl ?_
          refine L_y rfl (y_pick_t rfl rfl) rfl ?_
          refine L_y rfl (y_assign rfl) rfl ?_
          refine L_nil ?_
          refine C_cond_t rfl ?_
          refine C_seq ?_
          refine C_region ?_
          refine L_y rfl (y_assign rfl) rfl ?_
          refine L_y rfl (y_assign rfl) rfl ?_
          refine L_nil ?_
          refine C_ret ?_
          refine B_ret (rv_tmp rfl (rv_tmp rfl rv_nil)) ((hsub (.cons_cons _ (.cons_cons _ (.cons _ (.cons _ (.cons _ (.refl _))))))).trans (hsub_pick [4, 0] rfl)) ?_
          exact ⟨by simp_all [healR, healTo, Go.Sl.hg0, Go.Sl.hg1] <;> rfl, D, h.to (by simp_all [healA, healTo, Go.Sl.hg0, Go.Sl.hg1]), by rw [show healM m A p n = m from by simp_all [healM, healTo, Go.Sl.hg0, Go.Sl.hg1]]; first | done | rfl⟩
      · skip
        refine L_skip rfl rfl ?_
        refine L_skip rfl rfl ?_
        refine L_skip rfl rfl ?_
        refine L_skip rfl rfl ?_
        refine L_skip rfl rfl ?_
        refine L_skip rfl rfl ?_
        refine L_y rfl (y_pick_f rfl rfl) rfl ?_
        refine L_y rfl (y_indexA rfl rfl Try.underlying62 sz_4 (by omega) (by omega) (show _ = 1 from rfl)) rfl ?_
        refine L_op rfl (op_store1 1 0 rfl rfl rfl sz_4 rfl (Nat.le_of_ble_eq_true rfl) ?_)
        refine L_nil ?_
        refine C_region ?_
        refine L_y rfl (y_add rfl rfl (show _ = (2 : Int) from rfl)) rfl ?_
        refine L_y rfl (y_move rfl) rfl ?_
        refine L_nil ?_
        refine In_round ?_
        refine C_seq ?_
        refine C_region ?_
        refine L_y rfl (y_lss rfl rfl) rfl ?_
        refine L_nil ?_
        refine C_seq ?_
        refine C_cond_f rfl ?_
        refine C_exit ?_
        refine C_seq ?_
        refine C_region ?_
        refine L_y rfl (y_assign rfl) rfl ?_
        refine L_nil ?_
        refine C_seq ?_
        refine C_block ?_
        refine C_seq ?_
        refine C_region ?_
        refine L_y rfl (y_indexA rfl rfl Try.underlying62 sz_4 (by omega) (by omega) (show _ = 0 from rfl)) rfl ?_
        refine L_y rfl (y_load rfl ag_4 (sees 1 0 rfl) rfl) rfl ?_
        refine L_y rfl (y_not rfl) rfl ?_
        refine L_y rfl (y_move rfl) rfl ?_
        refine L_y rfl (y_indexA rfl rfl Try.underlying62 sz_4 (by omega) (by omega) (show _ = 1 from rfl)) rfl ?_
        refine L_y rfl (y_load rfl ag_4 (sees 1 0 rfl) rfl) rfl ?_
        refine L_y rfl (y_not rfl) rfl ?_
        refine L_y rfl (y_pick_t rfl rfl) rfl ?_
        refine L_y rfl (y_assign rfl) rfl ?_
        refine L_nil ?_
        refine C_cond_t rfl ?_
        refine C_seq ?_
        refine C_region ?_
        refine L_y rfl (y_assign rfl) rfl ?_
        refine L_y rfl (y_assign rfl) rfl ?_
        refine L_nil ?_
        refine C_ret ?_
        refine B_ret (rv_tmp rfl (rv_tmp rfl rv_nil)) ((hsub (.cons_cons _ (.cons_cons _ (.cons _ (.cons _ (.cons _ (.refl _))))))).trans (hsub_pick [4, 0] rfl)) ?_
        exact ⟨by simp_all [healR, healTo, Go.Sl.hg0, Go.Sl.hg1] <;> rfl, D, h.to (by simp_all [healA, healTo, Go.Sl.hg0, Go.Sl.hg1]), by rw [show healM m A p n = m from by simp_all [healM, healTo, Go.Sl.hg0, Go.Sl.hg1]]; first | done | rfl⟩
  · skip
    refine L_skip rfl rfl ?_
    refine L_skip rfl rfl ?_
    refine L_skip rfl rfl ?_
    refine L_skip rfl rfl ?_
    refine L_skip rfl rfl ?_
    refine L_skip rfl rfl ?_
    refine L_y rfl (y_pick_f rfl rfl) rfl ?_
    refine L_y rfl (y_indexA rfl rfl Try.underlying62 sz_4 (by omega) (by omega) (show _ = 0 from rfl)) rfl ?_
    refine L_op rfl (op_store1 1 0 rfl rfl rfl sz_4 rfl (Nat.le_of_ble_eq_true rfl) ?_)
    refine L_nil ?_
    refine C_region ?_
    refine L_y rfl (y_add rfl rfl (show _ = (1 : Int) from rfl)) rfl ?_
    refine L_y rfl (y_move rfl) rfl ?_
    refine L_nil ?_
    refine In_round ?_
    refine C_seq ?_
    refine C_region ?_
    refine L_y rfl (y_lss rfl rfl) rfl ?_
    refine L_nil ?_
    refine C_seq ?_
    refine C_cond_t rfl ?_
    refine C_skip ?_
    refine C_seq ?_
    refine C_block ?_
    refine C_seq ?_
    refine C_region ?_
    refine L_y rfl (y_move rfl) rfl ?_
    refine L_y rfl (y_assign rfl) rfl ?_
    refine L_nil ?_
    refine C_seq ?_
    refine C_region ?_
    refine L_y rfl (y_move rfl) rfl ?_
    refine L_y rfl (y_move rfl) rfl ?_
    refine L_y rfl (y_move rfl) rfl ?_
    refine L_y rfl (y_nilCheck rfl) rfl ?_
    refine L_y rfl (y_fieldAddr rfl fl_110_0) rfl ?_
    refine L_y rfl (y_indexA rfl rfl Try.underlying108 sz_107 (by omega) (by omega) (show _ = 2 from rfl)) rfl ?_
    refine L_y rfl (y_fieldAddr rfl fl_107_0) rfl ?_
    refine L_y rfl (y_load rfl ag_24 (sees 4 0 rfl) rfl) rfl ?_
    refine L_y rfl (y_move rfl) rfl ?_
    refine L_op rfl (op_call rfl rfl (fun a w => Try.call60 a w) rfl ?_)
    refine ((read_d h true (n)).sub (hsub_pick [0] rfl)).mono ?_
    rintro _ _ ⟨rfl, rfl⟩
    refine ⟨_, rfl, ?_⟩
    refine L_y rfl (y_move rfl) rfl ?_
    refine L_y rfl (y_extract rfl rfl) rfl ?_
    refine L_y rfl (y_extract rfl rfl) rfl ?_
    refine L_y rfl (y_indexA rfl rfl Try.underlying120 sz_32 (by omega) (by omega) (show _ = 128 from rfl)) rfl ?_
    skip
    refine L_op rfl (op_store (vs := bs (A.rS true n)) 2 0 rfl rfl rfl sz_32 (by rw [bs_length, rS_len _ h.oks]) rfl (bs_one _) (by simp [bs_length, secOf_len, rS_len _ h.oks]) ?_)
    rw [spl_hi (rS_len _ h.oks) (by rw [secOf_len, rS_len _ h.oks])]
    refine L_nil ?_
    refine C_region ?_
    refine L_y rfl (y_move rfl) rfl ?_
    refine L_y rfl (y_move rfl) rfl ?_
    refine L_y rfl (y_move rfl) rfl ?_
    refine L_y rfl (y_nilCheck rfl) rfl ?_
    refine L_y rfl (y_fieldAddr rfl fl_110_0) rfl ?_
    refine L_y rfl (y_indexA rfl rfl Try.underlying108 sz_107 (by omega) (by omega) (show _ = 2 from rfl)) rfl ?_
    refine L_y rfl (y_fieldAddr rfl fl_107_1) rfl ?_
    refine L_y rfl (y_load rfl ag_105 (sees 4 0 rfl) rfl) rfl ?_
    refine L_y rfl (y_move rfl) rfl ?_
    refine L_y rfl (y_lookup rfl rfl Try.underlying105 Try.underlying3 zt_4 (sees 4 2 rfl)) rfl ?_
    refine L_y rfl (y_not rfl) rfl ?_
    refine L_y rfl (y_move rfl) rfl ?_
    refine L_case 47 rfl (fun hg11_12 => ?_) (fun hg11_12 => ?_)
    · skip
      refine L_y rfl (y_move rfl) rfl ?_
      refine L_y rfl (y_move rfl) rfl ?_
      refine L_y rfl (y_move rfl) rfl ?_
      refine L_y rfl (y_indexA rfl rfl Try.underlying120 sz_32 (by omega) (by omega) (show _ = 128 from rfl)) rfl ?_
      refine L_y rfl (y_loadA rfl ag_32 sz_32 (sees 2 0 rfl) (by simp [bs_length, secOf_len, rS_len _ h.oks]) (by first | exact two_hi (rS_len _ h.oks) (rS_len _ h.oks) | exact two_lo (rS_len _ h.oks))) rfl ?_
      refine L_op rfl (op_call rfl rfl (fun a w => Try.call61 a w) rfl ?_)
      refine FnS.mono (right_m (sees 4 0 rfl) (hG.sub (hsub (.cons _ (.cons _ (.cons _ (.cons _ (.cons _ (.refl _)))))))) n _ (rS_len _ h.oks)) ?_
      rintro _ _ ⟨rfl, e⟩
      obtain rfl := e.symm
      refine ⟨_, rfl, ?_⟩
      refine L_case 53 rfl (fun hg11_18 => ?_) (fun hg11_18 => ?_)
      · skip
        refine L_y rfl (y_pick_t rfl rfl) rfl ?_
        refine L_y rfl (y_indexA rfl rfl Try.underlying62 sz_4 (by omega) (by omega) (show _ = 1 from rfl)) rfl ?_
        refine L_op rfl (op_store1 1 0 rfl rfl rfl sz_4 rfl (Nat.le_of_ble_eq_true rfl) ?_)
        refine L_nil ?_
        refine C_region ?_
        refine L_y rfl (y_add rfl rfl (show _ = (2 : Int) from rfl)) rfl ?_
        refine L_y rfl (y_move rfl) rfl ?_
        refine L_nil ?_
        refine In_round ?_
        refine C_seq ?_
        refine C_region ?_
        refine L_y rfl (y_lss rfl rfl) rfl ?_
        refine L_nil ?_
        refine C_seq ?_
        refine C_cond_f rfl ?_
        refine C_exit ?_
        refine C_seq ?_
        refine C_region ?_
        refine L_y rfl (y_assign rfl) rfl ?_
        refine L_nil ?_
        refine C_seq ?_
        refine C_block ?_
        refine C_seq ?_
        refine C_region ?_
        refine L_y rfl (y_indexA rfl rfl Try.underlying62 sz_4 (by omega) (by omega) (show _ = 0 from rfl)) rfl ?_
        refine L_y rfl (y_load rfl ag_4 (sees 1 0 rfl) rfl) rfl ?_
        refine L_y rfl (y_not rfl) rfl ?_
        refine L_y rfl (y_move rfl) rfl ?_
        refine L_y rfl (y_indexA rfl rfl Try.underlying62 sz_4 (by omega) (by omega) (show _ = 1 from rfl)) rfl ?_
        refine L_y rfl (y_load rfl ag_4 (sees 1 0 rfl) rfl) rfl ?_
        refine L_y rfl (y_not rfl) rfl ?_
        refine L_y rfl (y_pick_t rfl rfl) rfl ?_
        refine L_y rfl (y_assign rfl) rfl ?_
        refine L_nil ?_
        refine C_cond_f rfl ?_
        refine C_seq ?_
        refine C_region ?_
        refine L_y rfl (y_indexA rfl rfl Try.underlying62 sz_4 (by omega) (by omega) (show _ = 0 from rfl)) rfl ?_
        refine L_y rfl (y_load rfl ag_4 (sees 1 0 rfl) rfl) rfl ?_
        refine L_y rfl (y_move rfl) rfl ?_
        refine L_skip rfl rfl ?_
        refine L_skip rfl rfl ?_
        refine L_y rfl (y_pick_f rfl rfl) rfl ?_
        refine L_y rfl (y_move rfl) rfl ?_
        refine L_skip rfl rfl ?_
        refine L_skip rfl rfl ?_
        refine L_skip rfl rfl ?_
        refine L_skip rfl rfl ?_
        refine L_skip rfl rfl ?_
        refine L_y rfl (y_pick_f rfl rfl) rfl ?_
        refine L_y rfl (y_assign rfl) rfl ?_
        refine L_nil ?_
        refine C_cond_f rfl ?_
        refine C_seq ?_
        refine C_region ?_
        refine L_y rfl (y_indexA rfl rfl Try.underlying62 sz_4 (by omega) (by omega) (show _ = 0 from rfl)) rfl ?_
        refine L_y rfl (y_load rfl ag_4 (sees 1 0 rfl) rfl) rfl ?_
        refine L_y rfl (y_not rfl) rfl ?_
        refine L_y rfl (y_assign rfl) rfl ?_
        refine L_nil ?_
        refine C_cond_t rfl ?_
        refine C_region ?_
        refine L_y rfl (y_assign rfl) rfl ?_
        refine L_nil ?_
        refine C_seq ?_
        refine C_seq ?_
        refine C_region ?_
        refine L_y rfl (y_move rfl) rfl ?_
        refine L_y rfl (y_move rfl) rfl ?_
        refine L_y rfl (y_sub rfl rfl (show _ = (0 : Int) from rfl)) rfl ?_
        refine L_y rfl (y_nilCheck rfl) rfl ?_
        refine L_y rfl (y_fieldAddr rfl fl_110_0) rfl ?_
        refine L_y rfl (y_indexA rfl rfl Try.underlying108 sz_107 (by omega) (by omega) (show _ = 0 from rfl)) rfl ?_
        refine L_y rfl (y_assign rfl) rfl ?_
        refine L_nil ?_
        refine C_seq ?_
        refine C_regionH (m.seg 110 :: H) (by kernel_rfl) ?_
        refine H_y 0 rfl (by kernel_rfl) (by kernel_rfl) (by kernel_rfl) (((hsub (.cons_cons _ (.cons _ (.cons _ (.cons _ (.cons _ (.refl _))))))).trans (hsub_pick [4] rfl))) rfl (y_move rfl) rfl ?_
        refine H_y 1 rfl (by kernel_rfl) (by kernel_rfl) (by kernel_rfl) (((hsub (.cons_cons _ (.cons _ (.cons _ (.cons _ (.cons _ (.refl _))))))).trans (hsub_pick [4] rfl))) rfl (y_nilCheck rfl) rfl ?_
        refine H_y 2 rfl (by kernel_rfl) (by kernel_rfl) (by kernel_rfl) (((hsub (.cons_cons _ (.cons _ (.cons _ (.cons _ (.cons _ (.refl _))))))).trans (hsub_pick [4] rfl))) rfl (y_fieldAddr rfl fl_107_0) rfl ?_
        refine H_y 3 rfl (by kernel_rfl) (by kernel_rfl) (by kernel_rfl) (((hsub (.cons_cons _ (.cons _ (.cons _ (.cons _ (.cons _ (.refl _))))))).trans (hsub_pick [4] rfl))) rfl (y_load rfl ag_24 (sees 0 0 rfl) rfl) rfl ?_
        refine H_y 4 rfl (by kernel_rfl) (by kernel_rfl) (by kernel_rfl) (((hsub (.cons_cons _ (.cons _ (.cons _ (.cons _ (.cons _ (.refl _))))))).trans (hsub_pick [4] rfl))) rfl (y_move rfl) rfl ?_
        refine H_y 5 rfl (by kernel_rfl) (by kernel_rfl) (by kernel_rfl) (((hsub (.cons_cons _ (.cons _ (.cons _ (.cons _ (.cons _ (.refl _))))))).trans (hsub_pick [4] rfl))) rfl (y_move rfl) rfl ?_
        refine H_y 6 rfl (by kernel_rfl) (by kernel_rfl) (by kernel_rfl) (((hsub (.cons_cons _ (.cons _ (.cons _ (.cons _ (.cons _ (.refl _))))))).trans (hsub_pick [4] rfl))) rfl (y_indexA rfl rfl Try.underlying120 sz_32 (by omega) (by omega) (show _ = 128 from rfl)) rfl ?_
        refine H_one 7 rfl (by kernel_rfl) rfl (op_y (y_loadA rfl ag_32 sz_32 (sees 2 0 rfl) (by simp [bs_length, secOf_len, rS_len _ h.oks]) (by first | exact two_hi (rS_len _ h.oks) (rS_len _ h.oks) | exact two_lo (rS_len _ h.oks))) rfl ?_)
        refine ⟨((hsub (.cons_cons _ (.cons _ (.cons _ (.cons _ (.cons _ (.refl _))))))).trans (hsub_pick [4] rfl)), ?_⟩
        refine H_one 8 rfl (by kernel_rfl) rfl (op_call rfl rfl (fun a w => Try.call62 a w) rfl ?_)
        refine ((write_d h false n (A.rS true n) (rS_len _ h.oks) (by have := hQ false; omega)).sub (hsub_pick [0] rfl)).mono ?_
        rintro _ _ ⟨rfl, D6, h6, rfl⟩
        refine ⟨_, rfl, ?_⟩
        refine ⟨((hsub (.cons_cons _ (.cons _ (.cons _ (.cons _ (.cons _ (.refl _))))))).trans (hsub_pick [4] rfl)), ?_⟩
        refine H_y 9 rfl (by kernel_rfl) (by kernel_rfl) (by kernel_rfl) (((hsub (.cons_cons _ (.cons _ (.cons _ (.cons _ (.cons _ (.refl _))))))).trans (hsub_pick [4] rfl))) rfl (y_eqi rfl rfl) rfl ?_
        refine H_done (by kernel_rfl) ?_
        refine C_cond rfl (fun hc6 => ?_) (fun hc6 => ?_)
        · replace hc6 := of_decide_eq_true hc6
          refine C_region ?_
          refine L_y rfl (y_move rfl) rfl ?_
          refine L_y rfl (y_nilCheck rfl) rfl ?_
          refine L_y rfl (y_fieldAddr rfl fl_107_1) rfl ?_
          refine L_y rfl (y_load rfl ag_105 (sees 4 0 rfl) rfl) rfl ?_
          refine L_y rfl (y_move rfl) rfl ?_
          refine L_op rfl (op_delete 4 1 rfl rfl rfl Try.underlying105 Try.underlying3 rfl rfl ?_)
          refine L_nil ?_
          refine C_seq ?_
          refine C_region ?_
          refine L_y rfl (y_assign rfl) rfl ?_
          refine L_y rfl (y_assign rfl) rfl ?_
          refine L_nil ?_
          refine C_ret ?_
          refine B_ret (rv_tmp rfl (rv_tmp rfl rv_nil)) ((hsub (.cons_cons _ (.cons_cons _ (.cons _ (.cons _ (.cons _ (.refl _))))))).trans (hsub_pick [4, 0] rfl)) ?_
          have e0 : healTo m A p n = some false := by simp_all [healTo, Go.Sl.hg0, Go.Sl.hg1]
          have e1 : healM m A p n = (if A.wE false n = 0 then { m with k0 := kDel m.k0 n } else m) := by simp [healM, e0]
          exact ⟨by simp_all [healR, Go.Sl.hg0, Go.Sl.hg1] <;> rfl, D6, h6.to (by simp [healA, e0]), by rw [e1]; first | (rw [if_pos (by simpa using hc6)]; rfl) | (rw [if_neg (by simpa using hc6)]; rfl)⟩
        · replace hc6 := of_decide_eq_false hc6
          refine C_skip ?_
          refine C_seq ?_
          refine C_region ?_
          refine L_y rfl (y_assign rfl) rfl ?_
          refine L_y rfl (y_assign rfl) rfl ?_
          refine L_nil ?_
          refine C_ret ?_
          refine B_ret (rv_tmp rfl (rv_tmp rfl rv_nil)) ((hsub (.cons_cons _ (.cons_cons _ (.cons _ (.cons _ (.cons _ (.refl _))))))).trans (hsub_pick [4, 0] rfl)) ?_
          have e0 : healTo m A p n = some false := by simp_all [healTo, Go.Sl.hg0, Go.Sl.hg1]
          have e1 : healM m A p n = (if A.wE false n = 0 then { m with k0 := kDel m.k0 n } else m) := by simp [healM, e0]
          exact ⟨by simp_all [healR, Go.Sl.hg0, Go.Sl.hg1] <;> rfl, D6, h6.to (by simp [healA, e0]), by rw [e1]; first | (rw [if_pos (by simpa using hc6)]; rfl) | (rw [if_neg (by simpa using hc6)]; rfl)⟩
      · skip
        refine L_y rfl (y_pick_t rfl rfl) rfl ?_
        refine L_y rfl (y_indexA rfl rfl Try.underlying62 sz_4 (by omega) (by omega) (show _ = 1 from rfl)) rfl ?_
        refine L_op rfl (op_store1 1 0 rfl rfl rfl sz_4 rfl (Nat.le_of_ble_eq_true rfl) ?_)
        refine L_nil ?_
        refine C_region ?_
        refine L_y rfl (y_add rfl rfl (show _ = (2 : Int) from rfl)) rfl ?_
        refine L_y rfl (y_move rfl) rfl ?_
        refine L_nil ?_
        refine In_round ?_
        refine C_seq ?_
        refine C_region ?_
        refine L_y rfl (y_lss rfl rfl) rfl ?_
        refine L_nil ?_
        refine C_seq ?_
        refine C_cond_f rfl ?_
        refine C_exit ?_
        refine C_seq ?_
        refine C_region ?_
        refine L_y rfl (y_assign rfl) rfl ?_
        refine L_nil ?_
        refine C_seq ?_
        refine C_block ?_
        refine C_seq ?_
        refine C_region ?_
        refine L_y rfl (y_indexA rfl rfl Try.underlying62 sz_4 (by omega) (by omega) (show _ = 0 from rfl)) rfl ?_
        refine L_y rfl (y_load rfl ag_4 (sees 1 0 rfl) rfl) rfl ?_
        refine L_y rfl (y_not rfl) rfl ?_
        refine L_y rfl (y_move rfl) rfl ?_
        refine L_y rfl (y_indexA rfl rfl Try.underlying62 sz_4 (by omega) (by omega) (show _ = 1 from rfl)) rfl ?_
        refine L_y rfl (y_load rfl ag_4 (sees 1 0 rfl) rfl) rfl ?_
        refine L_y rfl (y_not rfl) rfl ?_
        refine L_y rfl (y_pick_t rfl rfl) rfl ?_
        refine L_y rfl (y_assign rfl) rfl ?_
        refine L_nil ?_
        refine C_cond_t rfl ?_
        refine C_seq ?_
        refine C_region ?_
        refine L_y rfl (y_assign rfl) rfl ?_
        refine L_y rfl (y_assign rfl) rfl ?_
        refine L_nil ?_
        refine C_ret ?_
        refine B_ret (rv_tmp rfl (rv_tmp rfl rv_nil)) ((hsub (.cons_cons _ (.cons_cons _ (.cons _ (.cons _ (.cons _ (.refl _))))))).trans (hsub_pick [4, 0] rfl)) ?_
        exact ⟨by simp_all [healR, healTo, Go.Sl.hg0, Go.Sl.hg1] <;> rfl, D, h.to (by simp_all [healA, healTo, Go.Sl.hg0, Go.Sl.hg1]), by rw [show healM m A p n = m from by simp_all [healM, healTo, Go.Sl.hg0, Go.Sl.hg1]]; first | done | rfl⟩
    · skip
      refine L_skip rfl rfl ?_
      refine L_skip rfl rfl ?_
      refine L_skip rfl rfl ?_
      refine L_skip rfl rfl ?_
      refine L_skip rfl rfl ?_
      refine L_skip rfl rfl ?_
      refine L_y rfl (y_pick_f rfl rfl) rfl ?_
      refine L_y rfl (y_indexA rfl rfl Try.underlying62 sz_4 (by omega) (by omega) (show _ = 1 from rfl)) rfl ?_
      refine L_op rfl (op_store1 1 0 rfl rfl rfl sz_4 rfl (Nat.le_of_ble_eq_true rfl) ?_)
      refine L_nil ?_
      refine C_region ?_
      refine L_y rfl (y_add rfl rfl (show _ = (2 : Int) from rfl)) rfl ?_
      refine L_y rfl (y_move rfl) rfl ?_
      refine L_nil ?_
      refine In_round ?_
      refine C_seq ?_
      refine C_region ?_
      refine L_y rfl (y_lss rfl rfl) rfl ?_
      refine L_nil ?_
      refine C_seq ?_
      refine C_cond_f rfl ?_
      refine C_exit ?_
      refine C_seq ?_
      refine C_region ?_
      refine L_y rfl (y_assign rfl) rfl ?_
      refine L_nil ?_
      refine C_seq ?_
      refine C_block ?_
      refine C_seq ?_
      refine C_region ?_
      refine L_y rfl (y_indexA rfl rfl Try.underlying62 sz_4 (by omega) (by omega) (show _ = 0 from rfl)) rfl ?_
      refine L_y rfl (y_load rfl ag_4 (sees 1 0 rfl) rfl) rfl ?_
      refine L_y rfl (y_not rfl) rfl ?_
      refine L_y rfl (y_move rfl) rfl ?_
      refine L_y rfl (y_indexA rfl rfl Try.underlying62 sz_4 (by omega) (by omega) (show _ = 1 from rfl)) rfl ?_
      refine L_y rfl (y_load rfl ag_4 (sees 1 0 rfl) rfl) rfl ?_
      refine L_y rfl (y_not rfl) rfl ?_
      refine L_y rfl (y_pick_t rfl rfl) rfl ?_
      refine L_y rfl (y_assign rfl) rfl ?_
      refine L_nil ?_
      refine C_cond_t rfl ?_
      refine C_seq ?_
      refine C_region ?_
      refine L_y rfl (y_assign rfl) rfl ?_
      refine L_y rfl (y_assign rfl) rfl ?_
      refine L_nil ?_
      refine C_ret ?_
      refine B_ret (rv_tmp rfl (rv_tmp rfl rv_nil)) ((hsub (.cons_cons _ (.cons_cons _ (.cons _ (.cons _ (.cons _ (.refl _))))))).trans (hsub_pick [4, 0] rfl)) ?_
      exact ⟨by simp_all [healR, healTo, Go.Sl.hg0, Go.Sl.hg1] <;> rfl, D, h.to (by simp_all [healA, healTo, Go.Sl.hg0, Go.Sl.hg1]), by rw [show healM m A p n = m from by simp_all [healM, healTo, Go.Sl.hg0, Go.Sl.hg1]]; first | done | rfl⟩

set_option maxHeartbeats 4000000 in

theorem heal_tf {w0 : World} {H : Hp} {D : Duo} {A : Da} {bp : Nat} {m : Mi} (h : Two dt D A m.bx m.bys bp) {p : Int → Sec → Bool} (hG : GoodAt Try.prog w0 H m.gv p) (n : Int) (hQ : ∀ i, (A.dev i).Q.length < 99990) (hn : m.has n = true) (hp : thr A false = true) (hq : thr A true = false) : FnS Try.prog w0 23 #[ptr m.b, .int .i64 n] (m.seg 110 :: D.seg dt :: H) (fun e H' => e = .returned (.tuple #[.int .i64 (healR m A p n).1, .int .i64 (healR m A p n).2]) ∧ ∃ D', Two dt D' (healA m A p n) m.bx m.bys bp ∧ H' = (healM m A p n).seg 110 :: D'.seg dt :: H) := by
  refine FnS_intro (n := 105) (rs := [.tmp 4, .tmp 5]) (vs := [ptr m.b, .int .i64 n]) Try.func23 rfl Try.ntmps23 rfl rfl ?_
  refine C_seq ?_
  refine C_region ?_
  refine L_y rfl (y_assign rfl) rfl ?_
  refine L_y rfl (y_assign rfl) rfl ?_
  refine L_nil ?_
  refine C_seq ?_
  refine C_seq ?_
  refine C_region ?_
  refine L_y rfl (y_move rfl) rfl ?_
  refine L_y rfl (y_move rfl) rfl ?_
  refine L_op rfl (op_call rfl rfl (fun a w => Try.call58 a w) rfl ?_)
  refine (has_m _ (sees 0 0 rfl)).mono ?_
  rintro _ _ ⟨rfl, rfl⟩
  rw [hn]
  refine ⟨_, rfl, ?_⟩
  refine L_y rfl (y_not rfl) rfl ?_
  refine L_nil ?_
  refine C_cond_f rfl ?_
  refine C_skip ?_
  refine C_seq ?_
  refine C_seq ?_
  refine C_region ?_
  refine L_y rfl (y_move rfl) rfl ?_
  refine L_op rfl (op_call rfl rfl (fun a w => Try.call59 a w) rfl ?_)
  refine ((present_tf h hp hq).sub (hsub_pick [0, 0] rfl)).mono ?_
  rintro _ _ ⟨g1, hg1, rfl, rfl⟩
  cases g1 with
  | none => exact slOk_none hg1 (by decide)
  | some g1 => ?_
  refine ⟨_, rfl, ?_⟩
  refine L_y rfl (y_lenS rfl rfl Try.underlying118) rfl ?_
  refine L_y rfl (y_lss rfl rfl) rfl ?_
  refine L_nil ?_
  refine C_cond_t rfl ?_
  refine C_seq ?_
  refine C_region ?_
  refine L_y rfl (y_assign rfl) rfl ?_
  refine L_y rfl (y_assign rfl) rfl ?_
  refine L_nil ?_
  refine C_ret ?_
  refine B_ret (rv_tmp rfl (rv_tmp rfl rv_nil)) ((hsub (.cons_cons _ (.cons_cons _ (.cons _ (.refl _))))).trans (hsub_pick [1, 1] rfl)) ?_
  exact ⟨by simp_all [healR, healTo, Go.Sl.hg0, Go.Sl.hg1] <;> rfl, D, h.to (by simp_all [healA, healTo, Go.Sl.hg0, Go.Sl.hg1]), by rw [show healM m A p n = m from by simp_all [healM, healTo, Go.Sl.hg0, Go.Sl.hg1]]; first | done | rfl⟩

set_option maxHeartbeats 4000000 in

theorem heal_ft {w0 : World} {H : Hp} {D : Duo} {A : Da} {bp : Nat} {m : Mi} (h : Two dt D A m.bx m.bys bp) {p : Int → Sec → Bool} (hG : GoodAt Try.prog w0 H m.gv p) (n : Int) (hQ : ∀ i, (A.dev i).Q.length < 99990) (hn : m.has n = true) (hp : thr A false = false) (hq : thr A true = true) : FnS Try.prog w0 23 #[ptr m.b, .int .i64 n] (m.seg 110 :: D.seg dt :: H) (fun e H' => e = .returned (.tuple #[.int .i64 (healR m A p n).1, .int .i64 (healR m A p n).2]) ∧ ∃ D', Two dt D' (healA m A p n) m.bx m.bys bp ∧ H' = (healM m A p n).seg 110 :: D'.seg dt :: H) := by
  refine FnS_intro (n := 105) (rs := [.tmp 4, .tmp 5]) (vs := [ptr m.b, .int .i64 n]) Try.func23 rfl Try.ntmps23 rfl rfl ?_
  refine C_seq ?_
  refine C_region ?_
  refine L_y rfl (y_assign rfl) rfl ?_
  refine L_y rfl (y_assign rfl) rfl ?_
  refine L_nil ?_
  refine C_seq ?_
  refine C_seq ?_
  refine C_region ?_
  refine L_y rfl (y_move rfl) rfl ?_
  refine L_y rfl (y_move rfl) rfl ?_
  refine L_op rfl (op_call rfl rfl (fun a w => Try.call58 a w) rfl ?_)
  refine (has_m _ (sees 0 0 rfl)).mono ?_
  rintro _ _ ⟨rfl, rfl⟩
  rw [hn]
  refine ⟨_, rfl, ?_⟩
  refine L_y rfl (y_not rfl) rfl ?_
  refine L_nil ?_
  refine C_cond_f rfl ?_
  refine C_skip ?_
  refine C_seq ?_
  refine C_seq ?_
  refine C_region ?_
  refine L_y rfl (y_move rfl) rfl ?_
  refine L_op rfl (op_call rfl rfl (fun a w => Try.call59 a w) rfl ?_)
  refine ((present_ft h hp hq).sub (hsub_pick [0, 0] rfl)).mono ?_
  rintro _ _ ⟨g1, hg1, rfl, rfl⟩
  cases g1 with
  | none => exact slOk_none hg1 (by decide)
  | some g1 => ?_
  refine ⟨_, rfl, ?_⟩
  refine L_y rfl (y_lenS rfl rfl Try.underlying118) rfl ?_
  refine L_y rfl (y_lss rfl rfl) rfl ?_
  refine L_nil ?_
  refine C_cond_t rfl ?_
  refine C_seq ?_
  refine C_region ?_
  refine L_y rfl (y_assign rfl) rfl ?_
  refine L_y rfl (y_assign rfl) rfl ?_
  refine L_nil ?_
  refine C_ret ?_
  refine B_ret (rv_tmp rfl (rv_tmp rfl rv_nil)) ((hsub (.cons_cons _ (.cons_cons _ (.cons _ (.refl _))))).trans (hsub_pick [1, 1] rfl)) ?_
  exact ⟨by simp_all [healR, healTo, Go.Sl.hg0, Go.Sl.hg1] <;> rfl, D, h.to (by simp_all [healA, healTo, Go.Sl.hg0, Go.Sl.hg1]), by rw [show healM m A p n = m from by simp_all [healM, healTo, Go.Sl.hg0, Go.Sl.hg1]]; first | done | rfl⟩

set_option maxHeartbeats 4000000 in

theorem heal_ff {w0 : World} {H : Hp} {D : Duo} {A : Da} {bp : Nat} {m : Mi} (h : Two dt D A m.bx m.bys bp) {p : Int → Sec → Bool} (hG : GoodAt Try.prog w0 H m.gv p) (n : Int) (hQ : ∀ i, (A.dev i).Q.length < 99990) (hn : m.has n = true) (hp : thr A false = false) (hq : thr A true = false) : FnS Try.prog w0 23 #[ptr m.b, .int .i64 n] (m.seg 110 :: D.seg dt :: H) (fun e H' => e = .returned (.tuple #[.int .i64 (healR m A p n).1, .int .i64 (healR m A p n).2]) ∧ ∃ D', Two dt D' (healA m A p n) m.bx m.bys bp ∧ H' = (healM m A p n).seg 110 :: D'.seg dt :: H) := by
  refine FnS_intro (n := 105) (rs := [.tmp 4, .tmp 5]) (vs := [ptr m.b, .int .i64 n]) Try.func23 rfl Try.ntmps23 rfl rfl ?_
  refine C_seq ?_
  refine C_region ?_
  refine L_y rfl (y_assign rfl) rfl ?_
  refine L_y rfl (y_assign rfl) rfl ?_
  refine L_nil ?_
  refine C_seq ?_
  refine C_seq ?_
  refine C_region ?_
  refine L_y rfl (y_move rfl) rfl ?_
  refine L_y rfl (y_move rfl) rfl ?_
  refine L_op rfl (op_call rfl rfl (fun a w => Try.call58 a w) rfl ?_)
  refine (has_m _ (sees 0 0 rfl)).mono ?_
  rintro _ _ ⟨rfl, rfl⟩
  rw [hn]
  refine ⟨_, rfl, ?_⟩
  refine L_y rfl (y_not rfl) rfl ?_
  refine L_nil ?_
  refine C_cond_f rfl ?_
  refine C_skip ?_
  refine C_seq ?_
  refine C_seq ?_
  refine C_region ?_
  refine L_y rfl (y_move rfl) rfl ?_
  refine L_op rfl (op_call rfl rfl (fun a w => Try.call59 a w) rfl ?_)
  refine ((present_ff h hp hq).sub (hsub_pick [0, 0] rfl)).mono ?_
  rintro _ _ ⟨rfl, rfl⟩
  refine ⟨_, rfl, ?_⟩
  refine L_y rfl (y_lenS rfl rfl Try.underlying118) rfl ?_
  refine L_y rfl (y_lss rfl rfl) rfl ?_
  refine L_nil ?_
  refine C_cond_t rfl ?_
  refine C_seq ?_
  refine C_region ?_
  refine L_y rfl (y_assign rfl) rfl ?_
  refine L_y rfl (y_assign rfl) rfl ?_
  refine L_nil ?_
  refine C_ret ?_
  refine B_ret (rv_tmp rfl (rv_tmp rfl rv_nil)) ((hsub (.cons_cons _ (.cons_cons _ (.refl _)))).trans (hsub_pick [0, 0] rfl)) ?_
  exact ⟨by simp_all [healR, healTo, Go.Sl.hg0, Go.Sl.hg1] <;> rfl, D, h.to (by simp_all [healA, healTo, Go.Sl.hg0, Go.Sl.hg1]), by rw [show healM m A p n = m from by simp_all [healM, healTo, Go.Sl.hg0, Go.Sl.hg1]]; first | done | rfl⟩

theorem heal_m {w0 : World} {H : Hp} {D : Duo} {A : Da} {bp : Nat} {m : Mi} (h : Two dt D A m.bx m.bys bp) {p : Int → Sec → Bool} (hG : GoodAt Try.prog w0 H m.gv p) (n : Int) (hQ : ∀ i, (A.dev i).Q.length < 99990) : FnS Try.prog w0 23 #[ptr m.b, .int .i64 n] (m.seg 110 :: D.seg dt :: H) (fun e H' => e = .returned (.tuple #[.int .i64 (healR m A p n).1, .int .i64 (healR m A p n).2]) ∧ ∃ D', Two dt D' (healA m A p n) m.bx m.bys bp ∧ H' = (healM m A p n).seg 110 :: D'.seg dt :: H) := by
  cases hn : m.has n
  · exact heal_no h hG n hQ hn
  · cases hp : thr A false <;> cases hq : thr A true
    · exact heal_ff h hG n hQ hn hp hq
    · exact heal_ft h hG n hQ hn hp hq
    · exact heal_tf h hG n hQ hn hp hq
    · exact heal_tt h hG n hQ hn hp hq

end Go.Proofs.Ytjjiclgbdenkkaa

/- walks (own work; the walks' lines by a program of this repo). -/
set_option linter.unusedVariables false
set_option linter.unusedSimpArgs false
set_option maxRecDepth 20000
namespace Go.Proofs.Ytjjiclgbdenkkaa
open Go.Sl
attribute [local irreducible] BodyQ WpC WpL WpS WpH OpW FnS


theorem healg_v {w0 : World} {H : Hp} {gv : Value} {D : Duo} {A : Da} {m : Mi} {K : Nat} {X Y : List Sec} {k0 k1 mb bx bys bp : Nat} (h : Ms dt gv D A m K X Y k0 k1 mb bx bys bp) {p : Int → Sec → Bool} (hG : GoodAt Try.prog w0 H gv p) {n : Nat} {s t : Sec} (hs : X[n]? = some s) (ht : Y[n]? = some t) (h0 : k0 < 99990) (h1 : k1 < 99990) : FnS Try.prog w0 23 #[ptr mb, .int .i64 (n : Int)] (m.seg 110 :: D.seg dt :: H) (fun e H' => e = .returned (.tuple #[.int .i64 (hC p n s t), .int .i64 0]) ∧ ∃ D' A' m', Ms dt gv D' A' m' K (X.set n (hX p n s t)) (Y.set n (hY p n s t)) (k0 + 1) (k1 + 1) mb bx bys bp ∧ H' = m'.seg 110 :: D'.seg dt :: H) := by
  have hT : Two dt D A m.bx m.bys bp := by rw [h.bx, h.bys]; exact h.two
  have hq : ∀ i, (A.dev i).Q.length < 99990 := fun i => by cases i; exact Nat.lt_of_le_of_lt (h.vw.dev false).many h0; exact Nat.lt_of_le_of_lt (h.vw.dev true).many h1
  have ls := h.okX s (List.mem_of_getElem? hs)
  have lt := h.okY t (List.mem_of_getElem? ht)
  obtain ⟨r, z0, z1, v⟩ := h.vw.heal (p := p) h.n h.s0 h.s1 hs ht ls lt
  have := heal_m (w0 := w0) (H := H) hT (p := p) (by rw [h.gv]; exact hG) (n : Int) hq
  rw [r, h.mb] at this
  refine this.mono ?_
  rintro _ _ ⟨rfl, D', hT', rfl⟩
  obtain ⟨q1, q2, q3, q4, q5⟩ := healM_same m A p n
  rw [h.bx, h.bys] at hT'
  exact ⟨rfl, D', _, _, ⟨hT', v, q1.trans h.mb, q2.trans h.bx, q3.trans h.bys, q4.trans h.n, z0, z1, q5.trans h.gv, set_ok2 h.okX (hX_len ls lt), set_ok2 h.okY (hY_len ls lt)⟩, rfl⟩

end Go.Proofs.Ytjjiclgbdenkkaa

/- walks (own work; the walks' lines by a program of this repo). -/
set_option linter.unusedVariables false
set_option linter.unusedSimpArgs false
set_option maxRecDepth 20000
namespace Go.Proofs.Ytjjiclgbdenkkaa
open Go.Sl
attribute [local irreducible] BodyQ WpC WpL WpS WpH OpW FnS


theorem dwrite_v {w0 : World} {H : Hp} {D : Duo} {A : Da} {K : Nat} {X Y : List Sec} {k0 k1 bx bys bp : Nat} (hT : Two dt D A bx bys bp) (hv : Vw A K X Y k0 k1) (i : Bool) {n : Nat} {s : Sec} (hn : n < K) (hs : s.length = 128) (h0 : k0 < 99990) (h1 : k1 < 99990) : FnS Try.prog w0 62 #[ptr (sel bx bys i), .int .i64 (n : Int), .agg (bs s).toArray] (D.seg dt :: H) (fun e H' => e = .returned (.int .i64 0) ∧ ∃ D' A', Two dt D' A' bx bys bp ∧ Vw A' K (if i then X else X.set n s) (if i then Y.set n s else Y) (if i then k0 else k0 + 1) (if i then k1 + 1 else k1) ∧ H' = D'.seg dt :: H) := by
  obtain ⟨e, w⟩ := hv.write (n := n) (s := s) i hn hs
  have hq : (A.dev i).Q.length < 100000 := by have := (hv.dev i).many; cases i <;> simp only [pick2, Bool.false_eq_true, if_false, if_true] at this <;> omega
  refine (write_d hT i (n : Int) s hs hq).mono ?_
  rintro _ _ ⟨rfl, D', hT', rfl⟩
  rw [e]
  exact ⟨rfl, D', _, hT', w, rfl⟩

theorem dflush_v {w0 : World} {H : Hp} {D : Duo} {A : Da} {K : Nat} {X Y : List Sec} {k0 k1 bx bys bp : Nat} (hT : Two dt D A bx bys bp) (hv : Vw A K X Y k0 k1) (i : Bool) : FnS Try.prog w0 86 #[ptr (sel bx bys i)] (D.seg dt :: H) (fun e H' => e = .returned (.int .i64 0) ∧ ∃ D' A', Two dt D' A' bx bys bp ∧ Vw A' K X Y (if i then k0 else 0) (if i then 0 else k1) ∧ H' = D'.seg dt :: H) := by
  obtain ⟨e, w⟩ := hv.flush i
  refine (flush_d hT i).mono ?_
  rintro _ _ ⟨rfl, D', hT', rfl⟩
  rw [e]
  exact ⟨rfl, D', _, hT', w, rfl⟩

theorem dreadg_v {w0 : World} {H : Hp} {gv : Value} {D : Duo} {A : Da} {m : Mi} {K : Nat} {X Y : List Sec} {k0 k1 mb bx bys bp : Nat} (h : Ms dt gv D A m K X Y k0 k1 mb bx bys bp) (i : Bool) {n : Nat} {s : Sec} (hs : (pick2 i X Y)[n]? = some s) : FnS Try.prog w0 60 #[ptr (sel bx bys i), .int .i64 (n : Int)] (D.seg dt :: H) (fun e H' => e = .returned (.tuple #[.agg (bs s).toArray, .int .i64 0]) ∧ H' = D.seg dt :: H) := by
  refine (read_d h.two i (n : Int)).mono ?_
  rintro _ _ ⟨rfl, rfl⟩
  rw [(h.vw.reads i hs).1, (h.vw.reads i hs).2]
  exact ⟨rfl, rfl⟩

theorem rotg_v {w0 : World} {H : Hp} {gv : Value} {D : Duo} {A : Da} {m : Mi} {K : Nat} {X Y : List Sec} {mb bx bys bp : Nat} (h : Ms dt gv D A m K X Y 0 0 mb bx bys bp) (i : Bool) {n j : Nat} {s : Sec} {c : UInt8} (hs : (pick2 i X Y)[n]? = some s) (hj : j < 128) : FnS Try.prog w0 34 #[ptr (sel bx bys i), .int .i64 (n : Int), .int .i64 (j : Int), .int .u8 (c.toNat : Int)] (D.seg dt :: H) (fun e H' => e = .returned (.bool true) ∧ ∃ D' A', Ms dt gv D' A' m K (if i then X else X.set n (rotB s j c)) (if i then Y.set n (rotB s j c) else Y) 0 0 mb bx bys bp ∧ H' = D'.seg dt :: H) := by
  obtain ⟨e, v⟩ := h.vw.rot (c := c) hs hj
  refine (rot_d h.two i (n : Int) (j : Int) c).mono ?_
  rintro _ _ ⟨rfl, D', hT', rfl⟩
  rw [e]
  have ls : s.length = 128 := by cases i; exact h.okX s (List.mem_of_getElem? hs); exact h.okY s (List.mem_of_getElem? hs)
  refine ⟨rfl, D', _, h.with hT' v ?_ ?_, rfl⟩
  · cases i
    · exact set_ok2 h.okX (rotB_len.trans ls)
    · exact h.okX
  · cases i
    · exact h.okY
    · exact set_ok2 h.okY (rotB_len.trans ls)

theorem dumpg_v {w0 : World} {H : Hp} {gv : Value} {D : Duo} {A : Da} {m : Mi} {K : Nat} {X Y : List Sec} {mb bx bys bp : Nat} (h : Ms dt gv D A m K X Y 0 0 mb bx bys bp) (i : Bool) {Z : List Sec} (hZ : pick2 i X Y = Z) : FnS Try.prog w0 30 #[ptr (sel bx bys i)] (D.seg dt :: H) (fun e H' => ∃ g, slOk 128 g K (bs Z.flatten) ∧ e = .returned (slV g K) ∧ H' = slSeg 32 g (bs Z.flatten) :: D.seg dt :: H) := by
  subst hZ
  have := dump_d (w0 := w0) (H := H) h.two i
  have e : (A.dev i).S = pick2 i X Y := by cases i; exact (h.vw.dev false).stable.2; exact (h.vw.dev true).stable.2
  have hl : (A.dev i).S.length = K := (h.vw.dev i).len
  rw [hl, e] at this
  exact this

end Go.Proofs.Ytjjiclgbdenkkaa

/- Scrubbing what one device missed (own work). -/
set_option linter.unusedVariables false
set_option linter.unusedSimpArgs false
namespace Go.Sl
section
variable {m : Mi} {A B : Da} {p : Int → Sec → Bool} {K : Nat} {X Y : List Sec} {k0 k1 : Nat}
theorem heal_none {j : Nat} {s : Sec} (hh : m.has (j : Int) = true) (t0 : thr A false = true) (t1 : thr A true = true) (g0 : kHas m.k0 (j : Int) = false) (g1 : kHas m.k1 (j : Int) = false) (r0 : A.rS false j = s) (r1 : A.rS true j = s) :
    healA m A p j = A ∧ healM m A p j = m ∧ healR m A p j = (if p j s then 0 else 2, 0) := by
  have e : healTo m A p j = none := by
    unfold healTo hg0 hg1
    rw [hh, t0, t1, g0, g1, r0, r1]
    cases p j s <;> simp
  refine ⟨by unfold healA; rw [e], by unfold healM; rw [e], ?_⟩
  unfold healR hg0 hg1
  rw [hh, t0, t1, g0, g1, r0, r1]
  cases p j s <;> simp
theorem heal_st {j : Nat} {s : Sec} (hh : m.has (j : Int) = true) (t0 : thr A false = true) (t1 : thr A true = true) (g0 : kHas m.k0 (j : Int) = true) (g1 : kHas m.k1 (j : Int) = false) (r1 : A.rS true j = s) :
    healTo m A p j = (if p j s then some false else none) ∧ healR m A p j = (if p j s then 1 else 2, 0) := by
  unfold healTo healR hg0 hg1
  rw [hh, t0, t1, g0, g1, r1]
  cases p j s <;> simp
theorem scr_next (k : Nat) : scr m A p (k + 1) = (healA (scr m A p k).2.1 (scr m A p k).1 p k, healM (scr m A p k).2.1 (scr m A p k).1 p k, cnt (scr m A p k).2.2 (healR (scr m A p k).2.1 (scr m A p k).1 p k)) := rfl
theorem has_of {k : Nat} (hm : m.n = K) (h : k < K) : m.has (k : Int) = true := by simp [Mi.has]; omega
theorem scr_still (h : Vw A K X X k0 k1) (hm : m.n = K) (z0 : m.k0 = []) (z1 : m.k1 = []) : ∀ k, k ≤ K → ∃ a c, scr m A p k = (A, m, (a, 0, c))
  | 0, _ => ⟨0, 0, rfl⟩
  | k + 1, hk => by
    obtain ⟨a, c, e⟩ := scr_still h hm z0 z1 k (by omega)
    have g := gt_get h.a.wlen (show k < K by omega)
    obtain ⟨e1, e2, e3⟩ := heal_none (p := p) (has_of hm (show k < K by omega)) (h.thr false) (h.thr true) (by rw [z0]; rfl) (by rw [z1]; rfl) (h.reads false (s := gt X k) g).1 (h.reads true (s := gt X k) g).1
    rw [scr_next, e]
    dsimp only
    rw [e1, e2, e3]
    cases p k (gt X k)
    · exact ⟨a, c + 1, rfl⟩
    · exact ⟨a + 1, c, rfl⟩
theorem kHas_one {t : Nat} {c : Nat} {j : Nat} : kHas [((t : Int), c)] (j : Int) = decide (j = t) := by
  unfold kHas
  simp only [List.any_cons, List.any_nil, Bool.or_false]
  by_cases h : j = t
  · subst h; simp
  · have : ¬ ((t : Int) = (j : Int)) := by omega
    simp [h, this]
theorem kDel_one {t : Nat} {c : Nat} : kDel [((t : Int), c)] (t : Int) = [] := by simp [kDel]
theorem scr_heals {t : Nat} {s : Sec} {c : Nat} (h : Vw B K X (X.set t s) k0 k1) (ht : t < K) (hs : s.length = 128) (hm : m.n = K) (z0 : m.k0 = [((t : Int), c)]) (z1 : m.k1 = []) (hg : p t s = true) :
    ∀ k, k ≤ K → (k ≤ t → ∃ a b, scr m B p k = (B, m, (a, 0, b))) ∧ (t < k → ∃ a b, scr m B p k = (B.write false t s, { m with k0 := [] }, (a, 1, b)))
  | 0, _ => ⟨fun _ => ⟨0, 0, rfl⟩, fun h => by omega⟩
  | k + 1, hk => by
    obtain ⟨i1, i2⟩ := scr_heals h ht hs hm z0 z1 hg k (by omega)
    have wl := h.a.wlen
    rcases Nat.lt_trichotomy k t with hlt | rfl | hgt
    · refine ⟨fun _ => ?_, fun h => by omega⟩
      obtain ⟨a, b, e⟩ := i1 (by omega)
      have g := gt_get wl (show k < K by omega)
      have g2 : (X.set t s)[k]? = some (gt X k) := by rw [List.getElem?_set_ne (by omega)]; exact g
      obtain ⟨e1, e2, e3⟩ := heal_none (p := p) (has_of hm (show k < K by omega)) (h.thr false) (h.thr true) (by rw [z0, kHas_one, decide_eq_false (by omega)]) (by rw [z1]; rfl) (h.reads false (s := gt X k) g).1 (h.reads true (s := gt X k) g2).1
      rw [scr_next, e]
      dsimp only
      rw [e1, e2, e3]
      cases p k (gt X k)
      · exact ⟨a, b + 1, rfl⟩
      · exact ⟨a + 1, b, rfl⟩
    · refine ⟨fun h => by omega, fun _ => ?_⟩
      obtain ⟨a, b, e⟩ := i1 (Nat.le_refl _)
      have g2 : (X.set k s)[k]? = some s := by rw [List.getElem?_set_self (by omega)]
      have r1 := (h.reads true (s := s) g2).1
      obtain ⟨e1, e2⟩ := heal_st (p := p) (has_of hm ht) (h.thr false) (h.thr true) (by rw [z0, kHas_one, decide_eq_true rfl]) (by rw [z1]; rfl) r1
      rw [hg] at e1 e2
      have w := (h.write (n := k) (s := s) false ht hs).1
      rw [scr_next, e]
      dsimp only
      unfold healA healM
      rw [e1, e2]
      simp only [if_true, Bool.not_false, r1, w, Bool.false_eq_true, if_false]
      refine ⟨a, b, ?_⟩
      rw [z0, kDel_one]
      rfl
    · refine ⟨fun h => by omega, fun _ => ?_⟩
      obtain ⟨a, b, e⟩ := i2 (by omega)
      have v := (h.write (n := t) (s := s) false ht hs).2
      simp only [Bool.false_eq_true, if_false] at v
      have g := gt_get v.a.wlen (show k < K by omega)
      obtain ⟨e1, e2, e3⟩ := heal_none (m := { m with k0 := [] }) (p := p) (has_of (m := { m with k0 := [] }) hm (show k < K by omega)) (v.thr false) (v.thr true) rfl (by show kHas m.k1 _ = _; rw [z1]; rfl) (v.reads false (s := gt (X.set t s) k) g).1 (v.reads true (s := gt (X.set t s) k) g).1
      rw [scr_next, e]
      dsimp only
      rw [e1, e2, e3]
      cases p k (gt (X.set t s) k)
      · exact ⟨a, b + 1, rfl⟩
      · exact ⟨a + 1, b, rfl⟩
theorem scr_loses {t : Nat} {s : Sec} {c : Nat} (h : Vw B K X (X.set t s) k0 k1) (ht : t < K) (hm : m.n = K) (z0 : m.k0 = [((t : Int), c)]) (z1 : m.k1 = []) (hg : p t s = false) :
    ∀ k, k ≤ K → ∃ (a : Int) (b : Nat), scr m B p k = (B, m, (a, 0, (b : Int))) ∧ (t < k → 1 ≤ b)
  | 0, _ => ⟨0, 0, rfl, fun h => by omega⟩
  | k + 1, hk => by
    obtain ⟨a, b, e, i2⟩ := scr_loses h ht hm z0 z1 hg k (by omega)
    have wl := h.a.wlen
    by_cases hkt : k = t
    · subst hkt
      have g2 : (X.set k s)[k]? = some s := by rw [List.getElem?_set_self (by omega)]
      have r1 := (h.reads true (s := s) g2).1
      obtain ⟨e1, e2⟩ := heal_st (p := p) (has_of hm ht) (h.thr false) (h.thr true) (by rw [z0, kHas_one, decide_eq_true rfl]) (by rw [z1]; rfl) r1
      rw [hg] at e1 e2
      rw [scr_next, e]
      dsimp only
      unfold healA healM
      rw [e1, e2]
      exact ⟨a, b + 1, rfl, fun _ => by omega⟩
    · have g := gt_get wl (show k < K by omega)
      have g2 : (X.set t s)[k]? = some (gt X k) := by rw [List.getElem?_set_ne (by omega)]; exact g
      obtain ⟨e1, e2, e3⟩ := heal_none (p := p) (has_of hm (show k < K by omega)) (h.thr false) (h.thr true) (by rw [z0, kHas_one, decide_eq_false (by omega)]) (by rw [z1]; rfl) (h.reads false (s := gt X k) g).1 (h.reads true (s := gt X k) g2).1
      rw [scr_next, e]
      dsimp only
      rw [e1, e2, e3]
      cases p k (gt X k)
      · exact ⟨a, b + 1, rfl, fun _ => by omega⟩
      · exact ⟨a + 1, b, rfl, fun h => i2 (by omega)⟩
/-- A write while the first device is out, and in again. -/
theorem put_out {t : Nat} {s : Sec} (h : Vw A K X Y 0 k1) (ht : t < K) (hm : m.n = K) (z0 : m.k0 = []) (z1 : m.k1 = []) :
    putE m (A.setd false ((A.dev false).outs true)) askAll t s = 0 ∧
    (putDa m (A.setd false ((A.dev false).outs true)) askAll t s).setd false (((putDa m (A.setd false ((A.dev false).outs true)) askAll t s).dev false).outs false) = A.write true t s ∧
    (putm m (A.setd false ((A.dev false).outs true)) askAll t s).k0 = [((t : Int), m.c0)] ∧ (putm m (A.setd false ((A.dev false).outs true)) askAll t s).k1 = [] ∧
    (putm m (A.setd false ((A.dev false).outs true)) askAll t s).b = m.b ∧ (putm m (A.setd false ((A.dev false).outs true)) askAll t s).bx = m.bx ∧ (putm m (A.setd false ((A.dev false).outs true)) askAll t s).bys = m.bys ∧
    (putm m (A.setd false ((A.dev false).outs true)) askAll t s).n = m.n ∧ (putm m (A.setd false ((A.dev false).outs true)) askAll t s).gv = m.gv := by
  have c2 : (A.setd false ((A.dev false).outs true)).calm := Da.calm_setd h.calm false _
  have to : thr (A.setd false ((A.dev false).outs true)) false = false := by simp [thr, Da.setd, Da.dev, Ab.outs, Ab.down]
  have ti : thr (A.setd false ((A.dev false).outs true)) true = true := h.thr true
  have hh := has_of hm ht
  obtain ⟨w1, w2⟩ := Da.write_calm h.calm true (t : Int) s
  obtain ⟨v1, v2⟩ := Da.write_calm c2 true (t : Int) s
  have hd := h.dev true
  have hx : (A.dev true).has (t : Int) = true := by rw [hd.has]; simp; omega
  have ho : (A.dev true).out = false := hd.out
  rw [ho, hx] at w1 w2
  rw [show (A.setd false ((A.dev false).outs true)).dev true = A.dev true from rfl, ho, hx] at v1 v2
  simp only [Bool.not_false, Bool.and_self, if_true, Bool.false_eq_true, if_false] at w1 w2 v1 v2
  have pa : pA (A.setd false ((A.dev false).outs true)) false askAll t s = A.setd false ((A.dev false).outs true) := by unfold pA; rw [to]; rfl
  have d0 : putD (A.setd false ((A.dev false).outs true)) askAll t s false = false := by unfold putD pd; rw [to]; rfl
  have d1 : putD (A.setd false ((A.dev false).outs true)) askAll t s true = true := by unfold putD pd; rw [pa, ti, v2]; rfl
  have pt : putA (A.setd false ((A.dev false).outs true)) askAll t s = (A.setd false ((A.dev false).outs true)).setd true ((A.dev true).push t s) := by
    unfold putA; rw [pa]; unfold pA; rw [ti, v1]; rfl
  have hq : (A.dev false).Q = [] := List.eq_nil_of_length_eq_zero (by have := (h.dev false).many; simp only [pick2] at this; simp at this; simp [this])
  have hf := (h.dev false).out
  refine ⟨?_, ?_, ?_, ?_, ?_⟩
  · unfold putE; rw [hh, d0, d1]; rfl
  · unfold putDa; rw [hh, if_pos rfl, pt, w1]
    obtain ⟨a, b, q, r⟩ := A
    obtain ⟨S, Q, k, by_, l, o⟩ := a
    simp only [Da.dev] at hq hf
    subst hq hf
    rfl
  · unfold putm; rw [hh, d0, d1]; simp [Mi.mark, z0, kPut, kHas]
  · unfold putm; rw [hh, d0, d1]; simp [Mi.mark, z1, kDel]
  · unfold putm; rw [hh, d0, d1]; exact ⟨rfl, rfl, rfl, rfl, rfl⟩
end
/-- The sector of that law. -/
def sec3 (u v w : UInt8) : Sec := u :: v :: w :: List.replicate 125 0
theorem sec3_len (u v w : UInt8) : (sec3 u v w).length = 128 := by simp [sec3]
theorem sec3_fill (u v w : UInt8) : bs (sec3 u v w) = Value.int .u8 (u.toNat : Int) :: Value.int .u8 (v.toNat : Int) :: Value.int .u8 (w.toNat : Int) :: List.replicate 125 (Value.int .u8 0) := by simp [sec3, bs, u8]
theorem pb_zero (k : Nat) : zcells [Value.int .u8 0, .int .u8 0] k = bs (pb (List.replicate k (0, 0))) := by
  induction k with
  | zero => rfl
  | succ k ih =>
    have : zcells [Value.int .u8 0, .int .u8 0] (k + 1) = [Value.int .u8 0, .int .u8 0] ++ zcells [Value.int .u8 0, .int .u8 0] k := by simp [zcells, List.replicate_succ]
    rw [this, ih]
    rfl
theorem prX_zero {k : Nat} : prX (List.replicate k (0, 0)) k = prX (List.replicate k (0, 0)) k := rfl
end Go.Sl
namespace Go.Sl
theorem gset {X : List Sec} {K t : Nat} {s : Sec} (h : X.length = K) (ht : t < K) : (X.set t s)[t]? = some s := by rw [List.getElem?_set_self (by omega)]
end Go.Sl
namespace Go.Sl
/-- The sectors of such first bytes. -/
def secs (k : Nat) (ua : List UInt8) : List Sec := (List.range k).map fun i => sec3 (ua.getD (0 + i * 2 + 0) 0) (ua.getD (0 + i * 2 + 1) 0) 9
theorem secs_at {k i : Nat} {ua : List UInt8} (h : i < k) : (secs k ua)[i]? = some (sec3 (ua.getD (0 + i * 2 + 0) 0) (ua.getD (0 + i * 2 + 1) 0) 9) := by simp [secs, h]
theorem secs_len (k : Nat) (ua : List UInt8) : (secs k ua).length = k := by simp [secs]
theorem secs_ok (k : Nat) (ua : List UInt8) : ∀ s ∈ secs k ua, s.length = 128 := fun s hs => by
  obtain ⟨i, _, rfl⟩ := List.mem_map.1 hs
  exact sec3_len _ _ _
theorem rdv_same {p : Int → Sec → Bool} {n : Int} {s : Sec} {b : Bool} (h : p n s = b) : rdv p n s s = (if b then s else secOf 0) ∧ rde p n s s = (if b then 0 else 9) ∧ gl p n s s = (if b then [s, s] else []) := by
  unfold rdv rde gl
  rw [h]
  cases b <;> simp
end Go.Sl

/- walks (own work; the walks' lines by a program of this repo). -/
set_option linter.unusedVariables false
set_option linter.unusedSimpArgs false
set_option maxRecDepth 20000
namespace Go.Proofs.Ytjjiclgbdenkkaa
open Go.Sl
attribute [local irreducible] BodyQ WpC WpL WpS WpH OpW FnS


theorem sector3_s {w0 : World} {H : Hp} (x y : UInt8) : FnS Try.prog w0 20 #[.int .u8 (x.toNat : Int), .int .u8 (y.toNat : Int)] H (fun e H' => e = .returned (.agg (bs (sec3 x y 9)).toArray) ∧ H' = H) := by
  refine FnS_intro (n := 8) (rs := [.cell 4 32]) (vs := [.int .u8 (x.toNat : Int), .int .u8 (y.toNat : Int)]) Try.func20 rfl Try.ntmps20 rfl rfl ?_
  refine C_seq ?_
  refine C_region ?_
  refine L_op rfl (op_alloc zl_32 rfl (fun B1 => ?_))
  refine L_nil ?_
  refine C_seq ?_
  refine C_region ?_
  refine L_y rfl (y_move rfl) rfl ?_
  refine L_y rfl (y_move rfl) rfl ?_
  refine L_y rfl (y_buildA (vs := [(0, _), (1, _), (2, _)]) (l := bs (sec3 x y 9)) rfl Try.underlying32 sz_5 zl_32 (by rw [sec3_fill]; exact (fill_cons (off := 0) (m := 1) (vs := [_]) rfl rfl rfl (Nat.le_of_ble_eq_true rfl) (fill_cons (off := 1) (m := 1) (vs := [_]) rfl rfl rfl (Nat.le_of_ble_eq_true rfl) (fill_cons (off := 2) (m := 1) (vs := [_]) rfl rfl rfl (Nat.le_of_ble_eq_true rfl) rfl))))) rfl ?_
  refine L_op rfl (op_storeA 0 0 rfl rfl rfl sz_32 (by rw [bs_length, sec3_len]) rfl (bs_one _) (by simp) ?_)
  refine L_nil ?_
  refine C_ret ?_
  refine B_ret (rv_cellA rfl ag_32 sz_32 (sees 0 0 rfl) (Nat.le_of_ble_eq_true rfl) rfl rv_nil) (hsub (.cons _ (.refl _))) ?_
  exact ⟨rfl, rfl⟩

theorem awake09_s {w0 : World} {H : Hp} : FnS Try.prog w0 15 #[] H (fun e H' => e = .returned (.bool true) ∧ H' = H) := by
  refine FnS_intro (n := 56) (rs := [.tmp 0]) (vs := []) Try.func15 rfl Try.ntmps15 rfl rfl ?_
  refine C_seq ?_
  refine C_region ?_
  refine L_y rfl (y_assign rfl) rfl ?_
  refine L_nil ?_
  refine C_seq ?_
  refine C_region ?_
  refine L_op rfl (op_call rfl rfl (fun a w => Try.call16 a w) rfl ?_)
  refine (new_ln 5).mono ?_
  rintro _ _ ⟨d91, p91, hG91, ha91, hP91, rfl, rfl⟩
  have hA91 : d91.a = Ab.new 5 := by rw [ha91] <;> (rfl)
  have hb91 : d91.b = d91.b := rfl
  refine ⟨_, rfl, ?_⟩
  refine L_op rfl (op_call rfl rfl (fun a w => Try.call16 a w) rfl ?_)
  refine ((newnil_d hG91 rfl 5).sub (hsub_pick [0, 0, 0, 0, 0] rfl)).mono ?_
  rintro _ _ ⟨by81, D81, h81, rfl, rfl⟩
  replace h81 := h81.to (B := ⟨Ab.new 5, Ab.new 5, q0, some q0⟩) (by rw [hA91, hP91] <;> (rfl))
  have hv1 : Vw ⟨Ab.new 5, Ab.new 5, q0, some q0⟩ 5 (List.replicate 5 (secOf 0)) (List.replicate 5 (secOf 0)) 0 0 := Vw.new (by omega) (some q0) (.inr rfl)
  refine ⟨_, rfl, ?_⟩
  refine L_y rfl (y_assign rfl) rfl ?_
  refine L_y rfl (y_assign rfl) rfl ?_
  refine L_nil ?_
  refine C_seq ?_
  refine C_region ?_
  refine L_y rfl (y_move rfl) rfl ?_
  refine L_y rfl (y_move rfl) rfl ?_
  refine L_op rfl (op_call rfl rfl (fun a w => Try.call17 a w) rfl ?_)
  refine (FnS.sub (hsub_pick [0] rfl) (new_v (f := 18) (cap := []) h81 hv1 (fun s hs => by rw [List.eq_of_mem_replicate hs]; exact secOf_len _) (fun s hs => by rw [List.eq_of_mem_replicate hs]; exact secOf_len _))).mono ?_
  rintro _ _ ⟨mb2, m2, hS2, rfl, rfl⟩
  refine ⟨_, rfl, ?_⟩
  refine L_y rfl (y_assign rfl) rfl ?_
  refine L_nil ?_
  refine C_seq ?_
  refine C_region ?_
  refine L_y rfl (y_move rfl) rfl ?_
  refine L_op rfl (op_call rfl rfl (fun a w => Try.call20 a w) rfl ?_)
  refine (sector3_s 1 0).mono ?_
  rintro _ _ ⟨rfl, e⟩
  obtain rfl := e.symm
  clear e
  refine ⟨_, rfl, ?_⟩
  refine L_op rfl (op_call rfl rfl (fun a w => Try.call19 a w) rfl ?_)
  refine (FnS.sub (hsub_pick [0, 0] rfl) (write_v hS2 (n := 3) (s := (sec3 1 0 9)) (by decide) (sec3_len _ _ _) (by omega) (by omega))).mono ?_
  rintro _ _ ⟨rfl, D3, A3, hS3, rfl⟩
  refine ⟨_, rfl, ?_⟩
  refine L_y rfl (y_assign rfl) rfl ?_
  refine L_nil ?_
  refine C_seq ?_
  refine C_region ?_
  refine L_y rfl (y_move rfl) rfl ?_
  refine L_op rfl (op_call rfl rfl (fun a w => Try.call21 a w) rfl ?_)
  refine (FnS.sub (hsub_pick [0, 0] rfl) (flush_v hS3)).mono ?_
  rintro _ _ ⟨rfl, D4, A4, hS4, rfl⟩
  refine ⟨_, rfl, ?_⟩
  refine L_y rfl (y_assign rfl) rfl ?_
  refine L_nil ?_
  refine C_seq ?_
  refine C_seq ?_
  refine C_region ?_
  refine L_y rfl (y_move rfl) rfl ?_
  refine L_op rfl (op_call rfl rfl (fun a w => Try.call34 a w) rfl ?_)
  refine (FnS.sub (hsub_pick [1] rfl) (rotg_v hS4 false (n := 3) (j := 0) (c := 1) (s := (sec3 1 0 9)) rfl (by decide))).mono ?_
  rintro _ _ ⟨rfl, D5, A5, hS5, rfl⟩
  simp only [Bool.false_eq_true, if_false, if_true] at hS5
  refine ⟨_, rfl, ?_⟩
  refine L_y rfl (y_not rfl) rfl ?_
  refine L_nil ?_
  refine C_cond_f rfl ?_
  refine C_skip ?_
  refine C_seq ?_
  refine C_region ?_
  refine L_y rfl (y_move rfl) rfl ?_
  refine L_op rfl (op_call rfl rfl (fun a w => Try.call22 a w) rfl ?_)
  refine (FnS.sub (hsub_pick [1, 0] rfl) (readg_v hS5 good_at (n := 3) (s := (sec3 0 0 9)) (show _ = some (sec3 0 0 9) from rfl) (t := (sec3 1 0 9)) rfl)).mono ?_
  rintro _ _ ⟨e4, rfl⟩
  rw [show rdv goodP ((3 : Nat) : Int) (sec3 0 0 9) (sec3 1 0 9) = (sec3 1 0 9) from by decide +kernel, show rde goodP ((3 : Nat) : Int) (sec3 0 0 9) (sec3 1 0 9) = 0 from by decide +kernel] at e4
  obtain rfl := e4
  refine ⟨_, rfl, ?_⟩
  refine L_y rfl (y_move rfl) rfl ?_
  refine L_y rfl (y_extract rfl rfl) rfl ?_
  refine L_y rfl (y_extract rfl rfl) rfl ?_
  refine L_op rfl (op_alloc zl_32 rfl (fun B1 => ?_))
  refine L_op rfl (op_storeA 0 0 rfl rfl rfl sz_32 (by rw [bs_length, sec3_len _ _ _]) rfl (bs_one _) (by simp) ?_)
  refine L_y rfl (y_assign rfl) rfl ?_
  refine L_nil ?_
  refine C_seq ?_
  refine C_region ?_
  refine L_y rfl (y_move rfl) rfl ?_
  refine L_op rfl (op_call rfl rfl (fun a w => Try.call23 a w) rfl ?_)
  refine (FnS.sub (hsub_pick [1, 1] rfl) (healg_v hS5 good_at (n := 3) (s := (sec3 0 0 9)) (show _ = some (sec3 0 0 9) from rfl) (t := (sec3 1 0 9)) rfl (by omega) (by omega))).mono ?_
  rintro _ _ ⟨e4, D6, A6, m6, hS6, rfl⟩
  rw [show hC goodP 3 (sec3 0 0 9) (sec3 1 0 9) = 1 from by decide +kernel] at e4
  obtain rfl := e4
  refine ⟨_, rfl, ?_⟩
  refine L_y rfl (y_move rfl) rfl ?_
  refine L_y rfl (y_extract rfl rfl) rfl ?_
  refine L_y rfl (y_extract rfl rfl) rfl ?_
  refine L_y rfl (y_assign rfl) rfl ?_
  refine L_y rfl (y_assign rfl) rfl ?_
  refine L_nil ?_
  refine C_seq ?_
  refine C_regionH0 (by kernel_rfl) ?_
  refine H_y 0 rfl (by kernel_rfl) (by kernel_rfl) (by kernel_rfl) (HSub.refl _) rfl (y_move rfl) rfl ?_
  refine H_y 1 rfl (by kernel_rfl) (by kernel_rfl) (by kernel_rfl) (HSub.refl _) rfl (y_eqi rfl rfl) rfl ?_
  refine H_y 2 rfl (by kernel_rfl) (by kernel_rfl) (by kernel_rfl) (HSub.refl _) rfl (y_move rfl) rfl ?_
  refine H_case 35 rfl (fun hg9_3 => ?_) (fun hg9_3 => ?_)
  · skip
    refine H_y 3 rfl (by kernel_rfl) (by kernel_rfl) (by kernel_rfl) (HSub.refl _) rfl (y_move rfl) rfl ?_
    refine H_y 4 rfl (by kernel_rfl) (by kernel_rfl) (by kernel_rfl) (HSub.refl _) rfl (y_eqi rfl rfl) rfl ?_
    refine H_y 5 rfl (by kernel_rfl) (by kernel_rfl) (by kernel_rfl) (HSub.refl _) rfl (y_pick_t rfl rfl) rfl ?_
    refine H_y 6 rfl (by kernel_rfl) (by kernel_rfl) (by kernel_rfl) (HSub.refl _) rfl (y_move rfl) rfl ?_
    refine H_case 39 rfl (fun hg9_7 => ?_) (fun hg9_7 => ?_)
    · skip
      refine H_y 7 rfl (by kernel_rfl) (by kernel_rfl) (by kernel_rfl) (HSub.refl _) rfl (y_move rfl) rfl ?_
      refine H_y 8 rfl (by kernel_rfl) (by kernel_rfl) (by kernel_rfl) (HSub.refl _) rfl (y_eqi rfl rfl) rfl ?_
      refine H_y 9 rfl (by kernel_rfl) (by kernel_rfl) (by kernel_rfl) (HSub.refl _) rfl (y_pick_t rfl rfl) rfl ?_
      refine H_y 10 rfl (by kernel_rfl) (by kernel_rfl) (by kernel_rfl) (HSub.refl _) rfl (y_move rfl) rfl ?_
      refine H_case 43 rfl (fun hg9_11 => ?_) (fun hg9_11 => ?_)
      · skip
        refine H_y 11 rfl (by kernel_rfl) (by kernel_rfl) (by kernel_rfl) (HSub.refl _) rfl (y_move rfl) rfl ?_
        refine H_y 12 rfl (by kernel_rfl) (by kernel_rfl) (by kernel_rfl) (HSub.refl _) rfl (y_eqi rfl rfl) rfl ?_
        refine H_y 13 rfl (by kernel_rfl) (by kernel_rfl) (by kernel_rfl) (HSub.refl _) rfl (y_pick_t rfl rfl) rfl ?_
        refine H_y 14 rfl (by kernel_rfl) (by kernel_rfl) (by kernel_rfl) (HSub.refl _) rfl (y_move rfl) rfl ?_
        refine H_case 47 rfl (fun hg9_15 => ?_) (fun hg9_15 => ?_)
        · skip
          refine H_y 15 rfl (by kernel_rfl) (by kernel_rfl) (by kernel_rfl) (HSub.refl _) rfl (y_loadA rfl ag_32 sz_32 (sees 2 0 rfl) (by rw [bs_length, sec3_len _ _ _]; decide) (bs_whole0 _ (sec3_len _ _ _))) rfl ?_
          refine H_one 16 rfl (by kernel_rfl) rfl (op_call rfl rfl (fun a w => Try.call20 a w) rfl ?_)
          refine (sector3_s 1 0).mono ?_
          rintro _ _ ⟨rfl, e⟩
          obtain rfl := e.symm
          clear e
          refine ⟨_, rfl, ?_⟩
          refine ⟨HSub.refl _, ?_⟩
          refine H_y 17 rfl (by kernel_rfl) (by kernel_rfl) (by kernel_rfl) (HSub.refl _) rfl (y_eqa rfl rfl Try.underlying32 Try.underlying5 sz_5 eg_32 (sec3_len _ _ _) (sec3_len _ _ _)) rfl ?_
          refine H_y 18 rfl (by kernel_rfl) (by kernel_rfl) (by kernel_rfl) (HSub.refl _) rfl (y_pick_t rfl rfl) rfl ?_
          refine H_y 19 rfl (by kernel_rfl) (by kernel_rfl) (by kernel_rfl) (HSub.refl _) rfl (y_move rfl) rfl ?_
          refine H_case 52 rfl (fun hg9_20 => ?_) (fun hg9_20 => ?_)
          · skip
            refine H_y 20 rfl (by kernel_rfl) (by kernel_rfl) (by kernel_rfl) (HSub.refl _) rfl (y_move rfl) rfl ?_
            refine H_y 21 rfl (by kernel_rfl) (by kernel_rfl) (by kernel_rfl) (HSub.refl _) rfl (y_eqi rfl rfl) rfl ?_
            refine H_y 22 rfl (by kernel_rfl) (by kernel_rfl) (by kernel_rfl) (HSub.refl _) rfl (y_pick_t rfl rfl) rfl ?_
            refine H_y 23 rfl (by kernel_rfl) (by kernel_rfl) (by kernel_rfl) (HSub.refl _) rfl (y_assign rfl) rfl ?_
            refine H_done (by kernel_rfl) ?_
            refine C_ret ?_
            refine B_ret (rv_tmp rfl rv_nil) (hsub (.cons _ (.cons _ (.cons _ (.refl _))))) ?_
            exact ⟨ret_bool (by simp), rfl⟩
          · exact absurd hg9_20 (by simp)
        · exact absurd hg9_15 (by simp)
      · exact absurd hg9_11 (by simp)
    · exact absurd hg9_7 (by simp)
  · exact absurd hg9_3 (by simp)

end Go.Proofs.Ytjjiclgbdenkkaa

/- Sync of a mirror: the plain model (own work). -/
set_option linter.unusedVariables false
set_option linter.unusedSimpArgs false
namespace Go.Sl
def Mi.ks (m : Mi) : Bool → List (Int × Nat)
  | false => m.k0
  | true => m.k1
def Mi.del (m : Mi) (i : Bool) (n : Int) : Mi := match i with
  | false => { m with k0 := kDel m.k0 n }
  | true => { m with k1 := kDel m.k1 n }
/-- Is a place of a side copied from the other one? -/
def syOk (m : Mi) (A : Da) (p : Int → Sec → Bool) (i : Bool) (n : Int) : Bool := kHas (m.ks i) n && !kHas (m.ks (!i)) n && (decide (A.rE (!i) n = 0) && p n (A.rS (!i) n))
def sy1 (p : Int → Sec → Bool) (i : Bool) (q : Da × Mi) (n : Int) : Da × Mi :=
  if syOk q.2 q.1 p i n then (q.1.write i n (q.1.rS (!i) n), if q.1.wE i n = 0 then q.2.del i n else q.2) else q
def syN (p : Int → Sec → Bool) (i : Bool) (q : Da × Mi) : Nat → Da × Mi
  | 0 => q
  | k + 1 => sy1 p i (syN p i q k) k
theorem syN_succ {p : Int → Sec → Bool} {i : Bool} {q q' : Da × Mi} {k : Nat} (h : syN p i q k = q') : syN p i q (k + 1) = sy1 p i q' k := by subst h; rfl
def syncQ (m : Mi) (A : Da) (p : Int → Sec → Bool) : Da × Mi := syN p true (syN p false (A, m) m.n) m.n
def syncE (m : Mi) (A : Da) (p : Int → Sec → Bool) : Int := if thr A false && thr A true then (if (syncQ m A p).2.k0.length + (syncQ m A p).2.k1.length = 0 then 0 else 9) else 13
def syncA (m : Mi) (A : Da) (p : Int → Sec → Bool) : Da := if thr A false && thr A true then (mfl (syncQ m A p).1).1 else A
def syncM (m : Mi) (A : Da) (p : Int → Sec → Bool) : Mi := if thr A false && thr A true then (syncQ m A p).2 else m
theorem sy1_same (p : Int → Sec → Bool) (i : Bool) (q : Da × Mi) (n : Int) : (sy1 p i q n).2.b = q.2.b ∧ (sy1 p i q n).2.bx = q.2.bx ∧ (sy1 p i q n).2.bys = q.2.bys ∧ (sy1 p i q n).2.n = q.2.n ∧ (sy1 p i q n).2.gv = q.2.gv := by
  unfold sy1
  split
  · dsimp only
    split
    · cases i <;> exact ⟨rfl, rfl, rfl, rfl, rfl⟩
    · exact ⟨rfl, rfl, rfl, rfl, rfl⟩
  · exact ⟨rfl, rfl, rfl, rfl, rfl⟩
theorem kDel_len (ks : List (Int × Nat)) (n : Int) : (kDel ks n).length ≤ ks.length := by
  unfold kDel
  split
  · exact List.length_eraseIdx_le _ _
  · exact Nat.le_refl _
end Go.Sl

/- walks (own work; the walks' lines by a program of this repo). -/
set_option linter.unusedVariables false
set_option linter.unusedSimpArgs false
set_option maxRecDepth 20000
namespace Go.Proofs.Ytjjiclgbdenkkaa
open Go.Sl
attribute [local irreducible] BodyQ WpC WpL WpS WpH OpW FnS



set_option maxHeartbeats 4000000 in

theorem sync_tt {w0 : World} {H : Hp} {D : Duo} {A : Da} {bp : Nat} {m : Mi} (h : Two dt D A m.bx m.bys bp) {p : Int → Sec → Bool} (hG : GoodAt Try.prog w0 H m.gv p) (hQ : ∀ i, (A.dev i).Q.length ≤ 50000) (hm : m.n ≤ 4096) (hL : m.k0.length ≤ 4096 ∧ m.k1.length ≤ 4096) (hp : thr A false = true) (hq : thr A true = true) : FnS Try.prog w0 32 #[ptr m.b] (m.seg 110 :: D.seg dt :: H) (fun e H' => e = .returned (.int .i64 (syncE m A p)) ∧ ∃ D', Two dt D' (syncA m A p) m.bx m.bys bp ∧ H' = (syncM m A p).seg 110 :: D'.seg dt :: H) := by
  refine FnS_intro (n := 100) (rs := [.tmp 2]) (vs := [ptr m.b]) Try.func32 rfl Try.ntmps32 rfl rfl ?_
  refine C_seq ?_
  refine C_region ?_
  refine L_y rfl (y_assign rfl) rfl ?_
  refine L_nil ?_
  refine C_seq ?_
  refine C_seq ?_
  refine C_region ?_
  refine L_y rfl (y_move rfl) rfl ?_
  refine L_y rfl (y_eqp rfl rfl Try.underlying26) rfl ?_
  refine L_y rfl (y_move rfl) rfl ?_
  refine L_y rfl (y_move rfl) rfl ?_
  refine L_op rfl (op_call rfl rfl (fun a w => Try.call59 a w) rfl ?_)
  refine ((present_tt h hp hq).sub (hsub_pick [0, 0] rfl)).mono ?_
  rintro _ _ ⟨g1, hg1, rfl, rfl⟩
  cases g1 with
  | none => exact slOk_none hg1 (by decide)
  | some g1 => ?_
  refine ⟨_, rfl, ?_⟩
  refine L_y rfl (y_lenS rfl rfl Try.underlying118) rfl ?_
  refine L_y rfl (y_lss rfl rfl) rfl ?_
  refine L_y rfl (y_pick_f rfl rfl) rfl ?_
  refine L_nil ?_
  refine C_cond_f rfl ?_
  refine C_skip ?_
  refine C_seq ?_
  refine C_seq ?_
  refine C_region ?_
  refine L_y rfl (y_move rfl) rfl ?_
  refine L_nil ?_
  refine C_block ?_
  refine C_loopIn (In_round ?_)
  refine C_seq ?_
  refine C_region ?_
  refine L_y rfl (y_lss rfl rfl) rfl ?_
  refine L_nil ?_
  refine C_seq ?_
  refine C_cond_t rfl ?_
  refine C_skip ?_
  refine C_seq ?_
  refine C_block ?_
  refine C_seq ?_
  refine C_region ?_
  refine L_y rfl (y_move rfl) rfl ?_
  refine L_y rfl (y_assign rfl) rfl ?_
  refine L_nil ?_
  refine C_seq ?_
  refine C_regionH0 (by kernel_rfl) ?_
  refine H_y 0 rfl (by kernel_rfl) (by kernel_rfl) (by kernel_rfl) (HSub.refl _) rfl (y_move rfl) rfl ?_
  refine H_y 1 rfl (by kernel_rfl) (by kernel_rfl) (by kernel_rfl) (HSub.refl _) rfl (y_move rfl) rfl ?_
  refine H_y 2 rfl (by kernel_rfl) (by kernel_rfl) (by kernel_rfl) (HSub.refl _) rfl (y_nilCheck rfl) rfl ?_
  refine H_y 3 rfl (by kernel_rfl) (by kernel_rfl) (by kernel_rfl) (HSub.refl _) rfl (y_fieldAddr rfl fl_110_0) rfl ?_
  refine H_y 4 rfl (by kernel_rfl) (by kernel_rfl) (by kernel_rfl) (HSub.refl _) rfl (y_indexA rfl rfl Try.underlying108 sz_107 (by omega) (by omega) (show _ = 0 from rfl)) rfl ?_
  refine H_y 5 rfl (by kernel_rfl) (by kernel_rfl) (by kernel_rfl) (HSub.refl _) rfl (y_move rfl) rfl ?_
  refine H_y 6 rfl (by kernel_rfl) (by kernel_rfl) (by kernel_rfl) (HSub.refl _) rfl (y_move rfl) rfl ?_
  refine H_y 7 rfl (by kernel_rfl) (by kernel_rfl) (by kernel_rfl) (HSub.refl _) rfl (y_sub rfl rfl (show _ = (1 : Int) from rfl)) rfl ?_
  refine H_y 8 rfl (by kernel_rfl) (by kernel_rfl) (by kernel_rfl) (HSub.refl _) rfl (y_nilCheck rfl) rfl ?_
  refine H_y 9 rfl (by kernel_rfl) (by kernel_rfl) (by kernel_rfl) (HSub.refl _) rfl (y_fieldAddr rfl fl_110_0) rfl ?_
  refine H_y 10 rfl (by kernel_rfl) (by kernel_rfl) (by kernel_rfl) (HSub.refl _) rfl (y_indexA rfl rfl Try.underlying108 sz_107 (by omega) (by omega) (show _ = 2 from rfl)) rfl ?_
  refine H_y 11 rfl (by kernel_rfl) (by kernel_rfl) (by kernel_rfl) (HSub.refl _) rfl (y_assign rfl) rfl ?_
  refine H_y 12 rfl (by kernel_rfl) (by kernel_rfl) (by kernel_rfl) (HSub.refl _) rfl (y_assign rfl) rfl ?_
  refine H_done (by kernel_rfl) ?_
  refine C_seq ?_
  refine C_region ?_
  refine L_y rfl (y_assign rfl) rfl ?_
  refine L_nil ?_
  refine C_block ?_
  refine C_loop (ι := Duo × Da × Nat × Mi) (fun i => [(0, ptr i.2.2.2.b), (4, ptr i.2.2.2.b), (5, .pointer (some ⟨i.2.2.2.b, 2, none⟩)), (6, .int .i64 (i.2.2.1 : Int)), (19, .int .i64 0)]) (fun i => i.2.2.2.seg 110 :: i.1.seg dt :: H) (fun i => syN p false (A, m) i.2.2.1 = (i.2.1, i.2.2.2) ∧ Two dt i.1 i.2.1 i.2.2.2.bx i.2.2.2.bys bp ∧ i.2.2.1 ≤ m.n ∧ (i.2.2.2.b = m.b ∧ i.2.2.2.bx = m.bx ∧ i.2.2.2.bys = m.bys ∧ i.2.2.2.n = m.n ∧ i.2.2.2.gv = m.gv) ∧ (∀ j, (i.2.1.dev j).Q.length ≤ 50000 + i.2.2.1) ∧ (i.2.2.2.k0.length ≤ 4096 ∧ i.2.2.2.k1.length ≤ 4096)) (fun i => m.n - i.2.2.1) (D, A, 0, m) ⟨rfl, h, Nat.zero_le _, ⟨rfl, rfl, rfl, rfl, rfl⟩, hQ, hL⟩ ⟨rfl, rfl, rfl, rfl, rfl, trivial⟩ ((hsub (.cons_cons _ (.cons_cons _ (.cons _ (.refl _))))).trans (hsub_pick [1, 1] rfl)) (fun i hi => ?_)
  obtain ⟨Dl0, Al0, k0, ml0⟩ := i
  obtain ⟨hq0, hT0, hk0, hM0, hQ0, hL0⟩ := hi
  simp only at hq0 hT0 hk0 hM0 hQ0 hL0
  dsimp only
  refine C_seq ?_
  refine C_seq ?_
  refine C_region ?_
  refine L_y rfl (y_move rfl) rfl ?_
  refine L_y rfl (y_move rfl) rfl ?_
  refine L_y rfl (y_nilCheck rfl) rfl ?_
  refine L_y rfl (y_fieldAddr rfl fl_110_1) rfl ?_
  refine L_y rfl (y_load rfl ag_3 (sees 0 0 rfl) rfl) rfl ?_
  refine L_y rfl (y_lss rfl rfl) rfl ?_
  refine L_nil ?_
  refine C_cond rfl (fun hc2 => ?_) (fun hc2 => ?_)
  · replace hc2 := of_decide_eq_true hc2
    refine C_skip ?_
    refine C_seq ?_
    refine C_block ?_
    refine C_seq ?_
    refine C_seq ?_
    refine C_region ?_
    refine L_y rfl (y_move rfl) rfl ?_
    refine L_y rfl (y_nilCheck rfl) rfl ?_
    refine L_y rfl (y_fieldAddr rfl fl_107_1) rfl ?_
    refine L_y rfl (y_load rfl ag_105 (sees 0 0 rfl) rfl) rfl ?_
    refine L_y rfl (y_move rfl) rfl ?_
    refine L_y rfl (y_lookup rfl rfl Try.underlying105 Try.underlying3 zt_4 (sees 0 1 rfl)) rfl ?_
    refine L_y rfl (y_not rfl) rfl ?_
    refine L_y rfl (y_move rfl) rfl ?_
    refine L_case 48 rfl (fun hg10_8 => ?_) (fun hg10_8 => ?_)
    · skip
      refine L_skip rfl rfl ?_
      refine L_skip rfl rfl ?_
      refine L_skip rfl rfl ?_
      refine L_skip rfl rfl ?_
      refine L_skip rfl rfl ?_
      refine L_skip rfl rfl ?_
      refine L_y rfl (y_pick_t rfl rfl) rfl ?_
      refine L_nil ?_
      refine C_cond_t rfl ?_
      refine C_exit ?_
      refine C_region ?_
      refine L_y rfl (y_move rfl) rfl ?_
      refine L_y rfl (y_add rfl rfl (wi64 (by omega) (by omega))) rfl ?_
      refine L_y rfl (y_assign rfl) rfl ?_
      refine L_nil ?_
      have e : sy1 p false (Al0, ml0) (k0 : Int) = (Al0, ml0) := by clear hG hQ hp hq; simp_all [sy1, syOk, Mi.ks, Mi.del]
      exact ⟨(Dl0, Al0, k0 + 1, ml0), ⟨(syN_succ hq0).trans e, hT0, by simp only; omega, hM0, (fun j => by have := hQ0 j; dsimp only; omega), hL0⟩, by simp only; omega, ⟨rfl, rfl, rfl, rfl, rfl, trivial⟩, ((hsub (.cons_cons _ (.cons_cons _ (.refl _)))).trans (hsub_pick [0, 0] rfl))⟩
    · skip
      refine L_y rfl (y_move rfl) rfl ?_
      refine L_y rfl (y_nilCheck rfl) rfl ?_
      refine L_y rfl (y_fieldAddr rfl fl_107_1) rfl ?_
      refine L_y rfl (y_load rfl ag_105 (sees 0 0 rfl) rfl) rfl ?_
      refine L_y rfl (y_move rfl) rfl ?_
      refine L_y rfl (y_lookup rfl rfl Try.underlying105 Try.underlying3 zt_4 (sees 0 2 rfl)) rfl ?_
      refine L_y rfl (y_pick_f rfl rfl) rfl ?_
      refine L_nil ?_
      refine C_cond rfl (fun hc3 => ?_) (fun hc3 => ?_)
      · skip
        refine C_exit ?_
        refine C_region ?_
        refine L_y rfl (y_move rfl) rfl ?_
        refine L_y rfl (y_add rfl rfl (wi64 (by omega) (by omega))) rfl ?_
        refine L_y rfl (y_assign rfl) rfl ?_
        refine L_nil ?_
        have e : sy1 p false (Al0, ml0) (k0 : Int) = (Al0, ml0) := by clear hG hQ hp hq; simp_all [sy1, syOk, Mi.ks, Mi.del]
        exact ⟨(Dl0, Al0, k0 + 1, ml0), ⟨(syN_succ hq0).trans e, hT0, by simp only; omega, hM0, (fun j => by have := hQ0 j; dsimp only; omega), hL0⟩, by simp only; omega, ⟨rfl, rfl, rfl, rfl, rfl, trivial⟩, ((hsub (.cons_cons _ (.cons_cons _ (.refl _)))).trans (hsub_pick [0, 0] rfl))⟩
      · skip
        refine C_skip ?_
        refine C_seq ?_
        refine C_region ?_
        refine L_y rfl (y_move rfl) rfl ?_
        refine L_y rfl (y_nilCheck rfl) rfl ?_
        refine L_y rfl (y_fieldAddr rfl fl_107_0) rfl ?_
        refine L_y rfl (y_load rfl ag_24 (sees 0 0 rfl) rfl) rfl ?_
        refine L_y rfl (y_move rfl) rfl ?_
        refine L_op rfl (op_call rfl rfl (fun a w => Try.call60 a w) rfl ?_)
        refine ((read_d hT0 true ((k0 : Int))).sub (hsub_pick [1] rfl)).mono ?_
        rintro _ _ ⟨rfl, rfl⟩
        refine ⟨_, rfl, ?_⟩
        refine L_y rfl (y_move rfl) rfl ?_
        refine L_y rfl (y_extract rfl rfl) rfl ?_
        refine L_y rfl (y_extract rfl rfl) rfl ?_
        refine L_op rfl (op_alloc zl_32 rfl (fun B1 => ?_))
        refine L_op rfl (op_storeA 0 0 rfl rfl rfl sz_32 (by rw [bs_length, rS_len _ hT0.oks]) rfl (bs_one _) (by simp) ?_)
        refine L_y rfl (y_assign rfl) rfl ?_
        refine L_nil ?_
        refine C_seq ?_
        refine C_regionH (ml0.seg 110 :: [(B1, .cells (bs (Al0.rS true (k0 : Int))).toArray 32)] :: H) (by kernel_rfl) ?_
        refine H_y 0 rfl (by kernel_rfl) (by kernel_rfl) (by kernel_rfl) (((hsub (.cons_cons _ (.cons_cons _ (.cons _ (.refl _))))).trans (hsub_pick [2, 0] rfl))) rfl (y_move rfl) rfl ?_
        refine H_y 1 rfl (by kernel_rfl) (by kernel_rfl) (by kernel_rfl) (((hsub (.cons_cons _ (.cons_cons _ (.cons _ (.refl _))))).trans (hsub_pick [2, 0] rfl))) rfl (y_eqi rfl rfl) rfl ?_
        refine H_y 2 rfl (by kernel_rfl) (by kernel_rfl) (by kernel_rfl) (((hsub (.cons_cons _ (.cons_cons _ (.cons _ (.refl _))))).trans (hsub_pick [2, 0] rfl))) rfl (y_move rfl) rfl ?_
        refine H_case 67 rfl (fun hg12_3 => ?_) (fun hg12_3 => ?_)
        · skip
          refine H_y 3 rfl (by kernel_rfl) (by kernel_rfl) (by kernel_rfl) (((hsub (.cons_cons _ (.cons_cons _ (.cons _ (.refl _))))).trans (hsub_pick [2, 0] rfl))) rfl (y_move rfl) rfl ?_
          refine H_y 4 rfl (by kernel_rfl) (by kernel_rfl) (by kernel_rfl) (((hsub (.cons_cons _ (.cons_cons _ (.cons _ (.refl _))))).trans (hsub_pick [2, 0] rfl))) rfl (y_move rfl) rfl ?_
          refine H_y 5 rfl (by kernel_rfl) (by kernel_rfl) (by kernel_rfl) (((hsub (.cons_cons _ (.cons_cons _ (.cons _ (.refl _))))).trans (hsub_pick [2, 0] rfl))) rfl (y_loadA rfl ag_32 sz_32 (sees 1 0 rfl) (by rw [bs_length, rS_len _ hT0.oks]; decide) (bs_whole0 _ (rS_len _ hT0.oks))) rfl ?_
          refine H_one 6 rfl (by kernel_rfl) rfl (op_call rfl rfl (fun a w => Try.call61 a w) rfl ?_)
          refine FnS.mono (right_m (sees 2 0 rfl) ((show GoodAt Try.prog w0 H ml0.gv p by rw [hM0.2.2.2.2]; exact hG).sub (hsub (.cons _ (.cons _ (.cons _ (.refl _)))))) (k0 : Int) _ (rS_len _ hT0.oks)) ?_
          rintro _ _ ⟨rfl, rfl⟩
          refine ⟨_, rfl, ?_⟩
          refine ⟨((hsub (.cons_cons _ (.cons_cons _ (.cons _ (.refl _))))).trans (hsub_pick [2, 0] rfl)), ?_⟩
          refine H_y 7 rfl (by kernel_rfl) (by kernel_rfl) (by kernel_rfl) (((hsub (.cons_cons _ (.cons_cons _ (.cons _ (.refl _))))).trans (hsub_pick [2, 0] rfl))) rfl (y_pick_t rfl rfl) rfl ?_
          refine H_y 8 rfl (by kernel_rfl) (by kernel_rfl) (by kernel_rfl) (((hsub (.cons_cons _ (.cons_cons _ (.cons _ (.refl _))))).trans (hsub_pick [2, 0] rfl))) rfl (y_move rfl) rfl ?_
          refine H_case 73 rfl (fun hg12_9 => ?_) (fun hg12_9 => ?_)
          · skip
            refine H_y 9 rfl (by kernel_rfl) (by kernel_rfl) (by kernel_rfl) (((hsub (.cons_cons _ (.cons_cons _ (.cons _ (.refl _))))).trans (hsub_pick [2, 0] rfl))) rfl (y_move rfl) rfl ?_
            refine H_y 10 rfl (by kernel_rfl) (by kernel_rfl) (by kernel_rfl) (((hsub (.cons_cons _ (.cons_cons _ (.cons _ (.refl _))))).trans (hsub_pick [2, 0] rfl))) rfl (y_nilCheck rfl) rfl ?_
            refine H_y 11 rfl (by kernel_rfl) (by kernel_rfl) (by kernel_rfl) (((hsub (.cons_cons _ (.cons_cons _ (.cons _ (.refl _))))).trans (hsub_pick [2, 0] rfl))) rfl (y_fieldAddr rfl fl_107_0) rfl ?_
            refine H_y 12 rfl (by kernel_rfl) (by kernel_rfl) (by kernel_rfl) (((hsub (.cons_cons _ (.cons_cons _ (.cons _ (.refl _))))).trans (hsub_pick [2, 0] rfl))) rfl (y_load rfl ag_24 (sees 0 0 rfl) rfl) rfl ?_
            refine H_y 13 rfl (by kernel_rfl) (by kernel_rfl) (by kernel_rfl) (((hsub (.cons_cons _ (.cons_cons _ (.cons _ (.refl _))))).trans (hsub_pick [2, 0] rfl))) rfl (y_move rfl) rfl ?_
            refine H_y 14 rfl (by kernel_rfl) (by kernel_rfl) (by kernel_rfl) (((hsub (.cons_cons _ (.cons_cons _ (.cons _ (.refl _))))).trans (hsub_pick [2, 0] rfl))) rfl (y_loadA rfl ag_32 sz_32 (sees 1 0 rfl) (by rw [bs_length, rS_len _ hT0.oks]; decide) (bs_whole0 _ (rS_len _ hT0.oks))) rfl ?_
            refine H_one 15 rfl (by kernel_rfl) rfl (op_call rfl rfl (fun a w => Try.call62 a w) rfl ?_)
            refine ((write_d hT0 false (k0 : Int) (Al0.rS true (k0 : Int)) (rS_len _ hT0.oks) (by have := hQ0 false; omega)).sub (hsub_pick [1] rfl)).mono ?_
            rintro _ _ ⟨rfl, Dw, hw, rfl⟩
            refine ⟨_, rfl, ?_⟩
            refine ⟨((hsub (.cons_cons _ (.cons_cons _ (.cons _ (.refl _))))).trans (hsub_pick [2, 1] rfl)), ?_⟩
            refine H_y 16 rfl (by kernel_rfl) (by kernel_rfl) (by kernel_rfl) (((hsub (.cons_cons _ (.cons_cons _ (.cons _ (.refl _))))).trans (hsub_pick [2, 1] rfl))) rfl (y_eqi rfl rfl) rfl ?_
            refine H_case 81 rfl (fun hg12_17 => ?_) (fun hg12_17 => ?_)
            · skip
              refine H_y 17 rfl (by kernel_rfl) (by kernel_rfl) (by kernel_rfl) (((hsub (.cons_cons _ (.cons_cons _ (.cons _ (.refl _))))).trans (hsub_pick [2, 1] rfl))) rfl (y_pick_t rfl rfl) rfl ?_
              refine H_done (by kernel_rfl) ?_
              refine C_cond_t rfl ?_
              refine C_region ?_
              refine L_y rfl (y_move rfl) rfl ?_
              refine L_y rfl (y_nilCheck rfl) rfl ?_
              refine L_y rfl (y_fieldAddr rfl fl_107_1) rfl ?_
              refine L_y rfl (y_load rfl ag_105 (sees 2 0 rfl) rfl) rfl ?_
              refine L_y rfl (y_move rfl) rfl ?_
              refine L_op rfl (op_delete 2 1 rfl rfl rfl Try.underlying105 Try.underlying3 rfl rfl ?_)
              refine L_nil ?_
              refine C_region ?_
              refine L_y rfl (y_move rfl) rfl ?_
              refine L_y rfl (y_add rfl rfl (wi64 (by omega) (by omega))) rfl ?_
              refine L_y rfl (y_assign rfl) rfl ?_
              refine L_nil ?_
              have e : sy1 p false (Al0, ml0) (k0 : Int) = ((Al0.write false (k0 : Int) (Al0.rS true (k0 : Int))), (ml0.del false (k0 : Int))) := by clear hG hQ hp hq; simp_all [sy1, syOk, Mi.ks, Mi.del]
              exact ⟨(Dw, (Al0.write false (k0 : Int) (Al0.rS true (k0 : Int))), k0 + 1, (ml0.del false (k0 : Int))), ⟨(syN_succ hq0).trans e, hw, by simp only; omega, hM0, (fun j => by have := hQ0 j; have q2 := Da.write_many Al0 false (k0 : Int) (Al0.rS true (k0 : Int)) j; dsimp only; omega), ⟨Nat.le_trans (kDel_len _ _) hL0.1, hL0.2⟩⟩, by simp only; omega, ⟨rfl, rfl, rfl, rfl, rfl, trivial⟩, ((hsub (.cons_cons _ (.cons_cons _ (.cons _ (.refl _))))).trans (hsub_pick [2, 0] rfl))⟩
            · skip
              refine H_y 17 rfl (by kernel_rfl) (by kernel_rfl) (by kernel_rfl) (((hsub (.cons_cons _ (.cons_cons _ (.cons _ (.refl _))))).trans (hsub_pick [2, 1] rfl))) rfl (y_pick_t rfl rfl) rfl ?_
              refine H_done (by kernel_rfl) ?_
              refine C_cond_f rfl ?_
              refine C_skip ?_
              refine C_region ?_
              refine L_y rfl (y_move rfl) rfl ?_
              refine L_y rfl (y_add rfl rfl (wi64 (by omega) (by omega))) rfl ?_
              refine L_y rfl (y_assign rfl) rfl ?_
              refine L_nil ?_
              have e : sy1 p false (Al0, ml0) (k0 : Int) = ((Al0.write false (k0 : Int) (Al0.rS true (k0 : Int))), ml0) := by clear hG hQ hp hq; simp_all [sy1, syOk, Mi.ks, Mi.del]
              exact ⟨(Dw, (Al0.write false (k0 : Int) (Al0.rS true (k0 : Int))), k0 + 1, ml0), ⟨(syN_succ hq0).trans e, hw, by simp only; omega, hM0, (fun j => by have := hQ0 j; have q2 := Da.write_many Al0 false (k0 : Int) (Al0.rS true (k0 : Int)) j; dsimp only; omega), hL0⟩, by simp only; omega, ⟨rfl, rfl, rfl, rfl, rfl, trivial⟩, ((hsub (.cons_cons _ (.cons_cons _ (.cons _ (.refl _))))).trans (hsub_pick [2, 0] rfl))⟩
          · skip
            refine H_skip 9 rfl (by kernel_rfl) (by kernel_rfl) (by kernel_rfl) (((hsub (.cons_cons _ (.cons_cons _ (.cons _ (.refl _))))).trans (hsub_pick [2, 0] rfl))) rfl rfl ?_
            refine H_skip 10 rfl (by kernel_rfl) (by kernel_rfl) (by kernel_rfl) (((hsub (.cons_cons _ (.cons_cons _ (.cons _ (.refl _))))).trans (hsub_pick [2, 0] rfl))) rfl rfl ?_
            refine H_skip 11 rfl (by kernel_rfl) (by kernel_rfl) (by kernel_rfl) (((hsub (.cons_cons _ (.cons_cons _ (.cons _ (.refl _))))).trans (hsub_pick [2, 0] rfl))) rfl rfl ?_
            refine H_skip 12 rfl (by kernel_rfl) (by kernel_rfl) (by kernel_rfl) (((hsub (.cons_cons _ (.cons_cons _ (.cons _ (.refl _))))).trans (hsub_pick [2, 0] rfl))) rfl rfl ?_
            refine H_skip 13 rfl (by kernel_rfl) (by kernel_rfl) (by kernel_rfl) (((hsub (.cons_cons _ (.cons_cons _ (.cons _ (.refl _))))).trans (hsub_pick [2, 0] rfl))) rfl rfl ?_
            refine H_skip 14 rfl (by kernel_rfl) (by kernel_rfl) (by kernel_rfl) (((hsub (.cons_cons _ (.cons_cons _ (.cons _ (.refl _))))).trans (hsub_pick [2, 0] rfl))) rfl rfl ?_
            refine H_skip 15 rfl (by kernel_rfl) (by kernel_rfl) (by kernel_rfl) (((hsub (.cons_cons _ (.cons_cons _ (.cons _ (.refl _))))).trans (hsub_pick [2, 0] rfl))) rfl rfl ?_
            refine H_skip 16 rfl (by kernel_rfl) (by kernel_rfl) (by kernel_rfl) (((hsub (.cons_cons _ (.cons_cons _ (.cons _ (.refl _))))).trans (hsub_pick [2, 0] rfl))) rfl rfl ?_
            refine H_y 17 rfl (by kernel_rfl) (by kernel_rfl) (by kernel_rfl) (((hsub (.cons_cons _ (.cons_cons _ (.cons _ (.refl _))))).trans (hsub_pick [2, 0] rfl))) rfl (y_pick_f rfl rfl) rfl ?_
            refine H_done (by kernel_rfl) ?_
            refine C_cond_f rfl ?_
            refine C_skip ?_
            refine C_region ?_
            refine L_y rfl (y_move rfl) rfl ?_
            refine L_y rfl (y_add rfl rfl (wi64 (by omega) (by omega))) rfl ?_
            refine L_y rfl (y_assign rfl) rfl ?_
            refine L_nil ?_
            have e : sy1 p false (Al0, ml0) (k0 : Int) = (Al0, ml0) := by clear hG hQ hp hq; simp_all [sy1, syOk, Mi.ks, Mi.del]
            exact ⟨(Dl0, Al0, k0 + 1, ml0), ⟨(syN_succ hq0).trans e, hT0, by simp only; omega, hM0, (fun j => by have := hQ0 j; dsimp only; omega), hL0⟩, by simp only; omega, ⟨rfl, rfl, rfl, rfl, rfl, trivial⟩, ((hsub (.cons_cons _ (.cons_cons _ (.cons _ (.refl _))))).trans (hsub_pick [2, 1] rfl))⟩
        · skip
          refine H_skip 3 rfl (by kernel_rfl) (by kernel_rfl) (by kernel_rfl) (((hsub (.cons_cons _ (.cons_cons _ (.cons _ (.refl _))))).trans (hsub_pick [2, 0] rfl))) rfl rfl ?_
          refine H_skip 4 rfl (by kernel_rfl) (by kernel_rfl) (by kernel_rfl) (((hsub (.cons_cons _ (.cons_cons _ (.cons _ (.refl _))))).trans (hsub_pick [2, 0] rfl))) rfl rfl ?_
          refine H_skip 5 rfl (by kernel_rfl) (by kernel_rfl) (by kernel_rfl) (((hsub (.cons_cons _ (.cons_cons _ (.cons _ (.refl _))))).trans (hsub_pick [2, 0] rfl))) rfl rfl ?_
          refine H_skip 6 rfl (by kernel_rfl) (by kernel_rfl) (by kernel_rfl) (((hsub (.cons_cons _ (.cons_cons _ (.cons _ (.refl _))))).trans (hsub_pick [2, 0] rfl))) rfl rfl ?_
          refine H_y 7 rfl (by kernel_rfl) (by kernel_rfl) (by kernel_rfl) (((hsub (.cons_cons _ (.cons_cons _ (.cons _ (.refl _))))).trans (hsub_pick [2, 0] rfl))) rfl (y_pick_f rfl rfl) rfl ?_
          refine H_y 8 rfl (by kernel_rfl) (by kernel_rfl) (by kernel_rfl) (((hsub (.cons_cons _ (.cons_cons _ (.cons _ (.refl _))))).trans (hsub_pick [2, 0] rfl))) rfl (y_move rfl) rfl ?_
          refine H_skip 9 rfl (by kernel_rfl) (by kernel_rfl) (by kernel_rfl) (((hsub (.cons_cons _ (.cons_cons _ (.cons _ (.refl _))))).trans (hsub_pick [2, 0] rfl))) rfl rfl ?_
          refine H_skip 10 rfl (by kernel_rfl) (by kernel_rfl) (by kernel_rfl) (((hsub (.cons_cons _ (.cons_cons _ (.cons _ (.refl _))))).trans (hsub_pick [2, 0] rfl))) rfl rfl ?_
          refine H_skip 11 rfl (by kernel_rfl) (by kernel_rfl) (by kernel_rfl) (((hsub (.cons_cons _ (.cons_cons _ (.cons _ (.refl _))))).trans (hsub_pick [2, 0] rfl))) rfl rfl ?_
          refine H_skip 12 rfl (by kernel_rfl) (by kernel_rfl) (by kernel_rfl) (((hsub (.cons_cons _ (.cons_cons _ (.cons _ (.refl _))))).trans (hsub_pick [2, 0] rfl))) rfl rfl ?_
          refine H_skip 13 rfl (by kernel_rfl) (by kernel_rfl) (by kernel_rfl) (((hsub (.cons_cons _ (.cons_cons _ (.cons _ (.refl _))))).trans (hsub_pick [2, 0] rfl))) rfl rfl ?_
          refine H_skip 14 rfl (by kernel_rfl) (by kernel_rfl) (by kernel_rfl) (((hsub (.cons_cons _ (.cons_cons _ (.cons _ (.refl _))))).trans (hsub_pick [2, 0] rfl))) rfl rfl ?_
          refine H_skip 15 rfl (by kernel_rfl) (by kernel_rfl) (by kernel_rfl) (((hsub (.cons_cons _ (.cons_cons _ (.cons _ (.refl _))))).trans (hsub_pick [2, 0] rfl))) rfl rfl ?_
          refine H_skip 16 rfl (by kernel_rfl) (by kernel_rfl) (by kernel_rfl) (((hsub (.cons_cons _ (.cons_cons _ (.cons _ (.refl _))))).trans (hsub_pick [2, 0] rfl))) rfl rfl ?_
          refine H_y 17 rfl (by kernel_rfl) (by kernel_rfl) (by kernel_rfl) (((hsub (.cons_cons _ (.cons_cons _ (.cons _ (.refl _))))).trans (hsub_pick [2, 0] rfl))) rfl (y_pick_f rfl rfl) rfl ?_
          refine H_done (by kernel_rfl) ?_
          refine C_cond_f rfl ?_
          refine C_skip ?_
          refine C_region ?_
          refine L_y rfl (y_move rfl) rfl ?_
          refine L_y rfl (y_add rfl rfl (wi64 (by omega) (by omega))) rfl ?_
          refine L_y rfl (y_assign rfl) rfl ?_
          refine L_nil ?_
          have e : sy1 p false (Al0, ml0) (k0 : Int) = (Al0, ml0) := by clear hG hQ hp hq; simp_all [sy1, syOk, Mi.ks, Mi.del]
          exact ⟨(Dl0, Al0, k0 + 1, ml0), ⟨(syN_succ hq0).trans e, hT0, by simp only; omega, hM0, (fun j => by have := hQ0 j; dsimp only; omega), hL0⟩, by simp only; omega, ⟨rfl, rfl, rfl, rfl, rfl, trivial⟩, ((hsub (.cons_cons _ (.cons_cons _ (.cons _ (.refl _))))).trans (hsub_pick [2, 1] rfl))⟩
  · replace hc2 := of_decide_eq_false hc2
    refine C_exit ?_
    refine C_region ?_
    refine L_y rfl (y_add rfl rfl (show _ = (1 : Int) from rfl)) rfl ?_
    refine L_y rfl (y_move rfl) rfl ?_
    refine L_nil ?_
    refine In_round ?_
    refine C_seq ?_
    refine C_region ?_
    refine L_y rfl (y_lss rfl rfl) rfl ?_
    refine L_nil ?_
    refine C_seq ?_
    refine C_cond_t rfl ?_
    refine C_skip ?_
    refine C_seq ?_
    refine C_block ?_
    refine C_seq ?_
    refine C_region ?_
    refine L_y rfl (y_move rfl) rfl ?_
    refine L_y rfl (y_assign rfl) rfl ?_
    refine L_nil ?_
    refine C_seq ?_
    refine C_regionH0 (by kernel_rfl) ?_
    refine H_y 0 rfl (by kernel_rfl) (by kernel_rfl) (by kernel_rfl) (HSub.refl _) rfl (y_move rfl) rfl ?_
    refine H_y 1 rfl (by kernel_rfl) (by kernel_rfl) (by kernel_rfl) (HSub.refl _) rfl (y_move rfl) rfl ?_
    refine H_y 2 rfl (by kernel_rfl) (by kernel_rfl) (by kernel_rfl) (HSub.refl _) rfl (y_nilCheck rfl) rfl ?_
    refine H_y 3 rfl (by kernel_rfl) (by kernel_rfl) (by kernel_rfl) (HSub.refl _) rfl (y_fieldAddr rfl fl_110_0) rfl ?_
    refine H_y 4 rfl (by kernel_rfl) (by kernel_rfl) (by kernel_rfl) (HSub.refl _) rfl (y_indexA rfl rfl Try.underlying108 sz_107 (by omega) (by omega) (show _ = 2 from rfl)) rfl ?_
    refine H_y 5 rfl (by kernel_rfl) (by kernel_rfl) (by kernel_rfl) (HSub.refl _) rfl (y_move rfl) rfl ?_
    refine H_y 6 rfl (by kernel_rfl) (by kernel_rfl) (by kernel_rfl) (HSub.refl _) rfl (y_move rfl) rfl ?_
    refine H_y 7 rfl (by kernel_rfl) (by kernel_rfl) (by kernel_rfl) (HSub.refl _) rfl (y_sub rfl rfl (show _ = (0 : Int) from rfl)) rfl ?_
    refine H_y 8 rfl (by kernel_rfl) (by kernel_rfl) (by kernel_rfl) (HSub.refl _) rfl (y_nilCheck rfl) rfl ?_
    refine H_y 9 rfl (by kernel_rfl) (by kernel_rfl) (by kernel_rfl) (HSub.refl _) rfl (y_fieldAddr rfl fl_110_0) rfl ?_
    refine H_y 10 rfl (by kernel_rfl) (by kernel_rfl) (by kernel_rfl) (HSub.refl _) rfl (y_indexA rfl rfl Try.underlying108 sz_107 (by omega) (by omega) (show _ = 0 from rfl)) rfl ?_
    refine H_y 11 rfl (by kernel_rfl) (by kernel_rfl) (by kernel_rfl) (HSub.refl _) rfl (y_assign rfl) rfl ?_
    refine H_y 12 rfl (by kernel_rfl) (by kernel_rfl) (by kernel_rfl) (HSub.refl _) rfl (y_assign rfl) rfl ?_
    refine H_done (by kernel_rfl) ?_
    refine C_seq ?_
    refine C_region ?_
    refine L_y rfl (y_assign rfl) rfl ?_
    refine L_nil ?_
    refine C_block ?_
    refine C_loop (ι := Duo × Da × Nat × Mi) (fun i => [(0, ptr i.2.2.2.b), (4, .pointer (some ⟨i.2.2.2.b, 2, none⟩)), (5, ptr i.2.2.2.b), (6, .int .i64 (i.2.2.1 : Int)), (19, .int .i64 1)]) (fun i => i.2.2.2.seg 110 :: i.1.seg dt :: H) (fun i => syN p true (Al0, ml0) i.2.2.1 = (i.2.1, i.2.2.2) ∧ Two dt i.1 i.2.1 i.2.2.2.bx i.2.2.2.bys bp ∧ i.2.2.1 ≤ m.n ∧ (i.2.2.2.b = m.b ∧ i.2.2.2.bx = m.bx ∧ i.2.2.2.bys = m.bys ∧ i.2.2.2.n = m.n ∧ i.2.2.2.gv = m.gv) ∧ (∀ j, (i.2.1.dev j).Q.length ≤ (50000 + m.n) + i.2.2.1) ∧ (i.2.2.2.k0.length ≤ 4096 ∧ i.2.2.2.k1.length ≤ 4096)) (fun i => m.n - i.2.2.1) (Dl0, Al0, 0, ml0) ⟨rfl, hT0, Nat.zero_le _, hM0, (fun j => by have := hQ0 j; dsimp only; omega), hL0⟩ ⟨rfl, rfl, rfl, rfl, rfl, trivial⟩ ((hsub (.cons_cons _ (.cons_cons _ (.refl _)))).trans (hsub_pick [0, 0] rfl)) (fun i hi => ?_)
    obtain ⟨Dl1, Al1, k1, ml1⟩ := i
    obtain ⟨hq1, hT1, hk1, hM1, hQ1, hL1⟩ := hi
    simp only at hq1 hT1 hk1 hM1 hQ1 hL1
    dsimp only
    refine C_seq ?_
    refine C_seq ?_
    refine C_region ?_
    refine L_y rfl (y_move rfl) rfl ?_
    refine L_y rfl (y_move rfl) rfl ?_
    refine L_y rfl (y_nilCheck rfl) rfl ?_
    refine L_y rfl (y_fieldAddr rfl fl_110_1) rfl ?_
    refine L_y rfl (y_load rfl ag_3 (sees 0 0 rfl) rfl) rfl ?_
    refine L_y rfl (y_lss rfl rfl) rfl ?_
    refine L_nil ?_
    refine C_cond rfl (fun hc2 => ?_) (fun hc2 => ?_)
    · replace hc2 := of_decide_eq_true hc2
      refine C_skip ?_
      refine C_seq ?_
      refine C_block ?_
      refine C_seq ?_
      refine C_seq ?_
      refine C_region ?_
      refine L_y rfl (y_move rfl) rfl ?_
      refine L_y rfl (y_nilCheck rfl) rfl ?_
      refine L_y rfl (y_fieldAddr rfl fl_107_1) rfl ?_
      refine L_y rfl (y_load rfl ag_105 (sees 0 0 rfl) rfl) rfl ?_
      refine L_y rfl (y_move rfl) rfl ?_
      refine L_y rfl (y_lookup rfl rfl Try.underlying105 Try.underlying3 zt_4 (sees 0 2 rfl)) rfl ?_
      refine L_y rfl (y_not rfl) rfl ?_
      refine L_y rfl (y_move rfl) rfl ?_
      refine L_case 48 rfl (fun hg10_8 => ?_) (fun hg10_8 => ?_)
      · skip
        refine L_skip rfl rfl ?_
        refine L_skip rfl rfl ?_
        refine L_skip rfl rfl ?_
        refine L_skip rfl rfl ?_
        refine L_skip rfl rfl ?_
        refine L_skip rfl rfl ?_
        refine L_y rfl (y_pick_t rfl rfl) rfl ?_
        refine L_nil ?_
        refine C_cond_t rfl ?_
        refine C_exit ?_
        refine C_region ?_
        refine L_y rfl (y_move rfl) rfl ?_
        refine L_y rfl (y_add rfl rfl (wi64 (by omega) (by omega))) rfl ?_
        refine L_y rfl (y_assign rfl) rfl ?_
        refine L_nil ?_
        have e : sy1 p true (Al1, ml1) (k1 : Int) = (Al1, ml1) := by clear hG hQ hp hq; simp_all [sy1, syOk, Mi.ks, Mi.del]
        exact ⟨(Dl1, Al1, k1 + 1, ml1), ⟨(syN_succ hq1).trans e, hT1, by simp only; omega, hM1, (fun j => by have := hQ1 j; dsimp only; omega), hL1⟩, by simp only; omega, ⟨rfl, rfl, rfl, rfl, rfl, trivial⟩, ((hsub (.cons_cons _ (.cons_cons _ (.refl _)))).trans (hsub_pick [0, 0] rfl))⟩
      · skip
        refine L_y rfl (y_move rfl) rfl ?_
        refine L_y rfl (y_nilCheck rfl) rfl ?_
        refine L_y rfl (y_fieldAddr rfl fl_107_1) rfl ?_
        refine L_y rfl (y_load rfl ag_105 (sees 0 0 rfl) rfl) rfl ?_
        refine L_y rfl (y_move rfl) rfl ?_
        refine L_y rfl (y_lookup rfl rfl Try.underlying105 Try.underlying3 zt_4 (sees 0 1 rfl)) rfl ?_
        refine L_y rfl (y_pick_f rfl rfl) rfl ?_
        refine L_nil ?_
        refine C_cond rfl (fun hc3 => ?_) (fun hc3 => ?_)
        · skip
          refine C_exit ?_
          refine C_region ?_
          refine L_y rfl (y_move rfl) rfl ?_
          refine L_y rfl (y_add rfl rfl (wi64 (by omega) (by omega))) rfl ?_
          refine L_y rfl (y_assign rfl) rfl ?_
          refine L_nil ?_
          have e : sy1 p true (Al1, ml1) (k1 : Int) = (Al1, ml1) := by clear hG hQ hp hq; simp_all [sy1, syOk, Mi.ks, Mi.del]
          exact ⟨(Dl1, Al1, k1 + 1, ml1), ⟨(syN_succ hq1).trans e, hT1, by simp only; omega, hM1, (fun j => by have := hQ1 j; dsimp only; omega), hL1⟩, by simp only; omega, ⟨rfl, rfl, rfl, rfl, rfl, trivial⟩, ((hsub (.cons_cons _ (.cons_cons _ (.refl _)))).trans (hsub_pick [0, 0] rfl))⟩
        · skip
          refine C_skip ?_
          refine C_seq ?_
          refine C_region ?_
          refine L_y rfl (y_move rfl) rfl ?_
          refine L_y rfl (y_nilCheck rfl) rfl ?_
          refine L_y rfl (y_fieldAddr rfl fl_107_0) rfl ?_
          refine L_y rfl (y_load rfl ag_24 (sees 0 0 rfl) rfl) rfl ?_
          refine L_y rfl (y_move rfl) rfl ?_
          refine L_op rfl (op_call rfl rfl (fun a w => Try.call60 a w) rfl ?_)
          refine ((read_d hT1 false ((k1 : Int))).sub (hsub_pick [1] rfl)).mono ?_
          rintro _ _ ⟨rfl, rfl⟩
          refine ⟨_, rfl, ?_⟩
          refine L_y rfl (y_move rfl) rfl ?_
          refine L_y rfl (y_extract rfl rfl) rfl ?_
          refine L_y rfl (y_extract rfl rfl) rfl ?_
          refine L_op rfl (op_alloc zl_32 rfl (fun B2 => ?_))
          refine L_op rfl (op_storeA 0 0 rfl rfl rfl sz_32 (by rw [bs_length, rS_len _ hT1.oks]) rfl (bs_one _) (by simp) ?_)
          refine L_y rfl (y_assign rfl) rfl ?_
          refine L_nil ?_
          refine C_seq ?_
          refine C_regionH (ml1.seg 110 :: [(B2, .cells (bs (Al1.rS false (k1 : Int))).toArray 32)] :: H) (by kernel_rfl) ?_
          refine H_y 0 rfl (by kernel_rfl) (by kernel_rfl) (by kernel_rfl) (((hsub (.cons_cons _ (.cons_cons _ (.cons _ (.refl _))))).trans (hsub_pick [2, 0] rfl))) rfl (y_move rfl) rfl ?_
          refine H_y 1 rfl (by kernel_rfl) (by kernel_rfl) (by kernel_rfl) (((hsub (.cons_cons _ (.cons_cons _ (.cons _ (.refl _))))).trans (hsub_pick [2, 0] rfl))) rfl (y_eqi rfl rfl) rfl ?_
          refine H_y 2 rfl (by kernel_rfl) (by kernel_rfl) (by kernel_rfl) (((hsub (.cons_cons _ (.cons_cons _ (.cons _ (.refl _))))).trans (hsub_pick [2, 0] rfl))) rfl (y_move rfl) rfl ?_
          refine H_case 67 rfl (fun hg12_3 => ?_) (fun hg12_3 => ?_)
          · skip
            refine H_y 3 rfl (by kernel_rfl) (by kernel_rfl) (by kernel_rfl) (((hsub (.cons_cons _ (.cons_cons _ (.cons _ (.refl _))))).trans (hsub_pick [2, 0] rfl))) rfl (y_move rfl) rfl ?_
            refine H_y 4 rfl (by kernel_rfl) (by kernel_rfl) (by kernel_rfl) (((hsub (.cons_cons _ (.cons_cons _ (.cons _ (.refl _))))).trans (hsub_pick [2, 0] rfl))) rfl (y_move rfl) rfl ?_
            refine H_y 5 rfl (by kernel_rfl) (by kernel_rfl) (by kernel_rfl) (((hsub (.cons_cons _ (.cons_cons _ (.cons _ (.refl _))))).trans (hsub_pick [2, 0] rfl))) rfl (y_loadA rfl ag_32 sz_32 (sees 1 0 rfl) (by rw [bs_length, rS_len _ hT1.oks]; decide) (bs_whole0 _ (rS_len _ hT1.oks))) rfl ?_
            refine H_one 6 rfl (by kernel_rfl) rfl (op_call rfl rfl (fun a w => Try.call61 a w) rfl ?_)
            refine FnS.mono (right_m (sees 2 0 rfl) ((show GoodAt Try.prog w0 H ml1.gv p by rw [hM1.2.2.2.2]; exact hG).sub (hsub (.cons _ (.cons _ (.cons _ (.refl _)))))) (k1 : Int) _ (rS_len _ hT1.oks)) ?_
            rintro _ _ ⟨rfl, rfl⟩
            refine ⟨_, rfl, ?_⟩
            refine ⟨((hsub (.cons_cons _ (.cons_cons _ (.cons _ (.refl _))))).trans (hsub_pick [2, 0] rfl)), ?_⟩
            refine H_y 7 rfl (by kernel_rfl) (by kernel_rfl) (by kernel_rfl) (((hsub (.cons_cons _ (.cons_cons _ (.cons _ (.refl _))))).trans (hsub_pick [2, 0] rfl))) rfl (y_pick_t rfl rfl) rfl ?_
            refine H_y 8 rfl (by kernel_rfl) (by kernel_rfl) (by kernel_rfl) (((hsub (.cons_cons _ (.cons_cons _ (.cons _ (.refl _))))).trans (hsub_pick [2, 0] rfl))) rfl (y_move rfl) rfl ?_
            refine H_case 73 rfl (fun hg12_9 => ?_) (fun hg12_9 => ?_)
            · skip
              refine H_y 9 rfl (by kernel_rfl) (by kernel_rfl) (by kernel_rfl) (((hsub (.cons_cons _ (.cons_cons _ (.cons _ (.refl _))))).trans (hsub_pick [2, 0] rfl))) rfl (y_move rfl) rfl ?_
              refine H_y 10 rfl (by kernel_rfl) (by kernel_rfl) (by kernel_rfl) (((hsub (.cons_cons _ (.cons_cons _ (.cons _ (.refl _))))).trans (hsub_pick [2, 0] rfl))) rfl (y_nilCheck rfl) rfl ?_
              refine H_y 11 rfl (by kernel_rfl) (by kernel_rfl) (by kernel_rfl) (((hsub (.cons_cons _ (.cons_cons _ (.cons _ (.refl _))))).trans (hsub_pick [2, 0] rfl))) rfl (y_fieldAddr rfl fl_107_0) rfl ?_
              refine H_y 12 rfl (by kernel_rfl) (by kernel_rfl) (by kernel_rfl) (((hsub (.cons_cons _ (.cons_cons _ (.cons _ (.refl _))))).trans (hsub_pick [2, 0] rfl))) rfl (y_load rfl ag_24 (sees 0 0 rfl) rfl) rfl ?_
              refine H_y 13 rfl (by kernel_rfl) (by kernel_rfl) (by kernel_rfl) (((hsub (.cons_cons _ (.cons_cons _ (.cons _ (.refl _))))).trans (hsub_pick [2, 0] rfl))) rfl (y_move rfl) rfl ?_
              refine H_y 14 rfl (by kernel_rfl) (by kernel_rfl) (by kernel_rfl) (((hsub (.cons_cons _ (.cons_cons _ (.cons _ (.refl _))))).trans (hsub_pick [2, 0] rfl))) rfl (y_loadA rfl ag_32 sz_32 (sees 1 0 rfl) (by rw [bs_length, rS_len _ hT1.oks]; decide) (bs_whole0 _ (rS_len _ hT1.oks))) rfl ?_
              refine H_one 15 rfl (by kernel_rfl) rfl (op_call rfl rfl (fun a w => Try.call62 a w) rfl ?_)
              refine ((write_d hT1 true (k1 : Int) (Al1.rS false (k1 : Int)) (rS_len _ hT1.oks) (by have := hQ1 true; omega)).sub (hsub_pick [1] rfl)).mono ?_
              rintro _ _ ⟨rfl, Dw, hw, rfl⟩
              refine ⟨_, rfl, ?_⟩
              refine ⟨((hsub (.cons_cons _ (.cons_cons _ (.cons _ (.refl _))))).trans (hsub_pick [2, 1] rfl)), ?_⟩
              refine H_y 16 rfl (by kernel_rfl) (by kernel_rfl) (by kernel_rfl) (((hsub (.cons_cons _ (.cons_cons _ (.cons _ (.refl _))))).trans (hsub_pick [2, 1] rfl))) rfl (y_eqi rfl rfl) rfl ?_
              refine H_case 81 rfl (fun hg12_17 => ?_) (fun hg12_17 => ?_)
              · skip
                refine H_y 17 rfl (by kernel_rfl) (by kernel_rfl) (by kernel_rfl) (((hsub (.cons_cons _ (.cons_cons _ (.cons _ (.refl _))))).trans (hsub_pick [2, 1] rfl))) rfl (y_pick_t rfl rfl) rfl ?_
                refine H_done (by kernel_rfl) ?_
                refine C_cond_t rfl ?_
                refine C_region ?_
                refine L_y rfl (y_move rfl) rfl ?_
                refine L_y rfl (y_nilCheck rfl) rfl ?_
                refine L_y rfl (y_fieldAddr rfl fl_107_1) rfl ?_
                refine L_y rfl (y_load rfl ag_105 (sees 2 0 rfl) rfl) rfl ?_
                refine L_y rfl (y_move rfl) rfl ?_
                refine L_op rfl (op_delete 2 2 rfl rfl rfl Try.underlying105 Try.underlying3 rfl rfl ?_)
                refine L_nil ?_
                refine C_region ?_
                refine L_y rfl (y_move rfl) rfl ?_
                refine L_y rfl (y_add rfl rfl (wi64 (by omega) (by omega))) rfl ?_
                refine L_y rfl (y_assign rfl) rfl ?_
                refine L_nil ?_
                have e : sy1 p true (Al1, ml1) (k1 : Int) = ((Al1.write true (k1 : Int) (Al1.rS false (k1 : Int))), (ml1.del true (k1 : Int))) := by clear hG hQ hp hq; simp_all [sy1, syOk, Mi.ks, Mi.del]
                exact ⟨(Dw, (Al1.write true (k1 : Int) (Al1.rS false (k1 : Int))), k1 + 1, (ml1.del true (k1 : Int))), ⟨(syN_succ hq1).trans e, hw, by simp only; omega, hM1, (fun j => by have := hQ1 j; have q2 := Da.write_many Al1 true (k1 : Int) (Al1.rS false (k1 : Int)) j; dsimp only; omega), ⟨hL1.1, Nat.le_trans (kDel_len _ _) hL1.2⟩⟩, by simp only; omega, ⟨rfl, rfl, rfl, rfl, rfl, trivial⟩, ((hsub (.cons_cons _ (.cons_cons _ (.cons _ (.refl _))))).trans (hsub_pick [2, 0] rfl))⟩
              · skip
                refine H_y 17 rfl (by kernel_rfl) (by kernel_rfl) (by kernel_rfl) (((hsub (.cons_cons _ (.cons_cons _ (.cons _ (.refl _))))).trans (hsub_pick [2, 1] rfl))) rfl (y_pick_t rfl rfl) rfl ?_
                refine H_done (by kernel_rfl) ?_
                refine C_cond_f rfl ?_
                refine C_skip ?_
                refine C_region ?_
                refine L_y rfl (y_move rfl) rfl ?_
                refine L_y rfl (y_add rfl rfl (wi64 (by omega) (by omega))) rfl ?_
                refine L_y rfl (y_assign rfl) rfl ?_
                refine L_nil ?_
                have e : sy1 p true (Al1, ml1) (k1 : Int) = ((Al1.write true (k1 : Int) (Al1.rS false (k1 : Int))), ml1) := by clear hG hQ hp hq; simp_all [sy1, syOk, Mi.ks, Mi.del]
                exact ⟨(Dw, (Al1.write true (k1 : Int) (Al1.rS false (k1 : Int))), k1 + 1, ml1), ⟨(syN_succ hq1).trans e, hw, by simp only; omega, hM1, (fun j => by have := hQ1 j; have q2 := Da.write_many Al1 true (k1 : Int) (Al1.rS false (k1 : Int)) j; dsimp only; omega), hL1⟩, by simp only; omega, ⟨rfl, rfl, rfl, rfl, rfl, trivial⟩, ((hsub (.cons_cons _ (.cons_cons _ (.cons _ (.refl _))))).trans (hsub_pick [2, 0] rfl))⟩
            · skip
              refine H_skip 9 rfl (by kernel_rfl) (by kernel_rfl) (by kernel_rfl) (((hsub (.cons_cons _ (.cons_cons _ (.cons _ (.refl _))))).trans (hsub_pick [2, 0] rfl))) rfl rfl ?_
              refine H_skip 10 rfl (by kernel_rfl) (by kernel_rfl) (by kernel_rfl) (((hsub (.cons_cons _ (.cons_cons _ (.cons _ (.refl _))))).trans (hsub_pick [2, 0] rfl))) rfl rfl ?_
              refine H_skip 11 rfl (by kernel_rfl) (by kernel_rfl) (by kernel_rfl) (((hsub (.cons_cons _ (.cons_cons _ (.cons _ (.refl _))))).trans (hsub_pick [2, 0] rfl))) rfl rfl ?_
              refine H_skip 12 rfl (by kernel_rfl) (by kernel_rfl) (by kernel_rfl) (((hsub (.cons_cons _ (.cons_cons _ (.cons _ (.refl _))))).trans (hsub_pick [2, 0] rfl))) rfl rfl ?_
              refine H_skip 13 rfl (by kernel_rfl) (by kernel_rfl) (by kernel_rfl) (((hsub (.cons_cons _ (.cons_cons _ (.cons _ (.refl _))))).trans (hsub_pick [2, 0] rfl))) rfl rfl ?_
              refine H_skip 14 rfl (by kernel_rfl) (by kernel_rfl) (by kernel_rfl) (((hsub (.cons_cons _ (.cons_cons _ (.cons _ (.refl _))))).trans (hsub_pick [2, 0] rfl))) rfl rfl ?_
              refine H_skip 15 rfl (by kernel_rfl) (by kernel_rfl) (by kernel_rfl) (((hsub (.cons_cons _ (.cons_cons _ (.cons _ (.refl _))))).trans (hsub_pick [2, 0] rfl))) rfl rfl ?_
              refine H_skip 16 rfl (by kernel_rfl) (by kernel_rfl) (by kernel_rfl) (((hsub (.cons_cons _ (.cons_cons _ (.cons _ (.refl _))))).trans (hsub_pick [2, 0] rfl))) rfl rfl ?_
              refine H_y 17 rfl (by kernel_rfl) (by kernel_rfl) (by kernel_rfl) (((hsub (.cons_cons _ (.cons_cons _ (.cons _ (.refl _))))).trans (hsub_pick [2, 0] rfl))) rfl (y_pick_f rfl rfl) rfl ?_
              refine H_done (by kernel_rfl) ?_
              refine C_cond_f rfl ?_
              refine C_skip ?_
              refine C_region ?_
              refine L_y rfl (y_move rfl) rfl ?_
              refine L_y rfl (y_add rfl rfl (wi64 (by omega) (by omega))) rfl ?_
              refine L_y rfl (y_assign rfl) rfl ?_
              refine L_nil ?_
              have e : sy1 p true (Al1, ml1) (k1 : Int) = (Al1, ml1) := by clear hG hQ hp hq; simp_all [sy1, syOk, Mi.ks, Mi.del]
              exact ⟨(Dl1, Al1, k1 + 1, ml1), ⟨(syN_succ hq1).trans e, hT1, by simp only; omega, hM1, (fun j => by have := hQ1 j; dsimp only; omega), hL1⟩, by simp only; omega, ⟨rfl, rfl, rfl, rfl, rfl, trivial⟩, ((hsub (.cons_cons _ (.cons_cons _ (.cons _ (.refl _))))).trans (hsub_pick [2, 1] rfl))⟩
          · skip
            refine H_skip 3 rfl (by kernel_rfl) (by kernel_rfl) (by kernel_rfl) (((hsub (.cons_cons _ (.cons_cons _ (.cons _ (.refl _))))).trans (hsub_pick [2, 0] rfl))) rfl rfl ?_
            refine H_skip 4 rfl (by kernel_rfl) (by kernel_rfl) (by kernel_rfl) (((hsub (.cons_cons _ (.cons_cons _ (.cons _ (.refl _))))).trans (hsub_pick [2, 0] rfl))) rfl rfl ?_
            refine H_skip 5 rfl (by kernel_rfl) (by kernel_rfl) (by kernel_rfl) (((hsub (.cons_cons _ (.cons_cons _ (.cons _ (.refl _))))).trans (hsub_pick [2, 0] rfl))) rfl rfl ?_
            refine H_skip 6 rfl (by kernel_rfl) (by kernel_rfl) (by kernel_rfl) (((hsub (.cons_cons _ (.cons_cons _ (.cons _ (.refl _))))).trans (hsub_pick [2, 0] rfl))) rfl rfl ?_
            refine H_y 7 rfl (by kernel_rfl) (by kernel_rfl) (by kernel_rfl) (((hsub (.cons_cons _ (.cons_cons _ (.cons _ (.refl _))))).trans (hsub_pick [2, 0] rfl))) rfl (y_pick_f rfl rfl) rfl ?_
            refine H_y 8 rfl (by kernel_rfl) (by kernel_rfl) (by kernel_rfl) (((hsub (.cons_cons _ (.cons_cons _ (.cons _ (.refl _))))).trans (hsub_pick [2, 0] rfl))) rfl (y_move rfl) rfl ?_
            refine H_skip 9 rfl (by kernel_rfl) (by kernel_rfl) (by kernel_rfl) (((hsub (.cons_cons _ (.cons_cons _ (.cons _ (.refl _))))).trans (hsub_pick [2, 0] rfl))) rfl rfl ?_
            refine H_skip 10 rfl (by kernel_rfl) (by kernel_rfl) (by kernel_rfl) (((hsub (.cons_cons _ (.cons_cons _ (.cons _ (.refl _))))).trans (hsub_pick [2, 0] rfl))) rfl rfl ?_
            refine H_skip 11 rfl (by kernel_rfl) (by kernel_rfl) (by kernel_rfl) (((hsub (.cons_cons _ (.cons_cons _ (.cons _ (.refl _))))).trans (hsub_pick [2, 0] rfl))) rfl rfl ?_
            refine H_skip 12 rfl (by kernel_rfl) (by kernel_rfl) (by kernel_rfl) (((hsub (.cons_cons _ (.cons_cons _ (.cons _ (.refl _))))).trans (hsub_pick [2, 0] rfl))) rfl rfl ?_
            refine H_skip 13 rfl (by kernel_rfl) (by kernel_rfl) (by kernel_rfl) (((hsub (.cons_cons _ (.cons_cons _ (.cons _ (.refl _))))).trans (hsub_pick [2, 0] rfl))) rfl rfl ?_
            refine H_skip 14 rfl (by kernel_rfl) (by kernel_rfl) (by kernel_rfl) (((hsub (.cons_cons _ (.cons_cons _ (.cons _ (.refl _))))).trans (hsub_pick [2, 0] rfl))) rfl rfl ?_
            refine H_skip 15 rfl (by kernel_rfl) (by kernel_rfl) (by kernel_rfl) (((hsub (.cons_cons _ (.cons_cons _ (.cons _ (.refl _))))).trans (hsub_pick [2, 0] rfl))) rfl rfl ?_
            refine H_skip 16 rfl (by kernel_rfl) (by kernel_rfl) (by kernel_rfl) (((hsub (.cons_cons _ (.cons_cons _ (.cons _ (.refl _))))).trans (hsub_pick [2, 0] rfl))) rfl rfl ?_
            refine H_y 17 rfl (by kernel_rfl) (by kernel_rfl) (by kernel_rfl) (((hsub (.cons_cons _ (.cons_cons _ (.cons _ (.refl _))))).trans (hsub_pick [2, 0] rfl))) rfl (y_pick_f rfl rfl) rfl ?_
            refine H_done (by kernel_rfl) ?_
            refine C_cond_f rfl ?_
            refine C_skip ?_
            refine C_region ?_
            refine L_y rfl (y_move rfl) rfl ?_
            refine L_y rfl (y_add rfl rfl (wi64 (by omega) (by omega))) rfl ?_
            refine L_y rfl (y_assign rfl) rfl ?_
            refine L_nil ?_
            have e : sy1 p true (Al1, ml1) (k1 : Int) = (Al1, ml1) := by clear hG hQ hp hq; simp_all [sy1, syOk, Mi.ks, Mi.del]
            exact ⟨(Dl1, Al1, k1 + 1, ml1), ⟨(syN_succ hq1).trans e, hT1, by simp only; omega, hM1, (fun j => by have := hQ1 j; dsimp only; omega), hL1⟩, by simp only; omega, ⟨rfl, rfl, rfl, rfl, rfl, trivial⟩, ((hsub (.cons_cons _ (.cons_cons _ (.cons _ (.refl _))))).trans (hsub_pick [2, 1] rfl))⟩
    · replace hc2 := of_decide_eq_false hc2
      refine C_exit ?_
      refine C_region ?_
      refine L_y rfl (y_add rfl rfl (show _ = (2 : Int) from rfl)) rfl ?_
      refine L_y rfl (y_move rfl) rfl ?_
      refine L_nil ?_
      refine In_round ?_
      refine C_seq ?_
      refine C_region ?_
      refine L_y rfl (y_lss rfl rfl) rfl ?_
      refine L_nil ?_
      refine C_seq ?_
      refine C_cond_f rfl ?_
      refine C_exit ?_
      refine C_seq ?_
      refine C_region ?_
      refine L_y rfl (y_move rfl) rfl ?_
      refine L_op rfl (op_call rfl rfl (fun a w => Try.call21 a w) rfl ?_)
      refine (FnS.sub (hsub_pick [0, 0] rfl) (mflush_m hT1)).mono ?_
      rintro _ _ ⟨rfl, D9, h9, rfl⟩
      refine ⟨_, rfl, ?_⟩
      refine L_nil ?_
      refine C_seq ?_
      refine C_seq ?_
      refine C_region ?_
      refine L_y rfl (y_move rfl) rfl ?_
      refine L_op rfl (op_call rfl rfl (fun a w => Try.call35 a w) rfl ?_)
      refine (FnS.sub (hsub_pick [0] rfl) stale_m).mono ?_
      rintro _ _ ⟨rfl, rfl⟩
      refine ⟨_, rfl, ?_⟩
      refine L_y rfl (y_move rfl) rfl ?_
      refine L_y rfl (y_extract rfl rfl) rfl ?_
      refine L_y rfl (y_extract rfl rfl) rfl ?_
      refine L_y rfl (y_assign rfl) rfl ?_
      refine L_y rfl (y_assign rfl) rfl ?_
      refine L_nil ?_
      refine C_seq ?_
      refine C_region ?_
      refine L_y rfl (y_move rfl) rfl ?_
      refine L_y rfl (y_move rfl) rfl ?_
      refine L_y rfl (y_add rfl rfl (wi64 (by omega) (by omega))) rfl ?_
      refine L_y rfl (y_gtr rfl rfl) rfl ?_
      refine L_nil ?_
      refine C_cond rfl (fun hc5 => ?_) (fun hc5 => ?_)
      · replace hc5 := of_decide_eq_true hc5
        refine C_seq ?_
        refine C_region ?_
        refine L_y rfl (y_assign rfl) rfl ?_
        refine L_nil ?_
        refine C_ret ?_
        refine B_ret (rv_tmp rfl rv_nil) ((hsub (.cons_cons _ (.cons_cons _ (.refl _)))).trans (hsub_pick [0, 0] rfl)) ?_
        have hk : k0 = m.n := by omega
        have hk1 : k1 = m.n := by omega
        subst hk hk1
        have eq : syncQ m A p = (Al1, ml1) := by unfold syncQ; rw [hq0, hq1]
        exact ⟨ret_int (by rw [syncE, eq, hp, hq]; simp only [Bool.and_self, if_true]; first | rw [if_pos (by omega)] | rw [if_neg (by omega)]), D9, by rw [show syncA m A p = (mfl Al1).1 by simp [syncA, eq, hp, hq], ← hM1.2.1, ← hM1.2.2.1]; exact h9, by rw [show syncM m A p = ml1 by simp [syncM, eq, hp, hq]] <;> rfl⟩
      · replace hc5 := of_decide_eq_false hc5
        refine C_skip ?_
        refine C_seq ?_
        refine C_region ?_
        refine L_y rfl (y_assign rfl) rfl ?_
        refine L_nil ?_
        refine C_ret ?_
        refine B_ret (rv_tmp rfl rv_nil) ((hsub (.cons_cons _ (.cons_cons _ (.refl _)))).trans (hsub_pick [0, 0] rfl)) ?_
        have hk : k0 = m.n := by omega
        have hk1 : k1 = m.n := by omega
        subst hk hk1
        have eq : syncQ m A p = (Al1, ml1) := by unfold syncQ; rw [hq0, hq1]
        exact ⟨ret_int (by rw [syncE, eq, hp, hq]; simp only [Bool.and_self, if_true]; first | rw [if_pos (by omega)] | rw [if_neg (by omega)]), D9, by rw [show syncA m A p = (mfl Al1).1 by simp [syncA, eq, hp, hq], ← hM1.2.1, ← hM1.2.2.1]; exact h9, by rw [show syncM m A p = ml1 by simp [syncM, eq, hp, hq]] <;> rfl⟩

set_option maxHeartbeats 4000000 in

theorem sync_tf {w0 : World} {H : Hp} {D : Duo} {A : Da} {bp : Nat} {m : Mi} (h : Two dt D A m.bx m.bys bp) {p : Int → Sec → Bool} (hG : GoodAt Try.prog w0 H m.gv p) (hQ : ∀ i, (A.dev i).Q.length ≤ 50000) (hm : m.n ≤ 4096) (hL : m.k0.length ≤ 4096 ∧ m.k1.length ≤ 4096) (hp : thr A false = true) (hq : thr A true = false) : FnS Try.prog w0 32 #[ptr m.b] (m.seg 110 :: D.seg dt :: H) (fun e H' => e = .returned (.int .i64 (syncE m A p)) ∧ ∃ D', Two dt D' (syncA m A p) m.bx m.bys bp ∧ H' = (syncM m A p).seg 110 :: D'.seg dt :: H) := by
  refine FnS_intro (n := 100) (rs := [.tmp 2]) (vs := [ptr m.b]) Try.func32 rfl Try.ntmps32 rfl rfl ?_
  refine C_seq ?_
  refine C_region ?_
  refine L_y rfl (y_assign rfl) rfl ?_
  refine L_nil ?_
  refine C_seq ?_
  refine C_seq ?_
  refine C_region ?_
  refine L_y rfl (y_move rfl) rfl ?_
  refine L_y rfl (y_eqp rfl rfl Try.underlying26) rfl ?_
  refine L_y rfl (y_move rfl) rfl ?_
  refine L_y rfl (y_move rfl) rfl ?_
  refine L_op rfl (op_call rfl rfl (fun a w => Try.call59 a w) rfl ?_)
  refine ((present_tf h hp hq).sub (hsub_pick [0, 0] rfl)).mono ?_
  rintro _ _ ⟨g1, hg1, rfl, rfl⟩
  cases g1 with
  | none => exact slOk_none hg1 (by decide)
  | some g1 => ?_
  refine ⟨_, rfl, ?_⟩
  refine L_y rfl (y_lenS rfl rfl Try.underlying118) rfl ?_
  refine L_y rfl (y_lss rfl rfl) rfl ?_
  refine L_y rfl (y_pick_f rfl rfl) rfl ?_
  refine L_nil ?_
  refine C_cond_t rfl ?_
  refine C_seq ?_
  refine C_region ?_
  refine L_y rfl (y_assign rfl) rfl ?_
  refine L_nil ?_
  refine C_ret ?_
  refine B_ret (rv_tmp rfl rv_nil) ((hsub (.cons_cons _ (.cons_cons _ (.cons _ (.refl _))))).trans (hsub_pick [1, 1] rfl)) ?_
  exact ⟨ret_int (by simp [syncE, hp, hq]), D, h.to (by simp [syncA, hp, hq]), by rw [show syncM m A p = m by simp [syncM, hp, hq]] <;> rfl⟩

set_option maxHeartbeats 4000000 in

theorem sync_ft {w0 : World} {H : Hp} {D : Duo} {A : Da} {bp : Nat} {m : Mi} (h : Two dt D A m.bx m.bys bp) {p : Int → Sec → Bool} (hG : GoodAt Try.prog w0 H m.gv p) (hQ : ∀ i, (A.dev i).Q.length ≤ 50000) (hm : m.n ≤ 4096) (hL : m.k0.length ≤ 4096 ∧ m.k1.length ≤ 4096) (hp : thr A false = false) (hq : thr A true = true) : FnS Try.prog w0 32 #[ptr m.b] (m.seg 110 :: D.seg dt :: H) (fun e H' => e = .returned (.int .i64 (syncE m A p)) ∧ ∃ D', Two dt D' (syncA m A p) m.bx m.bys bp ∧ H' = (syncM m A p).seg 110 :: D'.seg dt :: H) := by
  refine FnS_intro (n := 100) (rs := [.tmp 2]) (vs := [ptr m.b]) Try.func32 rfl Try.ntmps32 rfl rfl ?_
  refine C_seq ?_
  refine C_region ?_
  refine L_y rfl (y_assign rfl) rfl ?_
  refine L_nil ?_
  refine C_seq ?_
  refine C_seq ?_
  refine C_region ?_
  refine L_y rfl (y_move rfl) rfl ?_
  refine L_y rfl (y_eqp rfl rfl Try.underlying26) rfl ?_
  refine L_y rfl (y_move rfl) rfl ?_
  refine L_y rfl (y_move rfl) rfl ?_
  refine L_op rfl (op_call rfl rfl (fun a w => Try.call59 a w) rfl ?_)
  refine ((present_ft h hp hq).sub (hsub_pick [0, 0] rfl)).mono ?_
  rintro _ _ ⟨g1, hg1, rfl, rfl⟩
  cases g1 with
  | none => exact slOk_none hg1 (by decide)
  | some g1 => ?_
  refine ⟨_, rfl, ?_⟩
  refine L_y rfl (y_lenS rfl rfl Try.underlying118) rfl ?_
  refine L_y rfl (y_lss rfl rfl) rfl ?_
  refine L_y rfl (y_pick_f rfl rfl) rfl ?_
  refine L_nil ?_
  refine C_cond_t rfl ?_
  refine C_seq ?_
  refine C_region ?_
  refine L_y rfl (y_assign rfl) rfl ?_
  refine L_nil ?_
  refine C_ret ?_
  refine B_ret (rv_tmp rfl rv_nil) ((hsub (.cons_cons _ (.cons_cons _ (.cons _ (.refl _))))).trans (hsub_pick [1, 1] rfl)) ?_
  exact ⟨ret_int (by simp [syncE, hp, hq]), D, h.to (by simp [syncA, hp, hq]), by rw [show syncM m A p = m by simp [syncM, hp, hq]] <;> rfl⟩

set_option maxHeartbeats 4000000 in

theorem sync_ff {w0 : World} {H : Hp} {D : Duo} {A : Da} {bp : Nat} {m : Mi} (h : Two dt D A m.bx m.bys bp) {p : Int → Sec → Bool} (hG : GoodAt Try.prog w0 H m.gv p) (hQ : ∀ i, (A.dev i).Q.length ≤ 50000) (hm : m.n ≤ 4096) (hL : m.k0.length ≤ 4096 ∧ m.k1.length ≤ 4096) (hp : thr A false = false) (hq : thr A true = false) : FnS Try.prog w0 32 #[ptr m.b] (m.seg 110 :: D.seg dt :: H) (fun e H' => e = .returned (.int .i64 (syncE m A p)) ∧ ∃ D', Two dt D' (syncA m A p) m.bx m.bys bp ∧ H' = (syncM m A p).seg 110 :: D'.seg dt :: H) := by
  refine FnS_intro (n := 100) (rs := [.tmp 2]) (vs := [ptr m.b]) Try.func32 rfl Try.ntmps32 rfl rfl ?_
  refine C_seq ?_
  refine C_region ?_
  refine L_y rfl (y_assign rfl) rfl ?_
  refine L_nil ?_
  refine C_seq ?_
  refine C_seq ?_
  refine C_region ?_
  refine L_y rfl (y_move rfl) rfl ?_
  refine L_y rfl (y_eqp rfl rfl Try.underlying26) rfl ?_
  refine L_y rfl (y_move rfl) rfl ?_
  refine L_y rfl (y_move rfl) rfl ?_
  refine L_op rfl (op_call rfl rfl (fun a w => Try.call59 a w) rfl ?_)
  refine ((present_ff h hp hq).sub (hsub_pick [0, 0] rfl)).mono ?_
  rintro _ _ ⟨rfl, rfl⟩
  refine ⟨_, rfl, ?_⟩
  refine L_y rfl (y_lenS rfl rfl Try.underlying118) rfl ?_
  refine L_y rfl (y_lss rfl rfl) rfl ?_
  refine L_y rfl (y_pick_f rfl rfl) rfl ?_
  refine L_nil ?_
  refine C_cond_t rfl ?_
  refine C_seq ?_
  refine C_region ?_
  refine L_y rfl (y_assign rfl) rfl ?_
  refine L_nil ?_
  refine C_ret ?_
  refine B_ret (rv_tmp rfl rv_nil) ((hsub (.cons_cons _ (.cons_cons _ (.refl _)))).trans (hsub_pick [0, 0] rfl)) ?_
  exact ⟨ret_int (by simp [syncE, hp, hq]), D, h.to (by simp [syncA, hp, hq]), by rw [show syncM m A p = m by simp [syncM, hp, hq]] <;> rfl⟩

theorem sync_m {w0 : World} {H : Hp} {D : Duo} {A : Da} {bp : Nat} {m : Mi} (h : Two dt D A m.bx m.bys bp) {p : Int → Sec → Bool} (hG : GoodAt Try.prog w0 H m.gv p) (hQ : ∀ i, (A.dev i).Q.length ≤ 50000) (hm : m.n ≤ 4096) (hL : m.k0.length ≤ 4096 ∧ m.k1.length ≤ 4096) : FnS Try.prog w0 32 #[ptr m.b] (m.seg 110 :: D.seg dt :: H) (fun e H' => e = .returned (.int .i64 (syncE m A p)) ∧ ∃ D', Two dt D' (syncA m A p) m.bx m.bys bp ∧ H' = (syncM m A p).seg 110 :: D'.seg dt :: H) := by
  cases hp : thr A false <;> cases hq : thr A true
  · exact sync_ff h hG hQ hm hL hp hq
  · exact sync_ft h hG hQ hm hL hp hq
  · exact sync_tf h hG hQ hm hL hp hq
  · exact sync_tt h hG hQ hm hL hp hq

end Go.Proofs.Ytjjiclgbdenkkaa

/- walks (own work; the walks' lines by a program of this repo). -/
set_option linter.unusedVariables false
set_option linter.unusedSimpArgs false
set_option maxRecDepth 20000
namespace Go.Proofs.Ytjjiclgbdenkkaa
open Go.Sl
attribute [local irreducible] BodyQ WpC WpL WpS WpH OpW FnS


theorem mread_b {w0 : World} {H : Hp} {D : Duo} {A : Da} {m : Mi} {mb bx bys bp : Nat} (hb : m.b = mb) (hx : m.bx = bx) (hy : m.bys = bys) (h : Two dt D A bx bys bp) {p : Int → Sec → Bool} (hG : GoodAt Try.prog w0 H m.gv p) (n : Int) : FnS Try.prog w0 22 #[ptr mb, .int .i64 n] (m.seg 110 :: D.seg dt :: H) (fun e H' => e = .returned (.tuple #[.agg (bs (mrS m A p n)).toArray, .int .i64 (mrE m A p n)]) ∧ H' = m.seg 110 :: D.seg dt :: H) := by
  subst hb hx hy
  exact mread_m h hG n

theorem mwrite_b {w0 : World} {H : Hp} {D : Duo} {A : Da} {m : Mi} {mb bx bys bp : Nat} (hb : m.b = mb) (hx : m.bx = bx) (hy : m.bys = bys) (h : Two dt D A bx bys bp) (n : Int) (s : Sec) (hs : s.length = 128) (hQ : ∀ i, (A.dev i).Q.length < 99990) : FnS Try.prog w0 19 #[ptr mb, .int .i64 n, .agg (bs s).toArray] (m.seg 110 :: D.seg dt :: H) (fun e H' => e = .returned (.int .i64 (putE m A askAll n s)) ∧ ∃ D', Two dt D' (putDa m A askAll n s) bx bys bp ∧ H' = (putm m A askAll n s).seg 110 :: D'.seg dt :: H) := by
  subst hb hx hy
  exact mwrite_m h n s hs hQ

theorem mchoose_b {w0 : World} {H : Hp} {D : Duo} {A : Da} {m : Mi} {mb bx bys bp : Nat} (hb : m.b = mb) (hx : m.bx = bx) (hy : m.bys = bys) (h : Two dt D A bx bys bp) (n : Int) (s : Sec) (hs : s.length = 128) (hQ : ∀ i, (A.dev i).Q.length < 99990) : FnS Try.prog w0 31 #[ptr mb, .int .i64 n, .agg (bs s).toArray] (m.seg 110 :: D.seg dt :: H) (fun e H' => e = .returned (.int .i64 (putE m A (askNew n s) n s)) ∧ ∃ D', Two dt D' (putDa m A (askNew n s) n s) bx bys bp ∧ H' = (putm m A (askNew n s) n s).seg 110 :: D'.seg dt :: H) := by
  subst hb hx hy
  exact mchoose_m h n s hs hQ

theorem mflush_b {w0 : World} {H : Hp} {D : Duo} {A : Da} {m : Mi} {mb bx bys bp : Nat} (hb : m.b = mb) (hx : m.bx = bx) (hy : m.bys = bys) (h : Two dt D A bx bys bp) : FnS Try.prog w0 21 #[ptr mb] (m.seg 110 :: D.seg dt :: H) (fun e H' => e = .returned (.int .i64 (mfl A).2) ∧ ∃ D', Two dt D' ((mfl A).1) bx bys bp ∧ H' = m.seg 110 :: D'.seg dt :: H) := by
  subst hb hx hy
  exact mflush_m h

theorem sync_b {w0 : World} {H : Hp} {D : Duo} {A : Da} {m : Mi} {mb bx bys bp : Nat} (hb : m.b = mb) (hx : m.bx = bx) (hy : m.bys = bys) (h : Two dt D A bx bys bp) {p : Int → Sec → Bool} (hG : GoodAt Try.prog w0 H m.gv p) (hQ : ∀ i, (A.dev i).Q.length ≤ 50000) (hm : m.n ≤ 4096) (hL : m.k0.length ≤ 4096 ∧ m.k1.length ≤ 4096) : FnS Try.prog w0 32 #[ptr mb] (m.seg 110 :: D.seg dt :: H) (fun e H' => e = .returned (.int .i64 (syncE m A p)) ∧ ∃ D', Two dt D' (syncA m A p) bx bys bp ∧ H' = (syncM m A p).seg 110 :: D'.seg dt :: H) := by
  subst hb hx hy
  exact sync_m h hG hQ hm hL

theorem stale_b {w0 : World} {H : Hp} {m : Mi} {b : Nat} (hb : m.b = b) : FnS Try.prog w0 35 #[ptr b] (m.seg 110 :: H) (fun e H' => e = .returned (.tuple #[.int .i64 (m.k0.length : Int), .int .i64 (m.k1.length : Int)]) ∧ H' = m.seg 110 :: H) := by
  subst hb
  exact stale_m

theorem mrS_len {A : Da} {m : Mi} {p : Int → Sec → Bool} {n : Int} (h : ∀ i, (A.dev i).ok) : (mrS m A p n).length = 128 := by
  unfold mrS
  split
  · split
    · exact rS_len _ h
    · split
      · exact rS_len _ h
      · exact secOf_len _
  · exact secOf_len _

end Go.Proofs.Ytjjiclgbdenkkaa

/- A mirror of which one device missed something (own work). -/
set_option linter.unusedVariables false
set_option linter.unusedSimpArgs false
namespace Go.Sl
section
variable {m : Mi} {A : Da} {p : Int → Sec → Bool} {K : Nat} {X Y : List Sec} {k0 k1 t c : Nat} {s : Sec}
theorem setd_setd (A : Da) (i : Bool) (x y : Ab) : (A.setd i x).setd i y = A.setd i y := by cases i <;> rfl
theorem dev_setd (A : Da) (i : Bool) (x : Ab) : (A.setd i x).dev i = x := by cases i <;> rfl
theorem Ab.outs_back {a : Ab} (hq : a.Q = []) (ho : a.out = false) : (a.outs true).outs false = a := by
  obtain ⟨S, Q, k, b, l, o⟩ := a
  simp only at hq ho
  subst hq ho
  rfl
/-- Out, and in again, with nothing waiting. -/
theorem Vw.outin {i : Bool} (h : Vw A K X Y 0 0) : (A.setd i ((A.dev i).outs true)).setd i (((A.setd i ((A.dev i).outs true)).dev i).outs false) = A := by
  rw [dev_setd, setd_setd, Ab.outs_back (by have := (h.dev i).many; cases i <;> exact List.eq_nil_of_length_eq_zero (Nat.le_zero.1 this)) (h.dev i).out, Da.setd_self]
/-- What is written and flushed while the first device is out; it is in again then. -/
theorem missed (h : Vw A K X Y 0 k1) (ht : t < K) (hs : s.length = 128) (hm : m.n = K) (z0 : m.k0 = []) (z1 : m.k1 = []) :
    putE m (A.setd false ((A.dev false).outs true)) askAll t s = 0 ∧
    Vw ((mfl (putDa m (A.setd false ((A.dev false).outs true)) askAll t s)).1.setd false (((mfl (putDa m (A.setd false ((A.dev false).outs true)) askAll t s)).1.dev false).outs false)) K X (Y.set t s) 0 0 ∧
    (putm m (A.setd false ((A.dev false).outs true)) askAll t s).k0 = [((t : Int), m.c0)] ∧ (putm m (A.setd false ((A.dev false).outs true)) askAll t s).k1 = [] ∧
    (putm m (A.setd false ((A.dev false).outs true)) askAll t s).b = m.b ∧ (putm m (A.setd false ((A.dev false).outs true)) askAll t s).bx = m.bx ∧ (putm m (A.setd false ((A.dev false).outs true)) askAll t s).bys = m.bys ∧
    (putm m (A.setd false ((A.dev false).outs true)) askAll t s).n = m.n ∧ (putm m (A.setd false ((A.dev false).outs true)) askAll t s).gv = m.gv := by
  obtain ⟨p0, p1, p2⟩ := put_out (s := s) h ht hm z0 z1
  refine ⟨p0, ?_, p2⟩
  have hh := has_of hm ht
  obtain ⟨w1, w2⟩ := h.write (n := t) (s := s) true ht hs
  obtain ⟨f1, f2⟩ := w2.flush true
  simp only [if_true] at f2
  generalize hA : A.setd false ((A.dev false).outs true) = A' at *
  have c2 : A'.calm := by rw [← hA]; exact Da.calm_setd h.calm false _
  have to : thr A' false = false := by rw [← hA]; simp [thr, Da.setd, Da.dev, Ab.outs, Ab.down]
  have ti : thr A' true = true := by rw [← hA]; exact h.thr true
  have pa : pA A' false askAll t s = A' := by unfold pA; rw [to]; rfl
  have pB : putDa m A' askAll t s = A'.write true t s := by
    unfold putDa putA; rw [hh, if_pos rfl, pa]; unfold pA; rw [ti]; rfl
  have hB : (A'.write true t s).dev false = A'.dev false := by
    rw [(Da.write_calm c2 true (t : Int) s).1]
    split <;> rfl
  have cB := Da.write_calm2 c2 true (t : Int) s
  rw [pB] at p1 ⊢
  generalize hB2 : A'.write true (t : Int) s = B at *
  have tB : thr B false = false := by
    unfold thr Ab.down
    rw [hB, ← hA]
    simp [Da.setd, Da.dev, Ab.outs]
  have eB : B.setd false ((B.dev false).outs false) = A.write true t s := p1
  have oB : (B.dev true).out = false := by
    have : (A.write true t s).dev true = B.dev true := by rw [← eB]; rfl
    rw [← this]; exact (w2.dev true).out
  have tB1 : thr B true = true := by
    unfold thr Ab.down
    rw [oB, (Da.calm_pow cB true).1]; rfl
  have fl : B.flush true = B.setd true ((B.dev true).flush) := by rw [(Da.flush_calm cB true).1, oB]; rfl
  have fA : (A.write true t s).flush true = (A.write true t s).setd true (((A.write true t s).dev true).flush) := by
    rw [(Da.flush_calm w2.calm true).1, (w2.dev true).out]; rfl
  have key : (mfl B).1.setd false (((mfl B).1.dev false).outs false) = (A.write true t s).flush true := by
    unfold mfl fl1
    rw [tB, tB1]
    simp only [Bool.false_eq_true, if_false, if_true]
    rw [fl, fA, ← eB]
    rfl
  rw [key]
  exact f2
/-- What is read where the first device missed something. -/
theorem rd_stale (h : Vw A K X Y k0 k1) (hm : m.n = K) (z0 : m.k0 = [((t : Int), c)]) (z1 : m.k1 = []) (hs : Y[t]? = some s) (hg : p t s = true) : mrS m A p t = s ∧ mrE m A p t = 0 := by
  have ht : t < K := by have := (List.getElem?_eq_some_iff.1 hs).1; have := h.b.wlen; omega
  obtain ⟨r, e⟩ := h.reads true (s := s) hs
  have o0 : okAt A false m.k0 p t = false := by simp [okAt, z0, kHas_one]
  have o1 : okAt A true m.k1 p t = true := by simp [okAt, z1, kHas, r, e, hg]
  unfold mrS mrE
  rw [has_of hm ht, h.thr false, h.thr true, o0, o1, r]
  exact ⟨rfl, rfl⟩
theorem rd_lost (h : Vw A K X Y k0 k1) (hm : m.n = K) (z0 : m.k0 = [((t : Int), c)]) (ht : t < K) : mrE m (A.setd true ((A.dev true).outs true)) p t = 9 := by
  have o0 : okAt (A.setd true ((A.dev true).outs true)) false m.k0 p t = false := by simp [okAt, z0, kHas_one]
  have t0 : thr (A.setd true ((A.dev true).outs true)) false = true := h.thr false
  have t1 : thr (A.setd true ((A.dev true).outs true)) true = false := by simp [thr, Da.setd, Da.dev, Ab.outs, Ab.down]
  unfold mrE
  rw [has_of hm ht, t0, t1, o0]
  rfl
theorem syN_first (h : Vw A K X (Y.set t s) 0 0) (ht : t < K) (hs : s.length = 128) (hl : Y.length = K) (z0 : m.k0 = [((t : Int), c)]) (z1 : m.k1 = []) (hg : p t s = true) :
    ∀ k, (k ≤ t → syN p false (A, m) k = (A, m)) ∧ (t < k → syN p false (A, m) k = (A.write false t s, m.del false t))
  | 0 => ⟨fun _ => rfl, fun h => by omega⟩
  | k + 1 => by
    obtain ⟨i1, i2⟩ := syN_first h ht hs hl z0 z1 hg k
    rcases Nat.lt_trichotomy k t with hlt | rfl | hgt
    · refine ⟨fun _ => ?_, fun h => by omega⟩
      rw [syN_succ (i1 (by omega))]
      unfold sy1 syOk Mi.ks
      rw [z0, kHas_one, decide_eq_false (by omega)]
      rfl
    · refine ⟨fun h => by omega, fun _ => ?_⟩
      rw [syN_succ (i1 (Nat.le_refl _))]
      have g2 : (Y.set k s)[k]? = some s := by rw [List.getElem?_set_self (by omega)]
      obtain ⟨r, e⟩ := h.reads true (s := s) g2
      have w := (h.write (n := k) (s := s) false ht hs).1
      unfold sy1 syOk Mi.ks
      simp only [Bool.not_false]
      rw [z0, z1, kHas_one, decide_eq_true rfl, r, e, hg, w]
      rfl
    · refine ⟨fun h => by omega, fun _ => ?_⟩
      rw [syN_succ (i2 (by omega))]
      have z : (m.del false (t : Int)).ks false = [] := by simp [Mi.ks, Mi.del, z0, kDel_one]
      unfold sy1 syOk
      rw [show (A.write false t s, m.del false (t : Int)).2.ks false = [] from z]
      rfl
theorem syN_none {i : Bool} (z : m.ks i = []) : ∀ k, syN p i (A, m) k = (A, m)
  | 0 => rfl
  | k + 1 => by
    rw [syN_succ (syN_none z k)]
    unfold sy1 syOk
    rw [z]
    rfl
/-- Sync where the first device missed something. -/
theorem synced (h : Vw A K X (X.set t s) 0 0) (ht : t < K) (hs : s.length = 128) (hm : m.n = K) (z0 : m.k0 = [((t : Int), c)]) (z1 : m.k1 = []) (hg : p t s = true) :
    syncE m A p = 0 ∧ Vw (syncA m A p) K (X.set t s) (X.set t s) 0 0 ∧ (syncM m A p).k0 = [] ∧ (syncM m A p).k1 = [] ∧ (syncM m A p).b = m.b ∧ (syncM m A p).bx = m.bx ∧ (syncM m A p).bys = m.bys ∧ (syncM m A p).n = m.n ∧ (syncM m A p).gv = m.gv := by
  have e1 := (syN_first h ht hs h.a.wlen z0 z1 hg m.n).2 (by omega)
  have zz : (m.del false (t : Int)).ks true = [] := z1
  have eq : syncQ m A p = (A.write false t s, m.del false t) := by unfold syncQ; rw [e1, syN_none zz]
  have v := (h.write (n := t) (s := s) false ht hs).2
  simp only [Bool.false_eq_true, if_false] at v
  have k0' : (m.del false (t : Int)).k0 = [] := by simp [Mi.del, z0, kDel_one]
  have k1' : (m.del false (t : Int)).k1 = [] := z1
  unfold syncE syncA syncM
  rw [h.thr false, h.thr true, eq]
  simp only [Bool.and_self, if_true, k0', k1']
  exact ⟨by trivial, v.mfl.2, by trivial, by trivial, rfl, rfl, rfl, rfl, rfl⟩
end
end Go.Sl

/- The document's mirror: two lists that are there, or not: the plain model, and what a mirror has to do with it (own work). -/
set_option linter.unusedVariables false
set_option linter.unusedSimpArgs false
namespace Go.Sl
/-! ### Keys -/
section
variable {ks : List (Int × Nat)} {k j : Int} {c : Nat}
theorem kDel_erase (ks : List (Int × Nat)) (k : Int) : kDel ks k = ks.eraseP (·.1 == k) := by
  rw [List.eraseP_eq_eraseIdx]
  unfold kDel
  cases ks.findIdx? (·.1 == k) <;> rfl
def kOk (ks : List (Int × Nat)) : Prop := (ks.map (·.1)).Nodup
theorem kHas_mem : kHas ks k = true ↔ k ∈ ks.map (·.1) := by
  unfold kHas
  rw [List.any_eq_true, List.mem_map]
  refine ⟨fun ⟨x, h, e⟩ => ⟨x, h, by simpa using e⟩, fun ⟨x, h, e⟩ => ⟨x, h, by simpa using e⟩⟩
theorem kHas_put : kHas (kPut ks c k) j = (kHas ks j || decide (j = k)) := by
  unfold kPut
  split
  · rename_i h
    by_cases e : j = k
    · subst e; simp [h]
    · simp [e]
  · unfold kHas
    rw [List.any_append]
    simp only [List.any_cons, List.any_nil, Bool.or_false]
    congr 1
    by_cases e : j = k
    · subst e; simp
    · simp [e, Ne.symm e]
theorem kOk.put (h : kOk ks) : kOk (kPut ks c k) := by
  unfold kPut
  split
  · exact h
  · rename_i hn
    have hn2 : k ∉ ks.map (·.1) := fun h => hn (kHas_mem.2 h)
    unfold kOk
    rw [List.map_append, List.nodup_append]
    refine ⟨h, by simp, fun a ha b hb => ?_⟩
    simp at hb
    subst hb
    intro e; subst e
    exact hn2 ha
theorem kOk.del (h : kOk ks) : kOk (kDel ks k) := by
  rw [kDel_erase]
  unfold kOk at h ⊢
  exact List.Sublist.nodup (List.Sublist.map _ List.eraseP_sublist) h
theorem kHas_del : ∀ {ks : List (Int × Nat)}, kOk ks → kHas (kDel ks k) j = (kHas ks j && !decide (j = k))
  | [], _ => by simp [kDel, kHas]
  | x :: ks, h => by
    rw [kDel_erase, List.eraseP_cons]
    unfold kOk at h
    rw [List.map_cons, List.nodup_cons] at h
    by_cases e : x.1 = k
    · have hb : (x.1 == k) = true := by simpa using e
      rw [hb]
      simp only [cond_true, if_true]
      unfold kHas
      rw [List.any_cons]
      by_cases ej : j = k
      · have : ks.any (fun x => x.1 == k) = false := by
          rw [← Bool.not_eq_true]
          intro hc
          exact h.1 (e ▸ kHas_mem.1 hc)
        subst ej
        rw [this]; simp
      · have : (x.1 == j) = false := by simp; omega
        rw [this]; simp [ej]
    · have hb : (x.1 == k) = false := by simpa using e
      rw [hb]
      have ih := kHas_del (ks := ks) h.2
      rw [kDel_erase] at ih
      unfold kHas at ih ⊢
      simp only [cond_false, Bool.false_eq_true, if_false]
      rw [List.any_cons, List.any_cons, ih]
      by_cases ej : j = k
      · subst ej; rw [hb]; simp
      · simp [ej]
theorem kPut_len : (kPut ks c k).length = ks.length + (if kHas ks k then 0 else 1) := by
  unfold kPut; split <;> simp
theorem kDel_len2 : (kDel ks k).length + (if kHas ks k then 1 else 0) = ks.length := by
  rw [kDel_erase]
  split
  · rename_i h
    have h2 := kHas_mem.1 h
    obtain ⟨x, hx, e⟩ := List.mem_map.1 h2
    have := List.length_eraseP_of_mem (p := fun y : Int × Nat => y.1 == k) hx (by simpa using e)
    have hp : 0 < ks.length := List.length_pos_of_mem hx
    omega
  · rename_i h
    rw [List.eraseP_of_forall_not]
    · rfl
    · intro a ha hc
      exact h (kHas_mem.2 (List.mem_map.2 ⟨a, ha, by simpa using hc⟩))
end
/-! ### The document's mirror -/
structure Rs where
  l : List Sec
  o : Bool
  s : List Bool
structure Rm where
  x : Rs
  y : Rs
def Rm.sd (r : Rm) : Bool → Rs
  | false => r.x
  | true => r.y
def Rm.put (r : Rm) (i : Bool) (z : Rs) : Rm := match i with
  | false => { r with x := z }
  | true => { r with y := z }
def Rs.at (r : Rs) (n : Nat) : Sec := r.l.getD n []
def Rs.old (r : Rs) (n : Nat) : Bool := r.s.getD n false
def Rs.tells (r : Rs) (p : Int → Sec → Bool) (n : Nat) : Bool := !r.old n && p n (r.at n)
def Rm.has (r : Rm) (n : Int) : Bool := decide (0 ≤ n) && decide (n < r.x.l.length)
def Rm.readE (r : Rm) (p : Int → Sec → Bool) (n : Int) : Int :=
  if r.has n then (if r.x.o && r.y.o then 13 else if !r.x.o && r.x.tells p n.toNat then 0 else if !r.y.o && r.y.tells p n.toNat then 0 else 9) else 2
def Rm.readS (r : Rm) (p : Int → Sec → Bool) (n : Int) : Sec :=
  if r.has n then (if !r.x.o && r.x.tells p n.toNat then r.x.at n.toNat else if !r.y.o && r.y.tells p n.toNat then r.y.at n.toNat else secOf 0) else secOf 0
def Rs.wl (r : Rs) (n : Nat) (s : Sec) : Rs := { r with l := if r.o then r.l else r.l.set n s }
def Rs.wr (r : Rs) (n : Nat) (s : Sec) : Rs := { r.wl n s with s := r.s.set n r.o }
def Rm.writeE (r : Rm) (n : Int) : Int := if r.has n then (if r.x.o && r.y.o then 13 else 0) else 2
def Rm.write (r : Rm) (n : Int) (s : Sec) : Rm := if r.has n && !(r.x.o && r.y.o) then ⟨r.x.wr n.toNat s, r.y.wr n.toNat s⟩ else r
def Rm.healTo (r : Rm) (p : Int → Sec → Bool) (n : Int) : Option Bool :=
  if r.has n && (!r.x.o && !r.y.o) then
    (if r.x.tells p n.toNat then (if r.y.tells p n.toNat && decide (r.x.at n.toNat = r.y.at n.toNat) then none else some true) else if r.y.tells p n.toNat then some false else none)
  else none
def Rm.healR (r : Rm) (p : Int → Sec → Bool) (n : Int) : Int × Int :=
  if r.has n then (if !r.x.o && !r.y.o then
    (if r.x.tells p n.toNat then (if r.y.tells p n.toNat && decide (r.x.at n.toNat = r.y.at n.toNat) then (0, 0) else (1, 0)) else if r.y.tells p n.toNat then (1, 0) else (2, 0))
  else (0, 13)) else (0, 2)
def Rs.copy (r : Rs) (n : Nat) (s : Sec) : Rs := { r with l := r.l.set n s, s := r.s.set n false }
def Rm.heal (r : Rm) (p : Int → Sec → Bool) (n : Int) : Rm := match r.healTo p n with
  | none => r
  | some i => r.put i ((r.sd i).copy n.toNat ((r.sd (!i)).at n.toNat))
def Rm.both (r : Rm) (p : Int → Sec → Bool) (n : Int) : List Sec :=
  if r.has n then (if !r.x.o && p n (r.x.at n.toNat) then [r.x.at n.toNat] else []) ++ (if !r.y.o && p n (r.y.at n.toNat) then [r.y.at n.toNat] else []) else []
def Rs.cnt (r : Rs) : Nat := r.s.countP id
def Rm.sy1 (p : Int → Sec → Bool) (i : Bool) (r : Rm) (n : Nat) : Rm :=
  if (r.sd i).old n && (r.sd (!i)).tells p n then r.put i ((r.sd i).copy n ((r.sd (!i)).at n)) else r
def Rm.syN (p : Int → Sec → Bool) (i : Bool) (r : Rm) : Nat → Rm
  | 0 => r
  | k + 1 => Rm.sy1 p i (Rm.syN p i r k) k
def Rm.syncQ (r : Rm) (p : Int → Sec → Bool) : Rm := Rm.syN p true (Rm.syN p false r r.x.l.length) r.x.l.length
def Rm.sync (r : Rm) (p : Int → Sec → Bool) : Rm := if !r.x.o && !r.y.o then r.syncQ p else r
def Rm.syncE (r : Rm) (p : Int → Sec → Bool) : Int := if !r.x.o && !r.y.o then (if (r.syncQ p).x.cnt + (r.syncQ p).y.cnt = 0 then 0 else 9) else 13
def Rm.outs (r : Rm) (i on : Bool) : Rm := r.put i { r.sd i with o := on }
def Rm.rot (r : Rm) (i : Bool) (n : Int) (j : Nat) (c : UInt8) : Rm := if r.has n then r.put i { r.sd i with l := (r.sd i).l.set n.toNat (rotB ((r.sd i).at n.toNat) j c) } else r
def Rm.new (K : Nat) (a b : Bool) : Rm := ⟨⟨List.replicate K (secOf 0), a, List.replicate K a⟩, ⟨List.replicate K (secOf 0), b, List.replicate K b⟩⟩
theorem Rs.wl_out {z : Rs} {n : Nat} {s : Sec} (h : z.o = true) : z.wl n s = z := by cases z; simp_all [Rs.wl]
theorem Rs.wl_in {z : Rs} {n : Nat} {s : Sec} (h : z.o = false) : z.wl n s = { z with l := z.l.set n s } := by cases z; simp_all [Rs.wl]
theorem tf (b : Bool) : b = false ∨ b = true := by cases b <;> simp
/-! ### One side -/
structure Side (r : Rs) (a : Ab) (ks : List (Int × Nat)) (K k : Nat) : Prop where
  ok : a.ok
  len : a.S.length = K
  lies : a.lies = false
  out : a.out = r.o
  many : a.Q.length ≤ k
  none : r.o = true → a.Q = []
  rlen : r.l.length = K
  slen : r.s.length = K
  lok : ∀ s ∈ r.l, s.length = 128
  read : ∀ j s, r.l[j]? = some s → a.read j = s
  kok : kOk ks
  has : ∀ n : Int, kHas ks n = (decide (0 ≤ n) && r.s.getD n.toNat false)
  cnt : ks.length = r.cnt
section
variable {r : Rs} {a : Ab} {ks : List (Int × Nat)} {K k n : Nat} {s : Sec}
theorem Side.rd (h : Side r a ks K k) (ho : r.o = false) : RdW K r.l a k := ⟨h.ok, h.len, h.out.trans ho, h.lies, h.many, h.rlen, h.read⟩
theorem Side.mono {k' : Nat} (h : Side r a ks K k) (hk : k ≤ k') : Side r a ks K k' := { h with many := Nat.le_trans h.many hk }
theorem Side.idle (h : Side r a ks K k) (ho : r.o = true) : Side r a ks K 0 := { h with many := by rw [h.none ho]; exact Nat.le_refl _ }
theorem Side.atlen (h : Side r a ks K k) (hn : n < K) : (r.at n).length = 128 := by
  have hl : n < r.l.length := by have := h.rlen; omega
  exact h.lok _ (by rw [Rs.at, List.getD_eq_getElem?_getD, List.getElem?_eq_getElem hl]; exact List.getElem_mem hl)
theorem Side.get (h : Side r a ks K k) (hn : n < K) : r.l[n]? = some (r.at n) := by
  have hl : n < r.l.length := by have := h.rlen; omega
  rw [Rs.at, List.getD_eq_getElem?_getD, List.getElem?_eq_getElem hl]; rfl
theorem Side.push (h : Side r a ks K k) (ho : r.o = false) (hn : n < K) (hs : s.length = 128) : Side { r with l := r.l.set n s } (a.push n s) ks K (k + 1) := by
  have w := (h.rd ho).write hn hs
  exact ⟨w.ok, w.len, w.lies, h.out, w.many, (fun h2 => by rw [ho] at h2; cases h2), w.wlen, h.slen, set_ok2 h.lok hs, w.read, h.kok, h.has, h.cnt⟩
theorem Side.flush (h : Side r a ks K k) (ho : r.o = false) : Side r a.flush ks K 0 := by
  have w := (h.rd ho).flush
  exact ⟨w.ok, w.len, w.lies, w.out.trans ho.symm, w.many, (fun h2 => by rw [ho] at h2; cases h2), w.wlen, h.slen, h.lok, w.read, h.kok, h.has, h.cnt⟩
theorem getD_set {l : List Bool} {n j : Nat} {b : Bool} (hn : n < l.length) : (l.set n b).getD j false = if j = n then b else l.getD j false := by
  rw [List.getD_eq_getElem?_getD, List.getD_eq_getElem?_getD, List.getElem?_set]
  by_cases e : n = j
  · subst e; simp [hn]
  · simp [e, Ne.symm e]
theorem countP_set2 {l : List Bool} {n : Nat} {b : Bool} (hn : n < l.length) : (l.set n b).countP id + (if l.getD n false then 1 else 0) = l.countP id + (if b then 1 else 0) := by
  have := List.countP_set (p := id) (a := b) hn
  have hg : l.getD n false = l[n] := by rw [List.getD_eq_getElem?_getD, List.getElem?_eq_getElem hn]; rfl
  have hp : l[n] = true → 0 < l.countP id := fun h => List.countP_pos_iff.2 ⟨_, List.getElem_mem hn, h⟩
  rw [hg, this]
  simp only [id]
  cases hb : l[n]
  · simp
  · have := hp hb
    simp; omega
theorem Side.unmark (h : Side r a ks K k) (hn : n < K) : Side { r with s := r.s.set n false } a (kDel ks n) K k := by
  have hl : n < r.s.length := by have := h.slen; omega
  refine { h with slen := by simpa using h.slen, kok := h.kok.del, has := fun j => ?_, cnt := ?_ }
  · rw [kHas_del h.kok, h.has]
    simp only
    rw [getD_set hl]
    by_cases hj : 0 ≤ j
    · obtain ⟨j, rfl⟩ : ∃ m : Nat, j = m := ⟨j.toNat, by omega⟩
      simp only [Int.toNat_natCast]
      by_cases e : j = n
      · subst e; simp
      · have : ¬ ((j : Int) = n) := by omega
        simp [e, this]
    · simp [hj]
  · have h1 := kDel_len2 (ks := ks) (k := (n : Int))
    have h2 := countP_set2 (b := false) hl
    have h3 := h.has (n : Int)
    have h4 := h.cnt
    simp only [Int.toNat_natCast] at h3
    rw [show decide ((0 : Int) ≤ n) = true from by simp, Bool.true_and] at h3
    rw [h3] at h1
    simp only [Rs.cnt] at h4 ⊢
    simp only [Bool.false_eq_true, if_false] at h2
    omega
theorem Side.mark {c : Nat} (h : Side r a ks K k) (hn : n < K) : Side { r with s := r.s.set n true } a (kPut ks c n) K k := by
  have hl : n < r.s.length := by have := h.slen; omega
  refine { h with slen := by simpa using h.slen, kok := h.kok.put, has := fun j => ?_, cnt := ?_ }
  · rw [kHas_put, h.has]
    simp only
    rw [getD_set hl]
    by_cases hj : 0 ≤ j
    · obtain ⟨j, rfl⟩ : ∃ m : Nat, j = m := ⟨j.toNat, by omega⟩
      simp only [Int.toNat_natCast]
      by_cases e : j = n
      · subst e; simp
      · have : ¬ ((j : Int) = n) := by omega
        simp [e, this]
    · have : ¬ (j = (n : Int)) := by omega
      simp [hj, this]
  · have h1 := kPut_len (ks := ks) (k := (n : Int)) (c := c)
    have h2 := countP_set2 (b := true) hl
    have h3 := h.has (n : Int)
    have h4 := h.cnt
    simp only [Int.toNat_natCast] at h3
    rw [show decide ((0 : Int) ≤ n) = true from by simp, Bool.true_and] at h3
    rw [h3] at h1
    simp only [Rs.cnt] at h4 ⊢
    simp only [if_true] at h2
    cases hb : r.s.getD n false
    · rw [hb] at h1 h2; simp at h1 h2; omega
    · rw [hb] at h1 h2; simp at h1 h2; omega
theorem Side.stable (h : Side r a ks K 0) : a.Q = [] ∧ a.S = r.l := by
  have hq : a.Q = [] := List.eq_nil_of_length_eq_zero (Nat.le_zero.1 h.many)
  refine ⟨hq, ?_⟩
  apply List.ext_getElem?
  intro j
  by_cases hj : j < K
  · have g := h.get hj
    have := h.read j _ g
    rw [g, ← this]
    have hl : j < a.S.length := by have := h.len; omega
    simp [Ab.read, hq, lastW, List.getD, hl]
  · rw [List.getElem?_eq_none (by have := h.len; omega), List.getElem?_eq_none (by have := h.rlen; omega)]
theorem read_nil {a : Ab} (h : a.Q = []) (n : Nat) : a.read n = a.S.getD n [] := by simp [Ab.read, h, lastW]
theorem Side.outs {on : Bool} (h : Side r a ks K 0) : Side { r with o := on } (a.outs on) ks K 0 := by
  obtain ⟨hq, hS⟩ := h.stable
  have e : a.outs on = { a with out := on } := by cases on <;> simp [Ab.outs, hq]
  rw [e]
  exact ⟨h.ok, h.len, h.lies, rfl, h.many, fun _ => hq, h.rlen, h.slen, h.lok, h.read, h.kok, h.has, h.cnt⟩
theorem Side.rot {j : Nat} {c : UInt8} (h : Side r a ks K 0) (hn : n < K) : Side { r with l := r.l.set n (rotB (r.at n) j c) } (a.rot n j c) ks K 0 := by
  obtain ⟨hq, hS⟩ := h.stable
  have g := h.get hn
  have hg : a.S.getD n [] = r.at n := by rw [hS]; rfl
  refine ⟨Ab.rot_ok h.ok (by rw [h.len]; exact hn), by simp [Ab.rot, h.len], h.lies, h.out, by simp [Ab.rot, hq], fun _ => hq, by simpa using h.rlen, h.slen, set_ok2 h.lok (rotB_len.trans (h.atlen hn)), fun i u hu => ?_, h.kok, h.has, h.cnt⟩
  rw [read_nil (by simpa [Ab.rot] using hq)]
  simp only [Ab.rot]
  rw [hg, hS]
  simp only at hu
  rw [show (r.at n).set j ((r.at n).getD j 0 ^^^ c) = rotB (r.at n) j c from rfl, List.getD_eq_getElem?_getD, hu]; rfl
end
/-! ### Both -/
structure Rel (A : Da) (m : Mi) (r : Rm) (K k0 k1 : Nat) : Prop where
  calm : A.calm
  x : Side r.x A.a m.k0 K k0
  y : Side r.y A.b m.k1 K k1
  n : m.n = K
section
variable {A : Da} {m : Mi} {r : Rm} {K k0 k1 : Nat} {s : Sec} {ask : Da → Bool → Bool} {p : Int → Sec → Bool}
theorem Rel.sd (h : Rel A m r K k0 k1) (i : Bool) : Side (r.sd i) (A.dev i) (m.ks i) K (pick2 i k0 k1) := by
  cases i
  · exact h.x
  · exact h.y
theorem Rel.mono {j0 j1 : Nat} (h : Rel A m r K k0 k1) (h0 : k0 ≤ j0) (h1 : k1 ≤ j1) : Rel A m r K j0 j1 := ⟨h.calm, h.x.mono h0, h.y.mono h1, h.n⟩
theorem Rel.thr (h : Rel A m r K k0 k1) (i : Bool) : Sl.thr A i = !(r.sd i).o := by
  unfold Sl.thr Ab.down
  rw [(h.sd i).out, (Da.calm_pow h.calm i).1]
  simp
theorem Rel.has (h : Rel A m r K k0 k1) (n : Int) : m.has n = r.has n := by
  unfold Mi.has Rm.has
  rw [h.n, h.x.rlen]
theorem Rel.hasK (h : Rel A m r K k0 k1) (n : Int) : r.has n = (decide (0 ≤ n) && decide (n < K)) := by
  unfold Rm.has
  rw [h.x.rlen]
theorem Rel.reads (h : Rel A m r K k0 k1) (i : Bool) {n : Nat} (hn : n < K) (ho : (r.sd i).o = false) : A.rS i (n : Int) = (r.sd i).at n ∧ A.rE i (n : Int) = 0 := by
  obtain ⟨h1, h2⟩ := Da.read_calm h.calm i (n : Int)
  have hd := h.sd i
  have hh : (A.dev i).has (n : Int) = true := by simp only [Ab.has, hd.len]; simp; omega
  rw [h1, h2, hd.out, ho, hh]
  exact ⟨by simpa using hd.read n _ (hd.get hn), rfl⟩
theorem Rel.writes (h : Rel A m r K k0 k1) (i : Bool) {n : Nat} (hn : n < K) (ho : (r.sd i).o = false) : A.wE i (n : Int) = 0 ∧ A.write i (n : Int) s = A.setd i ((A.dev i).push n s) := by
  obtain ⟨h1, h2⟩ := Da.write_calm h.calm i (n : Int) s
  have hd := h.sd i
  have hh : (A.dev i).has (n : Int) = true := by simp only [Ab.has, hd.len]; simp; omega
  rw [hd.out, ho, hh] at h1 h2
  exact ⟨by simpa using h2, by simpa using h1⟩
theorem Rel.keep {m' : Mi} (h : Rel A m r K k0 k1) (h0 : m'.k0 = m.k0) (h1 : m'.k1 = m.k1) (hn : m'.n = m.n) : Rel A m' r K k0 k1 := ⟨h.calm, h0 ▸ h.x, h1 ▸ h.y, hn.trans h.n⟩
theorem Rel.setd (h : Rel A m r K k0 k1) (i : Bool) {z : Rs} {a : Ab} {k : Nat} (hs : Side z a (m.ks i) K k) : Rel (A.setd i a) m (r.put i z) K (if i then k0 else k) (if i then k else k1) := by
  have hc := Da.calm_setd h.calm i a
  cases i
  · exact ⟨hc, hs, h.y, h.n⟩
  · exact ⟨hc, h.x, hs, h.n⟩
/-- A side's part of a write. -/
def AskRel (n : Int) (s : Sec) (ask : Da → Bool → Bool) : Prop := ∀ A m r K k0 k1, Rel A m r K k0 k1 → ∀ i, (r.sd i).o = false → m.has n = true → ask A i = false → (r.sd i).l[n.toNat]? = some s
theorem askrel_all (n : Int) (s : Sec) : AskRel n s askAll := fun A m r K k0 k1 h i ho hn hi => by cases hi
theorem askrel_new (n : Int) (s : Sec) : AskRel n s (askNew n s) := fun A m r K k0 k1 h i ho hn hi => by
  have hb := h.has n
  rw [hn, h.hasK] at hb
  obtain ⟨k, rfl⟩ : ∃ k : Nat, n = k := ⟨n.toNat, by have := hb.symm; simp at this; omega⟩
  have hk : k < K := by have := hb.symm; simp at this; omega
  obtain ⟨r0, e0⟩ := h.reads i hk ho
  unfold askNew at hi
  rw [r0, e0] at hi
  have : (r.sd i).at k = s := by simpa using hi
  rw [Int.toNat_natCast, ← this]
  exact (h.sd i).get hk
theorem Rel.side (h : Rel A m r K k0 k1) (i : Bool) {n : Nat} (hn : n < K) (hs : s.length = 128) (ha : AskRel n s ask) :
    pd A i ask n = !(r.sd i).o ∧ Rel (pA A i ask n s) m (r.put i ((r.sd i).wl n s)) K (if i then k0 else k0 + 1) (if i then k1 + 1 else k1) := by
  have hm : m.has (n : Int) = true := by rw [h.has, h.hasK]; simp; omega
  unfold pd pA
  rw [h.thr i]
  cases ho : (r.sd i).o
  · have ew := Rs.wl_in (n := n) (s := s) ho
    rw [ew]
    simp only [Bool.not_false, Bool.true_and, Bool.false_eq_true, if_false]
    obtain ⟨w1, w2⟩ := h.writes (s := s) i hn ho
    cases hk : ask A i
    · have hX := ha _ _ _ _ _ _ h i ho hm hk
      rw [Int.toNat_natCast] at hX
      refine ⟨by simp, ?_⟩
      simp only [Bool.false_eq_true, if_false]
      rw [set_self hX]
      have e : r.put i (r.sd i) = r := by cases i <;> rfl
      rw [show ({ r.sd i with l := (r.sd i).l } : Rs) = r.sd i from rfl, e]
      cases i
      · exact h.mono (Nat.le_succ _) (Nat.le_refl _)
      · exact h.mono (Nat.le_refl _) (Nat.le_succ _)
    · refine ⟨by simp [w1], ?_⟩
      simp only [if_true]
      rw [w2]
      have := h.setd i ((h.sd i).push ho hn hs)
      cases i <;> exact this
  · have ew := Rs.wl_out (n := n) (s := s) ho
    have e : r.put i (r.sd i) = r := by cases i <;> rfl
    rw [ew, e]
    simp only [Bool.not_true, Bool.false_and, Bool.false_eq_true, if_false, if_true]
    refine ⟨trivial, ?_⟩
    cases i
    · exact h.mono (Nat.le_succ _) (Nat.le_refl _)
    · exact h.mono (Nat.le_refl _) (Nat.le_succ _)
theorem Rel.put (h : Rel A m r K k0 k1) (n : Int) (hs : s.length = 128) (ha : AskRel n s ask) :
    putE m A ask n s = r.writeE n ∧ Rel (putDa m A ask n s) (putm m A ask n s) (r.write n s) K (k0 + 1) (k1 + 1) := by
  unfold putE putDa putm Rm.writeE Rm.write
  rw [h.has]
  cases hb : r.has n
  · simp only [Bool.false_eq_true, if_false, Bool.false_and]
    exact ⟨trivial, h.mono (Nat.le_succ _) (Nat.le_succ _)⟩
  · rw [h.hasK] at hb
    obtain ⟨n, rfl⟩ : ∃ k : Nat, n = k := ⟨n.toNat, by simp at hb; omega⟩
    have hn : n < K := by simp at hb; omega
    obtain ⟨d0, v0⟩ := h.side false hn hs ha
    simp only [Bool.false_eq_true, if_false] at v0
    obtain ⟨d1, v1⟩ := v0.side true hn hs ha
    simp only [if_true] at v1
    have e1 : ((r.put false ((r.sd false).wl n s)).sd true) = r.y := rfl
    rw [e1] at d1 v1
    have eD0 : putD A ask n s false = !r.x.o := d0
    have eD1 : putD A ask n s true = !r.y.o := d1
    rw [eD0, eD1]
    simp only [if_true, Bool.true_and, Int.toNat_natCast]
    have e2 : (Rm.put (r.put false ((r.sd false).wl n s)) true (r.y.wl n s)) = ⟨r.x.wl n s, r.y.wl n s⟩ := rfl
    rw [e2] at v1
    unfold putA
    cases hx : r.x.o <;> cases hy : r.y.o
    all_goals simp only [Bool.not_false, Bool.not_true, Bool.or_true, Bool.true_or, Bool.or_false, Bool.false_or, Bool.and_self, Bool.and_true, Bool.and_false, Bool.true_and, Bool.false_and, if_true, if_false, Bool.false_eq_true, Bool.or_self]
    · refine ⟨trivial, v1.calm, ?_, ?_, v1.n⟩
      · have := v1.x.unmark hn; simp only [Rs.wr, hx]; exact this
      · have := v1.y.unmark hn; simp only [Rs.wr, hy]; exact this
    · refine ⟨trivial, v1.calm, ?_, ?_, v1.n⟩
      · have := v1.x.unmark hn; simp only [Rs.wr, hx]; exact this
      · have := v1.y.mark (c := m.c1) hn; simp only [Rs.wr, hy]; exact this
    · refine ⟨trivial, v1.calm, ?_, ?_, v1.n⟩
      · have := v1.x.mark (c := m.c0) hn; simp only [Rs.wr, hx]; exact this
      · have := v1.y.unmark hn; simp only [Rs.wr, hy]; exact this
    · refine ⟨trivial, ?_⟩
      have e3 : (⟨r.x.wl n s, r.y.wl n s⟩ : Rm) = r := by rw [Rs.wl_out hx, Rs.wl_out hy]
      rw [e3] at v1
      exact v1
theorem Rel.flush1 (h : Rel A m r K k0 k1) (i : Bool) (ho : (r.sd i).o = false) : A.fE i = 0 ∧ Rel (A.flush i) m r K (if i then k0 else 0) (if i then 0 else k1) := by
  obtain ⟨h1, h2⟩ := Da.flush_calm h.calm i
  rw [(h.sd i).out, ho] at h1 h2
  refine ⟨by simpa using h2, ?_⟩
  have hw : A.flush i = A.setd i (A.dev i).flush := by simpa using h1
  rw [hw]
  have := h.setd i ((h.sd i).flush ho)
  have e : r.put i (r.sd i) = r := by cases i <;> rfl
  rw [e] at this
  exact this
theorem Rel.mfl (h : Rel A m r K k0 k1) : (Sl.mfl A).2 = (if r.x.o && r.y.o then 13 else 0) ∧ Rel (Sl.mfl A).1 m r K 0 0 := by
  unfold Sl.mfl fl1
  rw [h.thr false, h.thr true]
  show _ = (if (r.sd false).o && (r.sd true).o then 13 else 0) ∧ _
  cases hx : (r.sd false).o <;> cases hy : (r.sd true).o
  all_goals simp only [Bool.not_false, Bool.not_true, if_true, if_false, Bool.false_eq_true, Bool.and_self, Bool.and_true, Bool.and_false]
  · obtain ⟨e0, v0⟩ := h.flush1 false hx
    obtain ⟨e1, v1⟩ := v0.flush1 true hy
    simp only [Bool.false_eq_true, if_false, if_true] at v1
    rw [e0]
    simp only [if_true]
    rw [e1]
    exact ⟨by simp, v1⟩
  · obtain ⟨e0, v0⟩ := h.flush1 false hx
    simp only [Bool.false_eq_true, if_false] at v0
    rw [e0]
    exact ⟨by simp, v0.calm, v0.x, v0.y.idle hy, v0.n⟩
  · obtain ⟨e1, v1⟩ := h.flush1 true hy
    simp only [if_true] at v1
    rw [e1]
    exact ⟨by simp, v1.calm, v1.x.idle hx, v1.y, v1.n⟩
  · exact ⟨trivial, h.calm, h.x.idle hx, h.y.idle hy, h.n⟩
theorem Rel.okAt (h : Rel A m r K k0 k1) (i : Bool) {n : Nat} (hn : n < K) (ho : (r.sd i).o = false) : Sl.okAt A i (m.ks i) p n = (r.sd i).tells p n := by
  obtain ⟨r0, e0⟩ := h.reads i hn ho
  unfold Sl.okAt Rs.tells Rs.old
  rw [r0, e0, (h.sd i).has]
  simp
theorem Rel.read (h : Rel A m r K k0 k1) (n : Int) : mrE m A p n = r.readE p n ∧ mrS m A p n = r.readS p n := by
  unfold mrE mrS Rm.readE Rm.readS
  rw [h.has]
  cases hb : r.has n
  · simp
  · rw [h.hasK] at hb
    obtain ⟨n, rfl⟩ : ∃ k : Nat, n = k := ⟨n.toNat, by simp at hb; omega⟩
    have hn : n < K := by simp at hb; omega
    rw [h.thr false, h.thr true]
    have a0 := h.okAt (p := p) false hn
    have a1 := h.okAt (p := p) true hn
    have r0 := h.reads false hn
    have r1 := h.reads true hn
    simp only [Int.toNat_natCast, if_true]
    show (if (!r.x.o || !r.y.o) = true then _ else _) = _ ∧ _
    simp only [Rm.sd] at a0 a1 r0 r1 ⊢
    simp only [Mi.ks] at a0 a1
    rcases tf r.x.o with hx | hx <;> rcases tf r.y.o with hy | hy
    · rw [a0 hx, a1 hy, (r0 hx).1, (r1 hy).1]; simp [hx, hy]
    · rw [a0 hx, (r0 hx).1]; simp [hx, hy]
    · rw [a1 hy, (r1 hy).1]; simp [hx, hy]
    · simp [hx, hy]
theorem Rel.copy (h : Rel A m r K k0 k1) (i : Bool) {n : Nat} (hn : n < K) (ho : (r.sd i).o = false) (hs : s.length = 128) :
    A.wE i n = 0 ∧ Rel (A.write i n s) (m.del i n) (r.put i ((r.sd i).copy n s)) K (if i then k0 else k0 + 1) (if i then k1 + 1 else k1) := by
  obtain ⟨w1, w2⟩ := h.writes (s := s) i hn ho
  refine ⟨w1, ?_⟩
  rw [w2]
  have hc := Da.calm_setd h.calm i ((A.dev i).push n s)
  have := ((h.sd i).push ho hn hs).unmark hn
  cases i
  · exact ⟨hc, this, h.y, h.n⟩
  · exact ⟨hc, h.x, this, h.n⟩
theorem Rel.heal (h : Rel A m r K k0 k1) (n : Int) : Sl.healR m A p n = r.healR p n ∧ Rel (healA m A p n) (healM m A p n) (r.heal p n) K (k0 + 1) (k1 + 1) := by
  have hr : Sl.healR m A p n = r.healR p n ∧ Sl.healTo m A p n = r.healTo p n := by
    unfold Sl.healR Sl.healTo Rm.healR Rm.healTo
    rw [h.has]
    cases hb : r.has n
    · simp
    · rw [h.hasK] at hb
      obtain ⟨n, rfl⟩ : ∃ k : Nat, n = k := ⟨n.toNat, by simp at hb; omega⟩
      have hn : n < K := by simp at hb; omega
      rw [h.thr false, h.thr true]
      simp only [Rm.sd, Int.toNat_natCast, if_true]
      rcases tf r.x.o with hx | hx <;> rcases tf r.y.o with hy | hy
      · obtain ⟨r0, _⟩ := h.reads false hn hx
        obtain ⟨r1, _⟩ := h.reads true hn hy
        have g0 : hg0 m A p n = r.x.tells p n := by unfold hg0 Rs.tells Rs.old; rw [r0, h.x.has]; simp [Rm.sd]
        have g1 : hg1 m A p n = r.y.tells p n := by unfold hg1 Rs.tells Rs.old; rw [r1, h.y.has]; simp [Rm.sd]
        rw [g0, g1, r0, r1]
        exact ⟨rfl, rfl⟩
      all_goals simp [hx, hy]
  refine ⟨hr.1, ?_⟩
  unfold healA healM Rm.heal
  rw [hr.2]
  cases ht : r.healTo p n with
  | none => exact h.mono (Nat.le_succ _) (Nat.le_succ _)
  | some i =>
    have hb : r.has n = true ∧ r.x.o = false ∧ r.y.o = false := by
      unfold Rm.healTo at ht
      split at ht
      · rename_i h2; simp at h2; exact h2
      · cases ht
    obtain ⟨hb, hx, hy⟩ := hb
    rw [h.hasK] at hb
    obtain ⟨n, rfl⟩ : ∃ k : Nat, n = k := ⟨n.toNat, by simp at hb; omega⟩
    have hn : n < K := by simp at hb; omega
    have ho : ∀ i, (r.sd i).o = false := fun i => by cases i; exact hx; exact hy
    dsimp only
    rw [(h.reads (!i) hn (ho _)).1, Int.toNat_natCast]
    obtain ⟨w1, w2⟩ := h.copy i hn (ho i) ((h.sd (!i)).atlen hn)
    rw [w1]
    simp only [if_true]
    have e : (if i = true then { m with k1 := kDel m.k1 n } else { m with k0 := kDel m.k0 n }) = m.del i n := by cases i <;> rfl
    rw [e]
    refine w2.mono ?_ ?_ <;> cases i <;> simp
theorem Rel.both (h : Rel A m r K k0 k1) (n : Int) : bothS m A p n = r.both p n := by
  unfold bothS Rm.both
  rw [h.has]
  cases hb : r.has n
  · simp
  · rw [h.hasK] at hb
    obtain ⟨n, rfl⟩ : ∃ k : Nat, n = k := ⟨n.toNat, by simp at hb; omega⟩
    have hn : n < K := by simp at hb; omega
    rw [h.thr false, h.thr true]
    simp only [Rm.sd, Int.toNat_natCast, if_true]
    have r0 := h.reads false hn
    have r1 := h.reads true hn
    simp only [Rm.sd] at r0 r1
    rcases tf r.x.o with hx | hx <;> rcases tf r.y.o with hy | hy
    · rw [(r0 hx).1, (r0 hx).2, (r1 hy).1, (r1 hy).2]; simp [hx, hy]
    · rw [(r0 hx).1, (r0 hx).2]; simp [hx, hy]
    · rw [(r1 hy).1, (r1 hy).2]; simp [hx, hy]
    · simp [hx, hy]
theorem Rm.sd_put (r : Rm) (i : Bool) (z : Rs) : (r.put i z).sd i = z := by cases i <;> rfl
theorem Rm.sd_put2 (r : Rm) (i : Bool) (z : Rs) : (r.put i z).sd (!i) = r.sd (!i) := by cases i <;> rfl
theorem Rel.sy1 (h : Rel A m r K k0 k1) (i : Bool) {n : Nat} (hn : n < K) (ho : ∀ i, (r.sd i).o = false) :
    Rel (Sl.sy1 p i (A, m) n).1 (Sl.sy1 p i (A, m) n).2 (Rm.sy1 p i r n) K (k0 + 1) (k1 + 1) ∧ ∀ j, ((Rm.sy1 p i r n).sd j).o = false := by
  have e : syOk m A p i n = ((r.sd i).old n && (r.sd (!i)).tells p n) := by
    unfold syOk Rs.tells Rs.old
    obtain ⟨r0, e0⟩ := h.reads (!i) hn (ho _)
    rw [r0, e0, (h.sd i).has, (h.sd (!i)).has]
    simp [Bool.and_assoc]
  unfold Sl.sy1 Rm.sy1
  simp only
  rw [e]
  split
  · obtain ⟨w1, w2⟩ := h.copy i hn (ho i) ((h.sd (!i)).atlen hn)
    rw [(h.reads (!i) hn (ho _)).1, w1]
    simp only [if_true]
    refine ⟨w2.mono (by cases i <;> simp) (by cases i <;> simp), fun j => ?_⟩
    by_cases hj : j = i
    · subst hj; rw [Rm.sd_put]; exact ho j
    · obtain rfl : j = !i := by cases i <;> cases j <;> simp_all
      rw [Rm.sd_put2]; exact ho _
  · exact ⟨h.mono (Nat.le_succ _) (Nat.le_succ _), ho⟩
theorem Rel.syN (h : Rel A m r K k0 k1) (i : Bool) (ho : ∀ i, (r.sd i).o = false) : ∀ k, k ≤ K →
    Rel (Sl.syN p i (A, m) k).1 (Sl.syN p i (A, m) k).2 (Rm.syN p i r k) K (k0 + k) (k1 + k) ∧ ∀ j, ((Rm.syN p i r k).sd j).o = false
  | 0, _ => ⟨h, ho⟩
  | k + 1, hk => by
    obtain ⟨v, ho2⟩ := Rel.syN h i ho k (by omega)
    exact v.sy1 i (by omega) ho2
theorem Rel.sync (h : Rel A m r K k0 k1) : Sl.syncE m A p = r.syncE p ∧ Rel (syncA m A p) (syncM m A p) (r.sync p) K k0 k1 := by
  unfold Sl.syncE syncA syncM Rm.syncE Rm.sync
  rw [h.thr false, h.thr true]
  simp only [Rm.sd]
  rcases tf r.x.o with hx | hx <;> rcases tf r.y.o with hy | hy
  all_goals simp only [hx, hy, Bool.not_false, Bool.not_true, Bool.and_self, Bool.and_true, Bool.and_false, if_true, if_false, Bool.false_eq_true]
  · have ho : ∀ i, (r.sd i).o = false := fun i => by cases i; exact hx; exact hy
    obtain ⟨v, ho2⟩ := h.syN (p := p) false ho K (Nat.le_refl _)
    obtain ⟨v2, ho3⟩ := v.syN (p := p) true ho2 K (Nat.le_refl _)
    have e : syncQ m A p = ((Sl.syN p true ((Sl.syN p false (A, m) K).1, (Sl.syN p false (A, m) K).2) K)) := by unfold syncQ; rw [h.n]
    have e2 : r.syncQ p = Rm.syN p true (Rm.syN p false r K) K := by unfold Rm.syncQ; rw [h.x.rlen]
    rw [← e, ← e2] at v2
    refine ⟨?_, (v2.mfl.2).mono (Nat.zero_le _) (Nat.zero_le _)⟩
    rw [v2.x.cnt, v2.y.cnt]
  all_goals exact ⟨trivial, h⟩
theorem Rel.outs (h : Rel A m r K 0 0) (i on : Bool) : Rel (A.setd i ((A.dev i).outs on)) m (r.outs i on) K 0 0 := by
  have hs : Side (r.sd i) (A.dev i) (m.ks i) K 0 := by have := h.sd i; cases i <;> exact this
  have := h.setd i hs.outs (a := (A.dev i).outs on)
  cases i <;> exact this
theorem Rel.rot (h : Rel A m r K 0 0) (i : Bool) (n : Int) {j : Nat} {c : UInt8} (hj : j < 128) : (A.dev i).rotE n j = r.has n ∧ Rel (A.setd i ((A.dev i).rots n j c)) m (r.rot i n j c) K 0 0 := by
  have hs : Side (r.sd i) (A.dev i) (m.ks i) K 0 := by have := h.sd i; cases i <;> exact this
  have e : (A.dev i).rotE n j = r.has n := by
    unfold Ab.rotE Ab.has
    rw [hs.len, h.hasK]
    have : (decide ((0 : Int) ≤ j) && decide ((j : Int) < 128)) = true := by simp; omega
    rw [this, Bool.and_true]
  refine ⟨e, ?_⟩
  unfold Ab.rots Rm.rot
  rw [e]
  cases hb : r.has n
  · simp only [Bool.false_eq_true, if_false]
    rw [Da.setd_self]; exact h
  · rw [h.hasK] at hb
    obtain ⟨n, rfl⟩ : ∃ k : Nat, n = k := ⟨n.toNat, by simp at hb; omega⟩
    have hn : n < K := by simp at hb; omega
    simp only [if_true, Int.toNat_natCast]
    have := h.setd i (hs.rot hn (j := j) (c := c))
    cases i <;> exact this
end
end Go.Sl

/- A mirror and the document's mirror: what is kept (own work). -/
set_option linter.unusedVariables false
set_option linter.unusedSimpArgs false
namespace Go.Sl
structure Mq (t : DT) (gv : Value) (D : Duo) (A : Da) (m : Mi) (r : Rm) (K k0 k1 mb bx bys bp : Nat) : Prop where
  two : Two t D A bx bys bp
  rel : Rel A m r K k0 k1
  mb : m.b = mb
  bx : m.bx = bx
  bys : m.bys = bys
  gv : m.gv = gv
def MSame (m m' : Mi) : Prop := m'.b = m.b ∧ m'.bx = m.bx ∧ m'.bys = m.bys ∧ m'.gv = m.gv
theorem putm_same (m : Mi) (A : Da) (ask : Da → Bool → Bool) (n : Int) (s : Sec) : MSame m (putm m A ask n s) := by
  unfold putm MSame
  split
  · exact ⟨rfl, rfl, rfl, rfl⟩
  · exact ⟨rfl, rfl, rfl, rfl⟩
theorem healM_same2 (m : Mi) (A : Da) (p : Int → Sec → Bool) (n : Int) : MSame m (healM m A p n) := by
  obtain ⟨a, b, c, d, e⟩ := healM_same m A p n
  exact ⟨a, b, c, e⟩
theorem syN_same (p : Int → Sec → Bool) (i : Bool) (q : Da × Mi) : ∀ k, MSame q.2 (syN p i q k).2
  | 0 => ⟨rfl, rfl, rfl, rfl⟩
  | k + 1 => by
    obtain ⟨a, b, c, d⟩ := syN_same p i q k
    obtain ⟨a1, b1, c1, d1, e1⟩ := sy1_same p i (syN p i q k) k
    exact ⟨a1.trans a, b1.trans b, c1.trans c, e1.trans d⟩
theorem syncM_same (m : Mi) (A : Da) (p : Int → Sec → Bool) : MSame m (syncM m A p) := by
  unfold syncM syncQ
  split
  · obtain ⟨a, b, c, d⟩ := syN_same p false (A, m) m.n
    obtain ⟨a1, b1, c1, d1⟩ := syN_same p true (syN p false (A, m) m.n) m.n
    exact ⟨a1.trans a, b1.trans b, c1.trans c, d1.trans d⟩
  · exact ⟨rfl, rfl, rfl, rfl⟩
section
variable {t : DT} {gv : Value} {D D' : Duo} {A A' : Da} {m m' : Mi} {r r' : Rm} {K k0 k1 j0 j1 mb bx bys bp : Nat} {p : Int → Sec → Bool}
theorem Mq.with (h : Mq t gv D A m r K k0 k1 mb bx bys bp) (hT : Two t D' A' m.bx m.bys bp) (v : Rel A' m' r' K j0 j1) (e : MSame m m') : Mq t gv D' A' m' r' K j0 j1 mb bx bys bp :=
  ⟨by rw [h.bx, h.bys] at hT; exact hT, v, e.1.trans h.mb, e.2.1.trans h.bx, e.2.2.1.trans h.bys, e.2.2.2.trans h.gv⟩
theorem Mq.many {c : Nat} (h : Mq t gv D A m r K k0 k1 mb bx bys bp) (h0 : k0 ≤ c) (h1 : k1 ≤ c) (i : Bool) : (A.dev i).Q.length ≤ c := by
  cases i
  · exact Nat.le_trans (h.rel.sd false).many h0
  · exact Nat.le_trans (h.rel.sd true).many h1
theorem Mq.mono (h : Mq t gv D A m r K k0 k1 mb bx bys bp) (h0 : k0 ≤ j0) (h1 : k1 ≤ j1) : Mq t gv D A m r K j0 j1 mb bx bys bp := ⟨h.two, h.rel.mono h0 h1, h.mb, h.bx, h.bys, h.gv⟩
theorem Mq.two2 (h : Mq t gv D A m r K k0 k1 mb bx bys bp) : Two t D A m.bx m.bys bp := by rw [h.bx, h.bys]; exact h.two
theorem Rs.cnt_le (z : Rs) : z.cnt ≤ z.s.length := List.countP_le_length
theorem Rel.cnts (h : Rel A m r K k0 k1) : m.k0.length = r.x.cnt ∧ m.k1.length = r.y.cnt ∧ r.x.cnt ≤ K ∧ r.y.cnt ≤ K :=
  ⟨h.x.cnt, h.y.cnt, h.x.slen ▸ r.x.cnt_le, h.y.slen ▸ r.y.cnt_le⟩
end
theorem stN_ok (K : Nat) : kOk (stN K) := by
  unfold kOk stN
  rw [List.map_map]
  unfold List.Nodup
  rw [List.pairwise_map]
  exact List.Pairwise.imp (fun h => by simp; omega) (List.pairwise_lt_range (n := K))
theorem Side.new {K : Nat} (hK : K ≤ 4096) (o : Bool) : Side ⟨List.replicate K (secOf 0), o, List.replicate K o⟩ ((Ab.new K).outs o) (stale0 (!o) K) K 0 := by
  have w := RdW.new hK
  have e : (Ab.new K).outs o = { Ab.new K with out := o } := by cases o <;> rfl
  rw [e]
  refine ⟨w.ok, w.len, rfl, rfl, Nat.le_refl _, fun _ => rfl, by simp, by simp, fun s hs => by rw [List.eq_of_mem_replicate hs]; exact secOf_len _, w.read, ?_, fun n => ?_, ?_⟩
  · unfold stale0; split
    · exact List.nodup_nil
    · exact stN_ok K
  · cases o
    · simp only [Bool.not_false, stale0, if_true]
      rw [show kHas [] n = false from rfl, List.getD_eq_getElem?_getD, List.getElem?_replicate]
      split <;> simp
    · simp only [Bool.not_true, stale0, Bool.false_eq_true, if_false]
      rw [stN_has, List.getD_eq_getElem?_getD, List.getElem?_replicate]
      by_cases h0 : 0 ≤ n
      · by_cases h1 : n < K
        · rw [if_pos (by omega)]; simp [h0, h1]
        · rw [if_neg (by omega)]; simp [h1]
      · simp [h0]
  · cases o
    · simp [stale0, Rs.cnt, List.countP_replicate]
    · simp [stale0, Rs.cnt, stN, List.countP_replicate]
theorem Rel.new {A : Da} {K : Nat} {a b : Bool} (hK : K ≤ 4096) (hc : A.calm) (hx : A.a = (Ab.new K).outs a) (hy : A.b = (Ab.new K).outs b) (bx bys : Nat) (gv : Value) (mb r0 r1 : Nat) : Rel A (mnew A bx bys gv mb r0 r1) (Rm.new K a b) K 0 0 := by
  have la : A.a.S.length = K := by rw [hx]; cases a <;> simp [Ab.outs, Ab.new]
  have lb : A.b.S.length = K := by rw [hy]; cases b <;> simp [Ab.outs, Ab.new]
  have oa : A.a.out = a := by rw [hx]; cases a <;> rfl
  have ob : A.b.out = b := by rw [hy]; cases b <;> rfl
  have ta : Sl.thr A false = !a := by unfold Sl.thr Ab.down; rw [(Da.calm_pow hc false).1, show A.dev false = A.a from rfl, oa]; simp
  have tb : Sl.thr A true = !b := by unfold Sl.thr Ab.down; rw [(Da.calm_pow hc true).1, show A.dev true = A.b from rfl, ob]; simp
  have hm : min A.a.S.length A.b.S.length = K := by omega
  refine ⟨hc, ?_, ?_, hm⟩
  · show Side _ A.a (stale0 (Sl.thr A false) (min A.a.S.length A.b.S.length)) K 0
    rw [hm, ta, hx]; exact Side.new hK a
  · show Side _ A.b (stale0 (Sl.thr A true) (min A.a.S.length A.b.S.length)) K 0
    rw [hm, tb, hy]; exact Side.new hK b
theorem Rm.readS_len {A : Da} {m : Mi} {r : Rm} {K k0 k1 : Nat} {p : Int → Sec → Bool} (h : Rel A m r K k0 k1) (n : Int) : (r.readS p n).length = 128 := by
  unfold Rm.readS
  split
  · rename_i hb
    rw [h.hasK] at hb
    have hn : n.toNat < K := by simp at hb; omega
    split
    · exact h.x.atlen hn
    · split
      · exact h.y.atlen hn
      · exact secOf_len _
  · exact secOf_len _
/-! ### One device is enough -/
structure One (r : Rm) (want : List Sec) (p : Int → Sec → Bool) (K : Nat) : Prop where
  out : r.x.o = false
  new : ∀ n, r.x.old n = false
  len : r.x.l.length = K
  wlen : want.length = K
  ok : ∀ n : Nat, n < K → p n (want.getD n []) = true → r.x.at n = want.getD n []
section
variable {r : Rm} {want : List Sec} {p : Int → Sec → Bool} {K : Nat} {s : Sec}
theorem One.put {i : Bool} {z : Rs} (h : One r want p K) : One (r.put true z) want p K := ⟨h.out, h.new, h.len, h.wlen, h.ok⟩
theorem One.write (h : One r want p K) {n : Nat} (hn : n < K) : One (r.write n s) (want.set n s) p K ∧ r.writeE n = 0 := by
  have hb : r.has n = true := by unfold Rm.has; rw [h.len]; simp; omega
  have e : r.write n s = ⟨r.x.wr n s, r.y.wr n s⟩ := by unfold Rm.write; rw [hb, h.out]; simp
  refine ⟨?_, by unfold Rm.writeE; rw [hb, h.out]; simp⟩
  rw [e]
  have ew : r.x.wr n s = { r.x with l := r.x.l.set n s, s := r.x.s.set n false } := by unfold Rs.wr; rw [Rs.wl_in h.out, h.out]; simp only [h.out]
  rw [ew]
  refine ⟨h.out, fun j => ?_, by simpa using h.len, by simpa using h.wlen, fun j hj hp => ?_⟩
  · have := h.new j
    unfold Rs.old at this ⊢
    simp only
    rw [List.getD_eq_getElem?_getD] at this ⊢
    rw [List.getElem?_set]
    split
    · split <;> rfl
    · exact this
  · simp only [Rs.at]
    rw [List.getD_eq_getElem?_getD, List.getD_eq_getElem?_getD, List.getElem?_set, List.getElem?_set, h.len, h.wlen]
    by_cases ej : n = j
    · subst ej; simp [hn]
    · have := h.ok j hj (by rw [List.getD_eq_getElem?_getD, List.getElem?_set_ne ej, ← List.getD_eq_getElem?_getD] at hp; exact hp)
      simp only [ej, if_false]
      simpa [Rs.at, List.getD_eq_getElem?_getD] using this
theorem One.syN_x (h : One r want p K) : ∀ k, Rm.syN p false r k = r
  | 0 => rfl
  | k + 1 => by
    show Rm.sy1 p false (Rm.syN p false r k) k = r
    rw [One.syN_x h k]
    unfold Rm.sy1
    rw [show (r.sd false).old k = false from h.new k]
    rfl
theorem Rm.syN_y (r : Rm) (p : Int → Sec → Bool) : ∀ k, ∃ z, Rm.syN p true r k = r.put true z
  | 0 => ⟨r.y, rfl⟩
  | k + 1 => by
    obtain ⟨z, e⟩ := Rm.syN_y r p k
    show ∃ z, Rm.sy1 p true (Rm.syN p true r k) k = _
    rw [e]
    unfold Rm.sy1
    split
    · exact ⟨_, rfl⟩
    · exact ⟨z, rfl⟩
theorem One.sync (h : One r want p K) : One (r.sync p) want p K := by
  unfold Rm.sync
  split
  · unfold Rm.syncQ
    rw [h.syN_x]
    obtain ⟨z, e⟩ := Rm.syN_y r p r.x.l.length
    rw [e]
    exact h.put (i := true)
  · exact h
theorem One.heal (h : One r want p K) (n : Int) : One (r.heal p n) want p K := by
  unfold Rm.heal
  cases ht : r.healTo p n with
  | none => exact h
  | some i =>
    cases i
    · have hb : r.has n = true ∧ r.x.tells p n.toNat = false := by
        unfold Rm.healTo at ht
        split at ht
        · rename_i h2
          split at ht
          · split at ht <;> cases ht
          · rename_i h3; simp at h2; exact ⟨h2.1, by simpa using h3⟩
        · cases ht
      obtain ⟨hb, hx⟩ := hb
      unfold Rm.has at hb
      rw [h.len] at hb
      obtain ⟨n, rfl⟩ : ∃ k : Nat, n = k := ⟨n.toNat, by simp at hb; omega⟩
      have hn : n < K := by simp at hb; omega
      simp only [Int.toNat_natCast] at hx ⊢
      have hp : p n (r.x.at n) = false := by unfold Rs.tells at hx; rw [h.new n] at hx; simpa using hx
      refine ⟨h.out, fun j => ?_, by simpa [Rm.put, Rs.copy, Rm.sd] using h.len, h.wlen, fun j hj hq => ?_⟩
      · have := h.new j
        unfold Rs.old at this ⊢
        simp only [Rm.put, Rs.copy, Rm.sd]
        rw [List.getD_eq_getElem?_getD] at this ⊢
        rw [List.getElem?_set]
        split
        · split <;> rfl
        · exact this
      · have hj2 := h.ok j hj hq
        by_cases ej : n = j
        · subst ej
          rw [hj2, hq] at hp; cases hp
        · simp only [Rm.put, Rs.copy, Rm.sd, Rs.at] at hj2 ⊢
          rw [List.getD_eq_getElem?_getD, List.getElem?_set_ne ej, ← List.getD_eq_getElem?_getD]; exact hj2
    · exact h.put (i := true)
theorem One.outs (h : One r want p K) (on : Bool) : One (r.outs true on) want p K := h.put (i := true)
theorem One.rot (h : One r want p K) (n : Int) (j : Nat) (c : UInt8) : One (r.rot true n j c) want p K := by
  unfold Rm.rot
  split
  · exact h.put (i := true)
  · exact h
/-- What the law asks at the end. -/
theorem One.tells (h : One r want p K) {n : Nat} (hn : n < K) : (p n (want.getD n []) = true → r.readE p n = 0 ∧ r.readS p n = want.getD n []) ∧ (p n (want.getD n []) = false → r.readE p n = 0 → r.readS p n ≠ want.getD n []) := by
  have hb : r.has n = true := by unfold Rm.has; rw [h.len]; simp; omega
  have hx : r.x.tells p n = p n (r.x.at n) := by unfold Rs.tells; rw [h.new]; simp
  unfold Rm.readE Rm.readS
  rw [hb, h.out]
  simp only [if_true, Int.toNat_natCast, Bool.false_and, Bool.false_eq_true, if_false, Bool.not_false, Bool.true_and]
  rw [hx]
  refine ⟨fun hp => ?_, fun hp he hs => ?_⟩
  · rw [h.ok n hn hp, hp]
    simp
  · split at he
    · rename_i h1
      rw [if_pos h1] at hs
      rw [hs, hp] at h1; cases h1
    · rename_i h1
      split at he
      · rename_i h2
        rw [if_neg h1, if_pos h2] at hs
        simp only [Bool.and_eq_true, Rs.tells] at h2
        rw [hs, hp] at h2; simp at h2
      · cases he
end
end Go.Sl

/- walks (own work; the walks' lines by a program of this repo). -/
set_option linter.unusedVariables false
set_option linter.unusedSimpArgs false
set_option maxRecDepth 20000
namespace Go.Proofs.Ytjjiclgbdenkkaa
open Go.Sl
attribute [local irreducible] BodyQ WpC WpL WpS WpH OpW FnS



set_option maxHeartbeats 4000000 in

theorem both_no {w0 : World} {H : Hp} {D : Duo} {A : Da} {bp : Nat} {m : Mi} (h : Two dt D A m.bx m.bys bp) {p : Int → Sec → Bool} (hG : GoodAt Try.prog w0 H m.gv p) (n : Int) (hn : m.has n = false) : FnS Try.prog w0 25 #[ptr m.b, .int .i64 n] (m.seg 110 :: D.seg dt :: H) (fun e H' => ∃ g, slOk 128 g (bothS m A p n).length (bs (bothS m A p n).flatten) ∧ e = .returned (slV g (bothS m A p n).length) ∧ H' = slSeg 32 g (bs (bothS m A p n).flatten) :: m.seg 110 :: D.seg dt :: H) := by
  refine FnS_intro (n := 47) (rs := [.tmp 4]) (vs := [ptr m.b, .int .i64 n]) Try.func25 rfl Try.ntmps25 rfl rfl ?_
  refine C_seq ?_
  refine C_region ?_
  refine L_y rfl (y_assign rfl) rfl ?_
  refine L_nil ?_
  refine C_seq ?_
  refine C_region ?_
  refine L_y rfl (y_assign rfl) rfl ?_
  refine L_nil ?_
  refine C_seq ?_
  refine C_seq ?_
  refine C_region ?_
  refine L_y rfl (y_move rfl) rfl ?_
  refine L_y rfl (y_move rfl) rfl ?_
  refine L_op rfl (op_call rfl rfl (fun a w => Try.call58 a w) rfl ?_)
  refine (has_m _ (sees 0 0 rfl)).mono ?_
  rintro _ _ ⟨rfl, rfl⟩
  rw [hn]
  refine ⟨_, rfl, ?_⟩
  refine L_y rfl (y_not rfl) rfl ?_
  refine L_nil ?_
  refine C_cond_t rfl ?_
  refine C_seq ?_
  refine C_region ?_
  refine L_y rfl (y_assign rfl) rfl ?_
  refine L_nil ?_
  refine C_ret ?_
  refine B_ret (rv_tmp rfl rv_nil) (hsub_nil0.trans ((hsub (.cons_cons _ (.cons_cons _ (.refl _)))).trans (hsub_pick [0, 0] rfl))) ?_
  have e0 : bothS m A p n = [] := by simp_all [bothS]
  rw [e0]
  exact ⟨none, ⟨rfl, rfl⟩, rfl, rfl⟩

set_option maxHeartbeats 4000000 in

theorem both_tt {w0 : World} {H : Hp} {D : Duo} {A : Da} {bp : Nat} {m : Mi} (h : Two dt D A m.bx m.bys bp) {p : Int → Sec → Bool} (hG : GoodAt Try.prog w0 H m.gv p) (n : Int) (hn : m.has n = true) (hp : thr A false = true) (hq : thr A true = true) : FnS Try.prog w0 25 #[ptr m.b, .int .i64 n] (m.seg 110 :: D.seg dt :: H) (fun e H' => ∃ g, slOk 128 g (bothS m A p n).length (bs (bothS m A p n).flatten) ∧ e = .returned (slV g (bothS m A p n).length) ∧ H' = slSeg 32 g (bs (bothS m A p n).flatten) :: m.seg 110 :: D.seg dt :: H) := by
  refine FnS_intro (n := 47) (rs := [.tmp 4]) (vs := [ptr m.b, .int .i64 n]) Try.func25 rfl Try.ntmps25 rfl rfl ?_
  refine C_seq ?_
  refine C_region ?_
  refine L_y rfl (y_assign rfl) rfl ?_
  refine L_nil ?_
  refine C_seq ?_
  refine C_region ?_
  refine L_y rfl (y_assign rfl) rfl ?_
  refine L_nil ?_
  refine C_seq ?_
  refine C_seq ?_
  refine C_region ?_
  refine L_y rfl (y_move rfl) rfl ?_
  refine L_y rfl (y_move rfl) rfl ?_
  refine L_op rfl (op_call rfl rfl (fun a w => Try.call58 a w) rfl ?_)
  refine (has_m _ (sees 0 0 rfl)).mono ?_
  rintro _ _ ⟨rfl, rfl⟩
  rw [hn]
  refine ⟨_, rfl, ?_⟩
  refine L_y rfl (y_not rfl) rfl ?_
  refine L_nil ?_
  refine C_cond_f rfl ?_
  refine C_skip ?_
  refine C_seq ?_
  refine C_seq ?_
  refine C_region ?_
  refine L_y rfl (y_move rfl) rfl ?_
  refine L_op rfl (op_call rfl rfl (fun a w => Try.call59 a w) rfl ?_)
  refine ((present_tt h hp hq).sub (hsub_pick [0, 0] rfl)).mono ?_
  rintro _ _ ⟨g1, hg1, rfl, rfl⟩
  cases g1 with
  | none => exact slOk_none hg1 (by decide)
  | some g1 => ?_
  refine ⟨_, rfl, ?_⟩
  refine L_y rfl (y_lenS rfl rfl Try.underlying118) rfl ?_
  refine L_y rfl (y_move rfl) rfl ?_
  refine L_nil ?_
  refine C_block ?_
  refine C_loopIn (In_round ?_)
  refine C_seq ?_
  refine C_region ?_
  refine L_y rfl (y_lss rfl rfl) rfl ?_
  refine L_nil ?_
  refine C_seq ?_
  refine C_cond_t rfl ?_
  refine C_skip ?_
  refine C_seq ?_
  refine C_block ?_
  refine C_seq ?_
  refine C_region ?_
  refine L_y rfl (y_indexS rfl rfl Try.underlying118 sz_3 (by omega) (by omega) (show _ = 0 from rfl)) rfl ?_
  refine L_y rfl (y_load rfl ag_3 (sees 0 0 rfl) rfl) rfl ?_
  refine L_y rfl (y_assign rfl) rfl ?_
  refine L_nil ?_
  refine C_seq ?_
  refine C_region ?_
  refine L_y rfl (y_move rfl) rfl ?_
  refine L_y rfl (y_move rfl) rfl ?_
  refine L_y rfl (y_nilCheck rfl) rfl ?_
  refine L_y rfl (y_fieldAddr rfl fl_110_0) rfl ?_
  refine L_y rfl (y_indexA rfl rfl Try.underlying108 sz_107 (by omega) (by omega) (show _ = 0 from rfl)) rfl ?_
  refine L_y rfl (y_fieldAddr rfl fl_107_0) rfl ?_
  refine L_y rfl (y_load rfl ag_24 (sees 1 0 rfl) rfl) rfl ?_
  refine L_y rfl (y_move rfl) rfl ?_
  refine L_op rfl (op_call rfl rfl (fun a w => Try.call60 a w) rfl ?_)
  refine ((read_d h false (n)).sub (hsub_pick [2] rfl)).mono ?_
  rintro _ _ ⟨rfl, rfl⟩
  refine ⟨_, rfl, ?_⟩
  refine L_y rfl (y_move rfl) rfl ?_
  refine L_y rfl (y_extract rfl rfl) rfl ?_
  refine L_y rfl (y_extract rfl rfl) rfl ?_
  refine L_op rfl (op_alloc zl_32 rfl (fun B1 => ?_))
  refine L_op rfl (op_storeA 0 0 rfl rfl rfl sz_32 (by rw [bs_length, (rS_len false h.oks)]) rfl (bs_one _) (by simp) ?_)
  refine L_y rfl (y_assign rfl) rfl ?_
  refine L_nil ?_
  refine C_seq ?_
  refine C_region ?_
  refine L_y rfl (y_move rfl) rfl ?_
  refine L_y rfl (y_eqi rfl rfl) rfl ?_
  refine L_y rfl (y_move rfl) rfl ?_
  refine L_case 35 rfl (fun hg8_3 => ?_) (fun hg8_3 => ?_)
  · skip
    refine L_y rfl (y_move rfl) rfl ?_
    refine L_y rfl (y_move rfl) rfl ?_
    refine L_y rfl (y_loadA rfl ag_32 sz_32 (sees 0 0 rfl) (by rw [bs_length, rS_len _ h.oks]; decide) (bs_whole0 _ (rS_len _ h.oks))) rfl ?_
    refine L_op rfl (op_call rfl rfl (fun a w => Try.call61 a w) rfl ?_)
    refine FnS.mono (right_m (sees 3 0 rfl) (hG.sub (hsub (.cons _ (.cons _ (.cons _ (.cons _ (.refl _))))))) n _ (rS_len _ h.oks)) ?_
    rintro _ _ ⟨rfl, e⟩
    obtain rfl := e.symm
    refine ⟨_, rfl, ?_⟩
    refine L_y rfl (y_pick_t rfl rfl) rfl ?_
    refine L_nil ?_
    refine C_cond rfl (fun hc2 => ?_) (fun hc2 => ?_)
    · skip
      refine C_region ?_
      refine L_y rfl (y_move rfl) rfl ?_
      refine L_y rfl (y_loadA rfl ag_32 sz_32 (sees 0 0 rfl) (by rw [bs_length, rS_len _ h.oks]; decide) (bs_whole0 _ (rS_len _ h.oks))) rfl ?_
      refine L_op rfl (op_buildSlice (vs := [(0, _)]) rfl Try.underlying40 sz_32 zl_32 rfl (by decide) (fill_one rfl (by rw [bs_length, rS_len _ h.oks]) rfl) rfl (fun B2 => ?_))
      refine L_op rfl (op_append0 (m := 1) (vs := bs (A.rS false n)) rfl rfl (src_slice (vs := bs (A.rS false n)) (sees 0 0 rfl) (by rw [bs_length, rS_len _ h.oks]; decide) (bs_whole0 _ (rS_len _ h.oks))) (by rw [bs_length, rS_len _ h.oks]) (bs_one _) Try.underlying40 ni_40 sz_32 by_32 (by decide) zl_32 rfl (by decide) rfl (fun r1 hr1 => ?_))
      refine L_y rfl (y_assign rfl) rfl ?_
      refine L_nil ?_
      refine C_region ?_
      refine L_y rfl (y_add rfl rfl (show _ = (1 : Int) from rfl)) rfl ?_
      refine L_y rfl (y_move rfl) rfl ?_
      refine L_nil ?_
      refine In_round ?_
      refine C_seq ?_
      refine C_region ?_
      refine L_y rfl (y_lss rfl rfl) rfl ?_
      refine L_nil ?_
      refine C_seq ?_
      refine C_cond_t rfl ?_
      refine C_skip ?_
      refine C_seq ?_
      refine C_block ?_
      refine C_seq ?_
      refine C_region ?_
      refine L_y rfl (y_indexS rfl rfl Try.underlying118 sz_3 (by omega) (by omega) (show _ = 1 from rfl)) rfl ?_
      refine L_y rfl (y_load rfl ag_3 (sees 4 0 rfl) rfl) rfl ?_
      refine L_y rfl (y_assign rfl) rfl ?_
      refine L_nil ?_
      refine C_seq ?_
      refine C_region ?_
      refine L_y rfl (y_move rfl) rfl ?_
      refine L_y rfl (y_move rfl) rfl ?_
      refine L_y rfl (y_nilCheck rfl) rfl ?_
      refine L_y rfl (y_fieldAddr rfl fl_110_0) rfl ?_
      refine L_y rfl (y_indexA rfl rfl Try.underlying108 sz_107 (by omega) (by omega) (show _ = 2 from rfl)) rfl ?_
      refine L_y rfl (y_fieldAddr rfl fl_107_0) rfl ?_
      refine L_y rfl (y_load rfl ag_24 (sees 5 0 rfl) rfl) rfl ?_
      refine L_y rfl (y_move rfl) rfl ?_
      refine L_op rfl (op_call rfl rfl (fun a w => Try.call60 a w) rfl ?_)
      refine ((read_d h true (n)).sub (hsub_pick [3] rfl)).mono ?_
      rintro _ _ ⟨rfl, rfl⟩
      refine ⟨_, rfl, ?_⟩
      refine L_y rfl (y_move rfl) rfl ?_
      refine L_y rfl (y_extract rfl rfl) rfl ?_
      refine L_y rfl (y_extract rfl rfl) rfl ?_
      refine L_op rfl (op_alloc zl_32 rfl (fun B3 => ?_))
      refine L_op rfl (op_storeA 0 0 rfl rfl rfl sz_32 (by rw [bs_length, (rS_len true h.oks)]) rfl (bs_one _) (by simp) ?_)
      refine L_y rfl (y_assign rfl) rfl ?_
      refine L_nil ?_
      refine C_seq ?_
      refine C_region ?_
      refine L_y rfl (y_move rfl) rfl ?_
      refine L_y rfl (y_eqi rfl rfl) rfl ?_
      refine L_y rfl (y_move rfl) rfl ?_
      refine L_case 35 rfl (fun hg8_3 => ?_) (fun hg8_3 => ?_)
      · skip
        refine L_y rfl (y_move rfl) rfl ?_
        refine L_y rfl (y_move rfl) rfl ?_
        refine L_y rfl (y_loadA rfl ag_32 sz_32 (sees 0 0 rfl) (by rw [bs_length, rS_len _ h.oks]; decide) (bs_whole0 _ (rS_len _ h.oks))) rfl ?_
        refine L_op rfl (op_call rfl rfl (fun a w => Try.call61 a w) rfl ?_)
        refine FnS.mono (right_m (sees 6 0 rfl) (hG.sub (hsub (.cons _ (.cons _ (.cons _ (.cons _ (.cons _ (.cons _ (.cons _ (.refl _)))))))))) n _ (rS_len _ h.oks)) ?_
        rintro _ _ ⟨rfl, e⟩
        obtain rfl := e.symm
        refine ⟨_, rfl, ?_⟩
        refine L_y rfl (y_pick_t rfl rfl) rfl ?_
        refine L_nil ?_
        refine C_cond rfl (fun hc2 => ?_) (fun hc2 => ?_)
        · skip
          refine C_region ?_
          refine L_y rfl (y_move rfl) rfl ?_
          refine L_y rfl (y_loadA rfl ag_32 sz_32 (sees 0 0 rfl) (by rw [bs_length, rS_len _ h.oks]; decide) (bs_whole0 _ (rS_len _ h.oks))) rfl ?_
          refine L_op rfl (op_buildSlice (vs := [(0, _)]) rfl Try.underlying40 sz_32 zl_32 rfl (by decide) (fill_one rfl (by rw [bs_length, rS_len _ h.oks]) rfl) rfl (fun B4 => ?_))
          refine L_op rfl (op_append (gs := r1) (len := 1) (m := 1) (xs := bs (A.rS false n)) (vs := bs (A.rS true n)) 3 rfl rfl rfl hr1 (src_slice (vs := bs (A.rS true n)) (sees 0 0 rfl) (by rw [bs_length, rS_len _ h.oks]; decide) (bs_whole0 _ (rS_len _ h.oks))) (by rw [bs_length, rS_len _ h.oks]) (bs_one _) Try.underlying40 ni_40 sz_32 by_32 (by decide) zl_32 rfl (by decide) rfl (fun r2 hr2 => ?_))
          refine L_y rfl (y_assign rfl) rfl ?_
          refine L_nil ?_
          refine C_region ?_
          refine L_y rfl (y_add rfl rfl (show _ = (2 : Int) from rfl)) rfl ?_
          refine L_y rfl (y_move rfl) rfl ?_
          refine L_nil ?_
          refine In_round ?_
          refine C_seq ?_
          refine C_region ?_
          refine L_y rfl (y_lss rfl rfl) rfl ?_
          refine L_nil ?_
          refine C_seq ?_
          refine C_cond_f rfl ?_
          refine C_exit ?_
          refine C_seq ?_
          refine C_region ?_
          refine L_y rfl (y_move rfl) rfl ?_
          refine L_y rfl (y_assign rfl) rfl ?_
          refine L_nil ?_
          refine C_ret ?_
          refine B_ret (rv_tmp rfl rv_nil) ((hsub (.cons_cons _ (.cons_cons _ (.cons_cons _ (.cons _ (.cons _ (.cons _ (.cons _ (.cons _ (.refl _)))))))))).trans (hsub_pick [3, 6, 2] rfl)) ?_
          have e0 : bothS m A p n = [(A.rS false n), (A.rS true n)] := by simp_all [bothS]
          rw [e0, show List.flatten [(A.rS false n), (A.rS true n)] = (A.rS false n) ++ (A.rS true n) from by simp]
          rw [← bs_append] at hr2 ⊢
          exact ⟨r2, hr2, rfl, rfl⟩
        · skip
          refine C_skip ?_
          refine C_region ?_
          refine L_y rfl (y_add rfl rfl (show _ = (2 : Int) from rfl)) rfl ?_
          refine L_y rfl (y_move rfl) rfl ?_
          refine L_nil ?_
          refine In_round ?_
          refine C_seq ?_
          refine C_region ?_
          refine L_y rfl (y_lss rfl rfl) rfl ?_
          refine L_nil ?_
          refine C_seq ?_
          refine C_cond_f rfl ?_
          refine C_exit ?_
          refine C_seq ?_
          refine C_region ?_
          refine L_y rfl (y_move rfl) rfl ?_
          refine L_y rfl (y_assign rfl) rfl ?_
          refine L_nil ?_
          refine C_ret ?_
          refine B_ret (rv_tmp rfl rv_nil) ((hsub (.cons_cons _ (.cons_cons _ (.cons_cons _ (.cons _ (.cons _ (.cons _ (.cons _ (.refl _))))))))).trans (hsub_pick [2, 5, 1] rfl)) ?_
          have e0 : bothS m A p n = [(A.rS false n)] := by simp_all [bothS]
          rw [e0, show List.flatten [(A.rS false n)] = (A.rS false n) from by simp]
          exact ⟨r1, hr1, rfl, rfl⟩
      · skip
        refine L_skip rfl rfl ?_
        refine L_skip rfl rfl ?_
        refine L_skip rfl rfl ?_
        refine L_skip rfl rfl ?_
        refine L_y rfl (y_pick_f rfl rfl) rfl ?_
        refine L_nil ?_
        refine C_cond_f rfl ?_
        refine C_skip ?_
        refine C_region ?_
        refine L_y rfl (y_add rfl rfl (show _ = (2 : Int) from rfl)) rfl ?_
        refine L_y rfl (y_move rfl) rfl ?_
        refine L_nil ?_
        refine In_round ?_
        refine C_seq ?_
        refine C_region ?_
        refine L_y rfl (y_lss rfl rfl) rfl ?_
        refine L_nil ?_
        refine C_seq ?_
        refine C_cond_f rfl ?_
        refine C_exit ?_
        refine C_seq ?_
        refine C_region ?_
        refine L_y rfl (y_move rfl) rfl ?_
        refine L_y rfl (y_assign rfl) rfl ?_
        refine L_nil ?_
        refine C_ret ?_
        refine B_ret (rv_tmp rfl rv_nil) ((hsub (.cons_cons _ (.cons_cons _ (.cons_cons _ (.cons _ (.cons _ (.cons _ (.cons _ (.refl _))))))))).trans (hsub_pick [2, 5, 1] rfl)) ?_
        have e0 : bothS m A p n = [(A.rS false n)] := by simp_all [bothS]
        rw [e0, show List.flatten [(A.rS false n)] = (A.rS false n) from by simp]
        exact ⟨r1, hr1, rfl, rfl⟩
    · skip
      refine C_skip ?_
      refine C_region ?_
      refine L_y rfl (y_add rfl rfl (show _ = (1 : Int) from rfl)) rfl ?_
      refine L_y rfl (y_move rfl) rfl ?_
      refine L_nil ?_
      refine In_round ?_
      refine C_seq ?_
      refine C_region ?_
      refine L_y rfl (y_lss rfl rfl) rfl ?_
      refine L_nil ?_
      refine C_seq ?_
      refine C_cond_t rfl ?_
      refine C_skip ?_
      refine C_seq ?_
      refine C_block ?_
      refine C_seq ?_
      refine C_region ?_
      refine L_y rfl (y_indexS rfl rfl Try.underlying118 sz_3 (by omega) (by omega) (show _ = 1 from rfl)) rfl ?_
      refine L_y rfl (y_load rfl ag_3 (sees 2 0 rfl) rfl) rfl ?_
      refine L_y rfl (y_assign rfl) rfl ?_
      refine L_nil ?_
      refine C_seq ?_
      refine C_region ?_
      refine L_y rfl (y_move rfl) rfl ?_
      refine L_y rfl (y_move rfl) rfl ?_
      refine L_y rfl (y_nilCheck rfl) rfl ?_
      refine L_y rfl (y_fieldAddr rfl fl_110_0) rfl ?_
      refine L_y rfl (y_indexA rfl rfl Try.underlying108 sz_107 (by omega) (by omega) (show _ = 2 from rfl)) rfl ?_
      refine L_y rfl (y_fieldAddr rfl fl_107_0) rfl ?_
      refine L_y rfl (y_load rfl ag_24 (sees 3 0 rfl) rfl) rfl ?_
      refine L_y rfl (y_move rfl) rfl ?_
      refine L_op rfl (op_call rfl rfl (fun a w => Try.call60 a w) rfl ?_)
      refine ((read_d h true (n)).sub (hsub_pick [1] rfl)).mono ?_
      rintro _ _ ⟨rfl, rfl⟩
      refine ⟨_, rfl, ?_⟩
      refine L_y rfl (y_move rfl) rfl ?_
      refine L_y rfl (y_extract rfl rfl) rfl ?_
      refine L_y rfl (y_extract rfl rfl) rfl ?_
      refine L_op rfl (op_alloc zl_32 rfl (fun B5 => ?_))
      refine L_op rfl (op_storeA 0 0 rfl rfl rfl sz_32 (by rw [bs_length, (rS_len true h.oks)]) rfl (bs_one _) (by simp) ?_)
      refine L_y rfl (y_assign rfl) rfl ?_
      refine L_nil ?_
      refine C_seq ?_
      refine C_region ?_
      refine L_y rfl (y_move rfl) rfl ?_
      refine L_y rfl (y_eqi rfl rfl) rfl ?_
      refine L_y rfl (y_move rfl) rfl ?_
      refine L_case 35 rfl (fun hg8_3 => ?_) (fun hg8_3 => ?_)
      · skip
        refine L_y rfl (y_move rfl) rfl ?_
        refine L_y rfl (y_move rfl) rfl ?_
        refine L_y rfl (y_loadA rfl ag_32 sz_32 (sees 0 0 rfl) (by rw [bs_length, rS_len _ h.oks]; decide) (bs_whole0 _ (rS_len _ h.oks))) rfl ?_
        refine L_op rfl (op_call rfl rfl (fun a w => Try.call61 a w) rfl ?_)
        refine FnS.mono (right_m (sees 4 0 rfl) (hG.sub (hsub (.cons _ (.cons _ (.cons _ (.cons _ (.cons _ (.refl _)))))))) n _ (rS_len _ h.oks)) ?_
        rintro _ _ ⟨rfl, e⟩
        obtain rfl := e.symm
        refine ⟨_, rfl, ?_⟩
        refine L_y rfl (y_pick_t rfl rfl) rfl ?_
        refine L_nil ?_
        refine C_cond rfl (fun hc2 => ?_) (fun hc2 => ?_)
        · skip
          refine C_region ?_
          refine L_y rfl (y_move rfl) rfl ?_
          refine L_y rfl (y_loadA rfl ag_32 sz_32 (sees 0 0 rfl) (by rw [bs_length, rS_len _ h.oks]; decide) (bs_whole0 _ (rS_len _ h.oks))) rfl ?_
          refine L_op rfl (op_buildSlice (vs := [(0, _)]) rfl Try.underlying40 sz_32 zl_32 rfl (by decide) (fill_one rfl (by rw [bs_length, rS_len _ h.oks]) rfl) rfl (fun B6 => ?_))
          refine L_op rfl (op_append0 (m := 1) (vs := bs (A.rS true n)) rfl rfl (src_slice (vs := bs (A.rS true n)) (sees 0 0 rfl) (by rw [bs_length, rS_len _ h.oks]; decide) (bs_whole0 _ (rS_len _ h.oks))) (by rw [bs_length, rS_len _ h.oks]) (bs_one _) Try.underlying40 ni_40 sz_32 by_32 (by decide) zl_32 rfl (by decide) rfl (fun r1 hr1 => ?_))
          refine L_y rfl (y_assign rfl) rfl ?_
          refine L_nil ?_
          refine C_region ?_
          refine L_y rfl (y_add rfl rfl (show _ = (2 : Int) from rfl)) rfl ?_
          refine L_y rfl (y_move rfl) rfl ?_
          refine L_nil ?_
          refine In_round ?_
          refine C_seq ?_
          refine C_region ?_
          refine L_y rfl (y_lss rfl rfl) rfl ?_
          refine L_nil ?_
          refine C_seq ?_
          refine C_cond_f rfl ?_
          refine C_exit ?_
          refine C_seq ?_
          refine C_region ?_
          refine L_y rfl (y_move rfl) rfl ?_
          refine L_y rfl (y_assign rfl) rfl ?_
          refine L_nil ?_
          refine C_ret ?_
          refine B_ret (rv_tmp rfl rv_nil) ((hsub (.cons_cons _ (.cons_cons _ (.cons_cons _ (.cons _ (.cons _ (.cons _ (.cons _ (.refl _))))))))).trans (hsub_pick [0, 5, 2] rfl)) ?_
          have e0 : bothS m A p n = [(A.rS true n)] := by simp_all [bothS]
          rw [e0, show List.flatten [(A.rS true n)] = (A.rS true n) from by simp]
          exact ⟨r1, hr1, rfl, rfl⟩
        · skip
          refine C_skip ?_
          refine C_region ?_
          refine L_y rfl (y_add rfl rfl (show _ = (2 : Int) from rfl)) rfl ?_
          refine L_y rfl (y_move rfl) rfl ?_
          refine L_nil ?_
          refine In_round ?_
          refine C_seq ?_
          refine C_region ?_
          refine L_y rfl (y_lss rfl rfl) rfl ?_
          refine L_nil ?_
          refine C_seq ?_
          refine C_cond_f rfl ?_
          refine C_exit ?_
          refine C_seq ?_
          refine C_region ?_
          refine L_y rfl (y_move rfl) rfl ?_
          refine L_y rfl (y_assign rfl) rfl ?_
          refine L_nil ?_
          refine C_ret ?_
          refine B_ret (rv_tmp rfl rv_nil) (hsub_nil0.trans ((hsub (.cons_cons _ (.cons_cons _ (.cons _ (.cons _ (.cons _ (.refl _))))))).trans (hsub_pick [4, 1] rfl))) ?_
          have e0 : bothS m A p n = [] := by simp_all [bothS]
          rw [e0]
          exact ⟨none, ⟨rfl, rfl⟩, rfl, rfl⟩
      · skip
        refine L_skip rfl rfl ?_
        refine L_skip rfl rfl ?_
        refine L_skip rfl rfl ?_
        refine L_skip rfl rfl ?_
        refine L_y rfl (y_pick_f rfl rfl) rfl ?_
        refine L_nil ?_
        refine C_cond_f rfl ?_
        refine C_skip ?_
        refine C_region ?_
        refine L_y rfl (y_add rfl rfl (show _ = (2 : Int) from rfl)) rfl ?_
        refine L_y rfl (y_move rfl) rfl ?_
        refine L_nil ?_
        refine In_round ?_
        refine C_seq ?_
        refine C_region ?_
        refine L_y rfl (y_lss rfl rfl) rfl ?_
        refine L_nil ?_
        refine C_seq ?_
        refine C_cond_f rfl ?_
        refine C_exit ?_
        refine C_seq ?_
        refine C_region ?_
        refine L_y rfl (y_move rfl) rfl ?_
        refine L_y rfl (y_assign rfl) rfl ?_
        refine L_nil ?_
        refine C_ret ?_
        refine B_ret (rv_tmp rfl rv_nil) (hsub_nil0.trans ((hsub (.cons_cons _ (.cons_cons _ (.cons _ (.cons _ (.cons _ (.refl _))))))).trans (hsub_pick [4, 1] rfl))) ?_
        have e0 : bothS m A p n = [] := by simp_all [bothS]
        rw [e0]
        exact ⟨none, ⟨rfl, rfl⟩, rfl, rfl⟩
  · skip
    refine L_skip rfl rfl ?_
    refine L_skip rfl rfl ?_
    refine L_skip rfl rfl ?_
    refine L_skip rfl rfl ?_
    refine L_y rfl (y_pick_f rfl rfl) rfl ?_
    refine L_nil ?_
    refine C_cond_f rfl ?_
    refine C_skip ?_
    refine C_region ?_
    refine L_y rfl (y_add rfl rfl (show _ = (1 : Int) from rfl)) rfl ?_
    refine L_y rfl (y_move rfl) rfl ?_
    refine L_nil ?_
    refine In_round ?_
    refine C_seq ?_
    refine C_region ?_
    refine L_y rfl (y_lss rfl rfl) rfl ?_
    refine L_nil ?_
    refine C_seq ?_
    refine C_cond_t rfl ?_
    refine C_skip ?_
    refine C_seq ?_
    refine C_block ?_
    refine C_seq ?_
    refine C_region ?_
    refine L_y rfl (y_indexS rfl rfl Try.underlying118 sz_3 (by omega) (by omega) (show _ = 1 from rfl)) rfl ?_
    refine L_y rfl (y_load rfl ag_3 (sees 2 0 rfl) rfl) rfl ?_
    refine L_y rfl (y_assign rfl) rfl ?_
    refine L_nil ?_
    refine C_seq ?_
    refine C_region ?_
    refine L_y rfl (y_move rfl) rfl ?_
    refine L_y rfl (y_move rfl) rfl ?_
    refine L_y rfl (y_nilCheck rfl) rfl ?_
    refine L_y rfl (y_fieldAddr rfl fl_110_0) rfl ?_
    refine L_y rfl (y_indexA rfl rfl Try.underlying108 sz_107 (by omega) (by omega) (show _ = 2 from rfl)) rfl ?_
    refine L_y rfl (y_fieldAddr rfl fl_107_0) rfl ?_
    refine L_y rfl (y_load rfl ag_24 (sees 3 0 rfl) rfl) rfl ?_
    refine L_y rfl (y_move rfl) rfl ?_
    refine L_op rfl (op_call rfl rfl (fun a w => Try.call60 a w) rfl ?_)
    refine ((read_d h true (n)).sub (hsub_pick [1] rfl)).mono ?_
    rintro _ _ ⟨rfl, rfl⟩
    refine ⟨_, rfl, ?_⟩
    refine L_y rfl (y_move rfl) rfl ?_
    refine L_y rfl (y_extract rfl rfl) rfl ?_
    refine L_y rfl (y_extract rfl rfl) rfl ?_
    refine L_op rfl (op_alloc zl_32 rfl (fun B7 => ?_))
    refine L_op rfl (op_storeA 0 0 rfl rfl rfl sz_32 (by rw [bs_length, (rS_len true h.oks)]) rfl (bs_one _) (by simp) ?_)
    refine L_y rfl (y_assign rfl) rfl ?_
    refine L_nil ?_
    refine C_seq ?_
    refine C_region ?_
    refine L_y rfl (y_move rfl) rfl ?_
    refine L_y rfl (y_eqi rfl rfl) rfl ?_
    refine L_y rfl (y_move rfl) rfl ?_
    refine L_case 35 rfl (fun hg8_3 => ?_) (fun hg8_3 => ?_)
    · skip
      refine L_y rfl (y_move rfl) rfl ?_
      refine L_y rfl (y_move rfl) rfl ?_
      refine L_y rfl (y_loadA rfl ag_32 sz_32 (sees 0 0 rfl) (by rw [bs_length, rS_len _ h.oks]; decide) (bs_whole0 _ (rS_len _ h.oks))) rfl ?_
      refine L_op rfl (op_call rfl rfl (fun a w => Try.call61 a w) rfl ?_)
      refine FnS.mono (right_m (sees 4 0 rfl) (hG.sub (hsub (.cons _ (.cons _ (.cons _ (.cons _ (.cons _ (.refl _)))))))) n _ (rS_len _ h.oks)) ?_
      rintro _ _ ⟨rfl, e⟩
      obtain rfl := e.symm
      refine ⟨_, rfl, ?_⟩
      refine L_y rfl (y_pick_t rfl rfl) rfl ?_
      refine L_nil ?_
      refine C_cond rfl (fun hc2 => ?_) (fun hc2 => ?_)
      · skip
        refine C_region ?_
        refine L_y rfl (y_move rfl) rfl ?_
        refine L_y rfl (y_loadA rfl ag_32 sz_32 (sees 0 0 rfl) (by rw [bs_length, rS_len _ h.oks]; decide) (bs_whole0 _ (rS_len _ h.oks))) rfl ?_
        refine L_op rfl (op_buildSlice (vs := [(0, _)]) rfl Try.underlying40 sz_32 zl_32 rfl (by decide) (fill_one rfl (by rw [bs_length, rS_len _ h.oks]) rfl) rfl (fun B8 => ?_))
        refine L_op rfl (op_append0 (m := 1) (vs := bs (A.rS true n)) rfl rfl (src_slice (vs := bs (A.rS true n)) (sees 0 0 rfl) (by rw [bs_length, rS_len _ h.oks]; decide) (bs_whole0 _ (rS_len _ h.oks))) (by rw [bs_length, rS_len _ h.oks]) (bs_one _) Try.underlying40 ni_40 sz_32 by_32 (by decide) zl_32 rfl (by decide) rfl (fun r1 hr1 => ?_))
        refine L_y rfl (y_assign rfl) rfl ?_
        refine L_nil ?_
        refine C_region ?_
        refine L_y rfl (y_add rfl rfl (show _ = (2 : Int) from rfl)) rfl ?_
        refine L_y rfl (y_move rfl) rfl ?_
        refine L_nil ?_
        refine In_round ?_
        refine C_seq ?_
        refine C_region ?_
        refine L_y rfl (y_lss rfl rfl) rfl ?_
        refine L_nil ?_
        refine C_seq ?_
        refine C_cond_f rfl ?_
        refine C_exit ?_
        refine C_seq ?_
        refine C_region ?_
        refine L_y rfl (y_move rfl) rfl ?_
        refine L_y rfl (y_assign rfl) rfl ?_
        refine L_nil ?_
        refine C_ret ?_
        refine B_ret (rv_tmp rfl rv_nil) ((hsub (.cons_cons _ (.cons_cons _ (.cons_cons _ (.cons _ (.cons _ (.cons _ (.cons _ (.refl _))))))))).trans (hsub_pick [0, 5, 2] rfl)) ?_
        have e0 : bothS m A p n = [(A.rS true n)] := by simp_all [bothS]
        rw [e0, show List.flatten [(A.rS true n)] = (A.rS true n) from by simp]
        exact ⟨r1, hr1, rfl, rfl⟩
      · skip
        refine C_skip ?_
        refine C_region ?_
        refine L_y rfl (y_add rfl rfl (show _ = (2 : Int) from rfl)) rfl ?_
        refine L_y rfl (y_move rfl) rfl ?_
        refine L_nil ?_
        refine In_round ?_
        refine C_seq ?_
        refine C_region ?_
        refine L_y rfl (y_lss rfl rfl) rfl ?_
        refine L_nil ?_
        refine C_seq ?_
        refine C_cond_f rfl ?_
        refine C_exit ?_
        refine C_seq ?_
        refine C_region ?_
        refine L_y rfl (y_move rfl) rfl ?_
        refine L_y rfl (y_assign rfl) rfl ?_
        refine L_nil ?_
        refine C_ret ?_
        refine B_ret (rv_tmp rfl rv_nil) (hsub_nil0.trans ((hsub (.cons_cons _ (.cons_cons _ (.cons _ (.cons _ (.cons _ (.refl _))))))).trans (hsub_pick [4, 1] rfl))) ?_
        have e0 : bothS m A p n = [] := by simp_all [bothS]
        rw [e0]
        exact ⟨none, ⟨rfl, rfl⟩, rfl, rfl⟩
    · skip
      refine L_skip rfl rfl ?_
      refine L_skip rfl rfl ?_
      refine L_skip rfl rfl ?_
      refine L_skip rfl rfl ?_
      refine L_y rfl (y_pick_f rfl rfl) rfl ?_
      refine L_nil ?_
      refine C_cond_f rfl ?_
      refine C_skip ?_
      refine C_region ?_
      refine L_y rfl (y_add rfl rfl (show _ = (2 : Int) from rfl)) rfl ?_
      refine L_y rfl (y_move rfl) rfl ?_
      refine L_nil ?_
      refine In_round ?_
      refine C_seq ?_
      refine C_region ?_
      refine L_y rfl (y_lss rfl rfl) rfl ?_
      refine L_nil ?_
      refine C_seq ?_
      refine C_cond_f rfl ?_
      refine C_exit ?_
      refine C_seq ?_
      refine C_region ?_
      refine L_y rfl (y_move rfl) rfl ?_
      refine L_y rfl (y_assign rfl) rfl ?_
      refine L_nil ?_
      refine C_ret ?_
      refine B_ret (rv_tmp rfl rv_nil) (hsub_nil0.trans ((hsub (.cons_cons _ (.cons_cons _ (.cons _ (.cons _ (.cons _ (.refl _))))))).trans (hsub_pick [4, 1] rfl))) ?_
      have e0 : bothS m A p n = [] := by simp_all [bothS]
      rw [e0]
      exact ⟨none, ⟨rfl, rfl⟩, rfl, rfl⟩

set_option maxHeartbeats 4000000 in

theorem both_tf {w0 : World} {H : Hp} {D : Duo} {A : Da} {bp : Nat} {m : Mi} (h : Two dt D A m.bx m.bys bp) {p : Int → Sec → Bool} (hG : GoodAt Try.prog w0 H m.gv p) (n : Int) (hn : m.has n = true) (hp : thr A false = true) (hq : thr A true = false) : FnS Try.prog w0 25 #[ptr m.b, .int .i64 n] (m.seg 110 :: D.seg dt :: H) (fun e H' => ∃ g, slOk 128 g (bothS m A p n).length (bs (bothS m A p n).flatten) ∧ e = .returned (slV g (bothS m A p n).length) ∧ H' = slSeg 32 g (bs (bothS m A p n).flatten) :: m.seg 110 :: D.seg dt :: H) := by
  refine FnS_intro (n := 47) (rs := [.tmp 4]) (vs := [ptr m.b, .int .i64 n]) Try.func25 rfl Try.ntmps25 rfl rfl ?_
  refine C_seq ?_
  refine C_region ?_
  refine L_y rfl (y_assign rfl) rfl ?_
  refine L_nil ?_
  refine C_seq ?_
  refine C_region ?_
  refine L_y rfl (y_assign rfl) rfl ?_
  refine L_nil ?_
  refine C_seq ?_
  refine C_seq ?_
  refine C_region ?_
  refine L_y rfl (y_move rfl) rfl ?_
  refine L_y rfl (y_move rfl) rfl ?_
  refine L_op rfl (op_call rfl rfl (fun a w => Try.call58 a w) rfl ?_)
  refine (has_m _ (sees 0 0 rfl)).mono ?_
  rintro _ _ ⟨rfl, rfl⟩
  rw [hn]
  refine ⟨_, rfl, ?_⟩
  refine L_y rfl (y_not rfl) rfl ?_
  refine L_nil ?_
  refine C_cond_f rfl ?_
  refine C_skip ?_
  refine C_seq ?_
  refine C_seq ?_
  refine C_region ?_
  refine L_y rfl (y_move rfl) rfl ?_
  refine L_op rfl (op_call rfl rfl (fun a w => Try.call59 a w) rfl ?_)
  refine ((present_tf h hp hq).sub (hsub_pick [0, 0] rfl)).mono ?_
  rintro _ _ ⟨g1, hg1, rfl, rfl⟩
  cases g1 with
  | none => exact slOk_none hg1 (by decide)
  | some g1 => ?_
  refine ⟨_, rfl, ?_⟩
  refine L_y rfl (y_lenS rfl rfl Try.underlying118) rfl ?_
  refine L_y rfl (y_move rfl) rfl ?_
  refine L_nil ?_
  refine C_block ?_
  refine C_loopIn (In_round ?_)
  refine C_seq ?_
  refine C_region ?_
  refine L_y rfl (y_lss rfl rfl) rfl ?_
  refine L_nil ?_
  refine C_seq ?_
  refine C_cond_t rfl ?_
  refine C_skip ?_
  refine C_seq ?_
  refine C_block ?_
  refine C_seq ?_
  refine C_region ?_
  refine L_y rfl (y_indexS rfl rfl Try.underlying118 sz_3 (by omega) (by omega) (show _ = 0 from rfl)) rfl ?_
  refine L_y rfl (y_load rfl ag_3 (sees 0 0 rfl) rfl) rfl ?_
  refine L_y rfl (y_assign rfl) rfl ?_
  refine L_nil ?_
  refine C_seq ?_
  refine C_region ?_
  refine L_y rfl (y_move rfl) rfl ?_
  refine L_y rfl (y_move rfl) rfl ?_
  refine L_y rfl (y_nilCheck rfl) rfl ?_
  refine L_y rfl (y_fieldAddr rfl fl_110_0) rfl ?_
  refine L_y rfl (y_indexA rfl rfl Try.underlying108 sz_107 (by omega) (by omega) (show _ = 0 from rfl)) rfl ?_
  refine L_y rfl (y_fieldAddr rfl fl_107_0) rfl ?_
  refine L_y rfl (y_load rfl ag_24 (sees 1 0 rfl) rfl) rfl ?_
  refine L_y rfl (y_move rfl) rfl ?_
  refine L_op rfl (op_call rfl rfl (fun a w => Try.call60 a w) rfl ?_)
  refine ((read_d h false (n)).sub (hsub_pick [2] rfl)).mono ?_
  rintro _ _ ⟨rfl, rfl⟩
  refine ⟨_, rfl, ?_⟩
  refine L_y rfl (y_move rfl) rfl ?_
  refine L_y rfl (y_extract rfl rfl) rfl ?_
  refine L_y rfl (y_extract rfl rfl) rfl ?_
  refine L_op rfl (op_alloc zl_32 rfl (fun B1 => ?_))
  refine L_op rfl (op_storeA 0 0 rfl rfl rfl sz_32 (by rw [bs_length, (rS_len false h.oks)]) rfl (bs_one _) (by simp) ?_)
  refine L_y rfl (y_assign rfl) rfl ?_
  refine L_nil ?_
  refine C_seq ?_
  refine C_region ?_
  refine L_y rfl (y_move rfl) rfl ?_
  refine L_y rfl (y_eqi rfl rfl) rfl ?_
  refine L_y rfl (y_move rfl) rfl ?_
  refine L_case 35 rfl (fun hg8_3 => ?_) (fun hg8_3 => ?_)
  · skip
    refine L_y rfl (y_move rfl) rfl ?_
    refine L_y rfl (y_move rfl) rfl ?_
    refine L_y rfl (y_loadA rfl ag_32 sz_32 (sees 0 0 rfl) (by rw [bs_length, rS_len _ h.oks]; decide) (bs_whole0 _ (rS_len _ h.oks))) rfl ?_
    refine L_op rfl (op_call rfl rfl (fun a w => Try.call61 a w) rfl ?_)
    refine FnS.mono (right_m (sees 3 0 rfl) (hG.sub (hsub (.cons _ (.cons _ (.cons _ (.cons _ (.refl _))))))) n _ (rS_len _ h.oks)) ?_
    rintro _ _ ⟨rfl, e⟩
    obtain rfl := e.symm
    refine ⟨_, rfl, ?_⟩
    refine L_y rfl (y_pick_t rfl rfl) rfl ?_
    refine L_nil ?_
    refine C_cond rfl (fun hc2 => ?_) (fun hc2 => ?_)
    · skip
      refine C_region ?_
      refine L_y rfl (y_move rfl) rfl ?_
      refine L_y rfl (y_loadA rfl ag_32 sz_32 (sees 0 0 rfl) (by rw [bs_length, rS_len _ h.oks]; decide) (bs_whole0 _ (rS_len _ h.oks))) rfl ?_
      refine L_op rfl (op_buildSlice (vs := [(0, _)]) rfl Try.underlying40 sz_32 zl_32 rfl (by decide) (fill_one rfl (by rw [bs_length, rS_len _ h.oks]) rfl) rfl (fun B2 => ?_))
      refine L_op rfl (op_append0 (m := 1) (vs := bs (A.rS false n)) rfl rfl (src_slice (vs := bs (A.rS false n)) (sees 0 0 rfl) (by rw [bs_length, rS_len _ h.oks]; decide) (bs_whole0 _ (rS_len _ h.oks))) (by rw [bs_length, rS_len _ h.oks]) (bs_one _) Try.underlying40 ni_40 sz_32 by_32 (by decide) zl_32 rfl (by decide) rfl (fun r1 hr1 => ?_))
      refine L_y rfl (y_assign rfl) rfl ?_
      refine L_nil ?_
      refine C_region ?_
      refine L_y rfl (y_add rfl rfl (show _ = (1 : Int) from rfl)) rfl ?_
      refine L_y rfl (y_move rfl) rfl ?_
      refine L_nil ?_
      refine In_round ?_
      refine C_seq ?_
      refine C_region ?_
      refine L_y rfl (y_lss rfl rfl) rfl ?_
      refine L_nil ?_
      refine C_seq ?_
      refine C_cond_f rfl ?_
      refine C_exit ?_
      refine C_seq ?_
      refine C_region ?_
      refine L_y rfl (y_move rfl) rfl ?_
      refine L_y rfl (y_assign rfl) rfl ?_
      refine L_nil ?_
      refine C_ret ?_
      refine B_ret (rv_tmp rfl rv_nil) ((hsub (.cons_cons _ (.cons_cons _ (.cons_cons _ (.cons _ (.cons _ (.cons _ (.refl _)))))))).trans (hsub_pick [0, 4, 2] rfl)) ?_
      have e0 : bothS m A p n = [(A.rS false n)] := by simp_all [bothS]
      rw [e0, show List.flatten [(A.rS false n)] = (A.rS false n) from by simp]
      exact ⟨r1, hr1, rfl, rfl⟩
    · skip
      refine C_skip ?_
      refine C_region ?_
      refine L_y rfl (y_add rfl rfl (show _ = (1 : Int) from rfl)) rfl ?_
      refine L_y rfl (y_move rfl) rfl ?_
      refine L_nil ?_
      refine In_round ?_
      refine C_seq ?_
      refine C_region ?_
      refine L_y rfl (y_lss rfl rfl) rfl ?_
      refine L_nil ?_
      refine C_seq ?_
      refine C_cond_f rfl ?_
      refine C_exit ?_
      refine C_seq ?_
      refine C_region ?_
      refine L_y rfl (y_move rfl) rfl ?_
      refine L_y rfl (y_assign rfl) rfl ?_
      refine L_nil ?_
      refine C_ret ?_
      refine B_ret (rv_tmp rfl rv_nil) (hsub_nil0.trans ((hsub (.cons_cons _ (.cons_cons _ (.cons _ (.cons _ (.refl _)))))).trans (hsub_pick [3, 1] rfl))) ?_
      have e0 : bothS m A p n = [] := by simp_all [bothS]
      rw [e0]
      exact ⟨none, ⟨rfl, rfl⟩, rfl, rfl⟩
  · skip
    refine L_skip rfl rfl ?_
    refine L_skip rfl rfl ?_
    refine L_skip rfl rfl ?_
    refine L_skip rfl rfl ?_
    refine L_y rfl (y_pick_f rfl rfl) rfl ?_
    refine L_nil ?_
    refine C_cond_f rfl ?_
    refine C_skip ?_
    refine C_region ?_
    refine L_y rfl (y_add rfl rfl (show _ = (1 : Int) from rfl)) rfl ?_
    refine L_y rfl (y_move rfl) rfl ?_
    refine L_nil ?_
    refine In_round ?_
    refine C_seq ?_
    refine C_region ?_
    refine L_y rfl (y_lss rfl rfl) rfl ?_
    refine L_nil ?_
    refine C_seq ?_
    refine C_cond_f rfl ?_
    refine C_exit ?_
    refine C_seq ?_
    refine C_region ?_
    refine L_y rfl (y_move rfl) rfl ?_
    refine L_y rfl (y_assign rfl) rfl ?_
    refine L_nil ?_
    refine C_ret ?_
    refine B_ret (rv_tmp rfl rv_nil) (hsub_nil0.trans ((hsub (.cons_cons _ (.cons_cons _ (.cons _ (.cons _ (.refl _)))))).trans (hsub_pick [3, 1] rfl))) ?_
    have e0 : bothS m A p n = [] := by simp_all [bothS]
    rw [e0]
    exact ⟨none, ⟨rfl, rfl⟩, rfl, rfl⟩

set_option maxHeartbeats 4000000 in

theorem both_ft {w0 : World} {H : Hp} {D : Duo} {A : Da} {bp : Nat} {m : Mi} (h : Two dt D A m.bx m.bys bp) {p : Int → Sec → Bool} (hG : GoodAt Try.prog w0 H m.gv p) (n : Int) (hn : m.has n = true) (hp : thr A false = false) (hq : thr A true = true) : FnS Try.prog w0 25 #[ptr m.b, .int .i64 n] (m.seg 110 :: D.seg dt :: H) (fun e H' => ∃ g, slOk 128 g (bothS m A p n).length (bs (bothS m A p n).flatten) ∧ e = .returned (slV g (bothS m A p n).length) ∧ H' = slSeg 32 g (bs (bothS m A p n).flatten) :: m.seg 110 :: D.seg dt :: H) := by
  refine FnS_intro (n := 47) (rs := [.tmp 4]) (vs := [ptr m.b, .int .i64 n]) Try.func25 rfl Try.ntmps25 rfl rfl ?_
  refine C_seq ?_
  refine C_region ?_
  refine L_y rfl (y_assign rfl) rfl ?_
  refine L_nil ?_
  refine C_seq ?_
  refine C_region ?_
  refine L_y rfl (y_assign rfl) rfl ?_
  refine L_nil ?_
  refine C_seq ?_
  refine C_seq ?_
  refine C_region ?_
  refine L_y rfl (y_move rfl) rfl ?_
  refine L_y rfl (y_move rfl) rfl ?_
  refine L_op rfl (op_call rfl rfl (fun a w => Try.call58 a w) rfl ?_)
  refine (has_m _ (sees 0 0 rfl)).mono ?_
  rintro _ _ ⟨rfl, rfl⟩
  rw [hn]
  refine ⟨_, rfl, ?_⟩
  refine L_y rfl (y_not rfl) rfl ?_
  refine L_nil ?_
  refine C_cond_f rfl ?_
  refine C_skip ?_
  refine C_seq ?_
  refine C_seq ?_
  refine C_region ?_
  refine L_y rfl (y_move rfl) rfl ?_
  refine L_op rfl (op_call rfl rfl (fun a w => Try.call59 a w) rfl ?_)
  refine ((present_ft h hp hq).sub (hsub_pick [0, 0] rfl)).mono ?_
  rintro _ _ ⟨g1, hg1, rfl, rfl⟩
  cases g1 with
  | none => exact slOk_none hg1 (by decide)
  | some g1 => ?_
  refine ⟨_, rfl, ?_⟩
  refine L_y rfl (y_lenS rfl rfl Try.underlying118) rfl ?_
  refine L_y rfl (y_move rfl) rfl ?_
  refine L_nil ?_
  refine C_block ?_
  refine C_loopIn (In_round ?_)
  refine C_seq ?_
  refine C_region ?_
  refine L_y rfl (y_lss rfl rfl) rfl ?_
  refine L_nil ?_
  refine C_seq ?_
  refine C_cond_t rfl ?_
  refine C_skip ?_
  refine C_seq ?_
  refine C_block ?_
  refine C_seq ?_
  refine C_region ?_
  refine L_y rfl (y_indexS rfl rfl Try.underlying118 sz_3 (by omega) (by omega) (show _ = 0 from rfl)) rfl ?_
  refine L_y rfl (y_load rfl ag_3 (sees 0 0 rfl) rfl) rfl ?_
  refine L_y rfl (y_assign rfl) rfl ?_
  refine L_nil ?_
  refine C_seq ?_
  refine C_region ?_
  refine L_y rfl (y_move rfl) rfl ?_
  refine L_y rfl (y_move rfl) rfl ?_
  refine L_y rfl (y_nilCheck rfl) rfl ?_
  refine L_y rfl (y_fieldAddr rfl fl_110_0) rfl ?_
  refine L_y rfl (y_indexA rfl rfl Try.underlying108 sz_107 (by omega) (by omega) (show _ = 2 from rfl)) rfl ?_
  refine L_y rfl (y_fieldAddr rfl fl_107_0) rfl ?_
  refine L_y rfl (y_load rfl ag_24 (sees 1 0 rfl) rfl) rfl ?_
  refine L_y rfl (y_move rfl) rfl ?_
  refine L_op rfl (op_call rfl rfl (fun a w => Try.call60 a w) rfl ?_)
  refine ((read_d h true (n)).sub (hsub_pick [2] rfl)).mono ?_
  rintro _ _ ⟨rfl, rfl⟩
  refine ⟨_, rfl, ?_⟩
  refine L_y rfl (y_move rfl) rfl ?_
  refine L_y rfl (y_extract rfl rfl) rfl ?_
  refine L_y rfl (y_extract rfl rfl) rfl ?_
  refine L_op rfl (op_alloc zl_32 rfl (fun B1 => ?_))
  refine L_op rfl (op_storeA 0 0 rfl rfl rfl sz_32 (by rw [bs_length, (rS_len true h.oks)]) rfl (bs_one _) (by simp) ?_)
  refine L_y rfl (y_assign rfl) rfl ?_
  refine L_nil ?_
  refine C_seq ?_
  refine C_region ?_
  refine L_y rfl (y_move rfl) rfl ?_
  refine L_y rfl (y_eqi rfl rfl) rfl ?_
  refine L_y rfl (y_move rfl) rfl ?_
  refine L_case 35 rfl (fun hg8_3 => ?_) (fun hg8_3 => ?_)
  · skip
    refine L_y rfl (y_move rfl) rfl ?_
    refine L_y rfl (y_move rfl) rfl ?_
    refine L_y rfl (y_loadA rfl ag_32 sz_32 (sees 0 0 rfl) (by rw [bs_length, rS_len _ h.oks]; decide) (bs_whole0 _ (rS_len _ h.oks))) rfl ?_
    refine L_op rfl (op_call rfl rfl (fun a w => Try.call61 a w) rfl ?_)
    refine FnS.mono (right_m (sees 3 0 rfl) (hG.sub (hsub (.cons _ (.cons _ (.cons _ (.cons _ (.refl _))))))) n _ (rS_len _ h.oks)) ?_
    rintro _ _ ⟨rfl, e⟩
    obtain rfl := e.symm
    refine ⟨_, rfl, ?_⟩
    refine L_y rfl (y_pick_t rfl rfl) rfl ?_
    refine L_nil ?_
    refine C_cond rfl (fun hc2 => ?_) (fun hc2 => ?_)
    · skip
      refine C_region ?_
      refine L_y rfl (y_move rfl) rfl ?_
      refine L_y rfl (y_loadA rfl ag_32 sz_32 (sees 0 0 rfl) (by rw [bs_length, rS_len _ h.oks]; decide) (bs_whole0 _ (rS_len _ h.oks))) rfl ?_
      refine L_op rfl (op_buildSlice (vs := [(0, _)]) rfl Try.underlying40 sz_32 zl_32 rfl (by decide) (fill_one rfl (by rw [bs_length, rS_len _ h.oks]) rfl) rfl (fun B2 => ?_))
      refine L_op rfl (op_append0 (m := 1) (vs := bs (A.rS true n)) rfl rfl (src_slice (vs := bs (A.rS true n)) (sees 0 0 rfl) (by rw [bs_length, rS_len _ h.oks]; decide) (bs_whole0 _ (rS_len _ h.oks))) (by rw [bs_length, rS_len _ h.oks]) (bs_one _) Try.underlying40 ni_40 sz_32 by_32 (by decide) zl_32 rfl (by decide) rfl (fun r1 hr1 => ?_))
      refine L_y rfl (y_assign rfl) rfl ?_
      refine L_nil ?_
      refine C_region ?_
      refine L_y rfl (y_add rfl rfl (show _ = (1 : Int) from rfl)) rfl ?_
      refine L_y rfl (y_move rfl) rfl ?_
      refine L_nil ?_
      refine In_round ?_
      refine C_seq ?_
      refine C_region ?_
      refine L_y rfl (y_lss rfl rfl) rfl ?_
      refine L_nil ?_
      refine C_seq ?_
      refine C_cond_f rfl ?_
      refine C_exit ?_
      refine C_seq ?_
      refine C_region ?_
      refine L_y rfl (y_move rfl) rfl ?_
      refine L_y rfl (y_assign rfl) rfl ?_
      refine L_nil ?_
      refine C_ret ?_
      refine B_ret (rv_tmp rfl rv_nil) ((hsub (.cons_cons _ (.cons_cons _ (.cons_cons _ (.cons _ (.cons _ (.cons _ (.refl _)))))))).trans (hsub_pick [0, 4, 2] rfl)) ?_
      have e0 : bothS m A p n = [(A.rS true n)] := by simp_all [bothS]
      rw [e0, show List.flatten [(A.rS true n)] = (A.rS true n) from by simp]
      exact ⟨r1, hr1, rfl, rfl⟩
    · skip
      refine C_skip ?_
      refine C_region ?_
      refine L_y rfl (y_add rfl rfl (show _ = (1 : Int) from rfl)) rfl ?_
      refine L_y rfl (y_move rfl) rfl ?_
      refine L_nil ?_
      refine In_round ?_
      refine C_seq ?_
      refine C_region ?_
      refine L_y rfl (y_lss rfl rfl) rfl ?_
      refine L_nil ?_
      refine C_seq ?_
      refine C_cond_f rfl ?_
      refine C_exit ?_
      refine C_seq ?_
      refine C_region ?_
      refine L_y rfl (y_move rfl) rfl ?_
      refine L_y rfl (y_assign rfl) rfl ?_
      refine L_nil ?_
      refine C_ret ?_
      refine B_ret (rv_tmp rfl rv_nil) (hsub_nil0.trans ((hsub (.cons_cons _ (.cons_cons _ (.cons _ (.cons _ (.refl _)))))).trans (hsub_pick [3, 1] rfl))) ?_
      have e0 : bothS m A p n = [] := by simp_all [bothS]
      rw [e0]
      exact ⟨none, ⟨rfl, rfl⟩, rfl, rfl⟩
  · skip
    refine L_skip rfl rfl ?_
    refine L_skip rfl rfl ?_
    refine L_skip rfl rfl ?_
    refine L_skip rfl rfl ?_
    refine L_y rfl (y_pick_f rfl rfl) rfl ?_
    refine L_nil ?_
    refine C_cond_f rfl ?_
    refine C_skip ?_
    refine C_region ?_
    refine L_y rfl (y_add rfl rfl (show _ = (1 : Int) from rfl)) rfl ?_
    refine L_y rfl (y_move rfl) rfl ?_
    refine L_nil ?_
    refine In_round ?_
    refine C_seq ?_
    refine C_region ?_
    refine L_y rfl (y_lss rfl rfl) rfl ?_
    refine L_nil ?_
    refine C_seq ?_
    refine C_cond_f rfl ?_
    refine C_exit ?_
    refine C_seq ?_
    refine C_region ?_
    refine L_y rfl (y_move rfl) rfl ?_
    refine L_y rfl (y_assign rfl) rfl ?_
    refine L_nil ?_
    refine C_ret ?_
    refine B_ret (rv_tmp rfl rv_nil) (hsub_nil0.trans ((hsub (.cons_cons _ (.cons_cons _ (.cons _ (.cons _ (.refl _)))))).trans (hsub_pick [3, 1] rfl))) ?_
    have e0 : bothS m A p n = [] := by simp_all [bothS]
    rw [e0]
    exact ⟨none, ⟨rfl, rfl⟩, rfl, rfl⟩

set_option maxHeartbeats 4000000 in

theorem both_ff {w0 : World} {H : Hp} {D : Duo} {A : Da} {bp : Nat} {m : Mi} (h : Two dt D A m.bx m.bys bp) {p : Int → Sec → Bool} (hG : GoodAt Try.prog w0 H m.gv p) (n : Int) (hn : m.has n = true) (hp : thr A false = false) (hq : thr A true = false) : FnS Try.prog w0 25 #[ptr m.b, .int .i64 n] (m.seg 110 :: D.seg dt :: H) (fun e H' => ∃ g, slOk 128 g (bothS m A p n).length (bs (bothS m A p n).flatten) ∧ e = .returned (slV g (bothS m A p n).length) ∧ H' = slSeg 32 g (bs (bothS m A p n).flatten) :: m.seg 110 :: D.seg dt :: H) := by
  refine FnS_intro (n := 47) (rs := [.tmp 4]) (vs := [ptr m.b, .int .i64 n]) Try.func25 rfl Try.ntmps25 rfl rfl ?_
  refine C_seq ?_
  refine C_region ?_
  refine L_y rfl (y_assign rfl) rfl ?_
  refine L_nil ?_
  refine C_seq ?_
  refine C_region ?_
  refine L_y rfl (y_assign rfl) rfl ?_
  refine L_nil ?_
  refine C_seq ?_
  refine C_seq ?_
  refine C_region ?_
  refine L_y rfl (y_move rfl) rfl ?_
  refine L_y rfl (y_move rfl) rfl ?_
  refine L_op rfl (op_call rfl rfl (fun a w => Try.call58 a w) rfl ?_)
  refine (has_m _ (sees 0 0 rfl)).mono ?_
  rintro _ _ ⟨rfl, rfl⟩
  rw [hn]
  refine ⟨_, rfl, ?_⟩
  refine L_y rfl (y_not rfl) rfl ?_
  refine L_nil ?_
  refine C_cond_f rfl ?_
  refine C_skip ?_
  refine C_seq ?_
  refine C_seq ?_
  refine C_region ?_
  refine L_y rfl (y_move rfl) rfl ?_
  refine L_op rfl (op_call rfl rfl (fun a w => Try.call59 a w) rfl ?_)
  refine ((present_ff h hp hq).sub (hsub_pick [0, 0] rfl)).mono ?_
  rintro _ _ ⟨rfl, rfl⟩
  refine ⟨_, rfl, ?_⟩
  refine L_y rfl (y_lenS rfl rfl Try.underlying118) rfl ?_
  refine L_y rfl (y_move rfl) rfl ?_
  refine L_nil ?_
  refine C_block ?_
  refine C_loopIn (In_round ?_)
  refine C_seq ?_
  refine C_region ?_
  refine L_y rfl (y_lss rfl rfl) rfl ?_
  refine L_nil ?_
  refine C_seq ?_
  refine C_cond_f rfl ?_
  refine C_exit ?_
  refine C_seq ?_
  refine C_region ?_
  refine L_y rfl (y_move rfl) rfl ?_
  refine L_y rfl (y_assign rfl) rfl ?_
  refine L_nil ?_
  refine C_ret ?_
  refine B_ret (rv_tmp rfl rv_nil) (hsub_nil0.trans ((hsub (.cons_cons _ (.cons_cons _ (.refl _)))).trans (hsub_pick [0, 0] rfl))) ?_
  have e0 : bothS m A p n = [] := by simp_all [bothS]
  rw [e0]
  exact ⟨none, ⟨rfl, rfl⟩, rfl, rfl⟩

theorem both_m {w0 : World} {H : Hp} {D : Duo} {A : Da} {bp : Nat} {m : Mi} (h : Two dt D A m.bx m.bys bp) {p : Int → Sec → Bool} (hG : GoodAt Try.prog w0 H m.gv p) (n : Int) : FnS Try.prog w0 25 #[ptr m.b, .int .i64 n] (m.seg 110 :: D.seg dt :: H) (fun e H' => ∃ g, slOk 128 g (bothS m A p n).length (bs (bothS m A p n).flatten) ∧ e = .returned (slV g (bothS m A p n).length) ∧ H' = slSeg 32 g (bs (bothS m A p n).flatten) :: m.seg 110 :: D.seg dt :: H) := by
  cases hn : m.has n
  · exact both_no h hG n hn
  · cases hp : thr A false <;> cases hq : thr A true
    · exact both_ff h hG n hn hp hq
    · exact both_ft h hG n hn hp hq
    · exact both_tf h hG n hn hp hq
    · exact both_tt h hG n hn hp hq

end Go.Proofs.Ytjjiclgbdenkkaa

