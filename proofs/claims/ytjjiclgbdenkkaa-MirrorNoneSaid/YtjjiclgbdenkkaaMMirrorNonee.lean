/- Own work: texts MhW, VhW, VdW, Sd, LaW, Hc, Fg, MzW, Sy, MyW, VqW, MbW, Sz, Po, Pq, Ac, Rf, L8W, Rw, Rg, put together. -/
import Derived.Test.YtjjiclgbdenkkaaProg
import Derived.ShutString
import Derived.OpenShut
import Derived.Carry
import Derived.Deep.Slices
import Derived.Test.YtjjiclgbdenkkaaMMirrorNoned
/- walks (own work; the walks' lines by a program of this repo). -/
set_option linter.unusedVariables false
set_option linter.unusedSimpArgs false
set_option maxRecDepth 20000
namespace Go.Proofs.Ytjjiclgbdenkkaa
open Go.Sl
attribute [local irreducible] BodyQ WpC WpL WpS WpH OpW FnS



set_option maxHeartbeats 4000000 in

theorem heal_no {w0 : World} {H : Hp} {D : Duo} {A : Da} {bp : Nat} {m : Mi} (h : Two dt D A m.bx m.bys bp) {p : Int → Sec → Bool} (hG : GoodAt Try.prog w0 H m.gv p) (n : Int) (hQ : ∀ i, (A.dev i).Q.length < 99990) (hn : m.has n = false) : FnS Try.prog w0 23 #[ptr m.b, .int .i64 n] (m.seg 110 :: D.seg dt :: H) (fun e H' => e = .returned (.tuple #[.int .i64 (healR m A p n).1, .int .i64 (healR m A p n).2]) ∧ ∃ D', Two dt D' (healA m A p n) m.bx m.bys bp ∧ H' = (healM m A p n).seg 110 :: D'.seg dt :: H) := by
  refine FnS_intro (n := 105) (rs := [.tmp 4, .tmp 5]) (vs := [ptr m.b, .int .i64 n]) Try.func23 rfl Try.ntmps23 rfl rfl ?_
  refine C_seq ?_
  refine C_region ?_
  refine L_y rfl (y_assign rfl) rfl ?_
  refine L_y rfl (y_assign rfl) rfl ?_
  refine L_nil ?_
  refine C_seq ?_
  refine C_seq ?_
  refine C_region ?_
  refine L_y rfl (y_move rfl) rfl ?_
  refine L_y rfl (y_move rfl) rfl ?_
  refine L_op rfl (op_call rfl rfl (fun a w => Try.call58 a w) rfl ?_)
  refine (has_m _ (sees 0 0 rfl)).mono ?_
  rintro _ _ ⟨rfl, rfl⟩
  rw [hn]
  refine ⟨_, rfl, ?_⟩
  refine L_y rfl (y_not rfl) rfl ?_
  refine L_nil ?_
  refine C_cond_t rfl ?_
  refine C_seq ?_
  refine C_region ?_
  refine L_y rfl (y_assign rfl) rfl ?_
  refine L_y rfl (y_assign rfl) rfl ?_
  refine L_nil ?_
  refine C_ret ?_
  refine B_ret (rv_tmp rfl (rv_tmp rfl rv_nil)) ((hsub (.cons_cons _ (.cons_cons _ (.refl _)))).trans (hsub_pick [0, 0] rfl)) ?_
  exact ⟨by simp_all [healR, healTo, Go.Sl.hg0, Go.Sl.hg1] <;> rfl, D, h.to (by simp_all [healA, healTo, Go.Sl.hg0, Go.Sl.hg1]), by rw [show healM m A p n = m from by simp_all [healM, healTo, Go.Sl.hg0, Go.Sl.hg1]]; first | done | rfl⟩

set_option maxHeartbeats 4000000 in

theorem heal_tt {w0 : World} {H : Hp} {D : Duo} {A : Da} {bp : Nat} {m : Mi} (h : Two dt D A m.bx m.bys bp) {p : Int → Sec → Bool} (hG : GoodAt Try.prog w0 H m.gv p) (n : Int) (hQ : ∀ i, (A.dev i).Q.length < 99990) (hn : m.has n = true) (hp : thr A false = true) (hq : thr A true = true) : FnS Try.prog w0 23 #[ptr m.b, .int .i64 n] (m.seg 110 :: D.seg dt :: H) (fun e H' => e = .returned (.tuple #[.int .i64 (healR m A p n).1, .int .i64 (healR m A p n).2]) ∧ ∃ D', Two dt D' (healA m A p n) m.bx m.bys bp ∧ H' = (healM m A p n).seg 110 :: D'.seg dt :: H) := by
  refine FnS_intro (n := 105) (rs := [.tmp 4, .tmp 5]) (vs := [ptr m.b, .int .i64 n]) Try.func23 rfl Try.ntmps23 rfl rfl ?_
  refine C_seq ?_
  refine C_region ?_
  refine L_y rfl (y_assign rfl) rfl ?_
  refine L_y rfl (y_assign rfl) rfl ?_
  refine L_nil ?_
  refine C_seq ?_
  refine C_seq ?_
  refine C_region ?_
  refine L_y rfl (y_move rfl) rfl ?_
  refine L_y rfl (y_move rfl) rfl ?_
  refine L_op rfl (op_call rfl rfl (fun a w => Try.call58 a w) rfl ?_)
  refine (has_m _ (sees 0 0 rfl)).mono ?_
  rintro _ _ ⟨rfl, rfl⟩
  rw [hn]
  refine ⟨_, rfl, ?_⟩
  refine L_y rfl (y_not rfl) rfl ?_
  refine L_nil ?_
  refine C_cond_f rfl ?_
  refine C_skip ?_
  refine C_seq ?_
  refine C_seq ?_
  refine C_region ?_
  refine L_y rfl (y_move rfl) rfl ?_
  refine L_op rfl (op_call rfl rfl (fun a w => Try.call59 a w) rfl ?_)
  refine ((present_tt h hp hq).sub (hsub_pick [0, 0] rfl)).mono ?_
  rintro _ _ ⟨g1, hg1, rfl, rfl⟩
  cases g1 with
  | none => exact slOk_none hg1 (by decide)
  | some g1 => ?_
  refine ⟨_, rfl, ?_⟩
  refine L_y rfl (y_lenS rfl rfl Try.underlying118) rfl ?_
  refine L_y rfl (y_lss rfl rfl) rfl ?_
  refine L_nil ?_
  refine C_cond_f rfl ?_
  refine C_skip ?_
  refine C_seq ?_
  refine C_region ?_
  refine L_op rfl (op_alloc zl_120 rfl (fun B1 => ?_))
  refine L_nil ?_
  refine C_seq ?_
  refine C_region ?_
  refine L_op rfl (op_alloc zl_62 rfl (fun B2 => ?_))
  refine L_nil ?_
  refine C_seq ?_
  refine C_seq ?_
  refine C_region ?_
  refine L_y rfl (y_move rfl) rfl ?_
  refine L_nil ?_
  refine C_block ?_
  refine C_loopIn (In_round ?_)
  refine C_seq ?_
  refine C_region ?_
  refine L_y rfl (y_lss rfl rfl) rfl ?_
  refine L_nil ?_
  refine C_seq ?_
  refine C_cond_t rfl ?_
  refine C_skip ?_
  refine C_seq ?_
  refine C_block ?_
  refine C_seq ?_
  refine C_region ?_
  refine L_y rfl (y_move rfl) rfl ?_
  refine L_y rfl (y_assign rfl) rfl ?_
  refine L_nil ?_
  refine C_seq ?_
  refine C_region ?_
  refine L_y rfl (y_move rfl) rfl ?_
  refine L_y rfl (y_move rfl) rfl ?_
  refine L_y rfl (y_move rfl) rfl ?_
  refine L_y rfl (y_nilCheck rfl) rfl ?_
  refine L_y rfl (y_fieldAddr rfl fl_110_0) rfl ?_
  refine L_y rfl (y_indexA rfl rfl Try.underlying108 sz_107 (by omega) (by omega) (show _ = 0 from rfl)) rfl ?_
  refine L_y rfl (y_fieldAddr rfl fl_107_0) rfl ?_
  refine L_y rfl (y_load rfl ag_24 (sees 3 0 rfl) rfl) rfl ?_
  refine L_y rfl (y_move rfl) rfl ?_
  refine L_op rfl (op_call rfl rfl (fun a w => Try.call60 a w) rfl ?_)
  refine ((read_d h false (n)).sub (hsub_pick [4] rfl)).mono ?_
  rintro _ _ ⟨rfl, rfl⟩
  refine ⟨_, rfl, ?_⟩
  refine L_y rfl (y_move rfl) rfl ?_
  refine L_y rfl (y_extract rfl rfl) rfl ?_
  refine L_y rfl (y_extract rfl rfl) rfl ?_
  refine L_y rfl (y_indexA rfl rfl Try.underlying120 sz_32 (by omega) (by omega) (show _ = 0 from rfl)) rfl ?_
  rw [z256]
  refine L_op rfl (op_store (vs := bs (A.rS false n)) 2 0 rfl rfl rfl sz_32 (by rw [bs_length, rS_len _ h.oks]) rfl (bs_one _) (by simp [bs_length, secOf_len, rS_len _ h.oks]) ?_)
  rw [spl_lo (by rw [secOf_len, rS_len _ h.oks])]
  refine L_nil ?_
  refine C_region ?_
  refine L_y rfl (y_move rfl) rfl ?_
  refine L_y rfl (y_move rfl) rfl ?_
  refine L_y rfl (y_move rfl) rfl ?_
  refine L_y rfl (y_nilCheck rfl) rfl ?_
  refine L_y rfl (y_fieldAddr rfl fl_110_0) rfl ?_
  refine L_y rfl (y_indexA rfl rfl Try.underlying108 sz_107 (by omega) (by omega) (show _ = 0 from rfl)) rfl ?_
  refine L_y rfl (y_fieldAddr rfl fl_107_1) rfl ?_
  refine L_y rfl (y_load rfl ag_105 (sees 4 0 rfl) rfl) rfl ?_
  refine L_y rfl (y_move rfl) rfl ?_
  refine L_y rfl (y_lookup rfl rfl Try.underlying105 Try.underlying3 zt_4 (sees 4 1 rfl)) rfl ?_
  refine L_y rfl (y_not rfl) rfl ?_
  refine L_y rfl (y_move rfl) rfl ?_
  refine L_case 47 rfl (fun hg11_12 => ?_) (fun hg11_12 => ?_)
  · skip
    refine L_y rfl (y_move rfl) rfl ?_
    refine L_y rfl (y_move rfl) rfl ?_
    refine L_y rfl (y_move rfl) rfl ?_
    refine L_y rfl (y_indexA rfl rfl Try.underlying120 sz_32 (by omega) (by omega) (show _ = 0 from rfl)) rfl ?_
    refine L_y rfl (y_loadA rfl ag_32 sz_32 (sees 2 0 rfl) (by simp [bs_length, secOf_len, rS_len _ h.oks]) (by first | exact two_hi (rS_len _ h.oks) (rS_len _ h.oks) | exact two_lo (rS_len _ h.oks))) rfl ?_
    refine L_op rfl (op_call rfl rfl (fun a w => Try.call61 a w) rfl ?_)
    refine FnS.mono (right_m (sees 4 0 rfl) (hG.sub (hsub (.cons _ (.cons _ (.cons _ (.cons _ (.cons _ (.refl _)))))))) n _ (rS_len _ h.oks)) ?_
    rintro _ _ ⟨rfl, e⟩
    obtain rfl := e.symm
    refine ⟨_, rfl, ?_⟩
    refine L_case 53 rfl (fun hg11_18 => ?_) (fun hg11_18 => ?_)
    · skip
      refine L_y rfl (y_pick_t rfl rfl) rfl ?_
      refine L_y rfl (y_indexA rfl rfl Try.underlying62 sz_4 (by omega) (by omega) (show _ = 0 from rfl)) rfl ?_
      refine L_op rfl (op_store1 1 0 rfl rfl rfl sz_4 rfl (Nat.le_of_ble_eq_true rfl) ?_)
      refine L_nil ?_
      refine C_region ?_
      refine L_y rfl (y_add rfl rfl (show _ = (1 : Int) from rfl)) rfl ?_
      refine L_y rfl (y_move rfl) rfl ?_
      refine L_nil ?_
      refine In_round ?_
      refine C_seq ?_
      refine C_region ?_
      refine L_y rfl (y_lss rfl rfl) rfl ?_
      refine L_nil ?_
      refine C_seq ?_
      refine C_cond_t rfl ?_
      refine C_skip ?_
      refine C_seq ?_
      refine C_block ?_
      refine C_seq ?_
      refine C_region ?_
      refine L_y rfl (y_move rfl) rfl ?_
      refine L_y rfl (y_assign rfl) rfl ?_
      refine L_nil ?_
      refine C_seq ?_
      refine C_region ?_
      refine L_y rfl (y_move rfl) rfl ?_
      refine L_y rfl (y_move rfl) rfl ?_
      refine L_y rfl (y_move rfl) rfl ?_
      refine L_y rfl (y_nilCheck rfl) rfl ?_
      refine L_y rfl (y_fieldAddr rfl fl_110_0) rfl ?_
      refine L_y rfl (y_indexA rfl rfl Try.underlying108 sz_107 (by omega) (by omega) (show _ = 2 from rfl)) rfl ?_
      refine L_y rfl (y_fieldAddr rfl fl_107_0) rfl ?_
      refine L_y rfl (y_load rfl ag_24 (sees 4 0 rfl) rfl) rfl ?_
      refine L_y rfl (y_move rfl) rfl ?_
      refine L_op rfl (op_call rfl rfl (fun a w => Try.call60 a w) rfl ?_)
      refine ((read_d h true (n)).sub (hsub_pick [0] rfl)).mono ?_
      rintro _ _ ⟨rfl, rfl⟩
      refine ⟨_, rfl, ?_⟩
      refine L_y rfl (y_move rfl) rfl ?_
      refine L_y rfl (y_extract rfl rfl) rfl ?_
      refine L_y rfl (y_extract rfl rfl) rfl ?_
      refine L_y rfl (y_indexA rfl rfl Try.underlying120 sz_32 (by omega) (by omega) (show _ = 128 from rfl)) rfl ?_
      skip
      refine L_op rfl (op_store (vs := bs (A.rS true n)) 2 0 rfl rfl rfl sz_32 (by rw [bs_length, rS_len _ h.oks]) rfl (bs_one _) (by simp [bs_length, secOf_len, rS_len _ h.oks]) ?_)
      rw [spl_hi (rS_len _ h.oks) (by rw [secOf_len, rS_len _ h.oks])]
      refine L_nil ?_
      refine C_region ?_
      refine L_y rfl (y_move rfl) rfl ?_
      refine L_y rfl (y_move rfl) rfl ?_
      refine L_y rfl (y_move rfl) rfl ?_
      refine L_y rfl (y_nilCheck rfl) rfl ?_
      refine L_y rfl (y_fieldAddr rfl fl_110_0) rfl ?_
      refine L_y rfl (y_indexA rfl rfl Try.underlying108 sz_107 (by omega) (by omega) (show _ = 2 from rfl)) rfl ?_
      refine L_y rfl (y_fieldAddr rfl fl_107_1) rfl ?_
      refine L_y rfl (y_load rfl ag_105 (sees 4 0 rfl) rfl) rfl ?_
      refine L_y rfl (y_move rfl) rfl ?_
      refine L_y rfl (y_lookup rfl rfl Try.underlying105 Try.underlying3 zt_4 (sees 4 2 rfl)) rfl ?_
      refine L_y rfl (y_not rfl) rfl ?_
      refine L_y rfl (y_move rfl) rfl ?_
      refine L_case 47 rfl (fun hg11_12 => ?_) (fun hg11_12 => ?_)
      · skip
        refine L_y rfl (y_move rfl) rfl ?_
        refine L_y rfl (y_move rfl) rfl ?_
        refine L_y rfl (y_move rfl) rfl ?_
        refine L_y rfl (y_indexA rfl rfl Try.underlying120 sz_32 (by omega) (by omega) (show _ = 128 from rfl)) rfl ?_
        refine L_y rfl (y_loadA rfl ag_32 sz_32 (sees 2 0 rfl) (by simp [bs_length, secOf_len, rS_len _ h.oks]) (by first | exact two_hi (rS_len _ h.oks) (rS_len _ h.oks) | exact two_lo (rS_len _ h.oks))) rfl ?_
        refine L_op rfl (op_call rfl rfl (fun a w => Try.call61 a w) rfl ?_)
        refine FnS.mono (right_m (sees 4 0 rfl) (hG.sub (hsub (.cons _ (.cons _ (.cons _ (.cons _ (.cons _ (.refl _)))))))) n _ (rS_len _ h.oks)) ?_
        rintro _ _ ⟨rfl, e⟩
        obtain rfl := e.symm
        refine ⟨_, rfl, ?_⟩
        refine L_case 53 rfl (fun hg11_18 => ?_) (fun hg11_18 => ?_)
        · skip
          refine L_y rfl (y_pick_t rfl rfl) rfl ?_
          refine L_y rfl (y_indexA rfl rfl Try.underlying62 sz_4 (by omega) (by omega) (show _ = 1 from rfl)) rfl ?_
          refine L_op rfl (op_store1 1 0 rfl rfl rfl sz_4 rfl (Nat.le_of_ble_eq_true rfl) ?_)
          refine L_nil ?_
          refine C_region ?_
          refine L_y rfl (y_add rfl rfl (show _ = (2 : Int) from rfl)) rfl ?_
          refine L_y rfl (y_move rfl) rfl ?_
          refine L_nil ?_
          refine In_round ?_
          refine C_seq ?_
          refine C_region ?_
          refine L_y rfl (y_lss rfl rfl) rfl ?_
          refine L_nil ?_
          refine C_seq ?_
          refine C_cond_f rfl ?_
          refine C_exit ?_
          refine C_seq ?_
          refine C_region ?_
          refine L_y rfl (y_assign rfl) rfl ?_
          refine L_nil ?_
          refine C_seq ?_
          refine C_block ?_
          refine C_seq ?_
          refine C_region ?_
          refine L_y rfl (y_indexA rfl rfl Try.underlying62 sz_4 (by omega) (by omega) (show _ = 0 from rfl)) rfl ?_
          refine L_y rfl (y_load rfl ag_4 (sees 1 0 rfl) rfl) rfl ?_
          refine L_y rfl (y_not rfl) rfl ?_
          refine L_y rfl (y_move rfl) rfl ?_
          refine L_skip rfl rfl ?_
          refine L_skip rfl rfl ?_
          refine L_skip rfl rfl ?_
          refine L_y rfl (y_pick_f rfl rfl) rfl ?_
          refine L_y rfl (y_assign rfl) rfl ?_
          refine L_nil ?_
          refine C_cond_f rfl ?_
          refine C_seq ?_
          refine C_region ?_
          refine L_y rfl (y_indexA rfl rfl Try.underlying62 sz_4 (by omega) (by omega) (show _ = 0 from rfl)) rfl ?_
          refine L_y rfl (y_load rfl ag_4 (sees 1 0 rfl) rfl) rfl ?_
          refine L_y rfl (y_move rfl) rfl ?_
          refine L_y rfl (y_indexA rfl rfl Try.underlying62 sz_4 (by omega) (by omega) (show _ = 1 from rfl)) rfl ?_
          refine L_y rfl (y_load rfl ag_4 (sees 1 0 rfl) rfl) rfl ?_
          refine L_y rfl (y_pick_t rfl rfl) rfl ?_
          refine L_y rfl (y_move rfl) rfl ?_
          refine L_y rfl (y_indexA rfl rfl Try.underlying120 sz_32 (by omega) (by omega) (show _ = 0 from rfl)) rfl ?_
          refine L_y rfl (y_loadA rfl ag_32 sz_32 (sees 2 0 rfl) (by simp [bs_length, secOf_len, rS_len _ h.oks]) (two_lo (rS_len _ h.oks))) rfl ?_
          refine L_y rfl (y_indexA rfl rfl Try.underlying120 sz_32 (by omega) (by omega) (show _ = 128 from rfl)) rfl ?_
          refine L_y rfl (y_loadA rfl ag_32 sz_32 (sees 2 0 rfl) (by simp [bs_length, secOf_len, rS_len _ h.oks]) (two_hi (rS_len _ h.oks) (rS_len _ h.oks))) rfl ?_
          refine L_y rfl (y_eqa rfl rfl Try.underlying32 Try.underlying5 sz_5 eg_32 (rS_len _ h.oks) (rS_len _ h.oks)) rfl ?_
          refine L_y rfl (y_pick_t rfl rfl) rfl ?_
          refine L_y rfl (y_assign rfl) rfl ?_
          refine L_nil ?_
          refine C_cond rfl (fun hc4 => ?_) (fun hc4 => ?_)
          · replace hc4 := of_decide_eq_true hc4
            refine C_seq ?_
            refine C_region ?_
            refine L_y rfl (y_assign rfl) rfl ?_
            refine L_y rfl (y_assign rfl) rfl ?_
            refine L_nil ?_
            refine C_ret ?_
            refine B_ret (rv_tmp rfl (rv_tmp rfl rv_nil)) ((hsub (.cons_cons _ (.cons_cons _ (.cons _ (.cons _ (.cons _ (.refl _))))))).trans (hsub_pick [4, 0] rfl)) ?_
            exact ⟨by simp_all [healR, healTo, Go.Sl.hg0, Go.Sl.hg1] <;> rfl, D, h.to (by simp_all [healA, healTo, Go.Sl.hg0, Go.Sl.hg1]), by rw [show healM m A p n = m from by simp_all [healM, healTo, Go.Sl.hg0, Go.Sl.hg1]]; first | done | rfl⟩
          · replace hc4 := of_decide_eq_false hc4
            refine C_seq ?_
            refine C_region ?_
            refine L_y rfl (y_indexA rfl rfl Try.underlying62 sz_4 (by omega) (by omega) (show _ = 0 from rfl)) rfl ?_
            refine L_y rfl (y_load rfl ag_4 (sees 1 0 rfl) rfl) rfl ?_
            refine L_y rfl (y_not rfl) rfl ?_
            refine L_y rfl (y_assign rfl) rfl ?_
            refine L_nil ?_
            refine C_cond_f rfl ?_
            refine C_skip ?_
            refine C_seq ?_
            refine C_seq ?_
            refine C_region ?_
            refine L_y rfl (y_move rfl) rfl ?_
            refine L_y rfl (y_move rfl) rfl ?_
            refine L_y rfl (y_sub rfl rfl (show _ = (1 : Int) from rfl)) rfl ?_
            refine L_y rfl (y_nilCheck rfl) rfl ?_
            refine L_y rfl (y_fieldAddr rfl fl_110_0) rfl ?_
            refine L_y rfl (y_indexA rfl rfl Try.underlying108 sz_107 (by omega) (by omega) (show _ = 2 from rfl)) rfl ?_
            refine L_y rfl (y_assign rfl) rfl ?_
            refine L_nil ?_
            refine C_seq ?_
            refine C_regionH (m.seg 110 :: H) (by kernel_rfl) ?_
            refine H_y 0 rfl (by kernel_rfl) (by kernel_rfl) (by kernel_rfl) (((hsub (.cons_cons _ (.cons _ (.cons _ (.cons _ (.cons _ (.refl _))))))).trans (hsub_pick [4] rfl))) rfl (y_move rfl) rfl ?_
            refine H_y 1 rfl (by kernel_rfl) (by kernel_rfl) (by kernel_rfl) (((hsub (.cons_cons _ (.cons _ (.cons _ (.cons _ (.cons _ (.refl _))))))).trans (hsub_pick [4] rfl))) rfl (y_nilCheck rfl) rfl ?_
            refine H_y 2 rfl (by kernel_rfl) (by kernel_rfl) (by kernel_rfl) (((hsub (.cons_cons _ (.cons _ (.cons _ (.cons _ (.cons _ (.refl _))))))).trans (hsub_pick [4] rfl))) rfl (y_fieldAddr rfl fl_107_0) rfl ?_
            refine H_y 3 rfl (by kernel_rfl) (by kernel_rfl) (by kernel_rfl) (((hsub (.cons_cons _ (.cons _ (.cons _ (.cons _ (.cons _ (.refl _))))))).trans (hsub_pick [4] rfl))) rfl (y_load rfl ag_24 (sees 0 0 rfl) rfl) rfl ?_
            refine H_y 4 rfl (by kernel_rfl) (by kernel_rfl) (by kernel_rfl) (((hsub (.cons_cons _ (.cons _ (.cons _ (.cons _ (.cons _ (.refl _))))))).trans (hsub_pick [4] rfl))) rfl (y_move rfl) rfl ?_
            refine H_y 5 rfl (by kernel_rfl) (by kernel_rfl) (by kernel_rfl) (((hsub (.cons_cons _ (.cons _ (.cons _ (.cons _ (.cons _ (.refl _))))))).trans (hsub_pick [4] rfl))) rfl (y_move rfl) rfl ?_
            refine H_y 6 rfl (by kernel_rfl) (by kernel_rfl) (by kernel_rfl) (((hsub (.cons_cons _ (.cons _ (.cons _ (.cons _ (.cons _ (.refl _))))))).trans (hsub_pick [4] rfl))) rfl (y_indexA rfl rfl Try.underlying120 sz_32 (by omega) (by omega) (show _ = 0 from rfl)) rfl ?_
            refine H_one 7 rfl (by kernel_rfl) rfl (op_y (y_loadA rfl ag_32 sz_32 (sees 2 0 rfl) (by simp [bs_length, secOf_len, rS_len _ h.oks]) (by first | exact two_hi (rS_len _ h.oks) (rS_len _ h.oks) | exact two_lo (rS_len _ h.oks))) rfl ?_)
            refine ⟨((hsub (.cons_cons _ (.cons _ (.cons _ (.cons _ (.cons _ (.refl _))))))).trans (hsub_pick [4] rfl)), ?_⟩
            refine H_one 8 rfl (by kernel_rfl) rfl (op_call rfl rfl (fun a w => Try.call62 a w) rfl ?_)
            refine ((write_d h true n (A.rS false n) (rS_len _ h.oks) (by have := hQ true; omega)).sub (hsub_pick [0] rfl)).mono ?_
            rintro _ _ ⟨rfl, D2, h2, rfl⟩
            refine ⟨_, rfl, ?_⟩
            refine ⟨((hsub (.cons_cons _ (.cons _ (.cons _ (.cons _ (.cons _ (.refl _))))))).trans (hsub_pick [4] rfl)), ?_⟩
            refine H_y 9 rfl (by kernel_rfl) (by kernel_rfl) (by kernel_rfl) (((hsub (.cons_cons _ (.cons _ (.cons _ (.cons _ (.cons _ (.refl _))))))).trans (hsub_pick [4] rfl))) rfl (y_eqi rfl rfl) rfl ?_
            refine H_done (by kernel_rfl) ?_
            refine C_cond rfl (fun hc6 => ?_) (fun hc6 => ?_)
            · replace hc6 := of_decide_eq_true hc6
              refine C_region ?_
              refine L_y rfl (y_move rfl) rfl ?_
              refine L_y rfl (y_nilCheck rfl) rfl ?_
              refine L_y rfl (y_fieldAddr rfl fl_107_1) rfl ?_
              refine L_y rfl (y_load rfl ag_105 (sees 4 0 rfl) rfl) rfl ?_
              refine L_y rfl (y_move rfl) rfl ?_
              refine L_op rfl (op_delete 4 2 rfl rfl rfl Try.underlying105 Try.underlying3 rfl rfl ?_)
              refine L_nil ?_
              refine C_seq ?_
              refine C_region ?_
              refine L_y rfl (y_assign rfl) rfl ?_
              refine L_y rfl (y_assign rfl) rfl ?_
              refine L_nil ?_
              refine C_ret ?_
              refine B_ret (rv_tmp rfl (rv_tmp rfl rv_nil)) ((hsub (.cons_cons _ (.cons_cons _ (.cons _ (.cons _ (.cons _ (.refl _))))))).trans (hsub_pick [4, 0] rfl)) ?_
              have e0 : healTo m A p n = some true := by simp_all [healTo, Go.Sl.hg0, Go.Sl.hg1]
              have e1 : healM m A p n = (if A.wE true n = 0 then { m with k1 := kDel m.k1 n } else m) := by simp [healM, e0]
              exact ⟨by simp_all [healR, Go.Sl.hg0, Go.Sl.hg1] <;> rfl, D2, h2.to (by simp [healA, e0]), by rw [e1]; first | (rw [if_pos (by simpa using hc6)]; rfl) | (rw [if_neg (by simpa using hc6)]; rfl)⟩
            · replace hc6 := of_decide_eq_false hc6
              refine C_skip ?_
              refine C_seq ?_
              refine C_region ?_
              refine L_y rfl (y_assign rfl) rfl ?_
              refine L_y rfl (y_assign rfl) rfl ?_
              refine L_nil ?_
              refine C_ret ?_
              refine B_ret (rv_tmp rfl (rv_tmp rfl rv_nil)) ((hsub (.cons_cons _ (.cons_cons _ (.cons _ (.cons _ (.cons _ (.refl _))))))).trans (hsub_pick [4, 0] rfl)) ?_
              have e0 : healTo m A p n = some true := by simp_all [healTo, Go.Sl.hg0, Go.Sl.hg1]
              have e1 : healM m A p n = (if A.wE true n = 0 then { m with k1 := kDel m.k1 n } else m) := by simp [healM, e0]
              exact ⟨by simp_all [healR, Go.Sl.hg0, Go.Sl.hg1] <;> rfl, D2, h2.to (by simp [healA, e0]), by rw [e1]; first | (rw [if_pos (by simpa using hc6)]; rfl) | (rw [if_neg (by simpa using hc6)]; rfl)⟩
        · skip
          refine L_y rfl (y_pick_t rfl rfl) rfl ?_
          refine L_y rfl (y_indexA rfl rfl Try.underlying62 sz_4 (by omega) (by omega) (show _ = 1 from rfl)) rfl ?_
          refine L_op rfl (op_store1 1 0 rfl rfl rfl sz_4 rfl (Nat.le_of_ble_eq_true rfl) ?_)
          refine L_nil ?_
          refine C_region ?_
          refine L_y rfl (y_add rfl rfl (show _ = (2 : Int) from rfl)) rfl ?_
          refine L_y rfl (y_move rfl) rfl ?_
          refine L_nil ?_
          refine In_round ?_
          refine C_seq ?_
          refine C_region ?_
          refine L_y rfl (y_lss rfl rfl) rfl ?_
          refine L_nil ?_
          refine C_seq ?_
          refine C_cond_f rfl ?_
          refine C_exit ?_
          refine C_seq ?_
          refine C_region ?_
          refine L_y rfl (y_assign rfl) rfl ?_
          refine L_nil ?_
          refine C_seq ?_
          refine C_block ?_
          refine C_seq ?_
          refine C_region ?_
          refine L_y rfl (y_indexA rfl rfl Try.underlying62 sz_4 (by omega) (by omega) (show _ = 0 from rfl)) rfl ?_
          refine L_y rfl (y_load rfl ag_4 (sees 1 0 rfl) rfl) rfl ?_
          refine L_y rfl (y_not rfl) rfl ?_
          refine L_y rfl (y_move rfl) rfl ?_
          refine L_skip rfl rfl ?_
          refine L_skip rfl rfl ?_
          refine L_skip rfl rfl ?_
          refine L_y rfl (y_pick_f rfl rfl) rfl ?_
          refine L_y rfl (y_assign rfl) rfl ?_
          refine L_nil ?_
          refine C_cond_f rfl ?_
          refine C_seq ?_
          refine C_region ?_
          refine L_y rfl (y_indexA rfl rfl Try.underlying62 sz_4 (by omega) (by omega) (show _ = 0 from rfl)) rfl ?_
          refine L_y rfl (y_load rfl ag_4 (sees 1 0 rfl) rfl) rfl ?_
          refine L_y rfl (y_move rfl) rfl ?_
          refine L_y rfl (y_indexA rfl rfl Try.underlying62 sz_4 (by omega) (by omega) (show _ = 1 from rfl)) rfl ?_
          refine L_y rfl (y_load rfl ag_4 (sees 1 0 rfl) rfl) rfl ?_
          refine L_y rfl (y_pick_t rfl rfl) rfl ?_
          refine L_y rfl (y_move rfl) rfl ?_
          refine L_skip rfl rfl ?_
          refine L_skip rfl rfl ?_
          refine L_skip rfl rfl ?_
          refine L_skip rfl rfl ?_
          refine L_skip rfl rfl ?_
          refine L_y rfl (y_pick_f rfl rfl) rfl ?_
          refine L_y rfl (y_assign rfl) rfl ?_
          refine L_nil ?_
          refine C_cond_f rfl ?_
          refine C_seq ?_
          refine C_region ?_
          refine L_y rfl (y_indexA rfl rfl Try.underlying62 sz_4 (by omega) (by omega) (show _ = 0 from rfl)) rfl ?_
          refine L_y rfl (y_load rfl ag_4 (sees 1 0 rfl) rfl) rfl ?_
          refine L_y rfl (y_not rfl) rfl ?_
          refine L_y rfl (y_assign rfl) rfl ?_
          refine L_nil ?_
          refine C_cond_f rfl ?_
          refine C_skip ?_
          refine C_seq ?_
          refine C_seq ?_
          refine C_region ?_
          refine L_y rfl (y_move rfl) rfl ?_
          refine L_y rfl (y_move rfl) rfl ?_
          refine L_y rfl (y_sub rfl rfl (show _ = (1 : Int) from rfl)) rfl ?_
          refine L_y rfl (y_nilCheck rfl) rfl ?_
          refine L_y rfl (y_fieldAddr rfl fl_110_0) rfl ?_
          refine L_y rfl (y_indexA rfl rfl Try.underlying108 sz_107 (by omega) (by omega) (show _ = 2 from rfl)) rfl ?_
          refine L_y rfl (y_assign rfl) rfl ?_
          refine L_nil ?_
          refine C_seq ?_
          refine C_regionH (m.seg 110 :: H) (by kernel_rfl) ?_
          refine H_y 0 rfl (by kernel_rfl) (by kernel_rfl) (by kernel_rfl) (((hsub (.cons_cons _ (.cons _ (.cons _ (.cons _ (.cons _ (.refl _))))))).trans (hsub_pick [4] rfl))) rfl (y_move rfl) rfl ?_
          refine H_y 1 rfl (by kernel_rfl) (by kernel_rfl) (by kernel_rfl) (((hsub (.cons_cons _ (.cons _ (.cons _ (.cons _ (.cons _ (.refl _))))))).trans (hsub_pick [4] rfl))) rfl (y_nilCheck rfl) rfl ?_
          refine H_y 2 rfl (by kernel_rfl) (by kernel_rfl) (by kernel_rfl) (((hsub (.cons_cons _ (.cons _ (.cons _ (.cons _ (.cons _ (.refl _))))))).trans (hsub_pick [4] rfl))) rfl (y_fieldAddr rfl fl_107_0) rfl ?_
          refine H_y 3 rfl (by kernel_rfl) (by kernel_rfl) (by kernel_rfl) (((hsub (.cons_cons _ (.cons _ (.cons _ (.cons _ (.cons _ (.refl _))))))).trans (hsub_pick [4] rfl))) rfl (y_load rfl ag_24 (sees 0 0 rfl) rfl) rfl ?_
          refine H_y 4 rfl (by kernel_rfl) (by kernel_rfl) (by kernel_rfl) (((hsub (.cons_cons _ (.cons _ (.cons _ (.cons _ (.cons _ (.refl _))))))).trans (hsub_pick [4] rfl))) rfl (y_move rfl) rfl ?_
          refine H_y 5 rfl (by kernel_rfl) (by kernel_rfl) (by kernel_rfl) (((hsub (.cons_cons _ (.cons _ (.cons _ (.cons _ (.cons _ (.refl _))))))).trans (hsub_pick [4] rfl))) rfl (y_move rfl) rfl ?_
          refine H_y 6 rfl (by kernel_rfl) (by kernel_rfl) (by kernel_rfl) (((hsub (.cons_cons _ (.cons _ (.cons _ (.cons _ (.cons _ (.refl _))))))).trans (hsub_pick [4] rfl))) rfl (y_indexA rfl rfl Try.underlying120 sz_32 (by omega) (by omega) (show _ = 0 from rfl)) rfl ?_
          refine H_one 7 rfl (by kernel_rfl) rfl (op_y (y_loadA rfl ag_32 sz_32 (sees 2 0 rfl) (by simp [bs_length, secOf_len, rS_len _ h.oks]) (by first | exact two_hi (rS_len _ h.oks) (rS_len _ h.oks) | exact two_lo (rS_len _ h.oks))) rfl ?_)
          refine ⟨((hsub (.cons_cons _ (.cons _ (.cons _ (.cons _ (.cons _ (.refl _))))))).trans (hsub_pick [4] rfl)), ?_⟩
          refine H_one 8 rfl (by kernel_rfl) rfl (op_call rfl rfl (fun a w => Try.call62 a w) rfl ?_)
          refine ((write_d h true n (A.rS false n) (rS_len _ h.oks) (by have := hQ true; omega)).sub (hsub_pick [0] rfl)).mono ?_
          rintro _ _ ⟨rfl, D3, h3, rfl⟩
          refine ⟨_, rfl, ?_⟩
          refine ⟨((hsub (.cons_cons _ (.cons _ (.cons _ (.cons _ (.cons _ (.refl _))))))).trans (hsub_pick [4] rfl)), ?_⟩
          refine H_y 9 rfl (by kernel_rfl) (by kernel_rfl) (by kernel_rfl) (((hsub (.cons_cons _ (.cons _ (.cons _ (.cons _ (.cons _ (.refl _))))))).trans (hsub_pick [4] rfl))) rfl (y_eqi rfl rfl) rfl ?_
          refine H_done (by kernel_rfl) ?_
          refine C_cond rfl (fun hc6 => ?_) (fun hc6 => ?_)
          · replace hc6 := of_decide_eq_true hc6
            refine C_region ?_
            refine L_y rfl (y_move rfl) rfl ?_
            refine L_y rfl (y_nilCheck rfl) rfl ?_
            refine L_y rfl (y_fieldAddr rfl fl_107_1) rfl ?_
            refine L_y rfl (y_load rfl ag_105 (sees 4 0 rfl) rfl) rfl ?_
            refine L_y rfl (y_move rfl) rfl ?_
            refine L_op rfl (op_delete 4 2 rfl rfl rfl Try.underlying105 Try.underlying3 rfl rfl ?_)
            refine L_nil ?_
            refine C_seq ?_
            refine C_region ?_
            refine L_y rfl (y_assign rfl) rfl ?_
            refine L_y rfl (y_assign rfl) rfl ?_
            refine L_nil ?_
            refine C_ret ?_
            refine B_ret (rv_tmp rfl (rv_tmp rfl rv_nil)) ((hsub (.cons_cons _ (.cons_cons _ (.cons _ (.cons _ (.cons _ (.refl _))))))).trans (hsub_pick [4, 0] rfl)) ?_
            have e0 : healTo m A p n = some true := by simp_all [healTo, Go.Sl.hg0, Go.Sl.hg1]
            have e1 : healM m A p n = (if A.wE true n = 0 then { m with k1 := kDel m.k1 n } else m) := by simp [healM, e0]
            exact ⟨by simp_all [healR, Go.Sl.hg0, Go.Sl.hg1] <;> rfl, D3, h3.to (by simp [healA, e0]), by rw [e1]; first | (rw [if_pos (by simpa using hc6)]; rfl) | (rw [if_neg (by simpa using hc6)]; rfl)⟩
          · replace hc6 := of_decide_eq_false hc6
            refine C_skip ?_
            refine C_seq ?_
            refine C_region ?_
            refine L_y rfl (y_assign rfl) rfl ?_
            refine L_y rfl (y_assign rfl) rfl ?_
            refine L_nil ?_
            refine C_ret ?_
            refine B_ret (rv_tmp rfl (rv_tmp rfl rv_nil)) ((hsub (.cons_cons _ (.cons_cons _ (.cons _ (.cons _ (.cons _ (.refl _))))))).trans (hsub_pick [4, 0] rfl)) ?_
            have e0 : healTo m A p n = some true := by simp_all [healTo, Go.Sl.hg0, Go.Sl.hg1]
            have e1 : healM m A p n = (if A.wE true n = 0 then { m with k1 := kDel m.k1 n } else m) := by simp [healM, e0]
            exact ⟨by simp_all [healR, Go.Sl.hg0, Go.Sl.hg1] <;> rfl, D3, h3.to (by simp [healA, e0]), by rw [e1]; first | (rw [if_pos (by simpa using hc6)]; rfl) | (rw [if_neg (by simpa using hc6)]; rfl)⟩
      · skip
        refine L_skip rfl rfl ?_
        refine L_skip rfl rfl ?_
        refine L_skip rfl rfl ?_
        refine L_skip rfl rfl ?_
        refine L_skip rfl rfl ?_
        refine L_skip rfl rfl ?_
        refine L_y rfl (y_pick_f rfl rfl) rfl ?_
        refine L_y rfl (y_indexA rfl rfl Try.underlying62 sz_4 (by omega) (by omega) (show _ = 1 from rfl)) rfl ?_
        refine L_op rfl (op_store1 1 0 rfl rfl rfl sz_4 rfl (Nat.le_of_ble_eq_true rfl) ?_)
        refine L_nil ?_
        refine C_region ?_
        refine L_y rfl (y_add rfl rfl (show _ = (2 : Int) from rfl)) rfl ?_
        refine L_y rfl (y_move rfl) rfl ?_
        refine L_nil ?_
        refine In_round ?_
        refine C_seq ?_
        refine C_region ?_
        refine L_y rfl (y_lss rfl rfl) rfl ?_
        refine L_nil ?_
        refine C_seq ?_
        refine C_cond_f rfl ?_
        refine C_exit ?_
        refine C_seq ?_
        refine C_region ?_
        refine L_y rfl (y_assign rfl) rfl ?_
        refine L_nil ?_
        refine C_seq ?_
        refine C_block ?_
        refine C_seq ?_
        refine C_region ?_
        refine L_y rfl (y_indexA rfl rfl Try.underlying62 sz_4 (by omega) (by omega) (show _ = 0 from rfl)) rfl ?_
        refine L_y rfl (y_load rfl ag_4 (sees 1 0 rfl) rfl) rfl ?_
        refine L_y rfl (y_not rfl) rfl ?_
        refine L_y rfl (y_move rfl) rfl ?_
        refine L_skip rfl rfl ?_
        refine L_skip rfl rfl ?_
        refine L_skip rfl rfl ?_
        refine L_y rfl (y_pick_f rfl rfl) rfl ?_
        refine L_y rfl (y_assign rfl) rfl ?_
        refine L_nil ?_
        refine C_cond_f rfl ?_
        refine C_seq ?_
        refine C_region ?_
        refine L_y rfl (y_indexA rfl rfl Try.underlying62 sz_4 (by omega) (by omega) (show _ = 0 from rfl)) rfl ?_
        refine L_y rfl (y_load rfl ag_4 (sees 1 0 rfl) rfl) rfl ?_
        refine L_y rfl (y_move rfl) rfl ?_
        refine L_y rfl (y_indexA rfl rfl Try.underlying62 sz_4 (by omega) (by omega) (show _ = 1 from rfl)) rfl ?_
        refine L_y rfl (y_load rfl ag_4 (sees 1 0 rfl) rfl) rfl ?_
        refine L_y rfl (y_pick_t rfl rfl) rfl ?_
        refine L_y rfl (y_move rfl) rfl ?_
        refine L_skip rfl rfl ?_
        refine L_skip rfl rfl ?_
        refine L_skip rfl rfl ?_
        refine L_skip rfl rfl ?_
        refine L_skip rfl rfl ?_
        refine L_y rfl (y_pick_f rfl rfl) rfl ?_
        refine L_y rfl (y_assign rfl) rfl ?_
        refine L_nil ?_
        refine C_cond_f rfl ?_
        refine C_seq ?_
        refine C_region ?_
        refine L_y rfl (y_indexA rfl rfl Try.underlying62 sz_4 (by omega) (by omega) (show _ = 0 from rfl)) rfl ?_
        refine L_y rfl (y_load rfl ag_4 (sees 1 0 rfl) rfl) rfl ?_
        refine L_y rfl (y_not rfl) rfl ?_
        refine L_y rfl (y_assign rfl) rfl ?_
        refine L_nil ?_
        refine C_cond_f rfl ?_
        refine C_skip ?_
        refine C_seq ?_
        refine C_seq ?_
        refine C_region ?_
        refine L_y rfl (y_move rfl) rfl ?_
        refine L_y rfl (y_move rfl) rfl ?_
        refine L_y rfl (y_sub rfl rfl (show _ = (1 : Int) from rfl)) rfl ?_
        refine L_y rfl (y_nilCheck rfl) rfl ?_
        refine L_y rfl (y_fieldAddr rfl fl_110_0) rfl ?_
        refine L_y rfl (y_indexA rfl rfl Try.underlying108 sz_107 (by omega) (by omega) (show _ = 2 from rfl)) rfl ?_
        refine L_y rfl (y_assign rfl) rfl ?_
        refine L_nil ?_
        refine C_seq ?_
        refine C_regionH (m.seg 110 :: H) (by kernel_rfl) ?_
        refine H_y 0 rfl (by kernel_rfl) (by kernel_rfl) (by kernel_rfl) (((hsub (.cons_cons _ (.cons _ (.cons _ (.cons _ (.cons _ (.refl _))))))).trans (hsub_pick [4] rfl))) rfl (y_move rfl) rfl ?_
        refine H_y 1 rfl (by kernel_rfl) (by kernel_rfl) (by kernel_rfl) (((hsub (.cons_cons _ (.cons _ (.cons _ (.cons _ (.cons _ (.refl _))))))).trans (hsub_pick [4] rfl))) rfl (y_nilCheck rfl) rfl ?_
        refine H_y 2 rfl (by kernel_rfl) (by kernel_rfl) (by kernel_rfl) (((hsub (.cons_cons _ (.cons _ (.cons _ (.cons _ (.cons _ (.refl _))))))).trans (hsub_pick [4] rfl))) rfl (y_fieldAddr rfl fl_107_0) rfl ?_
        refine H_y 3 rfl (by kernel_rfl) (by kernel_rfl) (by kernel_rfl) (((hsub (.cons_cons _ (.cons _ (.cons _ (.cons _ (.cons _ (.refl _))))))).trans (hsub_pick [4] rfl))) rfl (y_load rfl ag_24 (sees 0 0 rfl) rfl) rfl ?_
        refine H_y 4 rfl (by kernel_rfl) (by kernel_rfl) (by kernel_rfl) (((hsub (.cons_cons _ (.cons _ (.cons _ (.cons _ (.cons _ (.refl _))))))).trans (hsub_pick [4] rfl))) rfl (y_move rfl) rfl ?_
        refine H_y 5 rfl (by kernel_rfl) (by kernel_rfl) (by kernel_rfl) (((hsub (.cons_cons _ (.cons _ (.cons _ (.cons _ (.cons _ (.refl _))))))).trans (hsub_pick [4] rfl))) rfl (y_move rfl) rfl ?_
        refine H_y 6 rfl (by kernel_rfl) (by kernel_rfl) (by kernel_rfl) (((hsub (.cons_cons _ (.cons _ (.cons _ (.cons _ (.cons _ (.refl _))))))).trans (hsub_pick [4] rfl))) rfl (y_indexA rfl rfl Try.underlying120 sz_32 (by omega) (by omega) (show _ = 0 from rfl)) rfl ?_
        refine H_one 7 rfl (by kernel_rfl) rfl (op_y (y_loadA rfl ag_32 sz_32 (sees 2 0 rfl) (by simp [bs_length, secOf_len, rS_len _ h.oks]) (by first | exact two_hi (rS_len _ h.oks) (rS_len _ h.oks) | exact two_lo (rS_len _ h.oks))) rfl ?_)
        refine ⟨((hsub (.cons_cons _ (.cons _ (.cons _ (.cons _ (.cons _ (.refl _))))))).trans (hsub_pick [4] rfl)), ?_⟩
        refine H_one 8 rfl (by kernel_rfl) rfl (op_call rfl rfl (fun a w => Try.call62 a w) rfl ?_)
        refine ((write_d h true n (A.rS false n) (rS_len _ h.oks) (by have := hQ true; omega)).sub (hsub_pick [0] rfl)).mono ?_
        rintro _ _ ⟨rfl, D4, h4, rfl⟩
        refine ⟨_, rfl, ?_⟩
        refine ⟨((hsub (.cons_cons _ (.cons _ (.cons _ (.cons _ (.cons _ (.refl _))))))).trans (hsub_pick [4] rfl)), ?_⟩
        refine H_y 9 rfl (by kernel_rfl) (by kernel_rfl) (by kernel_rfl) (((hsub (.cons_cons _ (.cons _ (.cons _ (.cons _ (.cons _ (.refl _))))))).trans (hsub_pick [4] rfl))) rfl (y_eqi rfl rfl) rfl ?_
        refine H_done (by kernel_rfl) ?_
        refine C_cond rfl (fun hc6 => ?_) (fun hc6 => ?_)
        · replace hc6 := of_decide_eq_true hc6
          refine C_region ?_
          refine L_y rfl (y_move rfl) rfl ?_
          refine L_y rfl (y_nilCheck rfl) rfl ?_
          refine L_y rfl (y_fieldAddr rfl fl_107_1) rfl ?_
          refine L_y rfl (y_load rfl ag_105 (sees 4 0 rfl) rfl) rfl ?_
          refine L_y rfl (y_move rfl) rfl ?_
          refine L_op rfl (op_delete 4 2 rfl rfl rfl Try.underlying105 Try.underlying3 rfl rfl ?_)
          refine L_nil ?_
          refine C_seq ?_
          refine C_region ?_
          refine L_y rfl (y_assign rfl) rfl ?_
          refine L_y rfl (y_assign rfl) rfl ?_
          refine L_nil ?_
          refine C_ret ?_
          refine B_ret (rv_tmp rfl (rv_tmp rfl rv_nil)) ((hsub (.cons_cons _ (.cons_cons _ (.cons _ (.cons _ (.cons _ (.refl _))))))).trans (hsub_pick [4, 0] rfl)) ?_
          have e0 : healTo m A p n = some true := by simp_all [healTo, Go.Sl.hg0, Go.Sl.hg1]
          have e1 : healM m A p n = (if A.wE true n = 0 then { m with k1 := kDel m.k1 n } else m) := by simp [healM, e0]
          exact ⟨by simp_all [healR, Go.Sl.hg0, Go.Sl.hg1] <;> rfl, D4, h4.to (by simp [healA, e0]), by rw [e1]; first | (rw [if_pos (by simpa using hc6)]; rfl) | (rw [if_neg (by simpa using hc6)]; rfl)⟩
        · replace hc6 := of_decide_eq_false hc6
          refine C_skip ?_
          refine C_seq ?_
          refine C_region ?_
          refine L_y rfl (y_assign rfl) rfl ?_
          refine L_y rfl (y_assign rfl) rfl ?_
          refine L_nil ?_
          refine C_ret ?_
          refine B_ret (rv_tmp rfl (rv_tmp rfl rv_nil)) ((hsub (.cons_cons _ (.cons_cons _ (.cons _ (.cons _ (.cons _ (.refl _))))))).trans (hsub_pick [4, 0] rfl)) ?_
          have e0 : healTo m A p n = some true := by simp_all [healTo, Go.Sl.hg0, Go.Sl.hg1]
          have e1 : healM m A p n = (if A.wE true n = 0 then { m with k1 := kDel m.k1 n } else m) := by simp [healM, e0]
          exact ⟨by simp_all [healR, Go.Sl.hg0, Go.Sl.hg1] <;> rfl, D4, h4.to (by simp [healA, e0]), by rw [e1]; first | (rw [if_pos (by simpa using hc6)]; rfl) | (rw [if_neg (by simpa using hc6)]; rfl)⟩
    · skip
      refine L_y rfl (y_pick_t rfl rfl) rfl ?_
      refine L_y rfl (y_indexA rfl rfl Try.underlying62 sz_4 (by omega) (by omega) (show _ = 0 from rfl)) rfl ?_
      refine L_op rfl (op_store1 1 0 rfl rfl rfl sz_4 rfl (Nat.le_of_ble_eq_true rfl) ?_)
      refine L_nil ?_
      refine C_region ?_
      refine L_y rfl (y_add rfl rfl (show _ = (1 : Int) from rfl)) rfl ?_
      refine L_y rfl (y_move rfl) rfl ?_
      refine L_nil ?_
      refine In_round ?_
      refine C_seq ?_
      refine C_region ?_
      refine L_y rfl (y_lss rfl rfl) rfl ?_
      refine L_nil ?_
      refine C_seq ?_
      refine C_cond_t rfl ?_
      refine C_skip ?_
      refine C_seq ?_
      refine C_block ?_
      refine C_seq ?_
      refine C_region ?_
      refine L_y rfl (y_move rfl) rfl ?_
      refine L_y rfl (y_assign rfl) rfl ?_
      refine L_nil ?_
      refine C_seq ?_
      refine C_region ?_
      refine L_y rfl (y_move rfl) rfl ?_
      refine L_y rfl (y_move rfl) rfl ?_
      refine L_y rfl (y_move rfl) rfl ?_
      refine L_y rfl (y_nilCheck rfl) rfl ?_
      refine L_y rfl (y_fieldAddr rfl fl_110_0) rfl ?_
      refine L_y rfl (y_indexA rfl rfl Try.underlying108 sz_107 (by omega) (by omega) (show _ = 2 from rfl)) rfl ?_
      refine L_y rfl (y_fieldAddr rfl fl_107_0) rfl ?_
      refine L_y rfl (y_load rfl ag_24 (sees 4 0 rfl) rfl) rfl ?_
      refine L_y rfl (y_move rfl) rfl ?_
      refine L_op rfl (op_call rfl rfl (fun a w => Try.call60 a w) rfl ?_)
      refine ((read_d h true (n)).sub (hsub_pick [0] rfl)).mono ?_
      rintro _ _ ⟨rfl, rfl⟩
      refine ⟨_, rfl, ?_⟩
      refine L_y rfl (y_move rfl) rfl ?_
      refine L_y rfl (y_extract rfl rfl) rfl ?_
      refine L_y rfl (y_extract rfl rfl) rfl ?_
      refine L_y rfl (y_indexA rfl rfl Try.underlying120 sz_32 (by omega) (by omega) (show _ = 128 from rfl)) rfl ?_
      skip
      refine L_op rfl (op_store (vs := bs (A.rS true n)) 2 0 rfl rfl rfl sz_32 (by rw [bs_length, rS_len _ h.oks]) rfl (bs_one _) (by simp [bs_length, secOf_len, rS_len _ h.oks]) ?_)
      rw [spl_hi (rS_len _ h.oks) (by rw [secOf_len, rS_len _ h.oks])]
      refine L_nil ?_
      refine C_region ?_
      refine L_y rfl (y_move rfl) rfl ?_
      refine L_y rfl (y_move rfl) rfl ?_
      refine L_y rfl (y_move rfl) rfl ?_
      refine L_y rfl (y_nilCheck rfl) rfl ?_
      refine L_y rfl (y_fieldAddr rfl fl_110_0) rfl ?_
      refine L_y rfl (y_indexA rfl rfl Try.underlying108 sz_107 (by omega) (by omega) (show _ = 2 from rfl)) rfl ?_
      refine L_y rfl (y_fieldAddr rfl fl_107_1) rfl ?_
      refine L_y rfl (y_load rfl ag_105 (sees 4 0 rfl) rfl) rfl ?_
      refine L_y rfl (y_move rfl) rfl ?_
      refine L_y rfl (y_lookup rfl rfl Try.underlying105 Try.underlying3 zt_4 (sees 4 2 rfl)) rfl ?_
      refine L_y rfl (y_not rfl) rfl ?_
      refine L_y rfl (y_move rfl) rfl ?_
      refine L_case 47 rfl (fun hg11_12 => ?_) (fun hg11_12 => ?_)
      · skip
        refine L_y rfl (y_move rfl) rfl ?_
        refine L_y rfl (y_move rfl) rfl ?_
        refine L_y rfl (y_move rfl) rfl ?_
        refine L_y rfl (y_indexA rfl rfl Try.underlying120 sz_32 (by omega) (by omega) (show _ = 128 from rfl)) rfl ?_
        refine L_y rfl (y_loadA rfl ag_32 sz_32 (sees 2 0 rfl) (by simp [bs_length, secOf_len, rS_len _ h.oks]) (by first | exact two_hi (rS_len _ h.oks) (rS_len _ h.oks) | exact two_lo (rS_len _ h.oks))) rfl ?_
        refine L_op rfl (op_call rfl rfl (fun a w => Try.call61 a w) rfl ?_)
        refine FnS.mono (right_m (sees 4 0 rfl) (hG.sub (hsub (.cons _ (.cons _ (.cons _ (.cons _ (.cons _ (.refl _)))))))) n _ (rS_len _ h.oks)) ?_
        rintro _ _ ⟨rfl, e⟩
        obtain rfl := e.symm
        refine ⟨_, rfl, ?_⟩
        refine L_case 53 rfl (fun hg11_18 => ?_) (fun hg11_18 => ?_)
        · skip
          refine L_y rfl (y_pick_t rfl rfl) rfl ?_
          refine L_y rfl (y_indexA rfl rfl Try.underlying62 sz_4 (by omega) (by omega) (show _ = 1 from rfl)) rfl ?_
          refine L_op rfl (op_store1 1 0 rfl rfl rfl sz_4 rfl (Nat.le_of_ble_eq_true rfl) ?_)
          refine L_nil ?_
          refine C_region ?_
          refine L_y rfl (y_add rfl rfl (show _ = (2 : Int) from rfl)) rfl ?_
          refine L_y rfl (y_move rfl) rfl ?_
          refine L_nil ?_
          refine In_round ?_
          refine C_seq ?_
          refine C_region ?_
          refine L_y rfl (y_lss rfl rfl) rfl ?_
          refine L_nil ?_
          refine C_seq ?_
          refine C_cond_f rfl ?_
          refine C_exit ?_
          refine C_seq ?_
          refine C_region ?_
          refine L_y rfl (y_assign rfl) rfl ?_
          refine L_nil ?_
          refine C_seq ?_
          refine C_block ?_
          refine C_seq ?_
          refine C_region ?_
          refine L_y rfl (y_indexA rfl rfl Try.underlying62 sz_4 (by omega) (by omega) (show _ = 0 from rfl)) rfl ?_
          refine L_y rfl (y_load rfl ag_4 (sees 1 0 rfl) rfl) rfl ?_
          refine L_y rfl (y_not rfl) rfl ?_
          refine L_y rfl (y_move rfl) rfl ?_
          refine L_y rfl (y_indexA rfl rfl Try.underlying62 sz_4 (by omega) (by omega) (show _ = 1 from rfl)) rfl ?_
          refine L_y rfl (y_load rfl ag_4 (sees 1 0 rfl) rfl) rfl ?_
          refine L_y rfl (y_not rfl) rfl ?_
          refine L_y rfl (y_pick_t rfl rfl) rfl ?_
          refine L_y rfl (y_assign rfl) rfl ?_
          refine L_nil ?_
          refine C_cond_f rfl ?_
          refine C_seq ?_
          refine C_region ?_
          refine L_y rfl (y_indexA rfl rfl Try.underlying62 sz_4 (by omega) (by omega) (show _ = 0 from rfl)) rfl ?_
          refine L_y rfl (y_load rfl ag_4 (sees 1 0 rfl) rfl) rfl ?_
          refine L_y rfl (y_move rfl) rfl ?_
          refine L_skip rfl rfl ?_
          refine L_skip rfl rfl ?_
          refine L_y rfl (y_pick_f rfl rfl) rfl ?_
          refine L_y rfl (y_move rfl) rfl ?_
          refine L_skip rfl rfl ?_
          refine L_skip rfl rfl ?_
          refine L_skip rfl rfl ?_
          refine L_skip rfl rfl ?_
          refine L_skip rfl rfl ?_
          refine L_y rfl (y_pick_f rfl rfl) rfl ?_
          refine L_y rfl (y_assign rfl) rfl ?_
          refine L_nil ?_
          refine C_cond_f rfl ?_
          refine C_seq ?_
          refine C_region ?_
          refine L_y rfl (y_indexA rfl rfl Try.underlying62 sz_4 (by omega) (by omega) (show _ = 0 from rfl)) rfl ?_
          refine L_y rfl (y_load rfl ag_4 (sees 1 0 rfl) rfl) rfl ?_
          refine L_y rfl (y_not rfl) rfl ?_
          refine L_y rfl (y_assign rfl) rfl ?_
          refine L_nil ?_
          refine C_cond_t rfl ?_
          refine C_region ?_
          refine L_y rfl (y_assign rfl) rfl ?_
          refine L_nil ?_
          refine C_seq ?_
          refine C_seq ?_
          refine C_region ?_
          refine L_y rfl (y_move rfl) rfl ?_
          refine L_y rfl (y_move rfl) rfl ?_
          refine L_y rfl (y_sub rfl rfl (show _ = (0 : Int) from rfl)) rfl ?_
          refine L_y rfl (y_nilCheck rfl) rfl ?_
          refine L_y rfl (y_fieldAddr rfl fl_110_0) rfl ?_
          refine L_y rfl (y_indexA rfl rfl Try.underlying108 sz_107 (by omega) (by omega) (show _ = 0 from rfl)) rfl ?_
          refine L_y rfl (y_assign rfl) rfl ?_
          refine L_nil ?_
          refine C_seq ?_
          refine C_regionH (m.seg 110 :: H) (by kernel_rfl) ?_
          refine H_y 0 rfl (by kernel_rfl) (by kernel_rfl) (by kernel_rfl) (((hsub (.cons_cons _ (.cons _ (.cons _ (.cons _ (.cons _ (.refl _))))))).trans (hsub_pick [4] rfl))) rfl (y_move rfl) rfl ?_
          refine H_y 1 rfl (by kernel_rfl) (by kernel_rfl) (by kernel_rfl) (((hsub (.cons_cons _ (.cons _ (.cons _ (.cons _ (.cons _ (.refl _))))))).trans (hsub_pick [4] rfl))) rfl (y_nilCheck rfl) rfl ?_
          refine H_y 2 rfl (by kernel_rfl) (by kernel_rfl) (by kernel_rfl) (((hsub (.cons_cons _ (.cons _ (.cons _ (.cons _ (.cons _ (.refl _))))))).trans (hsub_pick [4] rfl))) rfl (y_fieldAddr rfl fl_107_0) rfl ?_
          refine H_y 3 rfl (by kernel_rfl) (by kernel_rfl) (by kernel_rfl) (((hsub (.cons_cons _ (.cons _ (.cons _ (.cons _ (.cons _ (.refl _))))))).trans (hsub_pick [4] rfl))) rfl (y_load rfl ag_24 (sees 0 0 rfl) rfl) rfl ?_
          refine H_y 4 rfl (by kernel_rfl) (by kernel_rfl) (by kernel_rfl) (((hsub (.cons_cons _ (.cons _ (.cons _ (.cons _ (.cons _ (.refl _))))))).trans (hsub_pick [4] rfl))) rfl (y_move rfl) rfl ?_
          refine H_y 5 rfl (by kernel_rfl) (by kernel_rfl) (by kernel_rfl) (((hsub (.cons_cons _ (.cons _ (.cons _ (.cons _ (.cons _ (.refl _))))))).trans (hsub_pick [4] rfl))) rfl (y_move rfl) rfl ?_
          refine H_y 6 rfl (by kernel_rfl) (by kernel_rfl) (by kernel_rfl) (((hsub (.cons_cons _ (.cons _ (.cons _ (.cons _ (.cons _ (.refl _))))))).trans (hsub_pick [4] rfl))) rfl (y_indexA rfl rfl Try.underlying120 sz_32 (by omega) (by omega) (show _ = 128 from rfl)) rfl ?_
          refine H_one 7 rfl (by kernel_rfl) rfl (op_y (y_loadA rfl ag_32 sz_32 (sees 2 0 rfl) (by simp [bs_length, secOf_len, rS_len _ h.oks]) (by first | exact two_hi (rS_len _ h.oks) (rS_len _ h.oks) | exact two_lo (rS_len _ h.oks))) rfl ?_)
          refine ⟨((hsub (.cons_cons _ (.cons _ (.cons _ (.cons _ (.cons _ (.refl _))))))).trans (hsub_pick [4] rfl)), ?_⟩
          refine H_one 8 rfl (by kernel_rfl) rfl (op_call rfl rfl (fun a w => Try.call62 a w) rfl ?_)
          refine ((write_d h false n (A.rS true n) (rS_len _ h.oks) (by have := hQ false; omega)).sub (hsub_pick [0] rfl)).mono ?_
          rintro _ _ ⟨rfl, D5, h5, rfl⟩
          refine ⟨_, rfl, ?_⟩
          refine ⟨((hsub (.cons_cons _ (.cons _ (.cons _ (.cons _ (.cons _ (.refl _))))))).trans (hsub_pick [4] rfl)), ?_⟩
          refine H_y 9 rfl (by kernel_rfl) (by kernel_rfl) (by kernel_rfl) (((hsub (.cons_cons _ (.cons _ (.cons _ (.cons _ (.cons _ (.refl _))))))).trans (hsub_pick [4] rfl))) rfl (y_eqi rfl rfl) rfl ?_
          refine H_done (by kernel_rfl) ?_
          refine C_cond rfl (fun hc6 => ?_) (fun hc6 => ?_)
          · replace hc6 := of_decide_eq_true hc6
            refine C_region ?_
            refine L_y rfl (y_move rfl) rfl ?_
            refine L_y rfl (y_nilCheck rfl) rfl ?_
            refine L_y rfl (y_fieldAddr rfl fl_107_1) rfl ?_
            refine L_y rfl (y_load rfl ag_105 (sees 4 0 rfl) rfl) rfl ?_
            refine L_y rfl (y_move rfl) rfl ?_
            refine L_op rfl (op_delete 4 1 rfl rfl rfl Try.underlying105 Try.underlying3 rfl rfl ?_)
            refine L_nil ?_
            refine C_seq ?_
            refine C_region ?_
            refine L_y rfl (y_assign rfl) rfl ?_
            refine L_y rfl (y_assign rfl) rfl ?_
            refine L_nil ?_
            refine C_ret ?_
            refine B_ret (rv_tmp rfl (rv_tmp rfl rv_nil)) ((hsub (.cons_cons _ (.cons_cons _ (.cons _ (.cons _ (.cons _ (.refl _))))))).trans (hsub_pick [4, 0] rfl)) ?_
            have e0 : healTo m A p n = some false := by simp_all [healTo, Go.Sl.hg0, Go.Sl.hg1]
            have e1 : healM m A p n = (if A.wE false n = 0 then { m with k0 := kDel m.k0 n } else m) := by simp [healM, e0]
            exact ⟨by simp_all [healR, Go.Sl.hg0, Go.Sl.hg1] <;> rfl, D5, h5.to (by simp [healA, e0]), by rw [e1]; first | (rw [if_pos (by simpa using hc6)]; rfl) | (rw [if_neg (by simpa using hc6)]; rfl)⟩
          · replace hc6 := of_decide_eq_false hc6
            refine C_skip ?_
            refine C_seq ?_
            refine C_region ?_
            refine L_y rfl (y_assign rfl) rfl ?_
            refine L_y rfl (y_assign rfl) rfl ?_
            refine L_nil ?_
            refine C_ret ?_
            refine B_ret (rv_tmp rfl (rv_tmp rfl rv_nil)) ((hsub (.cons_cons _ (.cons_cons _ (.cons _ (.cons _ (.cons _ (.refl _))))))).trans (hsub_pick [4, 0] rfl)) ?_
            have e0 : healTo m A p n = some false := by simp_all [healTo, Go.Sl.hg0, Go.Sl.hg1]
            have e1 : healM m A p n = (if A.wE false n = 0 then { m with k0 := kDel m.k0 n } else m) := by simp [healM, e0]
            exact ⟨by simp_all [healR, Go.Sl.hg0, Go.Sl.hg1] <;> rfl, D5, h5.to (by simp [healA, e0]), by rw [e1]; first | (rw [if_pos (by simpa using hc6)]; rfl) | (rw [if_neg (by simpa using hc6)]; rfl)⟩
        · skip
          refine L_y rfl (y_pick_t rfl rfl) rfl ?_
          refine L_y rfl (y_indexA rfl rfl Try.underlying62 sz_4 (by omega) (by omega) (show _ = 1 from rfl)) rfl ?_
          refine L_op rfl (op_store1 1 0 rfl rfl rfl sz_4 rfl (Nat.le_of_ble_eq_true rfl) ?_)
          refine L_nil ?_
          refine C_region ?_
          refine L_y rfl (y_add rfl rfl (show _ = (2 : Int) from rfl)) rfl ?_
          refine L_y rfl (y_move rfl) rfl ?_
          refine L_nil ?_
          refine In_round ?_
          refine C_seq ?_
          refine C_region ?_
          refine L_y rfl (y_lss rfl rfl) rfl ?_
          refine L_nil ?_
          refine C_seq ?_
          refine C_cond_f rfl ?_
          refine C_exit ?_
          refine C_seq ?_
          refine C_region ?_
          refine L_y rfl (y_assign rfl) rfl ?_
          refine L_nil ?_
          refine C_seq ?_
          refine C_block ?_
          refine C_seq ?_
          refine C_region ?_
          refine L_y rfl (y_indexA rfl rfl Try.underlying62 sz_4 (by omega) (by omega) (show _ = 0 from rfl)) rfl ?_
          refine L_y rfl (y_load rfl ag_4 (sees 1 0 rfl) rfl) rfl ?_
          refine L_y rfl (y_not rfl) rfl ?_
          refine L_y rfl (y_move rfl) rfl ?_
          refine L_y rfl (y_indexA rfl rfl Try.underlying62 sz_4 (by omega) (by omega) (show _ = 1 from rfl)) rfl ?_
          refine L_y rfl (y_load rfl ag_4 (sees 1 0 rfl) rfl) rfl ?_
          refine L_y rfl (y_not rfl) rfl ?_
          refine L_y rfl (y_pick_t rfl rfl) rfl ?_
          refine L_y rfl (y_assign rfl) rfl ?_
          refine L_nil ?_
          refine C_cond_t rfl ?_
          refine C_seq ?_
          refine C_region ?_
          refine L_y rfl (y_assign rfl) rfl ?_
          refine L_y rfl (y_assign rfl) rfl ?_
          refine L_nil ?_
          refine C_ret ?_
          refine B_ret (rv_tmp rfl (rv_tmp rfl rv_nil)) ((hsub (.cons_cons _ (.cons_cons _ (.cons _ (.cons _ (.cons _ (.refl _))))))).trans (hsub_pick [4, 0] rfl)) ?_
          exact ⟨by simp_all [healR, healTo, Go.Sl.hg0, Go.Sl.hg1] <;> rfl, D, h.to (by simp_all [healA, healTo, Go.Sl.hg0, Go.Sl.hg1]), by rw [show healM m A p n = m from by simp_all [healM, healTo, Go.Sl.hg0, Go.Sl.hg1]]; first | done | rfl⟩
      · skip
        refine L_skip rfl rfl ?_
        refine L_skip rfl rfl ?_
        refine L_skip rfl rfl ?_
        refine L_skip rfl rfl ?_
        refine L_skip rfl rfl ?_
        refine L_skip rfl rfl ?_
        refine L_y rfl (y_pick_f rfl rfl) rfl ?_
        refine L_y rfl (y_indexA rfl rfl Try.underlying62 sz_4 (by omega) (by omega) (show _ = 1 from rfl)) rfl ?_
        refine L_op rfl (op_store1 1 0 rfl rfl rfl sz_4 rfl (Nat.le_of_ble_eq_true rfl) ?_)
        refine L_nil ?_
        refine C_region ?_
        refine L_y rfl (y_add rfl rfl (show _ = (2 : Int) from rfl)) rfl ?_
        refine L_y rfl (y_move rfl) rfl ?_
        refine L_nil ?_
        refine In_round ?_
        refine C_seq ?_
        refine C_region ?_
        refine L_y rfl (y_lss rfl rfl) rfl ?_
        refine L_nil ?_
        refine C_seq ?_
        refine C_cond_f rfl ?_
        refine C_exit ?_
        refine C_seq ?_
        refine C_region ?_
        refine L_y rfl (y_assign rfl) rfl ?_
        refine L_nil ?_
        refine C_seq ?_
        refine C_block ?_
        refine C_seq ?_
        refine C_region ?_
        refine L_y rfl (y_indexA rfl rfl Try.underlying62 sz_4 (by omega) (by omega) (show _ = 0 from rfl)) rfl ?_
        refine L_y rfl (y_load rfl ag_4 (sees 1 0 rfl) rfl) rfl ?_
        refine L_y rfl (y_not rfl) rfl ?_
        refine L_y rfl (y_move rfl) rfl ?_
        refine L_y rfl (y_indexA rfl rfl Try.underlying62 sz_4 (by omega) (by omega) (show _ = 1 from rfl)) rfl ?_
        refine L_y rfl (y_load rfl ag_4 (sees 1 0 rfl) rfl) rfl ?_
        refine L_y rfl (y_not rfl) rfl ?_
        refine L_y rfl (y_pick_t rfl rfl) rfl ?_
        refine L_y rfl (y_assign rfl) rfl ?_
        refine L_nil ?_
        refine C_cond_t rfl ?_
        refine C_seq ?_
        refine C_region ?_
        refine L_y rfl (y_assign rfl) rfl ?_
        refine L_y rfl (y_assign rfl) rfl ?_
        refine L_nil ?_
        refine C_ret ?_
        refine B_ret (rv_tmp rfl (rv_tmp rfl rv_nil)) ((hsub (.cons_cons _ (.cons_cons _ (.cons _ (.cons _ (.cons _ (.refl _))))))).trans (hsub_pick [4, 0] rfl)) ?_
        exact ⟨by simp_all [healR, healTo, Go.Sl.hg0, Go.Sl.hg1] <;> rfl, D, h.to (by simp_all [healA, healTo, Go.Sl.hg0, Go.Sl.hg1]), by rw [show healM m A p n = m from by simp_all [healM, healTo, Go.Sl.hg0, Go.Sl.hg1]]; first | done | rfl⟩
  · skip
    refine L_skip rfl rfl ?_
    refine L_skip rfl rfl ?_
    refine L_skip rfl rfl ?_
    refine L_skip rfl rfl ?_
    refine L_skip rfl rfl ?_
    refine L_skip rfl rfl ?_
    refine L_y rfl (y_pick_f rfl rfl) rfl ?_
    refine L_y rfl (y_indexA rfl rfl Try.underlying62 sz_4 (by omega) (by omega) (show _ = 0 from rfl)) rfl ?_
    refine L_op rfl (op_store1 1 0 rfl rfl rfl sz_4 rfl (Nat.le_of_ble_eq_true rfl) ?_)
    refine L_nil ?_
    refine C_region ?_
    refine L_y rfl (y_add rfl rfl (show _ = (1 : Int) from rfl)) rfl ?_
    refine L_y rfl (y_move rfl) rfl ?_
    refine L_nil ?_
    refine In_round ?_
    refine C_seq ?_
    refine C_region ?_
    refine L_y rfl (y_lss rfl rfl) rfl ?_
    refine L_nil ?_
    refine C_seq ?_
    refine C_cond_t rfl ?_
    refine C_skip ?_
    refine C_seq ?_
    refine C_block ?_
    refine C_seq ?_
    refine C_region ?_
    refine L_y rfl (y_move rfl) rfl ?_
    refine L_y rfl (y_assign rfl) rfl ?_
    refine L_nil ?_
    refine C_seq ?_
    refine C_region ?_
    refine L_y rfl (y_move rfl) rfl ?_
    refine L_y rfl (y_move rfl) rfl ?_
    refine L_y rfl (y_move rfl) rfl ?_
    refine L_y rfl (y_nilCheck rfl) rfl ?_
    refine L_y rfl (y_fieldAddr rfl fl_110_0) rfl ?_
    refine L_y rfl (y_indexA rfl rfl Try.underlying108 sz_107 (by omega) (by omega) (show _ = 2 from rfl)) rfl ?_
    refine L_y rfl (y_fieldAddr rfl fl_107_0) rfl ?_
    refine L_y rfl (y_load rfl ag_24 (sees 4 0 rfl) rfl) rfl ?_
    refine L_y rfl (y_move rfl) rfl ?_
    refine L_op rfl (op_call rfl rfl (fun a w => Try.call60 a w) rfl ?_)
    refine ((read_d h true (n)).sub (hsub_pick [0] rfl)).mono ?_
    rintro _ _ ⟨rfl, rfl⟩
    refine ⟨_, rfl, ?_⟩
    refine L_y rfl (y_move rfl) rfl ?_
    refine L_y rfl (y_extract rfl rfl) rfl ?_
    refine L_y rfl (y_extract rfl rfl) rfl ?_
    refine L_y rfl (y_indexA rfl rfl Try.underlying120 sz_32 (by omega) (by omega) (show _ = 128 from rfl)) rfl ?_
    skip
    refine L_op rfl (op_store (vs := bs (A.rS true n)) 2 0 rfl rfl rfl sz_32 (by rw [bs_length, rS_len _ h.oks]) rfl (bs_one _) (by simp [bs_length, secOf_len, rS_len _ h.oks]) ?_)
    rw [spl_hi (rS_len _ h.oks) (by rw [secOf_len, rS_len _ h.oks])]
    refine L_nil ?_
    refine C_region ?_
    refine L_y rfl (y_move rfl) rfl ?_
    refine L_y rfl (y_move rfl) rfl ?_
    refine L_y rfl (y_move rfl) rfl ?_
    refine L_y rfl (y_nilCheck rfl) rfl ?_
    refine L_y rfl (y_fieldAddr rfl fl_110_0) rfl ?_
    refine L_y rfl (y_indexA rfl rfl Try.underlying108 sz_107 (by omega) (by omega) (show _ = 2 from rfl)) rfl ?_
    refine L_y rfl (y_fieldAddr rfl fl_107_1) rfl ?_
    refine L_y rfl (y_load rfl ag_105 (sees 4 0 rfl) rfl) rfl ?_
    refine L_y rfl (y_move rfl) rfl ?_
    refine L_y rfl (y_lookup rfl rfl Try.underlying105 Try.underlying3 zt_4 (sees 4 2 rfl)) rfl ?_
    refine L_y rfl (y_not rfl) rfl ?_
    refine L_y rfl (y_move rfl) rfl ?_
    refine L_case 47 rfl (fun hg11_12 => ?_) (fun hg11_12 => ?_)
    · skip
      refine L_y rfl (y_move rfl) rfl ?_
      refine L_y rfl (y_move rfl) rfl ?_
      refine L_y rfl (y_move rfl) rfl ?_
      refine L_y rfl (y_indexA rfl rfl Try.underlying120 sz_32 (by omega) (by omega) (show _ = 128 from rfl)) rfl ?_
      refine L_y rfl (y_loadA rfl ag_32 sz_32 (sees 2 0 rfl) (by simp [bs_length, secOf_len, rS_len _ h.oks]) (by first | exact two_hi (rS_len _ h.oks) (rS_len _ h.oks) | exact two_lo (rS_len _ h.oks))) rfl ?_
      refine L_op rfl (op_call rfl rfl (fun a w => Try.call61 a w) rfl ?_)
      refine FnS.mono (right_m (sees 4 0 rfl) (hG.sub (hsub (.cons _ (.cons _ (.cons _ (.cons _ (.cons _ (.refl _)))))))) n _ (rS_len _ h.oks)) ?_
      rintro _ _ ⟨rfl, e⟩
      obtain rfl := e.symm
      refine ⟨_, rfl, ?_⟩
      refine L_case 53 rfl (fun hg11_18 => ?_) (fun hg11_18 => ?_)
      · skip
        refine L_y rfl (y_pick_t rfl rfl) rfl ?_
        refine L_y rfl (y_indexA rfl rfl Try.underlying62 sz_4 (by omega) (by omega) (show _ = 1 from rfl)) rfl ?_
        refine L_op rfl (op_store1 1 0 rfl rfl rfl sz_4 rfl (Nat.le_of_ble_eq_true rfl) ?_)
        refine L_nil ?_
        refine C_region ?_
        refine L_y rfl (y_add rfl rfl (show _ = (2 : Int) from rfl)) rfl ?_
        refine L_y rfl (y_move rfl) rfl ?_
        refine L_nil ?_
        refine In_round ?_
        refine C_seq ?_
        refine C_region ?_
        refine L_y rfl (y_lss rfl rfl) rfl ?_
        refine L_nil ?_
        refine C_seq ?_
        refine C_cond_f rfl ?_
        refine C_exit ?_
        refine C_seq ?_
        refine C_region ?_
        refine L_y rfl (y_assign rfl) rfl ?_
        refine L_nil ?_
        refine C_seq ?_
        refine C_block ?_
        refine C_seq ?_
        refine C_region ?_
        refine L_y rfl (y_indexA rfl rfl Try.underlying62 sz_4 (by omega) (by omega) (show _ = 0 from rfl)) rfl ?_
        refine L_y rfl (y_load rfl ag_4 (sees 1 0 rfl) rfl) rfl ?_
        refine L_y rfl (y_not rfl) rfl ?_
        refine L_y rfl (y_move rfl) rfl ?_
        refine L_y rfl (y_indexA rfl rfl Try.underlying62 sz_4 (by omega) (by omega) (show _ = 1 from rfl)) rfl ?_
        refine L_y rfl (y_load rfl ag_4 (sees 1 0 rfl) rfl) rfl ?_
        refine L_y rfl (y_not rfl) rfl ?_
        refine L_y rfl (y_pick_t rfl rfl) rfl ?_
        refine L_y rfl (y_assign rfl) rfl ?_
        refine L_nil ?_
        refine C_cond_f rfl ?_
        refine C_seq ?_
        refine C_region ?_
        refine L_y rfl (y_indexA rfl rfl Try.underlying62 sz_4 (by omega) (by omega) (show _ = 0 from rfl)) rfl ?_
        refine L_y rfl (y_load rfl ag_4 (sees 1 0 rfl) rfl) rfl ?_
        refine L_y rfl (y_move rfl) rfl ?_
        refine L_skip rfl rfl ?_
        refine L_skip rfl rfl ?_
        refine L_y rfl (y_pick_f rfl rfl) rfl ?_
        refine L_y rfl (y_move rfl) rfl ?_
        refine L_skip rfl rfl ?_
        refine L_skip rfl rfl ?_
        refine L_skip rfl rfl ?_
        refine L_skip rfl rfl ?_
        refine L_skip rfl rfl ?_
        refine L_y rfl (y_pick_f rfl rfl) rfl ?_
        refine L_y rfl (y_assign rfl) rfl ?_
        refine L_nil ?_
        refine C_cond_f rfl ?_
        refine C_seq ?_
        refine C_region ?_
        refine L_y rfl (y_indexA rfl rfl Try.underlying62 sz_4 (by omega) (by omega) (show _ = 0 from rfl)) rfl ?_
        refine L_y rfl (y_load rfl ag_4 (sees 1 0 rfl) rfl) rfl ?_
        refine L_y rfl (y_not rfl) rfl ?_
        refine L_y rfl (y_assign rfl) rfl ?_
        refine L_nil ?_
        refine C_cond_t rfl ?_
        refine C_region ?_
        refine L_y rfl (y_assign rfl) rfl ?_
        refine L_nil ?_
        refine C_seq ?_
        refine C_seq ?_
        refine C_region ?_
        refine L_y rfl (y_move rfl) rfl ?_
        refine L_y rfl (y_move rfl) rfl ?_
        refine L_y rfl (y_sub rfl rfl (show _ = (0 : Int) from rfl)) rfl ?_
        refine L_y rfl (y_nilCheck rfl) rfl ?_
        refine L_y rfl (y_fieldAddr rfl fl_110_0) rfl ?_
        refine L_y rfl (y_indexA rfl rfl Try.underlying108 sz_107 (by omega) (by omega) (show _ = 0 from rfl)) rfl ?_
        refine L_y rfl (y_assign rfl) rfl ?_
        refine L_nil ?_
        refine C_seq ?_
        refine C_regionH (m.seg 110 :: H) (by kernel_rfl) ?_
        refine H_y 0 rfl (by kernel_rfl) (by kernel_rfl) (by kernel_rfl) (((hsub (.cons_cons _ (.cons _ (.cons _ (.cons _ (.cons _ (.refl _))))))).trans (hsub_pick [4] rfl))) rfl (y_move rfl) rfl ?_
        refine H_y 1 rfl (by kernel_rfl) (by kernel_rfl) (by kernel_rfl) (((hsub (.cons_cons _ (.cons _ (.cons _ (.cons _ (.cons _ (.refl _))))))).trans (hsub_pick [4] rfl))) rfl (y_nilCheck rfl) rfl ?_
        refine H_y 2 rfl (by kernel_rfl) (by kernel_rfl) (by kernel_rfl) (((hsub (.cons_cons _ (.cons _ (.cons _ (.cons _ (.cons _ (.refl _))))))).trans (hsub_pick [4] rfl))) rfl (y_fieldAddr rfl fl_107_0) rfl ?_
        refine H_y 3 rfl (by kernel_rfl) (by kernel_rfl) (by kernel_rfl) (((hsub (.cons_cons _ (.cons _ (.cons _ (.cons _ (.cons _ (.refl _))))))).trans (hsub_pick [4] rfl))) rfl (y_load rfl ag_24 (sees 0 0 rfl) rfl) rfl ?_
        refine H_y 4 rfl (by kernel_rfl) (by kernel_rfl) (by kernel_rfl) (((hsub (.cons_cons _ (.cons _ (.cons _ (.cons _ (.cons _ (.refl _))))))).trans (hsub_pick [4] rfl))) rfl (y_move rfl) rfl ?_
        refine H_y 5 rfl (by kernel_rfl) (by kernel_rfl) (by kernel_rfl) (((hsub (.cons_cons _ (.cons _ (.cons _ (.cons _ (.cons _ (.refl _))))))).trans (hsub_pick [4] rfl))) rfl (y_move rfl) rfl ?_
        refine H_y 6 rfl (by kernel_rfl) (by kernel_rfl) (by kernel_rfl) (((hsub (.cons_cons _ (.cons _ (.cons _ (.cons _ (.cons _ (.refl _))))))).trans (hsub_pick [4] rfl))) rfl (y_indexA rfl rfl Try.underlying120 sz_32 (by omega) (by omega) (show _ = 128 from rfl)) rfl ?_
        refine H_one 7 rfl (by kernel_rfl) rfl (op_y (y_loadA rfl ag_32 sz_32 (sees 2 0 rfl) (by simp [bs_length, secOf_len, rS_len _ h.oks]) (by first | exact two_hi (rS_len _ h.oks) (rS_len _ h.oks) | exact two_lo (rS_len _ h.oks))) rfl ?_)
        refine ⟨((hsub (.cons_cons _ (.cons _ (.cons _ (.cons _ (.cons _ (.refl _))))))).trans (hsub_pick [4] rfl)), ?_⟩
        refine H_one 8 rfl (by kernel_rfl) rfl (op_call rfl rfl (fun a w => Try.call62 a w) rfl ?_)
        refine ((write_d h false n (A.rS true n) (rS_len _ h.oks) (by have := hQ false; omega)).sub (hsub_pick [0] rfl)).mono ?_
        rintro _ _ ⟨rfl, D6, h6, rfl⟩
        refine ⟨_, rfl, ?_⟩
        refine ⟨((hsub (.cons_cons _ (.cons _ (.cons _ (.cons _ (.cons _ (.refl _))))))).trans (hsub_pick [4] rfl)), ?_⟩
        refine H_y 9 rfl (by kernel_rfl) (by kernel_rfl) (by kernel_rfl) (((hsub (.cons_cons _ (.cons _ (.cons _ (.cons _ (.cons _ (.refl _))))))).trans (hsub_pick [4] rfl))) rfl (y_eqi rfl rfl) rfl ?_
        refine H_done (by kernel_rfl) ?_
        refine C_cond rfl (fun hc6 => ?_) (fun hc6 => ?_)
        · replace hc6 := of_decide_eq_true hc6
          refine C_region ?_
          refine L_y rfl (y_move rfl) rfl ?_
          refine L_y rfl (y_nilCheck rfl) rfl ?_
          refine L_y rfl (y_fieldAddr rfl fl_107_1) rfl ?_
          refine L_y rfl (y_load rfl ag_105 (sees 4 0 rfl) rfl) rfl ?_
          refine L_y rfl (y_move rfl) rfl ?_
          refine L_op rfl (op_delete 4 1 rfl rfl rfl Try.underlying105 Try.underlying3 rfl rfl ?_)
          refine L_nil ?_
          refine C_seq ?_
          refine C_region ?_
          refine L_y rfl (y_assign rfl) rfl ?_
          refine L_y rfl (y_assign rfl) rfl ?_
          refine L_nil ?_
          refine C_ret ?_
          refine B_ret (rv_tmp rfl (rv_tmp rfl rv_nil)) ((hsub (.cons_cons _ (.cons_cons _ (.cons _ (.cons _ (.cons _ (.refl _))))))).trans (hsub_pick [4, 0] rfl)) ?_
          have e0 : healTo m A p n = some false := by simp_all [healTo, Go.Sl.hg0, Go.Sl.hg1]
          have e1 : healM m A p n = (if A.wE false n = 0 then { m with k0 := kDel m.k0 n } else m) := by simp [healM, e0]
          exact ⟨by simp_all [healR, Go.Sl.hg0, Go.Sl.hg1] <;> rfl, D6, h6.to (by simp [healA, e0]), by rw [e1]; first | (rw [if_pos (by simpa using hc6)]; rfl) | (rw [if_neg (by simpa using hc6)]; rfl)⟩
        · replace hc6 := of_decide_eq_false hc6
          refine C_skip ?_
          refine C_seq ?_
          refine C_region ?_
          refine L_y rfl (y_assign rfl) rfl ?_
          refine L_y rfl (y_assign rfl) rfl ?_
          refine L_nil ?_
          refine C_ret ?_
          refine B_ret (rv_tmp rfl (rv_tmp rfl rv_nil)) ((hsub (.cons_cons _ (.cons_cons _ (.cons _ (.cons _ (.cons _ (.refl _))))))).trans (hsub_pick [4, 0] rfl)) ?_
          have e0 : healTo m A p n = some false := by simp_all [healTo, Go.Sl.hg0, Go.Sl.hg1]
          have e1 : healM m A p n = (if A.wE false n = 0 then { m with k0 := kDel m.k0 n } else m) := by simp [healM, e0]
          exact ⟨by simp_all [healR, Go.Sl.hg0, Go.Sl.hg1] <;> rfl, D6, h6.to (by simp [healA, e0]), by rw [e1]; first | (rw [if_pos (by simpa using hc6)]; rfl) | (rw [if_neg (by simpa using hc6)]; rfl)⟩
      · skip
        refine L_y rfl (y_pick_t rfl rfl) rfl ?_
        refine L_y rfl (y_indexA rfl rfl Try.underlying62 sz_4 (by omega) (by omega) (show _ = 1 from rfl)) rfl ?_
        refine L_op rfl (op_store1 1 0 rfl rfl rfl sz_4 rfl (Nat.le_of_ble_eq_true rfl) ?_)
        refine L_nil ?_
        refine C_region ?_
        refine L_y rfl (y_add rfl rfl (show _ = (2 : Int) from rfl)) rfl ?_
        refine L_y rfl (y_move rfl) rfl ?_
        refine L_nil ?_
        refine In_round ?_
        refine C_seq ?_
        refine C_region ?_
        refine L_y rfl (y_lss rfl rfl) rfl ?_
        refine L_nil ?_
        refine C_seq ?_
        refine C_cond_f rfl ?_
        refine C_exit ?_
        refine C_seq ?_
        refine C_region ?_
        refine L_y rfl (y_assign rfl) rfl ?_
        refine L_nil ?_
        refine C_seq ?_
        refine C_block ?_
        refine C_seq ?_
        refine C_region ?_
        refine L_y rfl (y_indexA rfl rfl Try.underlying62 sz_4 (by omega) (by omega) (show _ = 0 from rfl)) rfl ?_
        refine L_y rfl (y_load rfl ag_4 (sees 1 0 rfl) rfl) rfl ?_
        refine L_y rfl (y_not rfl) rfl ?_
        refine L_y rfl (y_move rfl) rfl ?_
        refine L_y rfl (y_indexA rfl rfl Try.underlying62 sz_4 (by omega) (by omega) (show _ = 1 from rfl)) rfl ?_
        refine L_y rfl (y_load rfl ag_4 (sees 1 0 rfl) rfl) rfl ?_
        refine L_y rfl (y_not rfl) rfl ?_
        refine L_y rfl (y_pick_t rfl rfl) rfl ?_
        refine L_y rfl (y_assign rfl) rfl ?_
        refine L_nil ?_
        refine C_cond_t rfl ?_
        refine C_seq ?_
        refine C_region ?_
        refine L_y rfl (y_assign rfl) rfl ?_
        refine L_y rfl (y_assign rfl) rfl ?_
        refine L_nil ?_
        refine C_ret ?_
        refine B_ret (rv_tmp rfl (rv_tmp rfl rv_nil)) ((hsub (.cons_cons _ (.cons_cons _ (.cons _ (.cons _ (.cons _ (.refl _))))))).trans (hsub_pick [4, 0] rfl)) ?_
        exact ⟨by simp_all [healR, healTo, Go.Sl.hg0, Go.Sl.hg1] <;> rfl, D, h.to (by simp_all [healA, healTo, Go.Sl.hg0, Go.Sl.hg1]), by rw [show healM m A p n = m from by simp_all [healM, healTo, Go.Sl.hg0, Go.Sl.hg1]]; first | done | rfl⟩
    · skip
      refine L_skip rfl rfl ?_
      refine L_skip rfl rfl ?_
      refine L_skip rfl rfl ?_
      refine L_skip rfl rfl ?_
      refine L_skip rfl rfl ?_
      refine L_skip rfl rfl ?_
      refine L_y rfl (y_pick_f rfl rfl) rfl ?_
      refine L_y rfl (y_indexA rfl rfl Try.underlying62 sz_4 (by omega) (by omega) (show _ = 1 from rfl)) rfl ?_
      refine L_op rfl (op_store1 1 0 rfl rfl rfl sz_4 rfl (Nat.le_of_ble_eq_true rfl) ?_)
      refine L_nil ?_
      refine C_region ?_
      refine L_y rfl (y_add rfl rfl (show _ = (2 : Int) from rfl)) rfl ?_
      refine L_y rfl (y_move rfl) rfl ?_
      refine L_nil ?_
      refine In_round ?_
      refine C_seq ?_
      refine C_region ?_
      refine L_y rfl (y_lss rfl rfl) rfl ?_
      refine L_nil ?_
      refine C_seq ?_
      refine C_cond_f rfl ?_
      refine C_exit ?_
      refine C_seq ?_
      refine C_region ?_
      refine L_y rfl (y_assign rfl) rfl ?_
      refine L_nil ?_
      refine C_seq ?_
      refine C_block ?_
      refine C_seq ?_
      refine C_region ?_
      refine L_y rfl (y_indexA rfl rfl Try.underlying62 sz_4 (by omega) (by omega) (show _ = 0 from rfl)) rfl ?_
      refine L_y rfl (y_load rfl ag_4 (sees 1 0 rfl) rfl) rfl ?_
      refine L_y rfl (y_not rfl) rfl ?_
      refine L_y rfl (y_move rfl) rfl ?_
      refine L_y rfl (y_indexA rfl rfl Try.underlying62 sz_4 (by omega) (by omega) (show _ = 1 from rfl)) rfl ?_
      refine L_y rfl (y_load rfl ag_4 (sees 1 0 rfl) rfl) rfl ?_
      refine L_y rfl (y_not rfl) rfl ?_
      refine L_y rfl (y_pick_t rfl rfl) rfl ?_
      refine L_y rfl (y_assign rfl) rfl ?_
      refine L_nil ?_
      refine C_cond_t rfl ?_
      refine C_seq ?_
      refine C_region ?_
      refine L_y rfl (y_assign rfl) rfl ?_
      refine L_y rfl (y_assign rfl) rfl ?_
      refine L_nil ?_
      refine C_ret ?_
      refine B_ret (rv_tmp rfl (rv_tmp rfl rv_nil)) ((hsub (.cons_cons _ (.cons_cons _ (.cons _ (.cons _ (.cons _ (.refl _))))))).trans (hsub_pick [4, 0] rfl)) ?_
      exact ⟨by simp_all [healR, healTo, Go.Sl.hg0, Go.Sl.hg1] <;> rfl, D, h.to (by simp_all [healA, healTo, Go.Sl.hg0, Go.Sl.hg1]), by rw [show healM m A p n = m from by simp_all [healM, healTo, Go.Sl.hg0, Go.Sl.hg1]]; first | done | rfl⟩

set_option maxHeartbeats 4000000 in

theorem heal_tf {w0 : World} {H : Hp} {D : Duo} {A : Da} {bp : Nat} {m : Mi} (h : Two dt D A m.bx m.bys bp) {p : Int → Sec → Bool} (hG : GoodAt Try.prog w0 H m.gv p) (n : Int) (hQ : ∀ i, (A.dev i).Q.length < 99990) (hn : m.has n = true) (hp : thr A false = true) (hq : thr A true = false) : FnS Try.prog w0 23 #[ptr m.b, .int .i64 n] (m.seg 110 :: D.seg dt :: H) (fun e H' => e = .returned (.tuple #[.int .i64 (healR m A p n).1, .int .i64 (healR m A p n).2]) ∧ ∃ D', Two dt D' (healA m A p n) m.bx m.bys bp ∧ H' = (healM m A p n).seg 110 :: D'.seg dt :: H) := by
  refine FnS_intro (n := 105) (rs := [.tmp 4, .tmp 5]) (vs := [ptr m.b, .int .i64 n]) Try.func23 rfl Try.ntmps23 rfl rfl ?_
  refine C_seq ?_
  refine C_region ?_
  refine L_y rfl (y_assign rfl) rfl ?_
  refine L_y rfl (y_assign rfl) rfl ?_
  refine L_nil ?_
  refine C_seq ?_
  refine C_seq ?_
  refine C_region ?_
  refine L_y rfl (y_move rfl) rfl ?_
  refine L_y rfl (y_move rfl) rfl ?_
  refine L_op rfl (op_call rfl rfl (fun a w => Try.call58 a w) rfl ?_)
  refine (has_m _ (sees 0 0 rfl)).mono ?_
  rintro _ _ ⟨rfl, rfl⟩
  rw [hn]
  refine ⟨_, rfl, ?_⟩
  refine L_y rfl (y_not rfl) rfl ?_
  refine L_nil ?_
  refine C_cond_f rfl ?_
  refine C_skip ?_
  refine C_seq ?_
  refine C_seq ?_
  refine C_region ?_
  refine L_y rfl (y_move rfl) rfl ?_
  refine L_op rfl (op_call rfl rfl (fun a w => Try.call59 a w) rfl ?_)
  refine ((present_tf h hp hq).sub (hsub_pick [0, 0] rfl)).mono ?_
  rintro _ _ ⟨g1, hg1, rfl, rfl⟩
  cases g1 with
  | none => exact slOk_none hg1 (by decide)
  | some g1 => ?_
  refine ⟨_, rfl, ?_⟩
  refine L_y rfl (y_lenS rfl rfl Try.underlying118) rfl ?_
  refine L_y rfl (y_lss rfl rfl) rfl ?_
  refine L_nil ?_
  refine C_cond_t rfl ?_
  refine C_seq ?_
  refine C_region ?_
  refine L_y rfl (y_assign rfl) rfl ?_
  refine L_y rfl (y_assign rfl) rfl ?_
  refine L_nil ?_
  refine C_ret ?_
  refine B_ret (rv_tmp rfl (rv_tmp rfl rv_nil)) ((hsub (.cons_cons _ (.cons_cons _ (.cons _ (.refl _))))).trans (hsub_pick [1, 1] rfl)) ?_
  exact ⟨by simp_all [healR, healTo, Go.Sl.hg0, Go.Sl.hg1] <;> rfl, D, h.to (by simp_all [healA, healTo, Go.Sl.hg0, Go.Sl.hg1]), by rw [show healM m A p n = m from by simp_all [healM, healTo, Go.Sl.hg0, Go.Sl.hg1]]; first | done | rfl⟩

set_option maxHeartbeats 4000000 in

theorem heal_ft {w0 : World} {H : Hp} {D : Duo} {A : Da} {bp : Nat} {m : Mi} (h : Two dt D A m.bx m.bys bp) {p : Int → Sec → Bool} (hG : GoodAt Try.prog w0 H m.gv p) (n : Int) (hQ : ∀ i, (A.dev i).Q.length < 99990) (hn : m.has n = true) (hp : thr A false = false) (hq : thr A true = true) : FnS Try.prog w0 23 #[ptr m.b, .int .i64 n] (m.seg 110 :: D.seg dt :: H) (fun e H' => e = .returned (.tuple #[.int .i64 (healR m A p n).1, .int .i64 (healR m A p n).2]) ∧ ∃ D', Two dt D' (healA m A p n) m.bx m.bys bp ∧ H' = (healM m A p n).seg 110 :: D'.seg dt :: H) := by
  refine FnS_intro (n := 105) (rs := [.tmp 4, .tmp 5]) (vs := [ptr m.b, .int .i64 n]) Try.func23 rfl Try.ntmps23 rfl rfl ?_
  refine C_seq ?_
  refine C_region ?_
  refine L_y rfl (y_assign rfl) rfl ?_
  refine L_y rfl (y_assign rfl) rfl ?_
  refine L_nil ?_
  refine C_seq ?_
  refine C_seq ?_
  refine C_region ?_
  refine L_y rfl (y_move rfl) rfl ?_
  refine L_y rfl (y_move rfl) rfl ?_
  refine L_op rfl (op_call rfl rfl (fun a w => Try.call58 a w) rfl ?_)
  refine (has_m _ (sees 0 0 rfl)).mono ?_
  rintro _ _ ⟨rfl, rfl⟩
  rw [hn]
  refine ⟨_, rfl, ?_⟩
  refine L_y rfl (y_not rfl) rfl ?_
  refine L_nil ?_
  refine C_cond_f rfl ?_
  refine C_skip ?_
  refine C_seq ?_
  refine C_seq ?_
  refine C_region ?_
  refine L_y rfl (y_move rfl) rfl ?_
  refine L_op rfl (op_call rfl rfl (fun a w => Try.call59 a w) rfl ?_)
  refine ((present_ft h hp hq).sub (hsub_pick [0, 0] rfl)).mono ?_
  rintro _ _ ⟨g1, hg1, rfl, rfl⟩
  cases g1 with
  | none => exact slOk_none hg1 (by decide)
  | some g1 => ?_
  refine ⟨_, rfl, ?_⟩
  refine L_y rfl (y_lenS rfl rfl Try.underlying118) rfl ?_
  refine L_y rfl (y_lss rfl rfl) rfl ?_
  refine L_nil ?_
  refine C_cond_t rfl ?_
  refine C_seq ?_
  refine C_region ?_
  refine L_y rfl (y_assign rfl) rfl ?_
  refine L_y rfl (y_assign rfl) rfl ?_
  refine L_nil ?_
  refine C_ret ?_
  refine B_ret (rv_tmp rfl (rv_tmp rfl rv_nil)) ((hsub (.cons_cons _ (.cons_cons _ (.cons _ (.refl _))))).trans (hsub_pick [1, 1] rfl)) ?_
  exact ⟨by simp_all [healR, healTo, Go.Sl.hg0, Go.Sl.hg1] <;> rfl, D, h.to (by simp_all [healA, healTo, Go.Sl.hg0, Go.Sl.hg1]), by rw [show healM m A p n = m from by simp_all [healM, healTo, Go.Sl.hg0, Go.Sl.hg1]]; first | done | rfl⟩

set_option maxHeartbeats 4000000 in

theorem heal_ff {w0 : World} {H : Hp} {D : Duo} {A : Da} {bp : Nat} {m : Mi} (h : Two dt D A m.bx m.bys bp) {p : Int → Sec → Bool} (hG : GoodAt Try.prog w0 H m.gv p) (n : Int) (hQ : ∀ i, (A.dev i).Q.length < 99990) (hn : m.has n = true) (hp : thr A false = false) (hq : thr A true = false) : FnS Try.prog w0 23 #[ptr m.b, .int .i64 n] (m.seg 110 :: D.seg dt :: H) (fun e H' => e = .returned (.tuple #[.int .i64 (healR m A p n).1, .int .i64 (healR m A p n).2]) ∧ ∃ D', Two dt D' (healA m A p n) m.bx m.bys bp ∧ H' = (healM m A p n).seg 110 :: D'.seg dt :: H) := by
  refine FnS_intro (n := 105) (rs := [.tmp 4, .tmp 5]) (vs := [ptr m.b, .int .i64 n]) Try.func23 rfl Try.ntmps23 rfl rfl ?_
  refine C_seq ?_
  refine C_region ?_
  refine L_y rfl (y_assign rfl) rfl ?_
  refine L_y rfl (y_assign rfl) rfl ?_
  refine L_nil ?_
  refine C_seq ?_
  refine C_seq ?_
  refine C_region ?_
  refine L_y rfl (y_move rfl) rfl ?_
  refine L_y rfl (y_move rfl) rfl ?_
  refine L_op rfl (op_call rfl rfl (fun a w => Try.call58 a w) rfl ?_)
  refine (has_m _ (sees 0 0 rfl)).mono ?_
  rintro _ _ ⟨rfl, rfl⟩
  rw [hn]
  refine ⟨_, rfl, ?_⟩
  refine L_y rfl (y_not rfl) rfl ?_
  refine L_nil ?_
  refine C_cond_f rfl ?_
  refine C_skip ?_
  refine C_seq ?_
  refine C_seq ?_
  refine C_region ?_
  refine L_y rfl (y_move rfl) rfl ?_
  refine L_op rfl (op_call rfl rfl (fun a w => Try.call59 a w) rfl ?_)
  refine ((present_ff h hp hq).sub (hsub_pick [0, 0] rfl)).mono ?_
  rintro _ _ ⟨rfl, rfl⟩
  refine ⟨_, rfl, ?_⟩
  refine L_y rfl (y_lenS rfl rfl Try.underlying118) rfl ?_
  refine L_y rfl (y_lss rfl rfl) rfl ?_
  refine L_nil ?_
  refine C_cond_t rfl ?_
  refine C_seq ?_
  refine C_region ?_
  refine L_y rfl (y_assign rfl) rfl ?_
  refine L_y rfl (y_assign rfl) rfl ?_
  refine L_nil ?_
  refine C_ret ?_
  refine B_ret (rv_tmp rfl (rv_tmp rfl rv_nil)) ((hsub (.cons_cons _ (.cons_cons _ (.refl _)))).trans (hsub_pick [0, 0] rfl)) ?_
  exact ⟨by simp_all [healR, healTo, Go.Sl.hg0, Go.Sl.hg1] <;> rfl, D, h.to (by simp_all [healA, healTo, Go.Sl.hg0, Go.Sl.hg1]), by rw [show healM m A p n = m from by simp_all [healM, healTo, Go.Sl.hg0, Go.Sl.hg1]]; first | done | rfl⟩

theorem heal_m {w0 : World} {H : Hp} {D : Duo} {A : Da} {bp : Nat} {m : Mi} (h : Two dt D A m.bx m.bys bp) {p : Int → Sec → Bool} (hG : GoodAt Try.prog w0 H m.gv p) (n : Int) (hQ : ∀ i, (A.dev i).Q.length < 99990) : FnS Try.prog w0 23 #[ptr m.b, .int .i64 n] (m.seg 110 :: D.seg dt :: H) (fun e H' => e = .returned (.tuple #[.int .i64 (healR m A p n).1, .int .i64 (healR m A p n).2]) ∧ ∃ D', Two dt D' (healA m A p n) m.bx m.bys bp ∧ H' = (healM m A p n).seg 110 :: D'.seg dt :: H) := by
  cases hn : m.has n
  · exact heal_no h hG n hQ hn
  · cases hp : thr A false <;> cases hq : thr A true
    · exact heal_ff h hG n hQ hn hp hq
    · exact heal_ft h hG n hQ hn hp hq
    · exact heal_tf h hG n hQ hn hp hq
    · exact heal_tt h hG n hQ hn hp hq

end Go.Proofs.Ytjjiclgbdenkkaa

/- walks (own work; the walks' lines by a program of this repo). -/
set_option linter.unusedVariables false
set_option linter.unusedSimpArgs false
set_option maxRecDepth 20000
namespace Go.Proofs.Ytjjiclgbdenkkaa
open Go.Sl
attribute [local irreducible] BodyQ WpC WpL WpS WpH OpW FnS


theorem healg_v {w0 : World} {H : Hp} {gv : Value} {D : Duo} {A : Da} {m : Mi} {K : Nat} {X Y : List Sec} {k0 k1 mb bx bys bp : Nat} (h : Ms dt gv D A m K X Y k0 k1 mb bx bys bp) {p : Int → Sec → Bool} (hG : GoodAt Try.prog w0 H gv p) {n : Nat} {s t : Sec} (hs : X[n]? = some s) (ht : Y[n]? = some t) (h0 : k0 < 99990) (h1 : k1 < 99990) : FnS Try.prog w0 23 #[ptr mb, .int .i64 (n : Int)] (m.seg 110 :: D.seg dt :: H) (fun e H' => e = .returned (.tuple #[.int .i64 (hC p n s t), .int .i64 0]) ∧ ∃ D' A' m', Ms dt gv D' A' m' K (X.set n (hX p n s t)) (Y.set n (hY p n s t)) (k0 + 1) (k1 + 1) mb bx bys bp ∧ H' = m'.seg 110 :: D'.seg dt :: H) := by
  have hT : Two dt D A m.bx m.bys bp := by rw [h.bx, h.bys]; exact h.two
  have hq : ∀ i, (A.dev i).Q.length < 99990 := fun i => by cases i; exact Nat.lt_of_le_of_lt (h.vw.dev false).many h0; exact Nat.lt_of_le_of_lt (h.vw.dev true).many h1
  have ls := h.okX s (List.mem_of_getElem? hs)
  have lt := h.okY t (List.mem_of_getElem? ht)
  obtain ⟨r, z0, z1, v⟩ := h.vw.heal (p := p) h.n h.s0 h.s1 hs ht ls lt
  have := heal_m (w0 := w0) (H := H) hT (p := p) (by rw [h.gv]; exact hG) (n : Int) hq
  rw [r, h.mb] at this
  refine this.mono ?_
  rintro _ _ ⟨rfl, D', hT', rfl⟩
  obtain ⟨q1, q2, q3, q4, q5⟩ := healM_same m A p n
  rw [h.bx, h.bys] at hT'
  exact ⟨rfl, D', _, _, ⟨hT', v, q1.trans h.mb, q2.trans h.bx, q3.trans h.bys, q4.trans h.n, z0, z1, q5.trans h.gv, set_ok2 h.okX (hX_len ls lt), set_ok2 h.okY (hY_len ls lt)⟩, rfl⟩

end Go.Proofs.Ytjjiclgbdenkkaa

/- walks (own work; the walks' lines by a program of this repo). -/
set_option linter.unusedVariables false
set_option linter.unusedSimpArgs false
set_option maxRecDepth 20000
namespace Go.Proofs.Ytjjiclgbdenkkaa
open Go.Sl
attribute [local irreducible] BodyQ WpC WpL WpS WpH OpW FnS


theorem rotg_v {w0 : World} {H : Hp} {gv : Value} {D : Duo} {A : Da} {m : Mi} {K : Nat} {X Y : List Sec} {mb bx bys bp : Nat} (h : Ms dt gv D A m K X Y 0 0 mb bx bys bp) (i : Bool) {n j : Nat} {s : Sec} {c : UInt8} (hs : (pick2 i X Y)[n]? = some s) (hj : j < 128) : FnS Try.prog w0 34 #[ptr (sel bx bys i), .int .i64 (n : Int), .int .i64 (j : Int), .int .u8 (c.toNat : Int)] (D.seg dt :: H) (fun e H' => e = .returned (.bool true) ∧ ∃ D' A', Ms dt gv D' A' m K (if i then X else X.set n (rotB s j c)) (if i then Y.set n (rotB s j c) else Y) 0 0 mb bx bys bp ∧ H' = D'.seg dt :: H) := by
  obtain ⟨e, v⟩ := h.vw.rot (c := c) hs hj
  refine (rot_d h.two i (n : Int) (j : Int) c).mono ?_
  rintro _ _ ⟨rfl, D', hT', rfl⟩
  rw [e]
  have ls : s.length = 128 := by cases i; exact h.okX s (List.mem_of_getElem? hs); exact h.okY s (List.mem_of_getElem? hs)
  refine ⟨rfl, D', _, h.with hT' v ?_ ?_, rfl⟩
  · cases i
    · exact set_ok2 h.okX (rotB_len.trans ls)
    · exact h.okX
  · cases i
    · exact h.okY
    · exact set_ok2 h.okY (rotB_len.trans ls)

end Go.Proofs.Ytjjiclgbdenkkaa

/- Scrubbing what one device missed (own work). -/
set_option linter.unusedVariables false
set_option linter.unusedSimpArgs false
namespace Go.Sl
section
variable {m : Mi} {A B : Da} {p : Int → Sec → Bool} {K : Nat} {X Y : List Sec} {k0 k1 : Nat}
theorem has_of {k : Nat} (hm : m.n = K) (h : k < K) : m.has (k : Int) = true := by simp [Mi.has]; omega
/-- A write while the first device is out, and in again. -/
theorem put_out {t : Nat} {s : Sec} (h : Vw A K X Y 0 k1) (ht : t < K) (hm : m.n = K) (z0 : m.k0 = []) (z1 : m.k1 = []) :
    putE m (A.setd false ((A.dev false).outs true)) askAll t s = 0 ∧
    (putDa m (A.setd false ((A.dev false).outs true)) askAll t s).setd false (((putDa m (A.setd false ((A.dev false).outs true)) askAll t s).dev false).outs false) = A.write true t s ∧
    (putm m (A.setd false ((A.dev false).outs true)) askAll t s).k0 = [((t : Int), m.c0)] ∧ (putm m (A.setd false ((A.dev false).outs true)) askAll t s).k1 = [] ∧
    (putm m (A.setd false ((A.dev false).outs true)) askAll t s).b = m.b ∧ (putm m (A.setd false ((A.dev false).outs true)) askAll t s).bx = m.bx ∧ (putm m (A.setd false ((A.dev false).outs true)) askAll t s).bys = m.bys ∧
    (putm m (A.setd false ((A.dev false).outs true)) askAll t s).n = m.n ∧ (putm m (A.setd false ((A.dev false).outs true)) askAll t s).gv = m.gv := by
  have c2 : (A.setd false ((A.dev false).outs true)).calm := Da.calm_setd h.calm false _
  have to : thr (A.setd false ((A.dev false).outs true)) false = false := by simp [thr, Da.setd, Da.dev, Ab.outs, Ab.down]
  have ti : thr (A.setd false ((A.dev false).outs true)) true = true := h.thr true
  have hh := has_of hm ht
  obtain ⟨w1, w2⟩ := Da.write_calm h.calm true (t : Int) s
  obtain ⟨v1, v2⟩ := Da.write_calm c2 true (t : Int) s
  have hd := h.dev true
  have hx : (A.dev true).has (t : Int) = true := by rw [hd.has]; simp; omega
  have ho : (A.dev true).out = false := hd.out
  rw [ho, hx] at w1 w2
  rw [show (A.setd false ((A.dev false).outs true)).dev true = A.dev true from rfl, ho, hx] at v1 v2
  simp only [Bool.not_false, Bool.and_self, if_true, Bool.false_eq_true, if_false] at w1 w2 v1 v2
  have pa : pA (A.setd false ((A.dev false).outs true)) false askAll t s = A.setd false ((A.dev false).outs true) := by unfold pA; rw [to]; rfl
  have d0 : putD (A.setd false ((A.dev false).outs true)) askAll t s false = false := by unfold putD pd; rw [to]; rfl
  have d1 : putD (A.setd false ((A.dev false).outs true)) askAll t s true = true := by unfold putD pd; rw [pa, ti, v2]; rfl
  have pt : putA (A.setd false ((A.dev false).outs true)) askAll t s = (A.setd false ((A.dev false).outs true)).setd true ((A.dev true).push t s) := by
    unfold putA; rw [pa]; unfold pA; rw [ti, v1]; rfl
  have hq : (A.dev false).Q = [] := List.eq_nil_of_length_eq_zero (by have := (h.dev false).many; simp only [pick2] at this; simp at this; simp [this])
  have hf := (h.dev false).out
  refine ⟨?_, ?_, ?_, ?_, ?_⟩
  · unfold putE; rw [hh, d0, d1]; rfl
  · unfold putDa; rw [hh, if_pos rfl, pt, w1]
    obtain ⟨a, b, q, r⟩ := A
    obtain ⟨S, Q, k, by_, l, o⟩ := a
    simp only [Da.dev] at hq hf
    subst hq hf
    rfl
  · unfold putm; rw [hh, d0, d1]; simp [Mi.mark, z0, kPut, kHas]
  · unfold putm; rw [hh, d0, d1]; simp [Mi.mark, z1, kDel]
  · unfold putm; rw [hh, d0, d1]; exact ⟨rfl, rfl, rfl, rfl, rfl⟩
end
/-- The sector of that law. -/
def sec3 (u v w : UInt8) : Sec := u :: v :: w :: List.replicate 125 0
theorem sec3_len (u v w : UInt8) : (sec3 u v w).length = 128 := by simp [sec3]
theorem sec3_fill (u v w : UInt8) : bs (sec3 u v w) = Value.int .u8 (u.toNat : Int) :: Value.int .u8 (v.toNat : Int) :: Value.int .u8 (w.toNat : Int) :: List.replicate 125 (Value.int .u8 0) := by simp [sec3, bs, u8]
end Go.Sl
namespace Go.Sl
end Go.Sl
namespace Go.Sl
/-- The sectors of such first bytes. -/
def secs (k : Nat) (ua : List UInt8) : List Sec := (List.range k).map fun i => sec3 (ua.getD (0 + i * 2 + 0) 0) (ua.getD (0 + i * 2 + 1) 0) 9
end Go.Sl

/- walks (own work; the walks' lines by a program of this repo). -/
set_option linter.unusedVariables false
set_option linter.unusedSimpArgs false
set_option maxRecDepth 20000
namespace Go.Proofs.Ytjjiclgbdenkkaa
open Go.Sl
attribute [local irreducible] BodyQ WpC WpL WpS WpH OpW FnS


theorem sector3_s {w0 : World} {H : Hp} (x y : UInt8) : FnS Try.prog w0 20 #[.int .u8 (x.toNat : Int), .int .u8 (y.toNat : Int)] H (fun e H' => e = .returned (.agg (bs (sec3 x y 9)).toArray) ∧ H' = H) := by
  refine FnS_intro (n := 8) (rs := [.cell 4 32]) (vs := [.int .u8 (x.toNat : Int), .int .u8 (y.toNat : Int)]) Try.func20 rfl Try.ntmps20 rfl rfl ?_
  refine C_seq ?_
  refine C_region ?_
  refine L_op rfl (op_alloc zl_32 rfl (fun B1 => ?_))
  refine L_nil ?_
  refine C_seq ?_
  refine C_region ?_
  refine L_y rfl (y_move rfl) rfl ?_
  refine L_y rfl (y_move rfl) rfl ?_
  refine L_y rfl (y_buildA (vs := [(0, _), (1, _), (2, _)]) (l := bs (sec3 x y 9)) rfl Try.underlying32 sz_5 zl_32 (by rw [sec3_fill]; exact (fill_cons (off := 0) (m := 1) (vs := [_]) rfl rfl rfl (Nat.le_of_ble_eq_true rfl) (fill_cons (off := 1) (m := 1) (vs := [_]) rfl rfl rfl (Nat.le_of_ble_eq_true rfl) (fill_cons (off := 2) (m := 1) (vs := [_]) rfl rfl rfl (Nat.le_of_ble_eq_true rfl) rfl))))) rfl ?_
  refine L_op rfl (op_storeA 0 0 rfl rfl rfl sz_32 (by rw [bs_length, sec3_len]) rfl (bs_one _) (by simp) ?_)
  refine L_nil ?_
  refine C_ret ?_
  refine B_ret (rv_cellA rfl ag_32 sz_32 (sees 0 0 rfl) (Nat.le_of_ble_eq_true rfl) rfl rv_nil) (hsub (.cons _ (.refl _))) ?_
  exact ⟨rfl, rfl⟩

theorem awake09_s {w0 : World} {H : Hp} : FnS Try.prog w0 15 #[] H (fun e H' => e = .returned (.bool true) ∧ H' = H) := by
  refine FnS_intro (n := 56) (rs := [.tmp 0]) (vs := []) Try.func15 rfl Try.ntmps15 rfl rfl ?_
  refine C_seq ?_
  refine C_region ?_
  refine L_y rfl (y_assign rfl) rfl ?_
  refine L_nil ?_
  refine C_seq ?_
  refine C_region ?_
  refine L_op rfl (op_call rfl rfl (fun a w => Try.call16 a w) rfl ?_)
  refine (new_ln 5).mono ?_
  rintro _ _ ⟨d91, p91, hG91, ha91, hP91, rfl, rfl⟩
  have hA91 : d91.a = Ab.new 5 := by rw [ha91] <;> (rfl)
  have hb91 : d91.b = d91.b := rfl
  refine ⟨_, rfl, ?_⟩
  refine L_op rfl (op_call rfl rfl (fun a w => Try.call16 a w) rfl ?_)
  refine ((newnil_d hG91 rfl 5).sub (hsub_pick [0, 0, 0, 0, 0] rfl)).mono ?_
  rintro _ _ ⟨by81, D81, h81, rfl, rfl⟩
  replace h81 := h81.to (B := ⟨Ab.new 5, Ab.new 5, q0, some q0⟩) (by rw [hA91, hP91] <;> (rfl))
  have hv1 : Vw ⟨Ab.new 5, Ab.new 5, q0, some q0⟩ 5 (List.replicate 5 (secOf 0)) (List.replicate 5 (secOf 0)) 0 0 := Vw.new (by omega) (some q0) (.inr rfl)
  refine ⟨_, rfl, ?_⟩
  refine L_y rfl (y_assign rfl) rfl ?_
  refine L_y rfl (y_assign rfl) rfl ?_
  refine L_nil ?_
  refine C_seq ?_
  refine C_region ?_
  refine L_y rfl (y_move rfl) rfl ?_
  refine L_y rfl (y_move rfl) rfl ?_
  refine L_op rfl (op_call rfl rfl (fun a w => Try.call17 a w) rfl ?_)
  refine (FnS.sub (hsub_pick [0] rfl) (new_v (f := 18) (cap := []) h81 hv1 (fun s hs => by rw [List.eq_of_mem_replicate hs]; exact secOf_len _) (fun s hs => by rw [List.eq_of_mem_replicate hs]; exact secOf_len _))).mono ?_
  rintro _ _ ⟨mb2, m2, hS2, rfl, rfl⟩
  refine ⟨_, rfl, ?_⟩
  refine L_y rfl (y_assign rfl) rfl ?_
  refine L_nil ?_
  refine C_seq ?_
  refine C_region ?_
  refine L_y rfl (y_move rfl) rfl ?_
  refine L_op rfl (op_call rfl rfl (fun a w => Try.call20 a w) rfl ?_)
  refine (sector3_s 1 0).mono ?_
  rintro _ _ ⟨rfl, e⟩
  obtain rfl := e.symm
  clear e
  refine ⟨_, rfl, ?_⟩
  refine L_op rfl (op_call rfl rfl (fun a w => Try.call19 a w) rfl ?_)
  refine (FnS.sub (hsub_pick [0, 0] rfl) (write_v hS2 (n := 3) (s := (sec3 1 0 9)) (by decide) (sec3_len _ _ _) (by omega) (by omega))).mono ?_
  rintro _ _ ⟨rfl, D3, A3, hS3, rfl⟩
  refine ⟨_, rfl, ?_⟩
  refine L_y rfl (y_assign rfl) rfl ?_
  refine L_nil ?_
  refine C_seq ?_
  refine C_region ?_
  refine L_y rfl (y_move rfl) rfl ?_
  refine L_op rfl (op_call rfl rfl (fun a w => Try.call21 a w) rfl ?_)
  refine (FnS.sub (hsub_pick [0, 0] rfl) (flush_v hS3)).mono ?_
  rintro _ _ ⟨rfl, D4, A4, hS4, rfl⟩
  refine ⟨_, rfl, ?_⟩
  refine L_y rfl (y_assign rfl) rfl ?_
  refine L_nil ?_
  refine C_seq ?_
  refine C_seq ?_
  refine C_region ?_
  refine L_y rfl (y_move rfl) rfl ?_
  refine L_op rfl (op_call rfl rfl (fun a w => Try.call34 a w) rfl ?_)
  refine (FnS.sub (hsub_pick [1] rfl) (rotg_v hS4 false (n := 3) (j := 0) (c := 1) (s := (sec3 1 0 9)) rfl (by decide))).mono ?_
  rintro _ _ ⟨rfl, D5, A5, hS5, rfl⟩
  simp only [Bool.false_eq_true, if_false, if_true] at hS5
  refine ⟨_, rfl, ?_⟩
  refine L_y rfl (y_not rfl) rfl ?_
  refine L_nil ?_
  refine C_cond_f rfl ?_
  refine C_skip ?_
  refine C_seq ?_
  refine C_region ?_
  refine L_y rfl (y_move rfl) rfl ?_
  refine L_op rfl (op_call rfl rfl (fun a w => Try.call22 a w) rfl ?_)
  refine (FnS.sub (hsub_pick [1, 0] rfl) (readg_v hS5 good_at (n := 3) (s := (sec3 0 0 9)) (show _ = some (sec3 0 0 9) from rfl) (t := (sec3 1 0 9)) rfl)).mono ?_
  rintro _ _ ⟨e4, rfl⟩
  rw [show rdv goodP ((3 : Nat) : Int) (sec3 0 0 9) (sec3 1 0 9) = (sec3 1 0 9) from by decide +kernel, show rde goodP ((3 : Nat) : Int) (sec3 0 0 9) (sec3 1 0 9) = 0 from by decide +kernel] at e4
  obtain rfl := e4
  refine ⟨_, rfl, ?_⟩
  refine L_y rfl (y_move rfl) rfl ?_
  refine L_y rfl (y_extract rfl rfl) rfl ?_
  refine L_y rfl (y_extract rfl rfl) rfl ?_
  refine L_op rfl (op_alloc zl_32 rfl (fun B1 => ?_))
  refine L_op rfl (op_storeA 0 0 rfl rfl rfl sz_32 (by rw [bs_length, sec3_len _ _ _]) rfl (bs_one _) (by simp) ?_)
  refine L_y rfl (y_assign rfl) rfl ?_
  refine L_nil ?_
  refine C_seq ?_
  refine C_region ?_
  refine L_y rfl (y_move rfl) rfl ?_
  refine L_op rfl (op_call rfl rfl (fun a w => Try.call23 a w) rfl ?_)
  refine (FnS.sub (hsub_pick [1, 1] rfl) (healg_v hS5 good_at (n := 3) (s := (sec3 0 0 9)) (show _ = some (sec3 0 0 9) from rfl) (t := (sec3 1 0 9)) rfl (by omega) (by omega))).mono ?_
  rintro _ _ ⟨e4, D6, A6, m6, hS6, rfl⟩
  rw [show hC goodP 3 (sec3 0 0 9) (sec3 1 0 9) = 1 from by decide +kernel] at e4
  obtain rfl := e4
  refine ⟨_, rfl, ?_⟩
  refine L_y rfl (y_move rfl) rfl ?_
  refine L_y rfl (y_extract rfl rfl) rfl ?_
  refine L_y rfl (y_extract rfl rfl) rfl ?_
  refine L_y rfl (y_assign rfl) rfl ?_
  refine L_y rfl (y_assign rfl) rfl ?_
  refine L_nil ?_
  refine C_seq ?_
  refine C_regionH0 (by kernel_rfl) ?_
  refine H_y 0 rfl (by kernel_rfl) (by kernel_rfl) (by kernel_rfl) (HSub.refl _) rfl (y_move rfl) rfl ?_
  refine H_y 1 rfl (by kernel_rfl) (by kernel_rfl) (by kernel_rfl) (HSub.refl _) rfl (y_eqi rfl rfl) rfl ?_
  refine H_y 2 rfl (by kernel_rfl) (by kernel_rfl) (by kernel_rfl) (HSub.refl _) rfl (y_move rfl) rfl ?_
  refine H_case 35 rfl (fun hg9_3 => ?_) (fun hg9_3 => ?_)
  · skip
    refine H_y 3 rfl (by kernel_rfl) (by kernel_rfl) (by kernel_rfl) (HSub.refl _) rfl (y_move rfl) rfl ?_
    refine H_y 4 rfl (by kernel_rfl) (by kernel_rfl) (by kernel_rfl) (HSub.refl _) rfl (y_eqi rfl rfl) rfl ?_
    refine H_y 5 rfl (by kernel_rfl) (by kernel_rfl) (by kernel_rfl) (HSub.refl _) rfl (y_pick_t rfl rfl) rfl ?_
    refine H_y 6 rfl (by kernel_rfl) (by kernel_rfl) (by kernel_rfl) (HSub.refl _) rfl (y_move rfl) rfl ?_
    refine H_case 39 rfl (fun hg9_7 => ?_) (fun hg9_7 => ?_)
    · skip
      refine H_y 7 rfl (by kernel_rfl) (by kernel_rfl) (by kernel_rfl) (HSub.refl _) rfl (y_move rfl) rfl ?_
      refine H_y 8 rfl (by kernel_rfl) (by kernel_rfl) (by kernel_rfl) (HSub.refl _) rfl (y_eqi rfl rfl) rfl ?_
      refine H_y 9 rfl (by kernel_rfl) (by kernel_rfl) (by kernel_rfl) (HSub.refl _) rfl (y_pick_t rfl rfl) rfl ?_
      refine H_y 10 rfl (by kernel_rfl) (by kernel_rfl) (by kernel_rfl) (HSub.refl _) rfl (y_move rfl) rfl ?_
      refine H_case 43 rfl (fun hg9_11 => ?_) (fun hg9_11 => ?_)
      · skip
        refine H_y 11 rfl (by kernel_rfl) (by kernel_rfl) (by kernel_rfl) (HSub.refl _) rfl (y_move rfl) rfl ?_
        refine H_y 12 rfl (by kernel_rfl) (by kernel_rfl) (by kernel_rfl) (HSub.refl _) rfl (y_eqi rfl rfl) rfl ?_
        refine H_y 13 rfl (by kernel_rfl) (by kernel_rfl) (by kernel_rfl) (HSub.refl _) rfl (y_pick_t rfl rfl) rfl ?_
        refine H_y 14 rfl (by kernel_rfl) (by kernel_rfl) (by kernel_rfl) (HSub.refl _) rfl (y_move rfl) rfl ?_
        refine H_case 47 rfl (fun hg9_15 => ?_) (fun hg9_15 => ?_)
        · skip
          refine H_y 15 rfl (by kernel_rfl) (by kernel_rfl) (by kernel_rfl) (HSub.refl _) rfl (y_loadA rfl ag_32 sz_32 (sees 2 0 rfl) (by rw [bs_length, sec3_len _ _ _]; decide) (bs_whole0 _ (sec3_len _ _ _))) rfl ?_
          refine H_one 16 rfl (by kernel_rfl) rfl (op_call rfl rfl (fun a w => Try.call20 a w) rfl ?_)
          refine (sector3_s 1 0).mono ?_
          rintro _ _ ⟨rfl, e⟩
          obtain rfl := e.symm
          clear e
          refine ⟨_, rfl, ?_⟩
          refine ⟨HSub.refl _, ?_⟩
          refine H_y 17 rfl (by kernel_rfl) (by kernel_rfl) (by kernel_rfl) (HSub.refl _) rfl (y_eqa rfl rfl Try.underlying32 Try.underlying5 sz_5 eg_32 (sec3_len _ _ _) (sec3_len _ _ _)) rfl ?_
          refine H_y 18 rfl (by kernel_rfl) (by kernel_rfl) (by kernel_rfl) (HSub.refl _) rfl (y_pick_t rfl rfl) rfl ?_
          refine H_y 19 rfl (by kernel_rfl) (by kernel_rfl) (by kernel_rfl) (HSub.refl _) rfl (y_move rfl) rfl ?_
          refine H_case 52 rfl (fun hg9_20 => ?_) (fun hg9_20 => ?_)
          · skip
            refine H_y 20 rfl (by kernel_rfl) (by kernel_rfl) (by kernel_rfl) (HSub.refl _) rfl (y_move rfl) rfl ?_
            refine H_y 21 rfl (by kernel_rfl) (by kernel_rfl) (by kernel_rfl) (HSub.refl _) rfl (y_eqi rfl rfl) rfl ?_
            refine H_y 22 rfl (by kernel_rfl) (by kernel_rfl) (by kernel_rfl) (HSub.refl _) rfl (y_pick_t rfl rfl) rfl ?_
            refine H_y 23 rfl (by kernel_rfl) (by kernel_rfl) (by kernel_rfl) (HSub.refl _) rfl (y_assign rfl) rfl ?_
            refine H_done (by kernel_rfl) ?_
            refine C_ret ?_
            refine B_ret (rv_tmp rfl rv_nil) (hsub (.cons _ (.cons _ (.cons _ (.refl _))))) ?_
            exact ⟨ret_bool (by simp), rfl⟩
          · exact absurd hg9_20 (by simp)
        · exact absurd hg9_15 (by simp)
      · exact absurd hg9_11 (by simp)
    · exact absurd hg9_7 (by simp)
  · exact absurd hg9_3 (by simp)

end Go.Proofs.Ytjjiclgbdenkkaa

/- A mirror of one device alone, and of two unlike ones that tells nothing (own work). -/
set_option linter.unusedVariables false
set_option linter.unusedSimpArgs false
namespace Go.Sl
abbrev hcells (bx r0 r1 : Nat) (gv : Value) : List Value := [ptr bx, .map (some r0), .pointer none, .map (some r1), .int .i64 0, gv]
abbrev hseg (t b bx r0 r1 : Nat) (gv : Value) : List (Nat × Obj) := [(b, .cells (hcells bx r0 r1 gv).toArray t), (r0, mapO [] 0), (r1, mapO [] 0)]
theorem y_min0 {P : Program} {n : FN} {E : Env} {W : World → Prop} {x y : Operand} {ty : Nat} {a : Nat} {tys : Array TypeId} (hx : ev E x = some (.int .i64 (a : Int))) (hy : ev E y = some (.int .i64 0)) :
    YV P n E W (.call { callee := .builtin .min, args := [x, y].toArray, argTypes := tys }) ty (.int .i64 0) := by
  have h := y_min (P := P) (n := n) (W := W) (ty := ty) (tys := tys) hx hy
  rwa [show min (a : Int) 0 = 0 from by omega] at h
theorem there_1 {a : Ab} {p : Pa} (ho : a.out = false) (hp : p.off = false) (n : Int) : (!decide (readE a p n = 13)) = true := by
  have hd : a.down p = false := by unfold Ab.down; rw [ho, hp]; rfl
  unfold readE
  rw [hd]
  simp only [Bool.false_eq_true, if_false]
  split <;> simp
section
variable {m : Mi} {k : Nat} {n : Int} {s : Sec} {p : Int → Sec → Bool}
abbrev A2 (k : Nat) : Da := ⟨Ab.new k, Ab.new (k + 2), q0, some q0⟩
theorem a2_thr (i : Bool) : thr (A2 k) i = true := by cases i <;> rfl
theorem none_has (hm : m.n = k) : m.has n = (decide (0 ≤ n) && decide (n < k)) := by unfold Mi.has; rw [hm]
theorem none_out (hm : m.n = k) (h : n < 0 ∨ (k : Int) ≤ n) : mrE m (A2 k) p n = 2 ∧ putE m (A2 k) askAll n s = 2 := by
  have hh : m.has n = false := by rw [none_has hm]; simp; omega
  unfold mrE putE
  rw [hh]
  exact ⟨rfl, rfl⟩
theorem none_in (hm : m.n = k) (h0 : 0 ≤ n) (h1 : n < k) : mrE m (A2 k) (fun _ _ => false) n = 9 ∧ putE m (A2 k) askAll n s = 0 := by
  have hh : m.has n = true := by rw [none_has hm]; simp; omega
  have hd : pd (A2 k) false askAll n = true := by
    have hc : (A2 k).calm := ⟨rfl, rfl, fun q hq => by obtain rfl := Option.some.inj hq; exact ⟨rfl, rfl⟩⟩
    unfold pd
    rw [a2_thr, (Da.write_calm hc false n s).2]
    have : ((A2 k).dev false).has n = true := by unfold Ab.has; simp [Da.dev, Ab.new]; omega
    rw [this]
    simp [Da.dev, Ab.new]
  unfold mrE putE putD
  rw [hh, hd, a2_thr, a2_thr]
  unfold okAt
  simp
end
end Go.Sl

/- Facts of the translation's types, for the kernel (own work, by a program of this repo). -/
namespace Go.Proofs.Ytjjiclgbdenkkaa
open Go.Sl
end Go.Proofs.Ytjjiclgbdenkkaa

/- walks (own work; the walks' lines by a program of this repo). -/
set_option linter.unusedVariables false
set_option linter.unusedSimpArgs false
set_option maxRecDepth 20000
namespace Go.Proofs.Ytjjiclgbdenkkaa
open Go.Sl
attribute [local irreducible] BodyQ WpC WpL WpS WpH OpW FnS


theorem mread_0 {w0 : World} {H : Hp}  (n : Int) : FnS Try.prog w0 22 #[.pointer none, .int .i64 n] H (fun e H' => e = .returned (.tuple #[.agg (bs (secOf 0)).toArray, .int .i64 2]) ∧ H' = H) := by
  refine FnS_intro (n := 63) (rs := [.cell 4 32, .tmp 5]) (vs := [.pointer none, .int .i64 n]) Try.func22 rfl Try.ntmps22 rfl rfl ?_
  refine C_seq ?_
  refine C_region ?_
  refine L_op rfl (op_alloc zl_32 rfl (fun B1 => ?_))
  refine L_y rfl (y_assign rfl) rfl ?_
  refine L_nil ?_
  refine C_seq ?_
  refine C_seq ?_
  refine C_region ?_
  refine L_y rfl (y_move rfl) rfl ?_
  refine L_y rfl (y_move rfl) rfl ?_
  refine L_op rfl (op_call rfl rfl (fun a w => Try.call58 a w) rfl ?_)
  refine (has_nil _).mono ?_
  rintro _ _ ⟨rfl, e⟩
  obtain rfl := e.symm
  clear e
  refine ⟨_, rfl, ?_⟩
  refine L_y rfl (y_not rfl) rfl ?_
  refine L_nil ?_
  refine C_cond_t rfl ?_
  refine C_seq ?_
  refine C_region ?_
  refine L_y rfl (y_buildA0 Try.underlying32 sz_5 zl_32) rfl ?_
  refine L_op rfl (op_storeA 0 0 rfl rfl rfl sz_32 (by rw [zsec, bs_length, secOf_len]) rfl (by rw [zsec]; exact bs_one _) (by simp) ?_)
  rw [zsec]
  refine L_y rfl (y_assign rfl) rfl ?_
  refine L_nil ?_
  refine C_ret ?_
  refine B_ret (rv_cellA rfl ag_32 sz_32 (sees 0 0 rfl) (by rw [bs_length, secOf_len]; decide) (bs_whole0 _ (secOf_len 0)) (rv_tmp rfl rv_nil)) (hsub (.cons _ (.refl _))) ?_
  exact ⟨rfl, rfl⟩

theorem mheal_0 {w0 : World} {H : Hp}  (n : Int) : FnS Try.prog w0 23 #[.pointer none, .int .i64 n] H (fun e H' => e = .returned (.tuple #[.int .i64 0, .int .i64 2]) ∧ H' = H) := by
  refine FnS_intro (n := 105) (rs := [.tmp 4, .tmp 5]) (vs := [.pointer none, .int .i64 n]) Try.func23 rfl Try.ntmps23 rfl rfl ?_
  refine C_seq ?_
  refine C_region ?_
  refine L_y rfl (y_assign rfl) rfl ?_
  refine L_y rfl (y_assign rfl) rfl ?_
  refine L_nil ?_
  refine C_seq ?_
  refine C_seq ?_
  refine C_region ?_
  refine L_y rfl (y_move rfl) rfl ?_
  refine L_y rfl (y_move rfl) rfl ?_
  refine L_op rfl (op_call rfl rfl (fun a w => Try.call58 a w) rfl ?_)
  refine (has_nil _).mono ?_
  rintro _ _ ⟨rfl, e⟩
  obtain rfl := e.symm
  clear e
  refine ⟨_, rfl, ?_⟩
  refine L_y rfl (y_not rfl) rfl ?_
  refine L_nil ?_
  refine C_cond_t rfl ?_
  refine C_seq ?_
  refine C_region ?_
  refine L_y rfl (y_assign rfl) rfl ?_
  refine L_y rfl (y_assign rfl) rfl ?_
  refine L_nil ?_
  refine C_ret ?_
  refine B_ret (rv_tmp rfl (rv_tmp rfl rv_nil)) (hsub (.refl _)) ?_
  exact ⟨rfl, rfl⟩

theorem mput_0 {w0 : World} {H : Hp}  (n : Int) (s : Sec) (hs : s.length = 128) (fv : Value) (hf : fv.cells = #[fv]) : FnS Try.prog w0 54 #[.pointer none, .int .i64 n, .agg (bs s).toArray, fv] H (fun e H' => e = .returned (.int .i64 2) ∧ H' = H) := by
  refine FnS_intro (n := 77) (rs := [.tmp 8]) (vs := [.pointer none, .int .i64 n, .agg (bs s).toArray, fv]) Try.func54 rfl Try.ntmps54 rfl rfl ?_
  refine C_seq ?_
  refine C_region ?_
  refine L_op rfl (op_box rfl rfl rfl (fun B1 => ?_))
  refine L_y rfl (y_assign rfl) rfl ?_
  refine L_nil ?_
  refine C_seq ?_
  refine C_seq ?_
  refine C_region ?_
  refine L_y rfl (y_move rfl) rfl ?_
  refine L_y rfl (y_move rfl) rfl ?_
  refine L_op rfl (op_call rfl rfl (fun a w => Try.call58 a w) rfl ?_)
  refine (has_nil _).mono ?_
  rintro _ _ ⟨rfl, e⟩
  obtain rfl := e.symm
  clear e
  refine ⟨_, rfl, ?_⟩
  refine L_y rfl (y_not rfl) rfl ?_
  refine L_nil ?_
  refine C_cond_t rfl ?_
  refine C_seq ?_
  refine C_region ?_
  refine L_y rfl (y_assign rfl) rfl ?_
  refine L_nil ?_
  refine C_ret ?_
  refine B_ret (rv_tmp rfl rv_nil) (hsub (.cons _ (.refl _))) ?_
  exact ⟨rfl, rfl⟩

theorem mwrite_0 {w0 : World} {H : Hp}  (n : Int) (s : Sec) (hs : s.length = 128) : FnS Try.prog w0 19 #[.pointer none, .int .i64 n, .agg (bs s).toArray] H (fun e H' => e = .returned (.int .i64 2) ∧ H' = H) := by
  refine FnS_intro (n := 11) (rs := [.tmp 6]) (vs := [.pointer none, .int .i64 n, .agg (bs s).toArray]) Try.func19 rfl Try.ntmps19 rfl rfl ?_
  refine C_seq ?_
  refine C_region ?_
  refine L_op rfl (op_box rfl rfl rfl (fun B1 => ?_))
  refine L_y rfl (y_assign rfl) rfl ?_
  refine L_nil ?_
  refine C_seq ?_
  refine C_region ?_
  refine L_y rfl (y_move rfl) rfl ?_
  refine L_y rfl (y_move rfl) rfl ?_
  refine L_y rfl (y_loadA rfl ag_32 sz_32 (sees 0 0 rfl) (by rw [bs_length, hs]; decide) (bs_whole0 _ hs)) rfl ?_
  refine L_op rfl (op_call rfl rfl (fun a w => Try.call54 a w) rfl ?_)
  refine (mput_0 _ s hs _ rfl).mono ?_
  rintro _ _ ⟨rfl, e⟩
  obtain rfl := e.symm
  clear e
  refine ⟨_, rfl, ?_⟩
  refine L_y rfl (y_assign rfl) rfl ?_
  refine L_nil ?_
  refine C_ret ?_
  refine B_ret (rv_tmp rfl rv_nil) (hsub (.cons _ (.refl _))) ?_
  exact ⟨rfl, rfl⟩

theorem mchoose_0 {w0 : World} {H : Hp}  (n : Int) (s : Sec) (hs : s.length = 128) : FnS Try.prog w0 31 #[.pointer none, .int .i64 n, .agg (bs s).toArray] H (fun e H' => e = .returned (.int .i64 2) ∧ H' = H) := by
  refine FnS_intro (n := 12) (rs := [.tmp 6]) (vs := [.pointer none, .int .i64 n, .agg (bs s).toArray]) Try.func31 rfl Try.ntmps31 rfl rfl ?_
  refine C_seq ?_
  refine C_region ?_
  refine L_op rfl (op_box rfl rfl rfl (fun B1 => ?_))
  refine L_op rfl (op_box rfl rfl rfl (fun B2 => ?_))
  refine L_y rfl (y_assign rfl) rfl ?_
  refine L_nil ?_
  refine C_seq ?_
  refine C_region ?_
  refine L_y rfl (y_move rfl) rfl ?_
  refine L_y rfl (y_load rfl ag_3 (sees 1 0 rfl) rfl) rfl ?_
  refine L_y rfl (y_loadA rfl ag_32 sz_32 (sees 0 0 rfl) (by rw [bs_length, hs]; decide) (bs_whole0 _ hs)) rfl ?_
  refine L_y rfl (y_makeFunc rfl rfl) rfl ?_
  refine L_op rfl (op_call rfl rfl (fun a w => Try.call54 a w) rfl ?_)
  refine (mput_0 _ s hs _ rfl).mono ?_
  rintro _ _ ⟨rfl, e⟩
  obtain rfl := e.symm
  clear e
  refine ⟨_, rfl, ?_⟩
  refine L_y rfl (y_assign rfl) rfl ?_
  refine L_nil ?_
  refine C_ret ?_
  refine B_ret (rv_tmp rfl rv_nil) (hsub (.cons _ (.cons _ (.refl _)))) ?_
  exact ⟨rfl, rfl⟩

theorem mboth_0 {w0 : World} {H : Hp}  (n : Int) : FnS Try.prog w0 25 #[.pointer none, .int .i64 n] H (fun e H' => e = .returned (.slice none 0 0) ∧ H' = H) := by
  refine FnS_intro (n := 47) (rs := [.tmp 4]) (vs := [.pointer none, .int .i64 n]) Try.func25 rfl Try.ntmps25 rfl rfl ?_
  refine C_seq ?_
  refine C_region ?_
  refine L_y rfl (y_assign rfl) rfl ?_
  refine L_nil ?_
  refine C_seq ?_
  refine C_region ?_
  refine L_y rfl (y_assign rfl) rfl ?_
  refine L_nil ?_
  refine C_seq ?_
  refine C_seq ?_
  refine C_region ?_
  refine L_y rfl (y_move rfl) rfl ?_
  refine L_y rfl (y_move rfl) rfl ?_
  refine L_op rfl (op_call rfl rfl (fun a w => Try.call58 a w) rfl ?_)
  refine (has_nil _).mono ?_
  rintro _ _ ⟨rfl, e⟩
  obtain rfl := e.symm
  clear e
  refine ⟨_, rfl, ?_⟩
  refine L_y rfl (y_not rfl) rfl ?_
  refine L_nil ?_
  refine C_cond_t rfl ?_
  refine C_seq ?_
  refine C_region ?_
  refine L_y rfl (y_assign rfl) rfl ?_
  refine L_nil ?_
  refine C_ret ?_
  refine B_ret (rv_tmp rfl rv_nil) (hsub (.refl _)) ?_
  exact ⟨rfl, rfl⟩

theorem len_h {w0 : World} {H : Hp} {mb bx r0 r1 : Nat} {gv : Value} (hM : Sees (fun w => St w0 w H) mb (.cells (hcells bx r0 r1 gv).toArray 110)) : FnS Try.prog w0 36 #[ptr mb] H (fun e H' => e = .returned (.int .i64 0) ∧ H' = H) := by
  refine FnS_intro (n := 9) (rs := [.tmp 2]) (vs := [ptr mb]) Try.func36 rfl Try.ntmps36 rfl rfl ?_
  refine C_seq ?_
  refine C_region ?_
  refine L_y rfl (y_assign rfl) rfl ?_
  refine L_nil ?_
  refine C_seq ?_
  refine C_seq ?_
  refine C_region ?_
  refine L_y rfl (y_move rfl) rfl ?_
  refine L_y rfl (y_eqp rfl rfl Try.underlying26) rfl ?_
  refine L_nil ?_
  refine C_cond_f rfl ?_
  refine C_skip ?_
  refine C_seq ?_
  refine C_region ?_
  refine L_y rfl (y_move rfl) rfl ?_
  refine L_y rfl (y_nilCheck rfl) rfl ?_
  refine L_y rfl (y_fieldAddr rfl fl_110_1) rfl ?_
  refine L_y rfl (y_load rfl ag_3 (hM) rfl) rfl ?_
  refine L_y rfl (y_assign rfl) rfl ?_
  refine L_nil ?_
  refine C_ret ?_
  refine B_ret (rv_tmp rfl rv_nil) (hsub (.refl _)) ?_
  exact ⟨rfl, rfl⟩

theorem has_h {w0 : World} {H : Hp} {mb bx r0 r1 : Nat} {gv : Value} (hM : Sees (fun w => St w0 w H) mb (.cells (hcells bx r0 r1 gv).toArray 110)) (n : Int) : FnS Try.prog w0 58 #[ptr mb, .int .i64 n] H (fun e H' => e = .returned (.bool false) ∧ H' = H) := by
  refine FnS_intro (n := 13) (rs := [.tmp 4]) (vs := [ptr mb, .int .i64 n]) Try.func58 rfl Try.ntmps58 rfl rfl ?_
  refine C_seq ?_
  refine C_region ?_
  refine L_y rfl (y_assign rfl) rfl ?_
  refine L_nil ?_
  refine C_seq ?_
  refine C_region ?_
  refine L_y rfl (y_move rfl) rfl ?_
  refine L_y rfl (y_geq rfl rfl) rfl ?_
  refine L_y rfl (y_move rfl) rfl ?_
  refine L_case 7 rfl (fun hg1_3 => ?_) (fun hg1_3 => ?_)
  · skip
    refine L_y rfl (y_move rfl) rfl ?_
    refine L_y rfl (y_move rfl) rfl ?_
    refine L_op rfl (op_call rfl rfl (fun a w => Try.call36 a w) rfl ?_)
    refine (len_h hM).mono ?_
    rintro _ _ ⟨rfl, e⟩
    obtain rfl := e.symm
    clear e
    refine ⟨_, rfl, ?_⟩
    refine L_y rfl (y_lss rfl rfl) rfl ?_
    refine L_y rfl (y_pick_t rfl rfl) rfl ?_
    refine L_y rfl (y_assign rfl) rfl ?_
    refine L_nil ?_
    refine C_ret ?_
    refine B_ret (rv_tmp rfl rv_nil) (hsub (.refl _)) ?_
    refine ⟨ret_bool ?_, rfl⟩
    simp_all
  · skip
    refine L_skip rfl rfl ?_
    refine L_skip rfl rfl ?_
    refine L_skip rfl rfl ?_
    refine L_skip rfl rfl ?_
    refine L_y rfl (y_pick_f rfl rfl) rfl ?_
    refine L_y rfl (y_assign rfl) rfl ?_
    refine L_nil ?_
    refine C_ret ?_
    refine B_ret (rv_tmp rfl rv_nil) (hsub (.refl _)) ?_
    refine ⟨ret_bool ?_, rfl⟩
    simp_all

theorem mread_h {w0 : World} {H : Hp} {mb bx r0 r1 : Nat} {gv : Value} (hM : Sees (fun w => St w0 w H) mb (.cells (hcells bx r0 r1 gv).toArray 110)) (n : Int) : FnS Try.prog w0 22 #[ptr mb, .int .i64 n] H (fun e H' => e = .returned (.tuple #[.agg (bs (secOf 0)).toArray, .int .i64 2]) ∧ H' = H) := by
  refine FnS_intro (n := 63) (rs := [.cell 4 32, .tmp 5]) (vs := [ptr mb, .int .i64 n]) Try.func22 rfl Try.ntmps22 rfl rfl ?_
  refine C_seq ?_
  refine C_region ?_
  refine L_op rfl (op_alloc zl_32 rfl (fun B1 => ?_))
  refine L_y rfl (y_assign rfl) rfl ?_
  refine L_nil ?_
  refine C_seq ?_
  refine C_seq ?_
  refine C_region ?_
  refine L_y rfl (y_move rfl) rfl ?_
  refine L_y rfl (y_move rfl) rfl ?_
  refine L_op rfl (op_call rfl rfl (fun a w => Try.call58 a w) rfl ?_)
  refine (has_h (hM.up) _).mono ?_
  rintro _ _ ⟨rfl, e⟩
  obtain rfl := e.symm
  clear e
  refine ⟨_, rfl, ?_⟩
  refine L_y rfl (y_not rfl) rfl ?_
  refine L_nil ?_
  refine C_cond_t rfl ?_
  refine C_seq ?_
  refine C_region ?_
  refine L_y rfl (y_buildA0 Try.underlying32 sz_5 zl_32) rfl ?_
  refine L_op rfl (op_storeA 0 0 rfl rfl rfl sz_32 (by rw [zsec, bs_length, secOf_len]) rfl (by rw [zsec]; exact bs_one _) (by simp) ?_)
  rw [zsec]
  refine L_y rfl (y_assign rfl) rfl ?_
  refine L_nil ?_
  refine C_ret ?_
  refine B_ret (rv_cellA rfl ag_32 sz_32 (sees 0 0 rfl) (by rw [bs_length, secOf_len]; decide) (bs_whole0 _ (secOf_len 0)) (rv_tmp rfl rv_nil)) (hsub (.cons _ (.refl _))) ?_
  exact ⟨rfl, rfl⟩

theorem mheal_h {w0 : World} {H : Hp} {mb bx r0 r1 : Nat} {gv : Value} (hM : Sees (fun w => St w0 w H) mb (.cells (hcells bx r0 r1 gv).toArray 110)) (n : Int) : FnS Try.prog w0 23 #[ptr mb, .int .i64 n] H (fun e H' => e = .returned (.tuple #[.int .i64 0, .int .i64 2]) ∧ H' = H) := by
  refine FnS_intro (n := 105) (rs := [.tmp 4, .tmp 5]) (vs := [ptr mb, .int .i64 n]) Try.func23 rfl Try.ntmps23 rfl rfl ?_
  refine C_seq ?_
  refine C_region ?_
  refine L_y rfl (y_assign rfl) rfl ?_
  refine L_y rfl (y_assign rfl) rfl ?_
  refine L_nil ?_
  refine C_seq ?_
  refine C_seq ?_
  refine C_region ?_
  refine L_y rfl (y_move rfl) rfl ?_
  refine L_y rfl (y_move rfl) rfl ?_
  refine L_op rfl (op_call rfl rfl (fun a w => Try.call58 a w) rfl ?_)
  refine (has_h (hM) _).mono ?_
  rintro _ _ ⟨rfl, e⟩
  obtain rfl := e.symm
  clear e
  refine ⟨_, rfl, ?_⟩
  refine L_y rfl (y_not rfl) rfl ?_
  refine L_nil ?_
  refine C_cond_t rfl ?_
  refine C_seq ?_
  refine C_region ?_
  refine L_y rfl (y_assign rfl) rfl ?_
  refine L_y rfl (y_assign rfl) rfl ?_
  refine L_nil ?_
  refine C_ret ?_
  refine B_ret (rv_tmp rfl (rv_tmp rfl rv_nil)) (hsub (.refl _)) ?_
  exact ⟨rfl, rfl⟩

theorem mput_h {w0 : World} {H : Hp} {mb bx r0 r1 : Nat} {gv : Value} (hM : Sees (fun w => St w0 w H) mb (.cells (hcells bx r0 r1 gv).toArray 110)) (n : Int) (s : Sec) (hs : s.length = 128) (fv : Value) (hf : fv.cells = #[fv]) : FnS Try.prog w0 54 #[ptr mb, .int .i64 n, .agg (bs s).toArray, fv] H (fun e H' => e = .returned (.int .i64 2) ∧ H' = H) := by
  refine FnS_intro (n := 77) (rs := [.tmp 8]) (vs := [ptr mb, .int .i64 n, .agg (bs s).toArray, fv]) Try.func54 rfl Try.ntmps54 rfl rfl ?_
  refine C_seq ?_
  refine C_region ?_
  refine L_op rfl (op_box rfl rfl rfl (fun B1 => ?_))
  refine L_y rfl (y_assign rfl) rfl ?_
  refine L_nil ?_
  refine C_seq ?_
  refine C_seq ?_
  refine C_region ?_
  refine L_y rfl (y_move rfl) rfl ?_
  refine L_y rfl (y_move rfl) rfl ?_
  refine L_op rfl (op_call rfl rfl (fun a w => Try.call58 a w) rfl ?_)
  refine (has_h (hM.up) _).mono ?_
  rintro _ _ ⟨rfl, e⟩
  obtain rfl := e.symm
  clear e
  refine ⟨_, rfl, ?_⟩
  refine L_y rfl (y_not rfl) rfl ?_
  refine L_nil ?_
  refine C_cond_t rfl ?_
  refine C_seq ?_
  refine C_region ?_
  refine L_y rfl (y_assign rfl) rfl ?_
  refine L_nil ?_
  refine C_ret ?_
  refine B_ret (rv_tmp rfl rv_nil) (hsub (.cons _ (.refl _))) ?_
  exact ⟨rfl, rfl⟩

theorem mwrite_h {w0 : World} {H : Hp} {mb bx r0 r1 : Nat} {gv : Value} (hM : Sees (fun w => St w0 w H) mb (.cells (hcells bx r0 r1 gv).toArray 110)) (n : Int) (s : Sec) (hs : s.length = 128) : FnS Try.prog w0 19 #[ptr mb, .int .i64 n, .agg (bs s).toArray] H (fun e H' => e = .returned (.int .i64 2) ∧ H' = H) := by
  refine FnS_intro (n := 11) (rs := [.tmp 6]) (vs := [ptr mb, .int .i64 n, .agg (bs s).toArray]) Try.func19 rfl Try.ntmps19 rfl rfl ?_
  refine C_seq ?_
  refine C_region ?_
  refine L_op rfl (op_box rfl rfl rfl (fun B1 => ?_))
  refine L_y rfl (y_assign rfl) rfl ?_
  refine L_nil ?_
  refine C_seq ?_
  refine C_region ?_
  refine L_y rfl (y_move rfl) rfl ?_
  refine L_y rfl (y_move rfl) rfl ?_
  refine L_y rfl (y_loadA rfl ag_32 sz_32 (sees 0 0 rfl) (by rw [bs_length, hs]; decide) (bs_whole0 _ hs)) rfl ?_
  refine L_op rfl (op_call rfl rfl (fun a w => Try.call54 a w) rfl ?_)
  refine (mput_h (hM.up) _ s hs _ rfl).mono ?_
  rintro _ _ ⟨rfl, e⟩
  obtain rfl := e.symm
  clear e
  refine ⟨_, rfl, ?_⟩
  refine L_y rfl (y_assign rfl) rfl ?_
  refine L_nil ?_
  refine C_ret ?_
  refine B_ret (rv_tmp rfl rv_nil) (hsub (.cons _ (.refl _))) ?_
  exact ⟨rfl, rfl⟩

theorem mchoose_h {w0 : World} {H : Hp} {mb bx r0 r1 : Nat} {gv : Value} (hM : Sees (fun w => St w0 w H) mb (.cells (hcells bx r0 r1 gv).toArray 110)) (n : Int) (s : Sec) (hs : s.length = 128) : FnS Try.prog w0 31 #[ptr mb, .int .i64 n, .agg (bs s).toArray] H (fun e H' => e = .returned (.int .i64 2) ∧ H' = H) := by
  refine FnS_intro (n := 12) (rs := [.tmp 6]) (vs := [ptr mb, .int .i64 n, .agg (bs s).toArray]) Try.func31 rfl Try.ntmps31 rfl rfl ?_
  refine C_seq ?_
  refine C_region ?_
  refine L_op rfl (op_box rfl rfl rfl (fun B1 => ?_))
  refine L_op rfl (op_box rfl rfl rfl (fun B2 => ?_))
  refine L_y rfl (y_assign rfl) rfl ?_
  refine L_nil ?_
  refine C_seq ?_
  refine C_region ?_
  refine L_y rfl (y_move rfl) rfl ?_
  refine L_y rfl (y_load rfl ag_3 (sees 1 0 rfl) rfl) rfl ?_
  refine L_y rfl (y_loadA rfl ag_32 sz_32 (sees 0 0 rfl) (by rw [bs_length, hs]; decide) (bs_whole0 _ hs)) rfl ?_
  refine L_y rfl (y_makeFunc rfl rfl) rfl ?_
  refine L_op rfl (op_call rfl rfl (fun a w => Try.call54 a w) rfl ?_)
  refine (mput_h (hM.up.up) _ s hs _ rfl).mono ?_
  rintro _ _ ⟨rfl, e⟩
  obtain rfl := e.symm
  clear e
  refine ⟨_, rfl, ?_⟩
  refine L_y rfl (y_assign rfl) rfl ?_
  refine L_nil ?_
  refine C_ret ?_
  refine B_ret (rv_tmp rfl rv_nil) (hsub (.cons _ (.cons _ (.refl _)))) ?_
  exact ⟨rfl, rfl⟩

theorem mboth_h {w0 : World} {H : Hp} {mb bx r0 r1 : Nat} {gv : Value} (hM : Sees (fun w => St w0 w H) mb (.cells (hcells bx r0 r1 gv).toArray 110)) (n : Int) : FnS Try.prog w0 25 #[ptr mb, .int .i64 n] H (fun e H' => e = .returned (.slice none 0 0) ∧ H' = H) := by
  refine FnS_intro (n := 47) (rs := [.tmp 4]) (vs := [ptr mb, .int .i64 n]) Try.func25 rfl Try.ntmps25 rfl rfl ?_
  refine C_seq ?_
  refine C_region ?_
  refine L_y rfl (y_assign rfl) rfl ?_
  refine L_nil ?_
  refine C_seq ?_
  refine C_region ?_
  refine L_y rfl (y_assign rfl) rfl ?_
  refine L_nil ?_
  refine C_seq ?_
  refine C_seq ?_
  refine C_region ?_
  refine L_y rfl (y_move rfl) rfl ?_
  refine L_y rfl (y_move rfl) rfl ?_
  refine L_op rfl (op_call rfl rfl (fun a w => Try.call58 a w) rfl ?_)
  refine (has_h (hM) _).mono ?_
  rintro _ _ ⟨rfl, e⟩
  obtain rfl := e.symm
  clear e
  refine ⟨_, rfl, ?_⟩
  refine L_y rfl (y_not rfl) rfl ?_
  refine L_nil ?_
  refine C_cond_t rfl ?_
  refine C_seq ?_
  refine C_region ?_
  refine L_y rfl (y_assign rfl) rfl ?_
  refine L_nil ?_
  refine C_ret ?_
  refine B_ret (rv_tmp rfl rv_nil) (hsub (.refl _)) ?_
  exact ⟨rfl, rfl⟩

theorem mflush_0 {w0 : World} {H : Hp}  : FnS Try.prog w0 21 #[.pointer none] H (fun e H' => e = .returned (.int .i64 13) ∧ H' = H) := by
  refine FnS_intro (n := 7) (rs := [.tmp 2]) (vs := [.pointer none]) Try.func21 rfl Try.ntmps21 rfl rfl ?_
  refine C_seq ?_
  refine C_region ?_
  refine L_y rfl (y_assign rfl) rfl ?_
  refine L_nil ?_
  refine C_seq ?_
  refine C_seq ?_
  refine C_region ?_
  refine L_y rfl (y_move rfl) rfl ?_
  refine L_y rfl (y_eqp rfl rfl Try.underlying26) rfl ?_
  refine L_nil ?_
  refine C_cond_t rfl ?_
  refine C_seq ?_
  refine C_region ?_
  refine L_y rfl (y_assign rfl) rfl ?_
  refine L_nil ?_
  refine C_ret ?_
  refine B_ret (rv_tmp rfl rv_nil) (hsub (.refl _)) ?_
  exact ⟨rfl, rfl⟩

theorem msync_0 {w0 : World} {H : Hp}  : FnS Try.prog w0 32 #[.pointer none] H (fun e H' => e = .returned (.int .i64 13) ∧ H' = H) := by
  refine FnS_intro (n := 100) (rs := [.tmp 2]) (vs := [.pointer none]) Try.func32 rfl Try.ntmps32 rfl rfl ?_
  refine C_seq ?_
  refine C_region ?_
  refine L_y rfl (y_assign rfl) rfl ?_
  refine L_nil ?_
  refine C_seq ?_
  refine C_seq ?_
  refine C_region ?_
  refine L_y rfl (y_move rfl) rfl ?_
  refine L_y rfl (y_eqp rfl rfl Try.underlying26) rfl ?_
  refine L_y rfl (y_move rfl) rfl ?_
  refine L_skip rfl rfl ?_
  refine L_skip rfl rfl ?_
  refine L_skip rfl rfl ?_
  refine L_skip rfl rfl ?_
  refine L_y rfl (y_pick_t rfl rfl) rfl ?_
  refine L_nil ?_
  refine C_cond_t rfl ?_
  refine C_seq ?_
  refine C_region ?_
  refine L_y rfl (y_assign rfl) rfl ?_
  refine L_nil ?_
  refine C_ret ?_
  refine B_ret (rv_tmp rfl rv_nil) (hsub (.refl _)) ?_
  exact ⟨rfl, rfl⟩

theorem new_h {w0 : World} {H : Hp} {f : Nat} {cap : List Value} {d : Dv} (hD : Sees (fun w => St w0 w H) d.b (.cells d.cells.toArray dt.dev)) : FnS Try.prog w0 17 #[ptr d.b, .pointer none, .func (.func f) #[] cap.toArray] H (fun e H' => ∃ mb r0 r1, e = .returned (ptr mb) ∧ H' = hseg 110 mb d.b r0 r1 (.func (.func f) #[] cap.toArray) :: H) := by
  refine FnS_intro (n := 64) (rs := [.tmp 6]) (vs := [ptr d.b, .pointer none, .func (.func f) #[] cap.toArray]) Try.func17 rfl Try.ntmps17 rfl rfl ?_
  refine C_seq ?_
  refine C_region ?_
  refine L_y rfl (y_assign rfl) rfl ?_
  refine L_nil ?_
  refine C_seq ?_
  refine C_region ?_
  refine L_y rfl (y_move rfl) rfl ?_
  refine L_op rfl (op_call rfl rfl (fun a w => Try.call52 a w) rfl ?_)
  refine (len_l rfl (hD)).mono ?_
  rintro _ _ ⟨rfl, e⟩
  obtain rfl := e.symm
  clear e
  refine ⟨_, rfl, ?_⟩
  refine L_y rfl (y_move rfl) rfl ?_
  refine L_op rfl (op_call rfl rfl (fun a w => Try.call52 a w) rfl ?_)
  refine len_nil.mono ?_
  rintro _ _ ⟨rfl, e⟩
  obtain rfl := e.symm
  clear e
  refine ⟨_, rfl, ?_⟩
  refine L_y rfl (y_min0 rfl rfl) rfl ?_
  refine L_y rfl (y_move rfl) rfl ?_
  refine L_y rfl (y_build (vs := [(1, _), (2, _)]) (l := [.pointer none, .map none, .pointer none, .map none, .int .i64 0, .func (.func f) #[] cap.toArray]) rfl pl_110 zl_110 (fill_cons (off := 4) (m := 1) (vs := [_]) rfl rfl rfl (Nat.le_of_ble_eq_true rfl) (fill_cons (off := 5) (m := 1) (vs := [_]) rfl rfl rfl (Nat.le_of_ble_eq_true rfl) rfl))) rfl ?_
  refine L_op rfl (op_box rfl rfl rfl (fun B1 => ?_))
  refine L_y rfl (y_assign rfl) rfl ?_
  refine L_nil ?_
  refine C_seq ?_
  refine C_seq ?_
  refine C_region ?_
  refine L_y rfl (y_move rfl) rfl ?_
  refine L_y rfl (y_move rfl) rfl ?_
  refine L_op rfl (op_buildSlice (vs := [(0, _), (1, _)]) rfl Try.underlying111 sz_24 zl_24 rfl (by decide) rfl rfl (fun B2 => ?_))
  refine L_y rfl (y_lenS rfl rfl Try.underlying111) rfl ?_
  refine L_y rfl (y_move rfl) rfl ?_
  refine L_nil ?_
  refine C_block ?_
  refine C_loopIn (In_round ?_)
  refine C_seq ?_
  refine C_region ?_
  refine L_y rfl (y_lss rfl rfl) rfl ?_
  refine L_nil ?_
  refine C_seq ?_
  refine C_cond_t rfl ?_
  refine C_skip ?_
  refine C_seq ?_
  refine C_block ?_
  refine C_seq ?_
  refine C_region ?_
  refine L_y rfl (y_move rfl) rfl ?_
  refine L_y rfl (y_indexS rfl rfl Try.underlying111 sz_24 (by omega) (by omega) (show _ = 0 from rfl)) rfl ?_
  refine L_y rfl (y_load rfl ag_24 (sees 0 0 rfl) rfl) rfl ?_
  refine L_y rfl (y_assign rfl) rfl ?_
  refine L_y rfl (y_assign rfl) rfl ?_
  refine L_nil ?_
  refine C_seq ?_
  refine C_region ?_
  refine L_y rfl (y_move rfl) rfl ?_
  refine L_y rfl (y_move rfl) rfl ?_
  refine L_y rfl (y_move rfl) rfl ?_
  refine L_op rfl (op_makeMap rfl (fun B3 => ?_))
  refine L_y rfl (y_build (vs := [(0, _), (1, _)]) (l := [ptr d.b, .map (some B3)]) rfl pl_107 zl_107 (fill_cons (off := 0) (m := 1) (vs := [_]) rfl rfl rfl (Nat.le_of_ble_eq_true rfl) (fill_cons (off := 1) (m := 1) (vs := [_]) rfl rfl rfl (Nat.le_of_ble_eq_true rfl) rfl))) rfl ?_
  refine L_y rfl (y_nilCheck rfl) rfl ?_
  refine L_y rfl (y_fieldAddr rfl fl_110_0) rfl ?_
  refine L_y rfl (y_indexA rfl rfl Try.underlying108 sz_107 (by omega) (by omega) (show _ = 0 from rfl)) rfl ?_
  refine L_op rfl (op_store (vs := [ptr d.b, .map (some B3)]) 2 0 rfl rfl rfl sz_107 rfl rfl (ones rfl) (Nat.le_of_ble_eq_true rfl) ?_)
  rw [show spl [.pointer none, .map none, .pointer none, .map none, .int .i64 0, .func (.func f) #[] cap.toArray] 0 [ptr d.b, .map (some B3)] = [ptr d.b, .map (some B3), .pointer none, .map none, .int .i64 0, .func (.func f) #[] cap.toArray] from rfl]
  refine L_nil ?_
  refine C_seq ?_
  refine C_region ?_
  refine L_y rfl (y_assign rfl) rfl ?_
  refine L_nil ?_
  refine C_block ?_
  refine C_loopIn (In_round ?_)
  refine C_seq ?_
  refine C_seq ?_
  refine C_region ?_
  refine L_y rfl (y_move rfl) rfl ?_
  refine L_y rfl (y_move rfl) rfl ?_
  refine L_y rfl (y_nilCheck rfl) rfl ?_
  refine L_y rfl (y_fieldAddr rfl fl_110_1) rfl ?_
  refine L_y rfl (y_load rfl ag_3 (sees 2 0 rfl) rfl) rfl ?_
  refine L_y rfl (y_lss rfl rfl) rfl ?_
  refine L_y rfl (y_move rfl) rfl ?_
  refine L_skip rfl rfl ?_
  refine L_skip rfl rfl ?_
  refine L_skip rfl rfl ?_
  refine L_skip rfl rfl ?_
  refine L_skip rfl rfl ?_
  refine L_skip rfl rfl ?_
  refine L_skip rfl rfl ?_
  refine L_skip rfl rfl ?_
  refine L_y rfl (y_pick_f rfl rfl) rfl ?_
  refine L_nil ?_
  refine C_cond_f rfl ?_
  refine C_exit ?_
  refine C_region ?_
  refine L_y rfl (y_add rfl rfl (show _ = (1 : Int) from rfl)) rfl ?_
  refine L_y rfl (y_move rfl) rfl ?_
  refine L_nil ?_
  refine In_round ?_
  refine C_seq ?_
  refine C_region ?_
  refine L_y rfl (y_lss rfl rfl) rfl ?_
  refine L_nil ?_
  refine C_seq ?_
  refine C_cond_t rfl ?_
  refine C_skip ?_
  refine C_seq ?_
  refine C_block ?_
  refine C_seq ?_
  refine C_region ?_
  refine L_y rfl (y_move rfl) rfl ?_
  refine L_y rfl (y_indexS rfl rfl Try.underlying111 sz_24 (by omega) (by omega) (show _ = 1 from rfl)) rfl ?_
  refine L_y rfl (y_load rfl ag_24 (sees 1 0 rfl) rfl) rfl ?_
  refine L_y rfl (y_assign rfl) rfl ?_
  refine L_y rfl (y_assign rfl) rfl ?_
  refine L_nil ?_
  refine C_seq ?_
  refine C_region ?_
  refine L_y rfl (y_move rfl) rfl ?_
  refine L_y rfl (y_move rfl) rfl ?_
  refine L_y rfl (y_move rfl) rfl ?_
  refine L_op rfl (op_makeMap rfl (fun B4 => ?_))
  refine L_y rfl (y_build (vs := [(0, _), (1, _)]) (l := [.pointer none, .map (some B4)]) rfl pl_107 zl_107 (fill_cons (off := 0) (m := 1) (vs := [_]) rfl rfl rfl (Nat.le_of_ble_eq_true rfl) (fill_cons (off := 1) (m := 1) (vs := [_]) rfl rfl rfl (Nat.le_of_ble_eq_true rfl) rfl))) rfl ?_
  refine L_y rfl (y_nilCheck rfl) rfl ?_
  refine L_y rfl (y_fieldAddr rfl fl_110_0) rfl ?_
  refine L_y rfl (y_indexA rfl rfl Try.underlying108 sz_107 (by omega) (by omega) (show _ = 2 from rfl)) rfl ?_
  refine L_op rfl (op_store (vs := [.pointer none, .map (some B4)]) 3 0 rfl rfl rfl sz_107 rfl rfl (ones rfl) (Nat.le_of_ble_eq_true rfl) ?_)
  rw [show spl [ptr d.b, .map (some B3), .pointer none, .map none, .int .i64 0, .func (.func f) #[] cap.toArray] 2 [.pointer none, .map (some B4)] = [ptr d.b, .map (some B3), .pointer none, .map (some B4), .int .i64 0, .func (.func f) #[] cap.toArray] from rfl]
  refine L_nil ?_
  refine C_seq ?_
  refine C_region ?_
  refine L_y rfl (y_assign rfl) rfl ?_
  refine L_nil ?_
  refine C_block ?_
  refine C_loopIn (In_round ?_)
  refine C_seq ?_
  refine C_seq ?_
  refine C_region ?_
  refine L_y rfl (y_move rfl) rfl ?_
  refine L_y rfl (y_move rfl) rfl ?_
  refine L_y rfl (y_nilCheck rfl) rfl ?_
  refine L_y rfl (y_fieldAddr rfl fl_110_1) rfl ?_
  refine L_y rfl (y_load rfl ag_3 (sees 3 0 rfl) rfl) rfl ?_
  refine L_y rfl (y_lss rfl rfl) rfl ?_
  refine L_y rfl (y_move rfl) rfl ?_
  refine L_skip rfl rfl ?_
  refine L_skip rfl rfl ?_
  refine L_skip rfl rfl ?_
  refine L_skip rfl rfl ?_
  refine L_skip rfl rfl ?_
  refine L_skip rfl rfl ?_
  refine L_skip rfl rfl ?_
  refine L_skip rfl rfl ?_
  refine L_y rfl (y_pick_f rfl rfl) rfl ?_
  refine L_nil ?_
  refine C_cond_f rfl ?_
  refine C_exit ?_
  refine C_region ?_
  refine L_y rfl (y_add rfl rfl (show _ = (2 : Int) from rfl)) rfl ?_
  refine L_y rfl (y_move rfl) rfl ?_
  refine L_nil ?_
  refine In_round ?_
  refine C_seq ?_
  refine C_region ?_
  refine L_y rfl (y_lss rfl rfl) rfl ?_
  refine L_nil ?_
  refine C_seq ?_
  refine C_cond_f rfl ?_
  refine C_exit ?_
  refine C_seq ?_
  refine C_region ?_
  refine L_y rfl (y_move rfl) rfl ?_
  refine L_y rfl (y_assign rfl) rfl ?_
  refine L_nil ?_
  refine C_ret ?_
  refine B_ret (rv_tmp rfl rv_nil) ((hsub_flat (H := [_] :: [_] :: [_] :: H) (H' := hseg 110 B1 d.b B3 B4 (.func (.func f) #[] cap.toArray) :: H) rfl).trans ((hsub (.cons_cons _ (.cons_cons _ (.cons_cons _ (.cons _ (.refl _)))))).trans (hsub_pick [3, 1, 0] rfl))) ?_
  exact ⟨B1, B3, B4, rfl, rfl⟩

theorem stale_h {w0 : World} {H : Hp} {mb bx r0 r1 : Nat} {gv : Value} : FnS Try.prog w0 35 #[ptr mb] (hseg 110 mb bx r0 r1 gv :: H) (fun e H' => e = .returned (.tuple #[.int .i64 0, .int .i64 0]) ∧ H' = hseg 110 mb bx r0 r1 gv :: H) := by
  refine FnS_intro (n := 20) (rs := [.tmp 2, .tmp 3]) (vs := [ptr mb]) Try.func35 rfl Try.ntmps35 rfl rfl ?_
  refine C_seq ?_
  refine C_region ?_
  refine L_y rfl (y_assign rfl) rfl ?_
  refine L_y rfl (y_assign rfl) rfl ?_
  refine L_nil ?_
  refine C_seq ?_
  refine C_seq ?_
  refine C_region ?_
  refine L_y rfl (y_move rfl) rfl ?_
  refine L_y rfl (y_eqp rfl rfl Try.underlying26) rfl ?_
  refine L_nil ?_
  refine C_cond_f rfl ?_
  refine C_skip ?_
  refine C_seq ?_
  refine C_regionH0 (by kernel_rfl) ?_
  refine H_y 0 rfl (by kernel_rfl) (by kernel_rfl) (by kernel_rfl) (HSub.refl _) rfl (y_move rfl) rfl ?_
  refine H_y 1 rfl (by kernel_rfl) (by kernel_rfl) (by kernel_rfl) (HSub.refl _) rfl (y_nilCheck rfl) rfl ?_
  refine H_y 2 rfl (by kernel_rfl) (by kernel_rfl) (by kernel_rfl) (HSub.refl _) rfl (y_fieldAddr rfl fl_110_0) rfl ?_
  refine H_y 3 rfl (by kernel_rfl) (by kernel_rfl) (by kernel_rfl) (HSub.refl _) rfl (y_indexA rfl rfl Try.underlying108 sz_107 (by omega) (by omega) (show _ = 0 from rfl)) rfl ?_
  refine H_y 4 rfl (by kernel_rfl) (by kernel_rfl) (by kernel_rfl) (HSub.refl _) rfl (y_fieldAddr rfl fl_107_1) rfl ?_
  refine H_y 5 rfl (by kernel_rfl) (by kernel_rfl) (by kernel_rfl) (HSub.refl _) rfl (y_load rfl ag_105 (sees 0 0 rfl) rfl) rfl ?_
  refine H_y 6 rfl (by kernel_rfl) (by kernel_rfl) (by kernel_rfl) (HSub.refl _) rfl (y_lenM rfl rfl Try.underlying105 (sees 0 1 rfl)) rfl ?_
  refine H_y 7 rfl (by kernel_rfl) (by kernel_rfl) (by kernel_rfl) (HSub.refl _) rfl (y_move rfl) rfl ?_
  refine H_y 8 rfl (by kernel_rfl) (by kernel_rfl) (by kernel_rfl) (HSub.refl _) rfl (y_nilCheck rfl) rfl ?_
  refine H_y 9 rfl (by kernel_rfl) (by kernel_rfl) (by kernel_rfl) (HSub.refl _) rfl (y_fieldAddr rfl fl_110_0) rfl ?_
  refine H_y 10 rfl (by kernel_rfl) (by kernel_rfl) (by kernel_rfl) (HSub.refl _) rfl (y_indexA rfl rfl Try.underlying108 sz_107 (by omega) (by omega) (show _ = 2 from rfl)) rfl ?_
  refine H_y 11 rfl (by kernel_rfl) (by kernel_rfl) (by kernel_rfl) (HSub.refl _) rfl (y_fieldAddr rfl fl_107_1) rfl ?_
  refine H_y 12 rfl (by kernel_rfl) (by kernel_rfl) (by kernel_rfl) (HSub.refl _) rfl (y_load rfl ag_105 (sees 0 0 rfl) rfl) rfl ?_
  refine H_y 13 rfl (by kernel_rfl) (by kernel_rfl) (by kernel_rfl) (HSub.refl _) rfl (y_lenM rfl rfl Try.underlying105 (sees 0 2 rfl)) rfl ?_
  refine H_y 14 rfl (by kernel_rfl) (by kernel_rfl) (by kernel_rfl) (HSub.refl _) rfl (y_assign rfl) rfl ?_
  refine H_y 15 rfl (by kernel_rfl) (by kernel_rfl) (by kernel_rfl) (HSub.refl _) rfl (y_assign rfl) rfl ?_
  refine H_done (by kernel_rfl) ?_
  refine C_ret ?_
  refine B_ret (rv_tmp rfl (rv_tmp rfl rv_nil)) (HSub.refl _) ?_
  exact ⟨rfl, rfl⟩

theorem there_h {w0 : World} {H : Hp} {d : Dv} {p : Pw} (hG : GOk dt p [] d []) (ho : d.a.out = false) (hp : p.a.off = false) {mv : Value} : FnS Try.prog w0 53 #[.agg [ptr d.b, mv].toArray] (d.o dt :: d.t dt :: d.q dt :: p.o dt :: p.q dt :: H) (fun e H' => e = .returned (.bool true) ∧ H' = d.o dt :: d.t dt :: d.q dt :: p.o dt :: p.q dt :: H) := by
  refine FnS_intro (n := 16) (rs := [.tmp 2]) (vs := [.agg [ptr d.b, mv].toArray]) Try.func53 rfl Try.ntmps53 rfl rfl ?_
  refine C_seq ?_
  refine C_region ?_
  refine L_op rfl (op_box rfl rfl rfl (fun B1 => ?_))
  refine L_y rfl (y_assign rfl) rfl ?_
  refine L_nil ?_
  refine C_seq ?_
  refine C_seq ?_
  refine C_region ?_
  refine L_y rfl (y_fieldAddr rfl fl_107_0) rfl ?_
  refine L_y rfl (y_load rfl ag_24 (sees 0 0 rfl) rfl) rfl ?_
  refine L_y rfl (y_eqp rfl rfl Try.underlying24) rfl ?_
  refine L_nil ?_
  refine C_cond_f rfl ?_
  refine C_skip ?_
  refine C_seq ?_
  refine C_region ?_
  refine L_y rfl (y_fieldAddr rfl fl_107_0) rfl ?_
  refine L_y rfl (y_load rfl ag_24 (sees 0 0 rfl) rfl) rfl ?_
  refine L_op rfl (op_call rfl rfl (fun a w => Try.call60 a w) rfl ?_)
  refine ((read_l (H := (_ :: H)) (L := []) (R := []) hG rfl 0).sub (hsub_pick [1, 1, 1, 1, 1] rfl)).mono ?_
  rintro _ _ ⟨rfl, rfl⟩
  refine ⟨_, rfl, ?_⟩
  refine L_y rfl (y_move rfl) rfl ?_
  refine L_y rfl (y_extract rfl rfl) rfl ?_
  refine L_y rfl (y_extract rfl rfl) rfl ?_
  refine L_op rfl (op_alloc zl_32 rfl (fun B2 => ?_))
  refine L_op rfl (op_storeA 0 0 rfl rfl rfl sz_32 (by rw [bs_length, readS_len hG.dok.1]) rfl (bs_one _) (by simp) ?_)
  refine L_y rfl (y_assign rfl) rfl ?_
  refine L_nil ?_
  refine C_seq ?_
  refine C_region ?_
  refine L_y rfl (y_move rfl) rfl ?_
  refine L_y rfl (y_nei rfl rfl) rfl ?_
  refine L_y rfl (y_assign rfl) rfl ?_
  refine L_nil ?_
  refine C_ret ?_
  refine B_ret (rv_tmp rfl rv_nil) ((hsub (.cons_cons _ (.cons_cons _ (.cons_cons _ (.cons_cons _ (.cons_cons _ (.cons _ (.cons _ (.refl _))))))))).trans (hsub_pick [1, 1, 1, 1, 1] rfl)) ?_
  exact ⟨ret_bool (there_1 ho hp 0), rfl⟩

theorem present_h {w0 : World} {H : Hp} {d : Dv} {p : Pw} (hG : GOk dt p [] d []) (ho : d.a.out = false) (hp : p.a.off = false) {mb r0 r1 : Nat} {gv : Value} : FnS Try.prog w0 59 #[ptr mb] (hseg 110 mb d.b r0 r1 gv :: d.o dt :: d.t dt :: d.q dt :: p.o dt :: p.q dt :: H) (fun e H' => ∃ g, slOk 1 g 1 [.int .i64 0] ∧ e = .returned (slV g 1) ∧ H' = slSeg 3 g [.int .i64 0] :: hseg 110 mb d.b r0 r1 gv :: d.o dt :: d.t dt :: d.q dt :: p.o dt :: p.q dt :: H) := by
  refine FnS_intro (n := 21) (rs := [.tmp 2]) (vs := [ptr mb]) Try.func59 rfl Try.ntmps59 rfl rfl ?_
  refine C_seq ?_
  refine C_region ?_
  refine L_y rfl (y_assign rfl) rfl ?_
  refine L_nil ?_
  refine C_seq ?_
  refine C_region ?_
  refine L_y rfl (y_assign rfl) rfl ?_
  refine L_nil ?_
  refine C_seq ?_
  refine C_seq ?_
  refine C_region ?_
  refine L_y rfl (y_move rfl) rfl ?_
  refine L_nil ?_
  refine C_block ?_
  refine C_loopIn (In_round ?_)
  refine C_seq ?_
  refine C_region ?_
  refine L_y rfl (y_lss rfl rfl) rfl ?_
  refine L_nil ?_
  refine C_seq ?_
  refine C_cond_t rfl ?_
  refine C_skip ?_
  refine C_seq ?_
  refine C_block ?_
  refine C_seq ?_
  refine C_region ?_
  refine L_y rfl (y_move rfl) rfl ?_
  refine L_y rfl (y_assign rfl) rfl ?_
  refine L_nil ?_
  refine C_seq ?_
  refine C_region ?_
  refine L_y rfl (y_move rfl) rfl ?_
  refine L_y rfl (y_move rfl) rfl ?_
  refine L_y rfl (y_nilCheck rfl) rfl ?_
  refine L_y rfl (y_fieldAddr rfl fl_110_0) rfl ?_
  refine L_y rfl (y_indexA rfl rfl Try.underlying108 sz_107 (by omega) (by omega) (show _ = 0 from rfl)) rfl ?_
  refine L_y rfl (y_loadA rfl ag_107 sz_107 (sees 0 0 rfl) (Nat.le_of_ble_eq_true rfl) rfl) rfl ?_
  refine L_op rfl (op_call rfl rfl (fun a w => Try.call53 a w) rfl ?_)
  refine ((there_h (H := (_ :: H)) hG ho hp).sub (hsub_pick [1, 1, 1, 1, 1] rfl)).mono ?_
  rintro _ _ ⟨rfl, rfl⟩
  refine ⟨_, rfl, ?_⟩
  refine L_nil ?_
  refine C_cond_t rfl ?_
  refine C_region ?_
  refine L_y rfl (y_move rfl) rfl ?_
  refine L_y rfl (y_move rfl) rfl ?_
  refine L_op rfl (op_buildSlice (vs := [(0, _)]) rfl Try.underlying118 sz_3 zl_3 rfl (by decide) rfl rfl (fun B1 => ?_))
  refine L_op rfl (op_append0 (m := 1) (vs := [.int .i64 0]) rfl rfl (src_slice (sees 0 0 rfl) (Nat.le_of_ble_eq_true rfl) rfl) rfl (by simp [one, Value.oneCell']) Try.underlying118 ni_118 sz_3 by_3 (by decide) zl_3 rfl (by decide) rfl (fun g1 hg1 => ?_))
  refine L_y rfl (y_assign rfl) rfl ?_
  refine L_nil ?_
  refine C_region ?_
  refine L_y rfl (y_add rfl rfl (show _ = (1 : Int) from rfl)) rfl ?_
  refine L_y rfl (y_move rfl) rfl ?_
  refine L_nil ?_
  refine In_round ?_
  refine C_seq ?_
  refine C_region ?_
  refine L_y rfl (y_lss rfl rfl) rfl ?_
  refine L_nil ?_
  refine C_seq ?_
  refine C_cond_t rfl ?_
  refine C_skip ?_
  refine C_seq ?_
  refine C_block ?_
  refine C_seq ?_
  refine C_region ?_
  refine L_y rfl (y_move rfl) rfl ?_
  refine L_y rfl (y_assign rfl) rfl ?_
  refine L_nil ?_
  refine C_seq ?_
  refine C_region ?_
  refine L_y rfl (y_move rfl) rfl ?_
  refine L_y rfl (y_move rfl) rfl ?_
  refine L_y rfl (y_nilCheck rfl) rfl ?_
  refine L_y rfl (y_fieldAddr rfl fl_110_0) rfl ?_
  refine L_y rfl (y_indexA rfl rfl Try.underlying108 sz_107 (by omega) (by omega) (show _ = 2 from rfl)) rfl ?_
  refine L_y rfl (y_loadA rfl ag_107 sz_107 (sees 7 0 rfl) (Nat.le_of_ble_eq_true rfl) rfl) rfl ?_
  refine L_op rfl (op_call rfl rfl (fun a w => Try.call53 a w) rfl ?_)
  refine there_nil.mono ?_
  rintro _ _ ⟨rfl, e⟩
  obtain rfl := e.symm
  clear e
  refine ⟨_, rfl, ?_⟩
  refine L_nil ?_
  refine C_cond_f rfl ?_
  refine C_skip ?_
  refine C_region ?_
  refine L_y rfl (y_add rfl rfl (show _ = (2 : Int) from rfl)) rfl ?_
  refine L_y rfl (y_move rfl) rfl ?_
  refine L_nil ?_
  refine In_round ?_
  refine C_seq ?_
  refine C_region ?_
  refine L_y rfl (y_lss rfl rfl) rfl ?_
  refine L_nil ?_
  refine C_seq ?_
  refine C_cond_f rfl ?_
  refine C_exit ?_
  refine C_seq ?_
  refine C_region ?_
  refine L_y rfl (y_move rfl) rfl ?_
  refine L_y rfl (y_assign rfl) rfl ?_
  refine L_nil ?_
  refine C_ret ?_
  refine B_ret (rv_tmp rfl rv_nil) ((hsub (.cons_cons _ (.cons_cons _ (.cons_cons _ (.cons_cons _ (.cons_cons _ (.cons_cons _ (.cons_cons _ (.cons _ (.refl _)))))))))).trans (hsub_pick [0, 6, 1, 1, 1, 1, 1] rfl)) ?_
  exact ⟨g1, hg1, rfl, rfl⟩

theorem sync_h {w0 : World} {H : Hp} {d : Dv} {p : Pw} (hG : GOk dt p [] d []) (ho : d.a.out = false) (hp : p.a.off = false) {mb r0 r1 : Nat} {gv : Value} : FnS Try.prog w0 32 #[ptr mb] (hseg 110 mb d.b r0 r1 gv :: d.o dt :: d.t dt :: d.q dt :: p.o dt :: p.q dt :: H) (fun e H' => e = .returned (.int .i64 13) ∧ H' = hseg 110 mb d.b r0 r1 gv :: d.o dt :: d.t dt :: d.q dt :: p.o dt :: p.q dt :: H) := by
  refine FnS_intro (n := 100) (rs := [.tmp 2]) (vs := [ptr mb]) Try.func32 rfl Try.ntmps32 rfl rfl ?_
  refine C_seq ?_
  refine C_region ?_
  refine L_y rfl (y_assign rfl) rfl ?_
  refine L_nil ?_
  refine C_seq ?_
  refine C_seq ?_
  refine C_region ?_
  refine L_y rfl (y_move rfl) rfl ?_
  refine L_y rfl (y_eqp rfl rfl Try.underlying26) rfl ?_
  refine L_y rfl (y_move rfl) rfl ?_
  refine L_y rfl (y_move rfl) rfl ?_
  refine L_op rfl (op_call rfl rfl (fun a w => Try.call59 a w) rfl ?_)
  refine ((present_h hG ho hp).sub (hsub_pick [0, 0, 0, 0, 0, 0] rfl)).mono ?_
  rintro _ _ ⟨g1, hg1, rfl, rfl⟩
  cases g1 with
  | none => exact slOk_none hg1 (by decide)
  | some g1 => ?_
  refine ⟨_, rfl, ?_⟩
  refine L_y rfl (y_lenS rfl rfl Try.underlying118) rfl ?_
  refine L_y rfl (y_lss rfl rfl) rfl ?_
  refine L_y rfl (y_pick_f rfl rfl) rfl ?_
  refine L_nil ?_
  refine C_cond_t rfl ?_
  refine C_seq ?_
  refine C_region ?_
  refine L_y rfl (y_assign rfl) rfl ?_
  refine L_nil ?_
  refine C_ret ?_
  refine B_ret (rv_tmp rfl rv_nil) ((hsub (.cons_cons _ (.cons_cons _ (.cons_cons _ (.cons_cons _ (.cons_cons _ (.cons_cons _ (.cons _ (.refl _))))))))).trans (hsub_pick [1, 1, 1, 1, 1, 1] rfl)) ?_
  exact ⟨rfl, rfl⟩

end Go.Proofs.Ytjjiclgbdenkkaa

/- Sync of a mirror: the plain model (own work). -/
set_option linter.unusedVariables false
set_option linter.unusedSimpArgs false
namespace Go.Sl
def Mi.ks (m : Mi) : Bool → List (Int × Nat)
  | false => m.k0
  | true => m.k1
def Mi.del (m : Mi) (i : Bool) (n : Int) : Mi := match i with
  | false => { m with k0 := kDel m.k0 n }
  | true => { m with k1 := kDel m.k1 n }
/-- Is a place of a side copied from the other one? -/
def syOk (m : Mi) (A : Da) (p : Int → Sec → Bool) (i : Bool) (n : Int) : Bool := kHas (m.ks i) n && !kHas (m.ks (!i)) n && (decide (A.rE (!i) n = 0) && p n (A.rS (!i) n))
def sy1 (p : Int → Sec → Bool) (i : Bool) (q : Da × Mi) (n : Int) : Da × Mi :=
  if syOk q.2 q.1 p i n then (q.1.write i n (q.1.rS (!i) n), if q.1.wE i n = 0 then q.2.del i n else q.2) else q
def syN (p : Int → Sec → Bool) (i : Bool) (q : Da × Mi) : Nat → Da × Mi
  | 0 => q
  | k + 1 => sy1 p i (syN p i q k) k
def syncQ (m : Mi) (A : Da) (p : Int → Sec → Bool) : Da × Mi := syN p true (syN p false (A, m) m.n) m.n
def syncE (m : Mi) (A : Da) (p : Int → Sec → Bool) : Int := if thr A false && thr A true then (if (syncQ m A p).2.k0.length + (syncQ m A p).2.k1.length = 0 then 0 else 9) else 13
def syncA (m : Mi) (A : Da) (p : Int → Sec → Bool) : Da := if thr A false && thr A true then (mfl (syncQ m A p).1).1 else A
def syncM (m : Mi) (A : Da) (p : Int → Sec → Bool) : Mi := if thr A false && thr A true then (syncQ m A p).2 else m
end Go.Sl

/- walks (own work; the walks' lines by a program of this repo). -/
set_option linter.unusedVariables false
set_option linter.unusedSimpArgs false
set_option maxRecDepth 20000
namespace Go.Proofs.Ytjjiclgbdenkkaa
open Go.Sl
attribute [local irreducible] BodyQ WpC WpL WpS WpH OpW FnS



end Go.Proofs.Ytjjiclgbdenkkaa

/- walks (own work; the walks' lines by a program of this repo). -/
set_option linter.unusedVariables false
set_option linter.unusedSimpArgs false
set_option maxRecDepth 20000
namespace Go.Proofs.Ytjjiclgbdenkkaa
open Go.Sl
attribute [local irreducible] BodyQ WpC WpL WpS WpH OpW FnS


theorem mread_b {w0 : World} {H : Hp} {D : Duo} {A : Da} {m : Mi} {mb bx bys bp : Nat} (hb : m.b = mb) (hx : m.bx = bx) (hy : m.bys = bys) (h : Two dt D A bx bys bp) {p : Int → Sec → Bool} (hG : GoodAt Try.prog w0 H m.gv p) (n : Int) : FnS Try.prog w0 22 #[ptr mb, .int .i64 n] (m.seg 110 :: D.seg dt :: H) (fun e H' => e = .returned (.tuple #[.agg (bs (mrS m A p n)).toArray, .int .i64 (mrE m A p n)]) ∧ H' = m.seg 110 :: D.seg dt :: H) := by
  subst hb hx hy
  exact mread_m h hG n

theorem mwrite_b {w0 : World} {H : Hp} {D : Duo} {A : Da} {m : Mi} {mb bx bys bp : Nat} (hb : m.b = mb) (hx : m.bx = bx) (hy : m.bys = bys) (h : Two dt D A bx bys bp) (n : Int) (s : Sec) (hs : s.length = 128) (hQ : ∀ i, (A.dev i).Q.length < 99990) : FnS Try.prog w0 19 #[ptr mb, .int .i64 n, .agg (bs s).toArray] (m.seg 110 :: D.seg dt :: H) (fun e H' => e = .returned (.int .i64 (putE m A askAll n s)) ∧ ∃ D', Two dt D' (putDa m A askAll n s) bx bys bp ∧ H' = (putm m A askAll n s).seg 110 :: D'.seg dt :: H) := by
  subst hb hx hy
  exact mwrite_m h n s hs hQ

theorem mrS_len {A : Da} {m : Mi} {p : Int → Sec → Bool} {n : Int} (h : ∀ i, (A.dev i).ok) : (mrS m A p n).length = 128 := by
  unfold mrS
  split
  · split
    · exact rS_len _ h
    · split
      · exact rS_len _ h
      · exact secOf_len _
  · exact secOf_len _

end Go.Proofs.Ytjjiclgbdenkkaa

/- walks (own work; the walks' lines by a program of this repo). -/
set_option linter.unusedVariables false
set_option linter.unusedSimpArgs false
set_option maxRecDepth 20000
namespace Go.Proofs.Ytjjiclgbdenkkaa
open Go.Sl
attribute [local irreducible] BodyQ WpC WpL WpS WpH OpW FnS



set_option maxHeartbeats 4000000 in

theorem both_no {w0 : World} {H : Hp} {D : Duo} {A : Da} {bp : Nat} {m : Mi} (h : Two dt D A m.bx m.bys bp) {p : Int → Sec → Bool} (hG : GoodAt Try.prog w0 H m.gv p) (n : Int) (hn : m.has n = false) : FnS Try.prog w0 25 #[ptr m.b, .int .i64 n] (m.seg 110 :: D.seg dt :: H) (fun e H' => ∃ g, slOk 128 g (bothS m A p n).length (bs (bothS m A p n).flatten) ∧ e = .returned (slV g (bothS m A p n).length) ∧ H' = slSeg 32 g (bs (bothS m A p n).flatten) :: m.seg 110 :: D.seg dt :: H) := by
  refine FnS_intro (n := 47) (rs := [.tmp 4]) (vs := [ptr m.b, .int .i64 n]) Try.func25 rfl Try.ntmps25 rfl rfl ?_
  refine C_seq ?_
  refine C_region ?_
  refine L_y rfl (y_assign rfl) rfl ?_
  refine L_nil ?_
  refine C_seq ?_
  refine C_region ?_
  refine L_y rfl (y_assign rfl) rfl ?_
  refine L_nil ?_
  refine C_seq ?_
  refine C_seq ?_
  refine C_region ?_
  refine L_y rfl (y_move rfl) rfl ?_
  refine L_y rfl (y_move rfl) rfl ?_
  refine L_op rfl (op_call rfl rfl (fun a w => Try.call58 a w) rfl ?_)
  refine (has_m _ (sees 0 0 rfl)).mono ?_
  rintro _ _ ⟨rfl, rfl⟩
  rw [hn]
  refine ⟨_, rfl, ?_⟩
  refine L_y rfl (y_not rfl) rfl ?_
  refine L_nil ?_
  refine C_cond_t rfl ?_
  refine C_seq ?_
  refine C_region ?_
  refine L_y rfl (y_assign rfl) rfl ?_
  refine L_nil ?_
  refine C_ret ?_
  refine B_ret (rv_tmp rfl rv_nil) (hsub_nil0.trans ((hsub (.cons_cons _ (.cons_cons _ (.refl _)))).trans (hsub_pick [0, 0] rfl))) ?_
  have e0 : bothS m A p n = [] := by simp_all [bothS]
  rw [e0]
  exact ⟨none, ⟨rfl, rfl⟩, rfl, rfl⟩

set_option maxHeartbeats 4000000 in

theorem both_tt {w0 : World} {H : Hp} {D : Duo} {A : Da} {bp : Nat} {m : Mi} (h : Two dt D A m.bx m.bys bp) {p : Int → Sec → Bool} (hG : GoodAt Try.prog w0 H m.gv p) (n : Int) (hn : m.has n = true) (hp : thr A false = true) (hq : thr A true = true) : FnS Try.prog w0 25 #[ptr m.b, .int .i64 n] (m.seg 110 :: D.seg dt :: H) (fun e H' => ∃ g, slOk 128 g (bothS m A p n).length (bs (bothS m A p n).flatten) ∧ e = .returned (slV g (bothS m A p n).length) ∧ H' = slSeg 32 g (bs (bothS m A p n).flatten) :: m.seg 110 :: D.seg dt :: H) := by
  refine FnS_intro (n := 47) (rs := [.tmp 4]) (vs := [ptr m.b, .int .i64 n]) Try.func25 rfl Try.ntmps25 rfl rfl ?_
  refine C_seq ?_
  refine C_region ?_
  refine L_y rfl (y_assign rfl) rfl ?_
  refine L_nil ?_
  refine C_seq ?_
  refine C_region ?_
  refine L_y rfl (y_assign rfl) rfl ?_
  refine L_nil ?_
  refine C_seq ?_
  refine C_seq ?_
  refine C_region ?_
  refine L_y rfl (y_move rfl) rfl ?_
  refine L_y rfl (y_move rfl) rfl ?_
  refine L_op rfl (op_call rfl rfl (fun a w => Try.call58 a w) rfl ?_)
  refine (has_m _ (sees 0 0 rfl)).mono ?_
  rintro _ _ ⟨rfl, rfl⟩
  rw [hn]
  refine ⟨_, rfl, ?_⟩
  refine L_y rfl (y_not rfl) rfl ?_
  refine L_nil ?_
  refine C_cond_f rfl ?_
  refine C_skip ?_
  refine C_seq ?_
  refine C_seq ?_
  refine C_region ?_
  refine L_y rfl (y_move rfl) rfl ?_
  refine L_op rfl (op_call rfl rfl (fun a w => Try.call59 a w) rfl ?_)
  refine ((present_tt h hp hq).sub (hsub_pick [0, 0] rfl)).mono ?_
  rintro _ _ ⟨g1, hg1, rfl, rfl⟩
  cases g1 with
  | none => exact slOk_none hg1 (by decide)
  | some g1 => ?_
  refine ⟨_, rfl, ?_⟩
  refine L_y rfl (y_lenS rfl rfl Try.underlying118) rfl ?_
  refine L_y rfl (y_move rfl) rfl ?_
  refine L_nil ?_
  refine C_block ?_
  refine C_loopIn (In_round ?_)
  refine C_seq ?_
  refine C_region ?_
  refine L_y rfl (y_lss rfl rfl) rfl ?_
  refine L_nil ?_
  refine C_seq ?_
  refine C_cond_t rfl ?_
  refine C_skip ?_
  refine C_seq ?_
  refine C_block ?_
  refine C_seq ?_
  refine C_region ?_
  refine L_y rfl (y_indexS rfl rfl Try.underlying118 sz_3 (by omega) (by omega) (show _ = 0 from rfl)) rfl ?_
  refine L_y rfl (y_load rfl ag_3 (sees 0 0 rfl) rfl) rfl ?_
  refine L_y rfl (y_assign rfl) rfl ?_
  refine L_nil ?_
  refine C_seq ?_
  refine C_region ?_
  refine L_y rfl (y_move rfl) rfl ?_
  refine L_y rfl (y_move rfl) rfl ?_
  refine L_y rfl (y_nilCheck rfl) rfl ?_
  refine L_y rfl (y_fieldAddr rfl fl_110_0) rfl ?_
  refine L_y rfl (y_indexA rfl rfl Try.underlying108 sz_107 (by omega) (by omega) (show _ = 0 from rfl)) rfl ?_
  refine L_y rfl (y_fieldAddr rfl fl_107_0) rfl ?_
  refine L_y rfl (y_load rfl ag_24 (sees 1 0 rfl) rfl) rfl ?_
  refine L_y rfl (y_move rfl) rfl ?_
  refine L_op rfl (op_call rfl rfl (fun a w => Try.call60 a w) rfl ?_)
  refine ((read_d h false (n)).sub (hsub_pick [2] rfl)).mono ?_
  rintro _ _ ⟨rfl, rfl⟩
  refine ⟨_, rfl, ?_⟩
  refine L_y rfl (y_move rfl) rfl ?_
  refine L_y rfl (y_extract rfl rfl) rfl ?_
  refine L_y rfl (y_extract rfl rfl) rfl ?_
  refine L_op rfl (op_alloc zl_32 rfl (fun B1 => ?_))
  refine L_op rfl (op_storeA 0 0 rfl rfl rfl sz_32 (by rw [bs_length, (rS_len false h.oks)]) rfl (bs_one _) (by simp) ?_)
  refine L_y rfl (y_assign rfl) rfl ?_
  refine L_nil ?_
  refine C_seq ?_
  refine C_region ?_
  refine L_y rfl (y_move rfl) rfl ?_
  refine L_y rfl (y_eqi rfl rfl) rfl ?_
  refine L_y rfl (y_move rfl) rfl ?_
  refine L_case 35 rfl (fun hg8_3 => ?_) (fun hg8_3 => ?_)
  · skip
    refine L_y rfl (y_move rfl) rfl ?_
    refine L_y rfl (y_move rfl) rfl ?_
    refine L_y rfl (y_loadA rfl ag_32 sz_32 (sees 0 0 rfl) (by rw [bs_length, rS_len _ h.oks]; decide) (bs_whole0 _ (rS_len _ h.oks))) rfl ?_
    refine L_op rfl (op_call rfl rfl (fun a w => Try.call61 a w) rfl ?_)
    refine FnS.mono (right_m (sees 3 0 rfl) (hG.sub (hsub (.cons _ (.cons _ (.cons _ (.cons _ (.refl _))))))) n _ (rS_len _ h.oks)) ?_
    rintro _ _ ⟨rfl, e⟩
    obtain rfl := e.symm
    refine ⟨_, rfl, ?_⟩
    refine L_y rfl (y_pick_t rfl rfl) rfl ?_
    refine L_nil ?_
    refine C_cond rfl (fun hc2 => ?_) (fun hc2 => ?_)
    · skip
      refine C_region ?_
      refine L_y rfl (y_move rfl) rfl ?_
      refine L_y rfl (y_loadA rfl ag_32 sz_32 (sees 0 0 rfl) (by rw [bs_length, rS_len _ h.oks]; decide) (bs_whole0 _ (rS_len _ h.oks))) rfl ?_
      refine L_op rfl (op_buildSlice (vs := [(0, _)]) rfl Try.underlying40 sz_32 zl_32 rfl (by decide) (fill_one rfl (by rw [bs_length, rS_len _ h.oks]) rfl) rfl (fun B2 => ?_))
      refine L_op rfl (op_append0 (m := 1) (vs := bs (A.rS false n)) rfl rfl (src_slice (vs := bs (A.rS false n)) (sees 0 0 rfl) (by rw [bs_length, rS_len _ h.oks]; decide) (bs_whole0 _ (rS_len _ h.oks))) (by rw [bs_length, rS_len _ h.oks]) (bs_one _) Try.underlying40 ni_40 sz_32 by_32 (by decide) zl_32 rfl (by decide) rfl (fun r1 hr1 => ?_))
      refine L_y rfl (y_assign rfl) rfl ?_
      refine L_nil ?_
      refine C_region ?_
      refine L_y rfl (y_add rfl rfl (show _ = (1 : Int) from rfl)) rfl ?_
      refine L_y rfl (y_move rfl) rfl ?_
      refine L_nil ?_
      refine In_round ?_
      refine C_seq ?_
      refine C_region ?_
      refine L_y rfl (y_lss rfl rfl) rfl ?_
      refine L_nil ?_
      refine C_seq ?_
      refine C_cond_t rfl ?_
      refine C_skip ?_
      refine C_seq ?_
      refine C_block ?_
      refine C_seq ?_
      refine C_region ?_
      refine L_y rfl (y_indexS rfl rfl Try.underlying118 sz_3 (by omega) (by omega) (show _ = 1 from rfl)) rfl ?_
      refine L_y rfl (y_load rfl ag_3 (sees 4 0 rfl) rfl) rfl ?_
      refine L_y rfl (y_assign rfl) rfl ?_
      refine L_nil ?_
      refine C_seq ?_
      refine C_region ?_
      refine L_y rfl (y_move rfl) rfl ?_
      refine L_y rfl (y_move rfl) rfl ?_
      refine L_y rfl (y_nilCheck rfl) rfl ?_
      refine L_y rfl (y_fieldAddr rfl fl_110_0) rfl ?_
      refine L_y rfl (y_indexA rfl rfl Try.underlying108 sz_107 (by omega) (by omega) (show _ = 2 from rfl)) rfl ?_
      refine L_y rfl (y_fieldAddr rfl fl_107_0) rfl ?_
      refine L_y rfl (y_load rfl ag_24 (sees 5 0 rfl) rfl) rfl ?_
      refine L_y rfl (y_move rfl) rfl ?_
      refine L_op rfl (op_call rfl rfl (fun a w => Try.call60 a w) rfl ?_)
      refine ((read_d h true (n)).sub (hsub_pick [3] rfl)).mono ?_
      rintro _ _ ⟨rfl, rfl⟩
      refine ⟨_, rfl, ?_⟩
      refine L_y rfl (y_move rfl) rfl ?_
      refine L_y rfl (y_extract rfl rfl) rfl ?_
      refine L_y rfl (y_extract rfl rfl) rfl ?_
      refine L_op rfl (op_alloc zl_32 rfl (fun B3 => ?_))
      refine L_op rfl (op_storeA 0 0 rfl rfl rfl sz_32 (by rw [bs_length, (rS_len true h.oks)]) rfl (bs_one _) (by simp) ?_)
      refine L_y rfl (y_assign rfl) rfl ?_
      refine L_nil ?_
      refine C_seq ?_
      refine C_region ?_
      refine L_y rfl (y_move rfl) rfl ?_
      refine L_y rfl (y_eqi rfl rfl) rfl ?_
      refine L_y rfl (y_move rfl) rfl ?_
      refine L_case 35 rfl (fun hg8_3 => ?_) (fun hg8_3 => ?_)
      · skip
        refine L_y rfl (y_move rfl) rfl ?_
        refine L_y rfl (y_move rfl) rfl ?_
        refine L_y rfl (y_loadA rfl ag_32 sz_32 (sees 0 0 rfl) (by rw [bs_length, rS_len _ h.oks]; decide) (bs_whole0 _ (rS_len _ h.oks))) rfl ?_
        refine L_op rfl (op_call rfl rfl (fun a w => Try.call61 a w) rfl ?_)
        refine FnS.mono (right_m (sees 6 0 rfl) (hG.sub (hsub (.cons _ (.cons _ (.cons _ (.cons _ (.cons _ (.cons _ (.cons _ (.refl _)))))))))) n _ (rS_len _ h.oks)) ?_
        rintro _ _ ⟨rfl, e⟩
        obtain rfl := e.symm
        refine ⟨_, rfl, ?_⟩
        refine L_y rfl (y_pick_t rfl rfl) rfl ?_
        refine L_nil ?_
        refine C_cond rfl (fun hc2 => ?_) (fun hc2 => ?_)
        · skip
          refine C_region ?_
          refine L_y rfl (y_move rfl) rfl ?_
          refine L_y rfl (y_loadA rfl ag_32 sz_32 (sees 0 0 rfl) (by rw [bs_length, rS_len _ h.oks]; decide) (bs_whole0 _ (rS_len _ h.oks))) rfl ?_
          refine L_op rfl (op_buildSlice (vs := [(0, _)]) rfl Try.underlying40 sz_32 zl_32 rfl (by decide) (fill_one rfl (by rw [bs_length, rS_len _ h.oks]) rfl) rfl (fun B4 => ?_))
          refine L_op rfl (op_append (gs := r1) (len := 1) (m := 1) (xs := bs (A.rS false n)) (vs := bs (A.rS true n)) 3 rfl rfl rfl hr1 (src_slice (vs := bs (A.rS true n)) (sees 0 0 rfl) (by rw [bs_length, rS_len _ h.oks]; decide) (bs_whole0 _ (rS_len _ h.oks))) (by rw [bs_length, rS_len _ h.oks]) (bs_one _) Try.underlying40 ni_40 sz_32 by_32 (by decide) zl_32 rfl (by decide) rfl (fun r2 hr2 => ?_))
          refine L_y rfl (y_assign rfl) rfl ?_
          refine L_nil ?_
          refine C_region ?_
          refine L_y rfl (y_add rfl rfl (show _ = (2 : Int) from rfl)) rfl ?_
          refine L_y rfl (y_move rfl) rfl ?_
          refine L_nil ?_
          refine In_round ?_
          refine C_seq ?_
          refine C_region ?_
          refine L_y rfl (y_lss rfl rfl) rfl ?_
          refine L_nil ?_
          refine C_seq ?_
          refine C_cond_f rfl ?_
          refine C_exit ?_
          refine C_seq ?_
          refine C_region ?_
          refine L_y rfl (y_move rfl) rfl ?_
          refine L_y rfl (y_assign rfl) rfl ?_
          refine L_nil ?_
          refine C_ret ?_
          refine B_ret (rv_tmp rfl rv_nil) ((hsub (.cons_cons _ (.cons_cons _ (.cons_cons _ (.cons _ (.cons _ (.cons _ (.cons _ (.cons _ (.refl _)))))))))).trans (hsub_pick [3, 6, 2] rfl)) ?_
          have e0 : bothS m A p n = [(A.rS false n), (A.rS true n)] := by simp_all [bothS]
          rw [e0, show List.flatten [(A.rS false n), (A.rS true n)] = (A.rS false n) ++ (A.rS true n) from by simp]
          rw [← bs_append] at hr2 ⊢
          exact ⟨r2, hr2, rfl, rfl⟩
        · skip
          refine C_skip ?_
          refine C_region ?_
          refine L_y rfl (y_add rfl rfl (show _ = (2 : Int) from rfl)) rfl ?_
          refine L_y rfl (y_move rfl) rfl ?_
          refine L_nil ?_
          refine In_round ?_
          refine C_seq ?_
          refine C_region ?_
          refine L_y rfl (y_lss rfl rfl) rfl ?_
          refine L_nil ?_
          refine C_seq ?_
          refine C_cond_f rfl ?_
          refine C_exit ?_
          refine C_seq ?_
          refine C_region ?_
          refine L_y rfl (y_move rfl) rfl ?_
          refine L_y rfl (y_assign rfl) rfl ?_
          refine L_nil ?_
          refine C_ret ?_
          refine B_ret (rv_tmp rfl rv_nil) ((hsub (.cons_cons _ (.cons_cons _ (.cons_cons _ (.cons _ (.cons _ (.cons _ (.cons _ (.refl _))))))))).trans (hsub_pick [2, 5, 1] rfl)) ?_
          have e0 : bothS m A p n = [(A.rS false n)] := by simp_all [bothS]
          rw [e0, show List.flatten [(A.rS false n)] = (A.rS false n) from by simp]
          exact ⟨r1, hr1, rfl, rfl⟩
      · skip
        refine L_skip rfl rfl ?_
        refine L_skip rfl rfl ?_
        refine L_skip rfl rfl ?_
        refine L_skip rfl rfl ?_
        refine L_y rfl (y_pick_f rfl rfl) rfl ?_
        refine L_nil ?_
        refine C_cond_f rfl ?_
        refine C_skip ?_
        refine C_region ?_
        refine L_y rfl (y_add rfl rfl (show _ = (2 : Int) from rfl)) rfl ?_
        refine L_y rfl (y_move rfl) rfl ?_
        refine L_nil ?_
        refine In_round ?_
        refine C_seq ?_
        refine C_region ?_
        refine L_y rfl (y_lss rfl rfl) rfl ?_
        refine L_nil ?_
        refine C_seq ?_
        refine C_cond_f rfl ?_
        refine C_exit ?_
        refine C_seq ?_
        refine C_region ?_
        refine L_y rfl (y_move rfl) rfl ?_
        refine L_y rfl (y_assign rfl) rfl ?_
        refine L_nil ?_
        refine C_ret ?_
        refine B_ret (rv_tmp rfl rv_nil) ((hsub (.cons_cons _ (.cons_cons _ (.cons_cons _ (.cons _ (.cons _ (.cons _ (.cons _ (.refl _))))))))).trans (hsub_pick [2, 5, 1] rfl)) ?_
        have e0 : bothS m A p n = [(A.rS false n)] := by simp_all [bothS]
        rw [e0, show List.flatten [(A.rS false n)] = (A.rS false n) from by simp]
        exact ⟨r1, hr1, rfl, rfl⟩
    · skip
      refine C_skip ?_
      refine C_region ?_
      refine L_y rfl (y_add rfl rfl (show _ = (1 : Int) from rfl)) rfl ?_
      refine L_y rfl (y_move rfl) rfl ?_
      refine L_nil ?_
      refine In_round ?_
      refine C_seq ?_
      refine C_region ?_
      refine L_y rfl (y_lss rfl rfl) rfl ?_
      refine L_nil ?_
      refine C_seq ?_
      refine C_cond_t rfl ?_
      refine C_skip ?_
      refine C_seq ?_
      refine C_block ?_
      refine C_seq ?_
      refine C_region ?_
      refine L_y rfl (y_indexS rfl rfl Try.underlying118 sz_3 (by omega) (by omega) (show _ = 1 from rfl)) rfl ?_
      refine L_y rfl (y_load rfl ag_3 (sees 2 0 rfl) rfl) rfl ?_
      refine L_y rfl (y_assign rfl) rfl ?_
      refine L_nil ?_
      refine C_seq ?_
      refine C_region ?_
      refine L_y rfl (y_move rfl) rfl ?_
      refine L_y rfl (y_move rfl) rfl ?_
      refine L_y rfl (y_nilCheck rfl) rfl ?_
      refine L_y rfl (y_fieldAddr rfl fl_110_0) rfl ?_
      refine L_y rfl (y_indexA rfl rfl Try.underlying108 sz_107 (by omega) (by omega) (show _ = 2 from rfl)) rfl ?_
      refine L_y rfl (y_fieldAddr rfl fl_107_0) rfl ?_
      refine L_y rfl (y_load rfl ag_24 (sees 3 0 rfl) rfl) rfl ?_
      refine L_y rfl (y_move rfl) rfl ?_
      refine L_op rfl (op_call rfl rfl (fun a w => Try.call60 a w) rfl ?_)
      refine ((read_d h true (n)).sub (hsub_pick [1] rfl)).mono ?_
      rintro _ _ ⟨rfl, rfl⟩
      refine ⟨_, rfl, ?_⟩
      refine L_y rfl (y_move rfl) rfl ?_
      refine L_y rfl (y_extract rfl rfl) rfl ?_
      refine L_y rfl (y_extract rfl rfl) rfl ?_
      refine L_op rfl (op_alloc zl_32 rfl (fun B5 => ?_))
      refine L_op rfl (op_storeA 0 0 rfl rfl rfl sz_32 (by rw [bs_length, (rS_len true h.oks)]) rfl (bs_one _) (by simp) ?_)
      refine L_y rfl (y_assign rfl) rfl ?_
      refine L_nil ?_
      refine C_seq ?_
      refine C_region ?_
      refine L_y rfl (y_move rfl) rfl ?_
      refine L_y rfl (y_eqi rfl rfl) rfl ?_
      refine L_y rfl (y_move rfl) rfl ?_
      refine L_case 35 rfl (fun hg8_3 => ?_) (fun hg8_3 => ?_)
      · skip
        refine L_y rfl (y_move rfl) rfl ?_
        refine L_y rfl (y_move rfl) rfl ?_
        refine L_y rfl (y_loadA rfl ag_32 sz_32 (sees 0 0 rfl) (by rw [bs_length, rS_len _ h.oks]; decide) (bs_whole0 _ (rS_len _ h.oks))) rfl ?_
        refine L_op rfl (op_call rfl rfl (fun a w => Try.call61 a w) rfl ?_)
        refine FnS.mono (right_m (sees 4 0 rfl) (hG.sub (hsub (.cons _ (.cons _ (.cons _ (.cons _ (.cons _ (.refl _)))))))) n _ (rS_len _ h.oks)) ?_
        rintro _ _ ⟨rfl, e⟩
        obtain rfl := e.symm
        refine ⟨_, rfl, ?_⟩
        refine L_y rfl (y_pick_t rfl rfl) rfl ?_
        refine L_nil ?_
        refine C_cond rfl (fun hc2 => ?_) (fun hc2 => ?_)
        · skip
          refine C_region ?_
          refine L_y rfl (y_move rfl) rfl ?_
          refine L_y rfl (y_loadA rfl ag_32 sz_32 (sees 0 0 rfl) (by rw [bs_length, rS_len _ h.oks]; decide) (bs_whole0 _ (rS_len _ h.oks))) rfl ?_
          refine L_op rfl (op_buildSlice (vs := [(0, _)]) rfl Try.underlying40 sz_32 zl_32 rfl (by decide) (fill_one rfl (by rw [bs_length, rS_len _ h.oks]) rfl) rfl (fun B6 => ?_))
          refine L_op rfl (op_append0 (m := 1) (vs := bs (A.rS true n)) rfl rfl (src_slice (vs := bs (A.rS true n)) (sees 0 0 rfl) (by rw [bs_length, rS_len _ h.oks]; decide) (bs_whole0 _ (rS_len _ h.oks))) (by rw [bs_length, rS_len _ h.oks]) (bs_one _) Try.underlying40 ni_40 sz_32 by_32 (by decide) zl_32 rfl (by decide) rfl (fun r1 hr1 => ?_))
          refine L_y rfl (y_assign rfl) rfl ?_
          refine L_nil ?_
          refine C_region ?_
          refine L_y rfl (y_add rfl rfl (show _ = (2 : Int) from rfl)) rfl ?_
          refine L_y rfl (y_move rfl) rfl ?_
          refine L_nil ?_
          refine In_round ?_
          refine C_seq ?_
          refine C_region ?_
          refine L_y rfl (y_lss rfl rfl) rfl ?_
          refine L_nil ?_
          refine C_seq ?_
          refine C_cond_f rfl ?_
          refine C_exit ?_
          refine C_seq ?_
          refine C_region ?_
          refine L_y rfl (y_move rfl) rfl ?_
          refine L_y rfl (y_assign rfl) rfl ?_
          refine L_nil ?_
          refine C_ret ?_
          refine B_ret (rv_tmp rfl rv_nil) ((hsub (.cons_cons _ (.cons_cons _ (.cons_cons _ (.cons _ (.cons _ (.cons _ (.cons _ (.refl _))))))))).trans (hsub_pick [0, 5, 2] rfl)) ?_
          have e0 : bothS m A p n = [(A.rS true n)] := by simp_all [bothS]
          rw [e0, show List.flatten [(A.rS true n)] = (A.rS true n) from by simp]
          exact ⟨r1, hr1, rfl, rfl⟩
        · skip
          refine C_skip ?_
          refine C_region ?_
          refine L_y rfl (y_add rfl rfl (show _ = (2 : Int) from rfl)) rfl ?_
          refine L_y rfl (y_move rfl) rfl ?_
          refine L_nil ?_
          refine In_round ?_
          refine C_seq ?_
          refine C_region ?_
          refine L_y rfl (y_lss rfl rfl) rfl ?_
          refine L_nil ?_
          refine C_seq ?_
          refine C_cond_f rfl ?_
          refine C_exit ?_
          refine C_seq ?_
          refine C_region ?_
          refine L_y rfl (y_move rfl) rfl ?_
          refine L_y rfl (y_assign rfl) rfl ?_
          refine L_nil ?_
          refine C_ret ?_
          refine B_ret (rv_tmp rfl rv_nil) (hsub_nil0.trans ((hsub (.cons_cons _ (.cons_cons _ (.cons _ (.cons _ (.cons _ (.refl _))))))).trans (hsub_pick [4, 1] rfl))) ?_
          have e0 : bothS m A p n = [] := by simp_all [bothS]
          rw [e0]
          exact ⟨none, ⟨rfl, rfl⟩, rfl, rfl⟩
      · skip
        refine L_skip rfl rfl ?_
        refine L_skip rfl rfl ?_
        refine L_skip rfl rfl ?_
        refine L_skip rfl rfl ?_
        refine L_y rfl (y_pick_f rfl rfl) rfl ?_
        refine L_nil ?_
        refine C_cond_f rfl ?_
        refine C_skip ?_
        refine C_region ?_
        refine L_y rfl (y_add rfl rfl (show _ = (2 : Int) from rfl)) rfl ?_
        refine L_y rfl (y_move rfl) rfl ?_
        refine L_nil ?_
        refine In_round ?_
        refine C_seq ?_
        refine C_region ?_
        refine L_y rfl (y_lss rfl rfl) rfl ?_
        refine L_nil ?_
        refine C_seq ?_
        refine C_cond_f rfl ?_
        refine C_exit ?_
        refine C_seq ?_
        refine C_region ?_
        refine L_y rfl (y_move rfl) rfl ?_
        refine L_y rfl (y_assign rfl) rfl ?_
        refine L_nil ?_
        refine C_ret ?_
        refine B_ret (rv_tmp rfl rv_nil) (hsub_nil0.trans ((hsub (.cons_cons _ (.cons_cons _ (.cons _ (.cons _ (.cons _ (.refl _))))))).trans (hsub_pick [4, 1] rfl))) ?_
        have e0 : bothS m A p n = [] := by simp_all [bothS]
        rw [e0]
        exact ⟨none, ⟨rfl, rfl⟩, rfl, rfl⟩
  · skip
    refine L_skip rfl rfl ?_
    refine L_skip rfl rfl ?_
    refine L_skip rfl rfl ?_
    refine L_skip rfl rfl ?_
    refine L_y rfl (y_pick_f rfl rfl) rfl ?_
    refine L_nil ?_
    refine C_cond_f rfl ?_
    refine C_skip ?_
    refine C_region ?_
    refine L_y rfl (y_add rfl rfl (show _ = (1 : Int) from rfl)) rfl ?_
    refine L_y rfl (y_move rfl) rfl ?_
    refine L_nil ?_
    refine In_round ?_
    refine C_seq ?_
    refine C_region ?_
    refine L_y rfl (y_lss rfl rfl) rfl ?_
    refine L_nil ?_
    refine C_seq ?_
    refine C_cond_t rfl ?_
    refine C_skip ?_
    refine C_seq ?_
    refine C_block ?_
    refine C_seq ?_
    refine C_region ?_
    refine L_y rfl (y_indexS rfl rfl Try.underlying118 sz_3 (by omega) (by omega) (show _ = 1 from rfl)) rfl ?_
    refine L_y rfl (y_load rfl ag_3 (sees 2 0 rfl) rfl) rfl ?_
    refine L_y rfl (y_assign rfl) rfl ?_
    refine L_nil ?_
    refine C_seq ?_
    refine C_region ?_
    refine L_y rfl (y_move rfl) rfl ?_
    refine L_y rfl (y_move rfl) rfl ?_
    refine L_y rfl (y_nilCheck rfl) rfl ?_
    refine L_y rfl (y_fieldAddr rfl fl_110_0) rfl ?_
    refine L_y rfl (y_indexA rfl rfl Try.underlying108 sz_107 (by omega) (by omega) (show _ = 2 from rfl)) rfl ?_
    refine L_y rfl (y_fieldAddr rfl fl_107_0) rfl ?_
    refine L_y rfl (y_load rfl ag_24 (sees 3 0 rfl) rfl) rfl ?_
    refine L_y rfl (y_move rfl) rfl ?_
    refine L_op rfl (op_call rfl rfl (fun a w => Try.call60 a w) rfl ?_)
    refine ((read_d h true (n)).sub (hsub_pick [1] rfl)).mono ?_
    rintro _ _ ⟨rfl, rfl⟩
    refine ⟨_, rfl, ?_⟩
    refine L_y rfl (y_move rfl) rfl ?_
    refine L_y rfl (y_extract rfl rfl) rfl ?_
    refine L_y rfl (y_extract rfl rfl) rfl ?_
    refine L_op rfl (op_alloc zl_32 rfl (fun B7 => ?_))
    refine L_op rfl (op_storeA 0 0 rfl rfl rfl sz_32 (by rw [bs_length, (rS_len true h.oks)]) rfl (bs_one _) (by simp) ?_)
    refine L_y rfl (y_assign rfl) rfl ?_
    refine L_nil ?_
    refine C_seq ?_
    refine C_region ?_
    refine L_y rfl (y_move rfl) rfl ?_
    refine L_y rfl (y_eqi rfl rfl) rfl ?_
    refine L_y rfl (y_move rfl) rfl ?_
    refine L_case 35 rfl (fun hg8_3 => ?_) (fun hg8_3 => ?_)
    · skip
      refine L_y rfl (y_move rfl) rfl ?_
      refine L_y rfl (y_move rfl) rfl ?_
      refine L_y rfl (y_loadA rfl ag_32 sz_32 (sees 0 0 rfl) (by rw [bs_length, rS_len _ h.oks]; decide) (bs_whole0 _ (rS_len _ h.oks))) rfl ?_
      refine L_op rfl (op_call rfl rfl (fun a w => Try.call61 a w) rfl ?_)
      refine FnS.mono (right_m (sees 4 0 rfl) (hG.sub (hsub (.cons _ (.cons _ (.cons _ (.cons _ (.cons _ (.refl _)))))))) n _ (rS_len _ h.oks)) ?_
      rintro _ _ ⟨rfl, e⟩
      obtain rfl := e.symm
      refine ⟨_, rfl, ?_⟩
      refine L_y rfl (y_pick_t rfl rfl) rfl ?_
      refine L_nil ?_
      refine C_cond rfl (fun hc2 => ?_) (fun hc2 => ?_)
      · skip
        refine C_region ?_
        refine L_y rfl (y_move rfl) rfl ?_
        refine L_y rfl (y_loadA rfl ag_32 sz_32 (sees 0 0 rfl) (by rw [bs_length, rS_len _ h.oks]; decide) (bs_whole0 _ (rS_len _ h.oks))) rfl ?_
        refine L_op rfl (op_buildSlice (vs := [(0, _)]) rfl Try.underlying40 sz_32 zl_32 rfl (by decide) (fill_one rfl (by rw [bs_length, rS_len _ h.oks]) rfl) rfl (fun B8 => ?_))
        refine L_op rfl (op_append0 (m := 1) (vs := bs (A.rS true n)) rfl rfl (src_slice (vs := bs (A.rS true n)) (sees 0 0 rfl) (by rw [bs_length, rS_len _ h.oks]; decide) (bs_whole0 _ (rS_len _ h.oks))) (by rw [bs_length, rS_len _ h.oks]) (bs_one _) Try.underlying40 ni_40 sz_32 by_32 (by decide) zl_32 rfl (by decide) rfl (fun r1 hr1 => ?_))
        refine L_y rfl (y_assign rfl) rfl ?_
        refine L_nil ?_
        refine C_region ?_
        refine L_y rfl (y_add rfl rfl (show _ = (2 : Int) from rfl)) rfl ?_
        refine L_y rfl (y_move rfl) rfl ?_
        refine L_nil ?_
        refine In_round ?_
        refine C_seq ?_
        refine C_region ?_
        refine L_y rfl (y_lss rfl rfl) rfl ?_
        refine L_nil ?_
        refine C_seq ?_
        refine C_cond_f rfl ?_
        refine C_exit ?_
        refine C_seq ?_
        refine C_region ?_
        refine L_y rfl (y_move rfl) rfl ?_
        refine L_y rfl (y_assign rfl) rfl ?_
        refine L_nil ?_
        refine C_ret ?_
        refine B_ret (rv_tmp rfl rv_nil) ((hsub (.cons_cons _ (.cons_cons _ (.cons_cons _ (.cons _ (.cons _ (.cons _ (.cons _ (.refl _))))))))).trans (hsub_pick [0, 5, 2] rfl)) ?_
        have e0 : bothS m A p n = [(A.rS true n)] := by simp_all [bothS]
        rw [e0, show List.flatten [(A.rS true n)] = (A.rS true n) from by simp]
        exact ⟨r1, hr1, rfl, rfl⟩
      · skip
        refine C_skip ?_
        refine C_region ?_
        refine L_y rfl (y_add rfl rfl (show _ = (2 : Int) from rfl)) rfl ?_
        refine L_y rfl (y_move rfl) rfl ?_
        refine L_nil ?_
        refine In_round ?_
        refine C_seq ?_
        refine C_region ?_
        refine L_y rfl (y_lss rfl rfl) rfl ?_
        refine L_nil ?_
        refine C_seq ?_
        refine C_cond_f rfl ?_
        refine C_exit ?_
        refine C_seq ?_
        refine C_region ?_
        refine L_y rfl (y_move rfl) rfl ?_
        refine L_y rfl (y_assign rfl) rfl ?_
        refine L_nil ?_
        refine C_ret ?_
        refine B_ret (rv_tmp rfl rv_nil) (hsub_nil0.trans ((hsub (.cons_cons _ (.cons_cons _ (.cons _ (.cons _ (.cons _ (.refl _))))))).trans (hsub_pick [4, 1] rfl))) ?_
        have e0 : bothS m A p n = [] := by simp_all [bothS]
        rw [e0]
        exact ⟨none, ⟨rfl, rfl⟩, rfl, rfl⟩
    · skip
      refine L_skip rfl rfl ?_
      refine L_skip rfl rfl ?_
      refine L_skip rfl rfl ?_
      refine L_skip rfl rfl ?_
      refine L_y rfl (y_pick_f rfl rfl) rfl ?_
      refine L_nil ?_
      refine C_cond_f rfl ?_
      refine C_skip ?_
      refine C_region ?_
      refine L_y rfl (y_add rfl rfl (show _ = (2 : Int) from rfl)) rfl ?_
      refine L_y rfl (y_move rfl) rfl ?_
      refine L_nil ?_
      refine In_round ?_
      refine C_seq ?_
      refine C_region ?_
      refine L_y rfl (y_lss rfl rfl) rfl ?_
      refine L_nil ?_
      refine C_seq ?_
      refine C_cond_f rfl ?_
      refine C_exit ?_
      refine C_seq ?_
      refine C_region ?_
      refine L_y rfl (y_move rfl) rfl ?_
      refine L_y rfl (y_assign rfl) rfl ?_
      refine L_nil ?_
      refine C_ret ?_
      refine B_ret (rv_tmp rfl rv_nil) (hsub_nil0.trans ((hsub (.cons_cons _ (.cons_cons _ (.cons _ (.cons _ (.cons _ (.refl _))))))).trans (hsub_pick [4, 1] rfl))) ?_
      have e0 : bothS m A p n = [] := by simp_all [bothS]
      rw [e0]
      exact ⟨none, ⟨rfl, rfl⟩, rfl, rfl⟩

set_option maxHeartbeats 4000000 in

theorem both_tf {w0 : World} {H : Hp} {D : Duo} {A : Da} {bp : Nat} {m : Mi} (h : Two dt D A m.bx m.bys bp) {p : Int → Sec → Bool} (hG : GoodAt Try.prog w0 H m.gv p) (n : Int) (hn : m.has n = true) (hp : thr A false = true) (hq : thr A true = false) : FnS Try.prog w0 25 #[ptr m.b, .int .i64 n] (m.seg 110 :: D.seg dt :: H) (fun e H' => ∃ g, slOk 128 g (bothS m A p n).length (bs (bothS m A p n).flatten) ∧ e = .returned (slV g (bothS m A p n).length) ∧ H' = slSeg 32 g (bs (bothS m A p n).flatten) :: m.seg 110 :: D.seg dt :: H) := by
  refine FnS_intro (n := 47) (rs := [.tmp 4]) (vs := [ptr m.b, .int .i64 n]) Try.func25 rfl Try.ntmps25 rfl rfl ?_
  refine C_seq ?_
  refine C_region ?_
  refine L_y rfl (y_assign rfl) rfl ?_
  refine L_nil ?_
  refine C_seq ?_
  refine C_region ?_
  refine L_y rfl (y_assign rfl) rfl ?_
  refine L_nil ?_
  refine C_seq ?_
  refine C_seq ?_
  refine C_region ?_
  refine L_y rfl (y_move rfl) rfl ?_
  refine L_y rfl (y_move rfl) rfl ?_
  refine L_op rfl (op_call rfl rfl (fun a w => Try.call58 a w) rfl ?_)
  refine (has_m _ (sees 0 0 rfl)).mono ?_
  rintro _ _ ⟨rfl, rfl⟩
  rw [hn]
  refine ⟨_, rfl, ?_⟩
  refine L_y rfl (y_not rfl) rfl ?_
  refine L_nil ?_
  refine C_cond_f rfl ?_
  refine C_skip ?_
  refine C_seq ?_
  refine C_seq ?_
  refine C_region ?_
  refine L_y rfl (y_move rfl) rfl ?_
  refine L_op rfl (op_call rfl rfl (fun a w => Try.call59 a w) rfl ?_)
  refine ((present_tf h hp hq).sub (hsub_pick [0, 0] rfl)).mono ?_
  rintro _ _ ⟨g1, hg1, rfl, rfl⟩
  cases g1 with
  | none => exact slOk_none hg1 (by decide)
  | some g1 => ?_
  refine ⟨_, rfl, ?_⟩
  refine L_y rfl (y_lenS rfl rfl Try.underlying118) rfl ?_
  refine L_y rfl (y_move rfl) rfl ?_
  refine L_nil ?_
  refine C_block ?_
  refine C_loopIn (In_round ?_)
  refine C_seq ?_
  refine C_region ?_
  refine L_y rfl (y_lss rfl rfl) rfl ?_
  refine L_nil ?_
  refine C_seq ?_
  refine C_cond_t rfl ?_
  refine C_skip ?_
  refine C_seq ?_
  refine C_block ?_
  refine C_seq ?_
  refine C_region ?_
  refine L_y rfl (y_indexS rfl rfl Try.underlying118 sz_3 (by omega) (by omega) (show _ = 0 from rfl)) rfl ?_
  refine L_y rfl (y_load rfl ag_3 (sees 0 0 rfl) rfl) rfl ?_
  refine L_y rfl (y_assign rfl) rfl ?_
  refine L_nil ?_
  refine C_seq ?_
  refine C_region ?_
  refine L_y rfl (y_move rfl) rfl ?_
  refine L_y rfl (y_move rfl) rfl ?_
  refine L_y rfl (y_nilCheck rfl) rfl ?_
  refine L_y rfl (y_fieldAddr rfl fl_110_0) rfl ?_
  refine L_y rfl (y_indexA rfl rfl Try.underlying108 sz_107 (by omega) (by omega) (show _ = 0 from rfl)) rfl ?_
  refine L_y rfl (y_fieldAddr rfl fl_107_0) rfl ?_
  refine L_y rfl (y_load rfl ag_24 (sees 1 0 rfl) rfl) rfl ?_
  refine L_y rfl (y_move rfl) rfl ?_
  refine L_op rfl (op_call rfl rfl (fun a w => Try.call60 a w) rfl ?_)
  refine ((read_d h false (n)).sub (hsub_pick [2] rfl)).mono ?_
  rintro _ _ ⟨rfl, rfl⟩
  refine ⟨_, rfl, ?_⟩
  refine L_y rfl (y_move rfl) rfl ?_
  refine L_y rfl (y_extract rfl rfl) rfl ?_
  refine L_y rfl (y_extract rfl rfl) rfl ?_
  refine L_op rfl (op_alloc zl_32 rfl (fun B1 => ?_))
  refine L_op rfl (op_storeA 0 0 rfl rfl rfl sz_32 (by rw [bs_length, (rS_len false h.oks)]) rfl (bs_one _) (by simp) ?_)
  refine L_y rfl (y_assign rfl) rfl ?_
  refine L_nil ?_
  refine C_seq ?_
  refine C_region ?_
  refine L_y rfl (y_move rfl) rfl ?_
  refine L_y rfl (y_eqi rfl rfl) rfl ?_
  refine L_y rfl (y_move rfl) rfl ?_
  refine L_case 35 rfl (fun hg8_3 => ?_) (fun hg8_3 => ?_)
  · skip
    refine L_y rfl (y_move rfl) rfl ?_
    refine L_y rfl (y_move rfl) rfl ?_
    refine L_y rfl (y_loadA rfl ag_32 sz_32 (sees 0 0 rfl) (by rw [bs_length, rS_len _ h.oks]; decide) (bs_whole0 _ (rS_len _ h.oks))) rfl ?_
    refine L_op rfl (op_call rfl rfl (fun a w => Try.call61 a w) rfl ?_)
    refine FnS.mono (right_m (sees 3 0 rfl) (hG.sub (hsub (.cons _ (.cons _ (.cons _ (.cons _ (.refl _))))))) n _ (rS_len _ h.oks)) ?_
    rintro _ _ ⟨rfl, e⟩
    obtain rfl := e.symm
    refine ⟨_, rfl, ?_⟩
    refine L_y rfl (y_pick_t rfl rfl) rfl ?_
    refine L_nil ?_
    refine C_cond rfl (fun hc2 => ?_) (fun hc2 => ?_)
    · skip
      refine C_region ?_
      refine L_y rfl (y_move rfl) rfl ?_
      refine L_y rfl (y_loadA rfl ag_32 sz_32 (sees 0 0 rfl) (by rw [bs_length, rS_len _ h.oks]; decide) (bs_whole0 _ (rS_len _ h.oks))) rfl ?_
      refine L_op rfl (op_buildSlice (vs := [(0, _)]) rfl Try.underlying40 sz_32 zl_32 rfl (by decide) (fill_one rfl (by rw [bs_length, rS_len _ h.oks]) rfl) rfl (fun B2 => ?_))
      refine L_op rfl (op_append0 (m := 1) (vs := bs (A.rS false n)) rfl rfl (src_slice (vs := bs (A.rS false n)) (sees 0 0 rfl) (by rw [bs_length, rS_len _ h.oks]; decide) (bs_whole0 _ (rS_len _ h.oks))) (by rw [bs_length, rS_len _ h.oks]) (bs_one _) Try.underlying40 ni_40 sz_32 by_32 (by decide) zl_32 rfl (by decide) rfl (fun r1 hr1 => ?_))
      refine L_y rfl (y_assign rfl) rfl ?_
      refine L_nil ?_
      refine C_region ?_
      refine L_y rfl (y_add rfl rfl (show _ = (1 : Int) from rfl)) rfl ?_
      refine L_y rfl (y_move rfl) rfl ?_
      refine L_nil ?_
      refine In_round ?_
      refine C_seq ?_
      refine C_region ?_
      refine L_y rfl (y_lss rfl rfl) rfl ?_
      refine L_nil ?_
      refine C_seq ?_
      refine C_cond_f rfl ?_
      refine C_exit ?_
      refine C_seq ?_
      refine C_region ?_
      refine L_y rfl (y_move rfl) rfl ?_
      refine L_y rfl (y_assign rfl) rfl ?_
      refine L_nil ?_
      refine C_ret ?_
      refine B_ret (rv_tmp rfl rv_nil) ((hsub (.cons_cons _ (.cons_cons _ (.cons_cons _ (.cons _ (.cons _ (.cons _ (.refl _)))))))).trans (hsub_pick [0, 4, 2] rfl)) ?_
      have e0 : bothS m A p n = [(A.rS false n)] := by simp_all [bothS]
      rw [e0, show List.flatten [(A.rS false n)] = (A.rS false n) from by simp]
      exact ⟨r1, hr1, rfl, rfl⟩
    · skip
      refine C_skip ?_
      refine C_region ?_
      refine L_y rfl (y_add rfl rfl (show _ = (1 : Int) from rfl)) rfl ?_
      refine L_y rfl (y_move rfl) rfl ?_
      refine L_nil ?_
      refine In_round ?_
      refine C_seq ?_
      refine C_region ?_
      refine L_y rfl (y_lss rfl rfl) rfl ?_
      refine L_nil ?_
      refine C_seq ?_
      refine C_cond_f rfl ?_
      refine C_exit ?_
      refine C_seq ?_
      refine C_region ?_
      refine L_y rfl (y_move rfl) rfl ?_
      refine L_y rfl (y_assign rfl) rfl ?_
      refine L_nil ?_
      refine C_ret ?_
      refine B_ret (rv_tmp rfl rv_nil) (hsub_nil0.trans ((hsub (.cons_cons _ (.cons_cons _ (.cons _ (.cons _ (.refl _)))))).trans (hsub_pick [3, 1] rfl))) ?_
      have e0 : bothS m A p n = [] := by simp_all [bothS]
      rw [e0]
      exact ⟨none, ⟨rfl, rfl⟩, rfl, rfl⟩
  · skip
    refine L_skip rfl rfl ?_
    refine L_skip rfl rfl ?_
    refine L_skip rfl rfl ?_
    refine L_skip rfl rfl ?_
    refine L_y rfl (y_pick_f rfl rfl) rfl ?_
    refine L_nil ?_
    refine C_cond_f rfl ?_
    refine C_skip ?_
    refine C_region ?_
    refine L_y rfl (y_add rfl rfl (show _ = (1 : Int) from rfl)) rfl ?_
    refine L_y rfl (y_move rfl) rfl ?_
    refine L_nil ?_
    refine In_round ?_
    refine C_seq ?_
    refine C_region ?_
    refine L_y rfl (y_lss rfl rfl) rfl ?_
    refine L_nil ?_
    refine C_seq ?_
    refine C_cond_f rfl ?_
    refine C_exit ?_
    refine C_seq ?_
    refine C_region ?_
    refine L_y rfl (y_move rfl) rfl ?_
    refine L_y rfl (y_assign rfl) rfl ?_
    refine L_nil ?_
    refine C_ret ?_
    refine B_ret (rv_tmp rfl rv_nil) (hsub_nil0.trans ((hsub (.cons_cons _ (.cons_cons _ (.cons _ (.cons _ (.refl _)))))).trans (hsub_pick [3, 1] rfl))) ?_
    have e0 : bothS m A p n = [] := by simp_all [bothS]
    rw [e0]
    exact ⟨none, ⟨rfl, rfl⟩, rfl, rfl⟩

set_option maxHeartbeats 4000000 in

theorem both_ft {w0 : World} {H : Hp} {D : Duo} {A : Da} {bp : Nat} {m : Mi} (h : Two dt D A m.bx m.bys bp) {p : Int → Sec → Bool} (hG : GoodAt Try.prog w0 H m.gv p) (n : Int) (hn : m.has n = true) (hp : thr A false = false) (hq : thr A true = true) : FnS Try.prog w0 25 #[ptr m.b, .int .i64 n] (m.seg 110 :: D.seg dt :: H) (fun e H' => ∃ g, slOk 128 g (bothS m A p n).length (bs (bothS m A p n).flatten) ∧ e = .returned (slV g (bothS m A p n).length) ∧ H' = slSeg 32 g (bs (bothS m A p n).flatten) :: m.seg 110 :: D.seg dt :: H) := by
  refine FnS_intro (n := 47) (rs := [.tmp 4]) (vs := [ptr m.b, .int .i64 n]) Try.func25 rfl Try.ntmps25 rfl rfl ?_
  refine C_seq ?_
  refine C_region ?_
  refine L_y rfl (y_assign rfl) rfl ?_
  refine L_nil ?_
  refine C_seq ?_
  refine C_region ?_
  refine L_y rfl (y_assign rfl) rfl ?_
  refine L_nil ?_
  refine C_seq ?_
  refine C_seq ?_
  refine C_region ?_
  refine L_y rfl (y_move rfl) rfl ?_
  refine L_y rfl (y_move rfl) rfl ?_
  refine L_op rfl (op_call rfl rfl (fun a w => Try.call58 a w) rfl ?_)
  refine (has_m _ (sees 0 0 rfl)).mono ?_
  rintro _ _ ⟨rfl, rfl⟩
  rw [hn]
  refine ⟨_, rfl, ?_⟩
  refine L_y rfl (y_not rfl) rfl ?_
  refine L_nil ?_
  refine C_cond_f rfl ?_
  refine C_skip ?_
  refine C_seq ?_
  refine C_seq ?_
  refine C_region ?_
  refine L_y rfl (y_move rfl) rfl ?_
  refine L_op rfl (op_call rfl rfl (fun a w => Try.call59 a w) rfl ?_)
  refine ((present_ft h hp hq).sub (hsub_pick [0, 0] rfl)).mono ?_
  rintro _ _ ⟨g1, hg1, rfl, rfl⟩
  cases g1 with
  | none => exact slOk_none hg1 (by decide)
  | some g1 => ?_
  refine ⟨_, rfl, ?_⟩
  refine L_y rfl (y_lenS rfl rfl Try.underlying118) rfl ?_
  refine L_y rfl (y_move rfl) rfl ?_
  refine L_nil ?_
  refine C_block ?_
  refine C_loopIn (In_round ?_)
  refine C_seq ?_
  refine C_region ?_
  refine L_y rfl (y_lss rfl rfl) rfl ?_
  refine L_nil ?_
  refine C_seq ?_
  refine C_cond_t rfl ?_
  refine C_skip ?_
  refine C_seq ?_
  refine C_block ?_
  refine C_seq ?_
  refine C_region ?_
  refine L_y rfl (y_indexS rfl rfl Try.underlying118 sz_3 (by omega) (by omega) (show _ = 0 from rfl)) rfl ?_
  refine L_y rfl (y_load rfl ag_3 (sees 0 0 rfl) rfl) rfl ?_
  refine L_y rfl (y_assign rfl) rfl ?_
  refine L_nil ?_
  refine C_seq ?_
  refine C_region ?_
  refine L_y rfl (y_move rfl) rfl ?_
  refine L_y rfl (y_move rfl) rfl ?_
  refine L_y rfl (y_nilCheck rfl) rfl ?_
  refine L_y rfl (y_fieldAddr rfl fl_110_0) rfl ?_
  refine L_y rfl (y_indexA rfl rfl Try.underlying108 sz_107 (by omega) (by omega) (show _ = 2 from rfl)) rfl ?_
  refine L_y rfl (y_fieldAddr rfl fl_107_0) rfl ?_
  refine L_y rfl (y_load rfl ag_24 (sees 1 0 rfl) rfl) rfl ?_
  refine L_y rfl (y_move rfl) rfl ?_
  refine L_op rfl (op_call rfl rfl (fun a w => Try.call60 a w) rfl ?_)
  refine ((read_d h true (n)).sub (hsub_pick [2] rfl)).mono ?_
  rintro _ _ ⟨rfl, rfl⟩
  refine ⟨_, rfl, ?_⟩
  refine L_y rfl (y_move rfl) rfl ?_
  refine L_y rfl (y_extract rfl rfl) rfl ?_
  refine L_y rfl (y_extract rfl rfl) rfl ?_
  refine L_op rfl (op_alloc zl_32 rfl (fun B1 => ?_))
  refine L_op rfl (op_storeA 0 0 rfl rfl rfl sz_32 (by rw [bs_length, (rS_len true h.oks)]) rfl (bs_one _) (by simp) ?_)
  refine L_y rfl (y_assign rfl) rfl ?_
  refine L_nil ?_
  refine C_seq ?_
  refine C_region ?_
  refine L_y rfl (y_move rfl) rfl ?_
  refine L_y rfl (y_eqi rfl rfl) rfl ?_
  refine L_y rfl (y_move rfl) rfl ?_
  refine L_case 35 rfl (fun hg8_3 => ?_) (fun hg8_3 => ?_)
  · skip
    refine L_y rfl (y_move rfl) rfl ?_
    refine L_y rfl (y_move rfl) rfl ?_
    refine L_y rfl (y_loadA rfl ag_32 sz_32 (sees 0 0 rfl) (by rw [bs_length, rS_len _ h.oks]; decide) (bs_whole0 _ (rS_len _ h.oks))) rfl ?_
    refine L_op rfl (op_call rfl rfl (fun a w => Try.call61 a w) rfl ?_)
    refine FnS.mono (right_m (sees 3 0 rfl) (hG.sub (hsub (.cons _ (.cons _ (.cons _ (.cons _ (.refl _))))))) n _ (rS_len _ h.oks)) ?_
    rintro _ _ ⟨rfl, e⟩
    obtain rfl := e.symm
    refine ⟨_, rfl, ?_⟩
    refine L_y rfl (y_pick_t rfl rfl) rfl ?_
    refine L_nil ?_
    refine C_cond rfl (fun hc2 => ?_) (fun hc2 => ?_)
    · skip
      refine C_region ?_
      refine L_y rfl (y_move rfl) rfl ?_
      refine L_y rfl (y_loadA rfl ag_32 sz_32 (sees 0 0 rfl) (by rw [bs_length, rS_len _ h.oks]; decide) (bs_whole0 _ (rS_len _ h.oks))) rfl ?_
      refine L_op rfl (op_buildSlice (vs := [(0, _)]) rfl Try.underlying40 sz_32 zl_32 rfl (by decide) (fill_one rfl (by rw [bs_length, rS_len _ h.oks]) rfl) rfl (fun B2 => ?_))
      refine L_op rfl (op_append0 (m := 1) (vs := bs (A.rS true n)) rfl rfl (src_slice (vs := bs (A.rS true n)) (sees 0 0 rfl) (by rw [bs_length, rS_len _ h.oks]; decide) (bs_whole0 _ (rS_len _ h.oks))) (by rw [bs_length, rS_len _ h.oks]) (bs_one _) Try.underlying40 ni_40 sz_32 by_32 (by decide) zl_32 rfl (by decide) rfl (fun r1 hr1 => ?_))
      refine L_y rfl (y_assign rfl) rfl ?_
      refine L_nil ?_
      refine C_region ?_
      refine L_y rfl (y_add rfl rfl (show _ = (1 : Int) from rfl)) rfl ?_
      refine L_y rfl (y_move rfl) rfl ?_
      refine L_nil ?_
      refine In_round ?_
      refine C_seq ?_
      refine C_region ?_
      refine L_y rfl (y_lss rfl rfl) rfl ?_
      refine L_nil ?_
      refine C_seq ?_
      refine C_cond_f rfl ?_
      refine C_exit ?_
      refine C_seq ?_
      refine C_region ?_
      refine L_y rfl (y_move rfl) rfl ?_
      refine L_y rfl (y_assign rfl) rfl ?_
      refine L_nil ?_
      refine C_ret ?_
      refine B_ret (rv_tmp rfl rv_nil) ((hsub (.cons_cons _ (.cons_cons _ (.cons_cons _ (.cons _ (.cons _ (.cons _ (.refl _)))))))).trans (hsub_pick [0, 4, 2] rfl)) ?_
      have e0 : bothS m A p n = [(A.rS true n)] := by simp_all [bothS]
      rw [e0, show List.flatten [(A.rS true n)] = (A.rS true n) from by simp]
      exact ⟨r1, hr1, rfl, rfl⟩
    · skip
      refine C_skip ?_
      refine C_region ?_
      refine L_y rfl (y_add rfl rfl (show _ = (1 : Int) from rfl)) rfl ?_
      refine L_y rfl (y_move rfl) rfl ?_
      refine L_nil ?_
      refine In_round ?_
      refine C_seq ?_
      refine C_region ?_
      refine L_y rfl (y_lss rfl rfl) rfl ?_
      refine L_nil ?_
      refine C_seq ?_
      refine C_cond_f rfl ?_
      refine C_exit ?_
      refine C_seq ?_
      refine C_region ?_
      refine L_y rfl (y_move rfl) rfl ?_
      refine L_y rfl (y_assign rfl) rfl ?_
      refine L_nil ?_
      refine C_ret ?_
      refine B_ret (rv_tmp rfl rv_nil) (hsub_nil0.trans ((hsub (.cons_cons _ (.cons_cons _ (.cons _ (.cons _ (.refl _)))))).trans (hsub_pick [3, 1] rfl))) ?_
      have e0 : bothS m A p n = [] := by simp_all [bothS]
      rw [e0]
      exact ⟨none, ⟨rfl, rfl⟩, rfl, rfl⟩
  · skip
    refine L_skip rfl rfl ?_
    refine L_skip rfl rfl ?_
    refine L_skip rfl rfl ?_
    refine L_skip rfl rfl ?_
    refine L_y rfl (y_pick_f rfl rfl) rfl ?_
    refine L_nil ?_
    refine C_cond_f rfl ?_
    refine C_skip ?_
    refine C_region ?_
    refine L_y rfl (y_add rfl rfl (show _ = (1 : Int) from rfl)) rfl ?_
    refine L_y rfl (y_move rfl) rfl ?_
    refine L_nil ?_
    refine In_round ?_
    refine C_seq ?_
    refine C_region ?_
    refine L_y rfl (y_lss rfl rfl) rfl ?_
    refine L_nil ?_
    refine C_seq ?_
    refine C_cond_f rfl ?_
    refine C_exit ?_
    refine C_seq ?_
    refine C_region ?_
    refine L_y rfl (y_move rfl) rfl ?_
    refine L_y rfl (y_assign rfl) rfl ?_
    refine L_nil ?_
    refine C_ret ?_
    refine B_ret (rv_tmp rfl rv_nil) (hsub_nil0.trans ((hsub (.cons_cons _ (.cons_cons _ (.cons _ (.cons _ (.refl _)))))).trans (hsub_pick [3, 1] rfl))) ?_
    have e0 : bothS m A p n = [] := by simp_all [bothS]
    rw [e0]
    exact ⟨none, ⟨rfl, rfl⟩, rfl, rfl⟩

set_option maxHeartbeats 4000000 in

theorem both_ff {w0 : World} {H : Hp} {D : Duo} {A : Da} {bp : Nat} {m : Mi} (h : Two dt D A m.bx m.bys bp) {p : Int → Sec → Bool} (hG : GoodAt Try.prog w0 H m.gv p) (n : Int) (hn : m.has n = true) (hp : thr A false = false) (hq : thr A true = false) : FnS Try.prog w0 25 #[ptr m.b, .int .i64 n] (m.seg 110 :: D.seg dt :: H) (fun e H' => ∃ g, slOk 128 g (bothS m A p n).length (bs (bothS m A p n).flatten) ∧ e = .returned (slV g (bothS m A p n).length) ∧ H' = slSeg 32 g (bs (bothS m A p n).flatten) :: m.seg 110 :: D.seg dt :: H) := by
  refine FnS_intro (n := 47) (rs := [.tmp 4]) (vs := [ptr m.b, .int .i64 n]) Try.func25 rfl Try.ntmps25 rfl rfl ?_
  refine C_seq ?_
  refine C_region ?_
  refine L_y rfl (y_assign rfl) rfl ?_
  refine L_nil ?_
  refine C_seq ?_
  refine C_region ?_
  refine L_y rfl (y_assign rfl) rfl ?_
  refine L_nil ?_
  refine C_seq ?_
  refine C_seq ?_
  refine C_region ?_
  refine L_y rfl (y_move rfl) rfl ?_
  refine L_y rfl (y_move rfl) rfl ?_
  refine L_op rfl (op_call rfl rfl (fun a w => Try.call58 a w) rfl ?_)
  refine (has_m _ (sees 0 0 rfl)).mono ?_
  rintro _ _ ⟨rfl, rfl⟩
  rw [hn]
  refine ⟨_, rfl, ?_⟩
  refine L_y rfl (y_not rfl) rfl ?_
  refine L_nil ?_
  refine C_cond_f rfl ?_
  refine C_skip ?_
  refine C_seq ?_
  refine C_seq ?_
  refine C_region ?_
  refine L_y rfl (y_move rfl) rfl ?_
  refine L_op rfl (op_call rfl rfl (fun a w => Try.call59 a w) rfl ?_)
  refine ((present_ff h hp hq).sub (hsub_pick [0, 0] rfl)).mono ?_
  rintro _ _ ⟨rfl, rfl⟩
  refine ⟨_, rfl, ?_⟩
  refine L_y rfl (y_lenS rfl rfl Try.underlying118) rfl ?_
  refine L_y rfl (y_move rfl) rfl ?_
  refine L_nil ?_
  refine C_block ?_
  refine C_loopIn (In_round ?_)
  refine C_seq ?_
  refine C_region ?_
  refine L_y rfl (y_lss rfl rfl) rfl ?_
  refine L_nil ?_
  refine C_seq ?_
  refine C_cond_f rfl ?_
  refine C_exit ?_
  refine C_seq ?_
  refine C_region ?_
  refine L_y rfl (y_move rfl) rfl ?_
  refine L_y rfl (y_assign rfl) rfl ?_
  refine L_nil ?_
  refine C_ret ?_
  refine B_ret (rv_tmp rfl rv_nil) (hsub_nil0.trans ((hsub (.cons_cons _ (.cons_cons _ (.refl _)))).trans (hsub_pick [0, 0] rfl))) ?_
  have e0 : bothS m A p n = [] := by simp_all [bothS]
  rw [e0]
  exact ⟨none, ⟨rfl, rfl⟩, rfl, rfl⟩

theorem both_m {w0 : World} {H : Hp} {D : Duo} {A : Da} {bp : Nat} {m : Mi} (h : Two dt D A m.bx m.bys bp) {p : Int → Sec → Bool} (hG : GoodAt Try.prog w0 H m.gv p) (n : Int) : FnS Try.prog w0 25 #[ptr m.b, .int .i64 n] (m.seg 110 :: D.seg dt :: H) (fun e H' => ∃ g, slOk 128 g (bothS m A p n).length (bs (bothS m A p n).flatten) ∧ e = .returned (slV g (bothS m A p n).length) ∧ H' = slSeg 32 g (bs (bothS m A p n).flatten) :: m.seg 110 :: D.seg dt :: H) := by
  cases hn : m.has n
  · exact both_no h hG n hn
  · cases hp : thr A false <;> cases hq : thr A true
    · exact both_ff h hG n hn hp hq
    · exact both_ft h hG n hn hp hq
    · exact both_tf h hG n hn hp hq
    · exact both_tt h hG n hn hp hq

end Go.Proofs.Ytjjiclgbdenkkaa

/- A mirror of which one device missed something (own work). -/
set_option linter.unusedVariables false
set_option linter.unusedSimpArgs false
namespace Go.Sl
section
variable {m : Mi} {A : Da} {p : Int → Sec → Bool} {K : Nat} {X Y : List Sec} {k0 k1 t c : Nat} {s : Sec}
/-- What is written and flushed while the first device is out; it is in again then. -/
theorem missed (h : Vw A K X Y 0 k1) (ht : t < K) (hs : s.length = 128) (hm : m.n = K) (z0 : m.k0 = []) (z1 : m.k1 = []) :
    putE m (A.setd false ((A.dev false).outs true)) askAll t s = 0 ∧
    Vw ((mfl (putDa m (A.setd false ((A.dev false).outs true)) askAll t s)).1.setd false (((mfl (putDa m (A.setd false ((A.dev false).outs true)) askAll t s)).1.dev false).outs false)) K X (Y.set t s) 0 0 ∧
    (putm m (A.setd false ((A.dev false).outs true)) askAll t s).k0 = [((t : Int), m.c0)] ∧ (putm m (A.setd false ((A.dev false).outs true)) askAll t s).k1 = [] ∧
    (putm m (A.setd false ((A.dev false).outs true)) askAll t s).b = m.b ∧ (putm m (A.setd false ((A.dev false).outs true)) askAll t s).bx = m.bx ∧ (putm m (A.setd false ((A.dev false).outs true)) askAll t s).bys = m.bys ∧
    (putm m (A.setd false ((A.dev false).outs true)) askAll t s).n = m.n ∧ (putm m (A.setd false ((A.dev false).outs true)) askAll t s).gv = m.gv := by
  obtain ⟨p0, p1, p2⟩ := put_out (s := s) h ht hm z0 z1
  refine ⟨p0, ?_, p2⟩
  have hh := has_of hm ht
  obtain ⟨w1, w2⟩ := h.write (n := t) (s := s) true ht hs
  obtain ⟨f1, f2⟩ := w2.flush true
  simp only [if_true] at f2
  generalize hA : A.setd false ((A.dev false).outs true) = A' at *
  have c2 : A'.calm := by rw [← hA]; exact Da.calm_setd h.calm false _
  have to : thr A' false = false := by rw [← hA]; simp [thr, Da.setd, Da.dev, Ab.outs, Ab.down]
  have ti : thr A' true = true := by rw [← hA]; exact h.thr true
  have pa : pA A' false askAll t s = A' := by unfold pA; rw [to]; rfl
  have pB : putDa m A' askAll t s = A'.write true t s := by
    unfold putDa putA; rw [hh, if_pos rfl, pa]; unfold pA; rw [ti]; rfl
  have hB : (A'.write true t s).dev false = A'.dev false := by
    rw [(Da.write_calm c2 true (t : Int) s).1]
    split <;> rfl
  have cB := Da.write_calm2 c2 true (t : Int) s
  rw [pB] at p1 ⊢
  generalize hB2 : A'.write true (t : Int) s = B at *
  have tB : thr B false = false := by
    unfold thr Ab.down
    rw [hB, ← hA]
    simp [Da.setd, Da.dev, Ab.outs]
  have eB : B.setd false ((B.dev false).outs false) = A.write true t s := p1
  have oB : (B.dev true).out = false := by
    have : (A.write true t s).dev true = B.dev true := by rw [← eB]; rfl
    rw [← this]; exact (w2.dev true).out
  have tB1 : thr B true = true := by
    unfold thr Ab.down
    rw [oB, (Da.calm_pow cB true).1]; rfl
  have fl : B.flush true = B.setd true ((B.dev true).flush) := by rw [(Da.flush_calm cB true).1, oB]; rfl
  have fA : (A.write true t s).flush true = (A.write true t s).setd true (((A.write true t s).dev true).flush) := by
    rw [(Da.flush_calm w2.calm true).1, (w2.dev true).out]; rfl
  have key : (mfl B).1.setd false (((mfl B).1.dev false).outs false) = (A.write true t s).flush true := by
    unfold mfl fl1
    rw [tB, tB1]
    simp only [Bool.false_eq_true, if_false, if_true]
    rw [fl, fA, ← eB]
    rfl
  rw [key]
  exact f2
end
end Go.Sl

/- The document's mirror: two lists that are there, or not: the plain model, and what a mirror has to do with it (own work). -/
set_option linter.unusedVariables false
set_option linter.unusedSimpArgs false
namespace Go.Sl
/-! ### Keys -/
section
variable {ks : List (Int × Nat)} {k j : Int} {c : Nat}
theorem kDel_erase (ks : List (Int × Nat)) (k : Int) : kDel ks k = ks.eraseP (·.1 == k) := by
  rw [List.eraseP_eq_eraseIdx]
  unfold kDel
  cases ks.findIdx? (·.1 == k) <;> rfl
def kOk (ks : List (Int × Nat)) : Prop := (ks.map (·.1)).Nodup
theorem kHas_mem : kHas ks k = true ↔ k ∈ ks.map (·.1) := by
  unfold kHas
  rw [List.any_eq_true, List.mem_map]
  refine ⟨fun ⟨x, h, e⟩ => ⟨x, h, by simpa using e⟩, fun ⟨x, h, e⟩ => ⟨x, h, by simpa using e⟩⟩
theorem kHas_put : kHas (kPut ks c k) j = (kHas ks j || decide (j = k)) := by
  unfold kPut
  split
  · rename_i h
    by_cases e : j = k
    · subst e; simp [h]
    · simp [e]
  · unfold kHas
    rw [List.any_append]
    simp only [List.any_cons, List.any_nil, Bool.or_false]
    congr 1
    by_cases e : j = k
    · subst e; simp
    · simp [e, Ne.symm e]
theorem kOk.put (h : kOk ks) : kOk (kPut ks c k) := by
  unfold kPut
  split
  · exact h
  · rename_i hn
    have hn2 : k ∉ ks.map (·.1) := fun h => hn (kHas_mem.2 h)
    unfold kOk
    rw [List.map_append, List.nodup_append]
    refine ⟨h, by simp, fun a ha b hb => ?_⟩
    simp at hb
    subst hb
    intro e; subst e
    exact hn2 ha
theorem kOk.del (h : kOk ks) : kOk (kDel ks k) := by
  rw [kDel_erase]
  unfold kOk at h ⊢
  exact List.Sublist.nodup (List.Sublist.map _ List.eraseP_sublist) h
theorem kHas_del : ∀ {ks : List (Int × Nat)}, kOk ks → kHas (kDel ks k) j = (kHas ks j && !decide (j = k))
  | [], _ => by simp [kDel, kHas]
  | x :: ks, h => by
    rw [kDel_erase, List.eraseP_cons]
    unfold kOk at h
    rw [List.map_cons, List.nodup_cons] at h
    by_cases e : x.1 = k
    · have hb : (x.1 == k) = true := by simpa using e
      rw [hb]
      simp only [cond_true, if_true]
      unfold kHas
      rw [List.any_cons]
      by_cases ej : j = k
      · have : ks.any (fun x => x.1 == k) = false := by
          rw [← Bool.not_eq_true]
          intro hc
          exact h.1 (e ▸ kHas_mem.1 hc)
        subst ej
        rw [this]; simp
      · have : (x.1 == j) = false := by simp; omega
        rw [this]; simp [ej]
    · have hb : (x.1 == k) = false := by simpa using e
      rw [hb]
      have ih := kHas_del (ks := ks) h.2
      rw [kDel_erase] at ih
      unfold kHas at ih ⊢
      simp only [cond_false, Bool.false_eq_true, if_false]
      rw [List.any_cons, List.any_cons, ih]
      by_cases ej : j = k
      · subst ej; rw [hb]; simp
      · simp [ej]
theorem kPut_len : (kPut ks c k).length = ks.length + (if kHas ks k then 0 else 1) := by
  unfold kPut; split <;> simp
theorem kDel_len2 : (kDel ks k).length + (if kHas ks k then 1 else 0) = ks.length := by
  rw [kDel_erase]
  split
  · rename_i h
    have h2 := kHas_mem.1 h
    obtain ⟨x, hx, e⟩ := List.mem_map.1 h2
    have := List.length_eraseP_of_mem (p := fun y : Int × Nat => y.1 == k) hx (by simpa using e)
    have hp : 0 < ks.length := List.length_pos_of_mem hx
    omega
  · rename_i h
    rw [List.eraseP_of_forall_not]
    · rfl
    · intro a ha hc
      exact h (kHas_mem.2 (List.mem_map.2 ⟨a, ha, by simpa using hc⟩))
end
/-! ### The document's mirror -/
structure Rs where
  l : List Sec
  o : Bool
  s : List Bool
structure Rm where
  x : Rs
  y : Rs
def Rm.sd (r : Rm) : Bool → Rs
  | false => r.x
  | true => r.y
def Rm.put (r : Rm) (i : Bool) (z : Rs) : Rm := match i with
  | false => { r with x := z }
  | true => { r with y := z }
def Rs.at (r : Rs) (n : Nat) : Sec := r.l.getD n []
def Rs.old (r : Rs) (n : Nat) : Bool := r.s.getD n false
def Rs.tells (r : Rs) (p : Int → Sec → Bool) (n : Nat) : Bool := !r.old n && p n (r.at n)
def Rm.has (r : Rm) (n : Int) : Bool := decide (0 ≤ n) && decide (n < r.x.l.length)
def Rm.readE (r : Rm) (p : Int → Sec → Bool) (n : Int) : Int :=
  if r.has n then (if r.x.o && r.y.o then 13 else if !r.x.o && r.x.tells p n.toNat then 0 else if !r.y.o && r.y.tells p n.toNat then 0 else 9) else 2
def Rm.readS (r : Rm) (p : Int → Sec → Bool) (n : Int) : Sec :=
  if r.has n then (if !r.x.o && r.x.tells p n.toNat then r.x.at n.toNat else if !r.y.o && r.y.tells p n.toNat then r.y.at n.toNat else secOf 0) else secOf 0
def Rs.wl (r : Rs) (n : Nat) (s : Sec) : Rs := { r with l := if r.o then r.l else r.l.set n s }
def Rs.wr (r : Rs) (n : Nat) (s : Sec) : Rs := { r.wl n s with s := r.s.set n r.o }
def Rm.writeE (r : Rm) (n : Int) : Int := if r.has n then (if r.x.o && r.y.o then 13 else 0) else 2
def Rm.write (r : Rm) (n : Int) (s : Sec) : Rm := if r.has n && !(r.x.o && r.y.o) then ⟨r.x.wr n.toNat s, r.y.wr n.toNat s⟩ else r
def Rm.healTo (r : Rm) (p : Int → Sec → Bool) (n : Int) : Option Bool :=
  if r.has n && (!r.x.o && !r.y.o) then
    (if r.x.tells p n.toNat then (if r.y.tells p n.toNat && decide (r.x.at n.toNat = r.y.at n.toNat) then none else some true) else if r.y.tells p n.toNat then some false else none)
  else none
def Rm.healR (r : Rm) (p : Int → Sec → Bool) (n : Int) : Int × Int :=
  if r.has n then (if !r.x.o && !r.y.o then
    (if r.x.tells p n.toNat then (if r.y.tells p n.toNat && decide (r.x.at n.toNat = r.y.at n.toNat) then (0, 0) else (1, 0)) else if r.y.tells p n.toNat then (1, 0) else (2, 0))
  else (0, 13)) else (0, 2)
def Rs.copy (r : Rs) (n : Nat) (s : Sec) : Rs := { r with l := r.l.set n s, s := r.s.set n false }
def Rm.heal (r : Rm) (p : Int → Sec → Bool) (n : Int) : Rm := match r.healTo p n with
  | none => r
  | some i => r.put i ((r.sd i).copy n.toNat ((r.sd (!i)).at n.toNat))
def Rm.both (r : Rm) (p : Int → Sec → Bool) (n : Int) : List Sec :=
  if r.has n then (if !r.x.o && p n (r.x.at n.toNat) then [r.x.at n.toNat] else []) ++ (if !r.y.o && p n (r.y.at n.toNat) then [r.y.at n.toNat] else []) else []
def Rs.cnt (r : Rs) : Nat := r.s.countP id
def Rm.sy1 (p : Int → Sec → Bool) (i : Bool) (r : Rm) (n : Nat) : Rm :=
  if (r.sd i).old n && (r.sd (!i)).tells p n then r.put i ((r.sd i).copy n ((r.sd (!i)).at n)) else r
def Rm.syN (p : Int → Sec → Bool) (i : Bool) (r : Rm) : Nat → Rm
  | 0 => r
  | k + 1 => Rm.sy1 p i (Rm.syN p i r k) k
def Rm.syncQ (r : Rm) (p : Int → Sec → Bool) : Rm := Rm.syN p true (Rm.syN p false r r.x.l.length) r.x.l.length
def Rm.sync (r : Rm) (p : Int → Sec → Bool) : Rm := if !r.x.o && !r.y.o then r.syncQ p else r
def Rm.syncE (r : Rm) (p : Int → Sec → Bool) : Int := if !r.x.o && !r.y.o then (if (r.syncQ p).x.cnt + (r.syncQ p).y.cnt = 0 then 0 else 9) else 13
def Rm.outs (r : Rm) (i on : Bool) : Rm := r.put i { r.sd i with o := on }
def Rm.rot (r : Rm) (i : Bool) (n : Int) (j : Nat) (c : UInt8) : Rm := if r.has n then r.put i { r.sd i with l := (r.sd i).l.set n.toNat (rotB ((r.sd i).at n.toNat) j c) } else r
def Rm.new (K : Nat) (a b : Bool) : Rm := ⟨⟨List.replicate K (secOf 0), a, List.replicate K a⟩, ⟨List.replicate K (secOf 0), b, List.replicate K b⟩⟩
theorem Rs.wl_out {z : Rs} {n : Nat} {s : Sec} (h : z.o = true) : z.wl n s = z := by cases z; simp_all [Rs.wl]
theorem Rs.wl_in {z : Rs} {n : Nat} {s : Sec} (h : z.o = false) : z.wl n s = { z with l := z.l.set n s } := by cases z; simp_all [Rs.wl]
theorem tf (b : Bool) : b = false ∨ b = true := by cases b <;> simp
/-! ### One side -/
structure Side (r : Rs) (a : Ab) (ks : List (Int × Nat)) (K k : Nat) : Prop where
  ok : a.ok
  len : a.S.length = K
  lies : a.lies = false
  out : a.out = r.o
  many : a.Q.length ≤ k
  none : r.o = true → a.Q = []
  rlen : r.l.length = K
  slen : r.s.length = K
  lok : ∀ s ∈ r.l, s.length = 128
  read : ∀ j s, r.l[j]? = some s → a.read j = s
  kok : kOk ks
  has : ∀ n : Int, kHas ks n = (decide (0 ≤ n) && r.s.getD n.toNat false)
  cnt : ks.length = r.cnt
section
variable {r : Rs} {a : Ab} {ks : List (Int × Nat)} {K k n : Nat} {s : Sec}
theorem Side.rd (h : Side r a ks K k) (ho : r.o = false) : RdW K r.l a k := ⟨h.ok, h.len, h.out.trans ho, h.lies, h.many, h.rlen, h.read⟩
theorem Side.mono {k' : Nat} (h : Side r a ks K k) (hk : k ≤ k') : Side r a ks K k' := { h with many := Nat.le_trans h.many hk }
theorem Side.idle (h : Side r a ks K k) (ho : r.o = true) : Side r a ks K 0 := { h with many := by rw [h.none ho]; exact Nat.le_refl _ }
theorem Side.atlen (h : Side r a ks K k) (hn : n < K) : (r.at n).length = 128 := by
  have hl : n < r.l.length := by have := h.rlen; omega
  exact h.lok _ (by rw [Rs.at, List.getD_eq_getElem?_getD, List.getElem?_eq_getElem hl]; exact List.getElem_mem hl)
theorem Side.get (h : Side r a ks K k) (hn : n < K) : r.l[n]? = some (r.at n) := by
  have hl : n < r.l.length := by have := h.rlen; omega
  rw [Rs.at, List.getD_eq_getElem?_getD, List.getElem?_eq_getElem hl]; rfl
theorem Side.push (h : Side r a ks K k) (ho : r.o = false) (hn : n < K) (hs : s.length = 128) : Side { r with l := r.l.set n s } (a.push n s) ks K (k + 1) := by
  have w := (h.rd ho).write hn hs
  exact ⟨w.ok, w.len, w.lies, h.out, w.many, (fun h2 => by rw [ho] at h2; cases h2), w.wlen, h.slen, set_ok2 h.lok hs, w.read, h.kok, h.has, h.cnt⟩
theorem Side.flush (h : Side r a ks K k) (ho : r.o = false) : Side r a.flush ks K 0 := by
  have w := (h.rd ho).flush
  exact ⟨w.ok, w.len, w.lies, w.out.trans ho.symm, w.many, (fun h2 => by rw [ho] at h2; cases h2), w.wlen, h.slen, h.lok, w.read, h.kok, h.has, h.cnt⟩
theorem getD_set {l : List Bool} {n j : Nat} {b : Bool} (hn : n < l.length) : (l.set n b).getD j false = if j = n then b else l.getD j false := by
  rw [List.getD_eq_getElem?_getD, List.getD_eq_getElem?_getD, List.getElem?_set]
  by_cases e : n = j
  · subst e; simp [hn]
  · simp [e, Ne.symm e]
theorem countP_set2 {l : List Bool} {n : Nat} {b : Bool} (hn : n < l.length) : (l.set n b).countP id + (if l.getD n false then 1 else 0) = l.countP id + (if b then 1 else 0) := by
  have := List.countP_set (p := id) (a := b) hn
  have hg : l.getD n false = l[n] := by rw [List.getD_eq_getElem?_getD, List.getElem?_eq_getElem hn]; rfl
  have hp : l[n] = true → 0 < l.countP id := fun h => List.countP_pos_iff.2 ⟨_, List.getElem_mem hn, h⟩
  rw [hg, this]
  simp only [id]
  cases hb : l[n]
  · simp
  · have := hp hb
    simp; omega
theorem Side.unmark (h : Side r a ks K k) (hn : n < K) : Side { r with s := r.s.set n false } a (kDel ks n) K k := by
  have hl : n < r.s.length := by have := h.slen; omega
  refine { h with slen := by simpa using h.slen, kok := h.kok.del, has := fun j => ?_, cnt := ?_ }
  · rw [kHas_del h.kok, h.has]
    simp only
    rw [getD_set hl]
    by_cases hj : 0 ≤ j
    · obtain ⟨j, rfl⟩ : ∃ m : Nat, j = m := ⟨j.toNat, by omega⟩
      simp only [Int.toNat_natCast]
      by_cases e : j = n
      · subst e; simp
      · have : ¬ ((j : Int) = n) := by omega
        simp [e, this]
    · simp [hj]
  · have h1 := kDel_len2 (ks := ks) (k := (n : Int))
    have h2 := countP_set2 (b := false) hl
    have h3 := h.has (n : Int)
    have h4 := h.cnt
    simp only [Int.toNat_natCast] at h3
    rw [show decide ((0 : Int) ≤ n) = true from by simp, Bool.true_and] at h3
    rw [h3] at h1
    simp only [Rs.cnt] at h4 ⊢
    simp only [Bool.false_eq_true, if_false] at h2
    omega
theorem Side.mark {c : Nat} (h : Side r a ks K k) (hn : n < K) : Side { r with s := r.s.set n true } a (kPut ks c n) K k := by
  have hl : n < r.s.length := by have := h.slen; omega
  refine { h with slen := by simpa using h.slen, kok := h.kok.put, has := fun j => ?_, cnt := ?_ }
  · rw [kHas_put, h.has]
    simp only
    rw [getD_set hl]
    by_cases hj : 0 ≤ j
    · obtain ⟨j, rfl⟩ : ∃ m : Nat, j = m := ⟨j.toNat, by omega⟩
      simp only [Int.toNat_natCast]
      by_cases e : j = n
      · subst e; simp
      · have : ¬ ((j : Int) = n) := by omega
        simp [e, this]
    · have : ¬ (j = (n : Int)) := by omega
      simp [hj, this]
  · have h1 := kPut_len (ks := ks) (k := (n : Int)) (c := c)
    have h2 := countP_set2 (b := true) hl
    have h3 := h.has (n : Int)
    have h4 := h.cnt
    simp only [Int.toNat_natCast] at h3
    rw [show decide ((0 : Int) ≤ n) = true from by simp, Bool.true_and] at h3
    rw [h3] at h1
    simp only [Rs.cnt] at h4 ⊢
    simp only [if_true] at h2
    cases hb : r.s.getD n false
    · rw [hb] at h1 h2; simp at h1 h2; omega
    · rw [hb] at h1 h2; simp at h1 h2; omega
theorem Side.stable (h : Side r a ks K 0) : a.Q = [] ∧ a.S = r.l := by
  have hq : a.Q = [] := List.eq_nil_of_length_eq_zero (Nat.le_zero.1 h.many)
  refine ⟨hq, ?_⟩
  apply List.ext_getElem?
  intro j
  by_cases hj : j < K
  · have g := h.get hj
    have := h.read j _ g
    rw [g, ← this]
    have hl : j < a.S.length := by have := h.len; omega
    simp [Ab.read, hq, lastW, List.getD, hl]
  · rw [List.getElem?_eq_none (by have := h.len; omega), List.getElem?_eq_none (by have := h.rlen; omega)]
theorem read_nil {a : Ab} (h : a.Q = []) (n : Nat) : a.read n = a.S.getD n [] := by simp [Ab.read, h, lastW]
theorem Side.outs {on : Bool} (h : Side r a ks K 0) : Side { r with o := on } (a.outs on) ks K 0 := by
  obtain ⟨hq, hS⟩ := h.stable
  have e : a.outs on = { a with out := on } := by cases on <;> simp [Ab.outs, hq]
  rw [e]
  exact ⟨h.ok, h.len, h.lies, rfl, h.many, fun _ => hq, h.rlen, h.slen, h.lok, h.read, h.kok, h.has, h.cnt⟩
theorem Side.rot {j : Nat} {c : UInt8} (h : Side r a ks K 0) (hn : n < K) : Side { r with l := r.l.set n (rotB (r.at n) j c) } (a.rot n j c) ks K 0 := by
  obtain ⟨hq, hS⟩ := h.stable
  have g := h.get hn
  have hg : a.S.getD n [] = r.at n := by rw [hS]; rfl
  refine ⟨Ab.rot_ok h.ok (by rw [h.len]; exact hn), by simp [Ab.rot, h.len], h.lies, h.out, by simp [Ab.rot, hq], fun _ => hq, by simpa using h.rlen, h.slen, set_ok2 h.lok (rotB_len.trans (h.atlen hn)), fun i u hu => ?_, h.kok, h.has, h.cnt⟩
  rw [read_nil (by simpa [Ab.rot] using hq)]
  simp only [Ab.rot]
  rw [hg, hS]
  simp only at hu
  rw [show (r.at n).set j ((r.at n).getD j 0 ^^^ c) = rotB (r.at n) j c from rfl, List.getD_eq_getElem?_getD, hu]; rfl
end
/-! ### Both -/
structure Rel (A : Da) (m : Mi) (r : Rm) (K k0 k1 : Nat) : Prop where
  calm : A.calm
  x : Side r.x A.a m.k0 K k0
  y : Side r.y A.b m.k1 K k1
  n : m.n = K
section
variable {A : Da} {m : Mi} {r : Rm} {K k0 k1 : Nat} {s : Sec} {ask : Da → Bool → Bool} {p : Int → Sec → Bool}
theorem Rel.sd (h : Rel A m r K k0 k1) (i : Bool) : Side (r.sd i) (A.dev i) (m.ks i) K (pick2 i k0 k1) := by
  cases i
  · exact h.x
  · exact h.y
theorem Rel.mono {j0 j1 : Nat} (h : Rel A m r K k0 k1) (h0 : k0 ≤ j0) (h1 : k1 ≤ j1) : Rel A m r K j0 j1 := ⟨h.calm, h.x.mono h0, h.y.mono h1, h.n⟩
theorem Rel.thr (h : Rel A m r K k0 k1) (i : Bool) : Sl.thr A i = !(r.sd i).o := by
  unfold Sl.thr Ab.down
  rw [(h.sd i).out, (Da.calm_pow h.calm i).1]
  simp
theorem Rel.has (h : Rel A m r K k0 k1) (n : Int) : m.has n = r.has n := by
  unfold Mi.has Rm.has
  rw [h.n, h.x.rlen]
theorem Rel.hasK (h : Rel A m r K k0 k1) (n : Int) : r.has n = (decide (0 ≤ n) && decide (n < K)) := by
  unfold Rm.has
  rw [h.x.rlen]
theorem Rel.reads (h : Rel A m r K k0 k1) (i : Bool) {n : Nat} (hn : n < K) (ho : (r.sd i).o = false) : A.rS i (n : Int) = (r.sd i).at n ∧ A.rE i (n : Int) = 0 := by
  obtain ⟨h1, h2⟩ := Da.read_calm h.calm i (n : Int)
  have hd := h.sd i
  have hh : (A.dev i).has (n : Int) = true := by simp only [Ab.has, hd.len]; simp; omega
  rw [h1, h2, hd.out, ho, hh]
  exact ⟨by simpa using hd.read n _ (hd.get hn), rfl⟩
theorem Rel.writes (h : Rel A m r K k0 k1) (i : Bool) {n : Nat} (hn : n < K) (ho : (r.sd i).o = false) : A.wE i (n : Int) = 0 ∧ A.write i (n : Int) s = A.setd i ((A.dev i).push n s) := by
  obtain ⟨h1, h2⟩ := Da.write_calm h.calm i (n : Int) s
  have hd := h.sd i
  have hh : (A.dev i).has (n : Int) = true := by simp only [Ab.has, hd.len]; simp; omega
  rw [hd.out, ho, hh] at h1 h2
  exact ⟨by simpa using h2, by simpa using h1⟩
theorem Rel.setd (h : Rel A m r K k0 k1) (i : Bool) {z : Rs} {a : Ab} {k : Nat} (hs : Side z a (m.ks i) K k) : Rel (A.setd i a) m (r.put i z) K (if i then k0 else k) (if i then k else k1) := by
  have hc := Da.calm_setd h.calm i a
  cases i
  · exact ⟨hc, hs, h.y, h.n⟩
  · exact ⟨hc, h.x, hs, h.n⟩
/-- A side's part of a write. -/
def AskRel (n : Int) (s : Sec) (ask : Da → Bool → Bool) : Prop := ∀ A m r K k0 k1, Rel A m r K k0 k1 → ∀ i, (r.sd i).o = false → m.has n = true → ask A i = false → (r.sd i).l[n.toNat]? = some s
theorem Rel.side (h : Rel A m r K k0 k1) (i : Bool) {n : Nat} (hn : n < K) (hs : s.length = 128) (ha : AskRel n s ask) :
    pd A i ask n = !(r.sd i).o ∧ Rel (pA A i ask n s) m (r.put i ((r.sd i).wl n s)) K (if i then k0 else k0 + 1) (if i then k1 + 1 else k1) := by
  have hm : m.has (n : Int) = true := by rw [h.has, h.hasK]; simp; omega
  unfold pd pA
  rw [h.thr i]
  cases ho : (r.sd i).o
  · have ew := Rs.wl_in (n := n) (s := s) ho
    rw [ew]
    simp only [Bool.not_false, Bool.true_and, Bool.false_eq_true, if_false]
    obtain ⟨w1, w2⟩ := h.writes (s := s) i hn ho
    cases hk : ask A i
    · have hX := ha _ _ _ _ _ _ h i ho hm hk
      rw [Int.toNat_natCast] at hX
      refine ⟨by simp, ?_⟩
      simp only [Bool.false_eq_true, if_false]
      rw [set_self hX]
      have e : r.put i (r.sd i) = r := by cases i <;> rfl
      rw [show ({ r.sd i with l := (r.sd i).l } : Rs) = r.sd i from rfl, e]
      cases i
      · exact h.mono (Nat.le_succ _) (Nat.le_refl _)
      · exact h.mono (Nat.le_refl _) (Nat.le_succ _)
    · refine ⟨by simp [w1], ?_⟩
      simp only [if_true]
      rw [w2]
      have := h.setd i ((h.sd i).push ho hn hs)
      cases i <;> exact this
  · have ew := Rs.wl_out (n := n) (s := s) ho
    have e : r.put i (r.sd i) = r := by cases i <;> rfl
    rw [ew, e]
    simp only [Bool.not_true, Bool.false_and, Bool.false_eq_true, if_false, if_true]
    refine ⟨trivial, ?_⟩
    cases i
    · exact h.mono (Nat.le_succ _) (Nat.le_refl _)
    · exact h.mono (Nat.le_refl _) (Nat.le_succ _)
theorem Rel.put (h : Rel A m r K k0 k1) (n : Int) (hs : s.length = 128) (ha : AskRel n s ask) :
    putE m A ask n s = r.writeE n ∧ Rel (putDa m A ask n s) (putm m A ask n s) (r.write n s) K (k0 + 1) (k1 + 1) := by
  unfold putE putDa putm Rm.writeE Rm.write
  rw [h.has]
  cases hb : r.has n
  · simp only [Bool.false_eq_true, if_false, Bool.false_and]
    exact ⟨trivial, h.mono (Nat.le_succ _) (Nat.le_succ _)⟩
  · rw [h.hasK] at hb
    obtain ⟨n, rfl⟩ : ∃ k : Nat, n = k := ⟨n.toNat, by simp at hb; omega⟩
    have hn : n < K := by simp at hb; omega
    obtain ⟨d0, v0⟩ := h.side false hn hs ha
    simp only [Bool.false_eq_true, if_false] at v0
    obtain ⟨d1, v1⟩ := v0.side true hn hs ha
    simp only [if_true] at v1
    have e1 : ((r.put false ((r.sd false).wl n s)).sd true) = r.y := rfl
    rw [e1] at d1 v1
    have eD0 : putD A ask n s false = !r.x.o := d0
    have eD1 : putD A ask n s true = !r.y.o := d1
    rw [eD0, eD1]
    simp only [if_true, Bool.true_and, Int.toNat_natCast]
    have e2 : (Rm.put (r.put false ((r.sd false).wl n s)) true (r.y.wl n s)) = ⟨r.x.wl n s, r.y.wl n s⟩ := rfl
    rw [e2] at v1
    unfold putA
    cases hx : r.x.o <;> cases hy : r.y.o
    all_goals simp only [Bool.not_false, Bool.not_true, Bool.or_true, Bool.true_or, Bool.or_false, Bool.false_or, Bool.and_self, Bool.and_true, Bool.and_false, Bool.true_and, Bool.false_and, if_true, if_false, Bool.false_eq_true, Bool.or_self]
    · refine ⟨trivial, v1.calm, ?_, ?_, v1.n⟩
      · have := v1.x.unmark hn; simp only [Rs.wr, hx]; exact this
      · have := v1.y.unmark hn; simp only [Rs.wr, hy]; exact this
    · refine ⟨trivial, v1.calm, ?_, ?_, v1.n⟩
      · have := v1.x.unmark hn; simp only [Rs.wr, hx]; exact this
      · have := v1.y.mark (c := m.c1) hn; simp only [Rs.wr, hy]; exact this
    · refine ⟨trivial, v1.calm, ?_, ?_, v1.n⟩
      · have := v1.x.mark (c := m.c0) hn; simp only [Rs.wr, hx]; exact this
      · have := v1.y.unmark hn; simp only [Rs.wr, hy]; exact this
    · refine ⟨trivial, ?_⟩
      have e3 : (⟨r.x.wl n s, r.y.wl n s⟩ : Rm) = r := by rw [Rs.wl_out hx, Rs.wl_out hy]
      rw [e3] at v1
      exact v1
theorem Rel.flush1 (h : Rel A m r K k0 k1) (i : Bool) (ho : (r.sd i).o = false) : A.fE i = 0 ∧ Rel (A.flush i) m r K (if i then k0 else 0) (if i then 0 else k1) := by
  obtain ⟨h1, h2⟩ := Da.flush_calm h.calm i
  rw [(h.sd i).out, ho] at h1 h2
  refine ⟨by simpa using h2, ?_⟩
  have hw : A.flush i = A.setd i (A.dev i).flush := by simpa using h1
  rw [hw]
  have := h.setd i ((h.sd i).flush ho)
  have e : r.put i (r.sd i) = r := by cases i <;> rfl
  rw [e] at this
  exact this
theorem Rel.mfl (h : Rel A m r K k0 k1) : (Sl.mfl A).2 = (if r.x.o && r.y.o then 13 else 0) ∧ Rel (Sl.mfl A).1 m r K 0 0 := by
  unfold Sl.mfl fl1
  rw [h.thr false, h.thr true]
  show _ = (if (r.sd false).o && (r.sd true).o then 13 else 0) ∧ _
  cases hx : (r.sd false).o <;> cases hy : (r.sd true).o
  all_goals simp only [Bool.not_false, Bool.not_true, if_true, if_false, Bool.false_eq_true, Bool.and_self, Bool.and_true, Bool.and_false]
  · obtain ⟨e0, v0⟩ := h.flush1 false hx
    obtain ⟨e1, v1⟩ := v0.flush1 true hy
    simp only [Bool.false_eq_true, if_false, if_true] at v1
    rw [e0]
    simp only [if_true]
    rw [e1]
    exact ⟨by simp, v1⟩
  · obtain ⟨e0, v0⟩ := h.flush1 false hx
    simp only [Bool.false_eq_true, if_false] at v0
    rw [e0]
    exact ⟨by simp, v0.calm, v0.x, v0.y.idle hy, v0.n⟩
  · obtain ⟨e1, v1⟩ := h.flush1 true hy
    simp only [if_true] at v1
    rw [e1]
    exact ⟨by simp, v1.calm, v1.x.idle hx, v1.y, v1.n⟩
  · exact ⟨trivial, h.calm, h.x.idle hx, h.y.idle hy, h.n⟩
theorem Rel.okAt (h : Rel A m r K k0 k1) (i : Bool) {n : Nat} (hn : n < K) (ho : (r.sd i).o = false) : Sl.okAt A i (m.ks i) p n = (r.sd i).tells p n := by
  obtain ⟨r0, e0⟩ := h.reads i hn ho
  unfold Sl.okAt Rs.tells Rs.old
  rw [r0, e0, (h.sd i).has]
  simp
theorem Rel.read (h : Rel A m r K k0 k1) (n : Int) : mrE m A p n = r.readE p n ∧ mrS m A p n = r.readS p n := by
  unfold mrE mrS Rm.readE Rm.readS
  rw [h.has]
  cases hb : r.has n
  · simp
  · rw [h.hasK] at hb
    obtain ⟨n, rfl⟩ : ∃ k : Nat, n = k := ⟨n.toNat, by simp at hb; omega⟩
    have hn : n < K := by simp at hb; omega
    rw [h.thr false, h.thr true]
    have a0 := h.okAt (p := p) false hn
    have a1 := h.okAt (p := p) true hn
    have r0 := h.reads false hn
    have r1 := h.reads true hn
    simp only [Int.toNat_natCast, if_true]
    show (if (!r.x.o || !r.y.o) = true then _ else _) = _ ∧ _
    simp only [Rm.sd] at a0 a1 r0 r1 ⊢
    simp only [Mi.ks] at a0 a1
    rcases tf r.x.o with hx | hx <;> rcases tf r.y.o with hy | hy
    · rw [a0 hx, a1 hy, (r0 hx).1, (r1 hy).1]; simp [hx, hy]
    · rw [a0 hx, (r0 hx).1]; simp [hx, hy]
    · rw [a1 hy, (r1 hy).1]; simp [hx, hy]
    · simp [hx, hy]
theorem Rel.copy (h : Rel A m r K k0 k1) (i : Bool) {n : Nat} (hn : n < K) (ho : (r.sd i).o = false) (hs : s.length = 128) :
    A.wE i n = 0 ∧ Rel (A.write i n s) (m.del i n) (r.put i ((r.sd i).copy n s)) K (if i then k0 else k0 + 1) (if i then k1 + 1 else k1) := by
  obtain ⟨w1, w2⟩ := h.writes (s := s) i hn ho
  refine ⟨w1, ?_⟩
  rw [w2]
  have hc := Da.calm_setd h.calm i ((A.dev i).push n s)
  have := ((h.sd i).push ho hn hs).unmark hn
  cases i
  · exact ⟨hc, this, h.y, h.n⟩
  · exact ⟨hc, h.x, this, h.n⟩
theorem Rel.heal (h : Rel A m r K k0 k1) (n : Int) : Sl.healR m A p n = r.healR p n ∧ Rel (healA m A p n) (healM m A p n) (r.heal p n) K (k0 + 1) (k1 + 1) := by
  have hr : Sl.healR m A p n = r.healR p n ∧ Sl.healTo m A p n = r.healTo p n := by
    unfold Sl.healR Sl.healTo Rm.healR Rm.healTo
    rw [h.has]
    cases hb : r.has n
    · simp
    · rw [h.hasK] at hb
      obtain ⟨n, rfl⟩ : ∃ k : Nat, n = k := ⟨n.toNat, by simp at hb; omega⟩
      have hn : n < K := by simp at hb; omega
      rw [h.thr false, h.thr true]
      simp only [Rm.sd, Int.toNat_natCast, if_true]
      rcases tf r.x.o with hx | hx <;> rcases tf r.y.o with hy | hy
      · obtain ⟨r0, _⟩ := h.reads false hn hx
        obtain ⟨r1, _⟩ := h.reads true hn hy
        have g0 : hg0 m A p n = r.x.tells p n := by unfold hg0 Rs.tells Rs.old; rw [r0, h.x.has]; simp [Rm.sd]
        have g1 : hg1 m A p n = r.y.tells p n := by unfold hg1 Rs.tells Rs.old; rw [r1, h.y.has]; simp [Rm.sd]
        rw [g0, g1, r0, r1]
        exact ⟨rfl, rfl⟩
      all_goals simp [hx, hy]
  refine ⟨hr.1, ?_⟩
  unfold healA healM Rm.heal
  rw [hr.2]
  cases ht : r.healTo p n with
  | none => exact h.mono (Nat.le_succ _) (Nat.le_succ _)
  | some i =>
    have hb : r.has n = true ∧ r.x.o = false ∧ r.y.o = false := by
      unfold Rm.healTo at ht
      split at ht
      · rename_i h2; simp at h2; exact h2
      · cases ht
    obtain ⟨hb, hx, hy⟩ := hb
    rw [h.hasK] at hb
    obtain ⟨n, rfl⟩ : ∃ k : Nat, n = k := ⟨n.toNat, by simp at hb; omega⟩
    have hn : n < K := by simp at hb; omega
    have ho : ∀ i, (r.sd i).o = false := fun i => by cases i; exact hx; exact hy
    dsimp only
    rw [(h.reads (!i) hn (ho _)).1, Int.toNat_natCast]
    obtain ⟨w1, w2⟩ := h.copy i hn (ho i) ((h.sd (!i)).atlen hn)
    rw [w1]
    simp only [if_true]
    have e : (if i = true then { m with k1 := kDel m.k1 n } else { m with k0 := kDel m.k0 n }) = m.del i n := by cases i <;> rfl
    rw [e]
    refine w2.mono ?_ ?_ <;> cases i <;> simp
theorem Rel.both (h : Rel A m r K k0 k1) (n : Int) : bothS m A p n = r.both p n := by
  unfold bothS Rm.both
  rw [h.has]
  cases hb : r.has n
  · simp
  · rw [h.hasK] at hb
    obtain ⟨n, rfl⟩ : ∃ k : Nat, n = k := ⟨n.toNat, by simp at hb; omega⟩
    have hn : n < K := by simp at hb; omega
    rw [h.thr false, h.thr true]
    simp only [Rm.sd, Int.toNat_natCast, if_true]
    have r0 := h.reads false hn
    have r1 := h.reads true hn
    simp only [Rm.sd] at r0 r1
    rcases tf r.x.o with hx | hx <;> rcases tf r.y.o with hy | hy
    · rw [(r0 hx).1, (r0 hx).2, (r1 hy).1, (r1 hy).2]; simp [hx, hy]
    · rw [(r0 hx).1, (r0 hx).2]; simp [hx, hy]
    · rw [(r1 hy).1, (r1 hy).2]; simp [hx, hy]
    · simp [hx, hy]
theorem Rm.sd_put (r : Rm) (i : Bool) (z : Rs) : (r.put i z).sd i = z := by cases i <;> rfl
theorem Rm.sd_put2 (r : Rm) (i : Bool) (z : Rs) : (r.put i z).sd (!i) = r.sd (!i) := by cases i <;> rfl
theorem Rel.sy1 (h : Rel A m r K k0 k1) (i : Bool) {n : Nat} (hn : n < K) (ho : ∀ i, (r.sd i).o = false) :
    Rel (Sl.sy1 p i (A, m) n).1 (Sl.sy1 p i (A, m) n).2 (Rm.sy1 p i r n) K (k0 + 1) (k1 + 1) ∧ ∀ j, ((Rm.sy1 p i r n).sd j).o = false := by
  have e : syOk m A p i n = ((r.sd i).old n && (r.sd (!i)).tells p n) := by
    unfold syOk Rs.tells Rs.old
    obtain ⟨r0, e0⟩ := h.reads (!i) hn (ho _)
    rw [r0, e0, (h.sd i).has, (h.sd (!i)).has]
    simp [Bool.and_assoc]
  unfold Sl.sy1 Rm.sy1
  simp only
  rw [e]
  split
  · obtain ⟨w1, w2⟩ := h.copy i hn (ho i) ((h.sd (!i)).atlen hn)
    rw [(h.reads (!i) hn (ho _)).1, w1]
    simp only [if_true]
    refine ⟨w2.mono (by cases i <;> simp) (by cases i <;> simp), fun j => ?_⟩
    by_cases hj : j = i
    · subst hj; rw [Rm.sd_put]; exact ho j
    · obtain rfl : j = !i := by cases i <;> cases j <;> simp_all
      rw [Rm.sd_put2]; exact ho _
  · exact ⟨h.mono (Nat.le_succ _) (Nat.le_succ _), ho⟩
theorem Rel.syN (h : Rel A m r K k0 k1) (i : Bool) (ho : ∀ i, (r.sd i).o = false) : ∀ k, k ≤ K →
    Rel (Sl.syN p i (A, m) k).1 (Sl.syN p i (A, m) k).2 (Rm.syN p i r k) K (k0 + k) (k1 + k) ∧ ∀ j, ((Rm.syN p i r k).sd j).o = false
  | 0, _ => ⟨h, ho⟩
  | k + 1, hk => by
    obtain ⟨v, ho2⟩ := Rel.syN h i ho k (by omega)
    exact v.sy1 i (by omega) ho2
theorem Rel.sync (h : Rel A m r K k0 k1) : Sl.syncE m A p = r.syncE p ∧ Rel (syncA m A p) (syncM m A p) (r.sync p) K k0 k1 := by
  unfold Sl.syncE syncA syncM Rm.syncE Rm.sync
  rw [h.thr false, h.thr true]
  simp only [Rm.sd]
  rcases tf r.x.o with hx | hx <;> rcases tf r.y.o with hy | hy
  all_goals simp only [hx, hy, Bool.not_false, Bool.not_true, Bool.and_self, Bool.and_true, Bool.and_false, if_true, if_false, Bool.false_eq_true]
  · have ho : ∀ i, (r.sd i).o = false := fun i => by cases i; exact hx; exact hy
    obtain ⟨v, ho2⟩ := h.syN (p := p) false ho K (Nat.le_refl _)
    obtain ⟨v2, ho3⟩ := v.syN (p := p) true ho2 K (Nat.le_refl _)
    have e : syncQ m A p = ((Sl.syN p true ((Sl.syN p false (A, m) K).1, (Sl.syN p false (A, m) K).2) K)) := by unfold syncQ; rw [h.n]
    have e2 : r.syncQ p = Rm.syN p true (Rm.syN p false r K) K := by unfold Rm.syncQ; rw [h.x.rlen]
    rw [← e, ← e2] at v2
    refine ⟨?_, (v2.mfl.2).mono (Nat.zero_le _) (Nat.zero_le _)⟩
    rw [v2.x.cnt, v2.y.cnt]
  all_goals exact ⟨trivial, h⟩
theorem Rel.outs (h : Rel A m r K 0 0) (i on : Bool) : Rel (A.setd i ((A.dev i).outs on)) m (r.outs i on) K 0 0 := by
  have hs : Side (r.sd i) (A.dev i) (m.ks i) K 0 := by have := h.sd i; cases i <;> exact this
  have := h.setd i hs.outs (a := (A.dev i).outs on)
  cases i <;> exact this
theorem Rel.rot (h : Rel A m r K 0 0) (i : Bool) (n : Int) {j : Nat} {c : UInt8} (hj : j < 128) : (A.dev i).rotE n j = r.has n ∧ Rel (A.setd i ((A.dev i).rots n j c)) m (r.rot i n j c) K 0 0 := by
  have hs : Side (r.sd i) (A.dev i) (m.ks i) K 0 := by have := h.sd i; cases i <;> exact this
  have e : (A.dev i).rotE n j = r.has n := by
    unfold Ab.rotE Ab.has
    rw [hs.len, h.hasK]
    have : (decide ((0 : Int) ≤ j) && decide ((j : Int) < 128)) = true := by simp; omega
    rw [this, Bool.and_true]
  refine ⟨e, ?_⟩
  unfold Ab.rots Rm.rot
  rw [e]
  cases hb : r.has n
  · simp only [Bool.false_eq_true, if_false]
    rw [Da.setd_self]; exact h
  · rw [h.hasK] at hb
    obtain ⟨n, rfl⟩ : ∃ k : Nat, n = k := ⟨n.toNat, by simp at hb; omega⟩
    have hn : n < K := by simp at hb; omega
    simp only [if_true, Int.toNat_natCast]
    have := h.setd i (hs.rot hn (j := j) (c := c))
    cases i <;> exact this
end
end Go.Sl

/- A mirror and the document's mirror: what is kept (own work). -/
set_option linter.unusedVariables false
set_option linter.unusedSimpArgs false
namespace Go.Sl
structure Mq (t : DT) (gv : Value) (D : Duo) (A : Da) (m : Mi) (r : Rm) (K k0 k1 mb bx bys bp : Nat) : Prop where
  two : Two t D A bx bys bp
  rel : Rel A m r K k0 k1
  mb : m.b = mb
  bx : m.bx = bx
  bys : m.bys = bys
  gv : m.gv = gv
def MSame (m m' : Mi) : Prop := m'.b = m.b ∧ m'.bx = m.bx ∧ m'.bys = m.bys ∧ m'.gv = m.gv
theorem putm_same (m : Mi) (A : Da) (ask : Da → Bool → Bool) (n : Int) (s : Sec) : MSame m (putm m A ask n s) := by
  unfold putm MSame
  split
  · exact ⟨rfl, rfl, rfl, rfl⟩
  · exact ⟨rfl, rfl, rfl, rfl⟩
section
variable {t : DT} {gv : Value} {D D' : Duo} {A A' : Da} {m m' : Mi} {r r' : Rm} {K k0 k1 j0 j1 mb bx bys bp : Nat} {p : Int → Sec → Bool}
theorem Mq.with (h : Mq t gv D A m r K k0 k1 mb bx bys bp) (hT : Two t D' A' m.bx m.bys bp) (v : Rel A' m' r' K j0 j1) (e : MSame m m') : Mq t gv D' A' m' r' K j0 j1 mb bx bys bp :=
  ⟨by rw [h.bx, h.bys] at hT; exact hT, v, e.1.trans h.mb, e.2.1.trans h.bx, e.2.2.1.trans h.bys, e.2.2.2.trans h.gv⟩
theorem Mq.many {c : Nat} (h : Mq t gv D A m r K k0 k1 mb bx bys bp) (h0 : k0 ≤ c) (h1 : k1 ≤ c) (i : Bool) : (A.dev i).Q.length ≤ c := by
  cases i
  · exact Nat.le_trans (h.rel.sd false).many h0
  · exact Nat.le_trans (h.rel.sd true).many h1
theorem Mq.mono (h : Mq t gv D A m r K k0 k1 mb bx bys bp) (h0 : k0 ≤ j0) (h1 : k1 ≤ j1) : Mq t gv D A m r K j0 j1 mb bx bys bp := ⟨h.two, h.rel.mono h0 h1, h.mb, h.bx, h.bys, h.gv⟩
end
theorem stN_ok (K : Nat) : kOk (stN K) := by
  unfold kOk stN
  rw [List.map_map]
  unfold List.Nodup
  rw [List.pairwise_map]
  exact List.Pairwise.imp (fun h => by simp; omega) (List.pairwise_lt_range (n := K))
theorem Side.new {K : Nat} (hK : K ≤ 4096) (o : Bool) : Side ⟨List.replicate K (secOf 0), o, List.replicate K o⟩ ((Ab.new K).outs o) (stale0 (!o) K) K 0 := by
  have w := RdW.new hK
  have e : (Ab.new K).outs o = { Ab.new K with out := o } := by cases o <;> rfl
  rw [e]
  refine ⟨w.ok, w.len, rfl, rfl, Nat.le_refl _, fun _ => rfl, by simp, by simp, fun s hs => by rw [List.eq_of_mem_replicate hs]; exact secOf_len _, w.read, ?_, fun n => ?_, ?_⟩
  · unfold stale0; split
    · exact List.nodup_nil
    · exact stN_ok K
  · cases o
    · simp only [Bool.not_false, stale0, if_true]
      rw [show kHas [] n = false from rfl, List.getD_eq_getElem?_getD, List.getElem?_replicate]
      split <;> simp
    · simp only [Bool.not_true, stale0, Bool.false_eq_true, if_false]
      rw [stN_has, List.getD_eq_getElem?_getD, List.getElem?_replicate]
      by_cases h0 : 0 ≤ n
      · by_cases h1 : n < K
        · rw [if_pos (by omega)]; simp [h0, h1]
        · rw [if_neg (by omega)]; simp [h1]
      · simp [h0]
  · cases o
    · simp [stale0, Rs.cnt, List.countP_replicate]
    · simp [stale0, Rs.cnt, stN, List.countP_replicate]
theorem Rel.new {A : Da} {K : Nat} {a b : Bool} (hK : K ≤ 4096) (hc : A.calm) (hx : A.a = (Ab.new K).outs a) (hy : A.b = (Ab.new K).outs b) (bx bys : Nat) (gv : Value) (mb r0 r1 : Nat) : Rel A (mnew A bx bys gv mb r0 r1) (Rm.new K a b) K 0 0 := by
  have la : A.a.S.length = K := by rw [hx]; cases a <;> simp [Ab.outs, Ab.new]
  have lb : A.b.S.length = K := by rw [hy]; cases b <;> simp [Ab.outs, Ab.new]
  have oa : A.a.out = a := by rw [hx]; cases a <;> rfl
  have ob : A.b.out = b := by rw [hy]; cases b <;> rfl
  have ta : Sl.thr A false = !a := by unfold Sl.thr Ab.down; rw [(Da.calm_pow hc false).1, show A.dev false = A.a from rfl, oa]; simp
  have tb : Sl.thr A true = !b := by unfold Sl.thr Ab.down; rw [(Da.calm_pow hc true).1, show A.dev true = A.b from rfl, ob]; simp
  have hm : min A.a.S.length A.b.S.length = K := by omega
  refine ⟨hc, ?_, ?_, hm⟩
  · show Side _ A.a (stale0 (Sl.thr A false) (min A.a.S.length A.b.S.length)) K 0
    rw [hm, ta, hx]; exact Side.new hK a
  · show Side _ A.b (stale0 (Sl.thr A true) (min A.a.S.length A.b.S.length)) K 0
    rw [hm, tb, hy]; exact Side.new hK b
theorem Rm.readS_len {A : Da} {m : Mi} {r : Rm} {K k0 k1 : Nat} {p : Int → Sec → Bool} (h : Rel A m r K k0 k1) (n : Int) : (r.readS p n).length = 128 := by
  unfold Rm.readS
  split
  · rename_i hb
    rw [h.hasK] at hb
    have hn : n.toNat < K := by simp at hb; omega
    split
    · exact h.x.atlen hn
    · split
      · exact h.y.atlen hn
      · exact secOf_len _
  · exact secOf_len _
/-! ### One device is enough -/
structure One (r : Rm) (want : List Sec) (p : Int → Sec → Bool) (K : Nat) : Prop where
  out : r.x.o = false
  new : ∀ n, r.x.old n = false
  len : r.x.l.length = K
  wlen : want.length = K
  ok : ∀ n : Nat, n < K → p n (want.getD n []) = true → r.x.at n = want.getD n []
section
variable {r : Rm} {want : List Sec} {p : Int → Sec → Bool} {K : Nat} {s : Sec}
theorem One.put {i : Bool} {z : Rs} (h : One r want p K) : One (r.put true z) want p K := ⟨h.out, h.new, h.len, h.wlen, h.ok⟩
theorem One.write (h : One r want p K) {n : Nat} (hn : n < K) : One (r.write n s) (want.set n s) p K ∧ r.writeE n = 0 := by
  have hb : r.has n = true := by unfold Rm.has; rw [h.len]; simp; omega
  have e : r.write n s = ⟨r.x.wr n s, r.y.wr n s⟩ := by unfold Rm.write; rw [hb, h.out]; simp
  refine ⟨?_, by unfold Rm.writeE; rw [hb, h.out]; simp⟩
  rw [e]
  have ew : r.x.wr n s = { r.x with l := r.x.l.set n s, s := r.x.s.set n false } := by unfold Rs.wr; rw [Rs.wl_in h.out, h.out]; simp only [h.out]
  rw [ew]
  refine ⟨h.out, fun j => ?_, by simpa using h.len, by simpa using h.wlen, fun j hj hp => ?_⟩
  · have := h.new j
    unfold Rs.old at this ⊢
    simp only
    rw [List.getD_eq_getElem?_getD] at this ⊢
    rw [List.getElem?_set]
    split
    · split <;> rfl
    · exact this
  · simp only [Rs.at]
    rw [List.getD_eq_getElem?_getD, List.getD_eq_getElem?_getD, List.getElem?_set, List.getElem?_set, h.len, h.wlen]
    by_cases ej : n = j
    · subst ej; simp [hn]
    · have := h.ok j hj (by rw [List.getD_eq_getElem?_getD, List.getElem?_set_ne ej, ← List.getD_eq_getElem?_getD] at hp; exact hp)
      simp only [ej, if_false]
      simpa [Rs.at, List.getD_eq_getElem?_getD] using this
theorem One.syN_x (h : One r want p K) : ∀ k, Rm.syN p false r k = r
  | 0 => rfl
  | k + 1 => by
    show Rm.sy1 p false (Rm.syN p false r k) k = r
    rw [One.syN_x h k]
    unfold Rm.sy1
    rw [show (r.sd false).old k = false from h.new k]
    rfl
theorem Rm.syN_y (r : Rm) (p : Int → Sec → Bool) : ∀ k, ∃ z, Rm.syN p true r k = r.put true z
  | 0 => ⟨r.y, rfl⟩
  | k + 1 => by
    obtain ⟨z, e⟩ := Rm.syN_y r p k
    show ∃ z, Rm.sy1 p true (Rm.syN p true r k) k = _
    rw [e]
    unfold Rm.sy1
    split
    · exact ⟨_, rfl⟩
    · exact ⟨z, rfl⟩
theorem One.sync (h : One r want p K) : One (r.sync p) want p K := by
  unfold Rm.sync
  split
  · unfold Rm.syncQ
    rw [h.syN_x]
    obtain ⟨z, e⟩ := Rm.syN_y r p r.x.l.length
    rw [e]
    exact h.put (i := true)
  · exact h
theorem One.heal (h : One r want p K) (n : Int) : One (r.heal p n) want p K := by
  unfold Rm.heal
  cases ht : r.healTo p n with
  | none => exact h
  | some i =>
    cases i
    · have hb : r.has n = true ∧ r.x.tells p n.toNat = false := by
        unfold Rm.healTo at ht
        split at ht
        · rename_i h2
          split at ht
          · split at ht <;> cases ht
          · rename_i h3; simp at h2; exact ⟨h2.1, by simpa using h3⟩
        · cases ht
      obtain ⟨hb, hx⟩ := hb
      unfold Rm.has at hb
      rw [h.len] at hb
      obtain ⟨n, rfl⟩ : ∃ k : Nat, n = k := ⟨n.toNat, by simp at hb; omega⟩
      have hn : n < K := by simp at hb; omega
      simp only [Int.toNat_natCast] at hx ⊢
      have hp : p n (r.x.at n) = false := by unfold Rs.tells at hx; rw [h.new n] at hx; simpa using hx
      refine ⟨h.out, fun j => ?_, by simpa [Rm.put, Rs.copy, Rm.sd] using h.len, h.wlen, fun j hj hq => ?_⟩
      · have := h.new j
        unfold Rs.old at this ⊢
        simp only [Rm.put, Rs.copy, Rm.sd]
        rw [List.getD_eq_getElem?_getD] at this ⊢
        rw [List.getElem?_set]
        split
        · split <;> rfl
        · exact this
      · have hj2 := h.ok j hj hq
        by_cases ej : n = j
        · subst ej
          rw [hj2, hq] at hp; cases hp
        · simp only [Rm.put, Rs.copy, Rm.sd, Rs.at] at hj2 ⊢
          rw [List.getD_eq_getElem?_getD, List.getElem?_set_ne ej, ← List.getD_eq_getElem?_getD]; exact hj2
    · exact h.put (i := true)
theorem One.outs (h : One r want p K) (on : Bool) : One (r.outs true on) want p K := h.put (i := true)
theorem One.rot (h : One r want p K) (n : Int) (j : Nat) (c : UInt8) : One (r.rot true n j c) want p K := by
  unfold Rm.rot
  split
  · exact h.put (i := true)
  · exact h
/-- What the law asks at the end. -/
theorem One.tells (h : One r want p K) {n : Nat} (hn : n < K) : (p n (want.getD n []) = true → r.readE p n = 0 ∧ r.readS p n = want.getD n []) ∧ (p n (want.getD n []) = false → r.readE p n = 0 → r.readS p n ≠ want.getD n []) := by
  have hb : r.has n = true := by unfold Rm.has; rw [h.len]; simp; omega
  have hx : r.x.tells p n = p n (r.x.at n) := by unfold Rs.tells; rw [h.new]; simp
  unfold Rm.readE Rm.readS
  rw [hb, h.out]
  simp only [if_true, Int.toNat_natCast, Bool.false_and, Bool.false_eq_true, if_false, Bool.not_false, Bool.true_and]
  rw [hx]
  refine ⟨fun hp => ?_, fun hp he hs => ?_⟩
  · rw [h.ok n hn hp, hp]
    simp
  · split at he
    · rename_i h1
      rw [if_pos h1] at hs
      rw [hs, hp] at h1; cases h1
    · rename_i h1
      split at he
      · rename_i h2
        rw [if_neg h1, if_pos h2] at hs
        simp only [Bool.and_eq_true, Rs.tells] at h2
        rw [hs, hp] at h2; simp at h2
      · cases he
end
end Go.Sl

/- The acts of the mirror's laws (own work). -/
set_option linter.unusedVariables false
set_option linter.unusedSimpArgs false
namespace Go.Sl
structure ActM where
  kind : Int
  n : Int
  x : UInt8
  y : UInt8
  on : Bool
abbrev acells (a : ActM) : List Value := [.int .i64 a.kind, .int .i64 a.n, .int .u8 (a.x.toNat : Int), .int .u8 (a.y.toNat : Int), .bool a.on]
def acts (l : List ActM) : List Value := (l.map acells).flatten
/-- What is kept through MirrorOne. -/
structure OneS (r : Rm) (want : List Sec) (p : Int → Sec → Bool) (K : Nat) : Prop where
  one : One r want p K
  wok : ∀ s ∈ want, s.length = 128
end Go.Sl

/- The document's mirror in memory (own work). -/
set_option linter.unusedVariables false
set_option linter.unusedSimpArgs false
namespace Go.Sl
def bls (l : List Bool) : List Value := l.map Value.bool
structure Ro where
  b : Nat
  l0 : Nat
  l1 : Nat
  s0 : Nat
  s1 : Nat
abbrev slB (b K : Nat) : Value := .slice (some ⟨b, 0, none⟩) K K
abbrev Ro.cells (o : Ro) (K : Nat) (r : Rm) : List Value := [slB o.l0 K, slB o.l1 K, .bool r.x.o, .bool r.y.o, slB o.s0 K, slB o.s1 K]
abbrev lseg (t b : Nat) (l : List Sec) : List (Nat × Obj) := [(b, .cells (bs l.flatten).toArray t)]
abbrev sseg (t b : Nat) (l : List Bool) : List (Nat × Obj) := [(b, .cells (bls l).toArray t)]
abbrev Ro.hp (tm ts tb : Nat) (o : Ro) (K : Nat) (r : Rm) (H : Hp) : Hp := [(o.b, .cells (o.cells K r).toArray tm)] :: lseg ts o.l0 r.x.l :: lseg ts o.l1 r.y.l :: sseg tb o.s0 r.x.s :: sseg tb o.s1 r.y.s :: H
structure RmOk (r : Rm) (K : Nat) : Prop where
  l0 : r.x.l.length = K
  l1 : r.y.l.length = K
  s0 : r.x.s.length = K
  s1 : r.y.s.length = K
  ok0 : ∀ s ∈ r.x.l, s.length = 128
  ok1 : ∀ s ∈ r.y.l, s.length = 128
  le : K ≤ 4096
theorem Rel.ok {A : Da} {m : Mi} {r : Rm} {K k0 k1 : Nat} (h : Rel A m r K k0 k1) (hK : K ≤ 4096) : RmOk r K := ⟨h.x.rlen, h.y.rlen, h.x.slen, h.y.slen, h.x.lok, h.y.lok, hK⟩
section
variable {K n : Nat} {l : List Sec} {s : Sec}
theorem lget (h : l.length = K) (hn : n < K) : l[n]? = some (l.getD n []) := by
  rw [List.getD_eq_getElem?_getD, List.getElem?_eq_getElem (by omega)]; rfl
theorem lget_len (h : l.length = K) (hn : n < K) (ok : ∀ s ∈ l, s.length = 128) : (l.getD n []).length = 128 := ok _ (List.mem_of_getElem? (lget h hn))
end
/-! ### Counting what is stale -/
def ck (l : List Bool) (k : Nat) : Nat := (l.take k).countP id
/-! ### What sync does to one side -/
section
variable {r : Rm} {p : Int → Sec → Bool} {K : Nat}
theorem RmOk.copy (h : RmOk r K) (i : Bool) (n : Nat) {s : Sec} (hs : s.length = 128) : RmOk (r.put i ((r.sd i).copy n s)) K := by
  cases i
  · exact ⟨by simpa [Rm.put, Rs.copy, Rm.sd] using h.l0, h.l1, by simpa [Rm.put, Rs.copy, Rm.sd] using h.s0, h.s1, set_ok2 h.ok0 hs, h.ok1, h.le⟩
  · exact ⟨h.l0, by simpa [Rm.put, Rs.copy, Rm.sd] using h.l1, h.s0, by simpa [Rm.put, Rs.copy, Rm.sd] using h.s1, h.ok0, set_ok2 h.ok1 hs, h.le⟩
theorem RmOk.atlen (h : RmOk r K) (i : Bool) {n : Nat} (hn : n < K) : ((r.sd i).at n).length = 128 := by
  cases i
  · exact lget_len h.l0 hn h.ok0
  · exact lget_len h.l1 hn h.ok1
theorem RmOk.sy1 (h : RmOk r K) (i : Bool) {n : Nat} (hn : n < K) : RmOk (Rm.sy1 p i r n) K := by
  unfold Rm.sy1
  split
  · exact h.copy i n (h.atlen _ hn)
  · exact h
theorem RmOk.syN (h : RmOk r K) (i : Bool) : ∀ k, k ≤ K → RmOk (Rm.syN p i r k) K
  | 0, _ => h
  | k + 1, hk => (RmOk.syN h i k (by omega)).sy1 i (by omega)
end
def mix (o : Bool) (i K : Nat) : List Bool := List.replicate i o ++ List.replicate (K - i) false
theorem Rm.syN_x (r : Rm) (p : Int → Sec → Bool) (k : Nat) : (Rm.syN p true r k).x = r.x := by
  obtain ⟨z, e⟩ := Rm.syN_y r p k
  rw [e]; rfl
/-! ### A byte that rots -/
section
variable {l : List Sec} {K n j : Nat} {y : UInt8}
end
/-- What an act makes of the document's mirror. -/
def Rm.act (r : Rm) (p : Int → Sec → Bool) (f : UInt8 → UInt8 → Sec) (a : ActM) : Rm :=
  if a.kind = 0 ∨ a.kind = 5 then r.write a.n (f a.x a.y) else if a.kind = 2 then r.sync p else if a.kind = 3 then r.heal p a.n else if a.kind = 6 then r.outs false a.on else if a.kind = 7 then r.outs true a.on
  else if a.kind = 8 then r.rot false a.n (a.x.toNat % 128) a.y else if a.kind = 9 then r.rot true a.n (a.x.toNat % 128) a.y else r
theorem szOf_nat {k : Nat} (h : k ≤ 4096) : szOf (k : Int) = k := by unfold szOf; omega
end Go.Sl

/- walks (own work; the walks' lines by a program of this repo). -/
set_option linter.unusedVariables false
set_option linter.unusedSimpArgs false
set_option maxRecDepth 20000
namespace Go.Proofs.Ytjjiclgbdenkkaa
open Go.Sl
attribute [local irreducible] BodyQ WpC WpL WpS WpH OpW FnS



set_option maxHeartbeats 4000000 in

theorem none_s {w0 : World} {H : Hp} (a : Nat) (ha : a < 256) (n : Int) (s : Sec) (hs : s.length = 128) : FnS Try.prog w0 6 #[.int .u8 (a : Int), .int .i64 n, .agg (bs s).toArray] H (fun e H' => e = .returned (.bool true)) := by
  refine FnS_intro (n := 160) (rs := [.tmp 6]) (vs := [.int .u8 (a : Int), .int .i64 n, .agg (bs s).toArray]) Try.func6 rfl Try.ntmps6 rfl rfl ?_
  refine C_seq ?_
  refine C_region ?_
  refine L_op rfl (op_box rfl rfl rfl (fun B1 => ?_))
  refine L_y rfl (y_assign rfl) rfl ?_
  refine L_nil ?_
  refine C_seq ?_
  refine C_seq ?_
  refine C_region ?_
  refine L_op rfl (op_call rfl rfl (fun a w => Try.call15 a w) rfl ?_)
  refine awake09_s.mono ?_
  rintro _ _ ⟨rfl, e⟩
  obtain rfl := e.symm
  clear e
  refine ⟨_, rfl, ?_⟩
  refine L_y rfl (y_not rfl) rfl ?_
  refine L_nil ?_
  refine C_cond_f rfl ?_
  refine C_skip ?_
  refine C_seq ?_
  refine C_region ?_
  refine L_y rfl (y_assign rfl) rfl ?_
  refine L_nil ?_
  refine C_seq ?_
  obtain ⟨k, hk⟩ : ∃ k, a % 13 = k := ⟨_, rfl⟩
  have hk13 : k < 13 := by omega
  refine C_region ?_
  refine L_y rfl (y_move rfl) rfl ?_
  refine L_y rfl (y_conv rfl us_5 Try.underlying3 (wi64 (by omega) (by omega))) rfl ?_
  refine L_y rfl (y_rem rfl rfl (by decide) (show _ = ((k : Nat) : Int) from by rw [← hk]; rfl)) rfl ?_
  refine L_y rfl (y_assign rfl) rfl ?_
  refine L_nil ?_
  refine C_seq ?_
  refine C_region ?_
  refine L_y rfl (y_move rfl) rfl ?_
  refine L_op rfl (op_call rfl rfl (fun a w => Try.call16 a w) rfl ?_)
  refine (new_ln (k : Int)).mono ?_
  rintro _ _ ⟨d51, p51, hG51, ha51, hP51, rfl, rfl⟩
  have hA51 : d51.a = Ab.new k := by rw [ha51] <;> (rw [szOf_nat (by omega)])
  have hb51 : d51.b = d51.b := rfl
  refine ⟨_, rfl, ?_⟩
  refine L_op rfl (op_call rfl rfl (fun a w => Try.call17 a w) rfl ?_)
  refine (new_h (f := 18) (cap := []) (d := d51) (sees 0 0 rfl)).mono ?_
  rintro _ _ ⟨mh, r0, r1, rfl, rfl⟩
  refine ⟨_, rfl, ?_⟩
  refine L_y rfl (y_assign rfl) rfl ?_
  refine L_nil ?_
  refine C_seq ?_
  refine C_seq ?_
  refine C_region ?_
  refine L_y rfl (y_assign rfl) rfl ?_
  refine L_nil ?_
  refine C_block ?_
  refine C_loopIn (In_round ?_)
  refine C_seq ?_
  refine C_seq ?_
  refine C_region ?_
  refine L_y rfl (y_move rfl) rfl ?_
  refine L_y rfl (y_lss rfl rfl) rfl ?_
  refine L_nil ?_
  refine C_cond_t rfl ?_
  refine C_skip ?_
  refine C_seq ?_
  refine C_block ?_
  refine C_seq ?_
  refine C_region ?_
  refine L_y rfl (y_move rfl) rfl ?_
  refine L_y rfl (y_assign rfl) rfl ?_
  refine L_nil ?_
  refine C_seq ?_
  refine C_seq ?_
  refine C_region ?_
  refine L_y rfl (y_move rfl) rfl ?_
  refine L_y rfl (y_eqi rfl rfl) rfl ?_
  refine L_nil ?_
  refine C_cond_f rfl ?_
  refine C_skip ?_
  refine C_seq ?_
  refine C_region ?_
  refine L_y rfl (y_move rfl) rfl ?_
  refine L_y rfl (y_move rfl) rfl ?_
  refine L_op rfl (op_call rfl rfl (fun a w => Try.call22 a w) rfl ?_)
  refine (mread_0 _).mono ?_
  rintro _ _ ⟨rfl, e⟩
  obtain rfl := e.symm
  clear e
  refine ⟨_, rfl, ?_⟩
  refine L_y rfl (y_move rfl) rfl ?_
  refine L_y rfl (y_extract rfl rfl) rfl ?_
  refine L_y rfl (y_extract rfl rfl) rfl ?_
  refine L_op rfl (op_alloc zl_32 rfl (fun B2 => ?_))
  refine L_op rfl (op_storeA 0 0 rfl rfl rfl sz_32 (by rw [bs_length, secOf_len _]) rfl (bs_one _) (by simp) ?_)
  refine L_y rfl (y_assign rfl) rfl ?_
  refine L_nil ?_
  refine C_seq ?_
  refine C_region ?_
  refine L_y rfl (y_move rfl) rfl ?_
  refine L_y rfl (y_move rfl) rfl ?_
  refine L_op rfl (op_call rfl rfl (fun a w => Try.call23 a w) rfl ?_)
  refine (mheal_0 _).mono ?_
  rintro _ _ ⟨rfl, e⟩
  obtain rfl := e.symm
  clear e
  refine ⟨_, rfl, ?_⟩
  refine L_y rfl (y_move rfl) rfl ?_
  refine L_y rfl (y_extract rfl rfl) rfl ?_
  refine L_y rfl (y_extract rfl rfl) rfl ?_
  refine L_y rfl (y_assign rfl) rfl ?_
  refine L_y rfl (y_assign rfl) rfl ?_
  refine L_nil ?_
  refine C_seq ?_
  refine C_region ?_
  refine L_y rfl (y_move rfl) rfl ?_
  refine L_op rfl (op_call rfl rfl (fun a w => Try.call35 a w) rfl ?_)
  refine stale_nil.mono ?_
  rintro _ _ ⟨rfl, e⟩
  obtain rfl := e.symm
  clear e
  refine ⟨_, rfl, ?_⟩
  refine L_y rfl (y_move rfl) rfl ?_
  refine L_y rfl (y_extract rfl rfl) rfl ?_
  refine L_y rfl (y_extract rfl rfl) rfl ?_
  refine L_y rfl (y_assign rfl) rfl ?_
  refine L_y rfl (y_assign rfl) rfl ?_
  refine L_nil ?_
  refine C_seq ?_
  refine C_region ?_
  refine L_y rfl (y_move rfl) rfl ?_
  refine L_op rfl (op_call rfl rfl (fun a w => Try.call36 a w) rfl ?_)
  refine mlen_nil.mono ?_
  rintro _ _ ⟨rfl, e⟩
  obtain rfl := e.symm
  clear e
  refine ⟨_, rfl, ?_⟩
  refine L_y rfl (y_nei rfl rfl) rfl ?_
  refine L_y rfl (y_move rfl) rfl ?_
  refine L_y rfl (y_move rfl) rfl ?_
  refine L_y rfl (y_nei rfl rfl) rfl ?_
  refine L_y rfl (y_pick_f rfl rfl) rfl ?_
  refine L_y rfl (y_move rfl) rfl ?_
  refine L_y rfl (y_move rfl) rfl ?_
  refine L_y rfl (y_nei rfl rfl) rfl ?_
  refine L_y rfl (y_pick_f rfl rfl) rfl ?_
  refine L_y rfl (y_move rfl) rfl ?_
  refine L_y rfl (y_move rfl) rfl ?_
  refine L_y rfl (y_move rfl) rfl ?_
  refine L_y rfl (y_loadA rfl ag_32 sz_32 (sees 7 0 rfl) (by rw [bs_length, hs]; decide) (bs_whole0 _ (hs))) rfl ?_
  refine L_op rfl (op_call rfl rfl (fun a w => Try.call19 a w) rfl ?_)
  refine (mwrite_0 _ s hs).mono ?_
  rintro _ _ ⟨rfl, e⟩
  obtain rfl := e.symm
  clear e
  refine ⟨_, rfl, ?_⟩
  refine L_y rfl (y_nei rfl rfl) rfl ?_
  refine L_y rfl (y_pick_f rfl rfl) rfl ?_
  refine L_y rfl (y_move rfl) rfl ?_
  refine L_y rfl (y_move rfl) rfl ?_
  refine L_y rfl (y_move rfl) rfl ?_
  refine L_y rfl (y_loadA rfl ag_32 sz_32 (sees 7 0 rfl) (by rw [bs_length, hs]; decide) (bs_whole0 _ (hs))) rfl ?_
  refine L_op rfl (op_call rfl rfl (fun a w => Try.call31 a w) rfl ?_)
  refine (mchoose_0 _ s hs).mono ?_
  rintro _ _ ⟨rfl, e⟩
  obtain rfl := e.symm
  clear e
  refine ⟨_, rfl, ?_⟩
  refine L_y rfl (y_nei rfl rfl) rfl ?_
  refine L_y rfl (y_pick_f rfl rfl) rfl ?_
  refine L_y rfl (y_move rfl) rfl ?_
  refine L_y rfl (y_move rfl) rfl ?_
  refine L_y rfl (y_move rfl) rfl ?_
  refine L_op rfl (op_call rfl rfl (fun a w => Try.call25 a w) rfl ?_)
  refine (mboth_0 _).mono ?_
  rintro _ _ ⟨rfl, e⟩
  obtain rfl := e.symm
  clear e
  refine ⟨_, rfl, ?_⟩
  refine L_y rfl (y_lenS rfl rfl Try.underlying40) rfl ?_
  refine L_y rfl (y_nei rfl rfl) rfl ?_
  refine L_y rfl (y_pick_f rfl rfl) rfl ?_
  refine L_y rfl (y_move rfl) rfl ?_
  refine L_y rfl (y_move rfl) rfl ?_
  refine L_y rfl (y_nei rfl rfl) rfl ?_
  refine L_y rfl (y_pick_f rfl rfl) rfl ?_
  refine L_y rfl (y_move rfl) rfl ?_
  refine L_y rfl (y_move rfl) rfl ?_
  refine L_y rfl (y_nei rfl rfl) rfl ?_
  refine L_y rfl (y_pick_f rfl rfl) rfl ?_
  refine L_y rfl (y_move rfl) rfl ?_
  refine L_y rfl (y_move rfl) rfl ?_
  refine L_op rfl (op_call rfl rfl (fun a w => Try.call32 a w) rfl ?_)
  refine msync_0.mono ?_
  rintro _ _ ⟨rfl, e⟩
  obtain rfl := e.symm
  clear e
  refine ⟨_, rfl, ?_⟩
  refine L_y rfl (y_nei rfl rfl) rfl ?_
  refine L_y rfl (y_pick_f rfl rfl) rfl ?_
  refine L_nil ?_
  refine C_cond_f rfl ?_
  refine C_skip ?_
  refine C_region ?_
  refine L_y rfl (y_move rfl) rfl ?_
  refine L_y rfl (y_add rfl rfl (show _ = (1 : Int) from rfl)) rfl ?_
  refine L_y rfl (y_assign rfl) rfl ?_
  refine L_nil ?_
  refine In_round ?_
  refine C_seq ?_
  refine C_seq ?_
  refine C_region ?_
  refine L_y rfl (y_move rfl) rfl ?_
  refine L_y rfl (y_lss rfl rfl) rfl ?_
  refine L_nil ?_
  refine C_cond_t rfl ?_
  refine C_skip ?_
  refine C_seq ?_
  refine C_block ?_
  refine C_seq ?_
  refine C_region ?_
  refine L_y rfl (y_move rfl) rfl ?_
  refine L_y rfl (y_assign rfl) rfl ?_
  refine L_nil ?_
  refine C_seq ?_
  refine C_seq ?_
  refine C_region ?_
  refine L_y rfl (y_move rfl) rfl ?_
  refine L_y rfl (y_eqi rfl rfl) rfl ?_
  refine L_nil ?_
  refine C_cond_t rfl ?_
  refine C_region ?_
  refine L_y rfl (y_move rfl) rfl ?_
  refine L_y rfl (y_assign rfl) rfl ?_
  refine L_nil ?_
  refine C_seq ?_
  refine C_region ?_
  refine L_y rfl (y_move rfl) rfl ?_
  refine L_y rfl (y_move rfl) rfl ?_
  refine L_op rfl (op_call rfl rfl (fun a w => Try.call22 a w) rfl ?_)
  refine (mread_h (sees 1 0 rfl) _).mono ?_
  rintro _ _ ⟨rfl, e⟩
  obtain rfl := e.symm
  clear e
  refine ⟨_, rfl, ?_⟩
  refine L_y rfl (y_move rfl) rfl ?_
  refine L_y rfl (y_extract rfl rfl) rfl ?_
  refine L_y rfl (y_extract rfl rfl) rfl ?_
  refine L_op rfl (op_alloc zl_32 rfl (fun B3 => ?_))
  refine L_op rfl (op_storeA 0 0 rfl rfl rfl sz_32 (by rw [bs_length, secOf_len _]) rfl (bs_one _) (by simp) ?_)
  refine L_y rfl (y_assign rfl) rfl ?_
  refine L_nil ?_
  refine C_seq ?_
  refine C_region ?_
  refine L_y rfl (y_move rfl) rfl ?_
  refine L_y rfl (y_move rfl) rfl ?_
  refine L_op rfl (op_call rfl rfl (fun a w => Try.call23 a w) rfl ?_)
  refine (mheal_h (sees 2 0 rfl) _).mono ?_
  rintro _ _ ⟨rfl, e⟩
  obtain rfl := e.symm
  clear e
  refine ⟨_, rfl, ?_⟩
  refine L_y rfl (y_move rfl) rfl ?_
  refine L_y rfl (y_extract rfl rfl) rfl ?_
  refine L_y rfl (y_extract rfl rfl) rfl ?_
  refine L_y rfl (y_assign rfl) rfl ?_
  refine L_y rfl (y_assign rfl) rfl ?_
  refine L_nil ?_
  refine C_seq ?_
  refine C_region ?_
  refine L_y rfl (y_move rfl) rfl ?_
  refine L_op rfl (op_call rfl rfl (fun a w => Try.call35 a w) rfl ?_)
  refine (FnS.sub (hsub_pick [2] rfl) stale_h).mono ?_
  rintro _ _ ⟨rfl, rfl⟩
  refine ⟨_, rfl, ?_⟩
  refine L_y rfl (y_move rfl) rfl ?_
  refine L_y rfl (y_extract rfl rfl) rfl ?_
  refine L_y rfl (y_extract rfl rfl) rfl ?_
  refine L_y rfl (y_assign rfl) rfl ?_
  refine L_y rfl (y_assign rfl) rfl ?_
  refine L_nil ?_
  refine C_seq ?_
  refine C_region ?_
  refine L_y rfl (y_move rfl) rfl ?_
  refine L_op rfl (op_call rfl rfl (fun a w => Try.call36 a w) rfl ?_)
  refine (len_h (sees 0 0 rfl)).mono ?_
  rintro _ _ ⟨rfl, e⟩
  obtain rfl := e.symm
  clear e
  refine ⟨_, rfl, ?_⟩
  refine L_y rfl (y_nei rfl rfl) rfl ?_
  refine L_y rfl (y_move rfl) rfl ?_
  refine L_y rfl (y_move rfl) rfl ?_
  refine L_y rfl (y_nei rfl rfl) rfl ?_
  refine L_y rfl (y_pick_f rfl rfl) rfl ?_
  refine L_y rfl (y_move rfl) rfl ?_
  refine L_y rfl (y_move rfl) rfl ?_
  refine L_y rfl (y_nei rfl rfl) rfl ?_
  refine L_y rfl (y_pick_f rfl rfl) rfl ?_
  refine L_y rfl (y_move rfl) rfl ?_
  refine L_y rfl (y_move rfl) rfl ?_
  refine L_y rfl (y_move rfl) rfl ?_
  refine L_y rfl (y_loadA rfl ag_32 sz_32 (sees 8 0 rfl) (by rw [bs_length, hs]; decide) (bs_whole0 _ (hs))) rfl ?_
  refine L_op rfl (op_call rfl rfl (fun a w => Try.call19 a w) rfl ?_)
  refine (mwrite_h (sees 0 0 rfl) _ s hs).mono ?_
  rintro _ _ ⟨rfl, e⟩
  obtain rfl := e.symm
  clear e
  refine ⟨_, rfl, ?_⟩
  refine L_y rfl (y_nei rfl rfl) rfl ?_
  refine L_y rfl (y_pick_f rfl rfl) rfl ?_
  refine L_y rfl (y_move rfl) rfl ?_
  refine L_y rfl (y_move rfl) rfl ?_
  refine L_y rfl (y_move rfl) rfl ?_
  refine L_y rfl (y_loadA rfl ag_32 sz_32 (sees 8 0 rfl) (by rw [bs_length, hs]; decide) (bs_whole0 _ (hs))) rfl ?_
  refine L_op rfl (op_call rfl rfl (fun a w => Try.call31 a w) rfl ?_)
  refine (mchoose_h (sees 0 0 rfl) _ s hs).mono ?_
  rintro _ _ ⟨rfl, e⟩
  obtain rfl := e.symm
  clear e
  refine ⟨_, rfl, ?_⟩
  refine L_y rfl (y_nei rfl rfl) rfl ?_
  refine L_y rfl (y_pick_f rfl rfl) rfl ?_
  refine L_y rfl (y_move rfl) rfl ?_
  refine L_y rfl (y_move rfl) rfl ?_
  refine L_y rfl (y_move rfl) rfl ?_
  refine L_op rfl (op_call rfl rfl (fun a w => Try.call25 a w) rfl ?_)
  refine (mboth_h (sees 0 0 rfl) _).mono ?_
  rintro _ _ ⟨rfl, e⟩
  obtain rfl := e.symm
  clear e
  refine ⟨_, rfl, ?_⟩
  refine L_y rfl (y_lenS rfl rfl Try.underlying40) rfl ?_
  refine L_y rfl (y_nei rfl rfl) rfl ?_
  refine L_y rfl (y_pick_f rfl rfl) rfl ?_
  refine L_y rfl (y_move rfl) rfl ?_
  refine L_y rfl (y_move rfl) rfl ?_
  refine L_y rfl (y_nei rfl rfl) rfl ?_
  refine L_y rfl (y_pick_f rfl rfl) rfl ?_
  refine L_y rfl (y_move rfl) rfl ?_
  refine L_y rfl (y_move rfl) rfl ?_
  refine L_y rfl (y_nei rfl rfl) rfl ?_
  refine L_y rfl (y_pick_f rfl rfl) rfl ?_
  refine L_y rfl (y_move rfl) rfl ?_
  refine L_y rfl (y_move rfl) rfl ?_
  refine L_op rfl (op_call rfl rfl (fun a w => Try.call32 a w) rfl ?_)
  refine (FnS.sub (hsub_pick [0, 2, 2, 2, 2, 2] rfl) (sync_h hG51 (by rw [ha51]; rfl) (by rw [hP51]))).mono ?_
  rintro _ _ ⟨rfl, rfl⟩
  refine ⟨_, rfl, ?_⟩
  refine L_y rfl (y_nei rfl rfl) rfl ?_
  refine L_y rfl (y_pick_f rfl rfl) rfl ?_
  refine L_nil ?_
  refine C_cond_f rfl ?_
  refine C_skip ?_
  refine C_region ?_
  refine L_y rfl (y_move rfl) rfl ?_
  refine L_y rfl (y_add rfl rfl (show _ = (2 : Int) from rfl)) rfl ?_
  refine L_y rfl (y_assign rfl) rfl ?_
  refine L_nil ?_
  refine In_round ?_
  refine C_seq ?_
  refine C_seq ?_
  refine C_region ?_
  refine L_y rfl (y_move rfl) rfl ?_
  refine L_y rfl (y_lss rfl rfl) rfl ?_
  refine L_nil ?_
  refine C_cond_f rfl ?_
  refine C_exit ?_
  refine C_seq ?_
  refine C_region ?_
  refine L_y rfl (y_move rfl) rfl ?_
  refine L_op rfl (op_call rfl rfl (fun a w => Try.call16 a w) rfl ?_)
  refine (new_ln (k : Int)).mono ?_
  rintro _ _ ⟨d91, p91, hG91, ha91, hP91, rfl, rfl⟩
  have hA91 : d91.a = Ab.new k := by rw [ha91] <;> (rw [szOf_nat (by omega)])
  have hb91 : d91.b = d91.b := rfl
  refine ⟨_, rfl, ?_⟩
  refine L_y rfl (y_move rfl) rfl ?_
  refine L_y rfl (y_add rfl rfl (show _ = ((k + 2 : Nat) : Int) from by rw [wi64 (by omega) (by omega)]; rfl)) rfl ?_
  refine L_op rfl (op_call rfl rfl (fun a w => Try.call16 a w) rfl ?_)
  refine ((newnil_d hG91 rfl ((k + 2 : Nat) : Int)).sub (hsub_pick [0, 0, 0, 0, 0] rfl)).mono ?_
  rintro _ _ ⟨by1, D1, h1, rfl, rfl⟩
  replace h1 := h1.to (B := ⟨Ab.new k, Ab.new (k + 2), q0, some q0⟩) (by rw [hA91, hP91] <;> (rw [szOf_nat (by omega)]))
  refine ⟨_, rfl, ?_⟩
  refine L_op rfl (op_call rfl rfl (fun a w => Try.call17 a w) rfl ?_)
  refine (FnS.sub (hsub_pick [0] rfl) (mnew_nil h1)).mono ?_
  rintro _ _ ⟨mb, r2, r3, rfl, rfl⟩
  obtain ⟨m, hm, hmb, hmx, hmy, hmn, hgv⟩ : ∃ m, mnew (A2 k) d91.b by1 .nilFunc mb r2 r3 = m ∧ m.b = mb ∧ m.bx = d91.b ∧ m.bys = by1 ∧ m.n = k ∧ m.gv = .nilFunc := ⟨_, rfl, rfl, rfl, rfl, (show min (List.replicate k (secOf 0)).length (List.replicate (k + 2) (secOf 0)).length = k from by simp), rfl⟩
  rw [hm]
  have hT2 : Two dt D1 (A2 k) d91.b by1 p91.b := h1
  refine ⟨_, rfl, ?_⟩
  refine L_y rfl (y_assign rfl) rfl ?_
  refine L_nil ?_
  refine C_seq ?_
  refine C_region ?_
  refine L_y rfl (y_move rfl) rfl ?_
  refine L_y rfl (y_move rfl) rfl ?_
  refine L_op rfl (op_call rfl rfl (fun a w => Try.call22 a w) rfl ?_)
  refine (FnS.sub (hsub_pick [0, 0] rfl) (mread_b hmb hmx hmy hT2 (p := fun _ _ => false) (.inl ⟨hgv, rfl⟩) n)).mono ?_
  rintro _ _ ⟨rfl, rfl⟩
  refine ⟨_, rfl, ?_⟩
  refine L_y rfl (y_move rfl) rfl ?_
  refine L_y rfl (y_extract rfl rfl) rfl ?_
  refine L_y rfl (y_extract rfl rfl) rfl ?_
  refine L_op rfl (op_alloc zl_32 rfl (fun B4 => ?_))
  refine L_op rfl (op_storeA 0 0 rfl rfl rfl sz_32 (by rw [bs_length, mrS_len hT2.oks]) rfl (bs_one _) (by simp) ?_)
  refine L_y rfl (y_assign rfl) rfl ?_
  refine L_nil ?_
  refine C_seq ?_
  refine C_seq ?_
  refine C_region ?_
  refine L_y rfl (y_move rfl) rfl ?_
  refine L_y rfl (y_lss rfl rfl) rfl ?_
  refine L_y rfl (y_move rfl) rfl ?_
  refine L_case 113 rfl (fun hg19_3 => ?_) (fun hg19_3 => ?_)
  · have hno : n < 0 ∨ (k : Int) ≤ n := .inl (of_decide_eq_true hg19_3)
    refine L_skip rfl rfl ?_
    refine L_skip rfl rfl ?_
    refine L_skip rfl rfl ?_
    refine L_y rfl (y_pick_t rfl rfl) rfl ?_
    refine L_nil ?_
    refine C_cond_t rfl ?_
    refine C_seq ?_
    refine C_region ?_
    refine L_y rfl (y_move rfl) rfl ?_
    refine L_op rfl (op_call rfl rfl (fun a w => Try.call36 a w) rfl ?_)
    refine ((show FnS _ _ _ _ _ _ from hmb ▸ len_m (sees 1 0 rfl)) : FnS _ w0 _ _ _ (fun e H' => e = .returned (.int .i64 (m.n : Int)) ∧ H' = _)).mono ?_
    rintro _ _ ⟨e4, e⟩
    obtain rfl := e.symm
    clear e
    rw [hmn] at e4
    obtain rfl := e4
    refine ⟨_, rfl, ?_⟩
    refine L_y rfl (y_move rfl) rfl ?_
    refine L_y rfl (y_eqi rfl rfl) rfl ?_
    refine L_y rfl (y_move rfl) rfl ?_
    refine L_case 122 rfl (fun hg20_5 => ?_) (fun hg20_5 => ?_)
    · skip
      refine L_y rfl (y_move rfl) rfl ?_
      refine L_y rfl (y_eqi rfl rfl) rfl ?_
      refine L_y rfl (y_pick_t rfl rfl) rfl ?_
      refine L_y rfl (y_move rfl) rfl ?_
      refine L_case 126 rfl (fun hg20_9 => ?_) (fun hg20_9 => ?_)
      · skip
        refine L_y rfl (y_move rfl) rfl ?_
        refine L_y rfl (y_move rfl) rfl ?_
        refine L_y rfl (y_loadA rfl ag_32 sz_32 (sees 11 0 rfl) (by rw [bs_length, hs]; decide) (bs_whole0 _ (hs))) rfl ?_
        refine L_op rfl (op_call rfl rfl (fun a w => Try.call19 a w) rfl ?_)
        refine (FnS.sub (hsub_pick [1, 1] rfl) (mwrite_b hmb hmx hmy hT2 n s hs (fun i => by cases i <;> exact Nat.lt_of_sub_pos (by decide : 0 < 99990 - 0)))).mono ?_
        rintro _ _ ⟨rfl, D9, hT9, rfl⟩
        refine ⟨_, rfl, ?_⟩
        refine L_y rfl (y_eqi rfl rfl) rfl ?_
        refine L_y rfl (y_pick_t rfl rfl) rfl ?_
        refine L_y rfl (y_move rfl) rfl ?_
        refine L_case 133 rfl (fun hg20_16 => ?_) (fun hg20_16 => ?_)
        · skip
          refine L_y rfl (y_move rfl) rfl ?_
          refine L_op rfl (op_call rfl rfl (fun a w => Try.call21 a w) rfl ?_)
          refine mflush_0.mono ?_
          rintro _ _ ⟨rfl, e⟩
          obtain rfl := e.symm
          clear e
          refine ⟨_, rfl, ?_⟩
          refine L_y rfl (y_eqi rfl rfl) rfl ?_
          refine L_y rfl (y_pick_t rfl rfl) rfl ?_
          refine L_y rfl (y_assign rfl) rfl ?_
          refine L_nil ?_
          refine C_ret ?_
          refine B_ret (rv_tmp rfl rv_nil) (HSub.refl _) ?_
          first | rfl | exact ret_bool (by simp)
        · exact absurd hg20_16 (by rw [(none_out (s := s) (p := fun _ _ => false) hmn hno).2]; decide)
      · exact absurd hg20_9 (by rw [(none_out (s := s) (p := fun _ _ => false) hmn hno).1]; decide)
    · exact absurd hg20_5 (by simp)
  · have hn0 : 0 ≤ n := by have := of_decide_eq_false hg19_3; omega
    refine L_y rfl (y_move rfl) rfl ?_
    refine L_y rfl (y_move rfl) rfl ?_
    refine L_y rfl (y_geq rfl rfl) rfl ?_
    refine L_y rfl (y_pick_f rfl rfl) rfl ?_
    refine L_nil ?_
    refine C_cond rfl (fun hc4 => ?_) (fun hc4 => ?_)
    · have hno : n < 0 ∨ (k : Int) ≤ n := .inr (by have := of_decide_eq_true hc4; omega)
      refine C_seq ?_
      refine C_region ?_
      refine L_y rfl (y_move rfl) rfl ?_
      refine L_op rfl (op_call rfl rfl (fun a w => Try.call36 a w) rfl ?_)
      refine ((show FnS _ _ _ _ _ _ from hmb ▸ len_m (sees 1 0 rfl)) : FnS _ w0 _ _ _ (fun e H' => e = .returned (.int .i64 (m.n : Int)) ∧ H' = _)).mono ?_
      rintro _ _ ⟨e4, e⟩
      obtain rfl := e.symm
      clear e
      rw [hmn] at e4
      obtain rfl := e4
      refine ⟨_, rfl, ?_⟩
      refine L_y rfl (y_move rfl) rfl ?_
      refine L_y rfl (y_eqi rfl rfl) rfl ?_
      refine L_y rfl (y_move rfl) rfl ?_
      refine L_case 122 rfl (fun hg20_5 => ?_) (fun hg20_5 => ?_)
      · skip
        refine L_y rfl (y_move rfl) rfl ?_
        refine L_y rfl (y_eqi rfl rfl) rfl ?_
        refine L_y rfl (y_pick_t rfl rfl) rfl ?_
        refine L_y rfl (y_move rfl) rfl ?_
        refine L_case 126 rfl (fun hg20_9 => ?_) (fun hg20_9 => ?_)
        · skip
          refine L_y rfl (y_move rfl) rfl ?_
          refine L_y rfl (y_move rfl) rfl ?_
          refine L_y rfl (y_loadA rfl ag_32 sz_32 (sees 11 0 rfl) (by rw [bs_length, hs]; decide) (bs_whole0 _ (hs))) rfl ?_
          refine L_op rfl (op_call rfl rfl (fun a w => Try.call19 a w) rfl ?_)
          refine (FnS.sub (hsub_pick [1, 1] rfl) (mwrite_b hmb hmx hmy hT2 n s hs (fun i => by cases i <;> exact Nat.lt_of_sub_pos (by decide : 0 < 99990 - 0)))).mono ?_
          rintro _ _ ⟨rfl, D9, hT9, rfl⟩
          refine ⟨_, rfl, ?_⟩
          refine L_y rfl (y_eqi rfl rfl) rfl ?_
          refine L_y rfl (y_pick_t rfl rfl) rfl ?_
          refine L_y rfl (y_move rfl) rfl ?_
          refine L_case 133 rfl (fun hg20_16 => ?_) (fun hg20_16 => ?_)
          · skip
            refine L_y rfl (y_move rfl) rfl ?_
            refine L_op rfl (op_call rfl rfl (fun a w => Try.call21 a w) rfl ?_)
            refine mflush_0.mono ?_
            rintro _ _ ⟨rfl, e⟩
            obtain rfl := e.symm
            clear e
            refine ⟨_, rfl, ?_⟩
            refine L_y rfl (y_eqi rfl rfl) rfl ?_
            refine L_y rfl (y_pick_t rfl rfl) rfl ?_
            refine L_y rfl (y_assign rfl) rfl ?_
            refine L_nil ?_
            refine C_ret ?_
            refine B_ret (rv_tmp rfl rv_nil) (HSub.refl _) ?_
            first | rfl | exact ret_bool (by simp)
          · exact absurd hg20_16 (by rw [(none_out (s := s) (p := fun _ _ => false) hmn hno).2]; decide)
        · exact absurd hg20_9 (by rw [(none_out (s := s) (p := fun _ _ => false) hmn hno).1]; decide)
      · exact absurd hg20_5 (by simp)
    · have hnk : n < k := by have := of_decide_eq_false hc4; omega
      refine C_skip ?_
      refine C_seq ?_
      refine C_region ?_
      refine L_y rfl (y_move rfl) rfl ?_
      refine L_op rfl (op_call rfl rfl (fun a w => Try.call36 a w) rfl ?_)
      refine ((show FnS _ _ _ _ _ _ from hmb ▸ len_m (sees 1 0 rfl)) : FnS _ w0 _ _ _ (fun e H' => e = .returned (.int .i64 (m.n : Int)) ∧ H' = _)).mono ?_
      rintro _ _ ⟨e4, e⟩
      obtain rfl := e.symm
      clear e
      rw [hmn] at e4
      obtain rfl := e4
      refine ⟨_, rfl, ?_⟩
      refine L_y rfl (y_move rfl) rfl ?_
      refine L_y rfl (y_eqi rfl rfl) rfl ?_
      refine L_y rfl (y_move rfl) rfl ?_
      refine L_case 142 rfl (fun hg21_5 => ?_) (fun hg21_5 => ?_)
      · skip
        refine L_y rfl (y_move rfl) rfl ?_
        refine L_y rfl (y_eqi rfl rfl) rfl ?_
        refine L_y rfl (y_pick_t rfl rfl) rfl ?_
        refine L_y rfl (y_move rfl) rfl ?_
        refine L_case 146 rfl (fun hg21_9 => ?_) (fun hg21_9 => ?_)
        · skip
          refine L_y rfl (y_move rfl) rfl ?_
          refine L_y rfl (y_move rfl) rfl ?_
          refine L_y rfl (y_loadA rfl ag_32 sz_32 (sees 11 0 rfl) (by rw [bs_length, hs]; decide) (bs_whole0 _ (hs))) rfl ?_
          refine L_op rfl (op_call rfl rfl (fun a w => Try.call19 a w) rfl ?_)
          refine (FnS.sub (hsub_pick [1, 1] rfl) (mwrite_b hmb hmx hmy hT2 n s hs (fun i => by cases i <;> exact Nat.lt_of_sub_pos (by decide : 0 < 99990 - 0)))).mono ?_
          rintro _ _ ⟨rfl, D9, hT9, rfl⟩
          refine ⟨_, rfl, ?_⟩
          refine L_y rfl (y_eqi rfl rfl) rfl ?_
          refine L_y rfl (y_pick_t rfl rfl) rfl ?_
          refine L_y rfl (y_move rfl) rfl ?_
          refine L_case 153 rfl (fun hg21_16 => ?_) (fun hg21_16 => ?_)
          · skip
            refine L_y rfl (y_move rfl) rfl ?_
            refine L_y rfl (y_move rfl) rfl ?_
            refine L_op rfl (op_call rfl rfl (fun a w => Try.call25 a w) rfl ?_)
            obtain ⟨m9, hm9, k1, k2, k3, k4⟩ : ∃ m9, putm m (A2 k) askAll n s = m9 ∧ m9.b = mb ∧ m9.bx = d91.b ∧ m9.bys = by1 ∧ m9.gv = .nilFunc := ⟨_, rfl, (putm_same _ _ _ _ _).1.trans hmb, (putm_same _ _ _ _ _).2.1.trans hmx, (putm_same _ _ _ _ _).2.2.1.trans hmy, (putm_same _ _ _ _ _).2.2.2.trans hgv⟩
            rw [hm9]
            subst k1
            refine (FnS.sub (hsub_pick [0, 0] rfl) (both_m (by rw [k2, k3]; exact hT9) (p := fun _ _ => false) (.inl ⟨k4, rfl⟩) n)).mono ?_
            rintro _ _ ⟨gq, hgq, rfl, rfl⟩
            rw [show bothS m9 _ (fun _ _ => false) n = [] from by unfold bothS; simp] at hgq ⊢
            refine ⟨_, rfl, ?_⟩
            refine L_y rfl (y_lenV hgq rfl rfl Try.underlying40) rfl ?_
            refine L_y rfl (y_eqi rfl rfl) rfl ?_
            refine L_y rfl (y_pick_t rfl rfl) rfl ?_
            refine L_y rfl (y_assign rfl) rfl ?_
            refine L_nil ?_
            refine C_ret ?_
            refine B_ret (rv_tmp rfl rv_nil) (HSub.refl _) ?_
            first | rfl | exact ret_bool (by simp)
          · exact absurd hg21_16 (by rw [(none_in (s := s) hmn hn0 hnk).2]; decide)
        · exact absurd hg21_9 (by rw [(none_in (s := s) hmn hn0 hnk).1]; decide)
      · exact absurd hg21_5 (by simp)

end Go.Proofs.Ytjjiclgbdenkkaa

/- From a row's reading of a slice of bytes to what a walk asks (own work). -/
set_option linter.unusedVariables false
namespace Go.Sl
open Go.RowKit
end Go.Sl

/- What a row tells of its arguments, for flat types (integers, bools, structs and arrays of these) and slices of them (own work). -/
set_option linter.unusedVariables false
set_option linter.unusedSimpArgs false
namespace Go.Sl
open Go.RowKit
inductive Sc where
  | int (k : IntKind)
  | bool
def Sc.fit : Sc → Value → Prop
  | .int k, v => ∃ n, v = .int k n ∧ (Lit.int k n).wf = true
  | .bool, v => ∃ b, v = .bool b
/-- A row of cells fits a row of scalars. -/
def Fits : List Sc → List Value → Prop
  | [], [] => True
  | s :: ss, v :: vs => s.fit v ∧ Fits ss vs
  | _, _ => False
theorem Fits.length : ∀ {ss : List Sc} {vs : List Value}, Fits ss vs → vs.length = ss.length
  | [], [], _ => rfl
  | _ :: _, _ :: _, h => by simp [Fits.length h.2]
  | [], _ :: _, h => h.elim
  | _ :: _, [], h => h.elim
theorem Fits.append : ∀ {ss tt : List Sc} {vs us : List Value}, Fits ss vs → Fits tt us → Fits (ss ++ tt) (vs ++ us)
  | [], _, [], _, _, h => h
  | _ :: _, _, _ :: _, _, h, k => ⟨h.1, Fits.append h.2 k⟩
  | [], _, _ :: _, _, h, _ => h.elim
  | _ :: _, _, [], _, h, _ => h.elim
theorem Fits.cons_iff {s : Sc} {ss : List Sc} {vs : List Value} : Fits (s :: ss) vs ↔ ∃ v us, vs = v :: us ∧ s.fit v ∧ Fits ss us := by
  cases vs with
  | nil => simp [Fits]
  | cons v us =>
    refine ⟨fun h => ⟨v, us, rfl, h⟩, fun ⟨v', us', e, h⟩ => ?_⟩
    obtain ⟨rfl, rfl⟩ := List.cons.inj e
    exact h
theorem Fits.nil_iff {vs : List Value} : Fits [] vs ↔ vs = [] := by cases vs <;> simp [Fits]
theorem Fits.split : ∀ {ss tt : List Sc} {vs : List Value}, Fits (ss ++ tt) vs → ∃ a b, vs = a ++ b ∧ Fits ss a ∧ Fits tt b
  | [], _, vs, h => ⟨[], vs, rfl, trivial, h⟩
  | s :: ss, tt, vs, h => by
    obtain ⟨v, us, rfl, h1, h2⟩ := Fits.cons_iff.1 h
    obtain ⟨a, b, rfl, h3, h4⟩ := Fits.split (ss := ss) h2
    exact ⟨v :: a, b, rfl, ⟨h1, h3⟩, h4⟩
/-- A row of bytes. -/
theorem Fits.bytes : ∀ {n : Nat} {vs : List Value}, Fits (List.replicate n (.int .u8)) vs → ∃ u : List UInt8, vs = bs u ∧ u.length = n
  | 0, vs, h => ⟨[], by rw [Fits.nil_iff.1 h]; rfl, rfl⟩
  | n + 1, vs, h => by
    rw [List.replicate_succ] at h
    obtain ⟨v, us, rfl, ⟨m, rfl, hm⟩, h2⟩ := Fits.cons_iff.1 h
    obtain ⟨u, rfl, rfl⟩ := Fits.bytes h2
    have hb := bounds_u8 hm
    refine ⟨UInt8.ofNat m.toNat :: u, ?_, rfl⟩
    rw [u8_of_int (by omega) (by omega)]; rfl
def flatF (P : Program) (g : TypeId → Option (List Sc)) : List Field → Nat → Option (List Sc)
  | [], _ => some []
  | f :: fs, off => if f.offset = off then (g f.type).bind fun l => if P.cellsOf f.type = l.length then (flatF P g fs (off + l.length)).map (l ++ ·) else none else none
def flatT (P : Program) : Nat → TypeId → Option (List Sc)
  | 0, _ => none
  | d + 1, t => match P.underlying t with
    | some (.int k) => some [.int k]
    | some .bool => some [.bool]
    | some (.struct fs) => (flatF P (flatT P d) fs.toList 0).bind fun l => if P.cellsOf t = l.length then some l else none
    | some (.array n e) => (flatT P d e).bind fun l => if P.cellsOf e = l.length ∧ P.cellsOf t = n * l.length then some (List.replicate n l).flatten else none
    | _ => none
theorem flatF_fits {P : Program} {g : TypeId → Option (List Sc)} {cs : List Value} : ∀ {fs : List Field} {off : Nat} {sh : List Sc}, flatF P g fs off = some sh →
    (∀ f ∈ fs, ∀ l, g f.type = some l → Fits l ((cs.drop f.offset).take (P.cellsOf f.type))) → Fits sh ((cs.drop off).take sh.length)
  | [], off, sh, h, _ => by
    simp only [flatF, Option.some.injEq] at h
    subst h; simp [Fits]
  | f :: fs, off, sh, h, hf => by
    unfold flatF at h
    split at h
    · rename_i ho
      cases hg : g f.type with
      | none => simp [hg] at h
      | some l =>
        rw [hg] at h; simp only [Option.bind_some] at h
        split at h
        · rename_i hc
          cases hr : flatF P g fs (off + l.length) with
          | none => simp [hr] at h
          | some l2 =>
            simp only [hr, Option.map_some, Option.some.injEq] at h
            subst h
            have h1 := hf f (by simp) l hg
            have h2 := flatF_fits hr (fun f' hf' => hf f' (by simp [hf']))
            rw [ho, hc] at h1
            have h3 := Fits.append h1 h2
            rw [List.length_append, List.take_add, List.drop_drop]
            exact h3
        · cases h
    · cases h
section
variable {H : Type} {enc : TypeId × Value → H} {P : Program} {w : World} {base : Nat} {spare : Nat → Bool} {held : Bool}
theorem arr_fits {l : List Sc} : ∀ {n : Nat} {cs : List Value}, cs.length = n * l.length → (∀ i, i < n → Fits l ((cs.drop (i * l.length)).take l.length)) → Fits (List.replicate n l).flatten cs
  | 0, cs, h, _ => by simp at h; subst h; simp [Fits]
  | n + 1, cs, h, hi => by
    rw [Nat.add_mul, Nat.one_mul] at h
    have h0 := hi 0 (by omega)
    rw [Nat.zero_mul, List.drop_zero] at h0
    have h1 := arr_fits (l := l) (n := n) (cs := cs.drop l.length) (by simp; omega) (fun i hi' => by
      have := hi (i + 1) (by omega)
      rw [List.drop_drop, show l.length + i * l.length = (i + 1) * l.length from by rw [Nat.add_mul, Nat.one_mul, Nat.add_comm]]
      exact this)
    have h2 := Fits.append h0 h1
    rw [List.take_append_drop] at h2
    rw [List.replicate_succ, List.flatten_cons]
    exact h2
theorem flat_trod : ∀ {d : Nat} {t : TypeId} {sh : List Sc}, flatT P d t = some sh → ∀ {fuel : Nat} {cs : List Value} {x : DataW H × List MemPlace}, DataW.trod enc P w base spare held fuel t cs = some x → Fits sh cs
  | 0, _, _, h, _, _, _, _ => by simp [flatT] at h
  | d + 1, t, sh, h, fuel, cs, x, hx => by
    unfold flatT at h
    split at h
    · rename_i k hu
      obtain ⟨n, rfl, _, hw⟩ := DataW.trod_int hu hx
      simp only [Option.some.injEq] at h; subst h
      exact ⟨⟨n, rfl, hw⟩, trivial⟩
    · rename_i hu
      obtain ⟨b, rfl, _⟩ := DataW.trod_bool hu hx
      simp only [Option.some.injEq] at h; subst h
      exact ⟨⟨b, rfl⟩, trivial⟩
    · rename_i fs hu
      obtain ⟨xs, n, _, _, hl, hlen, hf⟩ := DataW.trod_struct hu hx
      cases hF : flatF P (flatT P d) fs.toList 0 with
      | none => simp [hF] at h
      | some l =>
        simp only [hF, Option.bind_some] at h
        split at h
        · rename_i hc
          simp only [Option.some.injEq] at h; subst h
          have := flatF_fits (cs := cs) hF (fun f hfm l' hl' => by
            obtain ⟨i, hi, rfl⟩ := List.getElem_of_mem hfm
            have h1 := hf i _ (by rw [← Array.getElem?_toList]; exact List.getElem?_eq_getElem hi)
            have h2 : i < xs.length := by rw [hlen]; simpa using hi
            rw [List.getElem?_eq_getElem h2] at h1
            exact flat_trod hl' h1)
          rw [List.drop_zero, List.take_of_length_le (by omega)] at this
          exact this
        · cases h
    · rename_i n e hu
      obtain ⟨xs, m, _, _, hl, hlen, hf⟩ := DataW.trod_array hu hx
      cases hF : flatT P d e with
      | none => simp [hF] at h
      | some l =>
        simp only [hF, Option.bind_some] at h
        split at h
        · rename_i hc
          simp only [Option.some.injEq] at h; subst h
          refine arr_fits (by rw [hl, hc.2]) (fun i hi => ?_)
          have h1 := hf i hi
          have h2 : i < xs.length := by omega
          rw [List.getElem?_eq_getElem h2, hc.1] at h1
          exact flat_trod hF h1
        · cases h
    · cases h
/-- A flat struct or array as an argument. -/
theorem flat_agg {d : Nat} {t : TypeId} {sh : List Sc} {v : Value} {D : DataW H} {ps : List MemPlace} (h : flatT P d t = some sh) (hv : ∃ cs, v = .agg cs) (hT : DataW.Trod enc P w base spare held t v D ps) : ∃ cs, v = .agg cs.toArray ∧ Fits sh cs := by
  obtain ⟨cs, rfl⟩ := hv
  obtain ⟨fuel, hf⟩ := hT
  exact ⟨cs.toList, by simp, flat_trod h hf⟩
theorem okWide_agg {r : Reach} {b0 : Nat} {t : TypeId} {v : Value} (ht : isAggT P t = true) (h : Value.okWide P w r b0 t v) : ∃ cs, v = .agg cs := by
  unfold Value.okWide at h
  unfold isAggT at ht
  split at h
  · obtain ⟨cs, rfl, _⟩ := h; exact ⟨cs, rfl⟩
  · obtain ⟨cs, rfl, _⟩ := h; exact ⟨cs, rfl⟩
  · rename_i h1 h2
    cases hu : P.underlying t with
    | none => simp [hu] at ht
    | some dd =>
      cases dd with
      | struct fs => exact absurd hu (h1 fs)
      | array n e => exact absurd hu (h2 n e)
      | _ => simp [hu] at ht
/-- What is told of a slice that came in. -/
def InS (w : World) (sh : List Sc) (a : Option Addr) (len cap : Nat) : Prop :=
  (a = none ∧ len = 0 ∧ cap = 0) ∨ ∃ (x : Addr), a = some x ∧ len ≤ cap ∧ cap ≤ maxLen ∧
    (0 < len → ∃ (b off : Nat) (l : List Value) (T : TypeId) (fr : Nat × Nat), x = ⟨b, off, none⟩ ∧ w.heap[b]? = some (.cells l.toArray T fr) ∧ off + len * sh.length ≤ l.length ∧
      ∀ i, i < len → Fits sh ((l.drop (off + i * sh.length)).take sh.length))
end
end Go.Sl

