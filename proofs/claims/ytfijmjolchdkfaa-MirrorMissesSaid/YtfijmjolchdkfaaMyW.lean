/- walks (own work; the walks' lines by a program of this repo). -/
import Derived.Test.YtfijmjolchdkfaaSy
import Derived.Test.YtfijmjolchdkfaaMfW
set_option linter.unusedVariables false
set_option linter.unusedSimpArgs false
set_option maxRecDepth 20000
namespace Go.Proofs.Ytfijmjolchdkfaa
open Go.Sl
attribute [local irreducible] BodyQ WpC WpL WpS WpH OpW FnS



set_option maxHeartbeats 4000000 in

theorem sync_tt {w0 : World} {H : Hp} {D : Duo} {A : Da} {bp : Nat} {m : Mi} (h : Two dt D A m.bx m.bys bp) {p : Int → Sec → Bool} (hG : GoodAt Try.prog w0 H m.gv p) (hQ : ∀ i, (A.dev i).Q.length ≤ 50000) (hm : m.n ≤ 4096) (hL : m.k0.length ≤ 4096 ∧ m.k1.length ≤ 4096) (hp : thr A false = true) (hq : thr A true = true) : FnS Try.prog w0 36 #[ptr m.b] (m.seg 104 :: D.seg dt :: H) (fun e H' => e = .returned (.int .i64 (syncE m A p)) ∧ ∃ D', Two dt D' (syncA m A p) m.bx m.bys bp ∧ H' = (syncM m A p).seg 104 :: D'.seg dt :: H) := by
  refine FnS_intro (n := 100) (rs := [.tmp 2]) (vs := [ptr m.b]) Try.func36 rfl Try.ntmps36 rfl rfl ?_
  refine C_seq ?_
  refine C_region ?_
  refine L_y rfl (y_assign rfl) rfl ?_
  refine L_nil ?_
  refine C_seq ?_
  refine C_seq ?_
  refine C_region ?_
  refine L_y rfl (y_move rfl) rfl ?_
  refine L_y rfl (y_eqp rfl rfl Try.underlying26) rfl ?_
  refine L_y rfl (y_move rfl) rfl ?_
  refine L_y rfl (y_move rfl) rfl ?_
  refine L_op rfl (op_call rfl rfl (fun a w => Try.call56 a w) rfl ?_)
  refine ((present_tt h hp hq).sub (hsub_pick [0, 0] rfl)).mono ?_
  rintro _ _ ⟨g1, hg1, rfl, rfl⟩
  cases g1 with
  | none => exact slOk_none hg1 (by decide)
  | some g1 => ?_
  refine ⟨_, rfl, ?_⟩
  refine L_y rfl (y_lenS rfl rfl Try.underlying112) rfl ?_
  refine L_y rfl (y_lss rfl rfl) rfl ?_
  refine L_y rfl (y_pick_f rfl rfl) rfl ?_
  refine L_nil ?_
  refine C_cond_f rfl ?_
  refine C_skip ?_
  refine C_seq ?_
  refine C_seq ?_
  refine C_region ?_
  refine L_y rfl (y_move rfl) rfl ?_
  refine L_nil ?_
  refine C_block ?_
  refine C_loopIn (In_round ?_)
  refine C_seq ?_
  refine C_region ?_
  refine L_y rfl (y_lss rfl rfl) rfl ?_
  refine L_nil ?_
  refine C_seq ?_
  refine C_cond_t rfl ?_
  refine C_skip ?_
  refine C_seq ?_
  refine C_block ?_
  refine C_seq ?_
  refine C_region ?_
  refine L_y rfl (y_move rfl) rfl ?_
  refine L_y rfl (y_assign rfl) rfl ?_
  refine L_nil ?_
  refine C_seq ?_
  refine C_regionH0 (by kernel_rfl) ?_
  refine H_y 0 rfl (by kernel_rfl) (by kernel_rfl) (by kernel_rfl) (HSub.refl _) rfl (y_move rfl) rfl ?_
  refine H_y 1 rfl (by kernel_rfl) (by kernel_rfl) (by kernel_rfl) (HSub.refl _) rfl (y_move rfl) rfl ?_
  refine H_y 2 rfl (by kernel_rfl) (by kernel_rfl) (by kernel_rfl) (HSub.refl _) rfl (y_nilCheck rfl) rfl ?_
  refine H_y 3 rfl (by kernel_rfl) (by kernel_rfl) (by kernel_rfl) (HSub.refl _) rfl (y_fieldAddr rfl fl_104_0) rfl ?_
  refine H_y 4 rfl (by kernel_rfl) (by kernel_rfl) (by kernel_rfl) (HSub.refl _) rfl (y_indexA rfl rfl Try.underlying102 sz_101 (by omega) (by omega) (show _ = 0 from rfl)) rfl ?_
  refine H_y 5 rfl (by kernel_rfl) (by kernel_rfl) (by kernel_rfl) (HSub.refl _) rfl (y_move rfl) rfl ?_
  refine H_y 6 rfl (by kernel_rfl) (by kernel_rfl) (by kernel_rfl) (HSub.refl _) rfl (y_move rfl) rfl ?_
  refine H_y 7 rfl (by kernel_rfl) (by kernel_rfl) (by kernel_rfl) (HSub.refl _) rfl (y_sub rfl rfl (show _ = (1 : Int) from rfl)) rfl ?_
  refine H_y 8 rfl (by kernel_rfl) (by kernel_rfl) (by kernel_rfl) (HSub.refl _) rfl (y_nilCheck rfl) rfl ?_
  refine H_y 9 rfl (by kernel_rfl) (by kernel_rfl) (by kernel_rfl) (HSub.refl _) rfl (y_fieldAddr rfl fl_104_0) rfl ?_
  refine H_y 10 rfl (by kernel_rfl) (by kernel_rfl) (by kernel_rfl) (HSub.refl _) rfl (y_indexA rfl rfl Try.underlying102 sz_101 (by omega) (by omega) (show _ = 2 from rfl)) rfl ?_
  refine H_y 11 rfl (by kernel_rfl) (by kernel_rfl) (by kernel_rfl) (HSub.refl _) rfl (y_assign rfl) rfl ?_
  refine H_y 12 rfl (by kernel_rfl) (by kernel_rfl) (by kernel_rfl) (HSub.refl _) rfl (y_assign rfl) rfl ?_
  refine H_done (by kernel_rfl) ?_
  refine C_seq ?_
  refine C_region ?_
  refine L_y rfl (y_assign rfl) rfl ?_
  refine L_nil ?_
  refine C_block ?_
  refine C_loop (ι := Duo × Da × Nat × Mi) (fun i => [(0, ptr i.2.2.2.b), (4, ptr i.2.2.2.b), (5, .pointer (some ⟨i.2.2.2.b, 2, none⟩)), (6, .int .i64 (i.2.2.1 : Int)), (19, .int .i64 0)]) (fun i => i.2.2.2.seg 104 :: i.1.seg dt :: H) (fun i => syN p false (A, m) i.2.2.1 = (i.2.1, i.2.2.2) ∧ Two dt i.1 i.2.1 i.2.2.2.bx i.2.2.2.bys bp ∧ i.2.2.1 ≤ m.n ∧ (i.2.2.2.b = m.b ∧ i.2.2.2.bx = m.bx ∧ i.2.2.2.bys = m.bys ∧ i.2.2.2.n = m.n ∧ i.2.2.2.gv = m.gv) ∧ (∀ j, (i.2.1.dev j).Q.length ≤ 50000 + i.2.2.1) ∧ (i.2.2.2.k0.length ≤ 4096 ∧ i.2.2.2.k1.length ≤ 4096)) (fun i => m.n - i.2.2.1) (D, A, 0, m) ⟨rfl, h, Nat.zero_le _, ⟨rfl, rfl, rfl, rfl, rfl⟩, hQ, hL⟩ ⟨rfl, rfl, rfl, rfl, rfl, trivial⟩ ((hsub (.cons_cons _ (.cons_cons _ (.cons _ (.refl _))))).trans (hsub_pick [1, 1] rfl)) (fun i hi => ?_)
  obtain ⟨Dl0, Al0, k0, ml0⟩ := i
  obtain ⟨hq0, hT0, hk0, hM0, hQ0, hL0⟩ := hi
  simp only at hq0 hT0 hk0 hM0 hQ0 hL0
  dsimp only
  refine C_seq ?_
  refine C_seq ?_
  refine C_region ?_
  refine L_y rfl (y_move rfl) rfl ?_
  refine L_y rfl (y_move rfl) rfl ?_
  refine L_y rfl (y_nilCheck rfl) rfl ?_
  refine L_y rfl (y_fieldAddr rfl fl_104_1) rfl ?_
  refine L_y rfl (y_load rfl ag_3 (sees 0 0 rfl) rfl) rfl ?_
  refine L_y rfl (y_lss rfl rfl) rfl ?_
  refine L_nil ?_
  refine C_cond rfl (fun hc2 => ?_) (fun hc2 => ?_)
  · replace hc2 := of_decide_eq_true hc2
    refine C_skip ?_
    refine C_seq ?_
    refine C_block ?_
    refine C_seq ?_
    refine C_seq ?_
    refine C_region ?_
    refine L_y rfl (y_move rfl) rfl ?_
    refine L_y rfl (y_nilCheck rfl) rfl ?_
    refine L_y rfl (y_fieldAddr rfl fl_101_1) rfl ?_
    refine L_y rfl (y_load rfl ag_99 (sees 0 0 rfl) rfl) rfl ?_
    refine L_y rfl (y_move rfl) rfl ?_
    refine L_y rfl (y_lookup rfl rfl Try.underlying99 Try.underlying3 zt_4 (sees 0 1 rfl)) rfl ?_
    refine L_y rfl (y_not rfl) rfl ?_
    refine L_y rfl (y_move rfl) rfl ?_
    refine L_case 48 rfl (fun hg10_8 => ?_) (fun hg10_8 => ?_)
    · skip
      refine L_skip rfl rfl ?_
      refine L_skip rfl rfl ?_
      refine L_skip rfl rfl ?_
      refine L_skip rfl rfl ?_
      refine L_skip rfl rfl ?_
      refine L_skip rfl rfl ?_
      refine L_y rfl (y_pick_t rfl rfl) rfl ?_
      refine L_nil ?_
      refine C_cond_t rfl ?_
      refine C_exit ?_
      refine C_region ?_
      refine L_y rfl (y_move rfl) rfl ?_
      refine L_y rfl (y_add rfl rfl (wi64 (by omega) (by omega))) rfl ?_
      refine L_y rfl (y_assign rfl) rfl ?_
      refine L_nil ?_
      have e : sy1 p false (Al0, ml0) (k0 : Int) = (Al0, ml0) := by clear hG hQ hp hq; simp_all [sy1, syOk, Mi.ks, Mi.del]
      exact ⟨(Dl0, Al0, k0 + 1, ml0), ⟨(syN_succ hq0).trans e, hT0, by simp only; omega, hM0, (fun j => by have := hQ0 j; dsimp only; omega), hL0⟩, by simp only; omega, ⟨rfl, rfl, rfl, rfl, rfl, trivial⟩, ((hsub (.cons_cons _ (.cons_cons _ (.refl _)))).trans (hsub_pick [0, 0] rfl))⟩
    · skip
      refine L_y rfl (y_move rfl) rfl ?_
      refine L_y rfl (y_nilCheck rfl) rfl ?_
      refine L_y rfl (y_fieldAddr rfl fl_101_1) rfl ?_
      refine L_y rfl (y_load rfl ag_99 (sees 0 0 rfl) rfl) rfl ?_
      refine L_y rfl (y_move rfl) rfl ?_
      refine L_y rfl (y_lookup rfl rfl Try.underlying99 Try.underlying3 zt_4 (sees 0 2 rfl)) rfl ?_
      refine L_y rfl (y_pick_f rfl rfl) rfl ?_
      refine L_nil ?_
      refine C_cond rfl (fun hc3 => ?_) (fun hc3 => ?_)
      · skip
        refine C_exit ?_
        refine C_region ?_
        refine L_y rfl (y_move rfl) rfl ?_
        refine L_y rfl (y_add rfl rfl (wi64 (by omega) (by omega))) rfl ?_
        refine L_y rfl (y_assign rfl) rfl ?_
        refine L_nil ?_
        have e : sy1 p false (Al0, ml0) (k0 : Int) = (Al0, ml0) := by clear hG hQ hp hq; simp_all [sy1, syOk, Mi.ks, Mi.del]
        exact ⟨(Dl0, Al0, k0 + 1, ml0), ⟨(syN_succ hq0).trans e, hT0, by simp only; omega, hM0, (fun j => by have := hQ0 j; dsimp only; omega), hL0⟩, by simp only; omega, ⟨rfl, rfl, rfl, rfl, rfl, trivial⟩, ((hsub (.cons_cons _ (.cons_cons _ (.refl _)))).trans (hsub_pick [0, 0] rfl))⟩
      · skip
        refine C_skip ?_
        refine C_seq ?_
        refine C_region ?_
        refine L_y rfl (y_move rfl) rfl ?_
        refine L_y rfl (y_nilCheck rfl) rfl ?_
        refine L_y rfl (y_fieldAddr rfl fl_101_0) rfl ?_
        refine L_y rfl (y_load rfl ag_24 (sees 0 0 rfl) rfl) rfl ?_
        refine L_y rfl (y_move rfl) rfl ?_
        refine L_op rfl (op_call rfl rfl (fun a w => Try.call57 a w) rfl ?_)
        refine ((read_d hT0 true ((k0 : Int))).sub (hsub_pick [1] rfl)).mono ?_
        rintro _ _ ⟨rfl, rfl⟩
        refine ⟨_, rfl, ?_⟩
        refine L_y rfl (y_move rfl) rfl ?_
        refine L_y rfl (y_extract rfl rfl) rfl ?_
        refine L_y rfl (y_extract rfl rfl) rfl ?_
        refine L_op rfl (op_alloc zl_32 rfl (fun B1 => ?_))
        refine L_op rfl (op_storeA 0 0 rfl rfl rfl sz_32 (by rw [bs_length, rS_len _ hT0.oks]) rfl (bs_one _) (by simp) ?_)
        refine L_y rfl (y_assign rfl) rfl ?_
        refine L_nil ?_
        refine C_seq ?_
        refine C_regionH (ml0.seg 104 :: [(B1, .cells (bs (Al0.rS true (k0 : Int))).toArray 32)] :: H) (by kernel_rfl) ?_
        refine H_y 0 rfl (by kernel_rfl) (by kernel_rfl) (by kernel_rfl) (((hsub (.cons_cons _ (.cons_cons _ (.cons _ (.refl _))))).trans (hsub_pick [2, 0] rfl))) rfl (y_move rfl) rfl ?_
        refine H_y 1 rfl (by kernel_rfl) (by kernel_rfl) (by kernel_rfl) (((hsub (.cons_cons _ (.cons_cons _ (.cons _ (.refl _))))).trans (hsub_pick [2, 0] rfl))) rfl (y_eqi rfl rfl) rfl ?_
        refine H_y 2 rfl (by kernel_rfl) (by kernel_rfl) (by kernel_rfl) (((hsub (.cons_cons _ (.cons_cons _ (.cons _ (.refl _))))).trans (hsub_pick [2, 0] rfl))) rfl (y_move rfl) rfl ?_
        refine H_case 67 rfl (fun hg12_3 => ?_) (fun hg12_3 => ?_)
        · skip
          refine H_y 3 rfl (by kernel_rfl) (by kernel_rfl) (by kernel_rfl) (((hsub (.cons_cons _ (.cons_cons _ (.cons _ (.refl _))))).trans (hsub_pick [2, 0] rfl))) rfl (y_move rfl) rfl ?_
          refine H_y 4 rfl (by kernel_rfl) (by kernel_rfl) (by kernel_rfl) (((hsub (.cons_cons _ (.cons_cons _ (.cons _ (.refl _))))).trans (hsub_pick [2, 0] rfl))) rfl (y_move rfl) rfl ?_
          refine H_y 5 rfl (by kernel_rfl) (by kernel_rfl) (by kernel_rfl) (((hsub (.cons_cons _ (.cons_cons _ (.cons _ (.refl _))))).trans (hsub_pick [2, 0] rfl))) rfl (y_loadA rfl ag_32 sz_32 (sees 1 0 rfl) (by rw [bs_length, rS_len _ hT0.oks]; decide) (bs_whole0 _ (rS_len _ hT0.oks))) rfl ?_
          refine H_one 6 rfl (by kernel_rfl) rfl (op_call rfl rfl (fun a w => Try.call58 a w) rfl ?_)
          refine FnS.mono (right_m (sees 2 0 rfl) ((show GoodAt Try.prog w0 H ml0.gv p by rw [hM0.2.2.2.2]; exact hG).sub (hsub (.cons _ (.cons _ (.cons _ (.refl _)))))) (k0 : Int) _ (rS_len _ hT0.oks)) ?_
          rintro _ _ ⟨rfl, rfl⟩
          refine ⟨_, rfl, ?_⟩
          refine ⟨((hsub (.cons_cons _ (.cons_cons _ (.cons _ (.refl _))))).trans (hsub_pick [2, 0] rfl)), ?_⟩
          refine H_y 7 rfl (by kernel_rfl) (by kernel_rfl) (by kernel_rfl) (((hsub (.cons_cons _ (.cons_cons _ (.cons _ (.refl _))))).trans (hsub_pick [2, 0] rfl))) rfl (y_pick_t rfl rfl) rfl ?_
          refine H_y 8 rfl (by kernel_rfl) (by kernel_rfl) (by kernel_rfl) (((hsub (.cons_cons _ (.cons_cons _ (.cons _ (.refl _))))).trans (hsub_pick [2, 0] rfl))) rfl (y_move rfl) rfl ?_
          refine H_case 73 rfl (fun hg12_9 => ?_) (fun hg12_9 => ?_)
          · skip
            refine H_y 9 rfl (by kernel_rfl) (by kernel_rfl) (by kernel_rfl) (((hsub (.cons_cons _ (.cons_cons _ (.cons _ (.refl _))))).trans (hsub_pick [2, 0] rfl))) rfl (y_move rfl) rfl ?_
            refine H_y 10 rfl (by kernel_rfl) (by kernel_rfl) (by kernel_rfl) (((hsub (.cons_cons _ (.cons_cons _ (.cons _ (.refl _))))).trans (hsub_pick [2, 0] rfl))) rfl (y_nilCheck rfl) rfl ?_
            refine H_y 11 rfl (by kernel_rfl) (by kernel_rfl) (by kernel_rfl) (((hsub (.cons_cons _ (.cons_cons _ (.cons _ (.refl _))))).trans (hsub_pick [2, 0] rfl))) rfl (y_fieldAddr rfl fl_101_0) rfl ?_
            refine H_y 12 rfl (by kernel_rfl) (by kernel_rfl) (by kernel_rfl) (((hsub (.cons_cons _ (.cons_cons _ (.cons _ (.refl _))))).trans (hsub_pick [2, 0] rfl))) rfl (y_load rfl ag_24 (sees 0 0 rfl) rfl) rfl ?_
            refine H_y 13 rfl (by kernel_rfl) (by kernel_rfl) (by kernel_rfl) (((hsub (.cons_cons _ (.cons_cons _ (.cons _ (.refl _))))).trans (hsub_pick [2, 0] rfl))) rfl (y_move rfl) rfl ?_
            refine H_y 14 rfl (by kernel_rfl) (by kernel_rfl) (by kernel_rfl) (((hsub (.cons_cons _ (.cons_cons _ (.cons _ (.refl _))))).trans (hsub_pick [2, 0] rfl))) rfl (y_loadA rfl ag_32 sz_32 (sees 1 0 rfl) (by rw [bs_length, rS_len _ hT0.oks]; decide) (bs_whole0 _ (rS_len _ hT0.oks))) rfl ?_
            refine H_one 15 rfl (by kernel_rfl) rfl (op_call rfl rfl (fun a w => Try.call31 a w) rfl ?_)
            refine ((write_d hT0 false (k0 : Int) (Al0.rS true (k0 : Int)) (rS_len _ hT0.oks) (by have := hQ0 false; omega)).sub (hsub_pick [1] rfl)).mono ?_
            rintro _ _ ⟨rfl, Dw, hw, rfl⟩
            refine ⟨_, rfl, ?_⟩
            refine ⟨((hsub (.cons_cons _ (.cons_cons _ (.cons _ (.refl _))))).trans (hsub_pick [2, 1] rfl)), ?_⟩
            refine H_y 16 rfl (by kernel_rfl) (by kernel_rfl) (by kernel_rfl) (((hsub (.cons_cons _ (.cons_cons _ (.cons _ (.refl _))))).trans (hsub_pick [2, 1] rfl))) rfl (y_eqi rfl rfl) rfl ?_
            refine H_case 81 rfl (fun hg12_17 => ?_) (fun hg12_17 => ?_)
            · skip
              refine H_y 17 rfl (by kernel_rfl) (by kernel_rfl) (by kernel_rfl) (((hsub (.cons_cons _ (.cons_cons _ (.cons _ (.refl _))))).trans (hsub_pick [2, 1] rfl))) rfl (y_pick_t rfl rfl) rfl ?_
              refine H_done (by kernel_rfl) ?_
              refine C_cond_t rfl ?_
              refine C_region ?_
              refine L_y rfl (y_move rfl) rfl ?_
              refine L_y rfl (y_nilCheck rfl) rfl ?_
              refine L_y rfl (y_fieldAddr rfl fl_101_1) rfl ?_
              refine L_y rfl (y_load rfl ag_99 (sees 2 0 rfl) rfl) rfl ?_
              refine L_y rfl (y_move rfl) rfl ?_
              refine L_op rfl (op_delete 2 1 rfl rfl rfl Try.underlying99 Try.underlying3 rfl rfl ?_)
              refine L_nil ?_
              refine C_region ?_
              refine L_y rfl (y_move rfl) rfl ?_
              refine L_y rfl (y_add rfl rfl (wi64 (by omega) (by omega))) rfl ?_
              refine L_y rfl (y_assign rfl) rfl ?_
              refine L_nil ?_
              have e : sy1 p false (Al0, ml0) (k0 : Int) = ((Al0.write false (k0 : Int) (Al0.rS true (k0 : Int))), (ml0.del false (k0 : Int))) := by clear hG hQ hp hq; simp_all [sy1, syOk, Mi.ks, Mi.del]
              exact ⟨(Dw, (Al0.write false (k0 : Int) (Al0.rS true (k0 : Int))), k0 + 1, (ml0.del false (k0 : Int))), ⟨(syN_succ hq0).trans e, hw, by simp only; omega, hM0, (fun j => by have := hQ0 j; have q2 := Da.write_many Al0 false (k0 : Int) (Al0.rS true (k0 : Int)) j; dsimp only; omega), ⟨Nat.le_trans (kDel_len _ _) hL0.1, hL0.2⟩⟩, by simp only; omega, ⟨rfl, rfl, rfl, rfl, rfl, trivial⟩, ((hsub (.cons_cons _ (.cons_cons _ (.cons _ (.refl _))))).trans (hsub_pick [2, 0] rfl))⟩
            · skip
              refine H_y 17 rfl (by kernel_rfl) (by kernel_rfl) (by kernel_rfl) (((hsub (.cons_cons _ (.cons_cons _ (.cons _ (.refl _))))).trans (hsub_pick [2, 1] rfl))) rfl (y_pick_t rfl rfl) rfl ?_
              refine H_done (by kernel_rfl) ?_
              refine C_cond_f rfl ?_
              refine C_skip ?_
              refine C_region ?_
              refine L_y rfl (y_move rfl) rfl ?_
              refine L_y rfl (y_add rfl rfl (wi64 (by omega) (by omega))) rfl ?_
              refine L_y rfl (y_assign rfl) rfl ?_
              refine L_nil ?_
              have e : sy1 p false (Al0, ml0) (k0 : Int) = ((Al0.write false (k0 : Int) (Al0.rS true (k0 : Int))), ml0) := by clear hG hQ hp hq; simp_all [sy1, syOk, Mi.ks, Mi.del]
              exact ⟨(Dw, (Al0.write false (k0 : Int) (Al0.rS true (k0 : Int))), k0 + 1, ml0), ⟨(syN_succ hq0).trans e, hw, by simp only; omega, hM0, (fun j => by have := hQ0 j; have q2 := Da.write_many Al0 false (k0 : Int) (Al0.rS true (k0 : Int)) j; dsimp only; omega), hL0⟩, by simp only; omega, ⟨rfl, rfl, rfl, rfl, rfl, trivial⟩, ((hsub (.cons_cons _ (.cons_cons _ (.cons _ (.refl _))))).trans (hsub_pick [2, 0] rfl))⟩
          · skip
            refine H_skip 9 rfl (by kernel_rfl) (by kernel_rfl) (by kernel_rfl) (((hsub (.cons_cons _ (.cons_cons _ (.cons _ (.refl _))))).trans (hsub_pick [2, 0] rfl))) rfl rfl ?_
            refine H_skip 10 rfl (by kernel_rfl) (by kernel_rfl) (by kernel_rfl) (((hsub (.cons_cons _ (.cons_cons _ (.cons _ (.refl _))))).trans (hsub_pick [2, 0] rfl))) rfl rfl ?_
            refine H_skip 11 rfl (by kernel_rfl) (by kernel_rfl) (by kernel_rfl) (((hsub (.cons_cons _ (.cons_cons _ (.cons _ (.refl _))))).trans (hsub_pick [2, 0] rfl))) rfl rfl ?_
            refine H_skip 12 rfl (by kernel_rfl) (by kernel_rfl) (by kernel_rfl) (((hsub (.cons_cons _ (.cons_cons _ (.cons _ (.refl _))))).trans (hsub_pick [2, 0] rfl))) rfl rfl ?_
            refine H_skip 13 rfl (by kernel_rfl) (by kernel_rfl) (by kernel_rfl) (((hsub (.cons_cons _ (.cons_cons _ (.cons _ (.refl _))))).trans (hsub_pick [2, 0] rfl))) rfl rfl ?_
            refine H_skip 14 rfl (by kernel_rfl) (by kernel_rfl) (by kernel_rfl) (((hsub (.cons_cons _ (.cons_cons _ (.cons _ (.refl _))))).trans (hsub_pick [2, 0] rfl))) rfl rfl ?_
            refine H_skip 15 rfl (by kernel_rfl) (by kernel_rfl) (by kernel_rfl) (((hsub (.cons_cons _ (.cons_cons _ (.cons _ (.refl _))))).trans (hsub_pick [2, 0] rfl))) rfl rfl ?_
            refine H_skip 16 rfl (by kernel_rfl) (by kernel_rfl) (by kernel_rfl) (((hsub (.cons_cons _ (.cons_cons _ (.cons _ (.refl _))))).trans (hsub_pick [2, 0] rfl))) rfl rfl ?_
            refine H_y 17 rfl (by kernel_rfl) (by kernel_rfl) (by kernel_rfl) (((hsub (.cons_cons _ (.cons_cons _ (.cons _ (.refl _))))).trans (hsub_pick [2, 0] rfl))) rfl (y_pick_f rfl rfl) rfl ?_
            refine H_done (by kernel_rfl) ?_
            refine C_cond_f rfl ?_
            refine C_skip ?_
            refine C_region ?_
            refine L_y rfl (y_move rfl) rfl ?_
            refine L_y rfl (y_add rfl rfl (wi64 (by omega) (by omega))) rfl ?_
            refine L_y rfl (y_assign rfl) rfl ?_
            refine L_nil ?_
            have e : sy1 p false (Al0, ml0) (k0 : Int) = (Al0, ml0) := by clear hG hQ hp hq; simp_all [sy1, syOk, Mi.ks, Mi.del]
            exact ⟨(Dl0, Al0, k0 + 1, ml0), ⟨(syN_succ hq0).trans e, hT0, by simp only; omega, hM0, (fun j => by have := hQ0 j; dsimp only; omega), hL0⟩, by simp only; omega, ⟨rfl, rfl, rfl, rfl, rfl, trivial⟩, ((hsub (.cons_cons _ (.cons_cons _ (.cons _ (.refl _))))).trans (hsub_pick [2, 1] rfl))⟩
        · skip
          refine H_skip 3 rfl (by kernel_rfl) (by kernel_rfl) (by kernel_rfl) (((hsub (.cons_cons _ (.cons_cons _ (.cons _ (.refl _))))).trans (hsub_pick [2, 0] rfl))) rfl rfl ?_
          refine H_skip 4 rfl (by kernel_rfl) (by kernel_rfl) (by kernel_rfl) (((hsub (.cons_cons _ (.cons_cons _ (.cons _ (.refl _))))).trans (hsub_pick [2, 0] rfl))) rfl rfl ?_
          refine H_skip 5 rfl (by kernel_rfl) (by kernel_rfl) (by kernel_rfl) (((hsub (.cons_cons _ (.cons_cons _ (.cons _ (.refl _))))).trans (hsub_pick [2, 0] rfl))) rfl rfl ?_
          refine H_skip 6 rfl (by kernel_rfl) (by kernel_rfl) (by kernel_rfl) (((hsub (.cons_cons _ (.cons_cons _ (.cons _ (.refl _))))).trans (hsub_pick [2, 0] rfl))) rfl rfl ?_
          refine H_y 7 rfl (by kernel_rfl) (by kernel_rfl) (by kernel_rfl) (((hsub (.cons_cons _ (.cons_cons _ (.cons _ (.refl _))))).trans (hsub_pick [2, 0] rfl))) rfl (y_pick_f rfl rfl) rfl ?_
          refine H_y 8 rfl (by kernel_rfl) (by kernel_rfl) (by kernel_rfl) (((hsub (.cons_cons _ (.cons_cons _ (.cons _ (.refl _))))).trans (hsub_pick [2, 0] rfl))) rfl (y_move rfl) rfl ?_
          refine H_skip 9 rfl (by kernel_rfl) (by kernel_rfl) (by kernel_rfl) (((hsub (.cons_cons _ (.cons_cons _ (.cons _ (.refl _))))).trans (hsub_pick [2, 0] rfl))) rfl rfl ?_
          refine H_skip 10 rfl (by kernel_rfl) (by kernel_rfl) (by kernel_rfl) (((hsub (.cons_cons _ (.cons_cons _ (.cons _ (.refl _))))).trans (hsub_pick [2, 0] rfl))) rfl rfl ?_
          refine H_skip 11 rfl (by kernel_rfl) (by kernel_rfl) (by kernel_rfl) (((hsub (.cons_cons _ (.cons_cons _ (.cons _ (.refl _))))).trans (hsub_pick [2, 0] rfl))) rfl rfl ?_
          refine H_skip 12 rfl (by kernel_rfl) (by kernel_rfl) (by kernel_rfl) (((hsub (.cons_cons _ (.cons_cons _ (.cons _ (.refl _))))).trans (hsub_pick [2, 0] rfl))) rfl rfl ?_
          refine H_skip 13 rfl (by kernel_rfl) (by kernel_rfl) (by kernel_rfl) (((hsub (.cons_cons _ (.cons_cons _ (.cons _ (.refl _))))).trans (hsub_pick [2, 0] rfl))) rfl rfl ?_
          refine H_skip 14 rfl (by kernel_rfl) (by kernel_rfl) (by kernel_rfl) (((hsub (.cons_cons _ (.cons_cons _ (.cons _ (.refl _))))).trans (hsub_pick [2, 0] rfl))) rfl rfl ?_
          refine H_skip 15 rfl (by kernel_rfl) (by kernel_rfl) (by kernel_rfl) (((hsub (.cons_cons _ (.cons_cons _ (.cons _ (.refl _))))).trans (hsub_pick [2, 0] rfl))) rfl rfl ?_
          refine H_skip 16 rfl (by kernel_rfl) (by kernel_rfl) (by kernel_rfl) (((hsub (.cons_cons _ (.cons_cons _ (.cons _ (.refl _))))).trans (hsub_pick [2, 0] rfl))) rfl rfl ?_
          refine H_y 17 rfl (by kernel_rfl) (by kernel_rfl) (by kernel_rfl) (((hsub (.cons_cons _ (.cons_cons _ (.cons _ (.refl _))))).trans (hsub_pick [2, 0] rfl))) rfl (y_pick_f rfl rfl) rfl ?_
          refine H_done (by kernel_rfl) ?_
          refine C_cond_f rfl ?_
          refine C_skip ?_
          refine C_region ?_
          refine L_y rfl (y_move rfl) rfl ?_
          refine L_y rfl (y_add rfl rfl (wi64 (by omega) (by omega))) rfl ?_
          refine L_y rfl (y_assign rfl) rfl ?_
          refine L_nil ?_
          have e : sy1 p false (Al0, ml0) (k0 : Int) = (Al0, ml0) := by clear hG hQ hp hq; simp_all [sy1, syOk, Mi.ks, Mi.del]
          exact ⟨(Dl0, Al0, k0 + 1, ml0), ⟨(syN_succ hq0).trans e, hT0, by simp only; omega, hM0, (fun j => by have := hQ0 j; dsimp only; omega), hL0⟩, by simp only; omega, ⟨rfl, rfl, rfl, rfl, rfl, trivial⟩, ((hsub (.cons_cons _ (.cons_cons _ (.cons _ (.refl _))))).trans (hsub_pick [2, 1] rfl))⟩
  · replace hc2 := of_decide_eq_false hc2
    refine C_exit ?_
    refine C_region ?_
    refine L_y rfl (y_add rfl rfl (show _ = (1 : Int) from rfl)) rfl ?_
    refine L_y rfl (y_move rfl) rfl ?_
    refine L_nil ?_
    refine In_round ?_
    refine C_seq ?_
    refine C_region ?_
    refine L_y rfl (y_lss rfl rfl) rfl ?_
    refine L_nil ?_
    refine C_seq ?_
    refine C_cond_t rfl ?_
    refine C_skip ?_
    refine C_seq ?_
    refine C_block ?_
    refine C_seq ?_
    refine C_region ?_
    refine L_y rfl (y_move rfl) rfl ?_
    refine L_y rfl (y_assign rfl) rfl ?_
    refine L_nil ?_
    refine C_seq ?_
    refine C_regionH0 (by kernel_rfl) ?_
    refine H_y 0 rfl (by kernel_rfl) (by kernel_rfl) (by kernel_rfl) (HSub.refl _) rfl (y_move rfl) rfl ?_
    refine H_y 1 rfl (by kernel_rfl) (by kernel_rfl) (by kernel_rfl) (HSub.refl _) rfl (y_move rfl) rfl ?_
    refine H_y 2 rfl (by kernel_rfl) (by kernel_rfl) (by kernel_rfl) (HSub.refl _) rfl (y_nilCheck rfl) rfl ?_
    refine H_y 3 rfl (by kernel_rfl) (by kernel_rfl) (by kernel_rfl) (HSub.refl _) rfl (y_fieldAddr rfl fl_104_0) rfl ?_
    refine H_y 4 rfl (by kernel_rfl) (by kernel_rfl) (by kernel_rfl) (HSub.refl _) rfl (y_indexA rfl rfl Try.underlying102 sz_101 (by omega) (by omega) (show _ = 2 from rfl)) rfl ?_
    refine H_y 5 rfl (by kernel_rfl) (by kernel_rfl) (by kernel_rfl) (HSub.refl _) rfl (y_move rfl) rfl ?_
    refine H_y 6 rfl (by kernel_rfl) (by kernel_rfl) (by kernel_rfl) (HSub.refl _) rfl (y_move rfl) rfl ?_
    refine H_y 7 rfl (by kernel_rfl) (by kernel_rfl) (by kernel_rfl) (HSub.refl _) rfl (y_sub rfl rfl (show _ = (0 : Int) from rfl)) rfl ?_
    refine H_y 8 rfl (by kernel_rfl) (by kernel_rfl) (by kernel_rfl) (HSub.refl _) rfl (y_nilCheck rfl) rfl ?_
    refine H_y 9 rfl (by kernel_rfl) (by kernel_rfl) (by kernel_rfl) (HSub.refl _) rfl (y_fieldAddr rfl fl_104_0) rfl ?_
    refine H_y 10 rfl (by kernel_rfl) (by kernel_rfl) (by kernel_rfl) (HSub.refl _) rfl (y_indexA rfl rfl Try.underlying102 sz_101 (by omega) (by omega) (show _ = 0 from rfl)) rfl ?_
    refine H_y 11 rfl (by kernel_rfl) (by kernel_rfl) (by kernel_rfl) (HSub.refl _) rfl (y_assign rfl) rfl ?_
    refine H_y 12 rfl (by kernel_rfl) (by kernel_rfl) (by kernel_rfl) (HSub.refl _) rfl (y_assign rfl) rfl ?_
    refine H_done (by kernel_rfl) ?_
    refine C_seq ?_
    refine C_region ?_
    refine L_y rfl (y_assign rfl) rfl ?_
    refine L_nil ?_
    refine C_block ?_
    refine C_loop (ι := Duo × Da × Nat × Mi) (fun i => [(0, ptr i.2.2.2.b), (4, .pointer (some ⟨i.2.2.2.b, 2, none⟩)), (5, ptr i.2.2.2.b), (6, .int .i64 (i.2.2.1 : Int)), (19, .int .i64 1)]) (fun i => i.2.2.2.seg 104 :: i.1.seg dt :: H) (fun i => syN p true (Al0, ml0) i.2.2.1 = (i.2.1, i.2.2.2) ∧ Two dt i.1 i.2.1 i.2.2.2.bx i.2.2.2.bys bp ∧ i.2.2.1 ≤ m.n ∧ (i.2.2.2.b = m.b ∧ i.2.2.2.bx = m.bx ∧ i.2.2.2.bys = m.bys ∧ i.2.2.2.n = m.n ∧ i.2.2.2.gv = m.gv) ∧ (∀ j, (i.2.1.dev j).Q.length ≤ (50000 + m.n) + i.2.2.1) ∧ (i.2.2.2.k0.length ≤ 4096 ∧ i.2.2.2.k1.length ≤ 4096)) (fun i => m.n - i.2.2.1) (Dl0, Al0, 0, ml0) ⟨rfl, hT0, Nat.zero_le _, hM0, (fun j => by have := hQ0 j; dsimp only; omega), hL0⟩ ⟨rfl, rfl, rfl, rfl, rfl, trivial⟩ ((hsub (.cons_cons _ (.cons_cons _ (.refl _)))).trans (hsub_pick [0, 0] rfl)) (fun i hi => ?_)
    obtain ⟨Dl1, Al1, k1, ml1⟩ := i
    obtain ⟨hq1, hT1, hk1, hM1, hQ1, hL1⟩ := hi
    simp only at hq1 hT1 hk1 hM1 hQ1 hL1
    dsimp only
    refine C_seq ?_
    refine C_seq ?_
    refine C_region ?_
    refine L_y rfl (y_move rfl) rfl ?_
    refine L_y rfl (y_move rfl) rfl ?_
    refine L_y rfl (y_nilCheck rfl) rfl ?_
    refine L_y rfl (y_fieldAddr rfl fl_104_1) rfl ?_
    refine L_y rfl (y_load rfl ag_3 (sees 0 0 rfl) rfl) rfl ?_
    refine L_y rfl (y_lss rfl rfl) rfl ?_
    refine L_nil ?_
    refine C_cond rfl (fun hc2 => ?_) (fun hc2 => ?_)
    · replace hc2 := of_decide_eq_true hc2
      refine C_skip ?_
      refine C_seq ?_
      refine C_block ?_
      refine C_seq ?_
      refine C_seq ?_
      refine C_region ?_
      refine L_y rfl (y_move rfl) rfl ?_
      refine L_y rfl (y_nilCheck rfl) rfl ?_
      refine L_y rfl (y_fieldAddr rfl fl_101_1) rfl ?_
      refine L_y rfl (y_load rfl ag_99 (sees 0 0 rfl) rfl) rfl ?_
      refine L_y rfl (y_move rfl) rfl ?_
      refine L_y rfl (y_lookup rfl rfl Try.underlying99 Try.underlying3 zt_4 (sees 0 2 rfl)) rfl ?_
      refine L_y rfl (y_not rfl) rfl ?_
      refine L_y rfl (y_move rfl) rfl ?_
      refine L_case 48 rfl (fun hg10_8 => ?_) (fun hg10_8 => ?_)
      · skip
        refine L_skip rfl rfl ?_
        refine L_skip rfl rfl ?_
        refine L_skip rfl rfl ?_
        refine L_skip rfl rfl ?_
        refine L_skip rfl rfl ?_
        refine L_skip rfl rfl ?_
        refine L_y rfl (y_pick_t rfl rfl) rfl ?_
        refine L_nil ?_
        refine C_cond_t rfl ?_
        refine C_exit ?_
        refine C_region ?_
        refine L_y rfl (y_move rfl) rfl ?_
        refine L_y rfl (y_add rfl rfl (wi64 (by omega) (by omega))) rfl ?_
        refine L_y rfl (y_assign rfl) rfl ?_
        refine L_nil ?_
        have e : sy1 p true (Al1, ml1) (k1 : Int) = (Al1, ml1) := by clear hG hQ hp hq; simp_all [sy1, syOk, Mi.ks, Mi.del]
        exact ⟨(Dl1, Al1, k1 + 1, ml1), ⟨(syN_succ hq1).trans e, hT1, by simp only; omega, hM1, (fun j => by have := hQ1 j; dsimp only; omega), hL1⟩, by simp only; omega, ⟨rfl, rfl, rfl, rfl, rfl, trivial⟩, ((hsub (.cons_cons _ (.cons_cons _ (.refl _)))).trans (hsub_pick [0, 0] rfl))⟩
      · skip
        refine L_y rfl (y_move rfl) rfl ?_
        refine L_y rfl (y_nilCheck rfl) rfl ?_
        refine L_y rfl (y_fieldAddr rfl fl_101_1) rfl ?_
        refine L_y rfl (y_load rfl ag_99 (sees 0 0 rfl) rfl) rfl ?_
        refine L_y rfl (y_move rfl) rfl ?_
        refine L_y rfl (y_lookup rfl rfl Try.underlying99 Try.underlying3 zt_4 (sees 0 1 rfl)) rfl ?_
        refine L_y rfl (y_pick_f rfl rfl) rfl ?_
        refine L_nil ?_
        refine C_cond rfl (fun hc3 => ?_) (fun hc3 => ?_)
        · skip
          refine C_exit ?_
          refine C_region ?_
          refine L_y rfl (y_move rfl) rfl ?_
          refine L_y rfl (y_add rfl rfl (wi64 (by omega) (by omega))) rfl ?_
          refine L_y rfl (y_assign rfl) rfl ?_
          refine L_nil ?_
          have e : sy1 p true (Al1, ml1) (k1 : Int) = (Al1, ml1) := by clear hG hQ hp hq; simp_all [sy1, syOk, Mi.ks, Mi.del]
          exact ⟨(Dl1, Al1, k1 + 1, ml1), ⟨(syN_succ hq1).trans e, hT1, by simp only; omega, hM1, (fun j => by have := hQ1 j; dsimp only; omega), hL1⟩, by simp only; omega, ⟨rfl, rfl, rfl, rfl, rfl, trivial⟩, ((hsub (.cons_cons _ (.cons_cons _ (.refl _)))).trans (hsub_pick [0, 0] rfl))⟩
        · skip
          refine C_skip ?_
          refine C_seq ?_
          refine C_region ?_
          refine L_y rfl (y_move rfl) rfl ?_
          refine L_y rfl (y_nilCheck rfl) rfl ?_
          refine L_y rfl (y_fieldAddr rfl fl_101_0) rfl ?_
          refine L_y rfl (y_load rfl ag_24 (sees 0 0 rfl) rfl) rfl ?_
          refine L_y rfl (y_move rfl) rfl ?_
          refine L_op rfl (op_call rfl rfl (fun a w => Try.call57 a w) rfl ?_)
          refine ((read_d hT1 false ((k1 : Int))).sub (hsub_pick [1] rfl)).mono ?_
          rintro _ _ ⟨rfl, rfl⟩
          refine ⟨_, rfl, ?_⟩
          refine L_y rfl (y_move rfl) rfl ?_
          refine L_y rfl (y_extract rfl rfl) rfl ?_
          refine L_y rfl (y_extract rfl rfl) rfl ?_
          refine L_op rfl (op_alloc zl_32 rfl (fun B2 => ?_))
          refine L_op rfl (op_storeA 0 0 rfl rfl rfl sz_32 (by rw [bs_length, rS_len _ hT1.oks]) rfl (bs_one _) (by simp) ?_)
          refine L_y rfl (y_assign rfl) rfl ?_
          refine L_nil ?_
          refine C_seq ?_
          refine C_regionH (ml1.seg 104 :: [(B2, .cells (bs (Al1.rS false (k1 : Int))).toArray 32)] :: H) (by kernel_rfl) ?_
          refine H_y 0 rfl (by kernel_rfl) (by kernel_rfl) (by kernel_rfl) (((hsub (.cons_cons _ (.cons_cons _ (.cons _ (.refl _))))).trans (hsub_pick [2, 0] rfl))) rfl (y_move rfl) rfl ?_
          refine H_y 1 rfl (by kernel_rfl) (by kernel_rfl) (by kernel_rfl) (((hsub (.cons_cons _ (.cons_cons _ (.cons _ (.refl _))))).trans (hsub_pick [2, 0] rfl))) rfl (y_eqi rfl rfl) rfl ?_
          refine H_y 2 rfl (by kernel_rfl) (by kernel_rfl) (by kernel_rfl) (((hsub (.cons_cons _ (.cons_cons _ (.cons _ (.refl _))))).trans (hsub_pick [2, 0] rfl))) rfl (y_move rfl) rfl ?_
          refine H_case 67 rfl (fun hg12_3 => ?_) (fun hg12_3 => ?_)
          · skip
            refine H_y 3 rfl (by kernel_rfl) (by kernel_rfl) (by kernel_rfl) (((hsub (.cons_cons _ (.cons_cons _ (.cons _ (.refl _))))).trans (hsub_pick [2, 0] rfl))) rfl (y_move rfl) rfl ?_
            refine H_y 4 rfl (by kernel_rfl) (by kernel_rfl) (by kernel_rfl) (((hsub (.cons_cons _ (.cons_cons _ (.cons _ (.refl _))))).trans (hsub_pick [2, 0] rfl))) rfl (y_move rfl) rfl ?_
            refine H_y 5 rfl (by kernel_rfl) (by kernel_rfl) (by kernel_rfl) (((hsub (.cons_cons _ (.cons_cons _ (.cons _ (.refl _))))).trans (hsub_pick [2, 0] rfl))) rfl (y_loadA rfl ag_32 sz_32 (sees 1 0 rfl) (by rw [bs_length, rS_len _ hT1.oks]; decide) (bs_whole0 _ (rS_len _ hT1.oks))) rfl ?_
            refine H_one 6 rfl (by kernel_rfl) rfl (op_call rfl rfl (fun a w => Try.call58 a w) rfl ?_)
            refine FnS.mono (right_m (sees 2 0 rfl) ((show GoodAt Try.prog w0 H ml1.gv p by rw [hM1.2.2.2.2]; exact hG).sub (hsub (.cons _ (.cons _ (.cons _ (.refl _)))))) (k1 : Int) _ (rS_len _ hT1.oks)) ?_
            rintro _ _ ⟨rfl, rfl⟩
            refine ⟨_, rfl, ?_⟩
            refine ⟨((hsub (.cons_cons _ (.cons_cons _ (.cons _ (.refl _))))).trans (hsub_pick [2, 0] rfl)), ?_⟩
            refine H_y 7 rfl (by kernel_rfl) (by kernel_rfl) (by kernel_rfl) (((hsub (.cons_cons _ (.cons_cons _ (.cons _ (.refl _))))).trans (hsub_pick [2, 0] rfl))) rfl (y_pick_t rfl rfl) rfl ?_
            refine H_y 8 rfl (by kernel_rfl) (by kernel_rfl) (by kernel_rfl) (((hsub (.cons_cons _ (.cons_cons _ (.cons _ (.refl _))))).trans (hsub_pick [2, 0] rfl))) rfl (y_move rfl) rfl ?_
            refine H_case 73 rfl (fun hg12_9 => ?_) (fun hg12_9 => ?_)
            · skip
              refine H_y 9 rfl (by kernel_rfl) (by kernel_rfl) (by kernel_rfl) (((hsub (.cons_cons _ (.cons_cons _ (.cons _ (.refl _))))).trans (hsub_pick [2, 0] rfl))) rfl (y_move rfl) rfl ?_
              refine H_y 10 rfl (by kernel_rfl) (by kernel_rfl) (by kernel_rfl) (((hsub (.cons_cons _ (.cons_cons _ (.cons _ (.refl _))))).trans (hsub_pick [2, 0] rfl))) rfl (y_nilCheck rfl) rfl ?_
              refine H_y 11 rfl (by kernel_rfl) (by kernel_rfl) (by kernel_rfl) (((hsub (.cons_cons _ (.cons_cons _ (.cons _ (.refl _))))).trans (hsub_pick [2, 0] rfl))) rfl (y_fieldAddr rfl fl_101_0) rfl ?_
              refine H_y 12 rfl (by kernel_rfl) (by kernel_rfl) (by kernel_rfl) (((hsub (.cons_cons _ (.cons_cons _ (.cons _ (.refl _))))).trans (hsub_pick [2, 0] rfl))) rfl (y_load rfl ag_24 (sees 0 0 rfl) rfl) rfl ?_
              refine H_y 13 rfl (by kernel_rfl) (by kernel_rfl) (by kernel_rfl) (((hsub (.cons_cons _ (.cons_cons _ (.cons _ (.refl _))))).trans (hsub_pick [2, 0] rfl))) rfl (y_move rfl) rfl ?_
              refine H_y 14 rfl (by kernel_rfl) (by kernel_rfl) (by kernel_rfl) (((hsub (.cons_cons _ (.cons_cons _ (.cons _ (.refl _))))).trans (hsub_pick [2, 0] rfl))) rfl (y_loadA rfl ag_32 sz_32 (sees 1 0 rfl) (by rw [bs_length, rS_len _ hT1.oks]; decide) (bs_whole0 _ (rS_len _ hT1.oks))) rfl ?_
              refine H_one 15 rfl (by kernel_rfl) rfl (op_call rfl rfl (fun a w => Try.call31 a w) rfl ?_)
              refine ((write_d hT1 true (k1 : Int) (Al1.rS false (k1 : Int)) (rS_len _ hT1.oks) (by have := hQ1 true; omega)).sub (hsub_pick [1] rfl)).mono ?_
              rintro _ _ ⟨rfl, Dw, hw, rfl⟩
              refine ⟨_, rfl, ?_⟩
              refine ⟨((hsub (.cons_cons _ (.cons_cons _ (.cons _ (.refl _))))).trans (hsub_pick [2, 1] rfl)), ?_⟩
              refine H_y 16 rfl (by kernel_rfl) (by kernel_rfl) (by kernel_rfl) (((hsub (.cons_cons _ (.cons_cons _ (.cons _ (.refl _))))).trans (hsub_pick [2, 1] rfl))) rfl (y_eqi rfl rfl) rfl ?_
              refine H_case 81 rfl (fun hg12_17 => ?_) (fun hg12_17 => ?_)
              · skip
                refine H_y 17 rfl (by kernel_rfl) (by kernel_rfl) (by kernel_rfl) (((hsub (.cons_cons _ (.cons_cons _ (.cons _ (.refl _))))).trans (hsub_pick [2, 1] rfl))) rfl (y_pick_t rfl rfl) rfl ?_
                refine H_done (by kernel_rfl) ?_
                refine C_cond_t rfl ?_
                refine C_region ?_
                refine L_y rfl (y_move rfl) rfl ?_
                refine L_y rfl (y_nilCheck rfl) rfl ?_
                refine L_y rfl (y_fieldAddr rfl fl_101_1) rfl ?_
                refine L_y rfl (y_load rfl ag_99 (sees 2 0 rfl) rfl) rfl ?_
                refine L_y rfl (y_move rfl) rfl ?_
                refine L_op rfl (op_delete 2 2 rfl rfl rfl Try.underlying99 Try.underlying3 rfl rfl ?_)
                refine L_nil ?_
                refine C_region ?_
                refine L_y rfl (y_move rfl) rfl ?_
                refine L_y rfl (y_add rfl rfl (wi64 (by omega) (by omega))) rfl ?_
                refine L_y rfl (y_assign rfl) rfl ?_
                refine L_nil ?_
                have e : sy1 p true (Al1, ml1) (k1 : Int) = ((Al1.write true (k1 : Int) (Al1.rS false (k1 : Int))), (ml1.del true (k1 : Int))) := by clear hG hQ hp hq; simp_all [sy1, syOk, Mi.ks, Mi.del]
                exact ⟨(Dw, (Al1.write true (k1 : Int) (Al1.rS false (k1 : Int))), k1 + 1, (ml1.del true (k1 : Int))), ⟨(syN_succ hq1).trans e, hw, by simp only; omega, hM1, (fun j => by have := hQ1 j; have q2 := Da.write_many Al1 true (k1 : Int) (Al1.rS false (k1 : Int)) j; dsimp only; omega), ⟨hL1.1, Nat.le_trans (kDel_len _ _) hL1.2⟩⟩, by simp only; omega, ⟨rfl, rfl, rfl, rfl, rfl, trivial⟩, ((hsub (.cons_cons _ (.cons_cons _ (.cons _ (.refl _))))).trans (hsub_pick [2, 0] rfl))⟩
              · skip
                refine H_y 17 rfl (by kernel_rfl) (by kernel_rfl) (by kernel_rfl) (((hsub (.cons_cons _ (.cons_cons _ (.cons _ (.refl _))))).trans (hsub_pick [2, 1] rfl))) rfl (y_pick_t rfl rfl) rfl ?_
                refine H_done (by kernel_rfl) ?_
                refine C_cond_f rfl ?_
                refine C_skip ?_
                refine C_region ?_
                refine L_y rfl (y_move rfl) rfl ?_
                refine L_y rfl (y_add rfl rfl (wi64 (by omega) (by omega))) rfl ?_
                refine L_y rfl (y_assign rfl) rfl ?_
                refine L_nil ?_
                have e : sy1 p true (Al1, ml1) (k1 : Int) = ((Al1.write true (k1 : Int) (Al1.rS false (k1 : Int))), ml1) := by clear hG hQ hp hq; simp_all [sy1, syOk, Mi.ks, Mi.del]
                exact ⟨(Dw, (Al1.write true (k1 : Int) (Al1.rS false (k1 : Int))), k1 + 1, ml1), ⟨(syN_succ hq1).trans e, hw, by simp only; omega, hM1, (fun j => by have := hQ1 j; have q2 := Da.write_many Al1 true (k1 : Int) (Al1.rS false (k1 : Int)) j; dsimp only; omega), hL1⟩, by simp only; omega, ⟨rfl, rfl, rfl, rfl, rfl, trivial⟩, ((hsub (.cons_cons _ (.cons_cons _ (.cons _ (.refl _))))).trans (hsub_pick [2, 0] rfl))⟩
            · skip
              refine H_skip 9 rfl (by kernel_rfl) (by kernel_rfl) (by kernel_rfl) (((hsub (.cons_cons _ (.cons_cons _ (.cons _ (.refl _))))).trans (hsub_pick [2, 0] rfl))) rfl rfl ?_
              refine H_skip 10 rfl (by kernel_rfl) (by kernel_rfl) (by kernel_rfl) (((hsub (.cons_cons _ (.cons_cons _ (.cons _ (.refl _))))).trans (hsub_pick [2, 0] rfl))) rfl rfl ?_
              refine H_skip 11 rfl (by kernel_rfl) (by kernel_rfl) (by kernel_rfl) (((hsub (.cons_cons _ (.cons_cons _ (.cons _ (.refl _))))).trans (hsub_pick [2, 0] rfl))) rfl rfl ?_
              refine H_skip 12 rfl (by kernel_rfl) (by kernel_rfl) (by kernel_rfl) (((hsub (.cons_cons _ (.cons_cons _ (.cons _ (.refl _))))).trans (hsub_pick [2, 0] rfl))) rfl rfl ?_
              refine H_skip 13 rfl (by kernel_rfl) (by kernel_rfl) (by kernel_rfl) (((hsub (.cons_cons _ (.cons_cons _ (.cons _ (.refl _))))).trans (hsub_pick [2, 0] rfl))) rfl rfl ?_
              refine H_skip 14 rfl (by kernel_rfl) (by kernel_rfl) (by kernel_rfl) (((hsub (.cons_cons _ (.cons_cons _ (.cons _ (.refl _))))).trans (hsub_pick [2, 0] rfl))) rfl rfl ?_
              refine H_skip 15 rfl (by kernel_rfl) (by kernel_rfl) (by kernel_rfl) (((hsub (.cons_cons _ (.cons_cons _ (.cons _ (.refl _))))).trans (hsub_pick [2, 0] rfl))) rfl rfl ?_
              refine H_skip 16 rfl (by kernel_rfl) (by kernel_rfl) (by kernel_rfl) (((hsub (.cons_cons _ (.cons_cons _ (.cons _ (.refl _))))).trans (hsub_pick [2, 0] rfl))) rfl rfl ?_
              refine H_y 17 rfl (by kernel_rfl) (by kernel_rfl) (by kernel_rfl) (((hsub (.cons_cons _ (.cons_cons _ (.cons _ (.refl _))))).trans (hsub_pick [2, 0] rfl))) rfl (y_pick_f rfl rfl) rfl ?_
              refine H_done (by kernel_rfl) ?_
              refine C_cond_f rfl ?_
              refine C_skip ?_
              refine C_region ?_
              refine L_y rfl (y_move rfl) rfl ?_
              refine L_y rfl (y_add rfl rfl (wi64 (by omega) (by omega))) rfl ?_
              refine L_y rfl (y_assign rfl) rfl ?_
              refine L_nil ?_
              have e : sy1 p true (Al1, ml1) (k1 : Int) = (Al1, ml1) := by clear hG hQ hp hq; simp_all [sy1, syOk, Mi.ks, Mi.del]
              exact ⟨(Dl1, Al1, k1 + 1, ml1), ⟨(syN_succ hq1).trans e, hT1, by simp only; omega, hM1, (fun j => by have := hQ1 j; dsimp only; omega), hL1⟩, by simp only; omega, ⟨rfl, rfl, rfl, rfl, rfl, trivial⟩, ((hsub (.cons_cons _ (.cons_cons _ (.cons _ (.refl _))))).trans (hsub_pick [2, 1] rfl))⟩
          · skip
            refine H_skip 3 rfl (by kernel_rfl) (by kernel_rfl) (by kernel_rfl) (((hsub (.cons_cons _ (.cons_cons _ (.cons _ (.refl _))))).trans (hsub_pick [2, 0] rfl))) rfl rfl ?_
            refine H_skip 4 rfl (by kernel_rfl) (by kernel_rfl) (by kernel_rfl) (((hsub (.cons_cons _ (.cons_cons _ (.cons _ (.refl _))))).trans (hsub_pick [2, 0] rfl))) rfl rfl ?_
            refine H_skip 5 rfl (by kernel_rfl) (by kernel_rfl) (by kernel_rfl) (((hsub (.cons_cons _ (.cons_cons _ (.cons _ (.refl _))))).trans (hsub_pick [2, 0] rfl))) rfl rfl ?_
            refine H_skip 6 rfl (by kernel_rfl) (by kernel_rfl) (by kernel_rfl) (((hsub (.cons_cons _ (.cons_cons _ (.cons _ (.refl _))))).trans (hsub_pick [2, 0] rfl))) rfl rfl ?_
            refine H_y 7 rfl (by kernel_rfl) (by kernel_rfl) (by kernel_rfl) (((hsub (.cons_cons _ (.cons_cons _ (.cons _ (.refl _))))).trans (hsub_pick [2, 0] rfl))) rfl (y_pick_f rfl rfl) rfl ?_
            refine H_y 8 rfl (by kernel_rfl) (by kernel_rfl) (by kernel_rfl) (((hsub (.cons_cons _ (.cons_cons _ (.cons _ (.refl _))))).trans (hsub_pick [2, 0] rfl))) rfl (y_move rfl) rfl ?_
            refine H_skip 9 rfl (by kernel_rfl) (by kernel_rfl) (by kernel_rfl) (((hsub (.cons_cons _ (.cons_cons _ (.cons _ (.refl _))))).trans (hsub_pick [2, 0] rfl))) rfl rfl ?_
            refine H_skip 10 rfl (by kernel_rfl) (by kernel_rfl) (by kernel_rfl) (((hsub (.cons_cons _ (.cons_cons _ (.cons _ (.refl _))))).trans (hsub_pick [2, 0] rfl))) rfl rfl ?_
            refine H_skip 11 rfl (by kernel_rfl) (by kernel_rfl) (by kernel_rfl) (((hsub (.cons_cons _ (.cons_cons _ (.cons _ (.refl _))))).trans (hsub_pick [2, 0] rfl))) rfl rfl ?_
            refine H_skip 12 rfl (by kernel_rfl) (by kernel_rfl) (by kernel_rfl) (((hsub (.cons_cons _ (.cons_cons _ (.cons _ (.refl _))))).trans (hsub_pick [2, 0] rfl))) rfl rfl ?_
            refine H_skip 13 rfl (by kernel_rfl) (by kernel_rfl) (by kernel_rfl) (((hsub (.cons_cons _ (.cons_cons _ (.cons _ (.refl _))))).trans (hsub_pick [2, 0] rfl))) rfl rfl ?_
            refine H_skip 14 rfl (by kernel_rfl) (by kernel_rfl) (by kernel_rfl) (((hsub (.cons_cons _ (.cons_cons _ (.cons _ (.refl _))))).trans (hsub_pick [2, 0] rfl))) rfl rfl ?_
            refine H_skip 15 rfl (by kernel_rfl) (by kernel_rfl) (by kernel_rfl) (((hsub (.cons_cons _ (.cons_cons _ (.cons _ (.refl _))))).trans (hsub_pick [2, 0] rfl))) rfl rfl ?_
            refine H_skip 16 rfl (by kernel_rfl) (by kernel_rfl) (by kernel_rfl) (((hsub (.cons_cons _ (.cons_cons _ (.cons _ (.refl _))))).trans (hsub_pick [2, 0] rfl))) rfl rfl ?_
            refine H_y 17 rfl (by kernel_rfl) (by kernel_rfl) (by kernel_rfl) (((hsub (.cons_cons _ (.cons_cons _ (.cons _ (.refl _))))).trans (hsub_pick [2, 0] rfl))) rfl (y_pick_f rfl rfl) rfl ?_
            refine H_done (by kernel_rfl) ?_
            refine C_cond_f rfl ?_
            refine C_skip ?_
            refine C_region ?_
            refine L_y rfl (y_move rfl) rfl ?_
            refine L_y rfl (y_add rfl rfl (wi64 (by omega) (by omega))) rfl ?_
            refine L_y rfl (y_assign rfl) rfl ?_
            refine L_nil ?_
            have e : sy1 p true (Al1, ml1) (k1 : Int) = (Al1, ml1) := by clear hG hQ hp hq; simp_all [sy1, syOk, Mi.ks, Mi.del]
            exact ⟨(Dl1, Al1, k1 + 1, ml1), ⟨(syN_succ hq1).trans e, hT1, by simp only; omega, hM1, (fun j => by have := hQ1 j; dsimp only; omega), hL1⟩, by simp only; omega, ⟨rfl, rfl, rfl, rfl, rfl, trivial⟩, ((hsub (.cons_cons _ (.cons_cons _ (.cons _ (.refl _))))).trans (hsub_pick [2, 1] rfl))⟩
    · replace hc2 := of_decide_eq_false hc2
      refine C_exit ?_
      refine C_region ?_
      refine L_y rfl (y_add rfl rfl (show _ = (2 : Int) from rfl)) rfl ?_
      refine L_y rfl (y_move rfl) rfl ?_
      refine L_nil ?_
      refine In_round ?_
      refine C_seq ?_
      refine C_region ?_
      refine L_y rfl (y_lss rfl rfl) rfl ?_
      refine L_nil ?_
      refine C_seq ?_
      refine C_cond_f rfl ?_
      refine C_exit ?_
      refine C_seq ?_
      refine C_region ?_
      refine L_y rfl (y_move rfl) rfl ?_
      refine L_op rfl (op_call rfl rfl (fun a w => Try.call21 a w) rfl ?_)
      refine (FnS.sub (hsub_pick [0, 0] rfl) (mflush_m hT1)).mono ?_
      rintro _ _ ⟨rfl, D9, h9, rfl⟩
      refine ⟨_, rfl, ?_⟩
      refine L_nil ?_
      refine C_seq ?_
      refine C_seq ?_
      refine C_region ?_
      refine L_y rfl (y_move rfl) rfl ?_
      refine L_op rfl (op_call rfl rfl (fun a w => Try.call35 a w) rfl ?_)
      refine (FnS.sub (hsub_pick [0] rfl) stale_m).mono ?_
      rintro _ _ ⟨rfl, rfl⟩
      refine ⟨_, rfl, ?_⟩
      refine L_y rfl (y_move rfl) rfl ?_
      refine L_y rfl (y_extract rfl rfl) rfl ?_
      refine L_y rfl (y_extract rfl rfl) rfl ?_
      refine L_y rfl (y_assign rfl) rfl ?_
      refine L_y rfl (y_assign rfl) rfl ?_
      refine L_nil ?_
      refine C_seq ?_
      refine C_region ?_
      refine L_y rfl (y_move rfl) rfl ?_
      refine L_y rfl (y_move rfl) rfl ?_
      refine L_y rfl (y_add rfl rfl (wi64 (by omega) (by omega))) rfl ?_
      refine L_y rfl (y_gtr rfl rfl) rfl ?_
      refine L_nil ?_
      refine C_cond rfl (fun hc5 => ?_) (fun hc5 => ?_)
      · replace hc5 := of_decide_eq_true hc5
        refine C_seq ?_
        refine C_region ?_
        refine L_y rfl (y_assign rfl) rfl ?_
        refine L_nil ?_
        refine C_ret ?_
        refine B_ret (rv_tmp rfl rv_nil) ((hsub (.cons_cons _ (.cons_cons _ (.refl _)))).trans (hsub_pick [0, 0] rfl)) ?_
        have hk : k0 = m.n := by omega
        have hk1 : k1 = m.n := by omega
        subst hk hk1
        have eq : syncQ m A p = (Al1, ml1) := by unfold syncQ; rw [hq0, hq1]
        exact ⟨ret_int (by rw [syncE, eq, hp, hq]; simp only [Bool.and_self, if_true]; first | rw [if_pos (by omega)] | rw [if_neg (by omega)]), D9, by rw [show syncA m A p = (mfl Al1).1 by simp [syncA, eq, hp, hq], ← hM1.2.1, ← hM1.2.2.1]; exact h9, by rw [show syncM m A p = ml1 by simp [syncM, eq, hp, hq]] <;> rfl⟩
      · replace hc5 := of_decide_eq_false hc5
        refine C_skip ?_
        refine C_seq ?_
        refine C_region ?_
        refine L_y rfl (y_assign rfl) rfl ?_
        refine L_nil ?_
        refine C_ret ?_
        refine B_ret (rv_tmp rfl rv_nil) ((hsub (.cons_cons _ (.cons_cons _ (.refl _)))).trans (hsub_pick [0, 0] rfl)) ?_
        have hk : k0 = m.n := by omega
        have hk1 : k1 = m.n := by omega
        subst hk hk1
        have eq : syncQ m A p = (Al1, ml1) := by unfold syncQ; rw [hq0, hq1]
        exact ⟨ret_int (by rw [syncE, eq, hp, hq]; simp only [Bool.and_self, if_true]; first | rw [if_pos (by omega)] | rw [if_neg (by omega)]), D9, by rw [show syncA m A p = (mfl Al1).1 by simp [syncA, eq, hp, hq], ← hM1.2.1, ← hM1.2.2.1]; exact h9, by rw [show syncM m A p = ml1 by simp [syncM, eq, hp, hq]] <;> rfl⟩

set_option maxHeartbeats 4000000 in

theorem sync_tf {w0 : World} {H : Hp} {D : Duo} {A : Da} {bp : Nat} {m : Mi} (h : Two dt D A m.bx m.bys bp) {p : Int → Sec → Bool} (hG : GoodAt Try.prog w0 H m.gv p) (hQ : ∀ i, (A.dev i).Q.length ≤ 50000) (hm : m.n ≤ 4096) (hL : m.k0.length ≤ 4096 ∧ m.k1.length ≤ 4096) (hp : thr A false = true) (hq : thr A true = false) : FnS Try.prog w0 36 #[ptr m.b] (m.seg 104 :: D.seg dt :: H) (fun e H' => e = .returned (.int .i64 (syncE m A p)) ∧ ∃ D', Two dt D' (syncA m A p) m.bx m.bys bp ∧ H' = (syncM m A p).seg 104 :: D'.seg dt :: H) := by
  refine FnS_intro (n := 100) (rs := [.tmp 2]) (vs := [ptr m.b]) Try.func36 rfl Try.ntmps36 rfl rfl ?_
  refine C_seq ?_
  refine C_region ?_
  refine L_y rfl (y_assign rfl) rfl ?_
  refine L_nil ?_
  refine C_seq ?_
  refine C_seq ?_
  refine C_region ?_
  refine L_y rfl (y_move rfl) rfl ?_
  refine L_y rfl (y_eqp rfl rfl Try.underlying26) rfl ?_
  refine L_y rfl (y_move rfl) rfl ?_
  refine L_y rfl (y_move rfl) rfl ?_
  refine L_op rfl (op_call rfl rfl (fun a w => Try.call56 a w) rfl ?_)
  refine ((present_tf h hp hq).sub (hsub_pick [0, 0] rfl)).mono ?_
  rintro _ _ ⟨g1, hg1, rfl, rfl⟩
  cases g1 with
  | none => exact slOk_none hg1 (by decide)
  | some g1 => ?_
  refine ⟨_, rfl, ?_⟩
  refine L_y rfl (y_lenS rfl rfl Try.underlying112) rfl ?_
  refine L_y rfl (y_lss rfl rfl) rfl ?_
  refine L_y rfl (y_pick_f rfl rfl) rfl ?_
  refine L_nil ?_
  refine C_cond_t rfl ?_
  refine C_seq ?_
  refine C_region ?_
  refine L_y rfl (y_assign rfl) rfl ?_
  refine L_nil ?_
  refine C_ret ?_
  refine B_ret (rv_tmp rfl rv_nil) ((hsub (.cons_cons _ (.cons_cons _ (.cons _ (.refl _))))).trans (hsub_pick [1, 1] rfl)) ?_
  exact ⟨ret_int (by simp [syncE, hp, hq]), D, h.to (by simp [syncA, hp, hq]), by rw [show syncM m A p = m by simp [syncM, hp, hq]] <;> rfl⟩

set_option maxHeartbeats 4000000 in

theorem sync_ft {w0 : World} {H : Hp} {D : Duo} {A : Da} {bp : Nat} {m : Mi} (h : Two dt D A m.bx m.bys bp) {p : Int → Sec → Bool} (hG : GoodAt Try.prog w0 H m.gv p) (hQ : ∀ i, (A.dev i).Q.length ≤ 50000) (hm : m.n ≤ 4096) (hL : m.k0.length ≤ 4096 ∧ m.k1.length ≤ 4096) (hp : thr A false = false) (hq : thr A true = true) : FnS Try.prog w0 36 #[ptr m.b] (m.seg 104 :: D.seg dt :: H) (fun e H' => e = .returned (.int .i64 (syncE m A p)) ∧ ∃ D', Two dt D' (syncA m A p) m.bx m.bys bp ∧ H' = (syncM m A p).seg 104 :: D'.seg dt :: H) := by
  refine FnS_intro (n := 100) (rs := [.tmp 2]) (vs := [ptr m.b]) Try.func36 rfl Try.ntmps36 rfl rfl ?_
  refine C_seq ?_
  refine C_region ?_
  refine L_y rfl (y_assign rfl) rfl ?_
  refine L_nil ?_
  refine C_seq ?_
  refine C_seq ?_
  refine C_region ?_
  refine L_y rfl (y_move rfl) rfl ?_
  refine L_y rfl (y_eqp rfl rfl Try.underlying26) rfl ?_
  refine L_y rfl (y_move rfl) rfl ?_
  refine L_y rfl (y_move rfl) rfl ?_
  refine L_op rfl (op_call rfl rfl (fun a w => Try.call56 a w) rfl ?_)
  refine ((present_ft h hp hq).sub (hsub_pick [0, 0] rfl)).mono ?_
  rintro _ _ ⟨g1, hg1, rfl, rfl⟩
  cases g1 with
  | none => exact slOk_none hg1 (by decide)
  | some g1 => ?_
  refine ⟨_, rfl, ?_⟩
  refine L_y rfl (y_lenS rfl rfl Try.underlying112) rfl ?_
  refine L_y rfl (y_lss rfl rfl) rfl ?_
  refine L_y rfl (y_pick_f rfl rfl) rfl ?_
  refine L_nil ?_
  refine C_cond_t rfl ?_
  refine C_seq ?_
  refine C_region ?_
  refine L_y rfl (y_assign rfl) rfl ?_
  refine L_nil ?_
  refine C_ret ?_
  refine B_ret (rv_tmp rfl rv_nil) ((hsub (.cons_cons _ (.cons_cons _ (.cons _ (.refl _))))).trans (hsub_pick [1, 1] rfl)) ?_
  exact ⟨ret_int (by simp [syncE, hp, hq]), D, h.to (by simp [syncA, hp, hq]), by rw [show syncM m A p = m by simp [syncM, hp, hq]] <;> rfl⟩

set_option maxHeartbeats 4000000 in

theorem sync_ff {w0 : World} {H : Hp} {D : Duo} {A : Da} {bp : Nat} {m : Mi} (h : Two dt D A m.bx m.bys bp) {p : Int → Sec → Bool} (hG : GoodAt Try.prog w0 H m.gv p) (hQ : ∀ i, (A.dev i).Q.length ≤ 50000) (hm : m.n ≤ 4096) (hL : m.k0.length ≤ 4096 ∧ m.k1.length ≤ 4096) (hp : thr A false = false) (hq : thr A true = false) : FnS Try.prog w0 36 #[ptr m.b] (m.seg 104 :: D.seg dt :: H) (fun e H' => e = .returned (.int .i64 (syncE m A p)) ∧ ∃ D', Two dt D' (syncA m A p) m.bx m.bys bp ∧ H' = (syncM m A p).seg 104 :: D'.seg dt :: H) := by
  refine FnS_intro (n := 100) (rs := [.tmp 2]) (vs := [ptr m.b]) Try.func36 rfl Try.ntmps36 rfl rfl ?_
  refine C_seq ?_
  refine C_region ?_
  refine L_y rfl (y_assign rfl) rfl ?_
  refine L_nil ?_
  refine C_seq ?_
  refine C_seq ?_
  refine C_region ?_
  refine L_y rfl (y_move rfl) rfl ?_
  refine L_y rfl (y_eqp rfl rfl Try.underlying26) rfl ?_
  refine L_y rfl (y_move rfl) rfl ?_
  refine L_y rfl (y_move rfl) rfl ?_
  refine L_op rfl (op_call rfl rfl (fun a w => Try.call56 a w) rfl ?_)
  refine ((present_ff h hp hq).sub (hsub_pick [0, 0] rfl)).mono ?_
  rintro _ _ ⟨rfl, rfl⟩
  refine ⟨_, rfl, ?_⟩
  refine L_y rfl (y_lenS rfl rfl Try.underlying112) rfl ?_
  refine L_y rfl (y_lss rfl rfl) rfl ?_
  refine L_y rfl (y_pick_f rfl rfl) rfl ?_
  refine L_nil ?_
  refine C_cond_t rfl ?_
  refine C_seq ?_
  refine C_region ?_
  refine L_y rfl (y_assign rfl) rfl ?_
  refine L_nil ?_
  refine C_ret ?_
  refine B_ret (rv_tmp rfl rv_nil) ((hsub (.cons_cons _ (.cons_cons _ (.refl _)))).trans (hsub_pick [0, 0] rfl)) ?_
  exact ⟨ret_int (by simp [syncE, hp, hq]), D, h.to (by simp [syncA, hp, hq]), by rw [show syncM m A p = m by simp [syncM, hp, hq]] <;> rfl⟩

theorem sync_m {w0 : World} {H : Hp} {D : Duo} {A : Da} {bp : Nat} {m : Mi} (h : Two dt D A m.bx m.bys bp) {p : Int → Sec → Bool} (hG : GoodAt Try.prog w0 H m.gv p) (hQ : ∀ i, (A.dev i).Q.length ≤ 50000) (hm : m.n ≤ 4096) (hL : m.k0.length ≤ 4096 ∧ m.k1.length ≤ 4096) : FnS Try.prog w0 36 #[ptr m.b] (m.seg 104 :: D.seg dt :: H) (fun e H' => e = .returned (.int .i64 (syncE m A p)) ∧ ∃ D', Two dt D' (syncA m A p) m.bx m.bys bp ∧ H' = (syncM m A p).seg 104 :: D'.seg dt :: H) := by
  cases hp : thr A false <;> cases hq : thr A true
  · exact sync_ff h hG hQ hm hL hp hq
  · exact sync_ft h hG hQ hm hL hp hq
  · exact sync_tf h hG hQ hm hL hp hq
  · exact sync_tt h hG hQ hm hL hp hq

end Go.Proofs.Ytfijmjolchdkfaa
