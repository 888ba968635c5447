/- Own work: texts Q8W, DaW, SlM, Pe, Xo, Sg, Xn, Rl, Rd8, Cg, A8, Cl, Q9W, Rw, Rg, Rd, Ry, put together. -/
import Derived.Maps.RangeRun
import Derived.Sort.AssemblyPlain
import Derived.ShutString
import Derived.OpenShut
import Derived.Carry
import Derived.Deep.Slices
import Derived.Test.YtaeooiogjhkjfaaMDevicePlaysb
/- walks (own work; the walks' lines by a program of this repo). -/
set_option linter.unusedVariables false
set_option linter.unusedSimpArgs false
set_option maxRecDepth 20000
namespace Go.Proofs.Ytaeooiogjhkjfaa
open Go.Sl
attribute [local irreducible] BodyQ WpC WpL WpS WpH OpW FnS


theorem told_s {w0 : World} {H : Hp} {R : Rv × Rv} {A : Da} {rx ry pb m : Nat} {gl : SlG} (h : R8s R A rx ry) (hO : Ok8 A m) (hm : m < 100000) (i : Bool) (on k n j : Int) (c : UInt8) (hn : n ≤ 9223372036854775807) : FnS Try.prog w0 20 #[ptr pb, ptr (sel rx ry i), .agg #[.int .i64 on, .int .i64 k, .int .i64 n, .int .i64 j, .int .u8 (c.toNat : Int)]] (RH rt R.1 R.2 pb gl A.p.off (lf A.p) rx ry H) (fun E H' => E = .returned (.tuple #[.int .i64 (dE A i k n j), .agg (bs (dS A i k n)).toArray]) ∧ ∃ R', R8s R' (dA A i k n j c) rx ry ∧ H' = RH rt R'.1 R'.2 pb gl (dA A i k n j c).p.off (lf (dA A i k n j c).p) rx ry H) := by
  obtain ⟨q1, q2, q3, q4⟩ := d1_eq hO.q i k n j c
  obtain ⟨d, e, hd, he, hb, ha, hxy, s1, s2⟩ := h.view hO.q i rt pb gl H
  have hfit : d.a.fit := ha ▸ (hO.dev i).1
  have hQ : d.a.Q.length < 100000 := by rw [ha]; exact Nat.lt_of_le_of_lt (hO.dev i).2 hm
  rw [← hb]
  refine ((told_1 hd he hxy hO.fp (lf_hi hO.lp) hfit hQ on k n j c hn).sub (s1 _ _)).weak ?_
  rintro _ _ ⟨rfl, d', e', hR, rfl⟩
  rw [ha] at hR
  rw [ha]
  obtain ⟨R', k1, k2⟩ := s2 _ _ (p1 (A.dev i) A.p k n) d' e' hR
  exact ⟨_, k2 _ _, by rw [q1, q2], R', by rw [q3]; exact k1, by rw [q4]⟩

set_option maxHeartbeats 1000000 in

theorem do_s {w0 : World} {H : Hp} {D : Duo} {A : Da} {bx bys bp : Nat} (h : Two dt D A bx bys bp) (i : Bool) (hQ : (A.dev i).Q.length < 100000) (on k n j : Int) (c : UInt8) (hn : n ≤ 9223372036854775807) : FnS Try.prog w0 19 #[ptr bp, ptr (sel bx bys i), .agg #[.int .i64 on, .int .i64 k, .int .i64 n, .int .i64 j, .int .u8 (c.toNat : Int)]] (D.seg dt :: H) (fun E H' => E = .returned (.tuple #[.int .i64 (dE A i k n j), .agg (bs (dS A i k n)).toArray]) ∧ ∃ D', Two dt D' (dA A i k n j c) bx bys bp ∧ H' = D'.seg dt :: H) := by
  have hrl : (A.rS i n).length = 128 := readS_len (h.aok i).1
  refine FnS_intro (n := 84) (rs := [.tmp 6, .cell 7 38]) (vs := [ptr bp, ptr (sel bx bys i), .agg #[.int .i64 on, .int .i64 k, .int .i64 n, .int .i64 j, .int .u8 (c.toNat : Int)]]) Try.func19 rfl Try.ntmps19 rfl rfl ?_
  refine C_seq ?_
  refine C_region ?_
  refine L_op rfl (op_box rfl rfl rfl (fun B1 => ?_))
  refine L_y rfl (y_assign rfl) rfl ?_
  refine L_op rfl (op_alloc zl_38 rfl (fun B2 => ?_))
  refine L_nil ?_
  refine C_seq ?_
  refine C_seq ?_
  refine C_region ?_
  refine L_y rfl (y_fieldAddr rfl fl_36_1) rfl ?_
  refine L_y rfl (y_load rfl ag_3 (sees 1 0 rfl) rfl) rfl ?_
  refine L_nil ?_
  refine C_block ?_
  refine C_seq ?_
  refine C_region ?_
  refine L_y rfl (y_eqi rfl rfl) rfl ?_
  refine L_y rfl (y_assign rfl) rfl ?_
  refine L_nil ?_
  refine C_cond rfl (fun hc0 => ?_) (fun hc0 => ?_)
  · obtain rfl : k = 0 := of_decide_eq_true hc0
    refine C_seq ?_
    refine C_regionH ([(B1, .cells [.int .i64 on, .int .i64 0, .int .i64 n, .int .i64 j, .int .u8 (c.toNat : Int)].toArray 36)] :: H) (by kernel_rfl) ?_
    refine H_y 0 rfl (by kernel_rfl) (by kernel_rfl) (by kernel_rfl) (hsub (.cons _ (.cons_cons _ (.cons _ (.refl _))))) rfl (y_move rfl) rfl ?_
    refine H_y 1 rfl (by kernel_rfl) (by kernel_rfl) (by kernel_rfl) (hsub (.cons _ (.cons_cons _ (.cons _ (.refl _))))) rfl (y_fieldAddr rfl fl_36_2) rfl ?_
    refine H_y 2 rfl (by kernel_rfl) (by kernel_rfl) (by kernel_rfl) (hsub (.cons _ (.cons_cons _ (.cons _ (.refl _))))) rfl (y_load rfl ag_3 (sees 0 0 rfl) rfl) rfl ?_
    refine H_y 3 rfl (by kernel_rfl) (by kernel_rfl) (by kernel_rfl) (hsub (.cons _ (.cons_cons _ (.cons _ (.refl _))))) rfl (y_fieldAddr rfl fl_36_4) rfl ?_
    refine H_y 4 rfl (by kernel_rfl) (by kernel_rfl) (by kernel_rfl) (hsub (.cons _ (.cons_cons _ (.cons _ (.refl _))))) rfl (y_load rfl ag_5 (sees 0 0 rfl) rfl) rfl ?_
    refine H_y 7 rfl (by kernel_rfl) (by kernel_rfl) (by kernel_rfl) (hsub (.cons _ (.cons_cons _ (.cons _ (.refl _))))) rfl (y_buildA0 Try.underlying38 sz_5 zl_38) rfl ?_
    refine H_one 5 rfl (by kernel_rfl) rfl (op_call rfl rfl (fun a w => Try.call57 a w) rfl ?_)
    refine (sector_s c).mono ?_
    rintro _ _ ⟨rfl, rfl⟩
    refine ⟨_, rfl, ?_⟩
    refine ⟨hsub (.cons _ (.cons_cons _ (.cons _ (.refl _)))), ?_⟩
    refine H_one 6 rfl (by kernel_rfl) rfl (op_call rfl rfl (fun a w => Try.call56 a w) rfl ?_)
    refine ((write_d h i n (secOf c) (secOf_len c) hQ).sub (hsub_pick [2] rfl)).mono ?_
    rintro _ _ ⟨rfl, D', hT, rfl⟩
    refine ⟨_, rfl, ?_⟩
    refine ⟨hsub (.cons _ (.cons _ (.cons_cons _ (.refl _)))), ?_⟩
    refine H_y 8 rfl (by kernel_rfl) (by kernel_rfl) (by kernel_rfl) (hsub (.cons _ (.cons _ (.cons_cons _ (.refl _))))) rfl (y_assign rfl) rfl ?_
    refine H_one 9 rfl (by kernel_rfl) rfl (op_store 1 0 rfl rfl rfl sz_38 rfl rfl (ones rfl) (by decide) ?_)
    skip
    refine ⟨hsub (.cons _ (.cons _ (.cons_cons _ (.refl _)))), ?_⟩
    refine H_done (by kernel_rfl) ?_
    refine C_ret ?_
    refine B_ret (rv_tmp rfl (rv_cellA rfl ag_38 sz_38 (sees 1 0 rfl) (Nat.le_of_ble_eq_true rfl) rfl rv_nil)) ((hsub (.cons_cons _ (.cons _ (.cons _ (.refl _))))).trans (hsub_pick [0] rfl)) ?_
    exact ⟨Eq.trans (b := Ending.returned (.tuple #[.int .i64 (A.wE i n), .agg (bs (secOf 0)).toArray])) (by rw [← zsec]; rfl) rfl, ⟨D', hT, rfl⟩⟩
  · replace hc0 : ¬ k = 0 := of_decide_eq_false hc0
    refine C_seq ?_
    refine C_region ?_
    refine L_y rfl (y_eqi rfl rfl) rfl ?_
    refine L_y rfl (y_assign rfl) rfl ?_
    refine L_nil ?_
    refine C_cond rfl (fun hc1 => ?_) (fun hc1 => ?_)
    · obtain rfl : k = 1 := of_decide_eq_true hc1
      refine C_seq ?_
      refine C_region ?_
      refine L_y rfl (y_move rfl) rfl ?_
      refine L_op rfl (op_call rfl rfl (fun a w => Try.call60 a w) rfl ?_)
      refine ((flush_d h i).sub (hsub_pick [2] rfl)).mono ?_
      rintro _ _ ⟨rfl, D', hT, rfl⟩
      refine ⟨_, rfl, ?_⟩
      refine L_y rfl (y_buildA0 Try.underlying38 sz_5 zl_38) rfl ?_
      refine L_y rfl (y_assign rfl) rfl ?_
      refine L_op rfl (op_store 1 0 rfl rfl rfl sz_38 rfl rfl (ones rfl) (by decide) ?_)
      skip
      refine L_nil ?_
      refine C_ret ?_
      refine B_ret (rv_tmp rfl (rv_cellA rfl ag_38 sz_38 (sees 1 0 rfl) (Nat.le_of_ble_eq_true rfl) rfl rv_nil)) ((hsub (.cons_cons _ (.cons _ (.cons _ (.refl _))))).trans (hsub_pick [0] rfl)) ?_
      exact ⟨Eq.trans (b := Ending.returned (.tuple #[.int .i64 (A.fE i), .agg (bs (secOf 0)).toArray])) (by rw [← zsec]; rfl) rfl, ⟨D', hT, rfl⟩⟩
    · replace hc1 : ¬ k = 1 := of_decide_eq_false hc1
      refine C_seq ?_
      refine C_region ?_
      refine L_y rfl (y_eqi rfl rfl) rfl ?_
      refine L_y rfl (y_assign rfl) rfl ?_
      refine L_nil ?_
      refine C_cond rfl (fun hc2 => ?_) (fun hc2 => ?_)
      · obtain rfl : k = 2 := of_decide_eq_true hc2
        refine C_seq ?_
        refine C_region ?_
        refine L_y rfl (y_move rfl) rfl ?_
        refine L_y rfl (y_fieldAddr rfl fl_36_2) rfl ?_
        refine L_y rfl (y_load rfl ag_3 (sees 1 0 rfl) rfl) rfl ?_
        refine L_op rfl (op_call rfl rfl (fun a w => Try.call62 a w) rfl ?_)
        refine ((read_d h i n).sub (hsub_pick [2] rfl)).mono ?_
        rintro _ _ ⟨rfl, rfl⟩
        refine ⟨_, rfl, ?_⟩
        refine L_y rfl (y_move rfl) rfl ?_
        refine L_y rfl (y_extract rfl rfl) rfl ?_
        refine L_y rfl (y_extract rfl rfl) rfl ?_
        refine L_op rfl (op_alloc zl_38 rfl (fun B3 => ?_))
        refine L_op rfl (op_storeA 0 0 rfl rfl rfl sz_38 (by rw [bs_length, hrl]) rfl (bs_one _) rfl ?_)
        refine L_y rfl (y_assign rfl) rfl ?_
        refine L_nil ?_
        refine C_seq ?_
        refine C_regionT 3 (by kernel_rfl) (by kernel_rfl) ?_
        refine S_y rfl (y_move rfl) rfl ?_
        refine S_y rfl (y_loadA rfl ag_38 sz_38 (sees 0 0 rfl) (by rw [bs_length, hrl]; decide) (bs_whole0 _ hrl)) rfl ?_
        refine S_y rfl (y_assign rfl) rfl ?_
        refine S_nil ?_
        refine L_op rfl (op_storeA 2 0 rfl rfl rfl sz_38 (by rw [bs_length, hrl]) rfl (bs_one _) rfl ?_)
        refine L_nil ?_
        refine C_ret ?_
        refine B_ret (rv_tmp rfl (rv_cellA rfl ag_38 sz_38 (sees 2 0 rfl) (by rw [bs_length, hrl]; decide) (bs_whole0 _ hrl) rv_nil)) ((hsub (.cons_cons _ (.cons _ (.cons _ (.cons _ (.refl _)))))).trans (hsub_pick [1] rfl)) ?_
        exact ⟨rfl, ⟨D, h, rfl⟩⟩
      · replace hc2 : ¬ k = 2 := of_decide_eq_false hc2
        refine C_seq ?_
        refine C_region ?_
        refine L_y rfl (y_eqi rfl rfl) rfl ?_
        refine L_y rfl (y_assign rfl) rfl ?_
        refine L_nil ?_
        refine C_cond rfl (fun hc3 => ?_) (fun hc3 => ?_)
        · obtain rfl : k = 3 := of_decide_eq_true hc3
          refine C_region ?_
          refine L_y rfl (y_move rfl) rfl ?_
          refine L_y rfl (y_fieldAddr rfl fl_36_2) rfl ?_
          refine L_y rfl (y_load rfl ag_3 (sees 1 0 rfl) rfl) rfl ?_
          refine L_y rfl (y_fieldAddr rfl fl_36_3) rfl ?_
          refine L_y rfl (y_load rfl ag_3 (sees 1 0 rfl) rfl) rfl ?_
          refine L_op rfl (op_call rfl rfl (fun a w => Try.call58 a w) rfl ?_)
          refine ((tear_d h i n j).sub (hsub_pick [2] rfl)).mono ?_
          rintro _ _ ⟨rfl, D', hT, rfl⟩
          refine ⟨_, rfl, ?_⟩
          refine L_nil ?_
          refine C_seq ?_
          refine C_region ?_
          refine L_y rfl (y_buildA0 Try.underlying38 sz_5 zl_38) rfl ?_
          refine L_y rfl (y_assign rfl) rfl ?_
          refine L_op rfl (op_store 1 0 rfl rfl rfl sz_38 rfl rfl (ones rfl) (by decide) ?_)
          skip
          refine L_nil ?_
          refine C_ret ?_
          refine B_ret (rv_tmp rfl (rv_cellA rfl ag_38 sz_38 (sees 1 0 rfl) (Nat.le_of_ble_eq_true rfl) rfl rv_nil)) ((hsub (.cons_cons _ (.cons _ (.cons _ (.refl _))))).trans (hsub_pick [0] rfl)) ?_
          exact ⟨Eq.trans (b := Ending.returned (.tuple #[.int .i64 (0), .agg (bs (secOf 0)).toArray])) (by rw [← zsec]; rfl) rfl, ⟨D', hT, rfl⟩⟩
        · replace hc3 : ¬ k = 3 := of_decide_eq_false hc3
          refine C_seq ?_
          refine C_region ?_
          refine L_y rfl (y_eqi rfl rfl) rfl ?_
          refine L_y rfl (y_assign rfl) rfl ?_
          refine L_nil ?_
          refine C_cond rfl (fun hc4 => ?_) (fun hc4 => ?_)
          · obtain rfl : k = 4 := of_decide_eq_true hc4
            refine C_region ?_
            refine L_y rfl (y_move rfl) rfl ?_
            refine L_y rfl (y_fieldAddr rfl fl_36_4) rfl ?_
            refine L_y rfl (y_load rfl ag_5 (sees 1 0 rfl) rfl) rfl ?_
            refine L_y rfl (y_rem rfl rfl (by omega) rfl) rfl ?_
            refine L_y rfl (y_eqi rfl rfl) rfl ?_
            refine L_op rfl (op_call rfl rfl (fun a w => Try.call63 a w) rfl ?_)
            refine ((lie_d h i (odd8 c)).sub (hsub_pick [2] rfl)).mono ?_
            rintro _ _ ⟨rfl, D', hT, rfl⟩
            refine ⟨_, rfl, ?_⟩
            refine L_nil ?_
            refine C_seq ?_
            refine C_region ?_
            refine L_y rfl (y_buildA0 Try.underlying38 sz_5 zl_38) rfl ?_
            refine L_y rfl (y_assign rfl) rfl ?_
            refine L_op rfl (op_store 1 0 rfl rfl rfl sz_38 rfl rfl (ones rfl) (by decide) ?_)
            skip
            refine L_nil ?_
            refine C_ret ?_
            refine B_ret (rv_tmp rfl (rv_cellA rfl ag_38 sz_38 (sees 1 0 rfl) (Nat.le_of_ble_eq_true rfl) rfl rv_nil)) ((hsub (.cons_cons _ (.cons _ (.cons _ (.refl _))))).trans (hsub_pick [0] rfl)) ?_
            exact ⟨Eq.trans (b := Ending.returned (.tuple #[.int .i64 (0), .agg (bs (secOf 0)).toArray])) (by rw [← zsec]; rfl) rfl, ⟨D', hT, rfl⟩⟩
          · replace hc4 : ¬ k = 4 := of_decide_eq_false hc4
            refine C_seq ?_
            refine C_region ?_
            refine L_y rfl (y_eqi rfl rfl) rfl ?_
            refine L_y rfl (y_assign rfl) rfl ?_
            refine L_nil ?_
            refine C_cond rfl (fun hc5 => ?_) (fun hc5 => ?_)
            · obtain rfl : k = 5 := of_decide_eq_true hc5
              refine C_region ?_
              refine L_y rfl (y_move rfl) rfl ?_
              refine L_y rfl (y_fieldAddr rfl fl_36_4) rfl ?_
              refine L_y rfl (y_load rfl ag_5 (sees 1 0 rfl) rfl) rfl ?_
              refine L_y rfl (y_rem rfl rfl (by omega) rfl) rfl ?_
              refine L_y rfl (y_eqi rfl rfl) rfl ?_
              refine L_op rfl (op_call rfl rfl (fun a w => Try.call64 a w) rfl ?_)
              refine ((out_d h i (odd8 c)).sub (hsub_pick [2] rfl)).mono ?_
              rintro _ _ ⟨rfl, D', hT, rfl⟩
              refine ⟨_, rfl, ?_⟩
              refine L_nil ?_
              refine C_seq ?_
              refine C_region ?_
              refine L_y rfl (y_buildA0 Try.underlying38 sz_5 zl_38) rfl ?_
              refine L_y rfl (y_assign rfl) rfl ?_
              refine L_op rfl (op_store 1 0 rfl rfl rfl sz_38 rfl rfl (ones rfl) (by decide) ?_)
              skip
              refine L_nil ?_
              refine C_ret ?_
              refine B_ret (rv_tmp rfl (rv_cellA rfl ag_38 sz_38 (sees 1 0 rfl) (Nat.le_of_ble_eq_true rfl) rfl rv_nil)) ((hsub (.cons_cons _ (.cons _ (.cons _ (.refl _))))).trans (hsub_pick [0] rfl)) ?_
              exact ⟨Eq.trans (b := Ending.returned (.tuple #[.int .i64 (0), .agg (bs (secOf 0)).toArray])) (by rw [← zsec]; rfl) rfl, ⟨D', hT, rfl⟩⟩
            · replace hc5 : ¬ k = 5 := of_decide_eq_false hc5
              refine C_seq ?_
              refine C_region ?_
              refine L_y rfl (y_eqi rfl rfl) rfl ?_
              refine L_y rfl (y_assign rfl) rfl ?_
              refine L_nil ?_
              refine C_cond rfl (fun hc6 => ?_) (fun hc6 => ?_)
              · obtain rfl : k = 6 := of_decide_eq_true hc6
                refine C_seq ?_
                refine C_region ?_
                refine L_y rfl (y_move rfl) rfl ?_
                refine L_y rfl (y_fieldAddr rfl fl_36_2) rfl ?_
                refine L_y rfl (y_load rfl ag_3 (sees 1 0 rfl) rfl) rfl ?_
                refine L_y rfl (y_fieldAddr rfl fl_36_3) rfl ?_
                refine L_y rfl (y_load rfl ag_3 (sees 1 0 rfl) rfl) rfl ?_
                refine L_y rfl (y_fieldAddr rfl fl_36_4) rfl ?_
                refine L_y rfl (y_load rfl ag_5 (sees 1 0 rfl) rfl) rfl ?_
                refine L_op rfl (op_call rfl rfl (fun a w => Try.call65 a w) rfl ?_)
                refine ((rot_d h i n j c).sub (hsub_pick [2] rfl)).mono ?_
                rintro _ _ ⟨rfl, D', hT, rfl⟩
                refine ⟨_, rfl, ?_⟩
                refine L_nil ?_
                refine C_cond rfl (fun hc7 => ?_) (fun hc7 => ?_)
                · skip
                  refine C_seq ?_
                  refine C_region ?_
                  refine L_y rfl (y_buildA0 Try.underlying38 sz_5 zl_38) rfl ?_
                  refine L_y rfl (y_assign rfl) rfl ?_
                  refine L_op rfl (op_store 1 0 rfl rfl rfl sz_38 rfl rfl (ones rfl) (by decide) ?_)
                  skip
                  refine L_nil ?_
                  refine C_ret ?_
                  refine B_ret (rv_tmp rfl (rv_cellA rfl ag_38 sz_38 (sees 1 0 rfl) (Nat.le_of_ble_eq_true rfl) rfl rv_nil)) ((hsub (.cons_cons _ (.cons _ (.cons _ (.refl _))))).trans (hsub_pick [0] rfl)) ?_
                  first
                  | exact ⟨Eq.trans (b := Ending.returned (.tuple #[.int .i64 (1), .agg (bs (secOf 0)).toArray])) (by rw [← zsec]; rfl) (by simp [dE, dS, hc7]), ⟨D', hT, rfl⟩⟩
                  | exact ⟨Eq.trans (b := Ending.returned (.tuple #[.int .i64 (0), .agg (bs (secOf 0)).toArray])) (by rw [← zsec]; rfl) (by simp [dE, dS, hc7]), ⟨D', hT, rfl⟩⟩
                · skip
                  refine C_skip ?_
                  refine C_seq ?_
                  refine C_region ?_
                  refine L_y rfl (y_buildA0 Try.underlying38 sz_5 zl_38) rfl ?_
                  refine L_y rfl (y_assign rfl) rfl ?_
                  refine L_op rfl (op_store 1 0 rfl rfl rfl sz_38 rfl rfl (ones rfl) (by decide) ?_)
                  skip
                  refine L_nil ?_
                  refine C_ret ?_
                  refine B_ret (rv_tmp rfl (rv_cellA rfl ag_38 sz_38 (sees 1 0 rfl) (Nat.le_of_ble_eq_true rfl) rfl rv_nil)) ((hsub (.cons_cons _ (.cons _ (.cons _ (.refl _))))).trans (hsub_pick [0] rfl)) ?_
                  first
                  | exact ⟨Eq.trans (b := Ending.returned (.tuple #[.int .i64 (1), .agg (bs (secOf 0)).toArray])) (by rw [← zsec]; rfl) (by simp [dE, dS, hc7]), ⟨D', hT, rfl⟩⟩
                  | exact ⟨Eq.trans (b := Ending.returned (.tuple #[.int .i64 (0), .agg (bs (secOf 0)).toArray])) (by rw [← zsec]; rfl) (by simp [dE, dS, hc7]), ⟨D', hT, rfl⟩⟩
              · replace hc6 : ¬ k = 6 := of_decide_eq_false hc6
                refine C_seq ?_
                refine C_region ?_
                refine L_y rfl (y_eqi rfl rfl) rfl ?_
                refine L_y rfl (y_assign rfl) rfl ?_
                refine L_nil ?_
                refine C_cond rfl (fun hc8 => ?_) (fun hc8 => ?_)
                · obtain rfl : k = 7 := of_decide_eq_true hc8
                  refine C_region ?_
                  refine L_y rfl (y_move rfl) rfl ?_
                  refine L_y rfl (y_fieldAddr rfl fl_36_2) rfl ?_
                  refine L_y rfl (y_load rfl ag_3 (sees 1 0 rfl) rfl) rfl ?_
                  refine L_op rfl (op_call rfl rfl (fun a w => Try.call59 a w) rfl ?_)
                  refine ((fail_d h n hn).sub (hsub_pick [2] rfl)).mono ?_
                  rintro _ _ ⟨rfl, D', hT, rfl⟩
                  refine ⟨_, rfl, ?_⟩
                  refine L_nil ?_
                  refine C_seq ?_
                  refine C_region ?_
                  refine L_y rfl (y_buildA0 Try.underlying38 sz_5 zl_38) rfl ?_
                  refine L_y rfl (y_assign rfl) rfl ?_
                  refine L_op rfl (op_store 1 0 rfl rfl rfl sz_38 rfl rfl (ones rfl) (by decide) ?_)
                  skip
                  refine L_nil ?_
                  refine C_ret ?_
                  refine B_ret (rv_tmp rfl (rv_cellA rfl ag_38 sz_38 (sees 1 0 rfl) (Nat.le_of_ble_eq_true rfl) rfl rv_nil)) ((hsub (.cons_cons _ (.cons _ (.cons _ (.refl _))))).trans (hsub_pick [0] rfl)) ?_
                  exact ⟨Eq.trans (b := Ending.returned (.tuple #[.int .i64 (0), .agg (bs (secOf 0)).toArray])) (by rw [← zsec]; rfl) rfl, ⟨D', hT, rfl⟩⟩
                · replace hc8 : ¬ k = 7 := of_decide_eq_false hc8
                  refine C_seq ?_
                  refine C_region ?_
                  refine L_y rfl (y_eqi rfl rfl) rfl ?_
                  refine L_y rfl (y_assign rfl) rfl ?_
                  refine L_nil ?_
                  refine C_cond rfl (fun hc9 => ?_) (fun hc9 => ?_)
                  · obtain rfl : k = 8 := of_decide_eq_true hc9
                    refine C_region ?_
                    refine L_y rfl (y_move rfl) rfl ?_
                    refine L_op rfl (op_call rfl rfl (fun a w => Try.call66 a w) rfl ?_)
                    refine ((restart_d h).sub (hsub_pick [2] rfl)).mono ?_
                    rintro _ _ ⟨rfl, D', hT, rfl⟩
                    refine ⟨_, rfl, ?_⟩
                    refine L_nil ?_
                    refine C_seq ?_
                    refine C_region ?_
                    refine L_y rfl (y_buildA0 Try.underlying38 sz_5 zl_38) rfl ?_
                    refine L_y rfl (y_assign rfl) rfl ?_
                    refine L_op rfl (op_store 1 0 rfl rfl rfl sz_38 rfl rfl (ones rfl) (by decide) ?_)
                    skip
                    refine L_nil ?_
                    refine C_ret ?_
                    refine B_ret (rv_tmp rfl (rv_cellA rfl ag_38 sz_38 (sees 1 0 rfl) (Nat.le_of_ble_eq_true rfl) rfl rv_nil)) ((hsub (.cons_cons _ (.cons _ (.cons _ (.refl _))))).trans (hsub_pick [0] rfl)) ?_
                    exact ⟨Eq.trans (b := Ending.returned (.tuple #[.int .i64 (0), .agg (bs (secOf 0)).toArray])) (by rw [← zsec]; rfl) rfl, ⟨D', hT, rfl⟩⟩
                  · replace hc9 : ¬ k = 8 := of_decide_eq_false hc9
                    refine C_skip ?_
                    refine C_seq ?_
                    refine C_region ?_
                    refine L_y rfl (y_buildA0 Try.underlying38 sz_5 zl_38) rfl ?_
                    refine L_y rfl (y_assign rfl) rfl ?_
                    refine L_op rfl (op_store 0 0 rfl rfl rfl sz_38 rfl rfl (ones rfl) (by decide) ?_)
                    skip
                    refine L_nil ?_
                    refine C_ret ?_
                    refine B_ret (rv_tmp rfl (rv_cellA rfl ag_38 sz_38 (sees 0 0 rfl) (Nat.le_of_ble_eq_true rfl) rfl rv_nil)) ((hsub (.cons_cons _ (.cons _ (.cons _ (.refl _))))).trans (hsub_pick [2] rfl)) ?_
                    obtain ⟨z1, z2, z3⟩ := none2 (A := A) (i := i) (n := n) (j := j) (c := c) hc0 hc1 hc2 hc3 hc4 hc5 hc6 hc8 hc9
                    rw [z1, z2, z3]
                    exact ⟨Eq.trans (b := Ending.returned (.tuple #[.int .i64 (0), .agg (bs (secOf 0)).toArray])) (by rw [← zsec]; rfl) rfl, ⟨D, h, rfl⟩⟩

end Go.Proofs.Ytaeooiogjhkjfaa

/- walks (own work; the walks' lines by a program of this repo). -/
set_option linter.unusedVariables false
set_option linter.unusedSimpArgs false
set_option maxRecDepth 20000
namespace Go.Proofs.Ytaeooiogjhkjfaa
open Go.Sl
attribute [local irreducible] BodyQ WpC WpL WpS WpH OpW FnS


theorem awake08_s {w0 : World} {H : Hp} : FnS Try.prog w0 15 #[] H (fun e H' => e = .returned (.bool true) ∧ H' = H) := by
  refine FnS_intro (n := 71) (rs := [.tmp 0]) (vs := []) Try.func15 rfl Try.ntmps15 rfl rfl ?_
  refine C_seq ?_
  refine C_region ?_
  refine L_y rfl (y_assign rfl) rfl ?_
  refine L_nil ?_
  refine C_seq ?_
  refine C_region ?_
  refine L_op rfl (op_call rfl rfl (fun a w => Try.call16 a w) rfl ?_)
  refine newpower_l.mono ?_
  rintro _ _ ⟨p1, hpk1, hdv1, hP1, rfl, rfl⟩
  refine ⟨_, rfl, ?_⟩
  refine L_y rfl (y_assign rfl) rfl ?_
  refine L_nil ?_
  refine C_seq ?_
  refine C_region ?_
  refine L_y rfl (y_move rfl) rfl ?_
  refine L_op rfl (op_call rfl rfl (fun a w => Try.call17 a w) rfl ?_)
  refine ((new_l (H := (H)) (rfl : p1.b = _) hpk1 hdv1 4).sub (hsub_pick [0, 0] rfl)).mono ?_
  rintro _ _ ⟨d2, p2, hG2, pb2, ha2, hq2, rfl, rfl⟩
  have hA2 : d2.a = Ab.new 4 := by rw [ha2] <;> (rfl)
  have hP2 : p2.a = _ := hq2.trans hP1
  have hb2 : d2.b = d2.b := rfl
  refine ⟨_, rfl, ?_⟩
  refine L_y rfl (y_assign rfl) rfl ?_
  refine L_nil ?_
  refine C_seq ?_
  refine C_seq ?_
  refine C_region ?_
  refine L_y rfl (y_move rfl) rfl ?_
  refine L_y rfl (y_eqp rfl rfl Try.underlying24) rfl ?_
  refine L_y rfl (y_move rfl) rfl ?_
  refine L_y rfl (y_move rfl) rfl ?_
  refine L_y rfl (y_eqp rfl rfl Try.underlying30) rfl ?_
  refine L_y rfl (y_pick_f rfl rfl) rfl ?_
  refine L_nil ?_
  refine C_cond_f rfl ?_
  refine C_skip ?_
  refine C_seq ?_
  refine C_region ?_
  refine L_y rfl (y_move rfl) rfl ?_
  refine L_op rfl (op_call rfl rfl (fun a w => Try.call57 a w) rfl ?_)
  refine (sector_s 1).mono ?_
  rintro _ _ ⟨rfl, rfl⟩
  refine ⟨_, rfl, ?_⟩
  refine L_op rfl (op_call rfl rfl (fun a w => Try.call56 a w) rfl ?_)
  refine ((write_1 (H := (H)) hG2 hb2 0 (secOf 1) (secOf_len _) (by rw [hA2]; decide)).sub (hsub_pick [0, 0, 0, 0, 0] rfl)).mono ?_
  rintro _ _ ⟨rfl, d3, p3, hG3, hb3, ha3, hpb3, hq3, rfl⟩
  have hA3 : d3.a = (Ab.new 4).push 0 (secOf 1) := by rw [ha3, hA2, hP2] <;> (rfl)
  have hP3 : p3.a = ⟨false, 0, false⟩ := by rw [hq3, hA2, hP2] <;> (rfl)
  have pb3 := hpb3.trans pb2
  rw [show writeE d2.a p2.a 0 = 0 from by rw [hA2, hP2] <;> (rfl)]
  refine ⟨_, rfl, ?_⟩
  refine L_y rfl (y_move rfl) rfl ?_
  refine L_op rfl (op_call rfl rfl (fun a w => Try.call57 a w) rfl ?_)
  refine (sector_s 2).mono ?_
  rintro _ _ ⟨rfl, rfl⟩
  refine ⟨_, rfl, ?_⟩
  refine L_op rfl (op_call rfl rfl (fun a w => Try.call56 a w) rfl ?_)
  refine ((write_1 (H := (H)) hG3 hb3 1 (secOf 2) (secOf_len _) (by rw [hA3]; decide)).sub (hsub_pick [0, 0, 0, 0, 0] rfl)).mono ?_
  rintro _ _ ⟨rfl, d4, p4, hG4, hb4, ha4, hpb4, hq4, rfl⟩
  have hA4 : d4.a = ((Ab.new 4).push 0 (secOf 1)).push 1 (secOf 2) := by rw [ha4, hA3, hP3] <;> (rfl)
  have hP4 : p4.a = ⟨false, 0, false⟩ := by rw [hq4, hA3, hP3] <;> (rfl)
  have pb4 := hpb4.trans pb3
  rw [show writeE d3.a p3.a 1 = 0 from by rw [hA3, hP3] <;> (rfl)]
  refine ⟨_, rfl, ?_⟩
  refine L_y rfl (y_assign rfl) rfl ?_
  refine L_y rfl (y_assign rfl) rfl ?_
  refine L_nil ?_
  refine C_seq ?_
  refine C_region ?_
  refine L_y rfl (y_move rfl) rfl ?_
  refine L_op rfl (op_call rfl rfl (fun a w => Try.call58 a w) rfl ?_)
  refine ((tear_l (H := (H)) (L := []) (R := []) hG4 hb4 1 2).sub (hsub_pick [0, 0, 0, 0, 0] rfl)).mono ?_
  rintro _ _ ⟨rfl, d5, hG5, hb5, ha5, rfl⟩
  have hA5 : d5.a = (((Ab.new 4).push 0 (secOf 1)).push 1 (secOf 2)).tear 1 2 := by rw [ha5, hA4] <;> (rfl)
  refine ⟨_, rfl, ?_⟩
  refine L_nil ?_
  refine C_seq ?_
  refine C_region ?_
  refine L_y rfl (y_move rfl) rfl ?_
  refine L_op rfl (op_call rfl rfl (fun a w => Try.call59 a w) rfl ?_)
  refine ((fail_l (H := (H)) (L := []) (R := []) hG5 pb4 0 (by decide)).sub (hsub_pick [0, 0, 0, 0, 0] rfl)).mono ?_
  rintro _ _ ⟨rfl, p6, hG6, pb6, hq6, rfl⟩
  have hP6 : p6.a = ⟨false, 0, true⟩ := by rw [hq6, hP4] <;> (rfl)
  refine ⟨_, rfl, ?_⟩
  refine L_nil ?_
  refine C_seq ?_
  refine C_region ?_
  refine L_y rfl (y_move rfl) rfl ?_
  refine L_op rfl (op_call rfl rfl (fun a w => Try.call60 a w) rfl ?_)
  refine ((flush_1 (H := (H)) hG6 hb5).sub (hsub_pick [0, 0, 0, 0, 0] rfl)).mono ?_
  rintro _ _ ⟨rfl, d7, p7, hG7, hb7, ha7, hpb7, hq7, rfl⟩
  have hA7 : d7.a = ((((Ab.new 4).push 0 (secOf 1)).push 1 (secOf 2)).tear 1 2).cut := by rw [ha7, hA5, hP6] <;> (rfl)
  have hP7 : p7.a = ⟨true, 0, false⟩ := by rw [hq7, hA5, hP6] <;> (rfl)
  have pb7 := hpb7.trans pb6
  rw [show flushE d5.a p6.a = 13 from by rw [hA5, hP6] <;> (rfl)]
  refine ⟨_, rfl, ?_⟩
  refine L_y rfl (y_assign rfl) rfl ?_
  refine L_nil ?_
  refine C_seq ?_
  refine C_region ?_
  refine L_y rfl (y_move rfl) rfl ?_
  refine L_op rfl (op_call rfl rfl (fun a w => Try.call25 a w) rfl ?_)
  refine (dump_l hb7 hG7.dok.1 (sees 0 0 rfl) (sees 1 0 rfl)).mono ?_
  rintro _ _ ⟨g, hg, rfl, rfl⟩
  have hS8 : d7.a.S = awS := by rw [hA7] <;> (rfl)
  rw [show d7.a.S.length = (awS).length from by rw [hS8], hS8] at hg
  rw [show slSeg _ g (bs d7.a.S.flatten) = slSeg _ g (bs (awS).flatten) from by rw [hS8], show slV g d7.a.S.length = slV g (awS).length from by rw [hS8]]
  cases g with
  | none => exact slOk_none hg (by decide)
  | some g => ?_
  refine ⟨_, rfl, ?_⟩
  refine L_y rfl (y_assign rfl) rfl ?_
  refine L_nil ?_
  refine C_seq ?_
  refine C_regionH0 (by kernel_rfl) ?_
  refine H_y 0 rfl (by kernel_rfl) (by kernel_rfl) (by kernel_rfl) (HSub.refl _) rfl (y_move rfl) rfl ?_
  refine H_y 1 rfl (by kernel_rfl) (by kernel_rfl) (by kernel_rfl) (HSub.refl _) rfl (y_eqi rfl rfl) rfl ?_
  refine H_y 2 rfl (by kernel_rfl) (by kernel_rfl) (by kernel_rfl) (HSub.refl _) rfl (y_move rfl) rfl ?_
  refine H_y 3 rfl (by kernel_rfl) (by kernel_rfl) (by kernel_rfl) (HSub.refl _) rfl (y_move rfl) rfl ?_
  refine H_y 4 rfl (by kernel_rfl) (by kernel_rfl) (by kernel_rfl) (HSub.refl _) rfl (y_eqi rfl rfl) rfl ?_
  refine H_y 5 rfl (by kernel_rfl) (by kernel_rfl) (by kernel_rfl) (HSub.refl _) rfl (y_pick_t rfl rfl) rfl ?_
  refine H_y 6 rfl (by kernel_rfl) (by kernel_rfl) (by kernel_rfl) (HSub.refl _) rfl (y_move rfl) rfl ?_
  refine H_y 7 rfl (by kernel_rfl) (by kernel_rfl) (by kernel_rfl) (HSub.refl _) rfl (y_move rfl) rfl ?_
  refine H_y 8 rfl (by kernel_rfl) (by kernel_rfl) (by kernel_rfl) (HSub.refl _) rfl (y_eqi rfl rfl) rfl ?_
  refine H_y 9 rfl (by kernel_rfl) (by kernel_rfl) (by kernel_rfl) (HSub.refl _) rfl (y_pick_t rfl rfl) rfl ?_
  refine H_y 10 rfl (by kernel_rfl) (by kernel_rfl) (by kernel_rfl) (HSub.refl _) rfl (y_move rfl) rfl ?_
  refine H_y 11 rfl (by kernel_rfl) (by kernel_rfl) (by kernel_rfl) (HSub.refl _) rfl (y_move rfl) rfl ?_
  refine H_one 12 rfl (by kernel_rfl) rfl (op_call rfl rfl (fun a w => Try.call21 a w) rfl ?_)
  refine (on_l pb7 (sees 4 0 rfl)).mono ?_
  rintro _ _ ⟨rfl, rfl⟩
  rw [show (!p7.a.off) = false from by rw [hP7] <;> (rfl)]
  refine ⟨_, rfl, ?_⟩
  refine ⟨HSub.refl _, ?_⟩
  refine H_y 13 rfl (by kernel_rfl) (by kernel_rfl) (by kernel_rfl) (HSub.refl _) rfl (y_not rfl) rfl ?_
  refine H_y 14 rfl (by kernel_rfl) (by kernel_rfl) (by kernel_rfl) (HSub.refl _) rfl (y_pick_t rfl rfl) rfl ?_
  refine H_y 15 rfl (by kernel_rfl) (by kernel_rfl) (by kernel_rfl) (HSub.refl _) rfl (y_move rfl) rfl ?_
  refine H_y 16 rfl (by kernel_rfl) (by kernel_rfl) (by kernel_rfl) (HSub.refl _) rfl (y_move rfl) rfl ?_
  refine H_y 17 rfl (by kernel_rfl) (by kernel_rfl) (by kernel_rfl) (HSub.refl _) rfl (y_lenS rfl rfl Try.underlying43) rfl ?_
  refine H_y 18 rfl (by kernel_rfl) (by kernel_rfl) (by kernel_rfl) (HSub.refl _) rfl (y_eqi rfl rfl) rfl ?_
  refine H_y 19 rfl (by kernel_rfl) (by kernel_rfl) (by kernel_rfl) (HSub.refl _) rfl (y_pick_t rfl rfl) rfl ?_
  refine H_y 20 rfl (by kernel_rfl) (by kernel_rfl) (by kernel_rfl) (HSub.refl _) rfl (y_move rfl) rfl ?_
  refine H_y 21 rfl (by kernel_rfl) (by kernel_rfl) (by kernel_rfl) (HSub.refl _) rfl (y_move rfl) rfl ?_
  refine H_y 22 rfl (by kernel_rfl) (by kernel_rfl) (by kernel_rfl) (HSub.refl _) rfl (y_indexS rfl rfl Try.underlying43 sz_38 (by omega) (by decide) (show _ = 0 from rfl)) rfl ?_
  refine H_y 23 rfl (by kernel_rfl) (by kernel_rfl) (by kernel_rfl) (HSub.refl _) rfl (y_loadA rfl ag_38 sz_38 (sees 0 0 rfl) (by rw [List.length_append, bs_length, awS_len]; omega) (sec_at (off := 0) (i := 0) (n := 0) (A := awS) awS_ok (by simp) rfl)) rfl ?_
  refine H_one 24 rfl (by kernel_rfl) rfl (op_call rfl rfl (fun a w => Try.call57 a w) rfl ?_)
  refine (sector_s 1).mono ?_
  rintro _ _ ⟨rfl, rfl⟩
  refine ⟨_, rfl, ?_⟩
  refine ⟨HSub.refl _, ?_⟩
  refine H_y 25 rfl (by kernel_rfl) (by kernel_rfl) (by kernel_rfl) (HSub.refl _) rfl (y_eqa rfl rfl Try.underlying38 Try.underlying5 sz_5 eg_38 (secOf_len 1) (secOf_len 1)) rfl ?_
  refine H_y 26 rfl (by kernel_rfl) (by kernel_rfl) (by kernel_rfl) (HSub.refl _) rfl (y_pick_t rfl rfl) rfl ?_
  refine H_y 27 rfl (by kernel_rfl) (by kernel_rfl) (by kernel_rfl) (HSub.refl _) rfl (y_move rfl) rfl ?_
  refine H_y 28 rfl (by kernel_rfl) (by kernel_rfl) (by kernel_rfl) (HSub.refl _) rfl (y_move rfl) rfl ?_
  refine H_y 29 rfl (by kernel_rfl) (by kernel_rfl) (by kernel_rfl) (HSub.refl _) rfl (y_indexS rfl rfl Try.underlying43 sz_38 (by omega) (by decide) (show _ = 128 from rfl)) rfl ?_
  refine H_y 30 rfl (by kernel_rfl) (by kernel_rfl) (by kernel_rfl) (HSub.refl _) rfl (y_indexA rfl rfl Try.underlying38 sz_5 (by omega) (by omega) (show _ = 129 from rfl)) rfl ?_
  refine H_y 31 rfl (by kernel_rfl) (by kernel_rfl) (by kernel_rfl) (HSub.refl _) rfl (y_load rfl ag_5 (sees 0 0 rfl) (show _ = some (u8 2) from by rw [List.getElem?_append_left (by rw [bs_length, awS_len]; decide)]; rfl)) rfl ?_
  refine H_y 32 rfl (by kernel_rfl) (by kernel_rfl) (by kernel_rfl) (HSub.refl _) rfl (y_eqi rfl rfl) rfl ?_
  refine H_y 33 rfl (by kernel_rfl) (by kernel_rfl) (by kernel_rfl) (HSub.refl _) rfl (y_pick_t rfl rfl) rfl ?_
  refine H_y 34 rfl (by kernel_rfl) (by kernel_rfl) (by kernel_rfl) (HSub.refl _) rfl (y_move rfl) rfl ?_
  refine H_y 35 rfl (by kernel_rfl) (by kernel_rfl) (by kernel_rfl) (HSub.refl _) rfl (y_move rfl) rfl ?_
  refine H_y 36 rfl (by kernel_rfl) (by kernel_rfl) (by kernel_rfl) (HSub.refl _) rfl (y_indexS rfl rfl Try.underlying43 sz_38 (by omega) (by decide) (show _ = 128 from rfl)) rfl ?_
  refine H_y 37 rfl (by kernel_rfl) (by kernel_rfl) (by kernel_rfl) (HSub.refl _) rfl (y_indexA rfl rfl Try.underlying38 sz_5 (by omega) (by omega) (show _ = 130 from rfl)) rfl ?_
  refine H_y 38 rfl (by kernel_rfl) (by kernel_rfl) (by kernel_rfl) (HSub.refl _) rfl (y_load rfl ag_5 (sees 0 0 rfl) (show _ = some (u8 0) from by rw [List.getElem?_append_left (by rw [bs_length, awS_len]; decide)]; rfl)) rfl ?_
  refine H_y 39 rfl (by kernel_rfl) (by kernel_rfl) (by kernel_rfl) (HSub.refl _) rfl (y_eqi rfl rfl) rfl ?_
  refine H_y 40 rfl (by kernel_rfl) (by kernel_rfl) (by kernel_rfl) (HSub.refl _) rfl (y_pick_t rfl rfl) rfl ?_
  refine H_y 41 rfl (by kernel_rfl) (by kernel_rfl) (by kernel_rfl) (HSub.refl _) rfl (y_assign rfl) rfl ?_
  refine H_done (by kernel_rfl) ?_
  refine C_ret ?_
  refine B_ret (rv_tmp rfl rv_nil) (hsub (.cons _ (.cons _ (.cons _ (.cons _ (.cons _ (.cons _ (.refl _)))))))) ?_
  exact ⟨rfl, rfl⟩

end Go.Proofs.Ytaeooiogjhkjfaa

/- Maps of numbers to values: looked up, told anew, let go, ranged over (own work). -/
set_option linter.unusedVariables false
set_option linter.unusedSimpArgs false
namespace Go.Sl
variable {P : Program} {n : FN} {w0 : World} {Q : Post} {E E' : Env} {H H' HS : Hp} {W : World → Prop} {K : Env → Hp → Prop}
variable {d : Option Nat} {ty t t2 : Nat} {ps : String} {af : Array Edge} {g : Option (Nat × Bool)} {x y c : Operand}
/-- A map: each entry's key, value and stamp; and the clock. -/
abbrev Ge := Int × Value × Nat
def ge (ik : IntKind) (x : Ge) : MapEntry := { key := .int ik x.1, val := x.2.1, born := x.2.2 }
structure Gm where
  es : List Ge
  ck : Nat
abbrev Gm.obj (ik : IntKind) (m : Gm) : Obj := .map (m.es.map (ge ik)).toArray m.ck
abbrev Gm.new : Gm := ⟨[], 0⟩
def Gm.has (m : Gm) (k : Int) : Bool := m.es.any (·.1 == k)
def Gm.get (m : Gm) (k : Int) : Option Value := (m.es.find? (·.1 == k)).map (·.2.1)
def Gm.put (m : Gm) (k : Int) (v : Value) : Gm := if m.has k then ⟨m.es.map fun x => if x.1 = k then (k, v, x.2.2) else x, m.ck⟩ else ⟨m.es ++ [(k, v, m.ck)], m.ck + 1⟩
def Gm.del (m : Gm) (k : Int) : Gm := ⟨m.es.filter fun x => x.1 != k, m.ck⟩
/-- The entry of a key, laid if it isn't there; and its stamp. -/
def Gm.ent (m : Gm) (k : Int) (z : Value) : Gm × Nat := match m.es.find? (·.1 == k) with | some x => (m, x.2.2) | none => (⟨m.es ++ [(k, z, m.ck)], m.ck + 1⟩, m.ck)
structure Gm.ok (m : Gm) : Prop where
  keys : (m.es.map (·.1)).Nodup
  born : (m.es.map (·.2.2)).Nodup
  lt : ∀ x ∈ m.es, x.2.2 < m.ck
theorem Gm.new_ok : Gm.new.ok := ⟨by simp, by simp, by simp⟩
theorem Gm.has_get (m : Gm) (k : Int) : m.has k = (m.get k).isSome := by
  unfold Gm.has Gm.get
  rw [Option.isSome_map, Bool.eq_iff_iff, List.any_eq_true, List.find?_isSome]
theorem map_self {α : Type} {f : α → α} {l : List α} (h : ∀ x ∈ l, f x = x) : l.map f = l := (List.map_congr_left h).trans (List.map_id _)
theorem Gm.get_put (m : Gm) (k j : Int) (v : Value) : (m.put k v).get j = if j = k then some v else m.get j := by
  unfold Gm.put
  split
  · rename_i hk
    unfold Gm.has at hk
    unfold Gm.get
    simp only
    generalize m.es = l at hk
    clear m
    induction l with
    | nil => simp at hk
    | cons x l ih =>
      simp only [List.map_cons]
      by_cases e : x.1 = k
      · rw [if_pos e]
        by_cases e2 : j = k
        · subst e2; simp
        · rw [if_neg e2, List.find?_cons_of_neg (by simpa using Ne.symm e2), List.find?_cons_of_neg (by rw [e]; simpa using Ne.symm e2)]
          by_cases hl : l.any (·.1 == k) = true
          · rw [ih hl, if_neg e2]
          · have : l.map (fun x => if x.1 = k then (k, v, x.2.2) else x) = l := by
              refine map_self ?_
              intro y hy
              rw [if_neg]
              intro h
              exact hl (List.any_eq_true.2 ⟨y, hy, by simpa using h⟩)
            rw [this]
      · rw [if_neg e]
        have hl : l.any (·.1 == k) = true := by simpa [e] using hk
        by_cases e2 : x.1 = j
        · rw [List.find?_cons_of_pos (by simpa using e2), List.find?_cons_of_pos (by simpa using e2), if_neg (by rw [← e2]; exact e)]
        · rw [List.find?_cons_of_neg (by simpa using e2), List.find?_cons_of_neg (by simpa using e2), ih hl]
  · rename_i hk
    unfold Gm.get
    simp only [List.find?_append]
    by_cases e : j = k
    · subst e
      have : m.es.find? (·.1 == j) = none := by
        rw [List.find?_eq_none]
        intro y hy h
        exact hk (List.any_eq_true.2 ⟨y, hy, h⟩)
      rw [this]; simp
    · rw [if_neg e, List.find?_cons_of_neg (by simpa using Ne.symm e)]
      simp
theorem Gm.get_del (m : Gm) (k j : Int) : (m.del k).get j = if j = k then none else m.get j := by
  unfold Gm.del Gm.get
  simp only
  by_cases e : j = k
  · subst e
    rw [if_pos rfl]
    have : (m.es.filter fun x => x.1 != j).find? (·.1 == j) = none := by
      rw [List.find?_eq_none]
      intro y hy h
      rw [List.mem_filter] at hy
      simp at hy h
      exact hy.2 h
    rw [this]; rfl
  · rw [if_neg e, List.find?_filter]
    congr 2
    funext y
    by_cases h : y.1 = j
    · have : y.1 ≠ k := by rw [h]; exact e
      simp [h, e]
    · simp [h]
theorem Gm.put_ok {m : Gm} (h : m.ok) (k : Int) (v : Value) : (m.put k v).ok := by
  unfold Gm.put
  split
  · refine ⟨?_, ?_, ?_⟩
    · simp only [List.map_map]
      rw [show ((fun x : Ge => x.1) ∘ fun x : Ge => if x.1 = k then (k, v, x.2.2) else x) = (fun x : Ge => x.1) from by
        funext x; simp only [Function.comp]; split
        · rename_i e; exact e.symm
        · rfl]
      exact h.keys
    · simp only [List.map_map]
      rw [show ((fun x : Ge => x.2.2) ∘ fun x : Ge => if x.1 = k then (k, v, x.2.2) else x) = (fun x : Ge => x.2.2) from by
        funext x; simp only [Function.comp]; split <;> rfl]
      exact h.born
    · intro x hx
      simp only [List.mem_map] at hx
      obtain ⟨y, hy, rfl⟩ := hx
      have := h.lt y hy
      split <;> exact this
  · rename_i hk
    refine ⟨?_, ?_, ?_⟩
    · simp only [List.map_append, List.map_cons, List.map_nil]
      rw [List.nodup_append]
      refine ⟨h.keys, by simp, ?_⟩
      intro a ha b hb e
      simp at hb
      subst hb; subst e
      obtain ⟨y, hy, e⟩ := List.mem_map.1 ha
      exact hk (List.any_eq_true.2 ⟨y, hy, by simpa using e⟩)
    · simp only [List.map_append, List.map_cons, List.map_nil]
      rw [List.nodup_append]
      refine ⟨h.born, by simp, ?_⟩
      intro a ha b hb e
      simp at hb
      subst hb; subst e
      obtain ⟨y, hy, e⟩ := List.mem_map.1 ha
      have := h.lt y hy
      omega
    · intro x hx
      simp only [List.mem_append, List.mem_singleton] at hx
      rcases hx with hx | rfl
      · have := h.lt x hx; simp only; omega
      · simp
theorem Gm.del_ok {m : Gm} (h : m.ok) (k : Int) : (m.del k).ok :=
  ⟨((List.filter_sublist (l := m.es)).map _).nodup h.keys, ((List.filter_sublist (l := m.es)).map _).nodup h.born, fun x hx => h.lt x (List.mem_filter.1 hx).1⟩
theorem Gm.put_len (m : Gm) (k : Int) (v : Value) : (m.put k v).es.length = if (m.get k).isSome then m.es.length else m.es.length + 1 := by
  rw [← m.has_get]
  unfold Gm.put
  split <;> simp
theorem Gm.del_len {m : Gm} (h : m.ok) (k : Int) : (m.del k).es.length = if (m.get k).isSome then m.es.length - 1 else m.es.length := by
  rw [← m.has_get]
  have hn := h.keys
  unfold Gm.del Gm.has
  simp only
  generalize m.es = l at hn
  clear h m
  induction l with
  | nil => simp
  | cons x l ih =>
    simp only [List.map_cons, List.nodup_cons] at hn
    by_cases e : x.1 = k
    · have : l.filter (fun x => x.1 != k) = l := by
        rw [List.filter_eq_self]
        intro y hy
        simp only [bne_iff_ne, ne_eq]
        intro h
        exact hn.1 (List.mem_map.2 ⟨y, hy, by rw [h, e]⟩)
      simp [e, this]
    · have hi := ih hn.2
      rw [List.filter_cons_of_pos (by simpa using e), List.length_cons, hi, List.any_cons]
      simp only [show (x.1 == k) = false from by simpa using e, Bool.false_or, List.length_cons]
      split
      · rename_i h
        obtain ⟨y, hy, _⟩ := List.any_eq_true.1 h
        have := List.length_pos_of_mem hy
        omega
      · rfl
/-! ### The machine's own look -/
/-! ### Ranged over -/
def itO (bm since : Nat) (seen : Array Nat) (c0 : Nat) : Obj := .mapIter (some bm) since seen c0
/-- What is left. -/
def Gm.left (m : Gm) (seen : Array Nat) : List Ge := m.es.filter fun x => !seen.contains x.2.2
end Go.Sl

/- Numbers and where they lie, as a rising list (own work). -/
set_option linter.unusedVariables false
set_option linter.unusedSimpArgs false
namespace Go.Sl
/-- May a shape be? -/
def mayG (segs size : Int) : Bool := decide (3 ≤ segs) && decide (segs ≤ 64) && decide (1 ≤ size) && decide (size ≤ 32)
def nsec (segs size : Int) : Int := if mayG segs size then 2 + segs * size else 0
/-- The segment of a sector. -/
def ofS (segs size at_ : Int) : Option Int := if mayG segs size && decide (2 ≤ at_) && decide (at_ < 2 + segs * size) then some ((at_ - 2) / size) else none
/-- Numbers, each with its sector. -/
abbrev Xl := List (Nat × Int)
def xfind (l : Xl) (k : Int) : Option Int := (l.find? fun x => (x.1 : Int) == k).map (·.2)
def xins (l : Xl) (n : Nat) (a : Int) : Xl := match l with
  | [] => [(n, a)]
  | x :: l => if n < x.1 then (n, a) :: x :: l else x :: xins l n a
def xdel (l : Xl) (n : Nat) : Xl := l.filter fun x => x.1 != n
def Xs (l : Xl) : Prop := l.Pairwise fun x y => x.1 < y.1
def cnt18 (segs size : Int) (l : Xl) (s : Int) : Nat := (l.filter fun x => ofS segs size x.2 == some s).length
def xnums (segs size : Int) (l : Xl) (s : Int) : List Nat := (l.filter fun x => ofS segs size x.2 == some s).map (·.1)
theorem xfind_ins {l : Xl} {n : Nat} {a : Int} (h : xfind l n = none) (k : Int) : xfind (xins l n a) k = if k = n then some a else xfind l k := by
  induction l with
  | nil =>
    unfold xins xfind
    by_cases e : k = n
    · simp [e]
    · rw [if_neg e, List.find?_cons_of_neg (by simpa using Ne.symm e)]
  | cons x l ih =>
    have hx : ¬ (x.1 : Int) = n := by
      intro e
      unfold xfind at h
      rw [List.find?_cons_of_pos (by simpa using e)] at h
      cases h
    have hl : xfind l n = none := by
      unfold xfind at h ⊢
      rw [List.find?_cons_of_neg (by simpa using hx)] at h
      exact h
    unfold xins
    split
    · by_cases e : k = n
      · rw [if_pos e]; unfold xfind; rw [List.find?_cons_of_pos (by simpa using e.symm)]; rfl
      · rw [if_neg e]; unfold xfind; rw [List.find?_cons_of_neg (by simpa using Ne.symm e)]
    · have := ih hl
      unfold xfind at this ⊢
      by_cases e : (x.1 : Int) = k
      · rw [List.find?_cons_of_pos (by simpa using e), List.find?_cons_of_pos (by simpa using e), if_neg (by rw [← e]; exact hx)]
      · rw [List.find?_cons_of_neg (by simpa using e), List.find?_cons_of_neg (by simpa using e)]
        exact this
theorem xfind_del (l : Xl) (n : Nat) (k : Int) : xfind (xdel l n) k = if k = n then none else xfind l k := by
  unfold xfind xdel
  rw [List.find?_filter]
  by_cases e : k = n
  · rw [if_pos e]
    have : l.find? (fun a => decide ((a.1 != n) = true ∧ ((a.1 : Int) == k) = true)) = none := by
      rw [List.find?_eq_none]
      intro x hx
      subst e
      by_cases h : x.1 = n
      · simp [h]
      · have : ¬ (x.1 : Int) = (n : Int) := by omega
        simp [this]
    rw [this]; rfl
  · rw [if_neg e]
    congr 2
    funext x
    by_cases h : (x.1 : Int) = k
    · have : x.1 ≠ n := by omega
      simp [h, this]
    · simp [h]
theorem xins_mem {l : Xl} {n : Nat} {a : Int} {x : Nat × Int} : x ∈ xins l n a ↔ x = (n, a) ∨ x ∈ l := by
  induction l with
  | nil => simp [xins]
  | cons y l ih =>
    unfold xins
    split
    · simp
    · simp only [List.mem_cons, ih]
      constructor
      · rintro (h | h | h)
        · exact .inr (.inl h)
        · exact .inl h
        · exact .inr (.inr h)
      · rintro (h | h | h)
        · exact .inr (.inl h)
        · exact .inl h
        · exact .inr (.inr h)
theorem xins_s {l : Xl} {n : Nat} {a : Int} (h : Xs l) (hn : xfind l n = none) : Xs (xins l n a) := by
  induction l with
  | nil => simp [xins, Xs]
  | cons x l ih =>
    unfold Xs at h
    rw [List.pairwise_cons] at h
    have hx : ¬ (x.1 : Int) = n := by
      intro e
      unfold xfind at hn
      rw [List.find?_cons_of_pos (by simpa using e)] at hn
      cases hn
    have hl : xfind l n = none := by
      unfold xfind at hn ⊢
      rw [List.find?_cons_of_neg (by simpa using hx)] at hn
      exact hn
    unfold xins Xs
    split
    · rename_i hlt
      rw [List.pairwise_cons, List.pairwise_cons]
      refine ⟨?_, h.1, h.2⟩
      intro y hy
      rcases List.mem_cons.1 hy with rfl | hy
      · exact hlt
      · have := h.1 y hy; simp only at *; omega
    · rename_i hlt
      rw [List.pairwise_cons]
      refine ⟨?_, ih h.2 hl⟩
      intro y hy
      rcases xins_mem.1 hy with rfl | hy
      · simp only; omega
      · exact h.1 y hy
theorem xdel_s {l : Xl} {n : Nat} (h : Xs l) : Xs (xdel l n) := h.sublist List.filter_sublist
theorem xins_len (l : Xl) (n : Nat) (a : Int) : (xins l n a).length = l.length + 1 := by
  induction l with
  | nil => rfl
  | cons x l ih => unfold xins; split <;> simp [ih]
theorem xins_cnt (segs size : Int) (l : Xl) (n : Nat) (a s : Int) : cnt18 segs size (xins l n a) s = cnt18 segs size l s + if ofS segs size a = some s then 1 else 0 := by
  unfold cnt18
  induction l with
  | nil => unfold xins; by_cases e : ofS segs size a = some s <;> simp [e]
  | cons x l ih =>
    unfold xins
    split
    · by_cases e : ofS segs size a = some s
      · rw [List.filter_cons_of_pos (by simpa using e), if_pos e]; simp
      · rw [List.filter_cons_of_neg (by simpa using e), if_neg e]; simp
    · by_cases e : ofS segs size x.2 = some s
      · rw [List.filter_cons_of_pos (by simpa using e), List.filter_cons_of_pos (by simpa using e), List.length_cons, List.length_cons, ih]; omega
      · rw [List.filter_cons_of_neg (by simpa using e), List.filter_cons_of_neg (by simpa using e), ih]
theorem xfind_mem {l : Xl} (h : Xs l) {k : Nat} {a : Int} : xfind l k = some a ↔ (k, a) ∈ l := by
  unfold xfind
  constructor
  · intro e
    cases hf : l.find? (fun x => (x.1 : Int) == k) with
    | none => rw [hf] at e; cases e
    | some q =>
      rw [hf] at e
      have h1 := List.mem_of_find?_eq_some hf
      have h2 := List.find?_some hf
      simp at h2 e
      obtain ⟨q1, q2⟩ := q
      simp only at h2 e
      have : q1 = k := by omega
      subst this; subst e
      exact h1
  · intro hm
    induction l with
    | nil => cases hm
    | cons x l ih =>
      unfold Xs at h
      rw [List.pairwise_cons] at h
      rcases List.mem_cons.1 hm with rfl | hm
      · rw [List.find?_cons_of_pos (by simp)]; rfl
      · have := h.1 _ hm
        simp only at this
        rw [List.find?_cons_of_neg (by simp; omega)]
        exact ih h.2 hm
theorem xdel_cnt {segs size : Int} {l : Xl} (h : Xs l) {n : Nat} {a : Int} (hf : xfind l n = some a) (s : Int) : cnt18 segs size (xdel l n) s + (if ofS segs size a = some s then 1 else 0) = cnt18 segs size l s := by
  have hm := (xfind_mem h).1 hf
  clear hf
  unfold cnt18 xdel
  induction l with
  | nil => cases hm
  | cons x l ih =>
    unfold Xs at h
    rw [List.pairwise_cons] at h
    rcases List.mem_cons.1 hm with rfl | hm
    · rw [List.filter_cons_of_neg (by simp)]
      have : l.filter (fun x => x.1 != n) = l := by
        rw [List.filter_eq_self]
        intro y hy
        have := h.1 y hy
        simp only at this
        simp; omega
      rw [this]
      by_cases e : ofS segs size a = some s
      · rw [if_pos e, List.filter_cons_of_pos (by simpa using e)]; simp
      · rw [if_neg e, List.filter_cons_of_neg (by simpa using e)]; rfl
    · have hlt := h.1 _ hm
      simp only at hlt
      rw [List.filter_cons_of_pos (by simp; omega)]
      have := ih h.2 hm
      by_cases e : ofS segs size x.2 = some s
      · rw [List.filter_cons_of_pos (by simpa using e), List.filter_cons_of_pos (by simpa using e), List.length_cons, List.length_cons]; omega
      · rw [List.filter_cons_of_neg (by simpa using e), List.filter_cons_of_neg (by simpa using e)]; exact this
theorem xdel_len {l : Xl} (h : Xs l) {n : Nat} {a : Int} (hf : xfind l n = some a) : (xdel l n).length + 1 = l.length := by
  have hm := (xfind_mem h).1 hf
  clear hf
  unfold xdel
  induction l with
  | nil => cases hm
  | cons x l ih =>
    unfold Xs at h
    rw [List.pairwise_cons] at h
    rcases List.mem_cons.1 hm with rfl | hm
    · rw [List.filter_cons_of_neg (by simp)]
      have : l.filter (fun x => x.1 != n) = l := by
        rw [List.filter_eq_self]
        intro y hy
        have := h.1 y hy
        simp only at this
        simp; omega
      rw [this]; rfl
    · have hlt := h.1 _ hm
      simp only at hlt
      rw [List.filter_cons_of_pos (by simp; omega), List.length_cons, List.length_cons, ih h.2 hm]
/-- The document's deeds. -/
def xput (segs size : Int) (l : Xl) (n : Nat) (a : Int) (mv : Bool) : Xl × Int :=
  if n = 0 then (l, 1) else if ofS segs size a = none then (l, 2) else match xfind l n with
  | some _ => if mv then (xins (xdel l n) n a, 0) else (l, 5)
  | none => if mv then (l, 4) else (xins l n a, 0)
def xdrop (l : Xl) (n : Nat) : Xl × Int := match xfind l n with
  | some _ => (xdel l n, 0)
  | none => (l, 4)
/-! ### The program's own two maps -/
structure Xm (segs size : Int) (l : Xl) (A L : Gm) : Prop where
  okA : A.ok
  okL : L.ok
  get : ∀ k : Int, A.get k = (xfind l k).map (Value.int .i64)
  liv : ∀ s : Int, (L.get s).getD (.int .i64 0) = .int .i64 (cnt18 segs size l s : Int)
  len : A.es.length = l.length
  s : Xs l
  valid : ∀ x ∈ l, 0 < x.1 ∧ x.1 < 18446744073709551616 ∧ ofS segs size x.2 ≠ none
theorem Xm.new (segs size : Int) : Xm segs size [] Gm.new Gm.new :=
  ⟨Gm.new_ok, Gm.new_ok, fun k => rfl, fun s => rfl, rfl, List.Pairwise.nil, fun x hx => by cases hx⟩
section
variable {segs size : Int} {l : Xl} {A L : Gm} {n : Nat} {a b s t : Int}
theorem Xm.put (h : Xm segs size l A L) (h0 : n ≠ 0) (hM : n < 18446744073709551616) (hf : xfind l n = none) (ho : ofS segs size a = some s) :
    Xm segs size (xins l n a) (A.put n (.int .i64 a)) (L.put s (.int .i64 (cnt18 segs size l s + 1 : Int))) where
  okA := Gm.put_ok h.okA _ _
  okL := Gm.put_ok h.okL _ _
  get k := by
    rw [Gm.get_put, xfind_ins hf, h.get]
    by_cases e : k = n
    · rw [if_pos e, if_pos e]; rfl
    · rw [if_neg e, if_neg e]
  liv j := by
    rw [Gm.get_put, xins_cnt, ho]
    by_cases e : j = s
    · subst e; rw [if_pos rfl, if_pos rfl]; simp
    · rw [if_neg e, if_neg (fun hh => e (Option.some.inj hh).symm), h.liv]; simp
  len := by rw [Gm.put_len, xins_len, h.get, hf, h.len]; rfl
  s := xins_s h.s hf
  valid x hx := by
    rcases xins_mem.1 hx with rfl | hx
    · exact ⟨Nat.pos_of_ne_zero h0, hM, by rw [ho]; simp⟩
    · exact h.valid x hx
theorem Xm.drop (h : Xm segs size l A L) (hf : xfind l n = some b) (ho : ofS segs size b = some t) :
    Xm segs size (xdel l n) (A.del n) (L.put t (.int .i64 (cnt18 segs size l t - 1 : Int))) where
  okA := Gm.del_ok h.okA _
  okL := Gm.put_ok h.okL _ _
  get k := by
    rw [Gm.get_del, xfind_del, h.get]
    by_cases e : k = n
    · rw [if_pos e, if_pos e]; rfl
    · rw [if_neg e, if_neg e]
  liv j := by
    have hc := xdel_cnt (segs := segs) (size := size) h.s hf j
    rw [ho] at hc
    rw [Gm.get_put]
    by_cases e : j = t
    · subst e
      rw [if_pos rfl] at hc ⊢
      simp only [Option.getD_some]
      congr 1
      omega
    · rw [if_neg (fun hh => e (Option.some.inj hh).symm)] at hc
      rw [if_neg e, h.liv, ← hc]; simp
  len := by
    have := xdel_len h.s hf
    rw [Gm.del_len h.okA, h.get, hf, h.len]
    simp <;> omega
  s := xdel_s h.s
  valid x hx := h.valid x (List.mem_filter.1 hx).1
theorem Xm.move (h : Xm segs size l A L) (hf : xfind l n = some b) (hb : ofS segs size b = some t) (ho : ofS segs size a = some s) {c : Int} (hc : c = cnt18 segs size l s - (if s = t then 1 else 0)) :
    Xm segs size (xins (xdel l n) n a) (A.put n (.int .i64 a)) ((L.put t (.int .i64 (cnt18 segs size l t - 1 : Int))).put s (.int .i64 (c + 1))) where
  okA := Gm.put_ok h.okA _ _
  okL := Gm.put_ok (Gm.put_ok h.okL _ _) _ _
  get k := by
    rw [Gm.get_put, xfind_ins (by rw [xfind_del, if_pos rfl]), xfind_del, h.get]
    by_cases e : k = n
    · rw [if_pos e, if_pos e]; rfl
    · rw [if_neg e, if_neg e, if_neg e]
  liv j := by
    have hd := xdel_cnt (segs := segs) (size := size) h.s hf j
    rw [hb] at hd
    rw [Gm.get_put, Gm.get_put, xins_cnt, ho]
    by_cases e : j = s
    · subst e
      rw [if_pos rfl, if_pos rfl, hc]
      simp only [Option.getD_some]
      congr 1
      by_cases e2 : j = t
      · subst e2; rw [if_pos rfl] at hd; rw [if_pos rfl]; omega
      · rw [if_neg (fun hh => e2 (Option.some.inj hh).symm)] at hd; rw [if_neg e2]; omega
    · rw [if_neg e, if_neg (fun hh => e (Option.some.inj hh).symm)]
      by_cases e2 : j = t
      · subst e2
        rw [if_pos rfl] at hd ⊢
        simp only [Option.getD_some]
        congr 1
        omega
      · rw [if_neg (fun hh => e2 (Option.some.inj hh).symm)] at hd
        rw [if_neg e2, h.liv, ← hd] <;> simp
  len := by
    have := xdel_len h.s hf
    rw [Gm.put_len, xins_len, h.get, hf, h.len]
    simp <;> omega
  s := xins_s (xdel_s h.s) (by rw [xfind_del, if_pos rfl])
  valid x hx := by
    rcases xins_mem.1 hx with rfl | hx
    · have := h.valid _ ((xfind_mem h.s).1 hf)
      exact ⟨this.1, this.2.1, by rw [ho]; simp⟩
    · exact h.valid x (List.mem_filter.1 hx).1
end
/-- The entries, told as the list. -/
def xpair (x : Nat × Int) : Int × Value := ((x.1 : Int), .int .i64 x.2)
end Go.Sl

/- The program's map of numbers, in memory (own work). -/
set_option linter.unusedVariables false
set_option linter.unusedSimpArgs false
namespace Go.Sl
structure Xo where
  b : Nat
  r1 : Nat
  r2 : Nat
abbrev Xo.cells (o : Xo) (segs size : Int) : List Value := [.int .i64 segs, .int .i64 size, .map (some o.r1), .map (some o.r2)]
abbrev Xo.seg (t : Nat) (o : Xo) (segs size : Int) (A L : Gm) : List (Nat × Obj) := [(o.b, .cells (o.cells segs size).toArray t), (o.r1, A.obj .u64), (o.r2, L.obj .i64)]
abbrev shV (segs size : Int) : Value := .agg [Value.int .i64 segs, .int .i64 size].toArray
/-- Whether a shape may be is one of 0 and 2, as errors go. -/
def chkE (segs size : Int) : Int := if mayG segs size then 0 else 2
end Go.Sl

/- A row of numbers in memory, and the plain sort (own work). -/
set_option linter.unusedVariables false
set_option linter.unusedSimpArgs false
namespace Go.Sl
open Go.Sort (swp)
def us (l : List Nat) : List Value := l.map fun x : Nat => Value.int .u64 (x : Int)
def ltN (x y : Nat) : Bool := decide (x < y)
abbrev useg (t sb : Nat) (d : Array Nat) (sp : List Value) : List (Nat × Obj) := [(sb, .cells (us d.toList ++ sp).toArray t)]
/-! ### insertionSort, as the code has it -/
/-! ### bits.Len -/
section
variable {P : Program} {n : FN} {E : Env} {W : World → Prop} {ty t : Nat} {x y : Operand}
end
def len8 : ByteArray := ⟨((List.range 256).map fun i => UInt8.ofNat (Go.Sort.bitsLen i)).toArray⟩
end Go.Sl

/- The numbers of a segment, collected in whatever order (own work). -/
set_option linter.unusedVariables false
set_option linter.unusedSimpArgs false
namespace Go.Sl
def unx (p : Int × Value) : Nat × Int := (p.1.toNat, match p.2 with | .int _ v => v | _ => 0)
abbrev kv (x : Ge) : Int × Value := (x.1, x.2.1)
section
variable {v l : Xl} {A : Gm} {seen : Array Nat} {e : Ge} {q : Nat × Int}
end
/-! ### The used segment in which the fewest lie -/
def vic (p : Nat → Bool) (c : Nat → Nat) : Nat → Option Nat
  | 0 => none
  | k + 1 => match vic p c k with
    | none => if p k then some k else none
    | some b => if p k && decide (c k < c b) then some k else some b
section
variable {p : Nat → Bool} {c : Nat → Nat} {k b : Nat}
end
end Go.Sl

/- The document's list of numbers, in memory (own work). -/
set_option linter.unusedVariables false
set_option linter.unusedSimpArgs false
namespace Go.Sl
/-- Pairs of numbers. -/
def pcs (l : List (Int × Int)) : List Value := (l.map fun x => [Value.int .i64 x.1, Value.int .i64 x.2]).flatten
/-- Where each sector lies, of the first ones. -/
def lieK (z k : Nat) : List (Int × Int) := [(-1, -1), (-1, -1)] ++ (List.range k).map fun i => (((i / z : Nat) : Int), ((i % z : Nat) : Int))
/-- The document's segment of a sector. -/
def seg18 (segs size a : Int) : Int := match ofS segs size a with | some s => s | none => -1
/-- Numbers with their sectors. -/
def lcs (l : Xl) : List Value := (l.map fun x => [Value.int .u64 (x.1 : Int), Value.int .i64 x.2]).flatten
/-- Where a number stands in the list. -/
def fnd (l : Xl) (n : Nat) : Int := match l.findIdx? (fun x => x.1 == n) with | some i => (i : Int) | none => -1
/-! ### A number is laid among rising ones -/
def big (l : Xl) (n i : Nat) : Bool := (l.take i).any fun x => decide (n < x.1)
def outI (l : Xl) (n : Nat) (a : Int) (i : Nat) : Xl := if big l n i then xins (l.take i) n a else l.take i
section
variable {l : Xl} {n i : Nat} {a : Int} {x : Nat × Int}
end
end Go.Sl

/- Deeds on numbers (own work). -/
set_option linter.unusedVariables false
set_option linter.unusedSimpArgs false
namespace Go.Sl
/-- A deed: what the list is then, and the error. -/
def dd (segs size : Int) (l : Xl) (d n : Nat) (a : Int) : Xl × Int := if d % 4 = 2 then xput segs size l n a true else if d % 4 = 3 then xdrop l n else xput segs size l n a false
def bos (l : List Bool) : List Value := l.map Value.bool
end Go.Sl

/- What a plan gains (own work). -/
set_option linter.unusedVariables false
set_option linter.unusedSimpArgs false
namespace Go.Sl
/-- Does a number lie in the segment? -/
def liesIn (segs size : Int) (l : Xl) (seg : Int) (n : Nat) : Bool := match xfind l n with
  | some a => decide (ofS segs size a = some seg)
  | none => false
/-- The numbers that lie there, each once. -/
def gset (segs size : Int) (l : Xl) (seg : Int) (ns : List Nat) : List Nat := ns.foldl (fun acc n => if liesIn segs size l seg n && !acc.contains n then acc ++ [n] else acc) []
/-- A map of numbers that has just these. -/
structure Gs (acc : List Nat) (G : Gm) : Prop where
  ok : G.ok
  has : ∀ n : Nat, (G.get (n : Int)).isSome = acc.contains n
  len : G.es.length = acc.length
theorem Gs.new : Gs [] Gm.new := ⟨Gm.new_ok, fun n => rfl, rfl⟩
theorem Gs.put {acc : List Nat} {G : Gm} (h : Gs acc G) (n : Nat) (v : Value) : Gs (if acc.contains n then acc else acc ++ [n]) (G.put (n : Int) v) where
  ok := Gm.put_ok h.ok _ _
  has m := by
    rw [Gm.get_put]
    by_cases e : (m : Int) = (n : Int)
    · have : m = n := by omega
      subst this
      rw [if_pos rfl]
      cases hc : acc.contains m
      · simp
      · simp only [if_true]; rw [hc]; rfl
    · rw [if_neg e, h.has]
      have : ¬ m = n := by omega
      split
      · rfl
      · simp [this]
  len := by
    rw [Gm.put_len, h.has, h.len]
    split <;> simp
/-- Cells that are laid one by one. -/
def laidL (segs size : Int) (ll : Xl) : Xl := ll.foldl (fun x c => (xput segs size x c.1 c.2 false).1) []
end Go.Sl

/- A slice of deeds on numbers (own work). -/
set_option linter.unusedVariables false
set_option linter.unusedSimpArgs false
namespace Go.Sl
abbrev A18 := UInt8 × UInt64 × Int
abbrev a8c (x : A18) : List Value := [.int .u8 (x.1.toNat : Int), .int .u64 (x.2.1.toNat : Int), .int .i64 x.2.2]
def a8s (l : List A18) : List Value := (l.map a8c).flatten
end Go.Sl

/- What the laws of layer 42 ask (own work). -/
set_option linter.unusedVariables false
set_option linter.unusedSimpArgs false
namespace Go.Sl
theorem holds_sl2 {w0 : World} {H : Hp} {sz e s len cap : Nat} {g : Option SlG} {vs : List Value} {a : Option Addr} (he : slV g len = .slice a len cap) (hs : H[s]? = some (slSeg e g vs)) (hok : slOk sz g len vs) : Holds w0 H a vs := by
  obtain ⟨a', cap', e', h⟩ := holds_sl (w0 := w0) hs hok
  rw [he] at e'
  injection e' with e1 e2 e3
  rw [e1]
  exact h
/-- The gain. -/
def gain42 (segs size : Int) (l : Xl) (seg : Int) (ns : List Nat) : Int :=
  if mayG segs size = false ∨ seg < 0 ∨ segs ≤ seg then 0 else max (size - ((gset segs size l seg ns).length : Int)) 0
end Go.Sl

/- walks (own work; the walks' lines by a program of this repo). -/
set_option linter.unusedVariables false
set_option linter.unusedSimpArgs false
set_option maxRecDepth 20000
namespace Go.Proofs.Ytaeooiogjhkjfaa
open Go.Sl
attribute [local irreducible] BodyQ WpC WpL WpS WpH OpW FnS


theorem plays_over {w0 : World} {H : Hp} {sl : Option Addr} {cap : Nat} (a b : Int) (ds : List DeedM) (hL : Holds w0 H sl (deeds ds)) (h60 : 60 < ds.length ∨ 20 < a ∨ 20 < b) : FnS Try.prog w0 3 #[.int .i64 a, .int .i64 b, .slice sl ds.length cap] H (fun e H' => e = .returned (.bool true)) := by
  refine FnS_intro (n := 154) (rs := [.tmp 6]) (vs := [.int .i64 a, .int .i64 b, .slice sl ds.length cap]) Try.func3 rfl Try.ntmps3 rfl rfl ?_
  refine C_seq ?_
  refine C_region ?_
  refine L_y rfl (y_assign rfl) rfl ?_
  refine L_nil ?_
  refine C_seq ?_
  refine C_seq ?_
  refine C_region ?_
  refine L_op rfl (op_call rfl rfl (fun a w => Try.call15 a w) rfl ?_)
  refine awake08_s.mono ?_
  rintro _ _ ⟨rfl, e⟩
  obtain rfl := e.symm
  refine ⟨_, rfl, ?_⟩
  refine L_y rfl (y_not rfl) rfl ?_
  refine L_nil ?_
  refine C_cond_f rfl ?_
  refine C_skip ?_
  refine C_seq ?_
  refine C_seq ?_
  refine C_region ?_
  refine L_y rfl (y_move rfl) rfl ?_
  refine L_y rfl (y_lenS rfl rfl Try.underlying22) rfl ?_
  refine L_y rfl (y_gtr rfl rfl) rfl ?_
  refine L_y rfl (y_move rfl) rfl ?_
  refine L_case 23 rfl (fun hg3_4 => ?_) (fun hg3_4 => ?_)
  · skip
    refine L_skip rfl rfl ?_
    refine L_skip rfl rfl ?_
    refine L_y rfl (y_pick_t rfl rfl) rfl ?_
    refine L_y rfl (y_move rfl) rfl ?_
    refine L_skip rfl rfl ?_
    refine L_skip rfl rfl ?_
    refine L_y rfl (y_pick_t rfl rfl) rfl ?_
    refine L_nil ?_
    refine C_cond_t rfl ?_
    refine C_seq ?_
    refine C_region ?_
    refine L_y rfl (y_assign rfl) rfl ?_
    refine L_nil ?_
    refine C_ret ?_
    refine B_ret (rv_tmp rfl rv_nil) (HSub.refl _) ?_
    rfl
  · skip
    refine L_y rfl (y_move rfl) rfl ?_
    refine L_y rfl (y_gtr rfl rfl) rfl ?_
    refine L_y rfl (y_pick_f rfl rfl) rfl ?_
    refine L_y rfl (y_move rfl) rfl ?_
    refine L_case 27 rfl (fun hg3_8 => ?_) (fun hg3_8 => ?_)
    · skip
      refine L_skip rfl rfl ?_
      refine L_skip rfl rfl ?_
      refine L_y rfl (y_pick_t rfl rfl) rfl ?_
      refine L_nil ?_
      refine C_cond_t rfl ?_
      refine C_seq ?_
      refine C_region ?_
      refine L_y rfl (y_assign rfl) rfl ?_
      refine L_nil ?_
      refine C_ret ?_
      refine B_ret (rv_tmp rfl rv_nil) (HSub.refl _) ?_
      rfl
    · skip
      refine L_y rfl (y_move rfl) rfl ?_
      refine L_y rfl (y_gtr rfl rfl) rfl ?_
      refine L_y rfl (y_pick_f rfl rfl) rfl ?_
      refine L_nil ?_
      refine C_cond rfl (fun hc1 => ?_) (fun hc1 => absurd hc1 (by have h1 := of_decide_eq_false hg3_4; have h2 := of_decide_eq_false hg3_8; simp; omega))
      refine C_seq ?_
      refine C_region ?_
      refine L_y rfl (y_assign rfl) rfl ?_
      refine L_nil ?_
      refine C_ret ?_
      refine B_ret (rv_tmp rfl rv_nil) (HSub.refl _) ?_
      rfl

set_option maxHeartbeats 16000000 in

theorem plays_s {w0 : World} {H : Hp} {sl : Option Addr} {cap : Nat} (a b : Int) (ds : List DeedM) (hL : Holds w0 H sl (deeds ds)) (h60 : ¬ (60 < ds.length ∨ 20 < a ∨ 20 < b)) (hN : ∀ x ∈ ds, x.n ≤ 9223372036854775807) : FnS Try.prog w0 3 #[.int .i64 a, .int .i64 b, .slice sl ds.length cap] H (fun e H' => e = .returned (.bool true)) := by
  refine FnS_intro (n := 154) (rs := [.tmp 6]) (vs := [.int .i64 a, .int .i64 b, .slice sl ds.length cap]) Try.func3 rfl Try.ntmps3 rfl rfl ?_
  refine C_seq ?_
  refine C_region ?_
  refine L_y rfl (y_assign rfl) rfl ?_
  refine L_nil ?_
  refine C_seq ?_
  refine C_seq ?_
  refine C_region ?_
  refine L_op rfl (op_call rfl rfl (fun a w => Try.call15 a w) rfl ?_)
  refine awake08_s.mono ?_
  rintro _ _ ⟨rfl, e⟩
  obtain rfl := e.symm
  refine ⟨_, rfl, ?_⟩
  refine L_y rfl (y_not rfl) rfl ?_
  refine L_nil ?_
  refine C_cond_f rfl ?_
  refine C_skip ?_
  refine C_seq ?_
  refine C_seq ?_
  refine C_region ?_
  refine L_y rfl (y_move rfl) rfl ?_
  refine L_y rfl (y_lenS rfl rfl Try.underlying22) rfl ?_
  refine L_y rfl (y_gtr rfl rfl) rfl ?_
  refine L_y rfl (y_move rfl) rfl ?_
  refine L_case 23 rfl (fun hg3_4 => ?_) (fun hg3_4 => ?_)
  · exact absurd (of_decide_eq_true hg3_4) (by omega)
  · skip
    refine L_y rfl (y_move rfl) rfl ?_
    refine L_y rfl (y_gtr rfl rfl) rfl ?_
    refine L_y rfl (y_pick_f rfl rfl) rfl ?_
    refine L_y rfl (y_move rfl) rfl ?_
    refine L_case 27 rfl (fun hg3_8 => ?_) (fun hg3_8 => ?_)
    · exact absurd (of_decide_eq_true hg3_8) (by omega)
    · skip
      refine L_y rfl (y_move rfl) rfl ?_
      refine L_y rfl (y_gtr rfl rfl) rfl ?_
      refine L_y rfl (y_pick_f rfl rfl) rfl ?_
      refine L_nil ?_
      refine C_cond rfl (fun hc1 => absurd hc1 (by simp <;> omega)) (fun hc1 => ?_)
      refine C_skip ?_
      refine C_seq ?_
      refine C_region ?_
      refine L_op rfl (op_call rfl rfl (fun a w => Try.call16 a w) rfl ?_)
      refine newpower_l.mono ?_
      rintro _ _ ⟨p1, hpk1, hdv1, hP1, rfl, rfl⟩
      refine ⟨_, rfl, ?_⟩
      refine L_y rfl (y_build (vs := [(2, _)]) rfl pl_29 zl_29 rfl) rfl ?_
      refine L_op rfl (op_box rfl rfl rfl (fun B1 => ?_))
      refine L_y rfl (y_assign rfl) rfl ?_
      refine L_y rfl (y_assign rfl) rfl ?_
      refine L_nil ?_
      refine C_seq ?_
      refine C_region ?_
      refine L_y rfl (y_move rfl) rfl ?_
      refine L_y rfl (y_move rfl) rfl ?_
      refine L_op rfl (op_call rfl rfl (fun a w => Try.call17 a w) rfl ?_)
      refine ((new_l (H := (_ :: H)) (rfl : p1.b = _) hpk1 hdv1 a).sub (hsub_pick [1, 1] rfl)).mono ?_
      rintro _ _ ⟨d91, p91, hG91, pb91, ha91, hq91, rfl, rfl⟩
      have hA91 : d91.a = Ab.new (szOf a) := by rw [ha91] <;> (rfl)
      have hP91 : p91.a = _ := hq91.trans hP1
      have hb91 : d91.b = d91.b := rfl
      refine ⟨_, rfl, ?_⟩
      refine L_y rfl (y_move rfl) rfl ?_
      refine L_y rfl (y_move rfl) rfl ?_
      refine L_op rfl (op_call rfl rfl (fun a w => Try.call17 a w) rfl ?_)
      refine ((newtwo_d hG91 pb91 rfl b).sub (hsub_pick [0, 0, 0, 0, 0] rfl)).mono ?_
      rintro _ _ ⟨by1, D1, h1, rfl, rfl⟩
      replace h1 := h1.to (B := ⟨Ab.new (szOf a), Ab.new (szOf b), ⟨false, 0, false⟩, none⟩) (by rw [hA91, hP91] <;> (rfl))
      refine ⟨_, rfl, ?_⟩
      refine L_op rfl (op_buildSlice (vs := [(0, _), (1, _)]) rfl Try.underlying32 sz_30 zl_30 rfl (by decide) rfl rfl (fun B2 => ?_))
      refine L_y rfl (y_assign rfl) rfl ?_
      refine L_nil ?_
      refine C_seq ?_
      refine C_region ?_
      refine L_y rfl (y_move rfl) rfl ?_
      refine L_y rfl (y_move rfl) rfl ?_
      refine L_op rfl (op_call rfl rfl (fun a w => Try.call18 a w) rfl ?_)
      refine ((rnew_s (devs := []) (pg := none) (left := -1) a ⟨rfl, rfl⟩ (by decide)).sub (hsub_nil1.trans (hsub_pick [2] rfl))).mono ?_
      rintro _ _ ⟨rx, sx, g1, hg1, rfl, rfl⟩
      refine ⟨_, rfl, ?_⟩
      refine L_y rfl (y_move rfl) rfl ?_
      refine L_y rfl (y_move rfl) rfl ?_
      refine L_op rfl (op_call rfl rfl (fun a w => Try.call18 a w) rfl ?_)
      refine ((rnew_s (devs := [] ++ [rx]) (pg := g1) (left := -1) b hg1 (by simp)).sub (hsub_pick [3, 3] rfl)).mono ?_
      rintro _ _ ⟨ry, sy, g2, hg2, rfl, rfl⟩
      cases g2 with
      | none => exact absurd hg2.2 (by simp)
      | some gl => ?_
      refine ⟨_, rfl, ?_⟩
      refine L_op rfl (op_buildSlice (vs := [(0, _), (1, _)]) rfl Try.underlying27 sz_33 zl_33 rfl (by decide) rfl rfl (fun B3 => ?_))
      refine L_y rfl (y_assign rfl) rfl ?_
      refine L_nil ?_
      refine C_seq ?_
      refine C_seq ?_
      refine C_region ?_
      refine L_y rfl (y_assign rfl) rfl ?_
      refine L_nil ?_
      refine C_block ?_
      refine C_loop (ι := Duo × Da × (Rv × Rv) × Nat) (fun i => [(2, .slice sl ds.length cap), (7, ptr p1.b), (8, ptr B1), (9, .slice (some ⟨B2, 0, none⟩) 2 2), (10, .slice (some ⟨B3, 0, none⟩) 2 2), (11, .int .i64 (i.2.2.2 : Int))]) (fun i => i.1.seg dt :: [(B2, .cells [ptr d91.b, ptr by1].toArray 30)] :: [(B3, .cells [ptr rx, ptr ry].toArray 33)] :: RH rt i.2.2.1.1 i.2.2.1.2 B1 gl i.2.1.p.off (lf i.2.1.p) rx ry H) (fun i => Two dt i.1 i.2.1 d91.b by1 p1.b ∧ R8s i.2.2.1 i.2.1 rx ry ∧ Ok8 i.2.1 i.2.2.2 ∧ i.2.2.2 ≤ ds.length) (fun i => ds.length - i.2.2.2) (D1, ⟨Ab.new (szOf a), Ab.new (szOf b), ⟨false, 0, false⟩, none⟩, (⟨rx, sx, none, Ab.new (szOf a)⟩, ⟨ry, sy, none, Ab.new (szOf b)⟩), 0) ⟨h1, ⟨Rv.new_ok (szOf4 a), Rv.new_ok (szOf4 b), rfl, rfl, rfl, rfl⟩, Ok8.new _ _, Nat.zero_le _⟩ ⟨rfl, rfl, rfl, rfl, rfl, rfl, trivial⟩ ((hsub (.cons_cons _ (.cons_cons _ (.cons_cons _ (.cons_cons _ (.cons_cons _ (.cons_cons _ (.cons_cons _ (.cons_cons _ (.cons_cons _ (.cons_cons _ (.cons_cons _ (.refl _))))))))))))).trans (hsub_pick [10, 9, 0, 5, 5, 5, 0, 0, 0, 0, 0] rfl)) (fun i hi => ?_)
      obtain ⟨D, A, R, i⟩ := i
      obtain ⟨hT, hR, hO, hi⟩ := hi
      simp only at hT hR hO hi
      dsimp only
      refine C_seq ?_
      refine C_seq ?_
      refine C_region ?_
      refine L_y rfl (y_move rfl) rfl ?_
      refine L_y rfl (y_move rfl) rfl ?_
      refine L_y rfl (y_lenS rfl rfl Try.underlying22) rfl ?_
      refine L_y rfl (y_lss rfl rfl) rfl ?_
      refine L_nil ?_
      refine C_cond rfl (fun hc2 => ?_) (fun hc2 => ?_)
      · replace hc2 : i < ds.length := by have := of_decide_eq_true hc2; omega
        obtain ⟨x, hx⟩ : ∃ x, ds[i]? = some x := ⟨_, List.getElem?_eq_getElem (by omega)⟩
        have hxn := hN x (List.mem_of_getElem? hx)
        obtain ⟨b1, o1, l1, T1, fr1, rfl, hs1, hle1, hv1⟩ := hL (by rw [deeds_len]; omega)
        rw [deeds_len] at hle1
        refine C_skip ?_
        refine C_seq ?_
        refine C_block ?_
        refine C_seq ?_
        refine C_region ?_
        refine L_y rfl (y_assign rfl) rfl ?_
        refine L_nil ?_
        refine C_cutG (ι := Bool) (fun _ => True) (fun z => [(2, .slice (some ⟨b1, o1, none⟩) ds.length cap), (7, ptr p1.b), (8, ptr B1), (9, .slice (some ⟨B2, 0, none⟩) 2 2), (10, .slice (some ⟨B3, 0, none⟩) 2 2), (11, .int .i64 (i : Int)), (12, .int .i64 ((zi z : Nat) : Int))]) (fun _ => D.seg dt :: [(B2, .cells [ptr d91.b, ptr by1].toArray 30)] :: [(B3, .cells [ptr rx, ptr ry].toArray 33)] :: RH rt R.1 R.2 B1 gl A.p.off (lf A.p) rx ry H) ?_ (fun z hz => ?_)
        · refine C_seq ?_
          refine C_region ?_
          refine L_y rfl (y_move rfl) rfl ?_
          refine L_y rfl (y_move rfl) rfl ?_
          refine L_y rfl (y_indexS rfl rfl Try.underlying22 sz_36 (by omega) (by omega) (show _ = o1 + i * 5 from by simp)) rfl ?_
          refine L_y rfl (y_fieldAddr rfl fl_36_0) rfl ?_
          refine L_y rfl (y_load rfl ag_3 (hs1.up.up.up.up.up.up.up.up.up.up.up) (show _ = some (.int .i64 x.on) from deed_at (j := 0) hv1 hx (by decide))) rfl ?_
          refine L_y rfl (y_rem rfl rfl (by decide) rfl) rfl ?_
          refine L_y rfl (y_nei rfl rfl) rfl ?_
          refine L_nil ?_
          refine C_cond rfl (fun hc3 => ?_) (fun hc3 => ?_)
          · skip
            refine C_region ?_
            refine L_y rfl (y_assign rfl) rfl ?_
            refine L_nil ?_
            exact ⟨true, trivial, ⟨rfl, rfl, rfl, rfl, rfl, rfl, rfl, trivial⟩, (HSub.refl _)⟩
          · skip
            refine C_skip ?_
            exact ⟨false, trivial, ⟨rfl, rfl, rfl, rfl, rfl, rfl, rfl, trivial⟩, (HSub.refl _)⟩
        · have hz2 := zi_lt z
          obtain ⟨A', hA'⟩ : ∃ A', dA A z x.kind x.n x.m x.c = A' := ⟨_, rfl⟩
          have hO' : Ok8 A' (i + 1) := hA' ▸ hO.deed z x.kind x.n x.m x.c hxn
          have hQz : (A.dev z).Q.length < 100000 := Nat.lt_of_le_of_lt (hO.dev z).2 (by omega)
          have hsl : (dS A z x.kind x.n).length = 128 := dS_len (hT.aok z).1
          refine C_cutG (ι := Duo × Nat) (fun u => Two dt u.1 A' d91.b by1 p1.b) (fun u => [(2, .slice (some ⟨b1, o1, none⟩) ds.length cap), (7, ptr p1.b), (8, ptr B1), (9, .slice (some ⟨B2, 0, none⟩) 2 2), (10, .slice (some ⟨B3, 0, none⟩) 2 2), (11, .int .i64 (i : Int)), (12, .int .i64 ((zi z : Nat) : Int)), (13, .int .i64 (dE A z x.kind x.n x.m)), (14, ptr u.2)]) (fun u => u.1.seg dt :: [(u.2, .cells (bs (dS A z x.kind x.n)).toArray 38)] :: [(B2, .cells [ptr d91.b, ptr by1].toArray 30)] :: [(B3, .cells [ptr rx, ptr ry].toArray 33)] :: RH rt R.1 R.2 B1 gl A.p.off (lf A.p) rx ry H) ?_ (fun u hu => ?_)
          · refine C_regionH ([(B2, .cells [ptr d91.b, ptr by1].toArray 30)] :: H) (by kernel_rfl) ?_
            refine H_y 0 rfl (by kernel_rfl) (by kernel_rfl) (by kernel_rfl) (hsub (.cons _ (.cons_cons _ (.cons _ (.cons _ (.cons _ (.cons _ (.cons _ (.cons _ (.cons _ (.cons _ (.cons _ (.refl _))))))))))))) rfl (y_move rfl) rfl ?_
            refine H_y 1 rfl (by kernel_rfl) (by kernel_rfl) (by kernel_rfl) (hsub (.cons _ (.cons_cons _ (.cons _ (.cons _ (.cons _ (.cons _ (.cons _ (.cons _ (.cons _ (.cons _ (.cons _ (.refl _))))))))))))) rfl (y_move rfl) rfl ?_
            refine H_y 2 rfl (by kernel_rfl) (by kernel_rfl) (by kernel_rfl) (hsub (.cons _ (.cons_cons _ (.cons _ (.cons _ (.cons _ (.cons _ (.cons _ (.cons _ (.cons _ (.cons _ (.cons _ (.refl _))))))))))))) rfl (y_move rfl) rfl ?_
            refine H_y 3 rfl (by kernel_rfl) (by kernel_rfl) (by kernel_rfl) (hsub (.cons _ (.cons_cons _ (.cons _ (.cons _ (.cons _ (.cons _ (.cons _ (.cons _ (.cons _ (.cons _ (.cons _ (.refl _))))))))))))) rfl (y_indexS rfl rfl Try.underlying32 sz_30 (by omega) (by omega) (show _ = zi z from by simp)) rfl ?_
            refine H_y 4 rfl (by kernel_rfl) (by kernel_rfl) (by kernel_rfl) (hsub (.cons _ (.cons_cons _ (.cons _ (.cons _ (.cons _ (.cons _ (.cons _ (.cons _ (.cons _ (.cons _ (.cons _ (.refl _))))))))))))) rfl (y_load rfl ag_30 (sees 0 0 rfl) (show _ = some (ptr (sel d91.b by1 z)) from by cases z <;> rfl)) rfl ?_
            refine H_y 5 rfl (by kernel_rfl) (by kernel_rfl) (by kernel_rfl) (hsub (.cons _ (.cons_cons _ (.cons _ (.cons _ (.cons _ (.cons _ (.cons _ (.cons _ (.cons _ (.cons _ (.cons _ (.refl _))))))))))))) rfl (y_move rfl) rfl ?_
            refine H_y 6 rfl (by kernel_rfl) (by kernel_rfl) (by kernel_rfl) (hsub (.cons _ (.cons_cons _ (.cons _ (.cons _ (.cons _ (.cons _ (.cons _ (.cons _ (.cons _ (.cons _ (.cons _ (.refl _))))))))))))) rfl (y_move rfl) rfl ?_
            refine H_y 7 rfl (by kernel_rfl) (by kernel_rfl) (by kernel_rfl) (hsub (.cons _ (.cons_cons _ (.cons _ (.cons _ (.cons _ (.cons _ (.cons _ (.cons _ (.cons _ (.cons _ (.cons _ (.refl _))))))))))))) rfl (y_indexS rfl rfl Try.underlying22 sz_36 (by omega) (by omega) (show _ = o1 + i * 5 from by simp)) rfl ?_
            refine H_y 8 rfl (by kernel_rfl) (by kernel_rfl) (by kernel_rfl) (hsub (.cons _ (.cons_cons _ (.cons _ (.cons _ (.cons _ (.cons _ (.cons _ (.cons _ (.cons _ (.cons _ (.cons _ (.refl _))))))))))))) rfl (y_loadA rfl ag_36 sz_36 (hs1.up) (by omega) (show _ = [Value.int .i64 x.on, .int .i64 x.kind, .int .i64 x.n, .int .i64 x.m, .int .u8 (x.c.toNat : Int)] from deed_row hv1 hx)) rfl ?_
            refine H_two 9 13 rfl rfl (by kernel_rfl) rfl rfl ?_ ?_
            · refine op_call rfl rfl (fun a w => Try.call19 a w) rfl ?_
              refine ((do_s hT z hQz x.on x.kind x.n x.m x.c hxn).sub (hsub_pick [0] rfl)).mono ?_
              rintro _ _ ⟨rfl, D', hT', rfl⟩
              refine ⟨_, rfl, ?_⟩
              refine ⟨hsub (.cons _ (.cons_cons _ (.cons _ (.cons _ (.cons _ (.cons _ (.cons _ (.cons _ (.cons _ (.cons _ (.cons _ (.refl _)))))))))))), ?_⟩
              refine H_y 10 rfl (by kernel_rfl) (by kernel_rfl) (by kernel_rfl) (hsub (.cons _ (.cons_cons _ (.cons _ (.cons _ (.cons _ (.cons _ (.cons _ (.cons _ (.cons _ (.cons _ (.cons _ (.refl _))))))))))))) rfl (y_move rfl) rfl ?_
              refine H_y 11 rfl (by kernel_rfl) (by kernel_rfl) (by kernel_rfl) (hsub (.cons _ (.cons_cons _ (.cons _ (.cons _ (.cons _ (.cons _ (.cons _ (.cons _ (.cons _ (.cons _ (.cons _ (.refl _))))))))))))) rfl (y_extract rfl rfl) rfl ?_
              refine H_y 12 rfl (by kernel_rfl) (by kernel_rfl) (by kernel_rfl) (hsub (.cons _ (.cons_cons _ (.cons _ (.cons _ (.cons _ (.cons _ (.cons _ (.cons _ (.cons _ (.cons _ (.cons _ (.refl _))))))))))))) rfl (y_extract rfl rfl) rfl ?_
              refine H_one 13 rfl (by kernel_rfl) rfl (op_alloc zl_38 rfl (fun B4 => ?_))
              refine ⟨hsub (.cons _ (.cons _ (.cons_cons _ (.cons _ (.cons _ (.cons _ (.cons _ (.cons _ (.cons _ (.cons _ (.cons _ (.cons _ (.refl _))))))))))))), ?_⟩
              refine H_y 14 rfl (by kernel_rfl) (by kernel_rfl) (by kernel_rfl) (hsub (.cons _ (.cons _ (.cons_cons _ (.cons _ (.cons _ (.cons _ (.cons _ (.cons _ (.cons _ (.cons _ (.cons _ (.cons _ (.refl _)))))))))))))) rfl (y_assign rfl) rfl ?_
              refine H_one 15 rfl (by kernel_rfl) rfl (op_storeA 0 0 rfl rfl rfl sz_38 (by rw [bs_length, hsl]) rfl (bs_one _) rfl ?_)
              refine ⟨hsub (.cons _ (.cons _ (.cons_cons _ (.cons _ (.cons _ (.cons _ (.cons _ (.cons _ (.cons _ (.cons _ (.cons _ (.cons _ (.refl _))))))))))))), ?_⟩
              refine H_done (by kernel_rfl) ?_
              exact ⟨(D', B4), (hA' ▸ hT'), ⟨rfl, rfl, rfl, rfl, rfl, rfl, rfl, rfl, rfl, trivial⟩, ((hsub (.cons_cons _ (.cons_cons _ (.cons_cons _ (.cons_cons _ (.cons_cons _ (.cons_cons _ (.cons_cons _ (.cons_cons _ (.cons_cons _ (.cons_cons _ (.cons_cons _ (.cons_cons _ (.refl _)))))))))))))).trans (hsub_pick [1, 0, 0, 0, 0, 0, 0, 0, 0, 0, 0, 0] rfl))⟩
            · refine op_alloc zl_38 rfl (fun B5 => ?_)
              refine ⟨hsub (.cons _ (.cons _ (.cons_cons _ (.cons _ (.cons _ (.cons _ (.cons _ (.cons _ (.cons _ (.cons _ (.cons _ (.cons _ (.refl _))))))))))))), ?_⟩
              refine H_one 9 rfl (by kernel_rfl) rfl (op_call rfl rfl (fun a w => Try.call19 a w) rfl ?_)
              refine ((do_s hT z hQz x.on x.kind x.n x.m x.c hxn).sub (hsub_pick [1] rfl)).mono ?_
              rintro _ _ ⟨rfl, D', hT', rfl⟩
              refine ⟨_, rfl, ?_⟩
              refine ⟨hsub (.cons _ (.cons _ (.cons_cons _ (.cons _ (.cons _ (.cons _ (.cons _ (.cons _ (.cons _ (.cons _ (.cons _ (.cons _ (.refl _))))))))))))), ?_⟩
              refine H_y 10 rfl (by kernel_rfl) (by kernel_rfl) (by kernel_rfl) (hsub (.cons _ (.cons _ (.cons_cons _ (.cons _ (.cons _ (.cons _ (.cons _ (.cons _ (.cons _ (.cons _ (.cons _ (.cons _ (.refl _)))))))))))))) rfl (y_move rfl) rfl ?_
              refine H_y 11 rfl (by kernel_rfl) (by kernel_rfl) (by kernel_rfl) (hsub (.cons _ (.cons _ (.cons_cons _ (.cons _ (.cons _ (.cons _ (.cons _ (.cons _ (.cons _ (.cons _ (.cons _ (.cons _ (.refl _)))))))))))))) rfl (y_extract rfl rfl) rfl ?_
              refine H_y 12 rfl (by kernel_rfl) (by kernel_rfl) (by kernel_rfl) (hsub (.cons _ (.cons _ (.cons_cons _ (.cons _ (.cons _ (.cons _ (.cons _ (.cons _ (.cons _ (.cons _ (.cons _ (.cons _ (.refl _)))))))))))))) rfl (y_extract rfl rfl) rfl ?_
              refine H_y 14 rfl (by kernel_rfl) (by kernel_rfl) (by kernel_rfl) (hsub (.cons _ (.cons _ (.cons_cons _ (.cons _ (.cons _ (.cons _ (.cons _ (.cons _ (.cons _ (.cons _ (.cons _ (.cons _ (.refl _)))))))))))))) rfl (y_assign rfl) rfl ?_
              refine H_one 15 rfl (by kernel_rfl) rfl (op_storeA 1 0 rfl rfl rfl sz_38 (by rw [bs_length, hsl]) rfl (bs_one _) rfl ?_)
              refine ⟨hsub (.cons _ (.cons _ (.cons_cons _ (.cons _ (.cons _ (.cons _ (.cons _ (.cons _ (.cons _ (.cons _ (.cons _ (.cons _ (.refl _))))))))))))), ?_⟩
              refine H_done (by kernel_rfl) ?_
              exact ⟨(D', B5), (hA' ▸ hT'), ⟨rfl, rfl, rfl, rfl, rfl, rfl, rfl, rfl, rfl, trivial⟩, ((hsub (.cons_cons _ (.cons_cons _ (.cons_cons _ (.cons_cons _ (.cons_cons _ (.cons_cons _ (.cons_cons _ (.cons_cons _ (.cons_cons _ (.cons_cons _ (.cons_cons _ (.cons_cons _ (.refl _)))))))))))))).trans (hsub_pick [0, 0, 0, 0, 0, 0, 0, 0, 0, 0, 0, 0] rfl))⟩
          · obtain ⟨D2, S1⟩ := u
            simp only at hu
            dsimp only
            refine C_cutG (ι := (Rv × Rv) × Nat) (fun v => R8s v.1 A' rx ry) (fun v => [(2, .slice (some ⟨b1, o1, none⟩) ds.length cap), (7, ptr p1.b), (8, ptr B1), (9, .slice (some ⟨B2, 0, none⟩) 2 2), (10, .slice (some ⟨B3, 0, none⟩) 2 2), (11, .int .i64 (i : Int)), (13, .int .i64 (dE A z x.kind x.n x.m)), (14, ptr S1), (15, .int .i64 (dE A z x.kind x.n x.m)), (16, ptr v.2)]) (fun v => D2.seg dt :: [(S1, .cells (bs (dS A z x.kind x.n)).toArray 38)] :: [(v.2, .cells (bs (dS A z x.kind x.n)).toArray 38)] :: [(B2, .cells [ptr d91.b, ptr by1].toArray 30)] :: [(B3, .cells [ptr rx, ptr ry].toArray 33)] :: RH rt v.1.1 v.1.2 B1 gl A'.p.off (lf A'.p) rx ry H) ?_ (fun v hv => ?_)
            · refine C_regionH ([(B3, .cells [ptr rx, ptr ry].toArray 33)] :: H) (by kernel_rfl) ?_
              refine H_y 0 rfl (by kernel_rfl) (by kernel_rfl) (by kernel_rfl) (hsub (.cons _ (.cons _ (.cons _ (.cons_cons _ (.cons _ (.cons _ (.cons _ (.cons _ (.cons _ (.cons _ (.cons _ (.cons _ (.refl _)))))))))))))) rfl (y_move rfl) rfl ?_
              refine H_y 1 rfl (by kernel_rfl) (by kernel_rfl) (by kernel_rfl) (hsub (.cons _ (.cons _ (.cons _ (.cons_cons _ (.cons _ (.cons _ (.cons _ (.cons _ (.cons _ (.cons _ (.cons _ (.cons _ (.refl _)))))))))))))) rfl (y_move rfl) rfl ?_
              refine H_y 2 rfl (by kernel_rfl) (by kernel_rfl) (by kernel_rfl) (hsub (.cons _ (.cons _ (.cons _ (.cons_cons _ (.cons _ (.cons _ (.cons _ (.cons _ (.cons _ (.cons _ (.cons _ (.cons _ (.refl _)))))))))))))) rfl (y_move rfl) rfl ?_
              refine H_y 3 rfl (by kernel_rfl) (by kernel_rfl) (by kernel_rfl) (hsub (.cons _ (.cons _ (.cons _ (.cons_cons _ (.cons _ (.cons _ (.cons _ (.cons _ (.cons _ (.cons _ (.cons _ (.cons _ (.refl _)))))))))))))) rfl (y_indexS rfl rfl Try.underlying27 sz_33 (by omega) (by omega) (show _ = zi z from by simp)) rfl ?_
              refine H_y 4 rfl (by kernel_rfl) (by kernel_rfl) (by kernel_rfl) (hsub (.cons _ (.cons _ (.cons _ (.cons_cons _ (.cons _ (.cons _ (.cons _ (.cons _ (.cons _ (.cons _ (.cons _ (.cons _ (.refl _)))))))))))))) rfl (y_load rfl ag_33 (sees 0 0 rfl) (show _ = some (ptr (sel rx ry z)) from by cases z <;> rfl)) rfl ?_
              refine H_y 5 rfl (by kernel_rfl) (by kernel_rfl) (by kernel_rfl) (hsub (.cons _ (.cons _ (.cons _ (.cons_cons _ (.cons _ (.cons _ (.cons _ (.cons _ (.cons _ (.cons _ (.cons _ (.cons _ (.refl _)))))))))))))) rfl (y_move rfl) rfl ?_
              refine H_y 6 rfl (by kernel_rfl) (by kernel_rfl) (by kernel_rfl) (hsub (.cons _ (.cons _ (.cons _ (.cons_cons _ (.cons _ (.cons _ (.cons _ (.cons _ (.cons _ (.cons _ (.cons _ (.cons _ (.refl _)))))))))))))) rfl (y_move rfl) rfl ?_
              refine H_y 7 rfl (by kernel_rfl) (by kernel_rfl) (by kernel_rfl) (hsub (.cons _ (.cons _ (.cons _ (.cons_cons _ (.cons _ (.cons _ (.cons _ (.cons _ (.cons _ (.cons _ (.cons _ (.cons _ (.refl _)))))))))))))) rfl (y_indexS rfl rfl Try.underlying22 sz_36 (by omega) (by omega) (show _ = o1 + i * 5 from by simp)) rfl ?_
              refine H_y 8 rfl (by kernel_rfl) (by kernel_rfl) (by kernel_rfl) (hsub (.cons _ (.cons _ (.cons _ (.cons_cons _ (.cons _ (.cons _ (.cons _ (.cons _ (.cons _ (.cons _ (.cons _ (.cons _ (.refl _)))))))))))))) rfl (y_loadA rfl ag_36 sz_36 (hs1.up) (by omega) (show _ = [Value.int .i64 x.on, .int .i64 x.kind, .int .i64 x.n, .int .i64 x.m, .int .u8 (x.c.toNat : Int)] from deed_row hv1 hx)) rfl ?_
              refine H_two 9 13 rfl rfl (by kernel_rfl) rfl rfl ?_ ?_
              · refine op_call rfl rfl (fun a w => Try.call20 a w) rfl ?_
                refine ((told_s hR hO (by omega) z x.on x.kind x.n x.m x.c hxn).sub (hsub_pick [4, 4, 4, 4, 4, 4, 4, 4] rfl)).mono ?_
                rintro _ _ ⟨rfl, R', hR', rfl⟩
                rw [hA'] at hR' ⊢
                refine ⟨_, rfl, ?_⟩
                refine ⟨hsub (.cons _ (.cons _ (.cons _ (.cons _ (.cons _ (.cons _ (.cons _ (.cons _ (.cons _ (.cons _ (.cons _ (.cons_cons _ (.refl _))))))))))))), ?_⟩
                refine H_y 10 rfl (by kernel_rfl) (by kernel_rfl) (by kernel_rfl) (hsub (.cons _ (.cons _ (.cons _ (.cons _ (.cons _ (.cons _ (.cons _ (.cons _ (.cons _ (.cons _ (.cons _ (.cons_cons _ (.refl _)))))))))))))) rfl (y_move rfl) rfl ?_
                refine H_y 11 rfl (by kernel_rfl) (by kernel_rfl) (by kernel_rfl) (hsub (.cons _ (.cons _ (.cons _ (.cons _ (.cons _ (.cons _ (.cons _ (.cons _ (.cons _ (.cons _ (.cons _ (.cons_cons _ (.refl _)))))))))))))) rfl (y_extract rfl rfl) rfl ?_
                refine H_y 12 rfl (by kernel_rfl) (by kernel_rfl) (by kernel_rfl) (hsub (.cons _ (.cons _ (.cons _ (.cons _ (.cons _ (.cons _ (.cons _ (.cons _ (.cons _ (.cons _ (.cons _ (.cons_cons _ (.refl _)))))))))))))) rfl (y_extract rfl rfl) rfl ?_
                refine H_one 13 rfl (by kernel_rfl) rfl (op_alloc zl_38 rfl (fun B6 => ?_))
                refine ⟨hsub (.cons _ (.cons _ (.cons _ (.cons _ (.cons _ (.cons _ (.cons _ (.cons _ (.cons _ (.cons _ (.cons _ (.cons _ (.cons_cons _ (.refl _)))))))))))))), ?_⟩
                refine H_y 14 rfl (by kernel_rfl) (by kernel_rfl) (by kernel_rfl) (hsub (.cons _ (.cons _ (.cons _ (.cons _ (.cons _ (.cons _ (.cons _ (.cons _ (.cons _ (.cons _ (.cons _ (.cons _ (.cons_cons _ (.refl _))))))))))))))) rfl (y_assign rfl) rfl ?_
                refine H_one 15 rfl (by kernel_rfl) rfl (op_storeA 0 0 rfl rfl rfl sz_38 (by rw [bs_length, hsl]) rfl (bs_one _) rfl ?_)
                refine ⟨hsub (.cons _ (.cons _ (.cons _ (.cons _ (.cons _ (.cons _ (.cons _ (.cons _ (.cons _ (.cons _ (.cons _ (.cons _ (.cons_cons _ (.refl _)))))))))))))), ?_⟩
                refine H_done (by kernel_rfl) ?_
                exact ⟨(R', B6), hR', ⟨rfl, rfl, rfl, rfl, rfl, rfl, rfl, rfl, rfl, rfl, trivial⟩, ((hsub (.cons_cons _ (.cons_cons _ (.cons_cons _ (.cons_cons _ (.cons_cons _ (.cons_cons _ (.cons_cons _ (.cons_cons _ (.cons_cons _ (.cons_cons _ (.cons_cons _ (.cons_cons _ (.cons_cons _ (.refl _))))))))))))))).trans (hsub_pick [9, 9, 0, 8, 8, 0, 0, 0, 0, 0, 0, 0, 0] rfl))⟩
              · refine op_alloc zl_38 rfl (fun B7 => ?_)
                refine ⟨hsub (.cons _ (.cons _ (.cons _ (.cons _ (.cons_cons _ (.cons _ (.cons _ (.cons _ (.cons _ (.cons _ (.cons _ (.cons _ (.cons _ (.refl _)))))))))))))), ?_⟩
                refine H_one 9 rfl (by kernel_rfl) rfl (op_call rfl rfl (fun a w => Try.call20 a w) rfl ?_)
                refine ((told_s hR hO (by omega) z x.on x.kind x.n x.m x.c hxn).sub (hsub_pick [5, 5, 5, 5, 5, 5, 5, 5] rfl)).mono ?_
                rintro _ _ ⟨rfl, R', hR', rfl⟩
                rw [hA'] at hR' ⊢
                refine ⟨_, rfl, ?_⟩
                refine ⟨hsub (.cons _ (.cons _ (.cons _ (.cons _ (.cons _ (.cons _ (.cons _ (.cons _ (.cons _ (.cons _ (.cons _ (.cons _ (.cons_cons _ (.refl _)))))))))))))), ?_⟩
                refine H_y 10 rfl (by kernel_rfl) (by kernel_rfl) (by kernel_rfl) (hsub (.cons _ (.cons _ (.cons _ (.cons _ (.cons _ (.cons _ (.cons _ (.cons _ (.cons _ (.cons _ (.cons _ (.cons _ (.cons_cons _ (.refl _))))))))))))))) rfl (y_move rfl) rfl ?_
                refine H_y 11 rfl (by kernel_rfl) (by kernel_rfl) (by kernel_rfl) (hsub (.cons _ (.cons _ (.cons _ (.cons _ (.cons _ (.cons _ (.cons _ (.cons _ (.cons _ (.cons _ (.cons _ (.cons _ (.cons_cons _ (.refl _))))))))))))))) rfl (y_extract rfl rfl) rfl ?_
                refine H_y 12 rfl (by kernel_rfl) (by kernel_rfl) (by kernel_rfl) (hsub (.cons _ (.cons _ (.cons _ (.cons _ (.cons _ (.cons _ (.cons _ (.cons _ (.cons _ (.cons _ (.cons _ (.cons _ (.cons_cons _ (.refl _))))))))))))))) rfl (y_extract rfl rfl) rfl ?_
                refine H_y 14 rfl (by kernel_rfl) (by kernel_rfl) (by kernel_rfl) (hsub (.cons _ (.cons _ (.cons _ (.cons _ (.cons _ (.cons _ (.cons _ (.cons _ (.cons _ (.cons _ (.cons _ (.cons _ (.cons_cons _ (.refl _))))))))))))))) rfl (y_assign rfl) rfl ?_
                refine H_one 15 rfl (by kernel_rfl) rfl (op_storeA 8 0 rfl rfl rfl sz_38 (by rw [bs_length, hsl]) rfl (bs_one _) rfl ?_)
                refine ⟨hsub (.cons _ (.cons _ (.cons _ (.cons _ (.cons _ (.cons _ (.cons _ (.cons _ (.cons _ (.cons _ (.cons _ (.cons _ (.cons_cons _ (.refl _)))))))))))))), ?_⟩
                refine H_done (by kernel_rfl) ?_
                exact ⟨(R', B7), hR', ⟨rfl, rfl, rfl, rfl, rfl, rfl, rfl, rfl, rfl, rfl, trivial⟩, ((hsub (.cons_cons _ (.cons_cons _ (.cons_cons _ (.cons_cons _ (.cons_cons _ (.cons_cons _ (.cons_cons _ (.cons_cons _ (.cons_cons _ (.cons_cons _ (.cons_cons _ (.cons_cons _ (.cons_cons _ (.refl _))))))))))))))).trans (hsub_pick [9, 9, 8, 8, 8, 0, 0, 0, 0, 0, 0, 0, 0] rfl))⟩
            · obtain ⟨⟨⟨xb, xst, xg, xa⟩, ⟨yb, yst, yg, ya⟩⟩, S2⟩ := v
              obtain ⟨xok, yok, xa1, ya1, xb1, yb1⟩ := hv
              simp only at xok yok xa1 ya1 xb1 yb1
              subst xa1
              subst ya1
              obtain rfl : rx = xb := xb1.symm
              obtain rfl : ry = yb := yb1.symm
              dsimp only
              refine C_seq ?_
              refine C_seq ?_
              refine C_regionH0 (by kernel_rfl) ?_
              refine H_y 0 rfl (by kernel_rfl) (by kernel_rfl) (by kernel_rfl) (HSub.refl _) rfl (y_move rfl) rfl ?_
              refine H_y 1 rfl (by kernel_rfl) (by kernel_rfl) (by kernel_rfl) (HSub.refl _) rfl (y_move rfl) rfl ?_
              refine H_y 2 rfl (by kernel_rfl) (by kernel_rfl) (by kernel_rfl) (HSub.refl _) rfl (y_nei rfl rfl) rfl ?_
              refine H_y 3 rfl (by kernel_rfl) (by kernel_rfl) (by kernel_rfl) (HSub.refl _) rfl (y_move rfl) rfl ?_
              refine H_case 90 rfl (fun hg16_4 => ?_) (fun hg16_4 => ?_)
              · exact absurd hg16_4 (by simp)
              · skip
                refine H_y 4 rfl (by kernel_rfl) (by kernel_rfl) (by kernel_rfl) (HSub.refl _) rfl (y_loadA rfl ag_38 sz_38 (sees 1 0 rfl) (by rw [bs_length, hsl]; decide) (bs_whole0 _ hsl)) rfl ?_
                refine H_y 5 rfl (by kernel_rfl) (by kernel_rfl) (by kernel_rfl) (HSub.refl _) rfl (y_loadA rfl ag_38 sz_38 (sees 2 0 rfl) (by rw [bs_length, hsl]; decide) (bs_whole0 _ hsl)) rfl ?_
                refine H_y 6 rfl (by kernel_rfl) (by kernel_rfl) (by kernel_rfl) (HSub.refl _) rfl (y_nea rfl rfl Try.underlying38 Try.underlying5 sz_5 eg_38 hsl hsl) rfl ?_
                refine H_y 7 rfl (by kernel_rfl) (by kernel_rfl) (by kernel_rfl) (HSub.refl _) rfl (y_pick_f rfl rfl) rfl ?_
                refine H_y 8 rfl (by kernel_rfl) (by kernel_rfl) (by kernel_rfl) (HSub.refl _) rfl (y_move rfl) rfl ?_
                refine H_case 95 rfl (fun hg16_9 => ?_) (fun hg16_9 => ?_)
                · exact absurd hg16_9 (by simp)
                · skip
                  refine H_y 9 rfl (by kernel_rfl) (by kernel_rfl) (by kernel_rfl) (HSub.refl _) rfl (y_move rfl) rfl ?_
                  refine H_y 11 rfl (by kernel_rfl) (by kernel_rfl) (by kernel_rfl) (HSub.refl _) rfl (y_move rfl) rfl ?_
                  refine H_y 12 rfl (by kernel_rfl) (by kernel_rfl) (by kernel_rfl) (HSub.refl _) rfl (y_nilCheck rfl) rfl ?_
                  refine H_y 13 rfl (by kernel_rfl) (by kernel_rfl) (by kernel_rfl) (HSub.refl _) rfl (y_fieldAddr rfl fl_29_1) rfl ?_
                  refine H_y 14 rfl (by kernel_rfl) (by kernel_rfl) (by kernel_rfl) (HSub.refl _) rfl (y_load rfl ag_4 (sees 11 0 rfl) rfl) rfl ?_
                  refine H_one 10 rfl (by kernel_rfl) rfl (op_call rfl rfl (fun a w => Try.call21 a w) rfl ?_)
                  refine ((on_d hu).sub (hsub_pick [0] rfl)).mono ?_
                  rintro _ _ ⟨rfl, rfl⟩
                  refine ⟨_, rfl, ?_⟩
                  refine ⟨HSub.refl _, ?_⟩
                  refine H_y 15 rfl (by kernel_rfl) (by kernel_rfl) (by kernel_rfl) (HSub.refl _) rfl (y_eqb rfl rfl Try.underlying4) rfl ?_
                  refine H_y 16 rfl (by kernel_rfl) (by kernel_rfl) (by kernel_rfl) (HSub.refl _) rfl (y_pick_f rfl rfl) rfl ?_
                  refine H_done (by kernel_rfl) ?_
                  refine C_cond rfl (fun hc4 => absurd hc4 (by cases A'.p.off <;> simp)) (fun hc4 => ?_)
                  refine C_skip ?_
                  refine C_seq ?_
                  refine C_region ?_
                  refine L_y rfl (y_assign rfl) rfl ?_
                  refine L_nil ?_
                  refine C_block ?_
                  refine C_loopIn (In_round ?_)
                  refine C_seq ?_
                  refine C_seq ?_
                  refine C_region ?_
                  refine L_y rfl (y_move rfl) rfl ?_
                  refine L_y rfl (y_lss rfl rfl) rfl ?_
                  refine L_nil ?_
                  refine C_cond_t rfl ?_
                  refine C_skip ?_
                  refine C_seq ?_
                  refine C_block ?_
                  refine C_seq ?_
                  refine C_regionH0 (by kernel_rfl) ?_
                  refine H_y 0 rfl (by kernel_rfl) (by kernel_rfl) (by kernel_rfl) (HSub.refl _) rfl (y_move rfl) rfl ?_
                  refine H_y 1 rfl (by kernel_rfl) (by kernel_rfl) (by kernel_rfl) (HSub.refl _) rfl (y_move rfl) rfl ?_
                  refine H_y 2 rfl (by kernel_rfl) (by kernel_rfl) (by kernel_rfl) (HSub.refl _) rfl (y_indexS rfl rfl Try.underlying32 sz_30 (by omega) (by omega) (show _ = 0 from rfl)) rfl ?_
                  refine H_y 3 rfl (by kernel_rfl) (by kernel_rfl) (by kernel_rfl) (HSub.refl _) rfl (y_load rfl ag_30 (sees 3 0 rfl) rfl) rfl ?_
                  refine H_y 5 rfl (by kernel_rfl) (by kernel_rfl) (by kernel_rfl) (HSub.refl _) rfl (y_move rfl) rfl ?_
                  refine H_y 6 rfl (by kernel_rfl) (by kernel_rfl) (by kernel_rfl) (HSub.refl _) rfl (y_move rfl) rfl ?_
                  refine H_y 7 rfl (by kernel_rfl) (by kernel_rfl) (by kernel_rfl) (HSub.refl _) rfl (y_indexS rfl rfl Try.underlying27 sz_33 (by omega) (by omega) (show _ = 0 from rfl)) rfl ?_
                  refine H_y 8 rfl (by kernel_rfl) (by kernel_rfl) (by kernel_rfl) (HSub.refl _) rfl (y_load rfl ag_33 (sees 4 0 rfl) rfl) rfl ?_
                  refine H_y 9 rfl (by kernel_rfl) (by kernel_rfl) (by kernel_rfl) (HSub.refl _) rfl (y_nilCheck rfl) rfl ?_
                  refine H_y 10 rfl (by kernel_rfl) (by kernel_rfl) (by kernel_rfl) (HSub.refl _) rfl (y_fieldAddr rfl fl_46_0) rfl ?_
                  refine H_y 11 rfl (by kernel_rfl) (by kernel_rfl) (by kernel_rfl) (HSub.refl _) rfl (y_load rfl ag_43 (sees 5 0 rfl) rfl) rfl ?_
                  refine H_y 12 rfl (by kernel_rfl) (by kernel_rfl) (by kernel_rfl) (HSub.refl _) rfl (y_lenS rfl rfl Try.underlying43) rfl ?_
                  refine H_one 4 rfl (by kernel_rfl) rfl (op_call rfl rfl (fun a w => Try.call22 a w) rfl ?_)
                  refine ((len_d hu false).sub (hsub_pick [0] rfl)).mono ?_
                  rintro _ _ ⟨rfl, rfl⟩
                  refine ⟨_, rfl, ?_⟩
                  refine ⟨HSub.refl _, ?_⟩
                  refine H_y 13 rfl (by kernel_rfl) (by kernel_rfl) (by kernel_rfl) (HSub.refl _) rfl (y_nei rfl rfl) rfl ?_
                  refine H_y 14 rfl (by kernel_rfl) (by kernel_rfl) (by kernel_rfl) (HSub.refl _) rfl (y_move rfl) rfl ?_
                  refine H_case 122 rfl (fun hg21_15 => ?_) (fun hg21_15 => ?_)
                  · exact absurd hg21_15 (by simp [Da.dev])
                  · skip
                    refine H_y 15 rfl (by kernel_rfl) (by kernel_rfl) (by kernel_rfl) (HSub.refl _) rfl (y_move rfl) rfl ?_
                    refine H_y 16 rfl (by kernel_rfl) (by kernel_rfl) (by kernel_rfl) (HSub.refl _) rfl (y_move rfl) rfl ?_
                    refine H_y 17 rfl (by kernel_rfl) (by kernel_rfl) (by kernel_rfl) (HSub.refl _) rfl (y_indexS rfl rfl Try.underlying32 sz_30 (by omega) (by omega) (show _ = 0 from rfl)) rfl ?_
                    refine H_y 18 rfl (by kernel_rfl) (by kernel_rfl) (by kernel_rfl) (HSub.refl _) rfl (y_load rfl ag_30 (sees 3 0 rfl) rfl) rfl ?_
                    refine H_y 20 rfl (by kernel_rfl) (by kernel_rfl) (by kernel_rfl) (HSub.refl _) rfl (y_move rfl) rfl ?_
                    refine H_y 21 rfl (by kernel_rfl) (by kernel_rfl) (by kernel_rfl) (HSub.refl _) rfl (y_move rfl) rfl ?_
                    refine H_y 22 rfl (by kernel_rfl) (by kernel_rfl) (by kernel_rfl) (HSub.refl _) rfl (y_indexS rfl rfl Try.underlying27 sz_33 (by omega) (by omega) (show _ = 0 from rfl)) rfl ?_
                    refine H_y 23 rfl (by kernel_rfl) (by kernel_rfl) (by kernel_rfl) (HSub.refl _) rfl (y_load rfl ag_33 (sees 4 0 rfl) rfl) rfl ?_
                    refine H_y 24 rfl (by kernel_rfl) (by kernel_rfl) (by kernel_rfl) (HSub.refl _) rfl (y_nilCheck rfl) rfl ?_
                    refine H_y 25 rfl (by kernel_rfl) (by kernel_rfl) (by kernel_rfl) (HSub.refl _) rfl (y_fieldAddr rfl fl_46_1) rfl ?_
                    refine H_y 26 rfl (by kernel_rfl) (by kernel_rfl) (by kernel_rfl) (HSub.refl _) rfl (y_load rfl ag_44 (sees 5 0 rfl) rfl) rfl ?_
                    refine H_y 27 rfl (by kernel_rfl) (by kernel_rfl) (by kernel_rfl) (HSub.refl _) rfl (y_lenV xok.2.1 rfl rfl Try.underlying44) rfl ?_
                    refine H_one 19 rfl (by kernel_rfl) rfl (op_call rfl rfl (fun a w => Try.call23 a w) rfl ?_)
                    refine ((waiting_d hu false).sub (hsub_pick [0] rfl)).mono ?_
                    rintro _ _ ⟨rfl, rfl⟩
                    refine ⟨_, rfl, ?_⟩
                    refine ⟨HSub.refl _, ?_⟩
                    refine H_y 28 rfl (by kernel_rfl) (by kernel_rfl) (by kernel_rfl) (HSub.refl _) rfl (y_nei rfl rfl) rfl ?_
                    refine H_y 29 rfl (by kernel_rfl) (by kernel_rfl) (by kernel_rfl) (HSub.refl _) rfl (y_pick_f rfl rfl) rfl ?_
                    refine H_y 30 rfl (by kernel_rfl) (by kernel_rfl) (by kernel_rfl) (HSub.refl _) rfl (y_move rfl) rfl ?_
                    refine H_case 138 rfl (fun hg21_31 => ?_) (fun hg21_31 => ?_)
                    · exact absurd hg21_31 (by simp [Da.dev])
                    · skip
                      refine H_y 31 rfl (by kernel_rfl) (by kernel_rfl) (by kernel_rfl) (HSub.refl _) rfl (y_move rfl) rfl ?_
                      refine H_y 32 rfl (by kernel_rfl) (by kernel_rfl) (by kernel_rfl) (HSub.refl _) rfl (y_move rfl) rfl ?_
                      refine H_y 33 rfl (by kernel_rfl) (by kernel_rfl) (by kernel_rfl) (HSub.refl _) rfl (y_indexS rfl rfl Try.underlying32 sz_30 (by omega) (by omega) (show _ = 0 from rfl)) rfl ?_
                      refine H_y 34 rfl (by kernel_rfl) (by kernel_rfl) (by kernel_rfl) (HSub.refl _) rfl (y_load rfl ag_30 (sees 3 0 rfl) rfl) rfl ?_
                      refine H_y 36 rfl (by kernel_rfl) (by kernel_rfl) (by kernel_rfl) (HSub.refl _) rfl (y_move rfl) rfl ?_
                      refine H_y 37 rfl (by kernel_rfl) (by kernel_rfl) (by kernel_rfl) (HSub.refl _) rfl (y_move rfl) rfl ?_
                      refine H_y 38 rfl (by kernel_rfl) (by kernel_rfl) (by kernel_rfl) (HSub.refl _) rfl (y_indexS rfl rfl Try.underlying27 sz_33 (by omega) (by omega) (show _ = 0 from rfl)) rfl ?_
                      refine H_y 39 rfl (by kernel_rfl) (by kernel_rfl) (by kernel_rfl) (HSub.refl _) rfl (y_load rfl ag_33 (sees 4 0 rfl) rfl) rfl ?_
                      refine H_y 40 rfl (by kernel_rfl) (by kernel_rfl) (by kernel_rfl) (HSub.refl _) rfl (y_nilCheck rfl) rfl ?_
                      refine H_y 41 rfl (by kernel_rfl) (by kernel_rfl) (by kernel_rfl) (HSub.refl _) rfl (y_fieldAddr rfl fl_46_0) rfl ?_
                      refine H_y 42 rfl (by kernel_rfl) (by kernel_rfl) (by kernel_rfl) (HSub.refl _) rfl (y_load rfl ag_43 (sees 5 0 rfl) rfl) rfl ?_
                      refine H_one 35 rfl (by kernel_rfl) rfl (op_call rfl rfl (fun a w => Try.call25 a w) rfl ?_)
                      refine ((dump_d hu false).sub (hsub_pick [0] rfl)).mono ?_
                      rintro _ _ ⟨gdx, hgdx, rfl, rfl⟩
                      obtain ⟨adx, cdx, edx⟩ := slV_ex hgdx
                      rw [edx]
                      refine ⟨_, rfl, ?_⟩
                      refine ⟨hsub (.cons _ (.refl _)), ?_⟩
                      refine H_one 43 rfl (by kernel_rfl) rfl (op_call rfl rfl (fun a w => Try.call24 a w) rfl ?_)
                      refine (same_s (A := (A'.dev false).S) (B := (A'.dev false).S) xok.1.1 xok.1.1 (holds_sl2 (s := 0) edx rfl hgdx) (holds_slice (sees 7 0 rfl) (by simp [Da.dev]) (by simp [Da.dev])) (Nat.le_trans xok.1.2.1 (by decide))).mono ?_
                      rintro _ _ ⟨rfl, rfl⟩
                      rw [if_pos rfl]
                      refine ⟨_, rfl, ?_⟩
                      refine ⟨hsub (.cons _ (.refl _)), ?_⟩
                      refine H_y 44 rfl (by kernel_rfl) (by kernel_rfl) (by kernel_rfl) (hsub (.cons _ (.refl _))) rfl (y_nei rfl rfl) rfl ?_
                      refine H_y 45 rfl (by kernel_rfl) (by kernel_rfl) (by kernel_rfl) (hsub (.cons _ (.refl _))) rfl (y_pick_f rfl rfl) rfl ?_
                      refine H_done (by kernel_rfl) ?_
                      refine C_cond_f rfl ?_
                      refine C_skip ?_
                      refine C_region ?_
                      refine L_y rfl (y_move rfl) rfl ?_
                      refine L_y rfl (y_add rfl rfl (show _ = (1 : Int) from rfl)) rfl ?_
                      refine L_y rfl (y_assign rfl) rfl ?_
                      refine L_nil ?_
                      refine In_round ?_
                      refine C_seq ?_
                      refine C_seq ?_
                      refine C_region ?_
                      refine L_y rfl (y_move rfl) rfl ?_
                      refine L_y rfl (y_lss rfl rfl) rfl ?_
                      refine L_nil ?_
                      refine C_cond_t rfl ?_
                      refine C_skip ?_
                      refine C_seq ?_
                      refine C_block ?_
                      refine C_seq ?_
                      refine C_regionH0 (by kernel_rfl) ?_
                      refine H_y 0 rfl (by kernel_rfl) (by kernel_rfl) (by kernel_rfl) (HSub.refl _) rfl (y_move rfl) rfl ?_
                      refine H_y 1 rfl (by kernel_rfl) (by kernel_rfl) (by kernel_rfl) (HSub.refl _) rfl (y_move rfl) rfl ?_
                      refine H_y 2 rfl (by kernel_rfl) (by kernel_rfl) (by kernel_rfl) (HSub.refl _) rfl (y_indexS rfl rfl Try.underlying32 sz_30 (by omega) (by omega) (show _ = 1 from rfl)) rfl ?_
                      refine H_y 3 rfl (by kernel_rfl) (by kernel_rfl) (by kernel_rfl) (HSub.refl _) rfl (y_load rfl ag_30 (sees 4 0 rfl) rfl) rfl ?_
                      refine H_y 5 rfl (by kernel_rfl) (by kernel_rfl) (by kernel_rfl) (HSub.refl _) rfl (y_move rfl) rfl ?_
                      refine H_y 6 rfl (by kernel_rfl) (by kernel_rfl) (by kernel_rfl) (HSub.refl _) rfl (y_move rfl) rfl ?_
                      refine H_y 7 rfl (by kernel_rfl) (by kernel_rfl) (by kernel_rfl) (HSub.refl _) rfl (y_indexS rfl rfl Try.underlying27 sz_33 (by omega) (by omega) (show _ = 1 from rfl)) rfl ?_
                      refine H_y 8 rfl (by kernel_rfl) (by kernel_rfl) (by kernel_rfl) (HSub.refl _) rfl (y_load rfl ag_33 (sees 5 0 rfl) rfl) rfl ?_
                      refine H_y 9 rfl (by kernel_rfl) (by kernel_rfl) (by kernel_rfl) (HSub.refl _) rfl (y_nilCheck rfl) rfl ?_
                      refine H_y 10 rfl (by kernel_rfl) (by kernel_rfl) (by kernel_rfl) (HSub.refl _) rfl (y_fieldAddr rfl fl_46_0) rfl ?_
                      refine H_y 11 rfl (by kernel_rfl) (by kernel_rfl) (by kernel_rfl) (HSub.refl _) rfl (y_load rfl ag_43 (sees 9 0 rfl) rfl) rfl ?_
                      refine H_y 12 rfl (by kernel_rfl) (by kernel_rfl) (by kernel_rfl) (HSub.refl _) rfl (y_lenS rfl rfl Try.underlying43) rfl ?_
                      refine H_one 4 rfl (by kernel_rfl) rfl (op_call rfl rfl (fun a w => Try.call22 a w) rfl ?_)
                      refine ((len_d hu true).sub (hsub_pick [1] rfl)).mono ?_
                      rintro _ _ ⟨rfl, rfl⟩
                      refine ⟨_, rfl, ?_⟩
                      refine ⟨((hsub (.cons_cons _ (.cons_cons _ (.cons_cons _ (.cons_cons _ (.cons_cons _ (.cons_cons _ (.cons_cons _ (.cons_cons _ (.cons_cons _ (.cons_cons _ (.cons_cons _ (.cons_cons _ (.cons_cons _ (.cons_cons _ (.refl _)))))))))))))))).trans (hsub_pick [1, 0, 0, 0, 0, 0, 0, 0, 0, 0, 0, 0, 0, 0] rfl)), ?_⟩
                      refine H_y 13 rfl (by kernel_rfl) (by kernel_rfl) (by kernel_rfl) (((hsub (.cons_cons _ (.cons_cons _ (.cons_cons _ (.cons_cons _ (.cons_cons _ (.cons_cons _ (.cons_cons _ (.cons_cons _ (.cons_cons _ (.cons_cons _ (.cons_cons _ (.cons_cons _ (.cons_cons _ (.cons_cons _ (.refl _)))))))))))))))).trans (hsub_pick [1, 0, 0, 0, 0, 0, 0, 0, 0, 0, 0, 0, 0, 0] rfl))) rfl (y_nei rfl rfl) rfl ?_
                      refine H_y 14 rfl (by kernel_rfl) (by kernel_rfl) (by kernel_rfl) (((hsub (.cons_cons _ (.cons_cons _ (.cons_cons _ (.cons_cons _ (.cons_cons _ (.cons_cons _ (.cons_cons _ (.cons_cons _ (.cons_cons _ (.cons_cons _ (.cons_cons _ (.cons_cons _ (.cons_cons _ (.cons_cons _ (.refl _)))))))))))))))).trans (hsub_pick [1, 0, 0, 0, 0, 0, 0, 0, 0, 0, 0, 0, 0, 0] rfl))) rfl (y_move rfl) rfl ?_
                      refine H_case 122 rfl (fun hg21_15 => ?_) (fun hg21_15 => ?_)
                      · exact absurd hg21_15 (by simp [Da.dev])
                      · skip
                        refine H_y 15 rfl (by kernel_rfl) (by kernel_rfl) (by kernel_rfl) (((hsub (.cons_cons _ (.cons_cons _ (.cons_cons _ (.cons_cons _ (.cons_cons _ (.cons_cons _ (.cons_cons _ (.cons_cons _ (.cons_cons _ (.cons_cons _ (.cons_cons _ (.cons_cons _ (.cons_cons _ (.cons_cons _ (.refl _)))))))))))))))).trans (hsub_pick [1, 0, 0, 0, 0, 0, 0, 0, 0, 0, 0, 0, 0, 0] rfl))) rfl (y_move rfl) rfl ?_
                        refine H_y 16 rfl (by kernel_rfl) (by kernel_rfl) (by kernel_rfl) (((hsub (.cons_cons _ (.cons_cons _ (.cons_cons _ (.cons_cons _ (.cons_cons _ (.cons_cons _ (.cons_cons _ (.cons_cons _ (.cons_cons _ (.cons_cons _ (.cons_cons _ (.cons_cons _ (.cons_cons _ (.cons_cons _ (.refl _)))))))))))))))).trans (hsub_pick [1, 0, 0, 0, 0, 0, 0, 0, 0, 0, 0, 0, 0, 0] rfl))) rfl (y_move rfl) rfl ?_
                        refine H_y 17 rfl (by kernel_rfl) (by kernel_rfl) (by kernel_rfl) (((hsub (.cons_cons _ (.cons_cons _ (.cons_cons _ (.cons_cons _ (.cons_cons _ (.cons_cons _ (.cons_cons _ (.cons_cons _ (.cons_cons _ (.cons_cons _ (.cons_cons _ (.cons_cons _ (.cons_cons _ (.cons_cons _ (.refl _)))))))))))))))).trans (hsub_pick [1, 0, 0, 0, 0, 0, 0, 0, 0, 0, 0, 0, 0, 0] rfl))) rfl (y_indexS rfl rfl Try.underlying32 sz_30 (by omega) (by omega) (show _ = 1 from rfl)) rfl ?_
                        refine H_y 18 rfl (by kernel_rfl) (by kernel_rfl) (by kernel_rfl) (((hsub (.cons_cons _ (.cons_cons _ (.cons_cons _ (.cons_cons _ (.cons_cons _ (.cons_cons _ (.cons_cons _ (.cons_cons _ (.cons_cons _ (.cons_cons _ (.cons_cons _ (.cons_cons _ (.cons_cons _ (.cons_cons _ (.refl _)))))))))))))))).trans (hsub_pick [1, 0, 0, 0, 0, 0, 0, 0, 0, 0, 0, 0, 0, 0] rfl))) rfl (y_load rfl ag_30 (sees 4 0 rfl) rfl) rfl ?_
                        refine H_y 20 rfl (by kernel_rfl) (by kernel_rfl) (by kernel_rfl) (((hsub (.cons_cons _ (.cons_cons _ (.cons_cons _ (.cons_cons _ (.cons_cons _ (.cons_cons _ (.cons_cons _ (.cons_cons _ (.cons_cons _ (.cons_cons _ (.cons_cons _ (.cons_cons _ (.cons_cons _ (.cons_cons _ (.refl _)))))))))))))))).trans (hsub_pick [1, 0, 0, 0, 0, 0, 0, 0, 0, 0, 0, 0, 0, 0] rfl))) rfl (y_move rfl) rfl ?_
                        refine H_y 21 rfl (by kernel_rfl) (by kernel_rfl) (by kernel_rfl) (((hsub (.cons_cons _ (.cons_cons _ (.cons_cons _ (.cons_cons _ (.cons_cons _ (.cons_cons _ (.cons_cons _ (.cons_cons _ (.cons_cons _ (.cons_cons _ (.cons_cons _ (.cons_cons _ (.cons_cons _ (.cons_cons _ (.refl _)))))))))))))))).trans (hsub_pick [1, 0, 0, 0, 0, 0, 0, 0, 0, 0, 0, 0, 0, 0] rfl))) rfl (y_move rfl) rfl ?_
                        refine H_y 22 rfl (by kernel_rfl) (by kernel_rfl) (by kernel_rfl) (((hsub (.cons_cons _ (.cons_cons _ (.cons_cons _ (.cons_cons _ (.cons_cons _ (.cons_cons _ (.cons_cons _ (.cons_cons _ (.cons_cons _ (.cons_cons _ (.cons_cons _ (.cons_cons _ (.cons_cons _ (.cons_cons _ (.refl _)))))))))))))))).trans (hsub_pick [1, 0, 0, 0, 0, 0, 0, 0, 0, 0, 0, 0, 0, 0] rfl))) rfl (y_indexS rfl rfl Try.underlying27 sz_33 (by omega) (by omega) (show _ = 1 from rfl)) rfl ?_
                        refine H_y 23 rfl (by kernel_rfl) (by kernel_rfl) (by kernel_rfl) (((hsub (.cons_cons _ (.cons_cons _ (.cons_cons _ (.cons_cons _ (.cons_cons _ (.cons_cons _ (.cons_cons _ (.cons_cons _ (.cons_cons _ (.cons_cons _ (.cons_cons _ (.cons_cons _ (.cons_cons _ (.cons_cons _ (.refl _)))))))))))))))).trans (hsub_pick [1, 0, 0, 0, 0, 0, 0, 0, 0, 0, 0, 0, 0, 0] rfl))) rfl (y_load rfl ag_33 (sees 5 0 rfl) rfl) rfl ?_
                        refine H_y 24 rfl (by kernel_rfl) (by kernel_rfl) (by kernel_rfl) (((hsub (.cons_cons _ (.cons_cons _ (.cons_cons _ (.cons_cons _ (.cons_cons _ (.cons_cons _ (.cons_cons _ (.cons_cons _ (.cons_cons _ (.cons_cons _ (.cons_cons _ (.cons_cons _ (.cons_cons _ (.cons_cons _ (.refl _)))))))))))))))).trans (hsub_pick [1, 0, 0, 0, 0, 0, 0, 0, 0, 0, 0, 0, 0, 0] rfl))) rfl (y_nilCheck rfl) rfl ?_
                        refine H_y 25 rfl (by kernel_rfl) (by kernel_rfl) (by kernel_rfl) (((hsub (.cons_cons _ (.cons_cons _ (.cons_cons _ (.cons_cons _ (.cons_cons _ (.cons_cons _ (.cons_cons _ (.cons_cons _ (.cons_cons _ (.cons_cons _ (.cons_cons _ (.cons_cons _ (.cons_cons _ (.cons_cons _ (.refl _)))))))))))))))).trans (hsub_pick [1, 0, 0, 0, 0, 0, 0, 0, 0, 0, 0, 0, 0, 0] rfl))) rfl (y_fieldAddr rfl fl_46_1) rfl ?_
                        refine H_y 26 rfl (by kernel_rfl) (by kernel_rfl) (by kernel_rfl) (((hsub (.cons_cons _ (.cons_cons _ (.cons_cons _ (.cons_cons _ (.cons_cons _ (.cons_cons _ (.cons_cons _ (.cons_cons _ (.cons_cons _ (.cons_cons _ (.cons_cons _ (.cons_cons _ (.cons_cons _ (.cons_cons _ (.refl _)))))))))))))))).trans (hsub_pick [1, 0, 0, 0, 0, 0, 0, 0, 0, 0, 0, 0, 0, 0] rfl))) rfl (y_load rfl ag_44 (sees 9 0 rfl) rfl) rfl ?_
                        refine H_y 27 rfl (by kernel_rfl) (by kernel_rfl) (by kernel_rfl) (((hsub (.cons_cons _ (.cons_cons _ (.cons_cons _ (.cons_cons _ (.cons_cons _ (.cons_cons _ (.cons_cons _ (.cons_cons _ (.cons_cons _ (.cons_cons _ (.cons_cons _ (.cons_cons _ (.cons_cons _ (.cons_cons _ (.refl _)))))))))))))))).trans (hsub_pick [1, 0, 0, 0, 0, 0, 0, 0, 0, 0, 0, 0, 0, 0] rfl))) rfl (y_lenV yok.2.1 rfl rfl Try.underlying44) rfl ?_
                        refine H_one 19 rfl (by kernel_rfl) rfl (op_call rfl rfl (fun a w => Try.call23 a w) rfl ?_)
                        refine ((waiting_d hu true).sub (hsub_pick [0] rfl)).mono ?_
                        rintro _ _ ⟨rfl, rfl⟩
                        refine ⟨_, rfl, ?_⟩
                        refine ⟨((hsub (.cons_cons _ (.cons_cons _ (.cons_cons _ (.cons_cons _ (.cons_cons _ (.cons_cons _ (.cons_cons _ (.cons_cons _ (.cons_cons _ (.cons_cons _ (.cons_cons _ (.cons_cons _ (.cons_cons _ (.cons_cons _ (.refl _)))))))))))))))).trans (hsub_pick [1, 0, 0, 0, 0, 0, 0, 0, 0, 0, 0, 0, 0, 0] rfl)), ?_⟩
                        refine H_y 28 rfl (by kernel_rfl) (by kernel_rfl) (by kernel_rfl) (((hsub (.cons_cons _ (.cons_cons _ (.cons_cons _ (.cons_cons _ (.cons_cons _ (.cons_cons _ (.cons_cons _ (.cons_cons _ (.cons_cons _ (.cons_cons _ (.cons_cons _ (.cons_cons _ (.cons_cons _ (.cons_cons _ (.refl _)))))))))))))))).trans (hsub_pick [1, 0, 0, 0, 0, 0, 0, 0, 0, 0, 0, 0, 0, 0] rfl))) rfl (y_nei rfl rfl) rfl ?_
                        refine H_y 29 rfl (by kernel_rfl) (by kernel_rfl) (by kernel_rfl) (((hsub (.cons_cons _ (.cons_cons _ (.cons_cons _ (.cons_cons _ (.cons_cons _ (.cons_cons _ (.cons_cons _ (.cons_cons _ (.cons_cons _ (.cons_cons _ (.cons_cons _ (.cons_cons _ (.cons_cons _ (.cons_cons _ (.refl _)))))))))))))))).trans (hsub_pick [1, 0, 0, 0, 0, 0, 0, 0, 0, 0, 0, 0, 0, 0] rfl))) rfl (y_pick_f rfl rfl) rfl ?_
                        refine H_y 30 rfl (by kernel_rfl) (by kernel_rfl) (by kernel_rfl) (((hsub (.cons_cons _ (.cons_cons _ (.cons_cons _ (.cons_cons _ (.cons_cons _ (.cons_cons _ (.cons_cons _ (.cons_cons _ (.cons_cons _ (.cons_cons _ (.cons_cons _ (.cons_cons _ (.cons_cons _ (.cons_cons _ (.refl _)))))))))))))))).trans (hsub_pick [1, 0, 0, 0, 0, 0, 0, 0, 0, 0, 0, 0, 0, 0] rfl))) rfl (y_move rfl) rfl ?_
                        refine H_case 138 rfl (fun hg21_31 => ?_) (fun hg21_31 => ?_)
                        · exact absurd hg21_31 (by simp [Da.dev])
                        · skip
                          refine H_y 31 rfl (by kernel_rfl) (by kernel_rfl) (by kernel_rfl) (((hsub (.cons_cons _ (.cons_cons _ (.cons_cons _ (.cons_cons _ (.cons_cons _ (.cons_cons _ (.cons_cons _ (.cons_cons _ (.cons_cons _ (.cons_cons _ (.cons_cons _ (.cons_cons _ (.cons_cons _ (.cons_cons _ (.refl _)))))))))))))))).trans (hsub_pick [1, 0, 0, 0, 0, 0, 0, 0, 0, 0, 0, 0, 0, 0] rfl))) rfl (y_move rfl) rfl ?_
                          refine H_y 32 rfl (by kernel_rfl) (by kernel_rfl) (by kernel_rfl) (((hsub (.cons_cons _ (.cons_cons _ (.cons_cons _ (.cons_cons _ (.cons_cons _ (.cons_cons _ (.cons_cons _ (.cons_cons _ (.cons_cons _ (.cons_cons _ (.cons_cons _ (.cons_cons _ (.cons_cons _ (.cons_cons _ (.refl _)))))))))))))))).trans (hsub_pick [1, 0, 0, 0, 0, 0, 0, 0, 0, 0, 0, 0, 0, 0] rfl))) rfl (y_move rfl) rfl ?_
                          refine H_y 33 rfl (by kernel_rfl) (by kernel_rfl) (by kernel_rfl) (((hsub (.cons_cons _ (.cons_cons _ (.cons_cons _ (.cons_cons _ (.cons_cons _ (.cons_cons _ (.cons_cons _ (.cons_cons _ (.cons_cons _ (.cons_cons _ (.cons_cons _ (.cons_cons _ (.cons_cons _ (.cons_cons _ (.refl _)))))))))))))))).trans (hsub_pick [1, 0, 0, 0, 0, 0, 0, 0, 0, 0, 0, 0, 0, 0] rfl))) rfl (y_indexS rfl rfl Try.underlying32 sz_30 (by omega) (by omega) (show _ = 1 from rfl)) rfl ?_
                          refine H_y 34 rfl (by kernel_rfl) (by kernel_rfl) (by kernel_rfl) (((hsub (.cons_cons _ (.cons_cons _ (.cons_cons _ (.cons_cons _ (.cons_cons _ (.cons_cons _ (.cons_cons _ (.cons_cons _ (.cons_cons _ (.cons_cons _ (.cons_cons _ (.cons_cons _ (.cons_cons _ (.cons_cons _ (.refl _)))))))))))))))).trans (hsub_pick [1, 0, 0, 0, 0, 0, 0, 0, 0, 0, 0, 0, 0, 0] rfl))) rfl (y_load rfl ag_30 (sees 4 0 rfl) rfl) rfl ?_
                          refine H_y 36 rfl (by kernel_rfl) (by kernel_rfl) (by kernel_rfl) (((hsub (.cons_cons _ (.cons_cons _ (.cons_cons _ (.cons_cons _ (.cons_cons _ (.cons_cons _ (.cons_cons _ (.cons_cons _ (.cons_cons _ (.cons_cons _ (.cons_cons _ (.cons_cons _ (.cons_cons _ (.cons_cons _ (.refl _)))))))))))))))).trans (hsub_pick [1, 0, 0, 0, 0, 0, 0, 0, 0, 0, 0, 0, 0, 0] rfl))) rfl (y_move rfl) rfl ?_
                          refine H_y 37 rfl (by kernel_rfl) (by kernel_rfl) (by kernel_rfl) (((hsub (.cons_cons _ (.cons_cons _ (.cons_cons _ (.cons_cons _ (.cons_cons _ (.cons_cons _ (.cons_cons _ (.cons_cons _ (.cons_cons _ (.cons_cons _ (.cons_cons _ (.cons_cons _ (.cons_cons _ (.cons_cons _ (.refl _)))))))))))))))).trans (hsub_pick [1, 0, 0, 0, 0, 0, 0, 0, 0, 0, 0, 0, 0, 0] rfl))) rfl (y_move rfl) rfl ?_
                          refine H_y 38 rfl (by kernel_rfl) (by kernel_rfl) (by kernel_rfl) (((hsub (.cons_cons _ (.cons_cons _ (.cons_cons _ (.cons_cons _ (.cons_cons _ (.cons_cons _ (.cons_cons _ (.cons_cons _ (.cons_cons _ (.cons_cons _ (.cons_cons _ (.cons_cons _ (.cons_cons _ (.cons_cons _ (.refl _)))))))))))))))).trans (hsub_pick [1, 0, 0, 0, 0, 0, 0, 0, 0, 0, 0, 0, 0, 0] rfl))) rfl (y_indexS rfl rfl Try.underlying27 sz_33 (by omega) (by omega) (show _ = 1 from rfl)) rfl ?_
                          refine H_y 39 rfl (by kernel_rfl) (by kernel_rfl) (by kernel_rfl) (((hsub (.cons_cons _ (.cons_cons _ (.cons_cons _ (.cons_cons _ (.cons_cons _ (.cons_cons _ (.cons_cons _ (.cons_cons _ (.cons_cons _ (.cons_cons _ (.cons_cons _ (.cons_cons _ (.cons_cons _ (.cons_cons _ (.refl _)))))))))))))))).trans (hsub_pick [1, 0, 0, 0, 0, 0, 0, 0, 0, 0, 0, 0, 0, 0] rfl))) rfl (y_load rfl ag_33 (sees 5 0 rfl) rfl) rfl ?_
                          refine H_y 40 rfl (by kernel_rfl) (by kernel_rfl) (by kernel_rfl) (((hsub (.cons_cons _ (.cons_cons _ (.cons_cons _ (.cons_cons _ (.cons_cons _ (.cons_cons _ (.cons_cons _ (.cons_cons _ (.cons_cons _ (.cons_cons _ (.cons_cons _ (.cons_cons _ (.cons_cons _ (.cons_cons _ (.refl _)))))))))))))))).trans (hsub_pick [1, 0, 0, 0, 0, 0, 0, 0, 0, 0, 0, 0, 0, 0] rfl))) rfl (y_nilCheck rfl) rfl ?_
                          refine H_y 41 rfl (by kernel_rfl) (by kernel_rfl) (by kernel_rfl) (((hsub (.cons_cons _ (.cons_cons _ (.cons_cons _ (.cons_cons _ (.cons_cons _ (.cons_cons _ (.cons_cons _ (.cons_cons _ (.cons_cons _ (.cons_cons _ (.cons_cons _ (.cons_cons _ (.cons_cons _ (.cons_cons _ (.refl _)))))))))))))))).trans (hsub_pick [1, 0, 0, 0, 0, 0, 0, 0, 0, 0, 0, 0, 0, 0] rfl))) rfl (y_fieldAddr rfl fl_46_0) rfl ?_
                          refine H_y 42 rfl (by kernel_rfl) (by kernel_rfl) (by kernel_rfl) (((hsub (.cons_cons _ (.cons_cons _ (.cons_cons _ (.cons_cons _ (.cons_cons _ (.cons_cons _ (.cons_cons _ (.cons_cons _ (.cons_cons _ (.cons_cons _ (.cons_cons _ (.cons_cons _ (.cons_cons _ (.cons_cons _ (.refl _)))))))))))))))).trans (hsub_pick [1, 0, 0, 0, 0, 0, 0, 0, 0, 0, 0, 0, 0, 0] rfl))) rfl (y_load rfl ag_43 (sees 9 0 rfl) rfl) rfl ?_
                          refine H_one 35 rfl (by kernel_rfl) rfl (op_call rfl rfl (fun a w => Try.call25 a w) rfl ?_)
                          refine ((dump_d hu true).sub (hsub_pick [0] rfl)).mono ?_
                          rintro _ _ ⟨gdy, hgdy, rfl, rfl⟩
                          obtain ⟨ady, cdy, edy⟩ := slV_ex hgdy
                          rw [edy]
                          refine ⟨_, rfl, ?_⟩
                          refine ⟨((hsub (.cons_cons _ (.cons_cons _ (.cons_cons _ (.cons_cons _ (.cons_cons _ (.cons_cons _ (.cons_cons _ (.cons_cons _ (.cons_cons _ (.cons_cons _ (.cons_cons _ (.cons_cons _ (.cons_cons _ (.cons_cons _ (.cons _ (.refl _))))))))))))))))).trans (hsub_pick [2, 1, 1, 1, 1, 1, 1, 1, 1, 1, 1, 1, 1, 1] rfl)), ?_⟩
                          refine H_one 43 rfl (by kernel_rfl) rfl (op_call rfl rfl (fun a w => Try.call24 a w) rfl ?_)
                          refine (same_s (A := (A'.dev true).S) (B := (A'.dev true).S) yok.1.1 yok.1.1 (holds_sl2 (s := 0) edy rfl hgdy) (holds_slice (sees 11 0 rfl) (by simp [Da.dev]) (by simp [Da.dev])) (Nat.le_trans yok.1.2.1 (by decide))).mono ?_
                          rintro _ _ ⟨rfl, rfl⟩
                          rw [if_pos rfl]
                          refine ⟨_, rfl, ?_⟩
                          refine ⟨((hsub (.cons_cons _ (.cons_cons _ (.cons_cons _ (.cons_cons _ (.cons_cons _ (.cons_cons _ (.cons_cons _ (.cons_cons _ (.cons_cons _ (.cons_cons _ (.cons_cons _ (.cons_cons _ (.cons_cons _ (.cons_cons _ (.cons _ (.refl _))))))))))))))))).trans (hsub_pick [2, 1, 1, 1, 1, 1, 1, 1, 1, 1, 1, 1, 1, 1] rfl)), ?_⟩
                          refine H_y 44 rfl (by kernel_rfl) (by kernel_rfl) (by kernel_rfl) (((hsub (.cons_cons _ (.cons_cons _ (.cons_cons _ (.cons_cons _ (.cons_cons _ (.cons_cons _ (.cons_cons _ (.cons_cons _ (.cons_cons _ (.cons_cons _ (.cons_cons _ (.cons_cons _ (.cons_cons _ (.cons_cons _ (.cons _ (.refl _))))))))))))))))).trans (hsub_pick [2, 1, 1, 1, 1, 1, 1, 1, 1, 1, 1, 1, 1, 1] rfl))) rfl (y_nei rfl rfl) rfl ?_
                          refine H_y 45 rfl (by kernel_rfl) (by kernel_rfl) (by kernel_rfl) (((hsub (.cons_cons _ (.cons_cons _ (.cons_cons _ (.cons_cons _ (.cons_cons _ (.cons_cons _ (.cons_cons _ (.cons_cons _ (.cons_cons _ (.cons_cons _ (.cons_cons _ (.cons_cons _ (.cons_cons _ (.cons_cons _ (.cons _ (.refl _))))))))))))))))).trans (hsub_pick [2, 1, 1, 1, 1, 1, 1, 1, 1, 1, 1, 1, 1, 1] rfl))) rfl (y_pick_f rfl rfl) rfl ?_
                          refine H_done (by kernel_rfl) ?_
                          refine C_cond_f rfl ?_
                          refine C_skip ?_
                          refine C_region ?_
                          refine L_y rfl (y_move rfl) rfl ?_
                          refine L_y rfl (y_add rfl rfl (show _ = (2 : Int) from rfl)) rfl ?_
                          refine L_y rfl (y_assign rfl) rfl ?_
                          refine L_nil ?_
                          refine In_round ?_
                          refine C_seq ?_
                          refine C_seq ?_
                          refine C_region ?_
                          refine L_y rfl (y_move rfl) rfl ?_
                          refine L_y rfl (y_lss rfl rfl) rfl ?_
                          refine L_nil ?_
                          refine C_cond_f rfl ?_
                          refine C_exit ?_
                          refine C_region ?_
                          refine L_y rfl (y_move rfl) rfl ?_
                          refine L_y rfl (y_add rfl rfl (wi64 (by omega) (by omega))) rfl ?_
                          refine L_y rfl (y_assign rfl) rfl ?_
                          refine L_nil ?_
                          exact ⟨(D2, A', (⟨rx, xst, xg, A'.a⟩, ⟨ry, yst, yg, A'.b⟩), i + 1), ⟨hu, ⟨xok, yok, rfl, rfl, rfl, rfl⟩, hO', by simp only; omega⟩, by simp only; omega, ⟨rfl, rfl, rfl, rfl, rfl, rfl, trivial⟩, ((hsub (.cons_cons _ (.cons_cons _ (.cons_cons _ (.cons_cons _ (.cons_cons _ (.cons_cons _ (.cons_cons _ (.cons_cons _ (.cons_cons _ (.cons_cons _ (.cons_cons _ (.cons _ (.cons _ (.cons _ (.cons _ (.refl _))))))))))))))))).trans (hsub_pick [1, 4, 4, 4, 4, 4, 4, 4, 4, 4, 4] rfl))⟩
      · replace hc2 := of_decide_eq_false hc2
        refine C_exit ?_
        refine C_seq ?_
        refine C_region ?_
        refine L_y rfl (y_assign rfl) rfl ?_
        refine L_nil ?_
        refine C_ret ?_
        refine B_ret (rv_tmp rfl rv_nil) (HSub.refl _) ?_
        rfl

end Go.Proofs.Ytaeooiogjhkjfaa

/- From a row's reading of a slice of bytes to what a walk asks (own work). -/
set_option linter.unusedVariables false
namespace Go.Sl
open Go.RowKit
end Go.Sl

/- What a row tells of its arguments, for flat types (integers, bools, structs and arrays of these) and slices of them (own work). -/
set_option linter.unusedVariables false
set_option linter.unusedSimpArgs false
namespace Go.Sl
open Go.RowKit
inductive Sc where
  | int (k : IntKind)
  | bool
def Sc.fit : Sc → Value → Prop
  | .int k, v => ∃ n, v = .int k n ∧ (Lit.int k n).wf = true
  | .bool, v => ∃ b, v = .bool b
/-- A row of cells fits a row of scalars. -/
def Fits : List Sc → List Value → Prop
  | [], [] => True
  | s :: ss, v :: vs => s.fit v ∧ Fits ss vs
  | _, _ => False
theorem Fits.length : ∀ {ss : List Sc} {vs : List Value}, Fits ss vs → vs.length = ss.length
  | [], [], _ => rfl
  | _ :: _, _ :: _, h => by simp [Fits.length h.2]
  | [], _ :: _, h => h.elim
  | _ :: _, [], h => h.elim
theorem Fits.append : ∀ {ss tt : List Sc} {vs us : List Value}, Fits ss vs → Fits tt us → Fits (ss ++ tt) (vs ++ us)
  | [], _, [], _, _, h => h
  | _ :: _, _, _ :: _, _, h, k => ⟨h.1, Fits.append h.2 k⟩
  | [], _, _ :: _, _, h, _ => h.elim
  | _ :: _, _, [], _, h, _ => h.elim
theorem Fits.cons_iff {s : Sc} {ss : List Sc} {vs : List Value} : Fits (s :: ss) vs ↔ ∃ v us, vs = v :: us ∧ s.fit v ∧ Fits ss us := by
  cases vs with
  | nil => simp [Fits]
  | cons v us =>
    refine ⟨fun h => ⟨v, us, rfl, h⟩, fun ⟨v', us', e, h⟩ => ?_⟩
    obtain ⟨rfl, rfl⟩ := List.cons.inj e
    exact h
theorem Fits.nil_iff {vs : List Value} : Fits [] vs ↔ vs = [] := by cases vs <;> simp [Fits]
theorem Fits.split : ∀ {ss tt : List Sc} {vs : List Value}, Fits (ss ++ tt) vs → ∃ a b, vs = a ++ b ∧ Fits ss a ∧ Fits tt b
  | [], _, vs, h => ⟨[], vs, rfl, trivial, h⟩
  | s :: ss, tt, vs, h => by
    obtain ⟨v, us, rfl, h1, h2⟩ := Fits.cons_iff.1 h
    obtain ⟨a, b, rfl, h3, h4⟩ := Fits.split (ss := ss) h2
    exact ⟨v :: a, b, rfl, ⟨h1, h3⟩, h4⟩
/-- A row of bytes. -/
theorem Fits.bytes : ∀ {n : Nat} {vs : List Value}, Fits (List.replicate n (.int .u8)) vs → ∃ u : List UInt8, vs = bs u ∧ u.length = n
  | 0, vs, h => ⟨[], by rw [Fits.nil_iff.1 h]; rfl, rfl⟩
  | n + 1, vs, h => by
    rw [List.replicate_succ] at h
    obtain ⟨v, us, rfl, ⟨m, rfl, hm⟩, h2⟩ := Fits.cons_iff.1 h
    obtain ⟨u, rfl, rfl⟩ := Fits.bytes h2
    have hb := bounds_u8 hm
    refine ⟨UInt8.ofNat m.toNat :: u, ?_, rfl⟩
    rw [u8_of_int (by omega) (by omega)]; rfl
def flatF (P : Program) (g : TypeId → Option (List Sc)) : List Field → Nat → Option (List Sc)
  | [], _ => some []
  | f :: fs, off => if f.offset = off then (g f.type).bind fun l => if P.cellsOf f.type = l.length then (flatF P g fs (off + l.length)).map (l ++ ·) else none else none
def flatT (P : Program) : Nat → TypeId → Option (List Sc)
  | 0, _ => none
  | d + 1, t => match P.underlying t with
    | some (.int k) => some [.int k]
    | some .bool => some [.bool]
    | some (.struct fs) => (flatF P (flatT P d) fs.toList 0).bind fun l => if P.cellsOf t = l.length then some l else none
    | some (.array n e) => (flatT P d e).bind fun l => if P.cellsOf e = l.length ∧ P.cellsOf t = n * l.length then some (List.replicate n l).flatten else none
    | _ => none
theorem flatF_fits {P : Program} {g : TypeId → Option (List Sc)} {cs : List Value} : ∀ {fs : List Field} {off : Nat} {sh : List Sc}, flatF P g fs off = some sh →
    (∀ f ∈ fs, ∀ l, g f.type = some l → Fits l ((cs.drop f.offset).take (P.cellsOf f.type))) → Fits sh ((cs.drop off).take sh.length)
  | [], off, sh, h, _ => by
    simp only [flatF, Option.some.injEq] at h
    subst h; simp [Fits]
  | f :: fs, off, sh, h, hf => by
    unfold flatF at h
    split at h
    · rename_i ho
      cases hg : g f.type with
      | none => simp [hg] at h
      | some l =>
        rw [hg] at h; simp only [Option.bind_some] at h
        split at h
        · rename_i hc
          cases hr : flatF P g fs (off + l.length) with
          | none => simp [hr] at h
          | some l2 =>
            simp only [hr, Option.map_some, Option.some.injEq] at h
            subst h
            have h1 := hf f (by simp) l hg
            have h2 := flatF_fits hr (fun f' hf' => hf f' (by simp [hf']))
            rw [ho, hc] at h1
            have h3 := Fits.append h1 h2
            rw [List.length_append, List.take_add, List.drop_drop]
            exact h3
        · cases h
    · cases h
section
variable {H : Type} {enc : TypeId × Value → H} {P : Program} {w : World} {base : Nat} {spare : Nat → Bool} {held : Bool}
theorem arr_fits {l : List Sc} : ∀ {n : Nat} {cs : List Value}, cs.length = n * l.length → (∀ i, i < n → Fits l ((cs.drop (i * l.length)).take l.length)) → Fits (List.replicate n l).flatten cs
  | 0, cs, h, _ => by simp at h; subst h; simp [Fits]
  | n + 1, cs, h, hi => by
    rw [Nat.add_mul, Nat.one_mul] at h
    have h0 := hi 0 (by omega)
    rw [Nat.zero_mul, List.drop_zero] at h0
    have h1 := arr_fits (l := l) (n := n) (cs := cs.drop l.length) (by simp; omega) (fun i hi' => by
      have := hi (i + 1) (by omega)
      rw [List.drop_drop, show l.length + i * l.length = (i + 1) * l.length from by rw [Nat.add_mul, Nat.one_mul, Nat.add_comm]]
      exact this)
    have h2 := Fits.append h0 h1
    rw [List.take_append_drop] at h2
    rw [List.replicate_succ, List.flatten_cons]
    exact h2
theorem flat_trod : ∀ {d : Nat} {t : TypeId} {sh : List Sc}, flatT P d t = some sh → ∀ {fuel : Nat} {cs : List Value} {x : DataW H × List MemPlace}, DataW.trod enc P w base spare held fuel t cs = some x → Fits sh cs
  | 0, _, _, h, _, _, _, _ => by simp [flatT] at h
  | d + 1, t, sh, h, fuel, cs, x, hx => by
    unfold flatT at h
    split at h
    · rename_i k hu
      obtain ⟨n, rfl, _, hw⟩ := DataW.trod_int hu hx
      simp only [Option.some.injEq] at h; subst h
      exact ⟨⟨n, rfl, hw⟩, trivial⟩
    · rename_i hu
      obtain ⟨b, rfl, _⟩ := DataW.trod_bool hu hx
      simp only [Option.some.injEq] at h; subst h
      exact ⟨⟨b, rfl⟩, trivial⟩
    · rename_i fs hu
      obtain ⟨xs, n, _, _, hl, hlen, hf⟩ := DataW.trod_struct hu hx
      cases hF : flatF P (flatT P d) fs.toList 0 with
      | none => simp [hF] at h
      | some l =>
        simp only [hF, Option.bind_some] at h
        split at h
        · rename_i hc
          simp only [Option.some.injEq] at h; subst h
          have := flatF_fits (cs := cs) hF (fun f hfm l' hl' => by
            obtain ⟨i, hi, rfl⟩ := List.getElem_of_mem hfm
            have h1 := hf i _ (by rw [← Array.getElem?_toList]; exact List.getElem?_eq_getElem hi)
            have h2 : i < xs.length := by rw [hlen]; simpa using hi
            rw [List.getElem?_eq_getElem h2] at h1
            exact flat_trod hl' h1)
          rw [List.drop_zero, List.take_of_length_le (by omega)] at this
          exact this
        · cases h
    · rename_i n e hu
      obtain ⟨xs, m, _, _, hl, hlen, hf⟩ := DataW.trod_array hu hx
      cases hF : flatT P d e with
      | none => simp [hF] at h
      | some l =>
        simp only [hF, Option.bind_some] at h
        split at h
        · rename_i hc
          simp only [Option.some.injEq] at h; subst h
          refine arr_fits (by rw [hl, hc.2]) (fun i hi => ?_)
          have h1 := hf i hi
          have h2 : i < xs.length := by omega
          rw [List.getElem?_eq_getElem h2, hc.1] at h1
          exact flat_trod hF h1
        · cases h
    · cases h
/-- What is told of a slice that came in. -/
def InS (w : World) (sh : List Sc) (a : Option Addr) (len cap : Nat) : Prop :=
  (a = none ∧ len = 0 ∧ cap = 0) ∨ ∃ (x : Addr), a = some x ∧ len ≤ cap ∧ cap ≤ maxLen ∧
    (0 < len → ∃ (b off : Nat) (l : List Value) (T : TypeId) (fr : Nat × Nat), x = ⟨b, off, none⟩ ∧ w.heap[b]? = some (.cells l.toArray T fr) ∧ off + len * sh.length ≤ l.length ∧
      ∀ i, i < len → Fits sh ((l.drop (off + i * sh.length)).take sh.length))
theorem cell_block {w : World} {b off : Nat} {spot : Option Nat} {v : Value} (h : w.cell? ⟨b, off, spot⟩ = some v) : spot = none ∧ ∃ (l : List Value) (T : TypeId) (fr : Nat × Nat), w.heap[b]? = some (.cells l.toArray T fr) := by
  have hs : spot = none := by
    unfold World.cell? at h
    cases spot with
    | none => rfl
    | some s => split at h <;> simp at h
  subst hs
  refine ⟨rfl, ?_⟩
  cases hb : w.heap[b]? with
  | none => simp [World.cell?, hb] at h
  | some o =>
    cases o with
    | cells c T fr => exact ⟨c.toList, T, fr, by simp⟩
    | _ => simp [World.cell?, hb] at h
theorem flat_slice {d : Nat} {t e : TypeId} {sh : List Sc} {a : Option Addr} {len cap : Nat} {D : DataW H} {ps : List MemPlace} (ht : P.underlying t = some (.slice e)) (h : flatT P d e = some sh) (hc : P.cellsOf e = sh.length) (hp : 0 < sh.length)
    (hT : DataW.Trod enc P w base (fun _ => true) held t (.slice a len cap) D ps) : InS w sh a len cap := by
  obtain ⟨fuel, hf⟩ := hT
  rcases Go.Deep.open_slice ht hf with ⟨hcs, _⟩ | ⟨x, len', cap', m, n, DD, Pl, hcs, _, hl, hm, hmm, _, hx⟩
  · simp [Value.cells] at hcs
    exact .inl hcs
  · simp [Value.cells] at hcs
    obtain ⟨rfl, rfl, rfl⟩ := hcs
    refine .inr ⟨x, rfl, hl, hm, fun hpos => ?_⟩
    simp only [if_true] at hmm
    subst hmm
    rw [hc] at hx
    obtain ⟨b, off, spot⟩ := x
    obtain ⟨cs1, f1, f2⟩ := hx 0 (by omega)
    obtain ⟨_, f3, f4⟩ := World.cells?_some f1
    have f5 := f4 0 hp
    rw [List.getElem?_eq_getElem (by omega), show (Addr.add (Addr.add ⟨b, off, spot⟩ (0 * sh.length)) 0) = ⟨b, off, spot⟩ from by simp [Addr.add]] at f5
    obtain ⟨rfl, l, T, fr, hb⟩ := cell_block f5
    have hcell : ∀ i, i < len → ∃ cs', cs'.length = sh.length ∧ Fits sh cs' ∧ ∀ j, j < sh.length → w.cell? ⟨b, off + (i * sh.length + j), none⟩ = cs'[j]? := fun i hi => by
      obtain ⟨cs', h1, h2⟩ := hx i (by omega)
      obtain ⟨_, h3, h4⟩ := World.cells?_some h1
      exact ⟨cs', h3, flat_trod h h2, fun j hj => by have := h4 j hj; rw [addr_add, addr_add] at this; simpa [Nat.add_assoc] using this⟩
    have hget : ∀ i, i < len → ∀ j, j < sh.length → ∃ v, l[off + (i * sh.length + j)]? = some v ∧ w.cell? ⟨b, off + (i * sh.length + j), none⟩ = some v := fun i hi j hj => by
      obtain ⟨cs', h1, h2, h3⟩ := hcell i hi
      have h4 := h3 j hj
      rw [List.getElem?_eq_getElem (by omega)] at h4
      refine ⟨_, ?_, h4⟩
      simpa [World.cell?, hb] using h4
    have hle : off + len * sh.length ≤ l.length := by
      obtain ⟨v, h1, _⟩ := hget (len - 1) (by omega) (sh.length - 1) (by omega)
      have h2 := (List.getElem?_eq_some_iff.1 h1).1
      have h3 : (len - 1) * sh.length + sh.length = len * sh.length := by
        rw [← Nat.succ_mul]; congr 1; omega
      omega
    refine ⟨b, off, l, T, fr, rfl, hb, hle, fun i hi => ?_⟩
    obtain ⟨cs', h1, h2, h3⟩ := hcell i hi
    have : (l.drop (off + i * sh.length)).take sh.length = cs' := by
      apply List.ext_getElem?
      intro j
      by_cases hj : j < sh.length
      · rw [List.getElem?_take_of_lt hj, List.getElem?_drop, ← h3 j hj]
        obtain ⟨v, k1, k2⟩ := hget i hi j hj
        rw [k2, Nat.add_assoc, k1]
      · have hc : i * sh.length + sh.length ≤ len * sh.length := by
          rw [← Nat.succ_mul]; exact Nat.mul_le_mul_right _ hi
        rw [List.getElem?_eq_none (by simp; omega), List.getElem?_eq_none (by omega)]
    rw [this]; exact h2
/-- The same, told as one row of elements. -/
theorem inS_rows {w : World} {sh : List Sc} {α : Type} {f : α → List Value} (hf : ∀ cs, Fits sh cs → ∃ x, cs = f x) : ∀ {len : Nat} {l : List Value} {off : Nat}, off + len * sh.length ≤ l.length →
    (∀ i, i < len → Fits sh ((l.drop (off + i * sh.length)).take sh.length)) → ∃ xs : List α, xs.length = len ∧ (l.drop off).take (len * sh.length) = (xs.map f).flatten
  | 0, l, off, _, _ => ⟨[], rfl, by simp⟩
  | len + 1, l, off, hl, h => by
    have h0 := h 0 (by omega)
    rw [Nat.zero_mul, Nat.add_zero] at h0
    obtain ⟨x, hx⟩ := hf _ h0
    rw [Nat.succ_mul] at hl
    obtain ⟨xs, h1, h2⟩ := inS_rows (w := w) hf (len := len) (l := l) (off := off + sh.length) (by omega) (fun i hi => by
      have := h (i + 1) (by omega)
      rw [Nat.succ_mul] at this
      rw [show off + sh.length + i * sh.length = off + (i * sh.length + sh.length) from by omega]
      exact this)
    refine ⟨x :: xs, by simp [h1], ?_⟩
    rw [Nat.succ_mul, Nat.add_comm (len * sh.length), List.take_add, List.drop_drop, hx, h2]
    rfl
end
end Go.Sl

/- Rows over a slice of deeds (own work). -/
set_option linter.unusedVariables false
namespace Go.Sl
open Go.RowKit
end Go.Sl

/- Rows over a slice of deeds, whose numbers are machine numbers (own work). -/
set_option linter.unusedVariables false
namespace Go.Sl
open Go.RowKit
theorem fits_deedB {cs : List Value} (h : Fits [.int .i64, .int .i64, .int .i64, .int .i64, .int .u8] cs) : ∃ x : { x : DeedM // x.n ≤ 9223372036854775807 }, cs = dcells x.1 := by
  obtain ⟨_, _, rfl, ⟨a, rfl, _⟩, g1⟩ := Fits.cons_iff.1 h
  obtain ⟨_, _, rfl, ⟨b, rfl, _⟩, g2⟩ := Fits.cons_iff.1 g1
  obtain ⟨_, _, rfl, ⟨c, rfl, hc⟩, g3⟩ := Fits.cons_iff.1 g2
  obtain ⟨_, _, rfl, ⟨d, rfl, _⟩, g4⟩ := Fits.cons_iff.1 g3
  obtain ⟨_, _, rfl, ⟨e, rfl, he⟩, g5⟩ := Fits.cons_iff.1 g4
  obtain rfl := Fits.nil_iff.1 g5
  have hb := bounds_u8 he
  have hn := bounds_i64 hc
  refine ⟨⟨⟨a, b, c, d, UInt8.ofNat e.toNat⟩, by simp only; omega⟩, ?_⟩
  simp [dcells]
  omega
theorem in_deedsB {w : World} {a : Option Addr} {len cap : Nat} (h : InS w [.int .i64, .int .i64, .int .i64, .int .i64, .int .u8] a len cap) : ∃ ds : List DeedM, len = ds.length ∧ Holds w [] a (deeds ds) ∧ ∀ x ∈ ds, x.n ≤ 9223372036854775807 := by
  rcases h with ⟨rfl, rfl, rfl⟩ | ⟨x, rfl, h1, h2, h3⟩
  · exact ⟨[], rfl, fun hp => by simp [deeds] at hp, fun x hx => by cases hx⟩
  · rcases Nat.eq_zero_or_pos len with rfl | hp
    · exact ⟨[], rfl, fun hp => by simp [deeds] at hp, fun x hx => by cases hx⟩
    · obtain ⟨b, off, l, T, fr, rfl, hb, hl, hf⟩ := h3 hp
      obtain ⟨ds, hd, ht⟩ := inS_rows (w := w) (f := fun x : { x : DeedM // x.n ≤ 9223372036854775807 } => dcells x.1) (fun cs hc => fits_deedB hc) hl hf
      have e : (ds.map fun x => dcells x.1).flatten = deeds (ds.map (·.1)) := by simp [deeds, List.map_map, Function.comp_def]
      rw [e] at ht
      have hd2 : (ds.map (·.1)).length = len := by rw [List.length_map, hd]
      refine ⟨ds.map (·.1), hd2.symm, fun _ => ⟨b, off, l, T, fr, rfl, sees_old hb, ?_, ?_⟩, fun x hx => ?_⟩
      · rw [deeds_len, hd2]; exact hl
      · rw [deeds_len, hd2]; exact ht
      · obtain ⟨y, _, rfl⟩ := List.mem_map.1 hx
        exact y.2
end Go.Sl

