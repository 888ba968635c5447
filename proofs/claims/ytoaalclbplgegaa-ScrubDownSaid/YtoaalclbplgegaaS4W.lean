/- walks (own work; the walks' lines by a program of this repo). -/
import Derived.Test.YtoaalclbplgegaaSmW
set_option linter.unusedVariables false
set_option linter.unusedSimpArgs false
set_option maxRecDepth 20000
namespace Go.Proofs.Ytoaalclbplgegaa
open Go.Sl
attribute [local irreducible] BodyQ WpC WpL WpS WpH OpW FnS



set_option maxHeartbeats 4000000 in

theorem scrubdown_t {w0 : World} {H : Hp} {pa pb2 : Option Addr} {ca cb : Nat} {la lb : List (UInt8 × UInt8)} (hA : Holds w0 H pa (bs (pb la))) (hB : Holds w0 H pb2 (bs (pb lb))) : FnS Try.prog w0 6 #[.slice pa la.length ca, .slice pb2 lb.length cb, .bool true] H (fun e H' => e = .returned (.bool true)) := by
  refine FnS_intro (n := 74) (rs := [.tmp 6]) (vs := [.slice pa la.length ca, .slice pb2 lb.length cb, .bool true]) Try.func6 rfl Try.ntmps6 rfl rfl ?_
  refine C_seq ?_
  refine C_region ?_
  refine L_y rfl (y_assign rfl) rfl ?_
  refine L_nil ?_
  refine C_seq ?_
  refine C_seq ?_
  refine C_region ?_
  refine L_op rfl (op_call rfl rfl (fun a w => Try.call13 a w) rfl ?_)
  refine awake10_s.mono ?_
  rintro _ _ ⟨rfl, e⟩
  obtain rfl := e.symm
  refine ⟨_, rfl, ?_⟩
  refine L_y rfl (y_not rfl) rfl ?_
  refine L_y rfl (y_move rfl) rfl ?_
  refine L_y rfl (y_move rfl) rfl ?_
  refine L_y rfl (y_lenS rfl rfl Try.underlying22) rfl ?_
  refine L_y rfl (y_gtr rfl rfl) rfl ?_
  refine L_y rfl (y_pick_f rfl rfl) rfl ?_
  refine L_y rfl (y_move rfl) rfl ?_
  refine L_case 22 rfl (fun hg1_8 => ?_) (fun hg1_8 => ?_)
  · skip
    refine L_skip rfl rfl ?_
    refine L_skip rfl rfl ?_
    refine L_skip rfl rfl ?_
    refine L_y rfl (y_pick_t rfl rfl) rfl ?_
    refine L_nil ?_
    refine C_cond_t rfl ?_
    refine C_seq ?_
    refine C_region ?_
    refine L_op rfl (op_call rfl rfl (fun a w => Try.call13 a w) rfl ?_)
    refine awake10_s.mono ?_
    rintro _ _ ⟨rfl, e⟩
    obtain rfl := e.symm
    refine ⟨_, rfl, ?_⟩
    refine L_y rfl (y_assign rfl) rfl ?_
    refine L_nil ?_
    refine C_ret ?_
    refine B_ret (rv_tmp rfl rv_nil) (HSub.refl _) ?_
    rfl
  · have q0 := of_decide_eq_false hg1_8
    refine L_y rfl (y_move rfl) rfl ?_
    refine L_y rfl (y_lenS rfl rfl Try.underlying22) rfl ?_
    refine L_y rfl (y_gtr rfl rfl) rfl ?_
    refine L_y rfl (y_pick_f rfl rfl) rfl ?_
    refine L_nil ?_
    refine C_cond rfl (fun hc0 => ?_) (fun hc0 => ?_)
    · replace hc0 := of_decide_eq_true hc0
      refine C_seq ?_
      refine C_region ?_
      refine L_op rfl (op_call rfl rfl (fun a w => Try.call13 a w) rfl ?_)
      refine awake10_s.mono ?_
      rintro _ _ ⟨rfl, e⟩
      obtain rfl := e.symm
      refine ⟨_, rfl, ?_⟩
      refine L_y rfl (y_assign rfl) rfl ?_
      refine L_nil ?_
      refine C_ret ?_
      refine B_ret (rv_tmp rfl rv_nil) (HSub.refl _) ?_
      rfl
    · replace hc0 := of_decide_eq_false hc0
      refine C_skip ?_
      refine C_seq ?_
      obtain ⟨K, hK⟩ : ∃ K, min la.length lb.length = K := ⟨_, rfl⟩
      have hK12 : K ≤ 12 := by omega
      refine C_region ?_
      refine L_y rfl (y_move rfl) rfl ?_
      refine L_y rfl (y_move rfl) rfl ?_
      refine L_op rfl (op_call rfl rfl (fun a w => Try.call14 a w) rfl ?_)
      refine FnS.mono (pair_v (la := la) (lb := lb) (K := K) (hA) (hB) (by omega) hK) ?_
      rintro _ _ ⟨D1, A1, m1, mb1, bx1, by1, bp1, ga1, gb1, hS1, hga1, hgb1, rfl, rfl⟩
      refine ⟨_, rfl, ?_⟩
      refine L_y rfl (y_move rfl) rfl ?_
      refine L_y rfl (y_extract rfl rfl) rfl ?_
      refine L_y rfl (y_extract rfl rfl) rfl ?_
      refine L_y rfl (y_extract rfl rfl) rfl ?_
      refine L_y rfl (y_extract rfl rfl) rfl ?_
      refine L_op rfl (op_alloc zl_27 rfl (fun B1 => ?_))
      refine L_y rfl (y_assign rfl) rfl ?_
      refine L_y rfl (y_assign rfl) rfl ?_
      refine L_y rfl (y_assign rfl) rfl ?_
      refine L_op rfl (op_store (vs := [slV ga1 K, slV gb1 K]) 0 0 rfl rfl rfl sz_27 rfl rfl (fun v hv => by simp at hv; rcases hv with rfl | rfl <;> exact one_slV _ _) (Nat.le_of_ble_eq_true rfl) ?_)
      refine L_nil ?_
      refine C_seq ?_
      refine C_seq ?_
      obtain rfl := hS1.mb
      obtain rfl := hS1.bx
      obtain rfl := hS1.bys
      have hmn := hS1.n
      refine C_region ?_
      refine L_y rfl (y_move rfl) rfl ?_
      refine L_nil ?_
      refine C_cond_t rfl ?_
      refine C_region ?_
      refine L_y rfl (y_move rfl) rfl ?_
      refine L_op rfl (op_call rfl rfl (fun a w => Try.call23 a w) rfl ?_)
      refine (FnS.sub (hsub_pick [2] rfl) (out_v hS1 false)).mono ?_
      rintro _ _ ⟨rfl, D0, hT0, rfl⟩
      refine ⟨_, rfl, ?_⟩
      refine L_nil ?_
      refine C_seq ?_
      refine C_region ?_
      refine L_y rfl (y_move rfl) rfl ?_
      refine L_op rfl (op_call rfl rfl (fun a w => Try.call20 a w) rfl ?_)
      refine snew_s.mono ?_
      rintro _ _ ⟨wb, rfl, rfl⟩
      refine ⟨_, rfl, ?_⟩
      refine L_y rfl (y_assign rfl) rfl ?_
      refine L_nil ?_
      refine C_seq ?_
      refine C_seq ?_
      refine C_region ?_
      refine L_y rfl (y_indexA rfl rfl Try.underlying27 sz_26 (by omega) (by omega) (show _ = 0 from rfl)) rfl ?_
      refine L_y rfl (y_load rfl ag_26 (sees 2 0 rfl) rfl) rfl ?_
      refine L_y rfl (y_lenV hga1 rfl rfl Try.underlying26) rfl ?_
      refine L_y rfl (y_move rfl) rfl ?_
      refine L_nil ?_
      refine C_block ?_
      refine C_loop (ι := Duo × Nat) (fun i => [(45, .int .i64 ((K : Nat) : Int)), (46, .int .i64 (i.2 : Int)), (10, ptr B1), (11, ptr wb), (9, ptr m1.b)]) (fun i => [(wb, .cells (wcells m1.b ((i.2 : Nat) : Int) (0, 0, 0)).toArray 51)] :: m1.seg 109 :: i.1.seg dt :: [(B1, .cells [slV ga1 K, slV gb1 K].toArray 27)] :: slSeg 37 ga1 (bs (prX la K).flatten) :: slSeg 37 gb1 (bs (prX lb K).flatten) :: H) (fun i => i.2 ≤ K ∧ Two dt i.1 (A1.setd false ((A1.dev false).outs true)) m1.bx m1.bys bp1) (fun i => K - i.2) (D0, 0) ⟨Nat.zero_le _, hT0⟩ ⟨rfl, rfl, rfl, rfl, rfl, trivial⟩ ((hsub (.cons_cons _ (.cons_cons _ (.cons_cons _ (.cons_cons _ (.cons_cons _ (.cons_cons _ (.refl _)))))))).trans (hsub_pick [0, 2, 0, 0, 0, 0] rfl)) (fun i hi => ?_)
      obtain ⟨D, k⟩ := i
      obtain ⟨hk, hT⟩ := hi
      simp only at hk hT
      dsimp only
      refine C_seq ?_
      refine C_region ?_
      refine L_y rfl (y_lss rfl rfl) rfl ?_
      refine L_nil ?_
      refine C_seq ?_
      refine C_cond rfl (fun hc2 => ?_) (fun hc2 => ?_)
      · replace hc2 : k < K := by have := of_decide_eq_true hc2; omega
        refine C_skip ?_
        refine C_seq ?_
        refine C_block ?_
        refine C_seq ?_
        refine C_region ?_
        refine L_y rfl (y_move rfl) rfl ?_
        refine L_y rfl (y_assign rfl) rfl ?_
        refine L_nil ?_
        refine C_seq ?_
        refine C_region ?_
        refine L_y rfl (y_move rfl) rfl ?_
        refine L_op rfl (op_call rfl rfl (fun a w => Try.call22 a w) rfl ?_)
        refine (FnS.sub (hsub_pick [0, 0, 0] rfl) (step_out hS1 false hT (by omega) (by omega) (by omega) hc2)).mono ?_
        rintro _ _ ⟨rfl, D2, hT2, rfl⟩
        refine ⟨_, rfl, ?_⟩
        refine L_y rfl (y_move rfl) rfl ?_
        refine L_y rfl (y_extract rfl rfl) rfl ?_
        refine L_y rfl (y_extract rfl rfl) rfl ?_
        refine L_y rfl (y_assign rfl) rfl ?_
        refine L_y rfl (y_assign rfl) rfl ?_
        refine L_nil ?_
        refine C_seq ?_
        refine C_region ?_
        refine L_y rfl (y_move rfl) rfl ?_
        refine L_y rfl (y_move rfl) rfl ?_
        refine L_y rfl (y_nei rfl rfl) rfl ?_
        refine L_y rfl (y_move rfl) rfl ?_
        refine L_case 57 rfl (fun hg12_4 => ?_) (fun hg12_4 => ?_)
        · exact absurd hg12_4 (by simp)
        · skip
          refine L_y rfl (y_move rfl) rfl ?_
          refine L_y rfl (y_not rfl) rfl ?_
          refine L_y rfl (y_pick_f rfl rfl) rfl ?_
          refine L_nil ?_
          refine C_cond_f rfl ?_
          refine C_skip ?_
          refine C_region ?_
          refine L_y rfl (y_add rfl rfl (wi64 (by omega) (by omega))) rfl ?_
          refine L_y rfl (y_move rfl) rfl ?_
          refine L_nil ?_
          exact ⟨(D2, k + 1), ⟨by simp only; omega, hT2⟩, by simp only; omega, ⟨rfl, rfl, rfl, rfl, rfl, trivial⟩, ((hsub (.cons_cons _ (.cons_cons _ (.cons_cons _ (.cons_cons _ (.cons_cons _ (.cons_cons _ (.refl _)))))))).trans (hsub_pick [0, 0, 0, 0, 0, 0] rfl))⟩
      · replace hc2 := of_decide_eq_false hc2
        refine C_exit ?_
        refine C_seq ?_
        refine C_region ?_
        refine L_y rfl (y_move rfl) rfl ?_
        refine L_op rfl (op_call rfl rfl (fun a w => Try.call16 a w) rfl ?_)
        refine (FnS.sub (hsub_pick [1, 1] rfl) (all_out hS1 false hT (by omega) (by omega) (by omega))).mono ?_
        rintro _ _ ⟨rfl, D3, hT3, rfl⟩
        refine ⟨_, rfl, ?_⟩
        refine L_y rfl (y_buildA (vs := []) (l := [.int .i64 0, .int .i64 0, .int .i64 0]) rfl Try.underlying34 sz_3 zl_34 rfl) rfl ?_
        refine L_op rfl (op_call rfl rfl (fun a w => Try.call15 a w) rfl ?_)
        refine (is_s _ _ _ _ _ _).mono ?_
        rintro _ _ ⟨rfl, e⟩
        obtain rfl := e.symm
        rw [if_pos ⟨rfl, rfl, rfl⟩]
        refine ⟨_, rfl, ?_⟩
        refine L_y rfl (y_eqi rfl rfl) rfl ?_
        refine L_y rfl (y_move rfl) rfl ?_
        refine L_y rfl (y_move rfl) rfl ?_
        refine L_op rfl (op_call rfl rfl (fun a w => Try.call21 a w) rfl ?_)
        refine (report_s (r := (0, 0, 0)) (sees 2 0 rfl)).mono ?_
        rintro _ _ ⟨rfl, e⟩
        obtain rfl := e.symm
        refine ⟨_, rfl, ?_⟩
        refine L_y rfl (y_buildA (vs := []) (l := [.int .i64 0, .int .i64 0, .int .i64 0]) rfl Try.underlying34 sz_3 zl_34 rfl) rfl ?_
        refine L_op rfl (op_call rfl rfl (fun a w => Try.call15 a w) rfl ?_)
        refine (is_s _ _ _ _ _ _).mono ?_
        rintro _ _ ⟨rfl, e⟩
        obtain rfl := e.symm
        rw [if_pos ⟨rfl, rfl, rfl⟩]
        refine ⟨_, rfl, ?_⟩
        refine L_y rfl (y_eqi rfl rfl) rfl ?_
        refine L_y rfl (y_pick_t rfl rfl) rfl ?_
        refine L_y rfl (y_assign rfl) rfl ?_
        refine L_nil ?_
        refine C_ret ?_
        refine B_ret (rv_tmp rfl rv_nil) (HSub.refl _) ?_
        rfl

set_option maxHeartbeats 4000000 in

theorem scrubdown_f {w0 : World} {H : Hp} {pa pb2 : Option Addr} {ca cb : Nat} {la lb : List (UInt8 × UInt8)} (hA : Holds w0 H pa (bs (pb la))) (hB : Holds w0 H pb2 (bs (pb lb))) : FnS Try.prog w0 6 #[.slice pa la.length ca, .slice pb2 lb.length cb, .bool false] H (fun e H' => e = .returned (.bool true)) := by
  refine FnS_intro (n := 74) (rs := [.tmp 6]) (vs := [.slice pa la.length ca, .slice pb2 lb.length cb, .bool false]) Try.func6 rfl Try.ntmps6 rfl rfl ?_
  refine C_seq ?_
  refine C_region ?_
  refine L_y rfl (y_assign rfl) rfl ?_
  refine L_nil ?_
  refine C_seq ?_
  refine C_seq ?_
  refine C_region ?_
  refine L_op rfl (op_call rfl rfl (fun a w => Try.call13 a w) rfl ?_)
  refine awake10_s.mono ?_
  rintro _ _ ⟨rfl, e⟩
  obtain rfl := e.symm
  refine ⟨_, rfl, ?_⟩
  refine L_y rfl (y_not rfl) rfl ?_
  refine L_y rfl (y_move rfl) rfl ?_
  refine L_y rfl (y_move rfl) rfl ?_
  refine L_y rfl (y_lenS rfl rfl Try.underlying22) rfl ?_
  refine L_y rfl (y_gtr rfl rfl) rfl ?_
  refine L_y rfl (y_pick_f rfl rfl) rfl ?_
  refine L_y rfl (y_move rfl) rfl ?_
  refine L_case 22 rfl (fun hg1_8 => ?_) (fun hg1_8 => ?_)
  · skip
    refine L_skip rfl rfl ?_
    refine L_skip rfl rfl ?_
    refine L_skip rfl rfl ?_
    refine L_y rfl (y_pick_t rfl rfl) rfl ?_
    refine L_nil ?_
    refine C_cond_t rfl ?_
    refine C_seq ?_
    refine C_region ?_
    refine L_op rfl (op_call rfl rfl (fun a w => Try.call13 a w) rfl ?_)
    refine awake10_s.mono ?_
    rintro _ _ ⟨rfl, e⟩
    obtain rfl := e.symm
    refine ⟨_, rfl, ?_⟩
    refine L_y rfl (y_assign rfl) rfl ?_
    refine L_nil ?_
    refine C_ret ?_
    refine B_ret (rv_tmp rfl rv_nil) (HSub.refl _) ?_
    rfl
  · have q0 := of_decide_eq_false hg1_8
    refine L_y rfl (y_move rfl) rfl ?_
    refine L_y rfl (y_lenS rfl rfl Try.underlying22) rfl ?_
    refine L_y rfl (y_gtr rfl rfl) rfl ?_
    refine L_y rfl (y_pick_f rfl rfl) rfl ?_
    refine L_nil ?_
    refine C_cond rfl (fun hc0 => ?_) (fun hc0 => ?_)
    · replace hc0 := of_decide_eq_true hc0
      refine C_seq ?_
      refine C_region ?_
      refine L_op rfl (op_call rfl rfl (fun a w => Try.call13 a w) rfl ?_)
      refine awake10_s.mono ?_
      rintro _ _ ⟨rfl, e⟩
      obtain rfl := e.symm
      refine ⟨_, rfl, ?_⟩
      refine L_y rfl (y_assign rfl) rfl ?_
      refine L_nil ?_
      refine C_ret ?_
      refine B_ret (rv_tmp rfl rv_nil) (HSub.refl _) ?_
      rfl
    · replace hc0 := of_decide_eq_false hc0
      refine C_skip ?_
      refine C_seq ?_
      obtain ⟨K, hK⟩ : ∃ K, min la.length lb.length = K := ⟨_, rfl⟩
      have hK12 : K ≤ 12 := by omega
      refine C_region ?_
      refine L_y rfl (y_move rfl) rfl ?_
      refine L_y rfl (y_move rfl) rfl ?_
      refine L_op rfl (op_call rfl rfl (fun a w => Try.call14 a w) rfl ?_)
      refine FnS.mono (pair_v (la := la) (lb := lb) (K := K) (hA) (hB) (by omega) hK) ?_
      rintro _ _ ⟨D1, A1, m1, mb1, bx1, by1, bp1, ga1, gb1, hS1, hga1, hgb1, rfl, rfl⟩
      refine ⟨_, rfl, ?_⟩
      refine L_y rfl (y_move rfl) rfl ?_
      refine L_y rfl (y_extract rfl rfl) rfl ?_
      refine L_y rfl (y_extract rfl rfl) rfl ?_
      refine L_y rfl (y_extract rfl rfl) rfl ?_
      refine L_y rfl (y_extract rfl rfl) rfl ?_
      refine L_op rfl (op_alloc zl_27 rfl (fun B1 => ?_))
      refine L_y rfl (y_assign rfl) rfl ?_
      refine L_y rfl (y_assign rfl) rfl ?_
      refine L_y rfl (y_assign rfl) rfl ?_
      refine L_op rfl (op_store (vs := [slV ga1 K, slV gb1 K]) 0 0 rfl rfl rfl sz_27 rfl rfl (fun v hv => by simp at hv; rcases hv with rfl | rfl <;> exact one_slV _ _) (Nat.le_of_ble_eq_true rfl) ?_)
      refine L_nil ?_
      refine C_seq ?_
      refine C_seq ?_
      obtain rfl := hS1.mb
      obtain rfl := hS1.bx
      obtain rfl := hS1.bys
      have hmn := hS1.n
      refine C_region ?_
      refine L_y rfl (y_move rfl) rfl ?_
      refine L_nil ?_
      refine C_cond_f rfl ?_
      refine C_region ?_
      refine L_y rfl (y_move rfl) rfl ?_
      refine L_op rfl (op_call rfl rfl (fun a w => Try.call23 a w) rfl ?_)
      refine (FnS.sub (hsub_pick [2] rfl) (out_v hS1 true)).mono ?_
      rintro _ _ ⟨rfl, D0, hT0, rfl⟩
      refine ⟨_, rfl, ?_⟩
      refine L_nil ?_
      refine C_seq ?_
      refine C_region ?_
      refine L_y rfl (y_move rfl) rfl ?_
      refine L_op rfl (op_call rfl rfl (fun a w => Try.call20 a w) rfl ?_)
      refine snew_s.mono ?_
      rintro _ _ ⟨wb, rfl, rfl⟩
      refine ⟨_, rfl, ?_⟩
      refine L_y rfl (y_assign rfl) rfl ?_
      refine L_nil ?_
      refine C_seq ?_
      refine C_seq ?_
      refine C_region ?_
      refine L_y rfl (y_indexA rfl rfl Try.underlying27 sz_26 (by omega) (by omega) (show _ = 0 from rfl)) rfl ?_
      refine L_y rfl (y_load rfl ag_26 (sees 2 0 rfl) rfl) rfl ?_
      refine L_y rfl (y_lenV hga1 rfl rfl Try.underlying26) rfl ?_
      refine L_y rfl (y_move rfl) rfl ?_
      refine L_nil ?_
      refine C_block ?_
      refine C_loop (ι := Duo × Nat) (fun i => [(45, .int .i64 ((K : Nat) : Int)), (46, .int .i64 (i.2 : Int)), (10, ptr B1), (11, ptr wb), (9, ptr m1.b)]) (fun i => [(wb, .cells (wcells m1.b ((i.2 : Nat) : Int) (0, 0, 0)).toArray 51)] :: m1.seg 109 :: i.1.seg dt :: [(B1, .cells [slV ga1 K, slV gb1 K].toArray 27)] :: slSeg 37 ga1 (bs (prX la K).flatten) :: slSeg 37 gb1 (bs (prX lb K).flatten) :: H) (fun i => i.2 ≤ K ∧ Two dt i.1 (A1.setd true ((A1.dev true).outs true)) m1.bx m1.bys bp1) (fun i => K - i.2) (D0, 0) ⟨Nat.zero_le _, hT0⟩ ⟨rfl, rfl, rfl, rfl, rfl, trivial⟩ ((hsub (.cons_cons _ (.cons_cons _ (.cons_cons _ (.cons_cons _ (.cons_cons _ (.cons_cons _ (.refl _)))))))).trans (hsub_pick [0, 2, 0, 0, 0, 0] rfl)) (fun i hi => ?_)
      obtain ⟨D, k⟩ := i
      obtain ⟨hk, hT⟩ := hi
      simp only at hk hT
      dsimp only
      refine C_seq ?_
      refine C_region ?_
      refine L_y rfl (y_lss rfl rfl) rfl ?_
      refine L_nil ?_
      refine C_seq ?_
      refine C_cond rfl (fun hc2 => ?_) (fun hc2 => ?_)
      · replace hc2 : k < K := by have := of_decide_eq_true hc2; omega
        refine C_skip ?_
        refine C_seq ?_
        refine C_block ?_
        refine C_seq ?_
        refine C_region ?_
        refine L_y rfl (y_move rfl) rfl ?_
        refine L_y rfl (y_assign rfl) rfl ?_
        refine L_nil ?_
        refine C_seq ?_
        refine C_region ?_
        refine L_y rfl (y_move rfl) rfl ?_
        refine L_op rfl (op_call rfl rfl (fun a w => Try.call22 a w) rfl ?_)
        refine (FnS.sub (hsub_pick [0, 0, 0] rfl) (step_out hS1 true hT (by omega) (by omega) (by omega) hc2)).mono ?_
        rintro _ _ ⟨rfl, D2, hT2, rfl⟩
        refine ⟨_, rfl, ?_⟩
        refine L_y rfl (y_move rfl) rfl ?_
        refine L_y rfl (y_extract rfl rfl) rfl ?_
        refine L_y rfl (y_extract rfl rfl) rfl ?_
        refine L_y rfl (y_assign rfl) rfl ?_
        refine L_y rfl (y_assign rfl) rfl ?_
        refine L_nil ?_
        refine C_seq ?_
        refine C_region ?_
        refine L_y rfl (y_move rfl) rfl ?_
        refine L_y rfl (y_move rfl) rfl ?_
        refine L_y rfl (y_nei rfl rfl) rfl ?_
        refine L_y rfl (y_move rfl) rfl ?_
        refine L_case 57 rfl (fun hg12_4 => ?_) (fun hg12_4 => ?_)
        · exact absurd hg12_4 (by simp)
        · skip
          refine L_y rfl (y_move rfl) rfl ?_
          refine L_y rfl (y_not rfl) rfl ?_
          refine L_y rfl (y_pick_f rfl rfl) rfl ?_
          refine L_nil ?_
          refine C_cond_f rfl ?_
          refine C_skip ?_
          refine C_region ?_
          refine L_y rfl (y_add rfl rfl (wi64 (by omega) (by omega))) rfl ?_
          refine L_y rfl (y_move rfl) rfl ?_
          refine L_nil ?_
          exact ⟨(D2, k + 1), ⟨by simp only; omega, hT2⟩, by simp only; omega, ⟨rfl, rfl, rfl, rfl, rfl, trivial⟩, ((hsub (.cons_cons _ (.cons_cons _ (.cons_cons _ (.cons_cons _ (.cons_cons _ (.cons_cons _ (.refl _)))))))).trans (hsub_pick [0, 0, 0, 0, 0, 0] rfl))⟩
      · replace hc2 := of_decide_eq_false hc2
        refine C_exit ?_
        refine C_seq ?_
        refine C_region ?_
        refine L_y rfl (y_move rfl) rfl ?_
        refine L_op rfl (op_call rfl rfl (fun a w => Try.call16 a w) rfl ?_)
        refine (FnS.sub (hsub_pick [1, 1] rfl) (all_out hS1 true hT (by omega) (by omega) (by omega))).mono ?_
        rintro _ _ ⟨rfl, D3, hT3, rfl⟩
        refine ⟨_, rfl, ?_⟩
        refine L_y rfl (y_buildA (vs := []) (l := [.int .i64 0, .int .i64 0, .int .i64 0]) rfl Try.underlying34 sz_3 zl_34 rfl) rfl ?_
        refine L_op rfl (op_call rfl rfl (fun a w => Try.call15 a w) rfl ?_)
        refine (is_s _ _ _ _ _ _).mono ?_
        rintro _ _ ⟨rfl, e⟩
        obtain rfl := e.symm
        rw [if_pos ⟨rfl, rfl, rfl⟩]
        refine ⟨_, rfl, ?_⟩
        refine L_y rfl (y_eqi rfl rfl) rfl ?_
        refine L_y rfl (y_move rfl) rfl ?_
        refine L_y rfl (y_move rfl) rfl ?_
        refine L_op rfl (op_call rfl rfl (fun a w => Try.call21 a w) rfl ?_)
        refine (report_s (r := (0, 0, 0)) (sees 2 0 rfl)).mono ?_
        rintro _ _ ⟨rfl, e⟩
        obtain rfl := e.symm
        refine ⟨_, rfl, ?_⟩
        refine L_y rfl (y_buildA (vs := []) (l := [.int .i64 0, .int .i64 0, .int .i64 0]) rfl Try.underlying34 sz_3 zl_34 rfl) rfl ?_
        refine L_op rfl (op_call rfl rfl (fun a w => Try.call15 a w) rfl ?_)
        refine (is_s _ _ _ _ _ _).mono ?_
        rintro _ _ ⟨rfl, e⟩
        obtain rfl := e.symm
        rw [if_pos ⟨rfl, rfl, rfl⟩]
        refine ⟨_, rfl, ?_⟩
        refine L_y rfl (y_eqi rfl rfl) rfl ?_
        refine L_y rfl (y_pick_t rfl rfl) rfl ?_
        refine L_y rfl (y_assign rfl) rfl ?_
        refine L_nil ?_
        refine C_ret ?_
        refine B_ret (rv_tmp rfl rv_nil) (HSub.refl _) ?_
        rfl

end Go.Proofs.Ytoaalclbplgegaa
