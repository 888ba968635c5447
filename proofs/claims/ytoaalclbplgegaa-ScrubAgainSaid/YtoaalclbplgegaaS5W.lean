/- walks (own work; the walks' lines by a program of this repo). -/
import Derived.Test.YtoaalclbplgegaaSnW
set_option linter.unusedVariables false
set_option linter.unusedSimpArgs false
set_option maxRecDepth 20000
namespace Go.Proofs.Ytoaalclbplgegaa
open Go.Sl
attribute [local irreducible] BodyQ WpC WpL WpS WpH OpW FnS



set_option maxHeartbeats 4000000 in

theorem scrubagain_s {w0 : World} {H : Hp} {pa pb2 : Option Addr} {ca cb : Nat} {la lb : List (UInt8 × UInt8)} (hA : Holds w0 H pa (bs (pb la))) (hB : Holds w0 H pb2 (bs (pb lb))) : FnS Try.prog w0 7 #[.slice pa la.length ca, .slice pb2 lb.length cb] H (fun e H' => e = .returned (.bool true)) := by
  refine FnS_intro (n := 92) (rs := [.tmp 4]) (vs := [.slice pa la.length ca, .slice pb2 lb.length cb]) Try.func7 rfl Try.ntmps7 rfl rfl ?_
  refine C_seq ?_
  refine C_region ?_
  refine L_y rfl (y_assign rfl) rfl ?_
  refine L_nil ?_
  refine C_seq ?_
  refine C_seq ?_
  refine C_region ?_
  refine L_op rfl (op_call rfl rfl (fun a w => Try.call13 a w) rfl ?_)
  refine awake10_s.mono ?_
  rintro _ _ ⟨rfl, e⟩
  obtain rfl := e.symm
  refine ⟨_, rfl, ?_⟩
  refine L_y rfl (y_not rfl) rfl ?_
  refine L_y rfl (y_move rfl) rfl ?_
  refine L_y rfl (y_move rfl) rfl ?_
  refine L_y rfl (y_lenS rfl rfl Try.underlying22) rfl ?_
  refine L_y rfl (y_gtr rfl rfl) rfl ?_
  refine L_y rfl (y_pick_f rfl rfl) rfl ?_
  refine L_y rfl (y_move rfl) rfl ?_
  refine L_case 20 rfl (fun hg1_8 => ?_) (fun hg1_8 => ?_)
  · skip
    refine L_skip rfl rfl ?_
    refine L_skip rfl rfl ?_
    refine L_skip rfl rfl ?_
    refine L_y rfl (y_pick_t rfl rfl) rfl ?_
    refine L_nil ?_
    refine C_cond_t rfl ?_
    refine C_seq ?_
    refine C_region ?_
    refine L_op rfl (op_call rfl rfl (fun a w => Try.call13 a w) rfl ?_)
    refine awake10_s.mono ?_
    rintro _ _ ⟨rfl, e⟩
    obtain rfl := e.symm
    refine ⟨_, rfl, ?_⟩
    refine L_y rfl (y_assign rfl) rfl ?_
    refine L_nil ?_
    refine C_ret ?_
    refine B_ret (rv_tmp rfl rv_nil) (HSub.refl _) ?_
    exact ret_bool (by simp)
  · have q0 := of_decide_eq_false hg1_8
    refine L_y rfl (y_move rfl) rfl ?_
    refine L_y rfl (y_lenS rfl rfl Try.underlying22) rfl ?_
    refine L_y rfl (y_gtr rfl rfl) rfl ?_
    refine L_y rfl (y_pick_f rfl rfl) rfl ?_
    refine L_nil ?_
    refine C_cond rfl (fun hc0 => ?_) (fun hc0 => ?_)
    · replace hc0 := of_decide_eq_true hc0
      refine C_seq ?_
      refine C_region ?_
      refine L_op rfl (op_call rfl rfl (fun a w => Try.call13 a w) rfl ?_)
      refine awake10_s.mono ?_
      rintro _ _ ⟨rfl, e⟩
      obtain rfl := e.symm
      refine ⟨_, rfl, ?_⟩
      refine L_y rfl (y_assign rfl) rfl ?_
      refine L_nil ?_
      refine C_ret ?_
      refine B_ret (rv_tmp rfl rv_nil) (HSub.refl _) ?_
      exact ret_bool (by simp)
    · replace hc0 := of_decide_eq_false hc0
      refine C_skip ?_
      refine C_seq ?_
      obtain ⟨K, hK⟩ : ∃ K, min la.length lb.length = K := ⟨_, rfl⟩
      have hK12 : K ≤ 12 := by omega
      refine C_region ?_
      refine L_y rfl (y_move rfl) rfl ?_
      refine L_y rfl (y_move rfl) rfl ?_
      refine L_op rfl (op_call rfl rfl (fun a w => Try.call14 a w) rfl ?_)
      refine FnS.mono (pair_v (la := la) (lb := lb) (K := K) (hA) (hB) (by omega) hK) ?_
      rintro _ _ ⟨D1, A1, m1, mb1, bx1, by1, bp1, ga1, gb1, hS1, hga1, hgb1, rfl, rfl⟩
      refine ⟨_, rfl, ?_⟩
      refine L_y rfl (y_move rfl) rfl ?_
      refine L_y rfl (y_extract rfl rfl) rfl ?_
      refine L_y rfl (y_extract rfl rfl) rfl ?_
      refine L_y rfl (y_extract rfl rfl) rfl ?_
      refine L_y rfl (y_extract rfl rfl) rfl ?_
      refine L_op rfl (op_alloc zl_27 rfl (fun B1 => ?_))
      refine L_y rfl (y_assign rfl) rfl ?_
      refine L_y rfl (y_assign rfl) rfl ?_
      refine L_y rfl (y_assign rfl) rfl ?_
      refine L_op rfl (op_store (vs := [slV ga1 K, slV gb1 K]) 0 0 rfl rfl rfl sz_27 rfl rfl (fun v hv => by simp at hv; rcases hv with rfl | rfl <;> exact one_slV _ _) (Nat.le_of_ble_eq_true rfl) ?_)
      refine L_nil ?_
      refine C_seq ?_
      refine C_region ?_
      refine L_y rfl (y_move rfl) rfl ?_
      refine L_op rfl (op_call rfl rfl (fun a w => Try.call16 a w) rfl ?_)
      refine (FnS.sub (hsub_pick [1, 1] rfl) (all_v hS1 (by omega) (by omega) (by omega) (r := (rK goodP (prX la K) (prX lb K) K)) rfl)).mono ?_
      rintro _ _ ⟨rfl, D2, A2, m2, hS2, rfl⟩
      refine ⟨_, rfl, ?_⟩
      refine L_op rfl (op_alloc zl_32 rfl (fun B2 => ?_))
      refine L_op rfl (op_store (vs := [.int .i64 (rK goodP (prX la K) (prX lb K) K).1, .int .i64 (rK goodP (prX la K) (prX lb K) K).2.1, .int .i64 (rK goodP (prX la K) (prX lb K) K).2.2]) 0 0 rfl rfl rfl sz_32 rfl rfl (ones rfl) (Nat.le_of_ble_eq_true rfl) ?_)
      refine L_nil ?_
      refine C_seq ?_
      refine C_region ?_
      refine L_y rfl (y_move rfl) rfl ?_
      refine L_op rfl (op_call rfl rfl (fun a w => Try.call16 a w) rfl ?_)
      refine (FnS.sub (hsub_pick [1, 1] rfl) (all_v hS2 (by omega) (by omega) (by omega) (r := ((rK goodP (prX la K) (prX lb K) K).1 + (rK goodP (prX la K) (prX lb K) K).2.1, 0, (rK goodP (prX la K) (prX lb K) K).2.2)) (rK_again K (Nat.le_refl _)).1)).mono ?_
      rintro _ _ ⟨rfl, D3, A3, m3, hS3, rfl⟩
      refine ⟨_, rfl, ?_⟩
      refine L_op rfl (op_alloc zl_32 rfl (fun B3 => ?_))
      refine L_op rfl (op_store (vs := [.int .i64 ((rK goodP (prX la K) (prX lb K) K).1 + (rK goodP (prX la K) (prX lb K) K).2.1), .int .i64 0, .int .i64 (rK goodP (prX la K) (prX lb K) K).2.2]) 0 0 rfl rfl rfl sz_32 rfl rfl (ones rfl) (Nat.le_of_ble_eq_true rfl) ?_)
      refine L_nil ?_
      refine C_seq ?_
      refine C_region ?_
      refine L_y rfl (y_assign rfl) rfl ?_
      refine L_nil ?_
      refine C_seq ?_
      refine C_seq ?_
      refine C_region ?_
      refine L_y rfl (y_indexA rfl rfl Try.underlying27 sz_26 (by omega) (by omega) (show _ = 0 from rfl)) rfl ?_
      refine L_y rfl (y_load rfl ag_26 (sees 4 0 rfl) rfl) rfl ?_
      refine L_y rfl (y_lenV hga1 rfl rfl Try.underlying26) rfl ?_
      refine L_y rfl (y_move rfl) rfl ?_
      refine L_nil ?_
      refine C_block ?_
      refine C_loop (ι := Nat) (fun k => [(40, .int .i64 ((K : Nat) : Int)), (41, .int .i64 (k : Int)), (7, ptr mb1), (8, ptr B1), (9, ptr B2), (10, ptr B3), (11, .int .i64 (rK goodP (prX la K) (prX lb K) k).2.2)]) (fun k => m3.seg 109 :: D3.seg dt :: [(B3, .cells [.int .i64 ((rK goodP (prX la K) (prX lb K) K).1 + (rK goodP (prX la K) (prX lb K) K).2.1), .int .i64 0, .int .i64 (rK goodP (prX la K) (prX lb K) K).2.2].toArray 32)] :: [(B2, .cells [.int .i64 (rK goodP (prX la K) (prX lb K) K).1, .int .i64 (rK goodP (prX la K) (prX lb K) K).2.1, .int .i64 (rK goodP (prX la K) (prX lb K) K).2.2].toArray 32)] :: [(B1, .cells [slV ga1 K, slV gb1 K].toArray 27)] :: slSeg 37 ga1 (bs (prX la K).flatten) :: slSeg 37 gb1 (bs (prX lb K).flatten) :: H) (fun k => k ≤ K) (fun k => K - k) 0 (Nat.zero_le _) ⟨rfl, rfl, rfl, rfl, rfl, rfl, rfl, trivial⟩ ((hsub (.cons_cons _ (.cons_cons _ (.cons_cons _ (.cons_cons _ (.cons_cons _ (.cons_cons _ (.cons_cons _ (.refl _))))))))).trans (hsub_pick [1, 1, 0, 0, 0, 0, 0] rfl)) (fun k hk => ?_)
      skip
      refine C_seq ?_
      refine C_region ?_
      refine L_y rfl (y_lss rfl rfl) rfl ?_
      refine L_nil ?_
      refine C_seq ?_
      refine C_cond rfl (fun hc1 => ?_) (fun hc1 => ?_)
      · replace hc1 : k < K := by have := of_decide_eq_true hc1; omega
        obtain ⟨s, hs⟩ : ∃ s, (prX la K)[k]? = some s := ⟨_, gt_get hS1.vw.a.wlen (by omega)⟩
        obtain ⟨t, ht⟩ : ∃ t, (prX lb K)[k]? = some t := ⟨_, gt_get hS1.vw.b.wlen (by omega)⟩
        refine C_skip ?_
        refine C_seq ?_
        refine C_block ?_
        refine C_seq ?_
        refine C_region ?_
        refine L_y rfl (y_move rfl) rfl ?_
        refine L_y rfl (y_assign rfl) rfl ?_
        refine L_nil ?_
        refine C_seq ?_
        refine C_region ?_
        refine L_y rfl (y_move rfl) rfl ?_
        refine L_y rfl (y_move rfl) rfl ?_
        refine L_op rfl (op_call rfl rfl (fun a w => Try.call24 a w) rfl ?_)
        refine (FnS.sub (hsub_pick [0, 0] rfl) (both_v hS3 (XK_at (by omega) (XK_at (by omega) hs ht) (YK_at (by omega) hs ht)) (YK_at (by omega) (XK_at (by omega) hs ht) (YK_at (by omega) hs ht)))).mono ?_
        rintro _ _ ⟨gq, hgq, rfl, rfl⟩
        refine ⟨_, rfl, ?_⟩
        refine L_y rfl (y_lenV hgq rfl rfl Try.underlying26) rfl ?_
        refine L_y rfl (y_eqi rfl rfl) rfl ?_
        refine L_nil ?_
        refine C_cond rfl (fun hc2 => ?_) (fun hc2 => ?_)
        · have hl := (lost_at (p := goodP) hs ht).trans (by rw [if_pos hc2])
          refine C_region ?_
          refine L_y rfl (y_move rfl) rfl ?_
          refine L_y rfl (y_add rfl rfl (wi64 (by have := rK_le goodP (prX la K) (prX lb K) k; omega) (by have := rK_le goodP (prX la K) (prX lb K) k; omega))) rfl ?_
          refine L_y rfl (y_assign rfl) rfl ?_
          refine L_nil ?_
          refine C_region ?_
          refine L_y rfl (y_add rfl rfl (wi64 (by omega) (by omega))) rfl ?_
          refine L_y rfl (y_move rfl) rfl ?_
          refine L_nil ?_
          exact ⟨k + 1, by omega, by omega, ⟨rfl, rfl, rfl, rfl, rfl, rfl, congrArg (fun z => some (Value.int .i64 z)) hl.symm, trivial⟩, ((hsub (.cons_cons _ (.cons_cons _ (.cons_cons _ (.cons_cons _ (.cons_cons _ (.cons_cons _ (.cons_cons _ (.cons _ (.refl _)))))))))).trans (hsub_pick [1, 1, 1, 1, 1, 1, 1] rfl))⟩
        · have hl := (lost_at (p := goodP) hs ht).trans (by rw [if_neg (by rw [hc2]; decide), Int.add_zero])
          refine C_skip ?_
          refine C_region ?_
          refine L_y rfl (y_add rfl rfl (wi64 (by omega) (by omega))) rfl ?_
          refine L_y rfl (y_move rfl) rfl ?_
          refine L_nil ?_
          exact ⟨k + 1, by omega, by omega, ⟨rfl, rfl, rfl, rfl, rfl, rfl, congrArg (fun z => some (Value.int .i64 z)) hl.symm, trivial⟩, ((hsub (.cons_cons _ (.cons_cons _ (.cons_cons _ (.cons_cons _ (.cons_cons _ (.cons_cons _ (.cons_cons _ (.cons _ (.refl _)))))))))).trans (hsub_pick [1, 1, 1, 1, 1, 1, 1] rfl))⟩
      · replace hc1 := of_decide_eq_false hc1
        refine C_exit ?_
        refine C_seq ?_
        obtain rfl : K = k := by omega
        obtain ⟨q1, q2⟩ := rK_again (p := goodP) (X := (prX la K)) (Y := (prX lb K)) (K := K) K (Nat.le_refl _)
        have q3 := rK_le goodP (prX la K) (prX lb K) K
        refine C_region ?_
        refine L_y rfl (y_fieldAddr rfl fl_32_0) rfl ?_
        refine L_y rfl (y_load rfl ag_3 (sees 3 0 rfl) rfl) rfl ?_
        refine L_y rfl (y_fieldAddr rfl fl_32_1) rfl ?_
        refine L_y rfl (y_load rfl ag_3 (sees 3 0 rfl) rfl) rfl ?_
        refine L_y rfl (y_add rfl rfl (wi64 (by omega) (by omega))) rfl ?_
        refine L_y rfl (y_fieldAddr rfl fl_32_2) rfl ?_
        refine L_y rfl (y_load rfl ag_3 (sees 3 0 rfl) rfl) rfl ?_
        refine L_y rfl (y_add rfl rfl (wi64 (by omega) (by omega))) rfl ?_
        refine L_y rfl (y_indexA rfl rfl Try.underlying27 sz_26 (by omega) (by omega) (show _ = 0 from rfl)) rfl ?_
        refine L_y rfl (y_load rfl ag_26 (sees 4 0 rfl) rfl) rfl ?_
        refine L_y rfl (y_lenV hga1 rfl rfl Try.underlying26) rfl ?_
        refine L_y rfl (y_eqi rfl rfl) rfl ?_
        refine L_y rfl (y_move rfl) rfl ?_
        refine L_case 64 rfl (fun hg13_13 => ?_) (fun hg13_13 => ?_)
        · skip
          refine L_y rfl (y_fieldAddr rfl fl_32_1) rfl ?_
          refine L_y rfl (y_load rfl ag_3 (sees 2 0 rfl) rfl) rfl ?_
          refine L_y rfl (y_eqi rfl rfl) rfl ?_
          refine L_y rfl (y_pick_t rfl rfl) rfl ?_
          refine L_y rfl (y_move rfl) rfl ?_
          refine L_case 69 rfl (fun hg13_18 => ?_) (fun hg13_18 => ?_)
          · skip
            refine L_y rfl (y_fieldAddr rfl fl_32_0) rfl ?_
            refine L_y rfl (y_load rfl ag_3 (sees 2 0 rfl) rfl) rfl ?_
            refine L_y rfl (y_fieldAddr rfl fl_32_0) rfl ?_
            refine L_y rfl (y_load rfl ag_3 (sees 3 0 rfl) rfl) rfl ?_
            refine L_y rfl (y_fieldAddr rfl fl_32_1) rfl ?_
            refine L_y rfl (y_load rfl ag_3 (sees 3 0 rfl) rfl) rfl ?_
            refine L_y rfl (y_add rfl rfl (wi64 (by omega) (by omega))) rfl ?_
            refine L_y rfl (y_eqi rfl rfl) rfl ?_
            refine L_y rfl (y_pick_t rfl rfl) rfl ?_
            refine L_y rfl (y_move rfl) rfl ?_
            refine L_case 79 rfl (fun hg13_28 => ?_) (fun hg13_28 => ?_)
            · skip
              refine L_y rfl (y_fieldAddr rfl fl_32_2) rfl ?_
              refine L_y rfl (y_load rfl ag_3 (sees 2 0 rfl) rfl) rfl ?_
              refine L_y rfl (y_fieldAddr rfl fl_32_2) rfl ?_
              refine L_y rfl (y_load rfl ag_3 (sees 3 0 rfl) rfl) rfl ?_
              refine L_y rfl (y_eqi rfl rfl) rfl ?_
              refine L_y rfl (y_pick_t rfl rfl) rfl ?_
              refine L_y rfl (y_move rfl) rfl ?_
              refine L_case 86 rfl (fun hg13_35 => ?_) (fun hg13_35 => ?_)
              · skip
                refine L_y rfl (y_fieldAddr rfl fl_32_2) rfl ?_
                refine L_y rfl (y_load rfl ag_3 (sees 3 0 rfl) rfl) rfl ?_
                refine L_y rfl (y_move rfl) rfl ?_
                refine L_y rfl (y_eqi rfl rfl) rfl ?_
                refine L_y rfl (y_pick_t rfl rfl) rfl ?_
                refine L_y rfl (y_assign rfl) rfl ?_
                refine L_nil ?_
                refine C_ret ?_
                refine B_ret (rv_tmp rfl rv_nil) (HSub.refl _) ?_
                exact ret_bool (by simp)
              · exact absurd hg13_35 (by simp; try omega)
            · exact absurd hg13_28 (by simp; try omega)
          · exact absurd hg13_18 (by simp; try omega)
        · exact absurd hg13_13 (by simp; try omega)

end Go.Proofs.Ytoaalclbplgegaa
