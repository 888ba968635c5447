/- walks (own work; the walks' lines by a program of this repo). -/
import Derived.Test.YtoaalclbplgegaaS6W
set_option linter.unusedVariables false
set_option linter.unusedSimpArgs false
set_option maxRecDepth 20000
namespace Go.Proofs.Ytoaalclbplgegaa
open Go.Sl
attribute [local irreducible] BodyQ WpC WpL WpS WpH OpW FnS



set_option maxHeartbeats 4000000 in

theorem scrubturned_s {w0 : World} {H : Hp} {pa pb2 : Option Addr} {ca cb : Nat} {la lb : List (UInt8 × UInt8)} (hA : Holds w0 H pa (bs (pb la))) (hB : Holds w0 H pb2 (bs (pb lb))) : FnS Try.prog w0 8 #[.slice pa la.length ca, .slice pb2 lb.length cb] H (fun e H' => e = .returned (.bool true)) := by
  refine FnS_intro (n := 113) (rs := [.tmp 4]) (vs := [.slice pa la.length ca, .slice pb2 lb.length cb]) Try.func8 rfl Try.ntmps8 rfl rfl ?_
  refine C_seq ?_
  refine C_region ?_
  refine L_y rfl (y_assign rfl) rfl ?_
  refine L_nil ?_
  refine C_seq ?_
  refine C_seq ?_
  refine C_region ?_
  refine L_op rfl (op_call rfl rfl (fun a w => Try.call13 a w) rfl ?_)
  refine awake10_s.mono ?_
  rintro _ _ ⟨rfl, e⟩
  obtain rfl := e.symm
  refine ⟨_, rfl, ?_⟩
  refine L_y rfl (y_not rfl) rfl ?_
  refine L_y rfl (y_move rfl) rfl ?_
  refine L_y rfl (y_move rfl) rfl ?_
  refine L_y rfl (y_lenS rfl rfl Try.underlying22) rfl ?_
  refine L_y rfl (y_gtr rfl rfl) rfl ?_
  refine L_y rfl (y_pick_f rfl rfl) rfl ?_
  refine L_y rfl (y_move rfl) rfl ?_
  refine L_case 26 rfl (fun hg1_8 => ?_) (fun hg1_8 => ?_)
  · skip
    refine L_skip rfl rfl ?_
    refine L_skip rfl rfl ?_
    refine L_skip rfl rfl ?_
    refine L_y rfl (y_pick_t rfl rfl) rfl ?_
    refine L_nil ?_
    refine C_cond_t rfl ?_
    refine C_seq ?_
    refine C_region ?_
    refine L_op rfl (op_call rfl rfl (fun a w => Try.call13 a w) rfl ?_)
    refine awake10_s.mono ?_
    rintro _ _ ⟨rfl, e⟩
    obtain rfl := e.symm
    refine ⟨_, rfl, ?_⟩
    refine L_y rfl (y_assign rfl) rfl ?_
    refine L_nil ?_
    refine C_ret ?_
    refine B_ret (rv_tmp rfl rv_nil) (HSub.refl _) ?_
    first | rfl | (exfalso; clear hS1 hS2 hS3 hS4 hA hB; rcases rdv_turn (p := goodP) (n := (k : Int)) (a := s) (b := t) with he | ⟨h1, h2, h3⟩ <;> simp_all [rde_turn])
  · have q0 := of_decide_eq_false hg1_8
    refine L_y rfl (y_move rfl) rfl ?_
    refine L_y rfl (y_lenS rfl rfl Try.underlying22) rfl ?_
    refine L_y rfl (y_gtr rfl rfl) rfl ?_
    refine L_y rfl (y_pick_f rfl rfl) rfl ?_
    refine L_nil ?_
    refine C_cond rfl (fun hc0 => ?_) (fun hc0 => ?_)
    · replace hc0 := of_decide_eq_true hc0
      refine C_seq ?_
      refine C_region ?_
      refine L_op rfl (op_call rfl rfl (fun a w => Try.call13 a w) rfl ?_)
      refine awake10_s.mono ?_
      rintro _ _ ⟨rfl, e⟩
      obtain rfl := e.symm
      refine ⟨_, rfl, ?_⟩
      refine L_y rfl (y_assign rfl) rfl ?_
      refine L_nil ?_
      refine C_ret ?_
      refine B_ret (rv_tmp rfl rv_nil) (HSub.refl _) ?_
      first | rfl | (exfalso; clear hS1 hS2 hS3 hS4 hA hB; rcases rdv_turn (p := goodP) (n := (k : Int)) (a := s) (b := t) with he | ⟨h1, h2, h3⟩ <;> simp_all [rde_turn])
    · replace hc0 := of_decide_eq_false hc0
      refine C_skip ?_
      refine C_seq ?_
      obtain ⟨K, hK⟩ : ∃ K, min la.length lb.length = K := ⟨_, rfl⟩
      have hK12 : K ≤ 12 := by omega
      refine C_region ?_
      refine L_y rfl (y_move rfl) rfl ?_
      refine L_y rfl (y_move rfl) rfl ?_
      refine L_op rfl (op_call rfl rfl (fun a w => Try.call14 a w) rfl ?_)
      refine FnS.mono (pair_v (la := la) (lb := lb) (K := K) (hA) (hB) (by omega) hK) ?_
      rintro _ _ ⟨D1, A1, m1, mb1, bx1, by1, bp1, ga1, gb1, hS1, hga1, hgb1, rfl, rfl⟩
      refine ⟨_, rfl, ?_⟩
      refine L_y rfl (y_move rfl) rfl ?_
      refine L_y rfl (y_extract rfl rfl) rfl ?_
      refine L_y rfl (y_extract rfl rfl) rfl ?_
      refine L_y rfl (y_extract rfl rfl) rfl ?_
      refine L_y rfl (y_extract rfl rfl) rfl ?_
      refine L_op rfl (op_alloc zl_27 rfl (fun B1 => ?_))
      refine L_y rfl (y_assign rfl) rfl ?_
      refine L_y rfl (y_assign rfl) rfl ?_
      refine L_y rfl (y_assign rfl) rfl ?_
      refine L_op rfl (op_store (vs := [slV ga1 K, slV gb1 K]) 0 0 rfl rfl rfl sz_27 rfl rfl (fun v hv => by simp at hv; rcases hv with rfl | rfl <;> exact one_slV _ _) (Nat.le_of_ble_eq_true rfl) ?_)
      refine L_nil ?_
      refine C_seq ?_
      refine C_region ?_
      refine L_y rfl (y_move rfl) rfl ?_
      refine L_y rfl (y_move rfl) rfl ?_
      refine L_op rfl (op_call rfl rfl (fun a w => Try.call14 a w) rfl ?_)
      refine FnS.mono (pair_v (la := lb) (lb := la) (K := K) (hB.up.up.up.up.up) (hA.up.up.up.up.up) (by omega) (by omega)) ?_
      rintro _ _ ⟨D2, A2, m2, mb2, bx2, by2, bp2, ga2, gb2, hS2, hga2, hgb2, rfl, rfl⟩
      refine ⟨_, rfl, ?_⟩
      refine L_y rfl (y_move rfl) rfl ?_
      refine L_y rfl (y_extract rfl rfl) rfl ?_
      refine L_y rfl (y_extract rfl rfl) rfl ?_
      refine L_y rfl (y_extract rfl rfl) rfl ?_
      refine L_y rfl (y_extract rfl rfl) rfl ?_
      refine L_op rfl (op_alloc zl_27 rfl (fun B2 => ?_))
      refine L_y rfl (y_assign rfl) rfl ?_
      refine L_y rfl (y_assign rfl) rfl ?_
      refine L_y rfl (y_assign rfl) rfl ?_
      refine L_op rfl (op_store (vs := [slV ga2 K, slV gb2 K]) 0 0 rfl rfl rfl sz_27 rfl rfl (fun v hv => by simp at hv; rcases hv with rfl | rfl <;> exact one_slV _ _) (Nat.le_of_ble_eq_true rfl) ?_)
      refine L_nil ?_
      refine C_seq ?_
      refine C_seq ?_
      refine C_region ?_
      refine L_y rfl (y_move rfl) rfl ?_
      refine L_op rfl (op_call rfl rfl (fun a w => Try.call16 a w) rfl ?_)
      refine (FnS.sub (hsub_pick [6, 6] rfl) (all_v hS1 (by omega) (by omega) (by omega) (r := (rK goodP (prX la K) (prX lb K) K)) rfl)).mono ?_
      rintro _ _ ⟨rfl, D3, A3, m3, hS3, rfl⟩
      refine ⟨_, rfl, ?_⟩
      refine L_y rfl (y_move rfl) rfl ?_
      refine L_op rfl (op_call rfl rfl (fun a w => Try.call16 a w) rfl ?_)
      refine (FnS.sub (hsub_pick [3, 3] rfl) (all_v hS2 (by omega) (by omega) (by omega) (r := (rK goodP (prX la K) (prX lb K) K)) (rK_turn K))).mono ?_
      rintro _ _ ⟨rfl, D4, A4, m4, hS4, rfl⟩
      refine ⟨_, rfl, ?_⟩
      refine L_y rfl (y_nest (xs := [(rK goodP (prX la K) (prX lb K) K).1, (rK goodP (prX la K) (prX lb K) K).2.1, (rK goodP (prX la K) (prX lb K) K).2.2]) (ys := [(rK goodP (prX la K) (prX lb K) K).1, (rK goodP (prX la K) (prX lb K) K).2.1, (rK goodP (prX la K) (prX lb K) K).2.2]) rfl rfl fi_32 eg_32 rfl rfl) rfl ?_
      refine L_nil ?_
      refine C_cond rfl (fun hc1 => absurd hc1 (by simp)) (fun hc1 => ?_)
      refine C_skip ?_
      refine C_seq ?_
      refine C_seq ?_
      refine C_region ?_
      refine L_y rfl (y_indexA rfl rfl Try.underlying27 sz_26 (by omega) (by omega) (show _ = 0 from rfl)) rfl ?_
      refine L_y rfl (y_load rfl ag_26 (sees 7 0 rfl) rfl) rfl ?_
      refine L_y rfl (y_lenV hga1 rfl rfl Try.underlying26) rfl ?_
      refine L_y rfl (y_move rfl) rfl ?_
      refine L_nil ?_
      refine C_block ?_
      refine C_loop (ι := Nat) (fun k => [(55, .int .i64 ((K : Nat) : Int)), (56, .int .i64 (k : Int)), (7, ptr mb1), (8, ptr B1), (11, ptr mb2)]) (fun k => m3.seg 109 :: D3.seg dt :: m4.seg 109 :: D4.seg dt :: [(B1, .cells [slV ga1 K, slV gb1 K].toArray 27)] :: slSeg 37 ga1 (bs (prX la K).flatten) :: slSeg 37 gb1 (bs (prX lb K).flatten) :: H) (fun k => k ≤ K) (fun k => K - k) 0 (Nat.zero_le _) ⟨rfl, rfl, rfl, rfl, rfl, trivial⟩ ((hsub (.cons_cons _ (.cons_cons _ (.cons_cons _ (.cons_cons _ (.cons_cons _ (.cons_cons _ (.cons_cons _ (.cons _ (.cons _ (.cons _ (.refl _)))))))))))).trans (hsub_pick [2, 2, 0, 0, 3, 3, 3] rfl)) (fun k hk => ?_)
      skip
      refine C_seq ?_
      refine C_region ?_
      refine L_y rfl (y_lss rfl rfl) rfl ?_
      refine L_nil ?_
      refine C_seq ?_
      refine C_cond rfl (fun hc2 => ?_) (fun hc2 => ?_)
      · replace hc2 : k < K := by have := of_decide_eq_true hc2; omega
        obtain ⟨s, hs⟩ : ∃ s, (prX la K)[k]? = some s := ⟨_, gt_get hS1.vw.a.wlen (by omega)⟩
        obtain ⟨t, ht⟩ : ∃ t, (prX lb K)[k]? = some t := ⟨_, gt_get hS1.vw.b.wlen (by omega)⟩
        have hs8 := hS1.okX s (List.mem_of_getElem? hs)
        have ht8 := hS1.okY t (List.mem_of_getElem? ht)
        have hfa := flat_len hS1.okX
        have hfb := flat_len hS1.okY
        have hla := hS1.vw.a.wlen
        have hlb := hS1.vw.b.wlen
        cases ga1 with
        | none => exact slOk_none hga1 (by omega)
        | some ga1 => ?_
        cases gb1 with
        | none => exact slOk_none hgb1 (by omega)
        | some gb1 => ?_
        refine C_skip ?_
        refine C_seq ?_
        refine C_block ?_
        refine C_seq ?_
        refine C_region ?_
        refine L_y rfl (y_move rfl) rfl ?_
        refine L_y rfl (y_assign rfl) rfl ?_
        refine L_nil ?_
        refine C_seq ?_
        refine C_region ?_
        refine L_y rfl (y_move rfl) rfl ?_
        refine L_y rfl (y_move rfl) rfl ?_
        refine L_op rfl (op_call rfl rfl (fun a w => Try.call25 a w) rfl ?_)
        refine (FnS.sub (hsub_pick [0, 0] rfl) (mread_aft2 hS3 hc2 hs ht)).mono ?_
        rintro _ _ ⟨rfl, rfl⟩
        refine ⟨_, rfl, ?_⟩
        refine L_y rfl (y_move rfl) rfl ?_
        refine L_y rfl (y_extract rfl rfl) rfl ?_
        refine L_y rfl (y_extract rfl rfl) rfl ?_
        refine L_op rfl (op_alloc zl_37 rfl (fun B3 => ?_))
        refine L_op rfl (op_storeA 0 0 rfl rfl rfl sz_37 (by rw [bs_length, rdv_len hs8 ht8]) rfl (bs_one _) (by simp) ?_)
        refine L_y rfl (y_assign rfl) rfl ?_
        refine L_nil ?_
        refine C_seq ?_
        refine C_region ?_
        refine L_y rfl (y_move rfl) rfl ?_
        refine L_y rfl (y_move rfl) rfl ?_
        refine L_op rfl (op_call rfl rfl (fun a w => Try.call25 a w) rfl ?_)
        refine (FnS.sub (hsub_pick [3, 3] rfl) (mread_aft2 hS4 hc2 ht hs)).mono ?_
        rintro _ _ ⟨rfl, rfl⟩
        refine ⟨_, rfl, ?_⟩
        refine L_y rfl (y_move rfl) rfl ?_
        refine L_y rfl (y_extract rfl rfl) rfl ?_
        refine L_y rfl (y_extract rfl rfl) rfl ?_
        refine L_op rfl (op_alloc zl_37 rfl (fun B4 => ?_))
        refine L_op rfl (op_storeA 0 0 rfl rfl rfl sz_37 (by rw [bs_length, rdv_len ht8 hs8]) rfl (bs_one _) (by simp) ?_)
        refine L_y rfl (y_assign rfl) rfl ?_
        refine L_nil ?_
        refine C_seq ?_
        refine C_regionH0 (by kernel_rfl) ?_
        refine H_y 0 rfl (by kernel_rfl) (by kernel_rfl) (by kernel_rfl) (HSub.refl _) rfl (y_move rfl) rfl ?_
        refine H_y 1 rfl (by kernel_rfl) (by kernel_rfl) (by kernel_rfl) (HSub.refl _) rfl (y_indexA rfl rfl Try.underlying27 sz_26 (by omega) (by omega) (show _ = 0 from rfl)) rfl ?_
        refine H_y 2 rfl (by kernel_rfl) (by kernel_rfl) (by kernel_rfl) (HSub.refl _) rfl (y_load rfl ag_26 (sees 6 0 rfl) rfl) rfl ?_
        refine H_y 3 rfl (by kernel_rfl) (by kernel_rfl) (by kernel_rfl) (HSub.refl _) rfl (y_move rfl) rfl ?_
        refine H_y 4 rfl (by kernel_rfl) (by kernel_rfl) (by kernel_rfl) (HSub.refl _) rfl (y_indexS rfl rfl Try.underlying26 sz_37 (by omega) (by omega) (show _ = 0 + k * 128 from by simp)) rfl ?_
        refine H_y 5 rfl (by kernel_rfl) (by kernel_rfl) (by kernel_rfl) (HSub.refl _) rfl (y_loadA rfl ag_37 sz_37 (sees 7 0 rfl) (by rw [List.length_append, bs_length, hfa]; omega) (sec_at (n := 0) hS1.okX (by simp) hs)) rfl ?_
        refine H_one 6 rfl (by kernel_rfl) rfl (op_call rfl rfl (fun a w => Try.call26 a w) rfl ?_)
        refine (good09_s k s hs8).mono ?_
        rintro _ _ ⟨rfl, e⟩
        obtain rfl := e.symm
        refine ⟨_, rfl, ?_⟩
        refine ⟨HSub.refl _, ?_⟩
        refine H_y 7 rfl (by kernel_rfl) (by kernel_rfl) (by kernel_rfl) (HSub.refl _) rfl (y_move rfl) rfl ?_
        refine H_case 78 rfl (fun hg12_8 => ?_) (fun hg12_8 => ?_)
        · skip
          refine H_y 8 rfl (by kernel_rfl) (by kernel_rfl) (by kernel_rfl) (HSub.refl _) rfl (y_move rfl) rfl ?_
          refine H_y 9 rfl (by kernel_rfl) (by kernel_rfl) (by kernel_rfl) (HSub.refl _) rfl (y_indexA rfl rfl Try.underlying27 sz_26 (by omega) (by omega) (show _ = 1 from rfl)) rfl ?_
          refine H_y 10 rfl (by kernel_rfl) (by kernel_rfl) (by kernel_rfl) (HSub.refl _) rfl (y_load rfl ag_26 (sees 6 0 rfl) rfl) rfl ?_
          refine H_y 11 rfl (by kernel_rfl) (by kernel_rfl) (by kernel_rfl) (HSub.refl _) rfl (y_move rfl) rfl ?_
          refine H_y 12 rfl (by kernel_rfl) (by kernel_rfl) (by kernel_rfl) (HSub.refl _) rfl (y_indexS rfl rfl Try.underlying26 sz_37 (by omega) (by omega) (show _ = 0 + k * 128 from by simp)) rfl ?_
          refine H_y 13 rfl (by kernel_rfl) (by kernel_rfl) (by kernel_rfl) (HSub.refl _) rfl (y_loadA rfl ag_37 sz_37 (sees 8 0 rfl) (by rw [List.length_append, bs_length, hfb]; omega) (sec_at (n := 0) hS1.okY (by simp) ht)) rfl ?_
          refine H_one 14 rfl (by kernel_rfl) rfl (op_call rfl rfl (fun a w => Try.call26 a w) rfl ?_)
          refine (good09_s k t ht8).mono ?_
          rintro _ _ ⟨rfl, e⟩
          obtain rfl := e.symm
          refine ⟨_, rfl, ?_⟩
          refine ⟨HSub.refl _, ?_⟩
          refine H_y 15 rfl (by kernel_rfl) (by kernel_rfl) (by kernel_rfl) (HSub.refl _) rfl (y_pick_t rfl rfl) rfl ?_
          refine H_y 16 rfl (by kernel_rfl) (by kernel_rfl) (by kernel_rfl) (HSub.refl _) rfl (y_move rfl) rfl ?_
          refine H_case 87 rfl (fun hg12_17 => ?_) (fun hg12_17 => ?_)
          · skip
            refine H_y 17 rfl (by kernel_rfl) (by kernel_rfl) (by kernel_rfl) (HSub.refl _) rfl (y_indexA rfl rfl Try.underlying27 sz_26 (by omega) (by omega) (show _ = 0 from rfl)) rfl ?_
            refine H_y 18 rfl (by kernel_rfl) (by kernel_rfl) (by kernel_rfl) (HSub.refl _) rfl (y_load rfl ag_26 (sees 6 0 rfl) rfl) rfl ?_
            refine H_y 19 rfl (by kernel_rfl) (by kernel_rfl) (by kernel_rfl) (HSub.refl _) rfl (y_move rfl) rfl ?_
            refine H_y 20 rfl (by kernel_rfl) (by kernel_rfl) (by kernel_rfl) (HSub.refl _) rfl (y_indexS rfl rfl Try.underlying26 sz_37 (by omega) (by omega) (show _ = 0 + k * 128 from by simp)) rfl ?_
            refine H_y 21 rfl (by kernel_rfl) (by kernel_rfl) (by kernel_rfl) (HSub.refl _) rfl (y_loadA rfl ag_37 sz_37 (sees 7 0 rfl) (by rw [List.length_append, bs_length, hfa]; omega) (sec_at (n := 0) hS1.okX (by simp) hs)) rfl ?_
            refine H_y 22 rfl (by kernel_rfl) (by kernel_rfl) (by kernel_rfl) (HSub.refl _) rfl (y_indexA rfl rfl Try.underlying27 sz_26 (by omega) (by omega) (show _ = 1 from rfl)) rfl ?_
            refine H_y 23 rfl (by kernel_rfl) (by kernel_rfl) (by kernel_rfl) (HSub.refl _) rfl (y_load rfl ag_26 (sees 6 0 rfl) rfl) rfl ?_
            refine H_y 24 rfl (by kernel_rfl) (by kernel_rfl) (by kernel_rfl) (HSub.refl _) rfl (y_move rfl) rfl ?_
            refine H_y 25 rfl (by kernel_rfl) (by kernel_rfl) (by kernel_rfl) (HSub.refl _) rfl (y_indexS rfl rfl Try.underlying26 sz_37 (by omega) (by omega) (show _ = 0 + k * 128 from by simp)) rfl ?_
            refine H_y 26 rfl (by kernel_rfl) (by kernel_rfl) (by kernel_rfl) (HSub.refl _) rfl (y_loadA rfl ag_37 sz_37 (sees 8 0 rfl) (by rw [List.length_append, bs_length, hfb]; omega) (sec_at (n := 0) hS1.okY (by simp) ht)) rfl ?_
            refine H_y 27 rfl (by kernel_rfl) (by kernel_rfl) (by kernel_rfl) (HSub.refl _) rfl (y_nea rfl rfl Try.underlying37 Try.underlying5 sz_5 eg_37 hs8 ht8) rfl ?_
            refine H_y 28 rfl (by kernel_rfl) (by kernel_rfl) (by kernel_rfl) (HSub.refl _) rfl (y_pick_t rfl rfl) rfl ?_
            refine H_y 29 rfl (by kernel_rfl) (by kernel_rfl) (by kernel_rfl) (HSub.refl _) rfl (y_assign rfl) rfl ?_
            refine H_done (by kernel_rfl) ?_
            refine C_seq ?_
            refine C_region ?_
            refine L_y rfl (y_move rfl) rfl ?_
            refine L_y rfl (y_move rfl) rfl ?_
            refine L_y rfl (y_nei rfl rfl) rfl ?_
            refine L_y rfl (y_move rfl) rfl ?_
            refine L_case 103 rfl (fun hg13_4 => ?_) (fun hg13_4 => ?_)
            · exact absurd hg13_4 (by simp [rde_turn])
            · skip
              refine L_y rfl (y_loadA rfl ag_37 sz_37 (sees 3 0 rfl) (by rw [bs_length, rdv_len hs8 ht8]; decide) (bs_whole0 _ (rdv_len hs8 ht8))) rfl ?_
              refine L_y rfl (y_loadA rfl ag_37 sz_37 (sees 0 0 rfl) (by rw [bs_length, rdv_len ht8 hs8]; decide) (bs_whole0 _ (rdv_len ht8 hs8))) rfl ?_
              refine L_y rfl (y_nea rfl rfl Try.underlying37 Try.underlying5 sz_5 eg_37 (rdv_len hs8 ht8) (rdv_len ht8 hs8)) rfl ?_
              refine L_y rfl (y_move rfl) rfl ?_
              refine L_case 107 rfl (fun hg13_8 => ?_) (fun hg13_8 => ?_)
              · skip
                refine L_y rfl (y_move rfl) rfl ?_
                refine L_y rfl (y_not rfl) rfl ?_
                refine L_y rfl (y_pick_t rfl rfl) rfl ?_
                refine L_y rfl (y_pick_f rfl rfl) rfl ?_
                refine L_nil ?_
                refine C_cond rfl (fun hc3 => absurd hc3 (by rcases rdv_turn (p := goodP) (n := (k : Int)) (a := s) (b := t) with he | ⟨h1, h2, h3⟩ <;> simp_all [rde_turn])) (fun hc3 => ?_)
                refine C_skip ?_
                refine C_region ?_
                refine L_y rfl (y_add rfl rfl (wi64 (by omega) (by omega))) rfl ?_
                refine L_y rfl (y_move rfl) rfl ?_
                refine L_nil ?_
                exact ⟨k + 1, by omega, by omega, ⟨rfl, rfl, rfl, rfl, rfl, trivial⟩, ((hsub (.cons_cons _ (.cons_cons _ (.cons_cons _ (.cons_cons _ (.cons_cons _ (.cons_cons _ (.cons_cons _ (.cons _ (.cons _ (.refl _))))))))))).trans (hsub_pick [4, 4, 1, 1, 2, 2, 2] rfl))⟩
              · skip
                refine L_skip rfl rfl ?_
                refine L_skip rfl rfl ?_
                refine L_y rfl (y_pick_f rfl rfl) rfl ?_
                refine L_y rfl (y_pick_f rfl rfl) rfl ?_
                refine L_nil ?_
                refine C_cond_f rfl ?_
                refine C_skip ?_
                refine C_region ?_
                refine L_y rfl (y_add rfl rfl (wi64 (by omega) (by omega))) rfl ?_
                refine L_y rfl (y_move rfl) rfl ?_
                refine L_nil ?_
                exact ⟨k + 1, by omega, by omega, ⟨rfl, rfl, rfl, rfl, rfl, trivial⟩, ((hsub (.cons_cons _ (.cons_cons _ (.cons_cons _ (.cons_cons _ (.cons_cons _ (.cons_cons _ (.cons_cons _ (.cons _ (.cons _ (.refl _))))))))))).trans (hsub_pick [4, 4, 1, 1, 2, 2, 2] rfl))⟩
          · skip
            refine H_skip 17 rfl (by kernel_rfl) (by kernel_rfl) (by kernel_rfl) (HSub.refl _) rfl rfl ?_
            refine H_skip 18 rfl (by kernel_rfl) (by kernel_rfl) (by kernel_rfl) (HSub.refl _) rfl rfl ?_
            refine H_skip 19 rfl (by kernel_rfl) (by kernel_rfl) (by kernel_rfl) (HSub.refl _) rfl rfl ?_
            refine H_skip 20 rfl (by kernel_rfl) (by kernel_rfl) (by kernel_rfl) (HSub.refl _) rfl rfl ?_
            refine H_skip 21 rfl (by kernel_rfl) (by kernel_rfl) (by kernel_rfl) (HSub.refl _) rfl rfl ?_
            refine H_skip 22 rfl (by kernel_rfl) (by kernel_rfl) (by kernel_rfl) (HSub.refl _) rfl rfl ?_
            refine H_skip 23 rfl (by kernel_rfl) (by kernel_rfl) (by kernel_rfl) (HSub.refl _) rfl rfl ?_
            refine H_skip 24 rfl (by kernel_rfl) (by kernel_rfl) (by kernel_rfl) (HSub.refl _) rfl rfl ?_
            refine H_skip 25 rfl (by kernel_rfl) (by kernel_rfl) (by kernel_rfl) (HSub.refl _) rfl rfl ?_
            refine H_skip 26 rfl (by kernel_rfl) (by kernel_rfl) (by kernel_rfl) (HSub.refl _) rfl rfl ?_
            refine H_skip 27 rfl (by kernel_rfl) (by kernel_rfl) (by kernel_rfl) (HSub.refl _) rfl rfl ?_
            refine H_y 28 rfl (by kernel_rfl) (by kernel_rfl) (by kernel_rfl) (HSub.refl _) rfl (y_pick_f rfl rfl) rfl ?_
            refine H_y 29 rfl (by kernel_rfl) (by kernel_rfl) (by kernel_rfl) (HSub.refl _) rfl (y_assign rfl) rfl ?_
            refine H_done (by kernel_rfl) ?_
            refine C_seq ?_
            refine C_region ?_
            refine L_y rfl (y_move rfl) rfl ?_
            refine L_y rfl (y_move rfl) rfl ?_
            refine L_y rfl (y_nei rfl rfl) rfl ?_
            refine L_y rfl (y_move rfl) rfl ?_
            refine L_case 103 rfl (fun hg13_4 => ?_) (fun hg13_4 => ?_)
            · exact absurd hg13_4 (by simp [rde_turn])
            · skip
              refine L_y rfl (y_loadA rfl ag_37 sz_37 (sees 3 0 rfl) (by rw [bs_length, rdv_len hs8 ht8]; decide) (bs_whole0 _ (rdv_len hs8 ht8))) rfl ?_
              refine L_y rfl (y_loadA rfl ag_37 sz_37 (sees 0 0 rfl) (by rw [bs_length, rdv_len ht8 hs8]; decide) (bs_whole0 _ (rdv_len ht8 hs8))) rfl ?_
              refine L_y rfl (y_nea rfl rfl Try.underlying37 Try.underlying5 sz_5 eg_37 (rdv_len hs8 ht8) (rdv_len ht8 hs8)) rfl ?_
              refine L_y rfl (y_move rfl) rfl ?_
              refine L_case 107 rfl (fun hg13_8 => ?_) (fun hg13_8 => ?_)
              · skip
                refine L_y rfl (y_move rfl) rfl ?_
                refine L_y rfl (y_not rfl) rfl ?_
                refine L_y rfl (y_pick_t rfl rfl) rfl ?_
                refine L_y rfl (y_pick_f rfl rfl) rfl ?_
                refine L_nil ?_
                refine C_cond_t rfl ?_
                refine C_seq ?_
                refine C_region ?_
                refine L_y rfl (y_assign rfl) rfl ?_
                refine L_nil ?_
                refine C_ret ?_
                refine B_ret (rv_tmp rfl rv_nil) (HSub.refl _) ?_
                first | rfl | (exfalso; clear hS1 hS2 hS3 hS4 hA hB; rcases rdv_turn (p := goodP) (n := (k : Int)) (a := s) (b := t) with he | ⟨h1, h2, h3⟩ <;> simp_all [rde_turn])
              · skip
                refine L_skip rfl rfl ?_
                refine L_skip rfl rfl ?_
                refine L_y rfl (y_pick_f rfl rfl) rfl ?_
                refine L_y rfl (y_pick_f rfl rfl) rfl ?_
                refine L_nil ?_
                refine C_cond_f rfl ?_
                refine C_skip ?_
                refine C_region ?_
                refine L_y rfl (y_add rfl rfl (wi64 (by omega) (by omega))) rfl ?_
                refine L_y rfl (y_move rfl) rfl ?_
                refine L_nil ?_
                exact ⟨k + 1, by omega, by omega, ⟨rfl, rfl, rfl, rfl, rfl, trivial⟩, ((hsub (.cons_cons _ (.cons_cons _ (.cons_cons _ (.cons_cons _ (.cons_cons _ (.cons_cons _ (.cons_cons _ (.cons _ (.cons _ (.refl _))))))))))).trans (hsub_pick [4, 4, 1, 1, 2, 2, 2] rfl))⟩
        · skip
          refine H_skip 8 rfl (by kernel_rfl) (by kernel_rfl) (by kernel_rfl) (HSub.refl _) rfl rfl ?_
          refine H_skip 9 rfl (by kernel_rfl) (by kernel_rfl) (by kernel_rfl) (HSub.refl _) rfl rfl ?_
          refine H_skip 10 rfl (by kernel_rfl) (by kernel_rfl) (by kernel_rfl) (HSub.refl _) rfl rfl ?_
          refine H_skip 11 rfl (by kernel_rfl) (by kernel_rfl) (by kernel_rfl) (HSub.refl _) rfl rfl ?_
          refine H_skip 12 rfl (by kernel_rfl) (by kernel_rfl) (by kernel_rfl) (HSub.refl _) rfl rfl ?_
          refine H_skip 13 rfl (by kernel_rfl) (by kernel_rfl) (by kernel_rfl) (HSub.refl _) rfl rfl ?_
          refine H_skip 14 rfl (by kernel_rfl) (by kernel_rfl) (by kernel_rfl) (HSub.refl _) rfl rfl ?_
          refine H_y 15 rfl (by kernel_rfl) (by kernel_rfl) (by kernel_rfl) (HSub.refl _) rfl (y_pick_f rfl rfl) rfl ?_
          refine H_y 16 rfl (by kernel_rfl) (by kernel_rfl) (by kernel_rfl) (HSub.refl _) rfl (y_move rfl) rfl ?_
          refine H_skip 17 rfl (by kernel_rfl) (by kernel_rfl) (by kernel_rfl) (HSub.refl _) rfl rfl ?_
          refine H_skip 18 rfl (by kernel_rfl) (by kernel_rfl) (by kernel_rfl) (HSub.refl _) rfl rfl ?_
          refine H_skip 19 rfl (by kernel_rfl) (by kernel_rfl) (by kernel_rfl) (HSub.refl _) rfl rfl ?_
          refine H_skip 20 rfl (by kernel_rfl) (by kernel_rfl) (by kernel_rfl) (HSub.refl _) rfl rfl ?_
          refine H_skip 21 rfl (by kernel_rfl) (by kernel_rfl) (by kernel_rfl) (HSub.refl _) rfl rfl ?_
          refine H_skip 22 rfl (by kernel_rfl) (by kernel_rfl) (by kernel_rfl) (HSub.refl _) rfl rfl ?_
          refine H_skip 23 rfl (by kernel_rfl) (by kernel_rfl) (by kernel_rfl) (HSub.refl _) rfl rfl ?_
          refine H_skip 24 rfl (by kernel_rfl) (by kernel_rfl) (by kernel_rfl) (HSub.refl _) rfl rfl ?_
          refine H_skip 25 rfl (by kernel_rfl) (by kernel_rfl) (by kernel_rfl) (HSub.refl _) rfl rfl ?_
          refine H_skip 26 rfl (by kernel_rfl) (by kernel_rfl) (by kernel_rfl) (HSub.refl _) rfl rfl ?_
          refine H_skip 27 rfl (by kernel_rfl) (by kernel_rfl) (by kernel_rfl) (HSub.refl _) rfl rfl ?_
          refine H_y 28 rfl (by kernel_rfl) (by kernel_rfl) (by kernel_rfl) (HSub.refl _) rfl (y_pick_f rfl rfl) rfl ?_
          refine H_y 29 rfl (by kernel_rfl) (by kernel_rfl) (by kernel_rfl) (HSub.refl _) rfl (y_assign rfl) rfl ?_
          refine H_done (by kernel_rfl) ?_
          refine C_seq ?_
          refine C_region ?_
          refine L_y rfl (y_move rfl) rfl ?_
          refine L_y rfl (y_move rfl) rfl ?_
          refine L_y rfl (y_nei rfl rfl) rfl ?_
          refine L_y rfl (y_move rfl) rfl ?_
          refine L_case 103 rfl (fun hg13_4 => ?_) (fun hg13_4 => ?_)
          · exact absurd hg13_4 (by simp [rde_turn])
          · skip
            refine L_y rfl (y_loadA rfl ag_37 sz_37 (sees 3 0 rfl) (by rw [bs_length, rdv_len hs8 ht8]; decide) (bs_whole0 _ (rdv_len hs8 ht8))) rfl ?_
            refine L_y rfl (y_loadA rfl ag_37 sz_37 (sees 0 0 rfl) (by rw [bs_length, rdv_len ht8 hs8]; decide) (bs_whole0 _ (rdv_len ht8 hs8))) rfl ?_
            refine L_y rfl (y_nea rfl rfl Try.underlying37 Try.underlying5 sz_5 eg_37 (rdv_len hs8 ht8) (rdv_len ht8 hs8)) rfl ?_
            refine L_y rfl (y_move rfl) rfl ?_
            refine L_case 107 rfl (fun hg13_8 => ?_) (fun hg13_8 => ?_)
            · skip
              refine L_y rfl (y_move rfl) rfl ?_
              refine L_y rfl (y_not rfl) rfl ?_
              refine L_y rfl (y_pick_t rfl rfl) rfl ?_
              refine L_y rfl (y_pick_f rfl rfl) rfl ?_
              refine L_nil ?_
              refine C_cond_t rfl ?_
              refine C_seq ?_
              refine C_region ?_
              refine L_y rfl (y_assign rfl) rfl ?_
              refine L_nil ?_
              refine C_ret ?_
              refine B_ret (rv_tmp rfl rv_nil) (HSub.refl _) ?_
              first | rfl | (exfalso; clear hS1 hS2 hS3 hS4 hA hB; rcases rdv_turn (p := goodP) (n := (k : Int)) (a := s) (b := t) with he | ⟨h1, h2, h3⟩ <;> simp_all [rde_turn])
            · skip
              refine L_skip rfl rfl ?_
              refine L_skip rfl rfl ?_
              refine L_y rfl (y_pick_f rfl rfl) rfl ?_
              refine L_y rfl (y_pick_f rfl rfl) rfl ?_
              refine L_nil ?_
              refine C_cond_f rfl ?_
              refine C_skip ?_
              refine C_region ?_
              refine L_y rfl (y_add rfl rfl (wi64 (by omega) (by omega))) rfl ?_
              refine L_y rfl (y_move rfl) rfl ?_
              refine L_nil ?_
              exact ⟨k + 1, by omega, by omega, ⟨rfl, rfl, rfl, rfl, rfl, trivial⟩, ((hsub (.cons_cons _ (.cons_cons _ (.cons_cons _ (.cons_cons _ (.cons_cons _ (.cons_cons _ (.cons_cons _ (.cons _ (.cons _ (.refl _))))))))))).trans (hsub_pick [4, 4, 1, 1, 2, 2, 2] rfl))⟩
      · replace hc2 := of_decide_eq_false hc2
        refine C_exit ?_
        refine C_seq ?_
        refine C_region ?_
        refine L_y rfl (y_assign rfl) rfl ?_
        refine L_nil ?_
        refine C_ret ?_
        refine B_ret (rv_tmp rfl rv_nil) (HSub.refl _) ?_
        first | rfl | (exfalso; clear hS1 hS2 hS3 hS4 hA hB; rcases rdv_turn (p := goodP) (n := (k : Int)) (a := s) (b := t) with he | ⟨h1, h2, h3⟩ <;> simp_all [rde_turn])

end Go.Proofs.Ytoaalclbplgegaa
