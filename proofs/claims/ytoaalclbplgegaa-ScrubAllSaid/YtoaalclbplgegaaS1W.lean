/- walks (own work; the walks' lines by a program of this repo). -/
import Derived.Test.YtoaalclbplgegaaSkW
set_option linter.unusedVariables false
set_option linter.unusedSimpArgs false
set_option maxRecDepth 20000
namespace Go.Proofs.Ytoaalclbplgegaa
open Go.Sl
attribute [local irreducible] BodyQ WpC WpL WpS WpH OpW FnS



set_option maxHeartbeats 4000000 in

theorem scruball_s {w0 : World} {H : Hp} {pa pb2 : Option Addr} {ca cb : Nat} {la lb : List (UInt8 × UInt8)} (hA : Holds w0 H pa (bs (pb la))) (hB : Holds w0 H pb2 (bs (pb lb))) : FnS Try.prog w0 3 #[.slice pa la.length ca, .slice pb2 lb.length cb] H (fun e H' => e = .returned (.bool true)) := by
  refine FnS_intro (n := 88) (rs := [.tmp 4]) (vs := [.slice pa la.length ca, .slice pb2 lb.length cb]) Try.func3 rfl Try.ntmps3 rfl rfl ?_
  refine C_seq ?_
  refine C_region ?_
  refine L_y rfl (y_assign rfl) rfl ?_
  refine L_nil ?_
  refine C_seq ?_
  refine C_seq ?_
  refine C_region ?_
  refine L_op rfl (op_call rfl rfl (fun a w => Try.call13 a w) rfl ?_)
  refine awake10_s.mono ?_
  rintro _ _ ⟨rfl, e⟩
  obtain rfl := e.symm
  refine ⟨_, rfl, ?_⟩
  refine L_y rfl (y_not rfl) rfl ?_
  refine L_y rfl (y_move rfl) rfl ?_
  refine L_y rfl (y_move rfl) rfl ?_
  refine L_y rfl (y_lenS rfl rfl Try.underlying22) rfl ?_
  refine L_y rfl (y_gtr rfl rfl) rfl ?_
  refine L_y rfl (y_pick_f rfl rfl) rfl ?_
  refine L_y rfl (y_move rfl) rfl ?_
  refine L_case 23 rfl (fun hg1_8 => ?_) (fun hg1_8 => ?_)
  · skip
    refine L_skip rfl rfl ?_
    refine L_skip rfl rfl ?_
    refine L_skip rfl rfl ?_
    refine L_y rfl (y_pick_t rfl rfl) rfl ?_
    refine L_nil ?_
    refine C_cond_t rfl ?_
    refine C_seq ?_
    refine C_region ?_
    refine L_op rfl (op_call rfl rfl (fun a w => Try.call13 a w) rfl ?_)
    refine awake10_s.mono ?_
    rintro _ _ ⟨rfl, e⟩
    obtain rfl := e.symm
    refine ⟨_, rfl, ?_⟩
    refine L_y rfl (y_assign rfl) rfl ?_
    refine L_nil ?_
    refine C_ret ?_
    refine B_ret (rv_tmp rfl rv_nil) (HSub.refl _) ?_
    rfl
  · have q0 := of_decide_eq_false hg1_8
    refine L_y rfl (y_move rfl) rfl ?_
    refine L_y rfl (y_lenS rfl rfl Try.underlying22) rfl ?_
    refine L_y rfl (y_gtr rfl rfl) rfl ?_
    refine L_y rfl (y_pick_f rfl rfl) rfl ?_
    refine L_nil ?_
    refine C_cond rfl (fun hc0 => ?_) (fun hc0 => ?_)
    · replace hc0 := of_decide_eq_true hc0
      refine C_seq ?_
      refine C_region ?_
      refine L_op rfl (op_call rfl rfl (fun a w => Try.call13 a w) rfl ?_)
      refine awake10_s.mono ?_
      rintro _ _ ⟨rfl, e⟩
      obtain rfl := e.symm
      refine ⟨_, rfl, ?_⟩
      refine L_y rfl (y_assign rfl) rfl ?_
      refine L_nil ?_
      refine C_ret ?_
      refine B_ret (rv_tmp rfl rv_nil) (HSub.refl _) ?_
      rfl
    · replace hc0 := of_decide_eq_false hc0
      refine C_skip ?_
      refine C_seq ?_
      obtain ⟨K, hK⟩ : ∃ K, min la.length lb.length = K := ⟨_, rfl⟩
      have hK12 : K ≤ 12 := by omega
      refine C_region ?_
      refine L_y rfl (y_move rfl) rfl ?_
      refine L_y rfl (y_move rfl) rfl ?_
      refine L_op rfl (op_call rfl rfl (fun a w => Try.call14 a w) rfl ?_)
      refine FnS.mono (pair_v (la := la) (lb := lb) (K := K) (hA) (hB) (by omega) hK) ?_
      rintro _ _ ⟨D1, A1, m1, mb1, bx1, by1, bp1, ga1, gb1, hS1, hga1, hgb1, rfl, rfl⟩
      refine ⟨_, rfl, ?_⟩
      refine L_y rfl (y_move rfl) rfl ?_
      refine L_y rfl (y_extract rfl rfl) rfl ?_
      refine L_y rfl (y_extract rfl rfl) rfl ?_
      refine L_y rfl (y_extract rfl rfl) rfl ?_
      refine L_y rfl (y_extract rfl rfl) rfl ?_
      refine L_op rfl (op_alloc zl_27 rfl (fun B1 => ?_))
      refine L_y rfl (y_assign rfl) rfl ?_
      refine L_y rfl (y_assign rfl) rfl ?_
      refine L_y rfl (y_assign rfl) rfl ?_
      refine L_op rfl (op_store (vs := [slV ga1 K, slV gb1 K]) 0 0 rfl rfl rfl sz_27 rfl rfl (fun v hv => by simp at hv; rcases hv with rfl | rfl <;> exact one_slV _ _) (Nat.le_of_ble_eq_true rfl) ?_)
      refine L_nil ?_
      refine C_seq ?_
      refine C_seq ?_
      refine C_regionH ([(B1, .cells [slV ga1 K, slV gb1 K].toArray 27)] :: H) (by kernel_rfl) ?_
      refine H_y 0 rfl (by kernel_rfl) (by kernel_rfl) (by kernel_rfl) (((hsub (.cons_cons _ (.cons _ (.cons _ (.cons _ (.cons _ (.refl _))))))).trans (hsub_pick [0] rfl))) rfl (y_move rfl) rfl ?_
      refine H_y 2 rfl (by kernel_rfl) (by kernel_rfl) (by kernel_rfl) (((hsub (.cons_cons _ (.cons _ (.cons _ (.cons _ (.cons _ (.refl _))))))).trans (hsub_pick [0] rfl))) rfl (y_indexA rfl rfl Try.underlying27 sz_26 (by omega) (by omega) (show _ = 0 from rfl)) rfl ?_
      refine H_y 3 rfl (by kernel_rfl) (by kernel_rfl) (by kernel_rfl) (((hsub (.cons_cons _ (.cons _ (.cons _ (.cons _ (.cons _ (.refl _))))))).trans (hsub_pick [0] rfl))) rfl (y_load rfl ag_26 (sees 0 0 rfl) rfl) rfl ?_
      refine H_y 4 rfl (by kernel_rfl) (by kernel_rfl) (by kernel_rfl) (((hsub (.cons_cons _ (.cons _ (.cons _ (.cons _ (.cons _ (.refl _))))))).trans (hsub_pick [0] rfl))) rfl (y_indexA rfl rfl Try.underlying27 sz_26 (by omega) (by omega) (show _ = 1 from rfl)) rfl ?_
      refine H_y 5 rfl (by kernel_rfl) (by kernel_rfl) (by kernel_rfl) (((hsub (.cons_cons _ (.cons _ (.cons _ (.cons _ (.cons _ (.refl _))))))).trans (hsub_pick [0] rfl))) rfl (y_load rfl ag_26 (sees 0 0 rfl) rfl) rfl ?_
      refine H_one 1 rfl (by kernel_rfl) rfl (op_call rfl rfl (fun a w => Try.call16 a w) rfl ?_)
      refine (FnS.sub (hsub_pick [1, 1] rfl) (all_v hS1 (by omega) (by omega) (by omega) (r := _) rfl)).mono ?_
      rintro _ _ ⟨rfl, D2, A2, m2, hS2, rfl⟩
      refine ⟨_, rfl, ?_⟩
      refine ⟨((hsub (.cons_cons _ (.cons _ (.cons _ (.cons _ (.cons _ (.refl _))))))).trans (hsub_pick [2] rfl)), ?_⟩
      refine H_one 6 rfl (by kernel_rfl) rfl (op_call rfl rfl (fun a w => Try.call17 a w) rfl ?_)
      refine FnS.mono (rall_v (A := (prX la K)) (B := (prX lb K)) (sa := 3) (sb := 4) rfl rfl hga1 hgb1 hS1.okX hS1.okY hS1.vw.a.wlen hS1.vw.b.wlen (by omega) rfl) ?_
      rintro _ _ ⟨rfl, e⟩
      obtain rfl := e.symm
      refine ⟨_, rfl, ?_⟩
      refine ⟨((hsub (.cons_cons _ (.cons _ (.cons _ (.cons _ (.cons _ (.refl _))))))).trans (hsub_pick [2] rfl)), ?_⟩
      refine H_one 7 rfl (by kernel_rfl) rfl (op_call rfl rfl (fun a w => Try.call15 a w) rfl ?_)
      refine (is_s _ _ _ _ _ _).mono ?_
      rintro _ _ ⟨rfl, e⟩
      obtain rfl := e.symm
      rw [if_pos ⟨rfl, rfl, rfl⟩]
      refine ⟨_, rfl, ?_⟩
      refine ⟨((hsub (.cons_cons _ (.cons _ (.cons _ (.cons _ (.cons _ (.refl _))))))).trans (hsub_pick [2] rfl)), ?_⟩
      refine H_y 8 rfl (by kernel_rfl) (by kernel_rfl) (by kernel_rfl) (((hsub (.cons_cons _ (.cons _ (.cons _ (.cons _ (.cons _ (.refl _))))))).trans (hsub_pick [2] rfl))) rfl (y_eqi rfl rfl) rfl ?_
      refine H_done (by kernel_rfl) ?_
      refine C_cond_f rfl ?_
      refine C_skip ?_
      refine C_seq ?_
      refine C_seq ?_
      refine C_region ?_
      refine L_y rfl (y_indexA rfl rfl Try.underlying27 sz_26 (by omega) (by omega) (show _ = 0 from rfl)) rfl ?_
      refine L_y rfl (y_load rfl ag_26 (sees 2 0 rfl) rfl) rfl ?_
      refine L_y rfl (y_lenV hga1 rfl rfl Try.underlying26) rfl ?_
      refine L_y rfl (y_move rfl) rfl ?_
      refine L_nil ?_
      refine C_block ?_
      refine C_loop (ι := Nat) (fun k => [(5, ptr bx1), (6, ptr by1), (8, ptr B1), (48, .int .i64 ((K : Nat) : Int)), (49, .int .i64 (k : Int))]) (fun k => D2.seg dt :: [(B1, .cells [slV ga1 K, slV gb1 K].toArray 27)] :: slSeg 37 ga1 (bs (prX la K).flatten) :: slSeg 37 gb1 (bs (prX lb K).flatten) :: H) (fun k => k ≤ K) (fun k => K - k) 0 (Nat.zero_le _) ⟨rfl, rfl, rfl, rfl, rfl, trivial⟩ ((hsub (.cons_cons _ (.cons_cons _ (.cons_cons _ (.cons_cons _ (.cons _ (.refl _))))))).trans (hsub_pick [1, 1, 1, 1] rfl)) (fun k hk => ?_)
      skip
      refine C_seq ?_
      refine C_region ?_
      refine L_y rfl (y_lss rfl rfl) rfl ?_
      refine L_nil ?_
      refine C_seq ?_
      refine C_cond rfl (fun hc2 => ?_) (fun hc2 => ?_)
      · replace hc2 := of_decide_eq_true hc2
        obtain ⟨s, hs⟩ : ∃ s, (prX la K)[k]? = some s := ⟨_, gt_get hS1.vw.a.wlen (by omega)⟩
        obtain ⟨t, ht⟩ : ∃ t, (prX lb K)[k]? = some t := ⟨_, gt_get hS1.vw.b.wlen (by omega)⟩
        have hs8 := hS1.okX s (List.mem_of_getElem? hs)
        have ht8 := hS1.okY t (List.mem_of_getElem? ht)
        have hfa := flat_len hS1.okX
        have hfb := flat_len hS1.okY
        have hla := hS1.vw.a.wlen
        have hlb := hS1.vw.b.wlen
        cases ga1 with
        | none => exact slOk_none hga1 (by omega)
        | some ga1 => ?_
        cases gb1 with
        | none => exact slOk_none hgb1 (by omega)
        | some gb1 => ?_
        refine C_skip ?_
        refine C_seq ?_
        refine C_block ?_
        refine C_seq ?_
        refine C_region ?_
        refine L_y rfl (y_move rfl) rfl ?_
        refine L_y rfl (y_assign rfl) rfl ?_
        refine L_nil ?_
        refine C_cutG (ι := Nat × Nat) (fun _ => True) (fun i => [(9, .int .i64 (k : Int)), (10, ptr i.1), (11, ptr i.2), (5, ptr bx1), (6, ptr by1), (8, ptr B1), (48, .int .i64 ((K : Nat) : Int)), (49, .int .i64 (k : Int))]) (fun i => D2.seg dt :: [(B1, .cells [slV (some ga1) K, slV (some gb1) K].toArray 27)] :: slSeg 37 (some ga1) (bs (prX la K).flatten) :: slSeg 37 (some gb1) (bs (prX lb K).flatten) :: [(i.1, .cells (bs (hX goodP k s t)).toArray 37)] :: [(i.2, .cells (bs (hY goodP k s t)).toArray 37)] :: H) ?_ (fun i hi => ?_)
        · refine C_regionH0 (by kernel_rfl) ?_
          refine H_y 0 rfl (by kernel_rfl) (by kernel_rfl) (by kernel_rfl) (HSub.refl _) rfl (y_move rfl) rfl ?_
          refine H_y 1 rfl (by kernel_rfl) (by kernel_rfl) (by kernel_rfl) (HSub.refl _) rfl (y_indexA rfl rfl Try.underlying27 sz_26 (by omega) (by omega) (show _ = 0 from rfl)) rfl ?_
          refine H_y 2 rfl (by kernel_rfl) (by kernel_rfl) (by kernel_rfl) (HSub.refl _) rfl (y_load rfl ag_26 (sees 1 0 rfl) rfl) rfl ?_
          refine H_y 3 rfl (by kernel_rfl) (by kernel_rfl) (by kernel_rfl) (HSub.refl _) rfl (y_move rfl) rfl ?_
          refine H_y 4 rfl (by kernel_rfl) (by kernel_rfl) (by kernel_rfl) (HSub.refl _) rfl (y_indexS rfl rfl Try.underlying26 sz_37 (by omega) (by omega) (show _ = 0 + k * 128 from by simp)) rfl ?_
          refine H_y 5 rfl (by kernel_rfl) (by kernel_rfl) (by kernel_rfl) (HSub.refl _) rfl (y_loadA rfl ag_37 sz_37 (sees 2 0 rfl) (by rw [List.length_append, bs_length, hfa]; omega) (sec_at (n := 0) hS1.okX (by simp) hs)) rfl ?_
          refine H_y 6 rfl (by kernel_rfl) (by kernel_rfl) (by kernel_rfl) (HSub.refl _) rfl (y_indexA rfl rfl Try.underlying27 sz_26 (by omega) (by omega) (show _ = 1 from rfl)) rfl ?_
          refine H_y 7 rfl (by kernel_rfl) (by kernel_rfl) (by kernel_rfl) (HSub.refl _) rfl (y_load rfl ag_26 (sees 1 0 rfl) rfl) rfl ?_
          refine H_y 8 rfl (by kernel_rfl) (by kernel_rfl) (by kernel_rfl) (HSub.refl _) rfl (y_move rfl) rfl ?_
          refine H_y 9 rfl (by kernel_rfl) (by kernel_rfl) (by kernel_rfl) (HSub.refl _) rfl (y_indexS rfl rfl Try.underlying26 sz_37 (by omega) (by omega) (show _ = 0 + k * 128 from by simp)) rfl ?_
          refine H_y 10 rfl (by kernel_rfl) (by kernel_rfl) (by kernel_rfl) (HSub.refl _) rfl (y_loadA rfl ag_37 sz_37 (sees 3 0 rfl) (by rw [List.length_append, bs_length, hfb]; omega) (sec_at (n := 0) hS1.okY (by simp) ht)) rfl ?_
          refine H_many [11, 15, 16] (by kernel_rfl) (by decide) ⟨⟨_, rfl, rfl, ?_⟩, ⟨_, rfl, rfl, ?_⟩, ⟨_, rfl, rfl, ?_⟩, trivial⟩
          · refine op_call rfl rfl (fun a w => Try.call18 a w) rfl ?_
            refine (healed_s k s t hs8 ht8).mono ?_
            rintro _ _ ⟨rfl, e⟩
            obtain rfl := e.symm
            refine ⟨_, rfl, ?_⟩
            refine ⟨HSub.refl _, ?_⟩
            refine H_y 12 rfl (by kernel_rfl) (by kernel_rfl) (by kernel_rfl) (HSub.refl _) rfl (y_move rfl) rfl ?_
            refine H_y 13 rfl (by kernel_rfl) (by kernel_rfl) (by kernel_rfl) (HSub.refl _) rfl (y_extract rfl rfl) rfl ?_
            refine H_y 14 rfl (by kernel_rfl) (by kernel_rfl) (by kernel_rfl) (HSub.refl _) rfl (y_extract rfl rfl) rfl ?_
            refine H_two 15 16 rfl rfl (by kernel_rfl) rfl rfl ?_ ?_
            · refine op_alloc zl_37 rfl (fun B2 => ?_)
              refine ⟨hsub (.cons _ (.refl _)), ?_⟩
              refine H_one 16 rfl (by kernel_rfl) rfl (op_alloc zl_37 rfl (fun B3 => ?_))
              refine ⟨hsub (.cons _ (.cons _ (.refl _))), ?_⟩
              refine H_one 17 rfl (by kernel_rfl) rfl (op_storeA 1 0 rfl rfl rfl sz_37 (by rw [bs_length, hX_len hs8 ht8]) rfl (bs_one _) (by simp) ?_)
              refine ⟨hsub (.cons _ (.cons _ (.refl _))), ?_⟩
              refine H_one 18 rfl (by kernel_rfl) rfl (op_storeA 0 0 rfl rfl rfl sz_37 (by rw [bs_length, hY_len hs8 ht8]) rfl (bs_one _) (by simp) ?_)
              refine ⟨hsub (.cons _ (.cons _ (.refl _))), ?_⟩
              refine H_done (by kernel_rfl) ?_
              exact ⟨(B2, B3), trivial, ⟨rfl, rfl, rfl, rfl, rfl, rfl, rfl, rfl, trivial⟩, ((hsub (.cons_cons _ (.cons_cons _ (.cons_cons _ (.cons_cons _ (.cons_cons _ (.cons_cons _ (.refl _)))))))).trans (hsub_pick [2, 2, 2, 2, 1, 0] rfl))⟩
            · refine op_alloc zl_37 rfl (fun B4 => ?_)
              refine ⟨hsub (.cons _ (.refl _)), ?_⟩
              refine H_one 15 rfl (by kernel_rfl) rfl (op_alloc zl_37 rfl (fun B5 => ?_))
              refine ⟨hsub (.cons _ (.cons _ (.refl _))), ?_⟩
              refine H_one 17 rfl (by kernel_rfl) rfl (op_storeA 0 0 rfl rfl rfl sz_37 (by rw [bs_length, hX_len hs8 ht8]) rfl (bs_one _) (by simp) ?_)
              refine ⟨hsub (.cons _ (.cons _ (.refl _))), ?_⟩
              refine H_one 18 rfl (by kernel_rfl) rfl (op_storeA 1 0 rfl rfl rfl sz_37 (by rw [bs_length, hY_len hs8 ht8]) rfl (bs_one _) (by simp) ?_)
              refine ⟨hsub (.cons _ (.cons _ (.refl _))), ?_⟩
              refine H_done (by kernel_rfl) ?_
              exact ⟨(B5, B4), trivial, ⟨rfl, rfl, rfl, rfl, rfl, rfl, rfl, rfl, trivial⟩, ((hsub (.cons_cons _ (.cons_cons _ (.cons_cons _ (.cons_cons _ (.cons_cons _ (.cons_cons _ (.refl _)))))))).trans (hsub_pick [2, 2, 2, 2, 0, 0] rfl))⟩
          · refine op_alloc zl_37 rfl (fun B6 => ?_)
            refine ⟨hsub (.cons _ (.refl _)), ?_⟩
            refine H_two 11 16 rfl rfl (by kernel_rfl) rfl rfl ?_ ?_
            · refine op_call rfl rfl (fun a w => Try.call18 a w) rfl ?_
              refine (healed_s k s t hs8 ht8).mono ?_
              rintro _ _ ⟨rfl, e⟩
              obtain rfl := e.symm
              refine ⟨_, rfl, ?_⟩
              refine ⟨hsub (.cons _ (.refl _)), ?_⟩
              refine H_y 12 rfl (by kernel_rfl) (by kernel_rfl) (by kernel_rfl) (hsub (.cons _ (.refl _))) rfl (y_move rfl) rfl ?_
              refine H_y 13 rfl (by kernel_rfl) (by kernel_rfl) (by kernel_rfl) (hsub (.cons _ (.refl _))) rfl (y_extract rfl rfl) rfl ?_
              refine H_y 14 rfl (by kernel_rfl) (by kernel_rfl) (by kernel_rfl) (hsub (.cons _ (.refl _))) rfl (y_extract rfl rfl) rfl ?_
              refine H_one 16 rfl (by kernel_rfl) rfl (op_alloc zl_37 rfl (fun B7 => ?_))
              refine ⟨hsub (.cons _ (.cons _ (.refl _))), ?_⟩
              refine H_one 17 rfl (by kernel_rfl) rfl (op_storeA 1 0 rfl rfl rfl sz_37 (by rw [bs_length, hX_len hs8 ht8]) rfl (bs_one _) (by simp) ?_)
              refine ⟨hsub (.cons _ (.cons _ (.refl _))), ?_⟩
              refine H_one 18 rfl (by kernel_rfl) rfl (op_storeA 0 0 rfl rfl rfl sz_37 (by rw [bs_length, hY_len hs8 ht8]) rfl (bs_one _) (by simp) ?_)
              refine ⟨hsub (.cons _ (.cons _ (.refl _))), ?_⟩
              refine H_done (by kernel_rfl) ?_
              exact ⟨(B6, B7), trivial, ⟨rfl, rfl, rfl, rfl, rfl, rfl, rfl, rfl, trivial⟩, ((hsub (.cons_cons _ (.cons_cons _ (.cons_cons _ (.cons_cons _ (.cons_cons _ (.cons_cons _ (.refl _)))))))).trans (hsub_pick [2, 2, 2, 2, 1, 0] rfl))⟩
            · refine op_alloc zl_37 rfl (fun B8 => ?_)
              refine ⟨hsub (.cons _ (.cons _ (.refl _))), ?_⟩
              refine H_one 11 rfl (by kernel_rfl) rfl (op_call rfl rfl (fun a w => Try.call18 a w) rfl ?_)
              refine (healed_s k s t hs8 ht8).mono ?_
              rintro _ _ ⟨rfl, e⟩
              obtain rfl := e.symm
              refine ⟨_, rfl, ?_⟩
              refine ⟨hsub (.cons _ (.cons _ (.refl _))), ?_⟩
              refine H_y 12 rfl (by kernel_rfl) (by kernel_rfl) (by kernel_rfl) (hsub (.cons _ (.cons _ (.refl _)))) rfl (y_move rfl) rfl ?_
              refine H_y 13 rfl (by kernel_rfl) (by kernel_rfl) (by kernel_rfl) (hsub (.cons _ (.cons _ (.refl _)))) rfl (y_extract rfl rfl) rfl ?_
              refine H_y 14 rfl (by kernel_rfl) (by kernel_rfl) (by kernel_rfl) (hsub (.cons _ (.cons _ (.refl _)))) rfl (y_extract rfl rfl) rfl ?_
              refine H_one 17 rfl (by kernel_rfl) rfl (op_storeA 1 0 rfl rfl rfl sz_37 (by rw [bs_length, hX_len hs8 ht8]) rfl (bs_one _) (by simp) ?_)
              refine ⟨hsub (.cons _ (.cons _ (.refl _))), ?_⟩
              refine H_one 18 rfl (by kernel_rfl) rfl (op_storeA 0 0 rfl rfl rfl sz_37 (by rw [bs_length, hY_len hs8 ht8]) rfl (bs_one _) (by simp) ?_)
              refine ⟨hsub (.cons _ (.cons _ (.refl _))), ?_⟩
              refine H_done (by kernel_rfl) ?_
              exact ⟨(B6, B8), trivial, ⟨rfl, rfl, rfl, rfl, rfl, rfl, rfl, rfl, trivial⟩, ((hsub (.cons_cons _ (.cons_cons _ (.cons_cons _ (.cons_cons _ (.cons_cons _ (.cons_cons _ (.refl _)))))))).trans (hsub_pick [2, 2, 2, 2, 1, 0] rfl))⟩
          · refine op_alloc zl_37 rfl (fun B9 => ?_)
            refine ⟨hsub (.cons _ (.refl _)), ?_⟩
            refine H_two 11 15 rfl rfl (by kernel_rfl) rfl rfl ?_ ?_
            · refine op_call rfl rfl (fun a w => Try.call18 a w) rfl ?_
              refine (healed_s k s t hs8 ht8).mono ?_
              rintro _ _ ⟨rfl, e⟩
              obtain rfl := e.symm
              refine ⟨_, rfl, ?_⟩
              refine ⟨hsub (.cons _ (.refl _)), ?_⟩
              refine H_y 12 rfl (by kernel_rfl) (by kernel_rfl) (by kernel_rfl) (hsub (.cons _ (.refl _))) rfl (y_move rfl) rfl ?_
              refine H_y 13 rfl (by kernel_rfl) (by kernel_rfl) (by kernel_rfl) (hsub (.cons _ (.refl _))) rfl (y_extract rfl rfl) rfl ?_
              refine H_y 14 rfl (by kernel_rfl) (by kernel_rfl) (by kernel_rfl) (hsub (.cons _ (.refl _))) rfl (y_extract rfl rfl) rfl ?_
              refine H_one 15 rfl (by kernel_rfl) rfl (op_alloc zl_37 rfl (fun B10 => ?_))
              refine ⟨hsub (.cons _ (.cons _ (.refl _))), ?_⟩
              refine H_one 17 rfl (by kernel_rfl) rfl (op_storeA 0 0 rfl rfl rfl sz_37 (by rw [bs_length, hX_len hs8 ht8]) rfl (bs_one _) (by simp) ?_)
              refine ⟨hsub (.cons _ (.cons _ (.refl _))), ?_⟩
              refine H_one 18 rfl (by kernel_rfl) rfl (op_storeA 1 0 rfl rfl rfl sz_37 (by rw [bs_length, hY_len hs8 ht8]) rfl (bs_one _) (by simp) ?_)
              refine ⟨hsub (.cons _ (.cons _ (.refl _))), ?_⟩
              refine H_done (by kernel_rfl) ?_
              exact ⟨(B10, B9), trivial, ⟨rfl, rfl, rfl, rfl, rfl, rfl, rfl, rfl, trivial⟩, ((hsub (.cons_cons _ (.cons_cons _ (.cons_cons _ (.cons_cons _ (.cons_cons _ (.cons_cons _ (.refl _)))))))).trans (hsub_pick [2, 2, 2, 2, 0, 0] rfl))⟩
            · refine op_alloc zl_37 rfl (fun B11 => ?_)
              refine ⟨hsub (.cons _ (.cons _ (.refl _))), ?_⟩
              refine H_one 11 rfl (by kernel_rfl) rfl (op_call rfl rfl (fun a w => Try.call18 a w) rfl ?_)
              refine (healed_s k s t hs8 ht8).mono ?_
              rintro _ _ ⟨rfl, e⟩
              obtain rfl := e.symm
              refine ⟨_, rfl, ?_⟩
              refine ⟨hsub (.cons _ (.cons _ (.refl _))), ?_⟩
              refine H_y 12 rfl (by kernel_rfl) (by kernel_rfl) (by kernel_rfl) (hsub (.cons _ (.cons _ (.refl _)))) rfl (y_move rfl) rfl ?_
              refine H_y 13 rfl (by kernel_rfl) (by kernel_rfl) (by kernel_rfl) (hsub (.cons _ (.cons _ (.refl _)))) rfl (y_extract rfl rfl) rfl ?_
              refine H_y 14 rfl (by kernel_rfl) (by kernel_rfl) (by kernel_rfl) (hsub (.cons _ (.cons _ (.refl _)))) rfl (y_extract rfl rfl) rfl ?_
              refine H_one 17 rfl (by kernel_rfl) rfl (op_storeA 0 0 rfl rfl rfl sz_37 (by rw [bs_length, hX_len hs8 ht8]) rfl (bs_one _) (by simp) ?_)
              refine ⟨hsub (.cons _ (.cons _ (.refl _))), ?_⟩
              refine H_one 18 rfl (by kernel_rfl) rfl (op_storeA 1 0 rfl rfl rfl sz_37 (by rw [bs_length, hY_len hs8 ht8]) rfl (bs_one _) (by simp) ?_)
              refine ⟨hsub (.cons _ (.cons _ (.refl _))), ?_⟩
              refine H_done (by kernel_rfl) ?_
              exact ⟨(B11, B9), trivial, ⟨rfl, rfl, rfl, rfl, rfl, rfl, rfl, rfl, trivial⟩, ((hsub (.cons_cons _ (.cons_cons _ (.cons_cons _ (.cons_cons _ (.cons_cons _ (.cons_cons _ (.refl _)))))))).trans (hsub_pick [2, 2, 2, 2, 0, 0] rfl))⟩
        · obtain ⟨q10, q11⟩ := i
          dsimp only
          refine C_seq ?_
          refine C_region ?_
          refine L_y rfl (y_move rfl) rfl ?_
          refine L_y rfl (y_move rfl) rfl ?_
          refine L_op rfl (op_call rfl rfl (fun a w => Try.call19 a w) rfl ?_)
          refine (FnS.sub (hsub_pick [0] rfl) (dread_v hS2 false (n := k) (XK_at (by omega) hs ht))).mono ?_
          rintro _ _ ⟨rfl, rfl⟩
          refine ⟨_, rfl, ?_⟩
          refine L_y rfl (y_move rfl) rfl ?_
          refine L_y rfl (y_extract rfl rfl) rfl ?_
          refine L_y rfl (y_extract rfl rfl) rfl ?_
          refine L_op rfl (op_alloc zl_37 rfl (fun B12 => ?_))
          refine L_op rfl (op_storeA 0 0 rfl rfl rfl sz_37 (by rw [bs_length, hX_len hs8 ht8]) rfl (bs_one _) (by simp) ?_)
          refine L_y rfl (y_assign rfl) rfl ?_
          refine L_nil ?_
          refine C_seq ?_
          refine C_region ?_
          refine L_y rfl (y_move rfl) rfl ?_
          refine L_y rfl (y_move rfl) rfl ?_
          refine L_op rfl (op_call rfl rfl (fun a w => Try.call19 a w) rfl ?_)
          refine (FnS.sub (hsub_pick [1] rfl) (dread_v hS2 true (n := k) (YK_at (by omega) hs ht))).mono ?_
          rintro _ _ ⟨rfl, rfl⟩
          refine ⟨_, rfl, ?_⟩
          refine L_y rfl (y_move rfl) rfl ?_
          refine L_y rfl (y_extract rfl rfl) rfl ?_
          refine L_y rfl (y_extract rfl rfl) rfl ?_
          refine L_op rfl (op_alloc zl_37 rfl (fun B13 => ?_))
          refine L_op rfl (op_storeA 0 0 rfl rfl rfl sz_37 (by rw [bs_length, hY_len hs8 ht8]) rfl (bs_one _) (by simp) ?_)
          refine L_y rfl (y_assign rfl) rfl ?_
          refine L_nil ?_
          refine C_seq ?_
          refine C_region ?_
          refine L_y rfl (y_loadA rfl ag_37 sz_37 (sees 2 0 rfl) (by rw [bs_length, hX_len hs8 ht8]; decide) (bs_whole0 _ (hX_len hs8 ht8))) rfl ?_
          refine L_y rfl (y_loadA rfl ag_37 sz_37 (sees 6 0 rfl) (by rw [bs_length, hX_len hs8 ht8]; decide) (bs_whole0 _ (hX_len hs8 ht8))) rfl ?_
          refine L_y rfl (y_nea rfl rfl Try.underlying37 Try.underlying5 sz_5 eg_37 (hX_len hs8 ht8) (hX_len hs8 ht8)) rfl ?_
          refine L_y rfl (y_move rfl) rfl ?_
          refine L_case 82 rfl (fun hg12_4 => ?_) (fun hg12_4 => ?_)
          · exact absurd hg12_4 (by simp)
          · skip
            refine L_y rfl (y_loadA rfl ag_37 sz_37 (sees 0 0 rfl) (by rw [bs_length, hY_len hs8 ht8]; decide) (bs_whole0 _ (hY_len hs8 ht8))) rfl ?_
            refine L_y rfl (y_loadA rfl ag_37 sz_37 (sees 7 0 rfl) (by rw [bs_length, hY_len hs8 ht8]; decide) (bs_whole0 _ (hY_len hs8 ht8))) rfl ?_
            refine L_y rfl (y_nea rfl rfl Try.underlying37 Try.underlying5 sz_5 eg_37 (hY_len hs8 ht8) (hY_len hs8 ht8)) rfl ?_
            refine L_y rfl (y_pick_f rfl rfl) rfl ?_
            refine L_nil ?_
            refine C_cond rfl (fun hc3 => absurd hc3 (by simp)) (fun hc3 => ?_)
            refine C_skip ?_
            refine C_region ?_
            refine L_y rfl (y_add rfl rfl (wi64 (by omega) (by omega))) rfl ?_
            refine L_y rfl (y_move rfl) rfl ?_
            refine L_nil ?_
            exact ⟨k + 1, by omega, by omega, ⟨rfl, rfl, rfl, rfl, rfl, trivial⟩, ((hsub (.cons_cons _ (.cons_cons _ (.cons_cons _ (.cons_cons _ (.cons _ (.cons _ (.cons _ (.cons _ (.refl _)))))))))).trans (hsub_pick [1, 2, 2, 2] rfl))⟩
      · replace hc2 := of_decide_eq_false hc2
        refine C_exit ?_
        refine C_seq ?_
        refine C_region ?_
        refine L_y rfl (y_assign rfl) rfl ?_
        refine L_nil ?_
        refine C_ret ?_
        refine B_ret (rv_tmp rfl rv_nil) (HSub.refl _) ?_
        rfl

end Go.Proofs.Ytoaalclbplgegaa
