/- walks (own work; the walks' lines by a program of this repo). -/
import Derived.Test.YtoaalclbplgegaaSnW
set_option linter.unusedVariables false
set_option linter.unusedSimpArgs false
set_option maxRecDepth 20000
namespace Go.Proofs.Ytoaalclbplgegaa
open Go.Sl
attribute [local irreducible] BodyQ WpC WpL WpS WpH OpW FnS


theorem mread_after {w0 : World} {H : Hp} {D : Duo} {A : Da} {m : Mi} {K : Nat} {X Y : List Sec} {k0 k1 mb bx bys bp : Nat} (h : Ms dt (.func (.func 26) #[] ([] : List Value).toArray) D A m K (XK goodP X Y K K) (YK goodP X Y K K) k0 k1 mb bx bys bp) (i : Bool) {D' : Duo} (hT : Two dt D' (A.setd i ((A.dev i).outs true)) m.bx m.bys bp) {n : Nat} {s t : Sec} (hn : n < K) (hs : X[n]? = some s) (ht : Y[n]? = some t) : FnS Try.prog w0 25 #[ptr mb, .int .i64 (n : Int)] (m.seg 109 :: D'.seg dt :: H) (fun e H' => e = .returned (.tuple #[.agg (bs (rdv goodP n s t)).toArray, .int .i64 (rde goodP n s t)]) ∧ H' = m.seg 109 :: D'.seg dt :: H) := by
  have hx := XK_at (p := goodP) hn hs ht
  have hy := YK_at (p := goodP) hn hs ht
  cases i
  · have := mread_out h false hT (n := n) (u := hY goodP n s t) (w0 := w0) (H := H) hy
    have e := rd_out (p := goodP) (n := n) false (a := s) (b := t)
    simp only [Bool.false_eq_true, if_false] at e
    rw [e.1, e.2] at this
    exact this
  · have := mread_out h true hT (n := n) (u := hX goodP n s t) (w0 := w0) (H := H) hx
    have e := rd_out (p := goodP) (n := n) true (a := s) (b := t)
    simp only [if_true] at e
    rw [e.1, e.2] at this
    exact this

theorem mread_aft2 {w0 : World} {H : Hp} {D : Duo} {A : Da} {m : Mi} {K : Nat} {X Y : List Sec} {k0 k1 mb bx bys bp : Nat} (h : Ms dt (.func (.func 26) #[] ([] : List Value).toArray) D A m K (XK goodP X Y K K) (YK goodP X Y K K) k0 k1 mb bx bys bp) {n : Nat} {s t : Sec} (hn : n < K) (hs : X[n]? = some s) (ht : Y[n]? = some t) : FnS Try.prog w0 25 #[ptr mb, .int .i64 (n : Int)] (m.seg 109 :: D.seg dt :: H) (fun e H' => e = .returned (.tuple #[.agg (bs (rdv goodP n s t)).toArray, .int .i64 (rde goodP n s t)]) ∧ H' = m.seg 109 :: D.seg dt :: H) := by
  have := mread_v (w0 := w0) (H := H) h (XK_at hn hs ht) (YK_at hn hs ht)
  rw [rdv_after, rde_after] at this
  exact this

set_option maxHeartbeats 4000000 in

theorem scrubreads_t {w0 : World} {H : Hp} {pa pb2 : Option Addr} {ca cb : Nat} {la lb : List (UInt8 × UInt8)} (hA : Holds w0 H pa (bs (pb la))) (hB : Holds w0 H pb2 (bs (pb lb))) : FnS Try.prog w0 9 #[.slice pa la.length ca, .slice pb2 lb.length cb, .bool true] H (fun e H' => e = .returned (.bool true)) := by
  refine FnS_intro (n := 95) (rs := [.tmp 6]) (vs := [.slice pa la.length ca, .slice pb2 lb.length cb, .bool true]) Try.func9 rfl Try.ntmps9 rfl rfl ?_
  refine C_seq ?_
  refine C_region ?_
  refine L_y rfl (y_assign rfl) rfl ?_
  refine L_nil ?_
  refine C_seq ?_
  refine C_seq ?_
  refine C_region ?_
  refine L_op rfl (op_call rfl rfl (fun a w => Try.call13 a w) rfl ?_)
  refine awake10_s.mono ?_
  rintro _ _ ⟨rfl, e⟩
  obtain rfl := e.symm
  refine ⟨_, rfl, ?_⟩
  refine L_y rfl (y_not rfl) rfl ?_
  refine L_y rfl (y_move rfl) rfl ?_
  refine L_y rfl (y_move rfl) rfl ?_
  refine L_y rfl (y_lenS rfl rfl Try.underlying22) rfl ?_
  refine L_y rfl (y_gtr rfl rfl) rfl ?_
  refine L_y rfl (y_pick_f rfl rfl) rfl ?_
  refine L_y rfl (y_move rfl) rfl ?_
  refine L_case 26 rfl (fun hg1_8 => ?_) (fun hg1_8 => ?_)
  · skip
    refine L_skip rfl rfl ?_
    refine L_skip rfl rfl ?_
    refine L_skip rfl rfl ?_
    refine L_y rfl (y_pick_t rfl rfl) rfl ?_
    refine L_nil ?_
    refine C_cond_t rfl ?_
    refine C_seq ?_
    refine C_region ?_
    refine L_op rfl (op_call rfl rfl (fun a w => Try.call13 a w) rfl ?_)
    refine awake10_s.mono ?_
    rintro _ _ ⟨rfl, e⟩
    obtain rfl := e.symm
    refine ⟨_, rfl, ?_⟩
    refine L_y rfl (y_assign rfl) rfl ?_
    refine L_nil ?_
    refine C_ret ?_
    refine B_ret (rv_tmp rfl rv_nil) (HSub.refl _) ?_
    rfl
  · have q0 := of_decide_eq_false hg1_8
    refine L_y rfl (y_move rfl) rfl ?_
    refine L_y rfl (y_lenS rfl rfl Try.underlying22) rfl ?_
    refine L_y rfl (y_gtr rfl rfl) rfl ?_
    refine L_y rfl (y_pick_f rfl rfl) rfl ?_
    refine L_nil ?_
    refine C_cond rfl (fun hc0 => ?_) (fun hc0 => ?_)
    · replace hc0 := of_decide_eq_true hc0
      refine C_seq ?_
      refine C_region ?_
      refine L_op rfl (op_call rfl rfl (fun a w => Try.call13 a w) rfl ?_)
      refine awake10_s.mono ?_
      rintro _ _ ⟨rfl, e⟩
      obtain rfl := e.symm
      refine ⟨_, rfl, ?_⟩
      refine L_y rfl (y_assign rfl) rfl ?_
      refine L_nil ?_
      refine C_ret ?_
      refine B_ret (rv_tmp rfl rv_nil) (HSub.refl _) ?_
      rfl
    · replace hc0 := of_decide_eq_false hc0
      refine C_skip ?_
      refine C_seq ?_
      obtain ⟨K, hK⟩ : ∃ K, min la.length lb.length = K := ⟨_, rfl⟩
      have hK12 : K ≤ 12 := by omega
      refine C_region ?_
      refine L_y rfl (y_move rfl) rfl ?_
      refine L_y rfl (y_move rfl) rfl ?_
      refine L_op rfl (op_call rfl rfl (fun a w => Try.call14 a w) rfl ?_)
      refine FnS.mono (pair_v (la := la) (lb := lb) (K := K) (hA) (hB) (by omega) hK) ?_
      rintro _ _ ⟨D1, A1, m1, mb1, bx1, by1, bp1, ga1, gb1, hS1, hga1, hgb1, rfl, rfl⟩
      refine ⟨_, rfl, ?_⟩
      refine L_y rfl (y_move rfl) rfl ?_
      refine L_y rfl (y_extract rfl rfl) rfl ?_
      refine L_y rfl (y_extract rfl rfl) rfl ?_
      refine L_y rfl (y_extract rfl rfl) rfl ?_
      refine L_y rfl (y_extract rfl rfl) rfl ?_
      refine L_op rfl (op_alloc zl_27 rfl (fun B1 => ?_))
      refine L_y rfl (y_assign rfl) rfl ?_
      refine L_y rfl (y_assign rfl) rfl ?_
      refine L_y rfl (y_assign rfl) rfl ?_
      refine L_op rfl (op_store (vs := [slV ga1 K, slV gb1 K]) 0 0 rfl rfl rfl sz_27 rfl rfl (fun v hv => by simp at hv; rcases hv with rfl | rfl <;> exact one_slV _ _) (Nat.le_of_ble_eq_true rfl) ?_)
      refine L_nil ?_
      refine C_seq ?_
      refine C_region ?_
      refine L_y rfl (y_assign rfl) rfl ?_
      refine L_nil ?_
      refine C_seq ?_
      refine C_region ?_
      refine L_y rfl (y_assign rfl) rfl ?_
      refine L_nil ?_
      refine C_seq ?_
      refine C_seq ?_
      refine C_region ?_
      refine L_y rfl (y_indexA rfl rfl Try.underlying27 sz_26 (by omega) (by omega) (show _ = 0 from rfl)) rfl ?_
      refine L_y rfl (y_load rfl ag_26 (sees 0 0 rfl) rfl) rfl ?_
      refine L_y rfl (y_lenV hga1 rfl rfl Try.underlying26) rfl ?_
      refine L_y rfl (y_move rfl) rfl ?_
      refine L_nil ?_
      refine C_block ?_
      refine C_loop (ι := Nat × Option SlG × Option SlG) (fun i => [(42, .int .i64 ((K : Nat) : Int)), (43, .int .i64 (i.1 : Int)), (7, ptr bx1), (8, ptr by1), (9, ptr mb1), (10, ptr B1), (11, slV i.2.1 i.1), (12, slV i.2.2 i.1), (2, .bool true)]) (fun i => m1.seg 109 :: D1.seg dt :: slSeg 37 i.2.1 (bs (rvs goodP (prX la K) (prX lb K) i.1).flatten) :: slSeg 40 i.2.2 (intl (res goodP (prX la K) (prX lb K) i.1)) :: [(B1, .cells [slV ga1 K, slV gb1 K].toArray 27)] :: slSeg 37 ga1 (bs (prX la K).flatten) :: slSeg 37 gb1 (bs (prX lb K).flatten) :: H) (fun i => i.1 ≤ K ∧ slOk 128 i.2.1 i.1 (bs (rvs goodP (prX la K) (prX lb K) i.1).flatten) ∧ slOk 1 i.2.2 i.1 (intl (res goodP (prX la K) (prX lb K) i.1))) (fun i => K - i.1) (0, none, none) ⟨Nat.zero_le _, ⟨rfl, rfl⟩, ⟨rfl, rfl⟩⟩ ⟨rfl, rfl, rfl, rfl, rfl, rfl, rfl, rfl, rfl, trivial⟩ (HSub.trans (hsub_flat (H := [_, _, _, _, _] ++ H) (H' := [_, _, [], [], _, _, _] ++ H) rfl) ((hsub (.cons_cons _ (.cons_cons _ (.cons_cons _ (.cons_cons _ (.cons_cons _ (.refl _))))))).trans (hsub_pick [1, 1, 0, 0, 0] rfl))) (fun i hi => ?_)
      obtain ⟨k, g0, g1⟩ := i
      obtain ⟨hk, hg0, hg1⟩ := hi
      simp only at hk hg0 hg1
      dsimp only
      refine C_seq ?_
      refine C_region ?_
      refine L_y rfl (y_lss rfl rfl) rfl ?_
      refine L_nil ?_
      refine C_seq ?_
      refine C_cond rfl (fun hc1 => ?_) (fun hc1 => ?_)
      · replace hc1 : k < K := by have := of_decide_eq_true hc1; omega
        obtain ⟨s, hs⟩ : ∃ s, (prX la K)[k]? = some s := ⟨_, gt_get hS1.vw.a.wlen (by omega)⟩
        obtain ⟨t, ht⟩ : ∃ t, (prX lb K)[k]? = some t := ⟨_, gt_get hS1.vw.b.wlen (by omega)⟩
        have hs8 := hS1.okX s (List.mem_of_getElem? hs)
        have ht8 := hS1.okY t (List.mem_of_getElem? ht)
        refine C_skip ?_
        refine C_seq ?_
        refine C_block ?_
        refine C_seq ?_
        refine C_region ?_
        refine L_y rfl (y_move rfl) rfl ?_
        refine L_y rfl (y_assign rfl) rfl ?_
        refine L_nil ?_
        refine C_seq ?_
        refine C_region ?_
        refine L_y rfl (y_move rfl) rfl ?_
        refine L_y rfl (y_move rfl) rfl ?_
        refine L_op rfl (op_call rfl rfl (fun a w => Try.call25 a w) rfl ?_)
        refine (FnS.sub (hsub_pick [0, 0] rfl) (mread_v hS1 hs ht)).mono ?_
        rintro _ _ ⟨rfl, rfl⟩
        refine ⟨_, rfl, ?_⟩
        refine L_y rfl (y_move rfl) rfl ?_
        refine L_y rfl (y_extract rfl rfl) rfl ?_
        refine L_y rfl (y_extract rfl rfl) rfl ?_
        refine L_op rfl (op_alloc zl_37 rfl (fun B2 => ?_))
        refine L_op rfl (op_storeA 0 0 rfl rfl rfl sz_37 (by rw [bs_length, rdv_len hs8 ht8]) rfl (bs_one _) (by simp) ?_)
        refine L_y rfl (y_assign rfl) rfl ?_
        refine L_nil ?_
        refine C_region ?_
        refine L_y rfl (y_move rfl) rfl ?_
        refine L_y rfl (y_loadA rfl ag_37 sz_37 (sees 0 0 rfl) (by rw [bs_length, rdv_len hs8 ht8]; decide) (bs_whole0 _ (rdv_len hs8 ht8))) rfl ?_
        refine L_op rfl (op_buildSlice (vs := [(0, _)]) rfl Try.underlying26 sz_37 zl_37 rfl (by decide) (fill_one rfl (by rw [bs_length, rdv_len hs8 ht8]) rfl) rfl (fun B3 => ?_))
        refine L_op rfl (op_append (gs := g0) (len := k) (m := 1) (xs := bs (rvs goodP (prX la K) (prX lb K) k).flatten) (vs := bs (rdv goodP k s t)) 4 rfl rfl rfl hg0 (src_slice (sees 0 0 rfl) (by simp [bs_length, rdv_len hs8 ht8]) (bs_whole0 _ (by rw [rdv_len hs8 ht8]))) (by rw [bs_length, rdv_len hs8 ht8]) (bs_one _) Try.underlying26 ni_26 sz_37 by_37 (by decide) zl_37 rfl (by omega) rfl (fun g0n hg0n => ?_))
        rw [← bs_append, rvs_succ hs ht] at hg0n ⊢
        refine L_y rfl (y_move rfl) rfl ?_
        refine L_y rfl (y_move rfl) rfl ?_
        refine L_op rfl (op_buildSlice (vs := [(0, _)]) rfl Try.underlying57 sz_40 zl_40 rfl (by decide) rfl rfl (fun B4 => ?_))
        refine L_op rfl (op_append (gs := g1) (len := k) (m := 1) (xs := intl (res goodP (prX la K) (prX lb K) k)) (vs := [.int .i64 (rde goodP k s t)]) 6 rfl rfl rfl hg1 (src_slice (sees 0 0 rfl) (Nat.le_of_ble_eq_true rfl) rfl) rfl (by simp [one, Value.oneCell']) Try.underlying57 ni_57 sz_40 by_40 (by decide) zl_40 rfl (by omega) rfl (fun g1n hg1n => ?_))
        rw [res_succ hs ht] at hg1n ⊢
        refine L_y rfl (y_assign rfl) rfl ?_
        refine L_y rfl (y_assign rfl) rfl ?_
        refine L_nil ?_
        refine C_region ?_
        refine L_y rfl (y_add rfl rfl (wi64 (by omega) (by omega))) rfl ?_
        refine L_y rfl (y_move rfl) rfl ?_
        refine L_nil ?_
        exact ⟨(k + 1, g0n, g1n), ⟨by simp only; omega, hg0n, hg1n⟩, by simp only; omega, ⟨rfl, rfl, rfl, rfl, rfl, rfl, rfl, rfl, rfl, trivial⟩, ((hsub (.cons_cons _ (.cons_cons _ (.cons_cons _ (.cons_cons _ (.cons_cons _ (.cons_cons _ (.cons_cons _ (.cons _ (.cons _ (.cons _ (.refl _)))))))))))).trans (hsub_pick [3, 3, 3, 3, 3, 3, 3] rfl))⟩
      · replace hc1 := of_decide_eq_false hc1
        refine C_exit ?_
        refine C_seq ?_
        obtain rfl : K = k := by omega
        refine C_region ?_
        refine L_y rfl (y_move rfl) rfl ?_
        refine L_op rfl (op_call rfl rfl (fun a w => Try.call16 a w) rfl ?_)
        refine (FnS.sub (hsub_pick [0, 0] rfl) (all_v hS1 (by omega) (by omega) (by omega) (r := _) rfl)).mono ?_
        rintro _ _ ⟨rfl, D2, A2, m2, hS2, rfl⟩
        refine ⟨_, rfl, ?_⟩
        refine L_nil ?_
        refine C_seq ?_
        refine C_seq ?_
        refine C_region ?_
        refine L_y rfl (y_move rfl) rfl ?_
        refine L_nil ?_
        refine C_cond_t rfl ?_
        refine C_region ?_
        refine L_y rfl (y_move rfl) rfl ?_
        refine L_op rfl (op_call rfl rfl (fun a w => Try.call23 a w) rfl ?_)
        refine (FnS.sub (hsub_pick [1] rfl) (out_v hS2 false)).mono ?_
        rintro _ _ ⟨rfl, D0, hT0, rfl⟩
        refine ⟨_, rfl, ?_⟩
        refine L_nil ?_
        refine C_seq ?_
        refine C_seq ?_
        refine C_region ?_
        refine L_y rfl (y_indexA rfl rfl Try.underlying27 sz_26 (by omega) (by omega) (show _ = 0 from rfl)) rfl ?_
        refine L_y rfl (y_load rfl ag_26 (sees 4 0 rfl) rfl) rfl ?_
        refine L_y rfl (y_lenV hga1 rfl rfl Try.underlying26) rfl ?_
        refine L_y rfl (y_move rfl) rfl ?_
        refine L_nil ?_
        refine C_block ?_
        refine C_loop (ι := Nat) (fun k => [(70, .int .i64 ((K : Nat) : Int)), (71, .int .i64 (k : Int)), (7, ptr bx1), (8, ptr by1), (9, ptr mb1), (10, ptr B1), (11, slV g0 K), (12, slV g1 K)]) (fun k => m2.seg 109 :: D0.seg dt :: slSeg 37 g0 (bs (rvs goodP (prX la K) (prX lb K) K).flatten) :: slSeg 40 g1 (intl (res goodP (prX la K) (prX lb K) K)) :: [(B1, .cells [slV ga1 K, slV gb1 K].toArray 27)] :: slSeg 37 ga1 (bs (prX la K).flatten) :: slSeg 37 gb1 (bs (prX lb K).flatten) :: H) (fun k => k ≤ K) (fun k => K - k) 0 (Nat.zero_le _) ⟨rfl, rfl, rfl, rfl, rfl, rfl, rfl, rfl, trivial⟩ ((hsub (.cons_cons _ (.cons_cons _ (.cons_cons _ (.cons_cons _ (.cons_cons _ (.cons_cons _ (.cons_cons _ (.refl _))))))))).trans (hsub_pick [1, 0, 0, 0, 0, 0, 0] rfl)) (fun k hk => ?_)
        skip
        refine C_seq ?_
        refine C_region ?_
        refine L_y rfl (y_lss rfl rfl) rfl ?_
        refine L_nil ?_
        refine C_seq ?_
        refine C_cond rfl (fun hc3 => ?_) (fun hc3 => ?_)
        · replace hc3 : k < K := by have := of_decide_eq_true hc3; omega
          have hc2 := hc3
          obtain ⟨s, hs⟩ : ∃ s, (prX la K)[k]? = some s := ⟨_, gt_get hS1.vw.a.wlen (by omega)⟩
          obtain ⟨t, ht⟩ : ∃ t, (prX lb K)[k]? = some t := ⟨_, gt_get hS1.vw.b.wlen (by omega)⟩
          have hs8 := hS1.okX s (List.mem_of_getElem? hs)
          have ht8 := hS1.okY t (List.mem_of_getElem? ht)
          cases g0 with
          | none => exact slOk_none hg0 (by omega)
          | some g0 => ?_
          cases g1 with
          | none => exact slOk_none hg1 (by omega)
          | some g1 => ?_
          have hfl := flat_len (rvs_ok (p := goodP) (k := K) hS1.okX hS1.okY hS1.vw.a.wlen hS1.vw.b.wlen (Nat.le_refl _))
          rw [rvs_len] at hfl
          refine C_skip ?_
          refine C_seq ?_
          refine C_block ?_
          refine C_seq ?_
          refine C_region ?_
          refine L_y rfl (y_move rfl) rfl ?_
          refine L_y rfl (y_assign rfl) rfl ?_
          refine L_nil ?_
          refine C_seq ?_
          refine C_region ?_
          refine L_y rfl (y_move rfl) rfl ?_
          refine L_y rfl (y_move rfl) rfl ?_
          refine L_op rfl (op_call rfl rfl (fun a w => Try.call25 a w) rfl ?_)
          refine (FnS.sub (hsub_pick [0, 0] rfl) (mread_after hS2 false hT0 hc2 hs ht)).mono ?_
          rintro _ _ ⟨rfl, rfl⟩
          refine ⟨_, rfl, ?_⟩
          refine L_y rfl (y_move rfl) rfl ?_
          refine L_y rfl (y_extract rfl rfl) rfl ?_
          refine L_y rfl (y_extract rfl rfl) rfl ?_
          refine L_op rfl (op_alloc zl_37 rfl (fun B5 => ?_))
          refine L_op rfl (op_storeA 0 0 rfl rfl rfl sz_37 (by rw [bs_length, rdv_len hs8 ht8]) rfl (bs_one _) (by simp) ?_)
          refine L_y rfl (y_assign rfl) rfl ?_
          refine L_nil ?_
          refine C_seq ?_
          refine C_regionH0 (by kernel_rfl) ?_
          refine H_y 0 rfl (by kernel_rfl) (by kernel_rfl) (by kernel_rfl) (HSub.refl _) rfl (y_loadA rfl ag_37 sz_37 (sees 0 0 rfl) (by rw [bs_length, rdv_len hs8 ht8]; decide) (bs_whole0 _ (rdv_len hs8 ht8))) rfl ?_
          refine H_y 1 rfl (by kernel_rfl) (by kernel_rfl) (by kernel_rfl) (HSub.refl _) rfl (y_move rfl) rfl ?_
          refine H_y 2 rfl (by kernel_rfl) (by kernel_rfl) (by kernel_rfl) (HSub.refl _) rfl (y_move rfl) rfl ?_
          refine H_y 3 rfl (by kernel_rfl) (by kernel_rfl) (by kernel_rfl) (HSub.refl _) rfl (y_indexS rfl rfl Try.underlying26 sz_37 (by omega) (by omega) (show _ = 0 + k * 128 from by simp)) rfl ?_
          refine H_y 4 rfl (by kernel_rfl) (by kernel_rfl) (by kernel_rfl) (HSub.refl _) rfl (y_loadA rfl ag_37 sz_37 (sees 3 0 rfl) (by rw [List.length_append, bs_length, hfl]; omega) (sec_at (n := 0) (rvs_ok (p := goodP) (k := K) hS1.okX hS1.okY hS1.vw.a.wlen hS1.vw.b.wlen (Nat.le_refl _)) (by simp) (rvs_at hc2 hs ht))) rfl ?_
          refine H_y 5 rfl (by kernel_rfl) (by kernel_rfl) (by kernel_rfl) (HSub.refl _) rfl (y_nea rfl rfl Try.underlying37 Try.underlying5 sz_5 eg_37 (rdv_len hs8 ht8) (rdv_len hs8 ht8)) rfl ?_
          refine H_y 6 rfl (by kernel_rfl) (by kernel_rfl) (by kernel_rfl) (HSub.refl _) rfl (y_move rfl) rfl ?_
          refine H_case 86 rfl (fun hg20_7 => ?_) (fun hg20_7 => ?_)
          · exact absurd hg20_7 (by simp)
          · skip
            refine H_y 7 rfl (by kernel_rfl) (by kernel_rfl) (by kernel_rfl) (HSub.refl _) rfl (y_move rfl) rfl ?_
            refine H_y 8 rfl (by kernel_rfl) (by kernel_rfl) (by kernel_rfl) (HSub.refl _) rfl (y_move rfl) rfl ?_
            refine H_y 9 rfl (by kernel_rfl) (by kernel_rfl) (by kernel_rfl) (HSub.refl _) rfl (y_move rfl) rfl ?_
            refine H_y 10 rfl (by kernel_rfl) (by kernel_rfl) (by kernel_rfl) (HSub.refl _) rfl (y_indexS rfl rfl Try.underlying57 sz_40 (by omega) (by omega) (show _ = 0 + k * 1 from by simp)) rfl ?_
            refine H_y 11 rfl (by kernel_rfl) (by kernel_rfl) (by kernel_rfl) (HSub.refl _) rfl (y_load rfl ag_40 (sees 4 0 rfl) (int_at (res_at hc2 hs ht))) rfl ?_
            refine H_y 12 rfl (by kernel_rfl) (by kernel_rfl) (by kernel_rfl) (HSub.refl _) rfl (y_nei rfl rfl) rfl ?_
            refine H_y 13 rfl (by kernel_rfl) (by kernel_rfl) (by kernel_rfl) (HSub.refl _) rfl (y_pick_f rfl rfl) rfl ?_
            refine H_done (by kernel_rfl) ?_
            refine C_cond rfl (fun hc4 => absurd hc4 (by simp)) (fun hc4 => ?_)
            refine C_skip ?_
            refine C_region ?_
            refine L_y rfl (y_add rfl rfl (wi64 (by omega) (by omega))) rfl ?_
            refine L_y rfl (y_move rfl) rfl ?_
            refine L_nil ?_
            exact ⟨k + 1, by omega, by omega, ⟨rfl, rfl, rfl, rfl, rfl, rfl, rfl, rfl, trivial⟩, ((hsub (.cons_cons _ (.cons_cons _ (.cons_cons _ (.cons_cons _ (.cons_cons _ (.cons_cons _ (.cons_cons _ (.cons _ (.refl _)))))))))).trans (hsub_pick [1, 1, 1, 1, 1, 1, 1] rfl))⟩
        · replace hc3 := of_decide_eq_false hc3
          refine C_exit ?_
          refine C_seq ?_
          refine C_region ?_
          refine L_y rfl (y_assign rfl) rfl ?_
          refine L_nil ?_
          refine C_ret ?_
          refine B_ret (rv_tmp rfl rv_nil) (HSub.refl _) ?_
          rfl

set_option maxHeartbeats 4000000 in

theorem scrubreads_f {w0 : World} {H : Hp} {pa pb2 : Option Addr} {ca cb : Nat} {la lb : List (UInt8 × UInt8)} (hA : Holds w0 H pa (bs (pb la))) (hB : Holds w0 H pb2 (bs (pb lb))) : FnS Try.prog w0 9 #[.slice pa la.length ca, .slice pb2 lb.length cb, .bool false] H (fun e H' => e = .returned (.bool true)) := by
  refine FnS_intro (n := 95) (rs := [.tmp 6]) (vs := [.slice pa la.length ca, .slice pb2 lb.length cb, .bool false]) Try.func9 rfl Try.ntmps9 rfl rfl ?_
  refine C_seq ?_
  refine C_region ?_
  refine L_y rfl (y_assign rfl) rfl ?_
  refine L_nil ?_
  refine C_seq ?_
  refine C_seq ?_
  refine C_region ?_
  refine L_op rfl (op_call rfl rfl (fun a w => Try.call13 a w) rfl ?_)
  refine awake10_s.mono ?_
  rintro _ _ ⟨rfl, e⟩
  obtain rfl := e.symm
  refine ⟨_, rfl, ?_⟩
  refine L_y rfl (y_not rfl) rfl ?_
  refine L_y rfl (y_move rfl) rfl ?_
  refine L_y rfl (y_move rfl) rfl ?_
  refine L_y rfl (y_lenS rfl rfl Try.underlying22) rfl ?_
  refine L_y rfl (y_gtr rfl rfl) rfl ?_
  refine L_y rfl (y_pick_f rfl rfl) rfl ?_
  refine L_y rfl (y_move rfl) rfl ?_
  refine L_case 26 rfl (fun hg1_8 => ?_) (fun hg1_8 => ?_)
  · skip
    refine L_skip rfl rfl ?_
    refine L_skip rfl rfl ?_
    refine L_skip rfl rfl ?_
    refine L_y rfl (y_pick_t rfl rfl) rfl ?_
    refine L_nil ?_
    refine C_cond_t rfl ?_
    refine C_seq ?_
    refine C_region ?_
    refine L_op rfl (op_call rfl rfl (fun a w => Try.call13 a w) rfl ?_)
    refine awake10_s.mono ?_
    rintro _ _ ⟨rfl, e⟩
    obtain rfl := e.symm
    refine ⟨_, rfl, ?_⟩
    refine L_y rfl (y_assign rfl) rfl ?_
    refine L_nil ?_
    refine C_ret ?_
    refine B_ret (rv_tmp rfl rv_nil) (HSub.refl _) ?_
    rfl
  · have q0 := of_decide_eq_false hg1_8
    refine L_y rfl (y_move rfl) rfl ?_
    refine L_y rfl (y_lenS rfl rfl Try.underlying22) rfl ?_
    refine L_y rfl (y_gtr rfl rfl) rfl ?_
    refine L_y rfl (y_pick_f rfl rfl) rfl ?_
    refine L_nil ?_
    refine C_cond rfl (fun hc0 => ?_) (fun hc0 => ?_)
    · replace hc0 := of_decide_eq_true hc0
      refine C_seq ?_
      refine C_region ?_
      refine L_op rfl (op_call rfl rfl (fun a w => Try.call13 a w) rfl ?_)
      refine awake10_s.mono ?_
      rintro _ _ ⟨rfl, e⟩
      obtain rfl := e.symm
      refine ⟨_, rfl, ?_⟩
      refine L_y rfl (y_assign rfl) rfl ?_
      refine L_nil ?_
      refine C_ret ?_
      refine B_ret (rv_tmp rfl rv_nil) (HSub.refl _) ?_
      rfl
    · replace hc0 := of_decide_eq_false hc0
      refine C_skip ?_
      refine C_seq ?_
      obtain ⟨K, hK⟩ : ∃ K, min la.length lb.length = K := ⟨_, rfl⟩
      have hK12 : K ≤ 12 := by omega
      refine C_region ?_
      refine L_y rfl (y_move rfl) rfl ?_
      refine L_y rfl (y_move rfl) rfl ?_
      refine L_op rfl (op_call rfl rfl (fun a w => Try.call14 a w) rfl ?_)
      refine FnS.mono (pair_v (la := la) (lb := lb) (K := K) (hA) (hB) (by omega) hK) ?_
      rintro _ _ ⟨D1, A1, m1, mb1, bx1, by1, bp1, ga1, gb1, hS1, hga1, hgb1, rfl, rfl⟩
      refine ⟨_, rfl, ?_⟩
      refine L_y rfl (y_move rfl) rfl ?_
      refine L_y rfl (y_extract rfl rfl) rfl ?_
      refine L_y rfl (y_extract rfl rfl) rfl ?_
      refine L_y rfl (y_extract rfl rfl) rfl ?_
      refine L_y rfl (y_extract rfl rfl) rfl ?_
      refine L_op rfl (op_alloc zl_27 rfl (fun B1 => ?_))
      refine L_y rfl (y_assign rfl) rfl ?_
      refine L_y rfl (y_assign rfl) rfl ?_
      refine L_y rfl (y_assign rfl) rfl ?_
      refine L_op rfl (op_store (vs := [slV ga1 K, slV gb1 K]) 0 0 rfl rfl rfl sz_27 rfl rfl (fun v hv => by simp at hv; rcases hv with rfl | rfl <;> exact one_slV _ _) (Nat.le_of_ble_eq_true rfl) ?_)
      refine L_nil ?_
      refine C_seq ?_
      refine C_region ?_
      refine L_y rfl (y_assign rfl) rfl ?_
      refine L_nil ?_
      refine C_seq ?_
      refine C_region ?_
      refine L_y rfl (y_assign rfl) rfl ?_
      refine L_nil ?_
      refine C_seq ?_
      refine C_seq ?_
      refine C_region ?_
      refine L_y rfl (y_indexA rfl rfl Try.underlying27 sz_26 (by omega) (by omega) (show _ = 0 from rfl)) rfl ?_
      refine L_y rfl (y_load rfl ag_26 (sees 0 0 rfl) rfl) rfl ?_
      refine L_y rfl (y_lenV hga1 rfl rfl Try.underlying26) rfl ?_
      refine L_y rfl (y_move rfl) rfl ?_
      refine L_nil ?_
      refine C_block ?_
      refine C_loop (ι := Nat × Option SlG × Option SlG) (fun i => [(42, .int .i64 ((K : Nat) : Int)), (43, .int .i64 (i.1 : Int)), (7, ptr bx1), (8, ptr by1), (9, ptr mb1), (10, ptr B1), (11, slV i.2.1 i.1), (12, slV i.2.2 i.1), (2, .bool false)]) (fun i => m1.seg 109 :: D1.seg dt :: slSeg 37 i.2.1 (bs (rvs goodP (prX la K) (prX lb K) i.1).flatten) :: slSeg 40 i.2.2 (intl (res goodP (prX la K) (prX lb K) i.1)) :: [(B1, .cells [slV ga1 K, slV gb1 K].toArray 27)] :: slSeg 37 ga1 (bs (prX la K).flatten) :: slSeg 37 gb1 (bs (prX lb K).flatten) :: H) (fun i => i.1 ≤ K ∧ slOk 128 i.2.1 i.1 (bs (rvs goodP (prX la K) (prX lb K) i.1).flatten) ∧ slOk 1 i.2.2 i.1 (intl (res goodP (prX la K) (prX lb K) i.1))) (fun i => K - i.1) (0, none, none) ⟨Nat.zero_le _, ⟨rfl, rfl⟩, ⟨rfl, rfl⟩⟩ ⟨rfl, rfl, rfl, rfl, rfl, rfl, rfl, rfl, rfl, trivial⟩ (HSub.trans (hsub_flat (H := [_, _, _, _, _] ++ H) (H' := [_, _, [], [], _, _, _] ++ H) rfl) ((hsub (.cons_cons _ (.cons_cons _ (.cons_cons _ (.cons_cons _ (.cons_cons _ (.refl _))))))).trans (hsub_pick [1, 1, 0, 0, 0] rfl))) (fun i hi => ?_)
      obtain ⟨k, g0, g1⟩ := i
      obtain ⟨hk, hg0, hg1⟩ := hi
      simp only at hk hg0 hg1
      dsimp only
      refine C_seq ?_
      refine C_region ?_
      refine L_y rfl (y_lss rfl rfl) rfl ?_
      refine L_nil ?_
      refine C_seq ?_
      refine C_cond rfl (fun hc1 => ?_) (fun hc1 => ?_)
      · replace hc1 : k < K := by have := of_decide_eq_true hc1; omega
        obtain ⟨s, hs⟩ : ∃ s, (prX la K)[k]? = some s := ⟨_, gt_get hS1.vw.a.wlen (by omega)⟩
        obtain ⟨t, ht⟩ : ∃ t, (prX lb K)[k]? = some t := ⟨_, gt_get hS1.vw.b.wlen (by omega)⟩
        have hs8 := hS1.okX s (List.mem_of_getElem? hs)
        have ht8 := hS1.okY t (List.mem_of_getElem? ht)
        refine C_skip ?_
        refine C_seq ?_
        refine C_block ?_
        refine C_seq ?_
        refine C_region ?_
        refine L_y rfl (y_move rfl) rfl ?_
        refine L_y rfl (y_assign rfl) rfl ?_
        refine L_nil ?_
        refine C_seq ?_
        refine C_region ?_
        refine L_y rfl (y_move rfl) rfl ?_
        refine L_y rfl (y_move rfl) rfl ?_
        refine L_op rfl (op_call rfl rfl (fun a w => Try.call25 a w) rfl ?_)
        refine (FnS.sub (hsub_pick [0, 0] rfl) (mread_v hS1 hs ht)).mono ?_
        rintro _ _ ⟨rfl, rfl⟩
        refine ⟨_, rfl, ?_⟩
        refine L_y rfl (y_move rfl) rfl ?_
        refine L_y rfl (y_extract rfl rfl) rfl ?_
        refine L_y rfl (y_extract rfl rfl) rfl ?_
        refine L_op rfl (op_alloc zl_37 rfl (fun B2 => ?_))
        refine L_op rfl (op_storeA 0 0 rfl rfl rfl sz_37 (by rw [bs_length, rdv_len hs8 ht8]) rfl (bs_one _) (by simp) ?_)
        refine L_y rfl (y_assign rfl) rfl ?_
        refine L_nil ?_
        refine C_region ?_
        refine L_y rfl (y_move rfl) rfl ?_
        refine L_y rfl (y_loadA rfl ag_37 sz_37 (sees 0 0 rfl) (by rw [bs_length, rdv_len hs8 ht8]; decide) (bs_whole0 _ (rdv_len hs8 ht8))) rfl ?_
        refine L_op rfl (op_buildSlice (vs := [(0, _)]) rfl Try.underlying26 sz_37 zl_37 rfl (by decide) (fill_one rfl (by rw [bs_length, rdv_len hs8 ht8]) rfl) rfl (fun B3 => ?_))
        refine L_op rfl (op_append (gs := g0) (len := k) (m := 1) (xs := bs (rvs goodP (prX la K) (prX lb K) k).flatten) (vs := bs (rdv goodP k s t)) 4 rfl rfl rfl hg0 (src_slice (sees 0 0 rfl) (by simp [bs_length, rdv_len hs8 ht8]) (bs_whole0 _ (by rw [rdv_len hs8 ht8]))) (by rw [bs_length, rdv_len hs8 ht8]) (bs_one _) Try.underlying26 ni_26 sz_37 by_37 (by decide) zl_37 rfl (by omega) rfl (fun g0n hg0n => ?_))
        rw [← bs_append, rvs_succ hs ht] at hg0n ⊢
        refine L_y rfl (y_move rfl) rfl ?_
        refine L_y rfl (y_move rfl) rfl ?_
        refine L_op rfl (op_buildSlice (vs := [(0, _)]) rfl Try.underlying57 sz_40 zl_40 rfl (by decide) rfl rfl (fun B4 => ?_))
        refine L_op rfl (op_append (gs := g1) (len := k) (m := 1) (xs := intl (res goodP (prX la K) (prX lb K) k)) (vs := [.int .i64 (rde goodP k s t)]) 6 rfl rfl rfl hg1 (src_slice (sees 0 0 rfl) (Nat.le_of_ble_eq_true rfl) rfl) rfl (by simp [one, Value.oneCell']) Try.underlying57 ni_57 sz_40 by_40 (by decide) zl_40 rfl (by omega) rfl (fun g1n hg1n => ?_))
        rw [res_succ hs ht] at hg1n ⊢
        refine L_y rfl (y_assign rfl) rfl ?_
        refine L_y rfl (y_assign rfl) rfl ?_
        refine L_nil ?_
        refine C_region ?_
        refine L_y rfl (y_add rfl rfl (wi64 (by omega) (by omega))) rfl ?_
        refine L_y rfl (y_move rfl) rfl ?_
        refine L_nil ?_
        exact ⟨(k + 1, g0n, g1n), ⟨by simp only; omega, hg0n, hg1n⟩, by simp only; omega, ⟨rfl, rfl, rfl, rfl, rfl, rfl, rfl, rfl, rfl, trivial⟩, ((hsub (.cons_cons _ (.cons_cons _ (.cons_cons _ (.cons_cons _ (.cons_cons _ (.cons_cons _ (.cons_cons _ (.cons _ (.cons _ (.cons _ (.refl _)))))))))))).trans (hsub_pick [3, 3, 3, 3, 3, 3, 3] rfl))⟩
      · replace hc1 := of_decide_eq_false hc1
        refine C_exit ?_
        refine C_seq ?_
        obtain rfl : K = k := by omega
        refine C_region ?_
        refine L_y rfl (y_move rfl) rfl ?_
        refine L_op rfl (op_call rfl rfl (fun a w => Try.call16 a w) rfl ?_)
        refine (FnS.sub (hsub_pick [0, 0] rfl) (all_v hS1 (by omega) (by omega) (by omega) (r := _) rfl)).mono ?_
        rintro _ _ ⟨rfl, D2, A2, m2, hS2, rfl⟩
        refine ⟨_, rfl, ?_⟩
        refine L_nil ?_
        refine C_seq ?_
        refine C_seq ?_
        refine C_region ?_
        refine L_y rfl (y_move rfl) rfl ?_
        refine L_nil ?_
        refine C_cond_f rfl ?_
        refine C_region ?_
        refine L_y rfl (y_move rfl) rfl ?_
        refine L_op rfl (op_call rfl rfl (fun a w => Try.call23 a w) rfl ?_)
        refine (FnS.sub (hsub_pick [1] rfl) (out_v hS2 true)).mono ?_
        rintro _ _ ⟨rfl, D0, hT0, rfl⟩
        refine ⟨_, rfl, ?_⟩
        refine L_nil ?_
        refine C_seq ?_
        refine C_seq ?_
        refine C_region ?_
        refine L_y rfl (y_indexA rfl rfl Try.underlying27 sz_26 (by omega) (by omega) (show _ = 0 from rfl)) rfl ?_
        refine L_y rfl (y_load rfl ag_26 (sees 4 0 rfl) rfl) rfl ?_
        refine L_y rfl (y_lenV hga1 rfl rfl Try.underlying26) rfl ?_
        refine L_y rfl (y_move rfl) rfl ?_
        refine L_nil ?_
        refine C_block ?_
        refine C_loop (ι := Nat) (fun k => [(70, .int .i64 ((K : Nat) : Int)), (71, .int .i64 (k : Int)), (7, ptr bx1), (8, ptr by1), (9, ptr mb1), (10, ptr B1), (11, slV g0 K), (12, slV g1 K)]) (fun k => m2.seg 109 :: D0.seg dt :: slSeg 37 g0 (bs (rvs goodP (prX la K) (prX lb K) K).flatten) :: slSeg 40 g1 (intl (res goodP (prX la K) (prX lb K) K)) :: [(B1, .cells [slV ga1 K, slV gb1 K].toArray 27)] :: slSeg 37 ga1 (bs (prX la K).flatten) :: slSeg 37 gb1 (bs (prX lb K).flatten) :: H) (fun k => k ≤ K) (fun k => K - k) 0 (Nat.zero_le _) ⟨rfl, rfl, rfl, rfl, rfl, rfl, rfl, rfl, trivial⟩ ((hsub (.cons_cons _ (.cons_cons _ (.cons_cons _ (.cons_cons _ (.cons_cons _ (.cons_cons _ (.cons_cons _ (.refl _))))))))).trans (hsub_pick [1, 0, 0, 0, 0, 0, 0] rfl)) (fun k hk => ?_)
        skip
        refine C_seq ?_
        refine C_region ?_
        refine L_y rfl (y_lss rfl rfl) rfl ?_
        refine L_nil ?_
        refine C_seq ?_
        refine C_cond rfl (fun hc3 => ?_) (fun hc3 => ?_)
        · replace hc3 : k < K := by have := of_decide_eq_true hc3; omega
          have hc2 := hc3
          obtain ⟨s, hs⟩ : ∃ s, (prX la K)[k]? = some s := ⟨_, gt_get hS1.vw.a.wlen (by omega)⟩
          obtain ⟨t, ht⟩ : ∃ t, (prX lb K)[k]? = some t := ⟨_, gt_get hS1.vw.b.wlen (by omega)⟩
          have hs8 := hS1.okX s (List.mem_of_getElem? hs)
          have ht8 := hS1.okY t (List.mem_of_getElem? ht)
          cases g0 with
          | none => exact slOk_none hg0 (by omega)
          | some g0 => ?_
          cases g1 with
          | none => exact slOk_none hg1 (by omega)
          | some g1 => ?_
          have hfl := flat_len (rvs_ok (p := goodP) (k := K) hS1.okX hS1.okY hS1.vw.a.wlen hS1.vw.b.wlen (Nat.le_refl _))
          rw [rvs_len] at hfl
          refine C_skip ?_
          refine C_seq ?_
          refine C_block ?_
          refine C_seq ?_
          refine C_region ?_
          refine L_y rfl (y_move rfl) rfl ?_
          refine L_y rfl (y_assign rfl) rfl ?_
          refine L_nil ?_
          refine C_seq ?_
          refine C_region ?_
          refine L_y rfl (y_move rfl) rfl ?_
          refine L_y rfl (y_move rfl) rfl ?_
          refine L_op rfl (op_call rfl rfl (fun a w => Try.call25 a w) rfl ?_)
          refine (FnS.sub (hsub_pick [0, 0] rfl) (mread_after hS2 true hT0 hc2 hs ht)).mono ?_
          rintro _ _ ⟨rfl, rfl⟩
          refine ⟨_, rfl, ?_⟩
          refine L_y rfl (y_move rfl) rfl ?_
          refine L_y rfl (y_extract rfl rfl) rfl ?_
          refine L_y rfl (y_extract rfl rfl) rfl ?_
          refine L_op rfl (op_alloc zl_37 rfl (fun B5 => ?_))
          refine L_op rfl (op_storeA 0 0 rfl rfl rfl sz_37 (by rw [bs_length, rdv_len hs8 ht8]) rfl (bs_one _) (by simp) ?_)
          refine L_y rfl (y_assign rfl) rfl ?_
          refine L_nil ?_
          refine C_seq ?_
          refine C_regionH0 (by kernel_rfl) ?_
          refine H_y 0 rfl (by kernel_rfl) (by kernel_rfl) (by kernel_rfl) (HSub.refl _) rfl (y_loadA rfl ag_37 sz_37 (sees 0 0 rfl) (by rw [bs_length, rdv_len hs8 ht8]; decide) (bs_whole0 _ (rdv_len hs8 ht8))) rfl ?_
          refine H_y 1 rfl (by kernel_rfl) (by kernel_rfl) (by kernel_rfl) (HSub.refl _) rfl (y_move rfl) rfl ?_
          refine H_y 2 rfl (by kernel_rfl) (by kernel_rfl) (by kernel_rfl) (HSub.refl _) rfl (y_move rfl) rfl ?_
          refine H_y 3 rfl (by kernel_rfl) (by kernel_rfl) (by kernel_rfl) (HSub.refl _) rfl (y_indexS rfl rfl Try.underlying26 sz_37 (by omega) (by omega) (show _ = 0 + k * 128 from by simp)) rfl ?_
          refine H_y 4 rfl (by kernel_rfl) (by kernel_rfl) (by kernel_rfl) (HSub.refl _) rfl (y_loadA rfl ag_37 sz_37 (sees 3 0 rfl) (by rw [List.length_append, bs_length, hfl]; omega) (sec_at (n := 0) (rvs_ok (p := goodP) (k := K) hS1.okX hS1.okY hS1.vw.a.wlen hS1.vw.b.wlen (Nat.le_refl _)) (by simp) (rvs_at hc2 hs ht))) rfl ?_
          refine H_y 5 rfl (by kernel_rfl) (by kernel_rfl) (by kernel_rfl) (HSub.refl _) rfl (y_nea rfl rfl Try.underlying37 Try.underlying5 sz_5 eg_37 (rdv_len hs8 ht8) (rdv_len hs8 ht8)) rfl ?_
          refine H_y 6 rfl (by kernel_rfl) (by kernel_rfl) (by kernel_rfl) (HSub.refl _) rfl (y_move rfl) rfl ?_
          refine H_case 86 rfl (fun hg20_7 => ?_) (fun hg20_7 => ?_)
          · exact absurd hg20_7 (by simp)
          · skip
            refine H_y 7 rfl (by kernel_rfl) (by kernel_rfl) (by kernel_rfl) (HSub.refl _) rfl (y_move rfl) rfl ?_
            refine H_y 8 rfl (by kernel_rfl) (by kernel_rfl) (by kernel_rfl) (HSub.refl _) rfl (y_move rfl) rfl ?_
            refine H_y 9 rfl (by kernel_rfl) (by kernel_rfl) (by kernel_rfl) (HSub.refl _) rfl (y_move rfl) rfl ?_
            refine H_y 10 rfl (by kernel_rfl) (by kernel_rfl) (by kernel_rfl) (HSub.refl _) rfl (y_indexS rfl rfl Try.underlying57 sz_40 (by omega) (by omega) (show _ = 0 + k * 1 from by simp)) rfl ?_
            refine H_y 11 rfl (by kernel_rfl) (by kernel_rfl) (by kernel_rfl) (HSub.refl _) rfl (y_load rfl ag_40 (sees 4 0 rfl) (int_at (res_at hc2 hs ht))) rfl ?_
            refine H_y 12 rfl (by kernel_rfl) (by kernel_rfl) (by kernel_rfl) (HSub.refl _) rfl (y_nei rfl rfl) rfl ?_
            refine H_y 13 rfl (by kernel_rfl) (by kernel_rfl) (by kernel_rfl) (HSub.refl _) rfl (y_pick_f rfl rfl) rfl ?_
            refine H_done (by kernel_rfl) ?_
            refine C_cond rfl (fun hc4 => absurd hc4 (by simp)) (fun hc4 => ?_)
            refine C_skip ?_
            refine C_region ?_
            refine L_y rfl (y_add rfl rfl (wi64 (by omega) (by omega))) rfl ?_
            refine L_y rfl (y_move rfl) rfl ?_
            refine L_nil ?_
            exact ⟨k + 1, by omega, by omega, ⟨rfl, rfl, rfl, rfl, rfl, rfl, rfl, rfl, trivial⟩, ((hsub (.cons_cons _ (.cons_cons _ (.cons_cons _ (.cons_cons _ (.cons_cons _ (.cons_cons _ (.cons_cons _ (.cons _ (.refl _)))))))))).trans (hsub_pick [1, 1, 1, 1, 1, 1, 1] rfl))⟩
        · replace hc3 := of_decide_eq_false hc3
          refine C_exit ?_
          refine C_seq ?_
          refine C_region ?_
          refine L_y rfl (y_assign rfl) rfl ?_
          refine L_nil ?_
          refine C_ret ?_
          refine B_ret (rv_tmp rfl rv_nil) (HSub.refl _) ?_
          rfl

end Go.Proofs.Ytoaalclbplgegaa
