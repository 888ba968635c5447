/- walks (own work; the walks' lines by a program of this repo). -/
import Derived.Test.YtoaalclbplgegaaSwW
import Derived.Test.YtoaalclbplgegaaMnW
set_option linter.unusedVariables false
set_option linter.unusedSimpArgs false
set_option maxRecDepth 20000
namespace Go.Proofs.Ytoaalclbplgegaa
open Go.Sl
attribute [local irreducible] BodyQ WpC WpL WpS WpH OpW FnS



set_option maxHeartbeats 4000000 in

theorem pair_s {w0 : World} {H : Hp} {pa pb2 : Option Addr} {ca cb : Nat} {la lb : List (UInt8 × UInt8)} (hA : Holds w0 H pa (bs (pb la))) (hB : Holds w0 H pb2 (bs (pb lb))) (hn : (min la.length lb.length) ≤ 12) : FnS Try.prog w0 14 #[.slice pa la.length ca, .slice pb2 lb.length cb] H (fun e H' => ∃ (D : Duo) (A : Da) (m : Mi) (bp : Nat) (g0 g1 : Option SlG), Two dt D A m.bx m.bys bp ∧ Vw A (min la.length lb.length) (prX la (min la.length lb.length)) (prX lb (min la.length lb.length)) 0 0 ∧ m.n = (min la.length lb.length) ∧ m.k0 = [] ∧ m.k1 = [] ∧ m.gv = .func (.func 26) #[] ([] : List Value).toArray ∧ slOk 128 g0 (min la.length lb.length) (bs (prX la (min la.length lb.length)).flatten) ∧ slOk 128 g1 (min la.length lb.length) (bs (prX lb (min la.length lb.length)).flatten) ∧ e = .returned (.tuple #[ptr m.bx, ptr m.bys, ptr m.b, .agg [slV g0 (min la.length lb.length), slV g1 (min la.length lb.length)].toArray]) ∧ H' = m.seg 109 :: D.seg dt :: slSeg 37 g0 (bs (prX la (min la.length lb.length)).flatten) :: slSeg 37 g1 (bs (prX lb (min la.length lb.length)).flatten) :: H) := by
  refine FnS_intro (n := 85) (rs := [.tmp 4, .tmp 5, .tmp 6, .cell 7 27]) (vs := [.slice pa la.length ca, .slice pb2 lb.length cb]) Try.func14 rfl Try.ntmps14 rfl rfl ?_
  refine C_seq ?_
  refine C_region ?_
  refine L_y rfl (y_assign rfl) rfl ?_
  refine L_y rfl (y_assign rfl) rfl ?_
  refine L_y rfl (y_assign rfl) rfl ?_
  refine L_op rfl (op_alloc zl_27 rfl (fun B1 => ?_))
  refine L_nil ?_
  refine C_seq ?_
  refine C_region ?_
  refine L_op rfl (op_call rfl rfl (fun a w => Try.call29 a w) rfl ?_)
  refine newpower_l.mono ?_
  rintro _ _ ⟨p1, hpk1, hdv1, hP1, rfl, rfl⟩
  refine ⟨_, rfl, ?_⟩
  refine L_y rfl (y_assign rfl) rfl ?_
  refine L_nil ?_
  refine C_seq ?_
  refine C_region ?_
  refine L_y rfl (y_move rfl) rfl ?_
  refine L_y rfl (y_lenS rfl rfl Try.underlying22) rfl ?_
  refine L_y rfl (y_move rfl) rfl ?_
  refine L_y rfl (y_lenS rfl rfl Try.underlying22) rfl ?_
  refine L_y rfl (y_minN rfl rfl) rfl ?_
  refine L_y rfl (y_assign rfl) rfl ?_
  refine L_nil ?_
  refine C_seq ?_
  refine C_region ?_
  refine L_y rfl (y_move rfl) rfl ?_
  refine L_y rfl (y_move rfl) rfl ?_
  refine L_op rfl (op_call rfl rfl (fun a w => Try.call30 a w) rfl ?_)
  refine ((new_l (H := (_ :: H)) (rfl : p1.b = _) hpk1 hdv1 (((min la.length lb.length) : Nat) : Int)).sub (hsub_pick [0, 0] rfl)).mono ?_
  rintro _ _ ⟨d91, p91, hG91, pb91, ha91, hq91, rfl, rfl⟩
  have hA91 : d91.a = Ab.new (min la.length lb.length) := by rw [ha91] <;> (rw [show szOf (((min la.length lb.length) : Nat) : Int) = (min la.length lb.length) from by unfold szOf; omega])
  have hP91 : p91.a = _ := hq91.trans hP1
  have hb91 : d91.b = d91.b := rfl
  refine ⟨_, rfl, ?_⟩
  refine L_y rfl (y_move rfl) rfl ?_
  refine L_y rfl (y_move rfl) rfl ?_
  refine L_op rfl (op_call rfl rfl (fun a w => Try.call30 a w) rfl ?_)
  refine ((newtwo_d hG91 pb91 rfl (((min la.length lb.length) : Nat) : Int)).sub (hsub_pick [0, 0, 0, 0, 0] rfl)).mono ?_
  rintro _ _ ⟨by1, D1, h1, rfl, rfl⟩
  replace h1 := h1.to (B := ⟨Ab.new (min la.length lb.length), Ab.new (min la.length lb.length), q0, none⟩) (by rw [hA91, hP91] <;> (rw [show szOf (((min la.length lb.length) : Nat) : Int) = (min la.length lb.length) from by unfold szOf; omega]))
  refine ⟨_, rfl, ?_⟩
  refine L_y rfl (y_assign rfl) rfl ?_
  refine L_y rfl (y_assign rfl) rfl ?_
  refine L_nil ?_
  refine C_seq ?_
  refine C_region ?_
  refine L_op rfl (op_alloc zl_27 rfl (fun B2 => ?_))
  refine L_nil ?_
  refine C_seq ?_
  refine C_seq ?_
  refine C_region ?_
  refine L_y rfl (y_move rfl) rfl ?_
  refine L_y rfl (y_move rfl) rfl ?_
  refine L_nil ?_
  refine C_block ?_
  refine C_loop (ι := Duo × Da × Nat × Option SlG × Option SlG) (fun i => [(0, .slice pa la.length ca), (1, .slice pb2 lb.length cb), (10, ptr d91.b), (11, ptr by1), (12, ptr B2), (7, ptr B1), (28, .int .i64 (((min la.length lb.length) : Nat) : Int)), (29, .int .i64 (i.2.2.1 : Int))]) (fun i => i.1.seg dt :: [(B2, .cells [slV i.2.2.2.1 i.2.2.1, slV i.2.2.2.2 i.2.2.1].toArray 27)] :: slSeg 37 i.2.2.2.1 (bs (prX la i.2.2.1).flatten) :: slSeg 37 i.2.2.2.2 (bs (prX lb i.2.2.1).flatten) :: [(B1, .cells [Value.slice none 0 0, .slice none 0 0].toArray 27)] :: H) (fun i => Two dt i.1 i.2.1 d91.b by1 p1.b ∧ Vw i.2.1 (min la.length lb.length) (wX la (min la.length lb.length) i.2.2.1) (wX lb (min la.length lb.length) i.2.2.1) i.2.2.1 i.2.2.1 ∧ i.2.2.1 ≤ (min la.length lb.length) ∧ slOk 128 i.2.2.2.1 i.2.2.1 (bs (prX la i.2.2.1).flatten) ∧ slOk 128 i.2.2.2.2 i.2.2.1 (bs (prX lb i.2.2.1).flatten)) (fun i => (min la.length lb.length) - i.2.2.1) (D1, _, 0, none, none) ⟨h1, by rw [wX_0, wX_0]; exact Vw.new (by omega) none (.inl rfl), Nat.zero_le _, ⟨rfl, rfl⟩, ⟨rfl, rfl⟩⟩ ⟨rfl, rfl, rfl, rfl, rfl, rfl, rfl, rfl, trivial⟩ (HSub.trans (hsub_flat (H := [_, _, _] ++ H) (H' := [_, _, [], [], _] ++ H) rfl) ((hsub (.cons_cons _ (.cons_cons _ (.cons_cons _ (.refl _))))).trans (hsub_pick [1, 0, 0] rfl))) (fun i hi => ?_)
  obtain ⟨D, A, k, g0, g1⟩ := i
  obtain ⟨hT, hV, hk, hg0, hg1⟩ := hi
  simp only at hT hV hk hg0 hg1
  dsimp only
  refine C_seq ?_
  refine C_region ?_
  refine L_y rfl (y_lss rfl rfl) rfl ?_
  refine L_nil ?_
  refine C_seq ?_
  refine C_cond rfl (fun hc0 => ?_) (fun hc0 => ?_)
  · replace hc0 := of_decide_eq_true hc0
    obtain ⟨x, hx⟩ : ∃ x, la[k]? = some x := ⟨_, List.getElem?_eq_getElem (by omega)⟩
    obtain ⟨y, hy⟩ : ∃ y, lb[k]? = some y := ⟨_, List.getElem?_eq_getElem (by omega)⟩
    obtain ⟨b1, o1, l1, T1, fr1, rfl, hs1, hle1, hv1⟩ := hA (by rw [bs_length, pb_len]; omega)
    obtain ⟨b2, o2, l2, T2, fr2, rfl, hs2, hle2, hv2⟩ := hB (by rw [bs_length, pb_len]; omega)
    rw [bs_length, pb_len] at hle1 hv1 hle2 hv2
    refine C_skip ?_
    refine C_cutG (ι := Duo × Da × Option SlG × Option SlG) (fun i => Two dt i.1 i.2.1 d91.b by1 p1.b ∧ Vw i.2.1 (min la.length lb.length) (wX la (min la.length lb.length) (k + 1)) (wX lb (min la.length lb.length) (k + 1)) (k + 1) (k + 1) ∧ slOk 128 i.2.2.1 (k + 1) (bs (prX la (k + 1)).flatten) ∧ slOk 128 i.2.2.2 (k + 1) (bs (prX lb (k + 1)).flatten)) (fun i => [(0, .slice (some ⟨b1, o1, none⟩) la.length ca), (1, .slice (some ⟨b2, o2, none⟩) lb.length cb), (10, ptr d91.b), (11, ptr by1), (12, ptr B2), (7, ptr B1), (28, .int .i64 (((min la.length lb.length) : Nat) : Int)), (29, .int .i64 (k : Int))]) (fun i => i.1.seg dt :: [(B2, .cells [slV i.2.2.1 (k + 1), slV i.2.2.2 (k + 1)].toArray 27)] :: slSeg 37 i.2.2.1 (bs (prX la (k + 1)).flatten) :: slSeg 37 i.2.2.2 (bs (prX lb (k + 1)).flatten) :: [(B1, .cells [Value.slice none 0 0, .slice none 0 0].toArray 27)] :: H) ?_ (fun i hi => ?_)
    · refine C_block ?_
      refine C_seq ?_
      refine C_region ?_
      refine L_y rfl (y_move rfl) rfl ?_
      refine L_y rfl (y_assign rfl) rfl ?_
      refine L_nil ?_
      refine C_cutG (ι := Nat × Nat) (fun _ => True) (fun i => [(13, .int .i64 (k : Int)), (14, ptr i.1), (15, ptr i.2), (0, .slice (some ⟨b1, o1, none⟩) la.length ca), (1, .slice (some ⟨b2, o2, none⟩) lb.length cb), (10, ptr d91.b), (11, ptr by1), (12, ptr B2), (7, ptr B1), (28, .int .i64 (((min la.length lb.length) : Nat) : Int)), (29, .int .i64 (k : Int))]) (fun i => D.seg dt :: [(B2, .cells [slV g0 k, slV g1 k].toArray 27)] :: slSeg 37 g0 (bs (prX la k).flatten) :: slSeg 37 g1 (bs (prX lb k).flatten) :: [(B1, .cells [Value.slice none 0 0, .slice none 0 0].toArray 27)] :: [(i.1, .cells (bs (sec2 x)).toArray 37)] :: [(i.2, .cells (bs (sec2 y)).toArray 37)] :: H) ?_ (fun i hi => ?_)
      · refine C_regionH H (by kernel_rfl) ?_
        refine H_y 0 rfl (by kernel_rfl) (by kernel_rfl) (by kernel_rfl) (hsub (.cons _ (.cons _ (.cons _ (.cons _ (.cons _ (.refl _))))))) rfl (y_move rfl) rfl ?_
        refine H_y 1 rfl (by kernel_rfl) (by kernel_rfl) (by kernel_rfl) (hsub (.cons _ (.cons _ (.cons _ (.cons _ (.cons _ (.refl _))))))) rfl (y_move rfl) rfl ?_
        refine H_y 2 rfl (by kernel_rfl) (by kernel_rfl) (by kernel_rfl) (hsub (.cons _ (.cons _ (.cons _ (.cons _ (.cons _ (.refl _))))))) rfl (y_indexS rfl rfl Try.underlying22 sz_58 (by omega) (by omega) (show _ = o1 + k * 2 from by simp)) rfl ?_
        refine H_y 3 rfl (by kernel_rfl) (by kernel_rfl) (by kernel_rfl) (hsub (.cons _ (.cons _ (.cons _ (.cons _ (.cons _ (.refl _))))))) rfl (y_indexA rfl rfl Try.underlying58 sz_5 (by omega) (by omega) (show _ = o1 + k * 2 + 0 from rfl)) rfl ?_
        refine H_y 4 rfl (by kernel_rfl) (by kernel_rfl) (by kernel_rfl) (hsub (.cons _ (.cons _ (.cons _ (.cons _ (.cons _ (.refl _))))))) rfl (y_load rfl ag_5 (hs1) (pair_at hv1 hx (.inl ⟨rfl, rfl⟩))) rfl ?_
        refine H_y 5 rfl (by kernel_rfl) (by kernel_rfl) (by kernel_rfl) (hsub (.cons _ (.cons _ (.cons _ (.cons _ (.cons _ (.refl _))))))) rfl (y_move rfl) rfl ?_
        refine H_y 6 rfl (by kernel_rfl) (by kernel_rfl) (by kernel_rfl) (hsub (.cons _ (.cons _ (.cons _ (.cons _ (.cons _ (.refl _))))))) rfl (y_move rfl) rfl ?_
        refine H_y 7 rfl (by kernel_rfl) (by kernel_rfl) (by kernel_rfl) (hsub (.cons _ (.cons _ (.cons _ (.cons _ (.cons _ (.refl _))))))) rfl (y_indexS rfl rfl Try.underlying22 sz_58 (by omega) (by omega) (show _ = o1 + k * 2 from by simp)) rfl ?_
        refine H_y 8 rfl (by kernel_rfl) (by kernel_rfl) (by kernel_rfl) (hsub (.cons _ (.cons _ (.cons _ (.cons _ (.cons _ (.refl _))))))) rfl (y_indexA rfl rfl Try.underlying58 sz_5 (by omega) (by omega) (show _ = o1 + k * 2 + 1 from rfl)) rfl ?_
        refine H_y 9 rfl (by kernel_rfl) (by kernel_rfl) (by kernel_rfl) (hsub (.cons _ (.cons _ (.cons _ (.cons _ (.cons _ (.refl _))))))) rfl (y_load rfl ag_5 (hs1) (pair_at hv1 hx (.inr ⟨rfl, rfl⟩))) rfl ?_
        refine H_y 10 rfl (by kernel_rfl) (by kernel_rfl) (by kernel_rfl) (hsub (.cons _ (.cons _ (.cons _ (.cons _ (.cons _ (.refl _))))))) rfl (y_buildA (vs := [(0, _), (1, _)]) (l := bs (sec2 x)) rfl Try.underlying37 sz_5 zl_37 (by rw [sec2_fill]; exact (fill_cons (off := 0) (m := 1) (vs := [_]) rfl rfl rfl (Nat.le_of_ble_eq_true rfl) (fill_cons (off := 1) (m := 1) (vs := [_]) rfl rfl rfl (Nat.le_of_ble_eq_true rfl) rfl)))) rfl ?_
        refine H_y 11 rfl (by kernel_rfl) (by kernel_rfl) (by kernel_rfl) (hsub (.cons _ (.cons _ (.cons _ (.cons _ (.cons _ (.refl _))))))) rfl (y_move rfl) rfl ?_
        refine H_y 12 rfl (by kernel_rfl) (by kernel_rfl) (by kernel_rfl) (hsub (.cons _ (.cons _ (.cons _ (.cons _ (.cons _ (.refl _))))))) rfl (y_move rfl) rfl ?_
        refine H_y 13 rfl (by kernel_rfl) (by kernel_rfl) (by kernel_rfl) (hsub (.cons _ (.cons _ (.cons _ (.cons _ (.cons _ (.refl _))))))) rfl (y_indexS rfl rfl Try.underlying22 sz_58 (by omega) (by omega) (show _ = o2 + k * 2 from by simp)) rfl ?_
        refine H_y 14 rfl (by kernel_rfl) (by kernel_rfl) (by kernel_rfl) (hsub (.cons _ (.cons _ (.cons _ (.cons _ (.cons _ (.refl _))))))) rfl (y_indexA rfl rfl Try.underlying58 sz_5 (by omega) (by omega) (show _ = o2 + k * 2 + 0 from rfl)) rfl ?_
        refine H_y 15 rfl (by kernel_rfl) (by kernel_rfl) (by kernel_rfl) (hsub (.cons _ (.cons _ (.cons _ (.cons _ (.cons _ (.refl _))))))) rfl (y_load rfl ag_5 (hs2) (pair_at hv2 hy (.inl ⟨rfl, rfl⟩))) rfl ?_
        refine H_y 16 rfl (by kernel_rfl) (by kernel_rfl) (by kernel_rfl) (hsub (.cons _ (.cons _ (.cons _ (.cons _ (.cons _ (.refl _))))))) rfl (y_move rfl) rfl ?_
        refine H_y 17 rfl (by kernel_rfl) (by kernel_rfl) (by kernel_rfl) (hsub (.cons _ (.cons _ (.cons _ (.cons _ (.cons _ (.refl _))))))) rfl (y_move rfl) rfl ?_
        refine H_y 18 rfl (by kernel_rfl) (by kernel_rfl) (by kernel_rfl) (hsub (.cons _ (.cons _ (.cons _ (.cons _ (.cons _ (.refl _))))))) rfl (y_indexS rfl rfl Try.underlying22 sz_58 (by omega) (by omega) (show _ = o2 + k * 2 from by simp)) rfl ?_
        refine H_y 19 rfl (by kernel_rfl) (by kernel_rfl) (by kernel_rfl) (hsub (.cons _ (.cons _ (.cons _ (.cons _ (.cons _ (.refl _))))))) rfl (y_indexA rfl rfl Try.underlying58 sz_5 (by omega) (by omega) (show _ = o2 + k * 2 + 1 from rfl)) rfl ?_
        refine H_y 20 rfl (by kernel_rfl) (by kernel_rfl) (by kernel_rfl) (hsub (.cons _ (.cons _ (.cons _ (.cons _ (.cons _ (.refl _))))))) rfl (y_load rfl ag_5 (hs2) (pair_at hv2 hy (.inr ⟨rfl, rfl⟩))) rfl ?_
        refine H_y 21 rfl (by kernel_rfl) (by kernel_rfl) (by kernel_rfl) (hsub (.cons _ (.cons _ (.cons _ (.cons _ (.cons _ (.refl _))))))) rfl (y_buildA (vs := [(0, _), (1, _)]) (l := bs (sec2 y)) rfl Try.underlying37 sz_5 zl_37 (by rw [sec2_fill]; exact (fill_cons (off := 0) (m := 1) (vs := [_]) rfl rfl rfl (Nat.le_of_ble_eq_true rfl) (fill_cons (off := 1) (m := 1) (vs := [_]) rfl rfl rfl (Nat.le_of_ble_eq_true rfl) rfl)))) rfl ?_
        refine H_two 22 23 rfl rfl (by kernel_rfl) rfl rfl ?_ ?_
        · refine op_alloc zl_37 rfl (fun B3 => ?_)
          refine ⟨hsub (.cons _ (.cons _ (.cons _ (.cons _ (.cons _ (.cons _ (.refl _))))))), ?_⟩
          refine H_one 23 rfl (by kernel_rfl) rfl (op_alloc zl_37 rfl (fun B4 => ?_))
          refine ⟨hsub (.cons _ (.cons _ (.cons _ (.cons _ (.cons _ (.cons _ (.cons _ (.refl _)))))))), ?_⟩
          refine H_one 24 rfl (by kernel_rfl) rfl (op_storeA 1 0 rfl rfl rfl sz_37 (by rw [bs_length, sec2_len]) rfl (bs_one _) (by simp) ?_)
          refine ⟨hsub (.cons _ (.cons _ (.cons _ (.cons _ (.cons _ (.cons _ (.cons _ (.refl _)))))))), ?_⟩
          refine H_one 25 rfl (by kernel_rfl) rfl (op_storeA 0 0 rfl rfl rfl sz_37 (by rw [bs_length, sec2_len]) rfl (bs_one _) (by simp) ?_)
          refine ⟨hsub (.cons _ (.cons _ (.cons _ (.cons _ (.cons _ (.cons _ (.cons _ (.refl _)))))))), ?_⟩
          refine H_done (by kernel_rfl) ?_
          exact ⟨(B3, B4), trivial, ⟨rfl, rfl, rfl, rfl, rfl, rfl, rfl, rfl, rfl, rfl, rfl, trivial⟩, ((hsub (.cons_cons _ (.cons_cons _ (.cons_cons _ (.cons_cons _ (.cons_cons _ (.cons_cons _ (.cons_cons _ (.refl _))))))))).trans (hsub_pick [2, 2, 2, 2, 2, 1, 0] rfl))⟩
        · refine op_alloc zl_37 rfl (fun B5 => ?_)
          refine ⟨hsub (.cons _ (.cons _ (.cons _ (.cons _ (.cons _ (.cons _ (.refl _))))))), ?_⟩
          refine H_one 22 rfl (by kernel_rfl) rfl (op_alloc zl_37 rfl (fun B6 => ?_))
          refine ⟨hsub (.cons _ (.cons _ (.cons _ (.cons _ (.cons _ (.cons _ (.cons _ (.refl _)))))))), ?_⟩
          refine H_one 24 rfl (by kernel_rfl) rfl (op_storeA 0 0 rfl rfl rfl sz_37 (by rw [bs_length, sec2_len]) rfl (bs_one _) (by simp) ?_)
          refine ⟨hsub (.cons _ (.cons _ (.cons _ (.cons _ (.cons _ (.cons _ (.cons _ (.refl _)))))))), ?_⟩
          refine H_one 25 rfl (by kernel_rfl) rfl (op_storeA 1 0 rfl rfl rfl sz_37 (by rw [bs_length, sec2_len]) rfl (bs_one _) (by simp) ?_)
          refine ⟨hsub (.cons _ (.cons _ (.cons _ (.cons _ (.cons _ (.cons _ (.cons _ (.refl _)))))))), ?_⟩
          refine H_done (by kernel_rfl) ?_
          exact ⟨(B6, B5), trivial, ⟨rfl, rfl, rfl, rfl, rfl, rfl, rfl, rfl, rfl, rfl, rfl, trivial⟩, ((hsub (.cons_cons _ (.cons_cons _ (.cons_cons _ (.cons_cons _ (.cons_cons _ (.cons_cons _ (.cons_cons _ (.refl _))))))))).trans (hsub_pick [2, 2, 2, 2, 2, 0, 0] rfl))⟩
      · obtain ⟨q14, q15⟩ := i
        dsimp only
        refine C_seq ?_
        refine C_region ?_
        refine L_y rfl (y_move rfl) rfl ?_
        refine L_y rfl (y_move rfl) rfl ?_
        refine L_y rfl (y_loadA rfl ag_37 sz_37 (sees 5 0 rfl) (by rw [bs_length, sec2_len _]; decide) (bs_whole0 _ (sec2_len _))) rfl ?_
        refine L_op rfl (op_call rfl rfl (fun a w => Try.call41 a w) rfl ?_)
        obtain ⟨e2, w2⟩ := hV.write (n := k) false (by omega) (sec2_len x)
        refine ((write_d hT false (k : Int) (sec2 x) (sec2_len _) (by have := (hV.dev false).many; simp only [pick2] at this; simp at this; omega)).sub (hsub_pick [0] rfl)).mono ?_
        rintro _ _ ⟨rfl, D2, h2, rfl⟩
        refine ⟨_, rfl, ?_⟩
        refine L_nil ?_
        refine C_seq ?_
        refine C_region ?_
        refine L_y rfl (y_move rfl) rfl ?_
        refine L_y rfl (y_move rfl) rfl ?_
        refine L_y rfl (y_loadA rfl ag_37 sz_37 (sees 6 0 rfl) (by rw [bs_length, sec2_len _]; decide) (bs_whole0 _ (sec2_len _))) rfl ?_
        refine L_op rfl (op_call rfl rfl (fun a w => Try.call41 a w) rfl ?_)
        obtain ⟨e3, w3⟩ := w2.write (n := k) true (by omega) (sec2_len y)
        refine ((write_d h2 true (k : Int) (sec2 y) (sec2_len _) (by have := (w2.dev true).many; simp only [pick2] at this; simp at this; omega)).sub (hsub_pick [0] rfl)).mono ?_
        rintro _ _ ⟨rfl, D3, h3, rfl⟩
        refine ⟨_, rfl, ?_⟩
        refine L_nil ?_
        refine C_regionH ([(q14, .cells (bs (sec2 x)).toArray 37)] :: [(q15, .cells (bs (sec2 y)).toArray 37)] :: H) (by kernel_rfl) ?_
        refine H_y 0 rfl (by kernel_rfl) (by kernel_rfl) (by kernel_rfl) (((hsub (.cons_cons _ (.cons_cons _ (.cons _ (.cons _ (.cons _ (.cons _ (.cons _ (.refl _))))))))).trans (hsub_pick [5, 5] rfl))) rfl (y_indexA rfl rfl Try.underlying27 sz_26 (by omega) (by omega) (show _ = 0 from rfl)) rfl ?_
        refine H_y 2 rfl (by kernel_rfl) (by kernel_rfl) (by kernel_rfl) (((hsub (.cons_cons _ (.cons_cons _ (.cons _ (.cons _ (.cons _ (.cons _ (.cons _ (.refl _))))))))).trans (hsub_pick [5, 5] rfl))) rfl (y_loadA rfl ag_37 sz_37 (sees 0 0 rfl) (by rw [bs_length, sec2_len _]; decide) (bs_whole0 _ (sec2_len _))) rfl ?_
        refine H_y 5 rfl (by kernel_rfl) (by kernel_rfl) (by kernel_rfl) (((hsub (.cons_cons _ (.cons_cons _ (.cons _ (.cons _ (.cons _ (.cons _ (.cons _ (.refl _))))))))).trans (hsub_pick [5, 5] rfl))) rfl (y_indexA rfl rfl Try.underlying27 sz_26 (by omega) (by omega) (show _ = 1 from rfl)) rfl ?_
        refine H_y 7 rfl (by kernel_rfl) (by kernel_rfl) (by kernel_rfl) (((hsub (.cons_cons _ (.cons_cons _ (.cons _ (.cons _ (.cons _ (.cons _ (.cons _ (.refl _))))))))).trans (hsub_pick [5, 5] rfl))) rfl (y_loadA rfl ag_37 sz_37 (sees 1 0 rfl) (by rw [bs_length, sec2_len _]; decide) (bs_whole0 _ (sec2_len _))) rfl ?_
        refine H_many [1, 3, 6, 8] (by kernel_rfl) (by decide) ⟨⟨_, rfl, rfl, ?_⟩, ⟨_, rfl, rfl, ?_⟩, ⟨_, rfl, rfl, ?_⟩, ⟨_, rfl, rfl, ?_⟩, trivial⟩
        · refine op_y (y_load rfl ag_26 (sees 1 0 rfl) rfl) rfl ?_
          refine ⟨((hsub (.cons_cons _ (.cons_cons _ (.cons _ (.cons _ (.cons _ (.cons _ (.cons _ (.refl _))))))))).trans (hsub_pick [5, 5] rfl)), ?_⟩
          refine H_many [3, 6, 8] (by kernel_rfl) (by decide) ⟨⟨_, rfl, rfl, ?_⟩, ⟨_, rfl, rfl, ?_⟩, ⟨_, rfl, rfl, ?_⟩, trivial⟩
          · refine op_buildSlice (vs := [(0, _)]) rfl Try.underlying26 sz_37 zl_37 rfl (by decide) (fill_one rfl (by rw [bs_length, sec2_len]) rfl) rfl (fun B7 => ?_)
            refine ⟨((hsub (.cons_cons _ (.cons_cons _ (.cons _ (.cons _ (.cons _ (.cons _ (.cons _ (.cons _ (.refl _)))))))))).trans (hsub_pick [6, 6] rfl)), ?_⟩
            refine H_many [4, 6, 8] (by kernel_rfl) (by decide) ⟨⟨_, rfl, rfl, ?_⟩, ⟨_, rfl, rfl, ?_⟩, ⟨_, rfl, rfl, ?_⟩, trivial⟩
            · refine op_append (gs := g0) (len := k) (m := 1) (xs := bs (prX la k).flatten) (vs := bs (sec2 x)) 3 rfl rfl rfl hg0 (src_slice (sees 0 0 rfl) (by simp [bs_length, sec2_len]) (bs_whole0 _ (by rw [sec2_len]))) (by rw [bs_length, sec2_len]) (bs_one _) Try.underlying26 ni_26 sz_37 by_37 (by decide) zl_37 rfl (by omega) rfl (fun g0n hg0n => ?_)
              rw [← bs_append, show (prX la k).flatten ++ sec2 x = (prX la (k + 1)).flatten from by rw [prX_succ hx]; simp] at hg0n ⊢
              refine ⟨((hsub (.cons_cons _ (.cons_cons _ (.cons _ (.cons _ (.cons _ (.cons _ (.cons _ (.cons _ (.refl _)))))))))).trans (hsub_pick [6, 6] rfl)), ?_⟩
              refine H_two 6 8 rfl rfl (by kernel_rfl) rfl rfl ?_ ?_
              · refine op_y (y_load rfl ag_26 (sees 2 0 rfl) rfl) rfl ?_
                refine ⟨((hsub (.cons_cons _ (.cons_cons _ (.cons _ (.cons _ (.cons _ (.cons _ (.cons _ (.cons _ (.refl _)))))))))).trans (hsub_pick [6, 6] rfl)), ?_⟩
                refine H_y 10 rfl (by kernel_rfl) (by kernel_rfl) (by kernel_rfl) (((hsub (.cons_cons _ (.cons_cons _ (.cons _ (.cons _ (.cons _ (.cons _ (.cons _ (.cons _ (.refl _)))))))))).trans (hsub_pick [6, 6] rfl))) rfl (y_indexA rfl rfl Try.underlying27 sz_26 (by omega) (by omega) (show _ = 0 from rfl)) rfl ?_
                refine H_one 8 rfl (by kernel_rfl) rfl (op_buildSlice (vs := [(0, _)]) rfl Try.underlying26 sz_37 zl_37 rfl (by decide) (fill_one rfl (by rw [bs_length, sec2_len]) rfl) rfl (fun B8 => ?_))
                refine ⟨((hsub (.cons_cons _ (.cons_cons _ (.cons _ (.cons _ (.cons _ (.cons _ (.cons _ (.cons _ (.cons _ (.refl _))))))))))).trans (hsub_pick [7, 7] rfl)), ?_⟩
                refine H_one 9 rfl (by kernel_rfl) rfl (op_append (gs := g1) (len := k) (m := 1) (xs := bs (prX lb k).flatten) (vs := bs (sec2 y)) 5 rfl rfl rfl hg1 (src_slice (sees 0 0 rfl) (by simp [bs_length, sec2_len]) (bs_whole0 _ (by rw [sec2_len]))) (by rw [bs_length, sec2_len]) (bs_one _) Try.underlying26 ni_26 sz_37 by_37 (by decide) zl_37 rfl (by omega) rfl (fun g1n hg1n => ?_))
                rw [← bs_append, show (prX lb k).flatten ++ sec2 y = (prX lb (k + 1)).flatten from by rw [prX_succ hy]; simp] at hg1n ⊢
                refine ⟨((hsub (.cons_cons _ (.cons_cons _ (.cons _ (.cons _ (.cons _ (.cons _ (.cons _ (.cons _ (.cons _ (.refl _))))))))))).trans (hsub_pick [7, 7] rfl)), ?_⟩
                refine H_one 11 rfl (by kernel_rfl) rfl (op_store1 3 0 rfl rfl (one_slV _ _) sz_26 rfl (Nat.le_of_ble_eq_true rfl) ?_)
                refine ⟨((hsub (.cons_cons _ (.cons_cons _ (.cons _ (.cons _ (.cons _ (.cons _ (.cons _ (.cons _ (.cons _ (.refl _))))))))))).trans (hsub_pick [7, 7] rfl)), ?_⟩
                refine H_y 12 rfl (by kernel_rfl) (by kernel_rfl) (by kernel_rfl) (((hsub (.cons_cons _ (.cons_cons _ (.cons _ (.cons _ (.cons _ (.cons _ (.cons _ (.cons _ (.cons _ (.refl _))))))))))).trans (hsub_pick [7, 7] rfl))) rfl (y_indexA rfl rfl Try.underlying27 sz_26 (by omega) (by omega) (show _ = 1 from rfl)) rfl ?_
                refine H_one 13 rfl (by kernel_rfl) rfl (op_store1 3 0 rfl rfl (one_slV _ _) sz_26 rfl (Nat.le_of_ble_eq_true rfl) ?_)
                refine ⟨((hsub (.cons_cons _ (.cons_cons _ (.cons _ (.cons _ (.cons _ (.cons _ (.cons _ (.cons _ (.cons _ (.refl _))))))))))).trans (hsub_pick [7, 7] rfl)), ?_⟩
                refine H_done (by kernel_rfl) ?_
                exact ⟨(D3, _, g0n, g1n), ⟨h3, by have := w3; simp only [Bool.false_eq_true, if_false, if_true] at this; rw [wX_set hx (by omega), wX_set hy (by omega)] at this; exact this, hg0n, hg1n⟩, ⟨rfl, rfl, rfl, rfl, rfl, rfl, rfl, rfl, trivial⟩, ((hsub (.cons_cons _ (.cons_cons _ (.cons_cons _ (.cons_cons _ (.cons_cons _ (.cons _ (.cons _ (.cons _ (.cons _ (.refl _))))))))))).trans (hsub_pick [2, 2, 2, 2, 2] rfl))⟩
              · refine op_buildSlice (vs := [(0, _)]) rfl Try.underlying26 sz_37 zl_37 rfl (by decide) (fill_one rfl (by rw [bs_length, sec2_len]) rfl) rfl (fun B9 => ?_)
                refine ⟨((hsub (.cons_cons _ (.cons_cons _ (.cons _ (.cons _ (.cons _ (.cons _ (.cons _ (.cons _ (.cons _ (.refl _))))))))))).trans (hsub_pick [7, 7] rfl)), ?_⟩
                refine H_one 6 rfl (by kernel_rfl) rfl (op_y (y_load rfl ag_26 (sees 3 0 rfl) rfl) rfl ?_)
                refine ⟨((hsub (.cons_cons _ (.cons_cons _ (.cons _ (.cons _ (.cons _ (.cons _ (.cons _ (.cons _ (.cons _ (.refl _))))))))))).trans (hsub_pick [7, 7] rfl)), ?_⟩
                refine H_y 10 rfl (by kernel_rfl) (by kernel_rfl) (by kernel_rfl) (((hsub (.cons_cons _ (.cons_cons _ (.cons _ (.cons _ (.cons _ (.cons _ (.cons _ (.cons _ (.cons _ (.refl _))))))))))).trans (hsub_pick [7, 7] rfl))) rfl (y_indexA rfl rfl Try.underlying27 sz_26 (by omega) (by omega) (show _ = 0 from rfl)) rfl ?_
                refine H_one 9 rfl (by kernel_rfl) rfl (op_append (gs := g1) (len := k) (m := 1) (xs := bs (prX lb k).flatten) (vs := bs (sec2 y)) 5 rfl rfl rfl hg1 (src_slice (sees 0 0 rfl) (by simp [bs_length, sec2_len]) (bs_whole0 _ (by rw [sec2_len]))) (by rw [bs_length, sec2_len]) (bs_one _) Try.underlying26 ni_26 sz_37 by_37 (by decide) zl_37 rfl (by omega) rfl (fun g1n hg1n => ?_))
                rw [← bs_append, show (prX lb k).flatten ++ sec2 y = (prX lb (k + 1)).flatten from by rw [prX_succ hy]; simp] at hg1n ⊢
                refine ⟨((hsub (.cons_cons _ (.cons_cons _ (.cons _ (.cons _ (.cons _ (.cons _ (.cons _ (.cons _ (.cons _ (.refl _))))))))))).trans (hsub_pick [7, 7] rfl)), ?_⟩
                refine H_one 11 rfl (by kernel_rfl) rfl (op_store1 3 0 rfl rfl (one_slV _ _) sz_26 rfl (Nat.le_of_ble_eq_true rfl) ?_)
                refine ⟨((hsub (.cons_cons _ (.cons_cons _ (.cons _ (.cons _ (.cons _ (.cons _ (.cons _ (.cons _ (.cons _ (.refl _))))))))))).trans (hsub_pick [7, 7] rfl)), ?_⟩
                refine H_y 12 rfl (by kernel_rfl) (by kernel_rfl) (by kernel_rfl) (((hsub (.cons_cons _ (.cons_cons _ (.cons _ (.cons _ (.cons _ (.cons _ (.cons _ (.cons _ (.cons _ (.refl _))))))))))).trans (hsub_pick [7, 7] rfl))) rfl (y_indexA rfl rfl Try.underlying27 sz_26 (by omega) (by omega) (show _ = 1 from rfl)) rfl ?_
                refine H_one 13 rfl (by kernel_rfl) rfl (op_store1 3 0 rfl rfl (one_slV _ _) sz_26 rfl (Nat.le_of_ble_eq_true rfl) ?_)
                refine ⟨((hsub (.cons_cons _ (.cons_cons _ (.cons _ (.cons _ (.cons _ (.cons _ (.cons _ (.cons _ (.cons _ (.refl _))))))))))).trans (hsub_pick [7, 7] rfl)), ?_⟩
                refine H_done (by kernel_rfl) ?_
                exact ⟨(D3, _, g0n, g1n), ⟨h3, by have := w3; simp only [Bool.false_eq_true, if_false, if_true] at this; rw [wX_set hx (by omega), wX_set hy (by omega)] at this; exact this, hg0n, hg1n⟩, ⟨rfl, rfl, rfl, rfl, rfl, rfl, rfl, rfl, trivial⟩, ((hsub (.cons_cons _ (.cons_cons _ (.cons_cons _ (.cons_cons _ (.cons_cons _ (.cons _ (.cons _ (.cons _ (.cons _ (.refl _))))))))))).trans (hsub_pick [2, 2, 2, 2, 2] rfl))⟩
            · refine op_y (y_load rfl ag_26 (sees 2 0 rfl) rfl) rfl ?_
              refine ⟨((hsub (.cons_cons _ (.cons_cons _ (.cons _ (.cons _ (.cons _ (.cons _ (.cons _ (.cons _ (.refl _)))))))))).trans (hsub_pick [6, 6] rfl)), ?_⟩
              refine H_two 4 8 rfl rfl (by kernel_rfl) rfl rfl ?_ ?_
              · refine op_append (gs := g0) (len := k) (m := 1) (xs := bs (prX la k).flatten) (vs := bs (sec2 x)) 3 rfl rfl rfl hg0 (src_slice (sees 0 0 rfl) (by simp [bs_length, sec2_len]) (bs_whole0 _ (by rw [sec2_len]))) (by rw [bs_length, sec2_len]) (bs_one _) Try.underlying26 ni_26 sz_37 by_37 (by decide) zl_37 rfl (by omega) rfl (fun g0n hg0n => ?_)
                rw [← bs_append, show (prX la k).flatten ++ sec2 x = (prX la (k + 1)).flatten from by rw [prX_succ hx]; simp] at hg0n ⊢
                refine ⟨((hsub (.cons_cons _ (.cons_cons _ (.cons _ (.cons _ (.cons _ (.cons _ (.cons _ (.cons _ (.refl _)))))))))).trans (hsub_pick [6, 6] rfl)), ?_⟩
                refine H_y 10 rfl (by kernel_rfl) (by kernel_rfl) (by kernel_rfl) (((hsub (.cons_cons _ (.cons_cons _ (.cons _ (.cons _ (.cons _ (.cons _ (.cons _ (.cons _ (.refl _)))))))))).trans (hsub_pick [6, 6] rfl))) rfl (y_indexA rfl rfl Try.underlying27 sz_26 (by omega) (by omega) (show _ = 0 from rfl)) rfl ?_
                refine H_one 8 rfl (by kernel_rfl) rfl (op_buildSlice (vs := [(0, _)]) rfl Try.underlying26 sz_37 zl_37 rfl (by decide) (fill_one rfl (by rw [bs_length, sec2_len]) rfl) rfl (fun B10 => ?_))
                refine ⟨((hsub (.cons_cons _ (.cons_cons _ (.cons _ (.cons _ (.cons _ (.cons _ (.cons _ (.cons _ (.cons _ (.refl _))))))))))).trans (hsub_pick [7, 7] rfl)), ?_⟩
                refine H_one 9 rfl (by kernel_rfl) rfl (op_append (gs := g1) (len := k) (m := 1) (xs := bs (prX lb k).flatten) (vs := bs (sec2 y)) 5 rfl rfl rfl hg1 (src_slice (sees 0 0 rfl) (by simp [bs_length, sec2_len]) (bs_whole0 _ (by rw [sec2_len]))) (by rw [bs_length, sec2_len]) (bs_one _) Try.underlying26 ni_26 sz_37 by_37 (by decide) zl_37 rfl (by omega) rfl (fun g1n hg1n => ?_))
                rw [← bs_append, show (prX lb k).flatten ++ sec2 y = (prX lb (k + 1)).flatten from by rw [prX_succ hy]; simp] at hg1n ⊢
                refine ⟨((hsub (.cons_cons _ (.cons_cons _ (.cons _ (.cons _ (.cons _ (.cons _ (.cons _ (.cons _ (.cons _ (.refl _))))))))))).trans (hsub_pick [7, 7] rfl)), ?_⟩
                refine H_one 11 rfl (by kernel_rfl) rfl (op_store1 3 0 rfl rfl (one_slV _ _) sz_26 rfl (Nat.le_of_ble_eq_true rfl) ?_)
                refine ⟨((hsub (.cons_cons _ (.cons_cons _ (.cons _ (.cons _ (.cons _ (.cons _ (.cons _ (.cons _ (.cons _ (.refl _))))))))))).trans (hsub_pick [7, 7] rfl)), ?_⟩
                refine H_y 12 rfl (by kernel_rfl) (by kernel_rfl) (by kernel_rfl) (((hsub (.cons_cons _ (.cons_cons _ (.cons _ (.cons _ (.cons _ (.cons _ (.cons _ (.cons _ (.cons _ (.refl _))))))))))).trans (hsub_pick [7, 7] rfl))) rfl (y_indexA rfl rfl Try.underlying27 sz_26 (by omega) (by omega) (show _ = 1 from rfl)) rfl ?_
                refine H_one 13 rfl (by kernel_rfl) rfl (op_store1 3 0 rfl rfl (one_slV _ _) sz_26 rfl (Nat.le_of_ble_eq_true rfl) ?_)
                refine ⟨((hsub (.cons_cons _ (.cons_cons _ (.cons _ (.cons _ (.cons _ (.cons _ (.cons _ (.cons _ (.cons _ (.refl _))))))))))).trans (hsub_pick [7, 7] rfl)), ?_⟩
                refine H_done (by kernel_rfl) ?_
                exact ⟨(D3, _, g0n, g1n), ⟨h3, by have := w3; simp only [Bool.false_eq_true, if_false, if_true] at this; rw [wX_set hx (by omega), wX_set hy (by omega)] at this; exact this, hg0n, hg1n⟩, ⟨rfl, rfl, rfl, rfl, rfl, rfl, rfl, rfl, trivial⟩, ((hsub (.cons_cons _ (.cons_cons _ (.cons_cons _ (.cons_cons _ (.cons_cons _ (.cons _ (.cons _ (.cons _ (.cons _ (.refl _))))))))))).trans (hsub_pick [2, 2, 2, 2, 2] rfl))⟩
              · refine op_buildSlice (vs := [(0, _)]) rfl Try.underlying26 sz_37 zl_37 rfl (by decide) (fill_one rfl (by rw [bs_length, sec2_len]) rfl) rfl (fun B11 => ?_)
                refine ⟨((hsub (.cons_cons _ (.cons_cons _ (.cons _ (.cons _ (.cons _ (.cons _ (.cons _ (.cons _ (.cons _ (.refl _))))))))))).trans (hsub_pick [7, 7] rfl)), ?_⟩
                refine H_one 4 rfl (by kernel_rfl) rfl (op_append (gs := g0) (len := k) (m := 1) (xs := bs (prX la k).flatten) (vs := bs (sec2 x)) 4 rfl rfl rfl hg0 (src_slice (sees 1 0 rfl) (by simp [bs_length, sec2_len]) (bs_whole0 _ (by rw [sec2_len]))) (by rw [bs_length, sec2_len]) (bs_one _) Try.underlying26 ni_26 sz_37 by_37 (by decide) zl_37 rfl (by omega) rfl (fun g0n hg0n => ?_))
                rw [← bs_append, show (prX la k).flatten ++ sec2 x = (prX la (k + 1)).flatten from by rw [prX_succ hx]; simp] at hg0n ⊢
                refine ⟨((hsub (.cons_cons _ (.cons_cons _ (.cons _ (.cons _ (.cons _ (.cons _ (.cons _ (.cons _ (.cons _ (.refl _))))))))))).trans (hsub_pick [7, 7] rfl)), ?_⟩
                refine H_y 10 rfl (by kernel_rfl) (by kernel_rfl) (by kernel_rfl) (((hsub (.cons_cons _ (.cons_cons _ (.cons _ (.cons _ (.cons _ (.cons _ (.cons _ (.cons _ (.cons _ (.refl _))))))))))).trans (hsub_pick [7, 7] rfl))) rfl (y_indexA rfl rfl Try.underlying27 sz_26 (by omega) (by omega) (show _ = 0 from rfl)) rfl ?_
                refine H_one 9 rfl (by kernel_rfl) rfl (op_append (gs := g1) (len := k) (m := 1) (xs := bs (prX lb k).flatten) (vs := bs (sec2 y)) 5 rfl rfl rfl hg1 (src_slice (sees 0 0 rfl) (by simp [bs_length, sec2_len]) (bs_whole0 _ (by rw [sec2_len]))) (by rw [bs_length, sec2_len]) (bs_one _) Try.underlying26 ni_26 sz_37 by_37 (by decide) zl_37 rfl (by omega) rfl (fun g1n hg1n => ?_))
                rw [← bs_append, show (prX lb k).flatten ++ sec2 y = (prX lb (k + 1)).flatten from by rw [prX_succ hy]; simp] at hg1n ⊢
                refine ⟨((hsub (.cons_cons _ (.cons_cons _ (.cons _ (.cons _ (.cons _ (.cons _ (.cons _ (.cons _ (.cons _ (.refl _))))))))))).trans (hsub_pick [7, 7] rfl)), ?_⟩
                refine H_one 11 rfl (by kernel_rfl) rfl (op_store1 3 0 rfl rfl (one_slV _ _) sz_26 rfl (Nat.le_of_ble_eq_true rfl) ?_)
                refine ⟨((hsub (.cons_cons _ (.cons_cons _ (.cons _ (.cons _ (.cons _ (.cons _ (.cons _ (.cons _ (.cons _ (.refl _))))))))))).trans (hsub_pick [7, 7] rfl)), ?_⟩
                refine H_y 12 rfl (by kernel_rfl) (by kernel_rfl) (by kernel_rfl) (((hsub (.cons_cons _ (.cons_cons _ (.cons _ (.cons _ (.cons _ (.cons _ (.cons _ (.cons _ (.cons _ (.refl _))))))))))).trans (hsub_pick [7, 7] rfl))) rfl (y_indexA rfl rfl Try.underlying27 sz_26 (by omega) (by omega) (show _ = 1 from rfl)) rfl ?_
                refine H_one 13 rfl (by kernel_rfl) rfl (op_store1 3 0 rfl rfl (one_slV _ _) sz_26 rfl (Nat.le_of_ble_eq_true rfl) ?_)
                refine ⟨((hsub (.cons_cons _ (.cons_cons _ (.cons _ (.cons _ (.cons _ (.cons _ (.cons _ (.cons _ (.cons _ (.refl _))))))))))).trans (hsub_pick [7, 7] rfl)), ?_⟩
                refine H_done (by kernel_rfl) ?_
                exact ⟨(D3, _, g0n, g1n), ⟨h3, by have := w3; simp only [Bool.false_eq_true, if_false, if_true] at this; rw [wX_set hx (by omega), wX_set hy (by omega)] at this; exact this, hg0n, hg1n⟩, ⟨rfl, rfl, rfl, rfl, rfl, rfl, rfl, rfl, trivial⟩, ((hsub (.cons_cons _ (.cons_cons _ (.cons_cons _ (.cons_cons _ (.cons_cons _ (.cons _ (.cons _ (.cons _ (.cons _ (.refl _))))))))))).trans (hsub_pick [2, 2, 2, 2, 2] rfl))⟩
            · refine op_buildSlice (vs := [(0, _)]) rfl Try.underlying26 sz_37 zl_37 rfl (by decide) (fill_one rfl (by rw [bs_length, sec2_len]) rfl) rfl (fun B12 => ?_)
              refine ⟨((hsub (.cons_cons _ (.cons_cons _ (.cons _ (.cons _ (.cons _ (.cons _ (.cons _ (.cons _ (.cons _ (.refl _))))))))))).trans (hsub_pick [7, 7] rfl)), ?_⟩
              refine H_two 4 6 rfl rfl (by kernel_rfl) rfl rfl ?_ ?_
              · refine op_append (gs := g0) (len := k) (m := 1) (xs := bs (prX la k).flatten) (vs := bs (sec2 x)) 4 rfl rfl rfl hg0 (src_slice (sees 1 0 rfl) (by simp [bs_length, sec2_len]) (bs_whole0 _ (by rw [sec2_len]))) (by rw [bs_length, sec2_len]) (bs_one _) Try.underlying26 ni_26 sz_37 by_37 (by decide) zl_37 rfl (by omega) rfl (fun g0n hg0n => ?_)
                rw [← bs_append, show (prX la k).flatten ++ sec2 x = (prX la (k + 1)).flatten from by rw [prX_succ hx]; simp] at hg0n ⊢
                refine ⟨((hsub (.cons_cons _ (.cons_cons _ (.cons _ (.cons _ (.cons _ (.cons _ (.cons _ (.cons _ (.cons _ (.refl _))))))))))).trans (hsub_pick [7, 7] rfl)), ?_⟩
                refine H_one 6 rfl (by kernel_rfl) rfl (op_y (y_load rfl ag_26 (sees 3 0 rfl) rfl) rfl ?_)
                refine ⟨((hsub (.cons_cons _ (.cons_cons _ (.cons _ (.cons _ (.cons _ (.cons _ (.cons _ (.cons _ (.cons _ (.refl _))))))))))).trans (hsub_pick [7, 7] rfl)), ?_⟩
                refine H_y 10 rfl (by kernel_rfl) (by kernel_rfl) (by kernel_rfl) (((hsub (.cons_cons _ (.cons_cons _ (.cons _ (.cons _ (.cons _ (.cons _ (.cons _ (.cons _ (.cons _ (.refl _))))))))))).trans (hsub_pick [7, 7] rfl))) rfl (y_indexA rfl rfl Try.underlying27 sz_26 (by omega) (by omega) (show _ = 0 from rfl)) rfl ?_
                refine H_one 9 rfl (by kernel_rfl) rfl (op_append (gs := g1) (len := k) (m := 1) (xs := bs (prX lb k).flatten) (vs := bs (sec2 y)) 5 rfl rfl rfl hg1 (src_slice (sees 0 0 rfl) (by simp [bs_length, sec2_len]) (bs_whole0 _ (by rw [sec2_len]))) (by rw [bs_length, sec2_len]) (bs_one _) Try.underlying26 ni_26 sz_37 by_37 (by decide) zl_37 rfl (by omega) rfl (fun g1n hg1n => ?_))
                rw [← bs_append, show (prX lb k).flatten ++ sec2 y = (prX lb (k + 1)).flatten from by rw [prX_succ hy]; simp] at hg1n ⊢
                refine ⟨((hsub (.cons_cons _ (.cons_cons _ (.cons _ (.cons _ (.cons _ (.cons _ (.cons _ (.cons _ (.cons _ (.refl _))))))))))).trans (hsub_pick [7, 7] rfl)), ?_⟩
                refine H_one 11 rfl (by kernel_rfl) rfl (op_store1 3 0 rfl rfl (one_slV _ _) sz_26 rfl (Nat.le_of_ble_eq_true rfl) ?_)
                refine ⟨((hsub (.cons_cons _ (.cons_cons _ (.cons _ (.cons _ (.cons _ (.cons _ (.cons _ (.cons _ (.cons _ (.refl _))))))))))).trans (hsub_pick [7, 7] rfl)), ?_⟩
                refine H_y 12 rfl (by kernel_rfl) (by kernel_rfl) (by kernel_rfl) (((hsub (.cons_cons _ (.cons_cons _ (.cons _ (.cons _ (.cons _ (.cons _ (.cons _ (.cons _ (.cons _ (.refl _))))))))))).trans (hsub_pick [7, 7] rfl))) rfl (y_indexA rfl rfl Try.underlying27 sz_26 (by omega) (by omega) (show _ = 1 from rfl)) rfl ?_
                refine H_one 13 rfl (by kernel_rfl) rfl (op_store1 3 0 rfl rfl (one_slV _ _) sz_26 rfl (Nat.le_of_ble_eq_true rfl) ?_)
                refine ⟨((hsub (.cons_cons _ (.cons_cons _ (.cons _ (.cons _ (.cons _ (.cons _ (.cons _ (.cons _ (.cons _ (.refl _))))))))))).trans (hsub_pick [7, 7] rfl)), ?_⟩
                refine H_done (by kernel_rfl) ?_
                exact ⟨(D3, _, g0n, g1n), ⟨h3, by have := w3; simp only [Bool.false_eq_true, if_false, if_true] at this; rw [wX_set hx (by omega), wX_set hy (by omega)] at this; exact this, hg0n, hg1n⟩, ⟨rfl, rfl, rfl, rfl, rfl, rfl, rfl, rfl, trivial⟩, ((hsub (.cons_cons _ (.cons_cons _ (.cons_cons _ (.cons_cons _ (.cons_cons _ (.cons _ (.cons _ (.cons _ (.cons _ (.refl _))))))))))).trans (hsub_pick [2, 2, 2, 2, 2] rfl))⟩
              · refine op_y (y_load rfl ag_26 (sees 3 0 rfl) rfl) rfl ?_
                refine ⟨((hsub (.cons_cons _ (.cons_cons _ (.cons _ (.cons _ (.cons _ (.cons _ (.cons _ (.cons _ (.cons _ (.refl _))))))))))).trans (hsub_pick [7, 7] rfl)), ?_⟩
                refine H_one 4 rfl (by kernel_rfl) rfl (op_append (gs := g0) (len := k) (m := 1) (xs := bs (prX la k).flatten) (vs := bs (sec2 x)) 4 rfl rfl rfl hg0 (src_slice (sees 1 0 rfl) (by simp [bs_length, sec2_len]) (bs_whole0 _ (by rw [sec2_len]))) (by rw [bs_length, sec2_len]) (bs_one _) Try.underlying26 ni_26 sz_37 by_37 (by decide) zl_37 rfl (by omega) rfl (fun g0n hg0n => ?_))
                rw [← bs_append, show (prX la k).flatten ++ sec2 x = (prX la (k + 1)).flatten from by rw [prX_succ hx]; simp] at hg0n ⊢
                refine ⟨((hsub (.cons_cons _ (.cons_cons _ (.cons _ (.cons _ (.cons _ (.cons _ (.cons _ (.cons _ (.cons _ (.refl _))))))))))).trans (hsub_pick [7, 7] rfl)), ?_⟩
                refine H_y 10 rfl (by kernel_rfl) (by kernel_rfl) (by kernel_rfl) (((hsub (.cons_cons _ (.cons_cons _ (.cons _ (.cons _ (.cons _ (.cons _ (.cons _ (.cons _ (.cons _ (.refl _))))))))))).trans (hsub_pick [7, 7] rfl))) rfl (y_indexA rfl rfl Try.underlying27 sz_26 (by omega) (by omega) (show _ = 0 from rfl)) rfl ?_
                refine H_one 9 rfl (by kernel_rfl) rfl (op_append (gs := g1) (len := k) (m := 1) (xs := bs (prX lb k).flatten) (vs := bs (sec2 y)) 5 rfl rfl rfl hg1 (src_slice (sees 0 0 rfl) (by simp [bs_length, sec2_len]) (bs_whole0 _ (by rw [sec2_len]))) (by rw [bs_length, sec2_len]) (bs_one _) Try.underlying26 ni_26 sz_37 by_37 (by decide) zl_37 rfl (by omega) rfl (fun g1n hg1n => ?_))
                rw [← bs_append, show (prX lb k).flatten ++ sec2 y = (prX lb (k + 1)).flatten from by rw [prX_succ hy]; simp] at hg1n ⊢
                refine ⟨((hsub (.cons_cons _ (.cons_cons _ (.cons _ (.cons _ (.cons _ (.cons _ (.cons _ (.cons _ (.cons _ (.refl _))))))))))).trans (hsub_pick [7, 7] rfl)), ?_⟩
                refine H_one 11 rfl (by kernel_rfl) rfl (op_store1 3 0 rfl rfl (one_slV _ _) sz_26 rfl (Nat.le_of_ble_eq_true rfl) ?_)
                refine ⟨((hsub (.cons_cons _ (.cons_cons _ (.cons _ (.cons _ (.cons _ (.cons _ (.cons _ (.cons _ (.cons _ (.refl _))))))))))).trans (hsub_pick [7, 7] rfl)), ?_⟩
                refine H_y 12 rfl (by kernel_rfl) (by kernel_rfl) (by kernel_rfl) (((hsub (.cons_cons _ (.cons_cons _ (.cons _ (.cons _ (.cons _ (.cons _ (.cons _ (.cons _ (.cons _ (.refl _))))))))))).trans (hsub_pick [7, 7] rfl))) rfl (y_indexA rfl rfl Try.underlying27 sz_26 (by omega) (by omega) (show _ = 1 from rfl)) rfl ?_
                refine H_one 13 rfl (by kernel_rfl) rfl (op_store1 3 0 rfl rfl (one_slV _ _) sz_26 rfl (Nat.le_of_ble_eq_true rfl) ?_)
                refine ⟨((hsub (.cons_cons _ (.cons_cons _ (.cons _ (.cons _ (.cons _ (.cons _ (.cons _ (.cons _ (.cons _ (.refl _))))))))))).trans (hsub_pick [7, 7] rfl)), ?_⟩
                refine H_done (by kernel_rfl) ?_
                exact ⟨(D3, _, g0n, g1n), ⟨h3, by have := w3; simp only [Bool.false_eq_true, if_false, if_true] at this; rw [wX_set hx (by omega), wX_set hy (by omega)] at this; exact this, hg0n, hg1n⟩, ⟨rfl, rfl, rfl, rfl, rfl, rfl, rfl, rfl, trivial⟩, ((hsub (.cons_cons _ (.cons_cons _ (.cons_cons _ (.cons_cons _ (.cons_cons _ (.cons _ (.cons _ (.cons _ (.cons _ (.refl _))))))))))).trans (hsub_pick [2, 2, 2, 2, 2] rfl))⟩
          · refine op_y (y_load rfl ag_26 (sees 1 0 rfl) rfl) rfl ?_
            refine ⟨((hsub (.cons_cons _ (.cons_cons _ (.cons _ (.cons _ (.cons _ (.cons _ (.cons _ (.refl _))))))))).trans (hsub_pick [5, 5] rfl)), ?_⟩
            refine H_two 3 8 rfl rfl (by kernel_rfl) rfl rfl ?_ ?_
            · refine op_buildSlice (vs := [(0, _)]) rfl Try.underlying26 sz_37 zl_37 rfl (by decide) (fill_one rfl (by rw [bs_length, sec2_len]) rfl) rfl (fun B13 => ?_)
              refine ⟨((hsub (.cons_cons _ (.cons_cons _ (.cons _ (.cons _ (.cons _ (.cons _ (.cons _ (.cons _ (.refl _)))))))))).trans (hsub_pick [6, 6] rfl)), ?_⟩
              refine H_two 4 8 rfl rfl (by kernel_rfl) rfl rfl ?_ ?_
              · refine op_append (gs := g0) (len := k) (m := 1) (xs := bs (prX la k).flatten) (vs := bs (sec2 x)) 3 rfl rfl rfl hg0 (src_slice (sees 0 0 rfl) (by simp [bs_length, sec2_len]) (bs_whole0 _ (by rw [sec2_len]))) (by rw [bs_length, sec2_len]) (bs_one _) Try.underlying26 ni_26 sz_37 by_37 (by decide) zl_37 rfl (by omega) rfl (fun g0n hg0n => ?_)
                rw [← bs_append, show (prX la k).flatten ++ sec2 x = (prX la (k + 1)).flatten from by rw [prX_succ hx]; simp] at hg0n ⊢
                refine ⟨((hsub (.cons_cons _ (.cons_cons _ (.cons _ (.cons _ (.cons _ (.cons _ (.cons _ (.cons _ (.refl _)))))))))).trans (hsub_pick [6, 6] rfl)), ?_⟩
                refine H_y 10 rfl (by kernel_rfl) (by kernel_rfl) (by kernel_rfl) (((hsub (.cons_cons _ (.cons_cons _ (.cons _ (.cons _ (.cons _ (.cons _ (.cons _ (.cons _ (.refl _)))))))))).trans (hsub_pick [6, 6] rfl))) rfl (y_indexA rfl rfl Try.underlying27 sz_26 (by omega) (by omega) (show _ = 0 from rfl)) rfl ?_
                refine H_one 8 rfl (by kernel_rfl) rfl (op_buildSlice (vs := [(0, _)]) rfl Try.underlying26 sz_37 zl_37 rfl (by decide) (fill_one rfl (by rw [bs_length, sec2_len]) rfl) rfl (fun B14 => ?_))
                refine ⟨((hsub (.cons_cons _ (.cons_cons _ (.cons _ (.cons _ (.cons _ (.cons _ (.cons _ (.cons _ (.cons _ (.refl _))))))))))).trans (hsub_pick [7, 7] rfl)), ?_⟩
                refine H_one 9 rfl (by kernel_rfl) rfl (op_append (gs := g1) (len := k) (m := 1) (xs := bs (prX lb k).flatten) (vs := bs (sec2 y)) 5 rfl rfl rfl hg1 (src_slice (sees 0 0 rfl) (by simp [bs_length, sec2_len]) (bs_whole0 _ (by rw [sec2_len]))) (by rw [bs_length, sec2_len]) (bs_one _) Try.underlying26 ni_26 sz_37 by_37 (by decide) zl_37 rfl (by omega) rfl (fun g1n hg1n => ?_))
                rw [← bs_append, show (prX lb k).flatten ++ sec2 y = (prX lb (k + 1)).flatten from by rw [prX_succ hy]; simp] at hg1n ⊢
                refine ⟨((hsub (.cons_cons _ (.cons_cons _ (.cons _ (.cons _ (.cons _ (.cons _ (.cons _ (.cons _ (.cons _ (.refl _))))))))))).trans (hsub_pick [7, 7] rfl)), ?_⟩
                refine H_one 11 rfl (by kernel_rfl) rfl (op_store1 3 0 rfl rfl (one_slV _ _) sz_26 rfl (Nat.le_of_ble_eq_true rfl) ?_)
                refine ⟨((hsub (.cons_cons _ (.cons_cons _ (.cons _ (.cons _ (.cons _ (.cons _ (.cons _ (.cons _ (.cons _ (.refl _))))))))))).trans (hsub_pick [7, 7] rfl)), ?_⟩
                refine H_y 12 rfl (by kernel_rfl) (by kernel_rfl) (by kernel_rfl) (((hsub (.cons_cons _ (.cons_cons _ (.cons _ (.cons _ (.cons _ (.cons _ (.cons _ (.cons _ (.cons _ (.refl _))))))))))).trans (hsub_pick [7, 7] rfl))) rfl (y_indexA rfl rfl Try.underlying27 sz_26 (by omega) (by omega) (show _ = 1 from rfl)) rfl ?_
                refine H_one 13 rfl (by kernel_rfl) rfl (op_store1 3 0 rfl rfl (one_slV _ _) sz_26 rfl (Nat.le_of_ble_eq_true rfl) ?_)
                refine ⟨((hsub (.cons_cons _ (.cons_cons _ (.cons _ (.cons _ (.cons _ (.cons _ (.cons _ (.cons _ (.cons _ (.refl _))))))))))).trans (hsub_pick [7, 7] rfl)), ?_⟩
                refine H_done (by kernel_rfl) ?_
                exact ⟨(D3, _, g0n, g1n), ⟨h3, by have := w3; simp only [Bool.false_eq_true, if_false, if_true] at this; rw [wX_set hx (by omega), wX_set hy (by omega)] at this; exact this, hg0n, hg1n⟩, ⟨rfl, rfl, rfl, rfl, rfl, rfl, rfl, rfl, trivial⟩, ((hsub (.cons_cons _ (.cons_cons _ (.cons_cons _ (.cons_cons _ (.cons_cons _ (.cons _ (.cons _ (.cons _ (.cons _ (.refl _))))))))))).trans (hsub_pick [2, 2, 2, 2, 2] rfl))⟩
              · refine op_buildSlice (vs := [(0, _)]) rfl Try.underlying26 sz_37 zl_37 rfl (by decide) (fill_one rfl (by rw [bs_length, sec2_len]) rfl) rfl (fun B15 => ?_)
                refine ⟨((hsub (.cons_cons _ (.cons_cons _ (.cons _ (.cons _ (.cons _ (.cons _ (.cons _ (.cons _ (.cons _ (.refl _))))))))))).trans (hsub_pick [7, 7] rfl)), ?_⟩
                refine H_one 4 rfl (by kernel_rfl) rfl (op_append (gs := g0) (len := k) (m := 1) (xs := bs (prX la k).flatten) (vs := bs (sec2 x)) 4 rfl rfl rfl hg0 (src_slice (sees 1 0 rfl) (by simp [bs_length, sec2_len]) (bs_whole0 _ (by rw [sec2_len]))) (by rw [bs_length, sec2_len]) (bs_one _) Try.underlying26 ni_26 sz_37 by_37 (by decide) zl_37 rfl (by omega) rfl (fun g0n hg0n => ?_))
                rw [← bs_append, show (prX la k).flatten ++ sec2 x = (prX la (k + 1)).flatten from by rw [prX_succ hx]; simp] at hg0n ⊢
                refine ⟨((hsub (.cons_cons _ (.cons_cons _ (.cons _ (.cons _ (.cons _ (.cons _ (.cons _ (.cons _ (.cons _ (.refl _))))))))))).trans (hsub_pick [7, 7] rfl)), ?_⟩
                refine H_y 10 rfl (by kernel_rfl) (by kernel_rfl) (by kernel_rfl) (((hsub (.cons_cons _ (.cons_cons _ (.cons _ (.cons _ (.cons _ (.cons _ (.cons _ (.cons _ (.cons _ (.refl _))))))))))).trans (hsub_pick [7, 7] rfl))) rfl (y_indexA rfl rfl Try.underlying27 sz_26 (by omega) (by omega) (show _ = 0 from rfl)) rfl ?_
                refine H_one 9 rfl (by kernel_rfl) rfl (op_append (gs := g1) (len := k) (m := 1) (xs := bs (prX lb k).flatten) (vs := bs (sec2 y)) 5 rfl rfl rfl hg1 (src_slice (sees 0 0 rfl) (by simp [bs_length, sec2_len]) (bs_whole0 _ (by rw [sec2_len]))) (by rw [bs_length, sec2_len]) (bs_one _) Try.underlying26 ni_26 sz_37 by_37 (by decide) zl_37 rfl (by omega) rfl (fun g1n hg1n => ?_))
                rw [← bs_append, show (prX lb k).flatten ++ sec2 y = (prX lb (k + 1)).flatten from by rw [prX_succ hy]; simp] at hg1n ⊢
                refine ⟨((hsub (.cons_cons _ (.cons_cons _ (.cons _ (.cons _ (.cons _ (.cons _ (.cons _ (.cons _ (.cons _ (.refl _))))))))))).trans (hsub_pick [7, 7] rfl)), ?_⟩
                refine H_one 11 rfl (by kernel_rfl) rfl (op_store1 3 0 rfl rfl (one_slV _ _) sz_26 rfl (Nat.le_of_ble_eq_true rfl) ?_)
                refine ⟨((hsub (.cons_cons _ (.cons_cons _ (.cons _ (.cons _ (.cons _ (.cons _ (.cons _ (.cons _ (.cons _ (.refl _))))))))))).trans (hsub_pick [7, 7] rfl)), ?_⟩
                refine H_y 12 rfl (by kernel_rfl) (by kernel_rfl) (by kernel_rfl) (((hsub (.cons_cons _ (.cons_cons _ (.cons _ (.cons _ (.cons _ (.cons _ (.cons _ (.cons _ (.cons _ (.refl _))))))))))).trans (hsub_pick [7, 7] rfl))) rfl (y_indexA rfl rfl Try.underlying27 sz_26 (by omega) (by omega) (show _ = 1 from rfl)) rfl ?_
                refine H_one 13 rfl (by kernel_rfl) rfl (op_store1 3 0 rfl rfl (one_slV _ _) sz_26 rfl (Nat.le_of_ble_eq_true rfl) ?_)
                refine ⟨((hsub (.cons_cons _ (.cons_cons _ (.cons _ (.cons _ (.cons _ (.cons _ (.cons _ (.cons _ (.cons _ (.refl _))))))))))).trans (hsub_pick [7, 7] rfl)), ?_⟩
                refine H_done (by kernel_rfl) ?_
                exact ⟨(D3, _, g0n, g1n), ⟨h3, by have := w3; simp only [Bool.false_eq_true, if_false, if_true] at this; rw [wX_set hx (by omega), wX_set hy (by omega)] at this; exact this, hg0n, hg1n⟩, ⟨rfl, rfl, rfl, rfl, rfl, rfl, rfl, rfl, trivial⟩, ((hsub (.cons_cons _ (.cons_cons _ (.cons_cons _ (.cons_cons _ (.cons_cons _ (.cons _ (.cons _ (.cons _ (.cons _ (.refl _))))))))))).trans (hsub_pick [2, 2, 2, 2, 2] rfl))⟩
            · refine op_buildSlice (vs := [(0, _)]) rfl Try.underlying26 sz_37 zl_37 rfl (by decide) (fill_one rfl (by rw [bs_length, sec2_len]) rfl) rfl (fun B16 => ?_)
              refine ⟨((hsub (.cons_cons _ (.cons_cons _ (.cons _ (.cons _ (.cons _ (.cons _ (.cons _ (.cons _ (.refl _)))))))))).trans (hsub_pick [6, 6] rfl)), ?_⟩
              refine H_one 3 rfl (by kernel_rfl) rfl (op_buildSlice (vs := [(0, _)]) rfl Try.underlying26 sz_37 zl_37 rfl (by decide) (fill_one rfl (by rw [bs_length, sec2_len]) rfl) rfl (fun B17 => ?_))
              refine ⟨((hsub (.cons_cons _ (.cons_cons _ (.cons _ (.cons _ (.cons _ (.cons _ (.cons _ (.cons _ (.cons _ (.refl _))))))))))).trans (hsub_pick [7, 7] rfl)), ?_⟩
              refine H_one 4 rfl (by kernel_rfl) rfl (op_append (gs := g0) (len := k) (m := 1) (xs := bs (prX la k).flatten) (vs := bs (sec2 x)) 4 rfl rfl rfl hg0 (src_slice (sees 0 0 rfl) (by simp [bs_length, sec2_len]) (bs_whole0 _ (by rw [sec2_len]))) (by rw [bs_length, sec2_len]) (bs_one _) Try.underlying26 ni_26 sz_37 by_37 (by decide) zl_37 rfl (by omega) rfl (fun g0n hg0n => ?_))
              rw [← bs_append, show (prX la k).flatten ++ sec2 x = (prX la (k + 1)).flatten from by rw [prX_succ hx]; simp] at hg0n ⊢
              refine ⟨((hsub (.cons_cons _ (.cons_cons _ (.cons _ (.cons _ (.cons _ (.cons _ (.cons _ (.cons _ (.cons _ (.refl _))))))))))).trans (hsub_pick [7, 7] rfl)), ?_⟩
              refine H_y 10 rfl (by kernel_rfl) (by kernel_rfl) (by kernel_rfl) (((hsub (.cons_cons _ (.cons_cons _ (.cons _ (.cons _ (.cons _ (.cons _ (.cons _ (.cons _ (.cons _ (.refl _))))))))))).trans (hsub_pick [7, 7] rfl))) rfl (y_indexA rfl rfl Try.underlying27 sz_26 (by omega) (by omega) (show _ = 0 from rfl)) rfl ?_
              refine H_one 9 rfl (by kernel_rfl) rfl (op_append (gs := g1) (len := k) (m := 1) (xs := bs (prX lb k).flatten) (vs := bs (sec2 y)) 5 rfl rfl rfl hg1 (src_slice (sees 1 0 rfl) (by simp [bs_length, sec2_len]) (bs_whole0 _ (by rw [sec2_len]))) (by rw [bs_length, sec2_len]) (bs_one _) Try.underlying26 ni_26 sz_37 by_37 (by decide) zl_37 rfl (by omega) rfl (fun g1n hg1n => ?_))
              rw [← bs_append, show (prX lb k).flatten ++ sec2 y = (prX lb (k + 1)).flatten from by rw [prX_succ hy]; simp] at hg1n ⊢
              refine ⟨((hsub (.cons_cons _ (.cons_cons _ (.cons _ (.cons _ (.cons _ (.cons _ (.cons _ (.cons _ (.cons _ (.refl _))))))))))).trans (hsub_pick [7, 7] rfl)), ?_⟩
              refine H_one 11 rfl (by kernel_rfl) rfl (op_store1 3 0 rfl rfl (one_slV _ _) sz_26 rfl (Nat.le_of_ble_eq_true rfl) ?_)
              refine ⟨((hsub (.cons_cons _ (.cons_cons _ (.cons _ (.cons _ (.cons _ (.cons _ (.cons _ (.cons _ (.cons _ (.refl _))))))))))).trans (hsub_pick [7, 7] rfl)), ?_⟩
              refine H_y 12 rfl (by kernel_rfl) (by kernel_rfl) (by kernel_rfl) (((hsub (.cons_cons _ (.cons_cons _ (.cons _ (.cons _ (.cons _ (.cons _ (.cons _ (.cons _ (.cons _ (.refl _))))))))))).trans (hsub_pick [7, 7] rfl))) rfl (y_indexA rfl rfl Try.underlying27 sz_26 (by omega) (by omega) (show _ = 1 from rfl)) rfl ?_
              refine H_one 13 rfl (by kernel_rfl) rfl (op_store1 3 0 rfl rfl (one_slV _ _) sz_26 rfl (Nat.le_of_ble_eq_true rfl) ?_)
              refine ⟨((hsub (.cons_cons _ (.cons_cons _ (.cons _ (.cons _ (.cons _ (.cons _ (.cons _ (.cons _ (.cons _ (.refl _))))))))))).trans (hsub_pick [7, 7] rfl)), ?_⟩
              refine H_done (by kernel_rfl) ?_
              exact ⟨(D3, _, g0n, g1n), ⟨h3, by have := w3; simp only [Bool.false_eq_true, if_false, if_true] at this; rw [wX_set hx (by omega), wX_set hy (by omega)] at this; exact this, hg0n, hg1n⟩, ⟨rfl, rfl, rfl, rfl, rfl, rfl, rfl, rfl, trivial⟩, ((hsub (.cons_cons _ (.cons_cons _ (.cons_cons _ (.cons_cons _ (.cons_cons _ (.cons _ (.cons _ (.cons _ (.cons _ (.refl _))))))))))).trans (hsub_pick [2, 2, 2, 2, 2] rfl))⟩
          · refine op_buildSlice (vs := [(0, _)]) rfl Try.underlying26 sz_37 zl_37 rfl (by decide) (fill_one rfl (by rw [bs_length, sec2_len]) rfl) rfl (fun B18 => ?_)
            refine ⟨((hsub (.cons_cons _ (.cons_cons _ (.cons _ (.cons _ (.cons _ (.cons _ (.cons _ (.cons _ (.refl _)))))))))).trans (hsub_pick [6, 6] rfl)), ?_⟩
            refine H_two 3 6 rfl rfl (by kernel_rfl) rfl rfl ?_ ?_
            · refine op_buildSlice (vs := [(0, _)]) rfl Try.underlying26 sz_37 zl_37 rfl (by decide) (fill_one rfl (by rw [bs_length, sec2_len]) rfl) rfl (fun B19 => ?_)
              refine ⟨((hsub (.cons_cons _ (.cons_cons _ (.cons _ (.cons _ (.cons _ (.cons _ (.cons _ (.cons _ (.cons _ (.refl _))))))))))).trans (hsub_pick [7, 7] rfl)), ?_⟩
              refine H_two 4 6 rfl rfl (by kernel_rfl) rfl rfl ?_ ?_
              · refine op_append (gs := g0) (len := k) (m := 1) (xs := bs (prX la k).flatten) (vs := bs (sec2 x)) 4 rfl rfl rfl hg0 (src_slice (sees 0 0 rfl) (by simp [bs_length, sec2_len]) (bs_whole0 _ (by rw [sec2_len]))) (by rw [bs_length, sec2_len]) (bs_one _) Try.underlying26 ni_26 sz_37 by_37 (by decide) zl_37 rfl (by omega) rfl (fun g0n hg0n => ?_)
                rw [← bs_append, show (prX la k).flatten ++ sec2 x = (prX la (k + 1)).flatten from by rw [prX_succ hx]; simp] at hg0n ⊢
                refine ⟨((hsub (.cons_cons _ (.cons_cons _ (.cons _ (.cons _ (.cons _ (.cons _ (.cons _ (.cons _ (.cons _ (.refl _))))))))))).trans (hsub_pick [7, 7] rfl)), ?_⟩
                refine H_one 6 rfl (by kernel_rfl) rfl (op_y (y_load rfl ag_26 (sees 3 0 rfl) rfl) rfl ?_)
                refine ⟨((hsub (.cons_cons _ (.cons_cons _ (.cons _ (.cons _ (.cons _ (.cons _ (.cons _ (.cons _ (.cons _ (.refl _))))))))))).trans (hsub_pick [7, 7] rfl)), ?_⟩
                refine H_y 10 rfl (by kernel_rfl) (by kernel_rfl) (by kernel_rfl) (((hsub (.cons_cons _ (.cons_cons _ (.cons _ (.cons _ (.cons _ (.cons _ (.cons _ (.cons _ (.cons _ (.refl _))))))))))).trans (hsub_pick [7, 7] rfl))) rfl (y_indexA rfl rfl Try.underlying27 sz_26 (by omega) (by omega) (show _ = 0 from rfl)) rfl ?_
                refine H_one 9 rfl (by kernel_rfl) rfl (op_append (gs := g1) (len := k) (m := 1) (xs := bs (prX lb k).flatten) (vs := bs (sec2 y)) 5 rfl rfl rfl hg1 (src_slice (sees 1 0 rfl) (by simp [bs_length, sec2_len]) (bs_whole0 _ (by rw [sec2_len]))) (by rw [bs_length, sec2_len]) (bs_one _) Try.underlying26 ni_26 sz_37 by_37 (by decide) zl_37 rfl (by omega) rfl (fun g1n hg1n => ?_))
                rw [← bs_append, show (prX lb k).flatten ++ sec2 y = (prX lb (k + 1)).flatten from by rw [prX_succ hy]; simp] at hg1n ⊢
                refine ⟨((hsub (.cons_cons _ (.cons_cons _ (.cons _ (.cons _ (.cons _ (.cons _ (.cons _ (.cons _ (.cons _ (.refl _))))))))))).trans (hsub_pick [7, 7] rfl)), ?_⟩
                refine H_one 11 rfl (by kernel_rfl) rfl (op_store1 3 0 rfl rfl (one_slV _ _) sz_26 rfl (Nat.le_of_ble_eq_true rfl) ?_)
                refine ⟨((hsub (.cons_cons _ (.cons_cons _ (.cons _ (.cons _ (.cons _ (.cons _ (.cons _ (.cons _ (.cons _ (.refl _))))))))))).trans (hsub_pick [7, 7] rfl)), ?_⟩
                refine H_y 12 rfl (by kernel_rfl) (by kernel_rfl) (by kernel_rfl) (((hsub (.cons_cons _ (.cons_cons _ (.cons _ (.cons _ (.cons _ (.cons _ (.cons _ (.cons _ (.cons _ (.refl _))))))))))).trans (hsub_pick [7, 7] rfl))) rfl (y_indexA rfl rfl Try.underlying27 sz_26 (by omega) (by omega) (show _ = 1 from rfl)) rfl ?_
                refine H_one 13 rfl (by kernel_rfl) rfl (op_store1 3 0 rfl rfl (one_slV _ _) sz_26 rfl (Nat.le_of_ble_eq_true rfl) ?_)
                refine ⟨((hsub (.cons_cons _ (.cons_cons _ (.cons _ (.cons _ (.cons _ (.cons _ (.cons _ (.cons _ (.cons _ (.refl _))))))))))).trans (hsub_pick [7, 7] rfl)), ?_⟩
                refine H_done (by kernel_rfl) ?_
                exact ⟨(D3, _, g0n, g1n), ⟨h3, by have := w3; simp only [Bool.false_eq_true, if_false, if_true] at this; rw [wX_set hx (by omega), wX_set hy (by omega)] at this; exact this, hg0n, hg1n⟩, ⟨rfl, rfl, rfl, rfl, rfl, rfl, rfl, rfl, trivial⟩, ((hsub (.cons_cons _ (.cons_cons _ (.cons_cons _ (.cons_cons _ (.cons_cons _ (.cons _ (.cons _ (.cons _ (.cons _ (.refl _))))))))))).trans (hsub_pick [2, 2, 2, 2, 2] rfl))⟩
              · refine op_y (y_load rfl ag_26 (sees 3 0 rfl) rfl) rfl ?_
                refine ⟨((hsub (.cons_cons _ (.cons_cons _ (.cons _ (.cons _ (.cons _ (.cons _ (.cons _ (.cons _ (.cons _ (.refl _))))))))))).trans (hsub_pick [7, 7] rfl)), ?_⟩
                refine H_one 4 rfl (by kernel_rfl) rfl (op_append (gs := g0) (len := k) (m := 1) (xs := bs (prX la k).flatten) (vs := bs (sec2 x)) 4 rfl rfl rfl hg0 (src_slice (sees 0 0 rfl) (by simp [bs_length, sec2_len]) (bs_whole0 _ (by rw [sec2_len]))) (by rw [bs_length, sec2_len]) (bs_one _) Try.underlying26 ni_26 sz_37 by_37 (by decide) zl_37 rfl (by omega) rfl (fun g0n hg0n => ?_))
                rw [← bs_append, show (prX la k).flatten ++ sec2 x = (prX la (k + 1)).flatten from by rw [prX_succ hx]; simp] at hg0n ⊢
                refine ⟨((hsub (.cons_cons _ (.cons_cons _ (.cons _ (.cons _ (.cons _ (.cons _ (.cons _ (.cons _ (.cons _ (.refl _))))))))))).trans (hsub_pick [7, 7] rfl)), ?_⟩
                refine H_y 10 rfl (by kernel_rfl) (by kernel_rfl) (by kernel_rfl) (((hsub (.cons_cons _ (.cons_cons _ (.cons _ (.cons _ (.cons _ (.cons _ (.cons _ (.cons _ (.cons _ (.refl _))))))))))).trans (hsub_pick [7, 7] rfl))) rfl (y_indexA rfl rfl Try.underlying27 sz_26 (by omega) (by omega) (show _ = 0 from rfl)) rfl ?_
                refine H_one 9 rfl (by kernel_rfl) rfl (op_append (gs := g1) (len := k) (m := 1) (xs := bs (prX lb k).flatten) (vs := bs (sec2 y)) 5 rfl rfl rfl hg1 (src_slice (sees 1 0 rfl) (by simp [bs_length, sec2_len]) (bs_whole0 _ (by rw [sec2_len]))) (by rw [bs_length, sec2_len]) (bs_one _) Try.underlying26 ni_26 sz_37 by_37 (by decide) zl_37 rfl (by omega) rfl (fun g1n hg1n => ?_))
                rw [← bs_append, show (prX lb k).flatten ++ sec2 y = (prX lb (k + 1)).flatten from by rw [prX_succ hy]; simp] at hg1n ⊢
                refine ⟨((hsub (.cons_cons _ (.cons_cons _ (.cons _ (.cons _ (.cons _ (.cons _ (.cons _ (.cons _ (.cons _ (.refl _))))))))))).trans (hsub_pick [7, 7] rfl)), ?_⟩
                refine H_one 11 rfl (by kernel_rfl) rfl (op_store1 3 0 rfl rfl (one_slV _ _) sz_26 rfl (Nat.le_of_ble_eq_true rfl) ?_)
                refine ⟨((hsub (.cons_cons _ (.cons_cons _ (.cons _ (.cons _ (.cons _ (.cons _ (.cons _ (.cons _ (.cons _ (.refl _))))))))))).trans (hsub_pick [7, 7] rfl)), ?_⟩
                refine H_y 12 rfl (by kernel_rfl) (by kernel_rfl) (by kernel_rfl) (((hsub (.cons_cons _ (.cons_cons _ (.cons _ (.cons _ (.cons _ (.cons _ (.cons _ (.cons _ (.cons _ (.refl _))))))))))).trans (hsub_pick [7, 7] rfl))) rfl (y_indexA rfl rfl Try.underlying27 sz_26 (by omega) (by omega) (show _ = 1 from rfl)) rfl ?_
                refine H_one 13 rfl (by kernel_rfl) rfl (op_store1 3 0 rfl rfl (one_slV _ _) sz_26 rfl (Nat.le_of_ble_eq_true rfl) ?_)
                refine ⟨((hsub (.cons_cons _ (.cons_cons _ (.cons _ (.cons _ (.cons _ (.cons _ (.cons _ (.cons _ (.cons _ (.refl _))))))))))).trans (hsub_pick [7, 7] rfl)), ?_⟩
                refine H_done (by kernel_rfl) ?_
                exact ⟨(D3, _, g0n, g1n), ⟨h3, by have := w3; simp only [Bool.false_eq_true, if_false, if_true] at this; rw [wX_set hx (by omega), wX_set hy (by omega)] at this; exact this, hg0n, hg1n⟩, ⟨rfl, rfl, rfl, rfl, rfl, rfl, rfl, rfl, trivial⟩, ((hsub (.cons_cons _ (.cons_cons _ (.cons_cons _ (.cons_cons _ (.cons_cons _ (.cons _ (.cons _ (.cons _ (.cons _ (.refl _))))))))))).trans (hsub_pick [2, 2, 2, 2, 2] rfl))⟩
            · refine op_y (y_load rfl ag_26 (sees 2 0 rfl) rfl) rfl ?_
              refine ⟨((hsub (.cons_cons _ (.cons_cons _ (.cons _ (.cons _ (.cons _ (.cons _ (.cons _ (.cons _ (.refl _)))))))))).trans (hsub_pick [6, 6] rfl)), ?_⟩
              refine H_one 3 rfl (by kernel_rfl) rfl (op_buildSlice (vs := [(0, _)]) rfl Try.underlying26 sz_37 zl_37 rfl (by decide) (fill_one rfl (by rw [bs_length, sec2_len]) rfl) rfl (fun B20 => ?_))
              refine ⟨((hsub (.cons_cons _ (.cons_cons _ (.cons _ (.cons _ (.cons _ (.cons _ (.cons _ (.cons _ (.cons _ (.refl _))))))))))).trans (hsub_pick [7, 7] rfl)), ?_⟩
              refine H_one 4 rfl (by kernel_rfl) rfl (op_append (gs := g0) (len := k) (m := 1) (xs := bs (prX la k).flatten) (vs := bs (sec2 x)) 4 rfl rfl rfl hg0 (src_slice (sees 0 0 rfl) (by simp [bs_length, sec2_len]) (bs_whole0 _ (by rw [sec2_len]))) (by rw [bs_length, sec2_len]) (bs_one _) Try.underlying26 ni_26 sz_37 by_37 (by decide) zl_37 rfl (by omega) rfl (fun g0n hg0n => ?_))
              rw [← bs_append, show (prX la k).flatten ++ sec2 x = (prX la (k + 1)).flatten from by rw [prX_succ hx]; simp] at hg0n ⊢
              refine ⟨((hsub (.cons_cons _ (.cons_cons _ (.cons _ (.cons _ (.cons _ (.cons _ (.cons _ (.cons _ (.cons _ (.refl _))))))))))).trans (hsub_pick [7, 7] rfl)), ?_⟩
              refine H_y 10 rfl (by kernel_rfl) (by kernel_rfl) (by kernel_rfl) (((hsub (.cons_cons _ (.cons_cons _ (.cons _ (.cons _ (.cons _ (.cons _ (.cons _ (.cons _ (.cons _ (.refl _))))))))))).trans (hsub_pick [7, 7] rfl))) rfl (y_indexA rfl rfl Try.underlying27 sz_26 (by omega) (by omega) (show _ = 0 from rfl)) rfl ?_
              refine H_one 9 rfl (by kernel_rfl) rfl (op_append (gs := g1) (len := k) (m := 1) (xs := bs (prX lb k).flatten) (vs := bs (sec2 y)) 5 rfl rfl rfl hg1 (src_slice (sees 1 0 rfl) (by simp [bs_length, sec2_len]) (bs_whole0 _ (by rw [sec2_len]))) (by rw [bs_length, sec2_len]) (bs_one _) Try.underlying26 ni_26 sz_37 by_37 (by decide) zl_37 rfl (by omega) rfl (fun g1n hg1n => ?_))
              rw [← bs_append, show (prX lb k).flatten ++ sec2 y = (prX lb (k + 1)).flatten from by rw [prX_succ hy]; simp] at hg1n ⊢
              refine ⟨((hsub (.cons_cons _ (.cons_cons _ (.cons _ (.cons _ (.cons _ (.cons _ (.cons _ (.cons _ (.cons _ (.refl _))))))))))).trans (hsub_pick [7, 7] rfl)), ?_⟩
              refine H_one 11 rfl (by kernel_rfl) rfl (op_store1 3 0 rfl rfl (one_slV _ _) sz_26 rfl (Nat.le_of_ble_eq_true rfl) ?_)
              refine ⟨((hsub (.cons_cons _ (.cons_cons _ (.cons _ (.cons _ (.cons _ (.cons _ (.cons _ (.cons _ (.cons _ (.refl _))))))))))).trans (hsub_pick [7, 7] rfl)), ?_⟩
              refine H_y 12 rfl (by kernel_rfl) (by kernel_rfl) (by kernel_rfl) (((hsub (.cons_cons _ (.cons_cons _ (.cons _ (.cons _ (.cons _ (.cons _ (.cons _ (.cons _ (.cons _ (.refl _))))))))))).trans (hsub_pick [7, 7] rfl))) rfl (y_indexA rfl rfl Try.underlying27 sz_26 (by omega) (by omega) (show _ = 1 from rfl)) rfl ?_
              refine H_one 13 rfl (by kernel_rfl) rfl (op_store1 3 0 rfl rfl (one_slV _ _) sz_26 rfl (Nat.le_of_ble_eq_true rfl) ?_)
              refine ⟨((hsub (.cons_cons _ (.cons_cons _ (.cons _ (.cons _ (.cons _ (.cons _ (.cons _ (.cons _ (.cons _ (.refl _))))))))))).trans (hsub_pick [7, 7] rfl)), ?_⟩
              refine H_done (by kernel_rfl) ?_
              exact ⟨(D3, _, g0n, g1n), ⟨h3, by have := w3; simp only [Bool.false_eq_true, if_false, if_true] at this; rw [wX_set hx (by omega), wX_set hy (by omega)] at this; exact this, hg0n, hg1n⟩, ⟨rfl, rfl, rfl, rfl, rfl, rfl, rfl, rfl, trivial⟩, ((hsub (.cons_cons _ (.cons_cons _ (.cons_cons _ (.cons_cons _ (.cons_cons _ (.cons _ (.cons _ (.cons _ (.cons _ (.refl _))))))))))).trans (hsub_pick [2, 2, 2, 2, 2] rfl))⟩
        · refine op_buildSlice (vs := [(0, _)]) rfl Try.underlying26 sz_37 zl_37 rfl (by decide) (fill_one rfl (by rw [bs_length, sec2_len]) rfl) rfl (fun B21 => ?_)
          refine ⟨((hsub (.cons_cons _ (.cons_cons _ (.cons _ (.cons _ (.cons _ (.cons _ (.cons _ (.cons _ (.refl _)))))))))).trans (hsub_pick [6, 6] rfl)), ?_⟩
          refine H_many [1, 6, 8] (by kernel_rfl) (by decide) ⟨⟨_, rfl, rfl, ?_⟩, ⟨_, rfl, rfl, ?_⟩, ⟨_, rfl, rfl, ?_⟩, trivial⟩
          · refine op_y (y_load rfl ag_26 (sees 2 0 rfl) rfl) rfl ?_
            refine ⟨((hsub (.cons_cons _ (.cons_cons _ (.cons _ (.cons _ (.cons _ (.cons _ (.cons _ (.cons _ (.refl _)))))))))).trans (hsub_pick [6, 6] rfl)), ?_⟩
            refine H_many [4, 6, 8] (by kernel_rfl) (by decide) ⟨⟨_, rfl, rfl, ?_⟩, ⟨_, rfl, rfl, ?_⟩, ⟨_, rfl, rfl, ?_⟩, trivial⟩
            · refine op_append (gs := g0) (len := k) (m := 1) (xs := bs (prX la k).flatten) (vs := bs (sec2 x)) 3 rfl rfl rfl hg0 (src_slice (sees 0 0 rfl) (by simp [bs_length, sec2_len]) (bs_whole0 _ (by rw [sec2_len]))) (by rw [bs_length, sec2_len]) (bs_one _) Try.underlying26 ni_26 sz_37 by_37 (by decide) zl_37 rfl (by omega) rfl (fun g0n hg0n => ?_)
              rw [← bs_append, show (prX la k).flatten ++ sec2 x = (prX la (k + 1)).flatten from by rw [prX_succ hx]; simp] at hg0n ⊢
              refine ⟨((hsub (.cons_cons _ (.cons_cons _ (.cons _ (.cons _ (.cons _ (.cons _ (.cons _ (.cons _ (.refl _)))))))))).trans (hsub_pick [6, 6] rfl)), ?_⟩
              refine H_two 6 8 rfl rfl (by kernel_rfl) rfl rfl ?_ ?_
              · refine op_y (y_load rfl ag_26 (sees 2 0 rfl) rfl) rfl ?_
                refine ⟨((hsub (.cons_cons _ (.cons_cons _ (.cons _ (.cons _ (.cons _ (.cons _ (.cons _ (.cons _ (.refl _)))))))))).trans (hsub_pick [6, 6] rfl)), ?_⟩
                refine H_y 10 rfl (by kernel_rfl) (by kernel_rfl) (by kernel_rfl) (((hsub (.cons_cons _ (.cons_cons _ (.cons _ (.cons _ (.cons _ (.cons _ (.cons _ (.cons _ (.refl _)))))))))).trans (hsub_pick [6, 6] rfl))) rfl (y_indexA rfl rfl Try.underlying27 sz_26 (by omega) (by omega) (show _ = 0 from rfl)) rfl ?_
                refine H_one 8 rfl (by kernel_rfl) rfl (op_buildSlice (vs := [(0, _)]) rfl Try.underlying26 sz_37 zl_37 rfl (by decide) (fill_one rfl (by rw [bs_length, sec2_len]) rfl) rfl (fun B22 => ?_))
                refine ⟨((hsub (.cons_cons _ (.cons_cons _ (.cons _ (.cons _ (.cons _ (.cons _ (.cons _ (.cons _ (.cons _ (.refl _))))))))))).trans (hsub_pick [7, 7] rfl)), ?_⟩
                refine H_one 9 rfl (by kernel_rfl) rfl (op_append (gs := g1) (len := k) (m := 1) (xs := bs (prX lb k).flatten) (vs := bs (sec2 y)) 5 rfl rfl rfl hg1 (src_slice (sees 0 0 rfl) (by simp [bs_length, sec2_len]) (bs_whole0 _ (by rw [sec2_len]))) (by rw [bs_length, sec2_len]) (bs_one _) Try.underlying26 ni_26 sz_37 by_37 (by decide) zl_37 rfl (by omega) rfl (fun g1n hg1n => ?_))
                rw [← bs_append, show (prX lb k).flatten ++ sec2 y = (prX lb (k + 1)).flatten from by rw [prX_succ hy]; simp] at hg1n ⊢
                refine ⟨((hsub (.cons_cons _ (.cons_cons _ (.cons _ (.cons _ (.cons _ (.cons _ (.cons _ (.cons _ (.cons _ (.refl _))))))))))).trans (hsub_pick [7, 7] rfl)), ?_⟩
                refine H_one 11 rfl (by kernel_rfl) rfl (op_store1 3 0 rfl rfl (one_slV _ _) sz_26 rfl (Nat.le_of_ble_eq_true rfl) ?_)
                refine ⟨((hsub (.cons_cons _ (.cons_cons _ (.cons _ (.cons _ (.cons _ (.cons _ (.cons _ (.cons _ (.cons _ (.refl _))))))))))).trans (hsub_pick [7, 7] rfl)), ?_⟩
                refine H_y 12 rfl (by kernel_rfl) (by kernel_rfl) (by kernel_rfl) (((hsub (.cons_cons _ (.cons_cons _ (.cons _ (.cons _ (.cons _ (.cons _ (.cons _ (.cons _ (.cons _ (.refl _))))))))))).trans (hsub_pick [7, 7] rfl))) rfl (y_indexA rfl rfl Try.underlying27 sz_26 (by omega) (by omega) (show _ = 1 from rfl)) rfl ?_
                refine H_one 13 rfl (by kernel_rfl) rfl (op_store1 3 0 rfl rfl (one_slV _ _) sz_26 rfl (Nat.le_of_ble_eq_true rfl) ?_)
                refine ⟨((hsub (.cons_cons _ (.cons_cons _ (.cons _ (.cons _ (.cons _ (.cons _ (.cons _ (.cons _ (.cons _ (.refl _))))))))))).trans (hsub_pick [7, 7] rfl)), ?_⟩
                refine H_done (by kernel_rfl) ?_
                exact ⟨(D3, _, g0n, g1n), ⟨h3, by have := w3; simp only [Bool.false_eq_true, if_false, if_true] at this; rw [wX_set hx (by omega), wX_set hy (by omega)] at this; exact this, hg0n, hg1n⟩, ⟨rfl, rfl, rfl, rfl, rfl, rfl, rfl, rfl, trivial⟩, ((hsub (.cons_cons _ (.cons_cons _ (.cons_cons _ (.cons_cons _ (.cons_cons _ (.cons _ (.cons _ (.cons _ (.cons _ (.refl _))))))))))).trans (hsub_pick [2, 2, 2, 2, 2] rfl))⟩
              · refine op_buildSlice (vs := [(0, _)]) rfl Try.underlying26 sz_37 zl_37 rfl (by decide) (fill_one rfl (by rw [bs_length, sec2_len]) rfl) rfl (fun B23 => ?_)
                refine ⟨((hsub (.cons_cons _ (.cons_cons _ (.cons _ (.cons _ (.cons _ (.cons _ (.cons _ (.cons _ (.cons _ (.refl _))))))))))).trans (hsub_pick [7, 7] rfl)), ?_⟩
                refine H_one 6 rfl (by kernel_rfl) rfl (op_y (y_load rfl ag_26 (sees 3 0 rfl) rfl) rfl ?_)
                refine ⟨((hsub (.cons_cons _ (.cons_cons _ (.cons _ (.cons _ (.cons _ (.cons _ (.cons _ (.cons _ (.cons _ (.refl _))))))))))).trans (hsub_pick [7, 7] rfl)), ?_⟩
                refine H_y 10 rfl (by kernel_rfl) (by kernel_rfl) (by kernel_rfl) (((hsub (.cons_cons _ (.cons_cons _ (.cons _ (.cons _ (.cons _ (.cons _ (.cons _ (.cons _ (.cons _ (.refl _))))))))))).trans (hsub_pick [7, 7] rfl))) rfl (y_indexA rfl rfl Try.underlying27 sz_26 (by omega) (by omega) (show _ = 0 from rfl)) rfl ?_
                refine H_one 9 rfl (by kernel_rfl) rfl (op_append (gs := g1) (len := k) (m := 1) (xs := bs (prX lb k).flatten) (vs := bs (sec2 y)) 5 rfl rfl rfl hg1 (src_slice (sees 0 0 rfl) (by simp [bs_length, sec2_len]) (bs_whole0 _ (by rw [sec2_len]))) (by rw [bs_length, sec2_len]) (bs_one _) Try.underlying26 ni_26 sz_37 by_37 (by decide) zl_37 rfl (by omega) rfl (fun g1n hg1n => ?_))
                rw [← bs_append, show (prX lb k).flatten ++ sec2 y = (prX lb (k + 1)).flatten from by rw [prX_succ hy]; simp] at hg1n ⊢
                refine ⟨((hsub (.cons_cons _ (.cons_cons _ (.cons _ (.cons _ (.cons _ (.cons _ (.cons _ (.cons _ (.cons _ (.refl _))))))))))).trans (hsub_pick [7, 7] rfl)), ?_⟩
                refine H_one 11 rfl (by kernel_rfl) rfl (op_store1 3 0 rfl rfl (one_slV _ _) sz_26 rfl (Nat.le_of_ble_eq_true rfl) ?_)
                refine ⟨((hsub (.cons_cons _ (.cons_cons _ (.cons _ (.cons _ (.cons _ (.cons _ (.cons _ (.cons _ (.cons _ (.refl _))))))))))).trans (hsub_pick [7, 7] rfl)), ?_⟩
                refine H_y 12 rfl (by kernel_rfl) (by kernel_rfl) (by kernel_rfl) (((hsub (.cons_cons _ (.cons_cons _ (.cons _ (.cons _ (.cons _ (.cons _ (.cons _ (.cons _ (.cons _ (.refl _))))))))))).trans (hsub_pick [7, 7] rfl))) rfl (y_indexA rfl rfl Try.underlying27 sz_26 (by omega) (by omega) (show _ = 1 from rfl)) rfl ?_
                refine H_one 13 rfl (by kernel_rfl) rfl (op_store1 3 0 rfl rfl (one_slV _ _) sz_26 rfl (Nat.le_of_ble_eq_true rfl) ?_)
                refine ⟨((hsub (.cons_cons _ (.cons_cons _ (.cons _ (.cons _ (.cons _ (.cons _ (.cons _ (.cons _ (.cons _ (.refl _))))))))))).trans (hsub_pick [7, 7] rfl)), ?_⟩
                refine H_done (by kernel_rfl) ?_
                exact ⟨(D3, _, g0n, g1n), ⟨h3, by have := w3; simp only [Bool.false_eq_true, if_false, if_true] at this; rw [wX_set hx (by omega), wX_set hy (by omega)] at this; exact this, hg0n, hg1n⟩, ⟨rfl, rfl, rfl, rfl, rfl, rfl, rfl, rfl, trivial⟩, ((hsub (.cons_cons _ (.cons_cons _ (.cons_cons _ (.cons_cons _ (.cons_cons _ (.cons _ (.cons _ (.cons _ (.cons _ (.refl _))))))))))).trans (hsub_pick [2, 2, 2, 2, 2] rfl))⟩
            · refine op_y (y_load rfl ag_26 (sees 2 0 rfl) rfl) rfl ?_
              refine ⟨((hsub (.cons_cons _ (.cons_cons _ (.cons _ (.cons _ (.cons _ (.cons _ (.cons _ (.cons _ (.refl _)))))))))).trans (hsub_pick [6, 6] rfl)), ?_⟩
              refine H_two 4 8 rfl rfl (by kernel_rfl) rfl rfl ?_ ?_
              · refine op_append (gs := g0) (len := k) (m := 1) (xs := bs (prX la k).flatten) (vs := bs (sec2 x)) 3 rfl rfl rfl hg0 (src_slice (sees 0 0 rfl) (by simp [bs_length, sec2_len]) (bs_whole0 _ (by rw [sec2_len]))) (by rw [bs_length, sec2_len]) (bs_one _) Try.underlying26 ni_26 sz_37 by_37 (by decide) zl_37 rfl (by omega) rfl (fun g0n hg0n => ?_)
                rw [← bs_append, show (prX la k).flatten ++ sec2 x = (prX la (k + 1)).flatten from by rw [prX_succ hx]; simp] at hg0n ⊢
                refine ⟨((hsub (.cons_cons _ (.cons_cons _ (.cons _ (.cons _ (.cons _ (.cons _ (.cons _ (.cons _ (.refl _)))))))))).trans (hsub_pick [6, 6] rfl)), ?_⟩
                refine H_y 10 rfl (by kernel_rfl) (by kernel_rfl) (by kernel_rfl) (((hsub (.cons_cons _ (.cons_cons _ (.cons _ (.cons _ (.cons _ (.cons _ (.cons _ (.cons _ (.refl _)))))))))).trans (hsub_pick [6, 6] rfl))) rfl (y_indexA rfl rfl Try.underlying27 sz_26 (by omega) (by omega) (show _ = 0 from rfl)) rfl ?_
                refine H_one 8 rfl (by kernel_rfl) rfl (op_buildSlice (vs := [(0, _)]) rfl Try.underlying26 sz_37 zl_37 rfl (by decide) (fill_one rfl (by rw [bs_length, sec2_len]) rfl) rfl (fun B24 => ?_))
                refine ⟨((hsub (.cons_cons _ (.cons_cons _ (.cons _ (.cons _ (.cons _ (.cons _ (.cons _ (.cons _ (.cons _ (.refl _))))))))))).trans (hsub_pick [7, 7] rfl)), ?_⟩
                refine H_one 9 rfl (by kernel_rfl) rfl (op_append (gs := g1) (len := k) (m := 1) (xs := bs (prX lb k).flatten) (vs := bs (sec2 y)) 5 rfl rfl rfl hg1 (src_slice (sees 0 0 rfl) (by simp [bs_length, sec2_len]) (bs_whole0 _ (by rw [sec2_len]))) (by rw [bs_length, sec2_len]) (bs_one _) Try.underlying26 ni_26 sz_37 by_37 (by decide) zl_37 rfl (by omega) rfl (fun g1n hg1n => ?_))
                rw [← bs_append, show (prX lb k).flatten ++ sec2 y = (prX lb (k + 1)).flatten from by rw [prX_succ hy]; simp] at hg1n ⊢
                refine ⟨((hsub (.cons_cons _ (.cons_cons _ (.cons _ (.cons _ (.cons _ (.cons _ (.cons _ (.cons _ (.cons _ (.refl _))))))))))).trans (hsub_pick [7, 7] rfl)), ?_⟩
                refine H_one 11 rfl (by kernel_rfl) rfl (op_store1 3 0 rfl rfl (one_slV _ _) sz_26 rfl (Nat.le_of_ble_eq_true rfl) ?_)
                refine ⟨((hsub (.cons_cons _ (.cons_cons _ (.cons _ (.cons _ (.cons _ (.cons _ (.cons _ (.cons _ (.cons _ (.refl _))))))))))).trans (hsub_pick [7, 7] rfl)), ?_⟩
                refine H_y 12 rfl (by kernel_rfl) (by kernel_rfl) (by kernel_rfl) (((hsub (.cons_cons _ (.cons_cons _ (.cons _ (.cons _ (.cons _ (.cons _ (.cons _ (.cons _ (.cons _ (.refl _))))))))))).trans (hsub_pick [7, 7] rfl))) rfl (y_indexA rfl rfl Try.underlying27 sz_26 (by omega) (by omega) (show _ = 1 from rfl)) rfl ?_
                refine H_one 13 rfl (by kernel_rfl) rfl (op_store1 3 0 rfl rfl (one_slV _ _) sz_26 rfl (Nat.le_of_ble_eq_true rfl) ?_)
                refine ⟨((hsub (.cons_cons _ (.cons_cons _ (.cons _ (.cons _ (.cons _ (.cons _ (.cons _ (.cons _ (.cons _ (.refl _))))))))))).trans (hsub_pick [7, 7] rfl)), ?_⟩
                refine H_done (by kernel_rfl) ?_
                exact ⟨(D3, _, g0n, g1n), ⟨h3, by have := w3; simp only [Bool.false_eq_true, if_false, if_true] at this; rw [wX_set hx (by omega), wX_set hy (by omega)] at this; exact this, hg0n, hg1n⟩, ⟨rfl, rfl, rfl, rfl, rfl, rfl, rfl, rfl, trivial⟩, ((hsub (.cons_cons _ (.cons_cons _ (.cons_cons _ (.cons_cons _ (.cons_cons _ (.cons _ (.cons _ (.cons _ (.cons _ (.refl _))))))))))).trans (hsub_pick [2, 2, 2, 2, 2] rfl))⟩
              · refine op_buildSlice (vs := [(0, _)]) rfl Try.underlying26 sz_37 zl_37 rfl (by decide) (fill_one rfl (by rw [bs_length, sec2_len]) rfl) rfl (fun B25 => ?_)
                refine ⟨((hsub (.cons_cons _ (.cons_cons _ (.cons _ (.cons _ (.cons _ (.cons _ (.cons _ (.cons _ (.cons _ (.refl _))))))))))).trans (hsub_pick [7, 7] rfl)), ?_⟩
                refine H_one 4 rfl (by kernel_rfl) rfl (op_append (gs := g0) (len := k) (m := 1) (xs := bs (prX la k).flatten) (vs := bs (sec2 x)) 4 rfl rfl rfl hg0 (src_slice (sees 1 0 rfl) (by simp [bs_length, sec2_len]) (bs_whole0 _ (by rw [sec2_len]))) (by rw [bs_length, sec2_len]) (bs_one _) Try.underlying26 ni_26 sz_37 by_37 (by decide) zl_37 rfl (by omega) rfl (fun g0n hg0n => ?_))
                rw [← bs_append, show (prX la k).flatten ++ sec2 x = (prX la (k + 1)).flatten from by rw [prX_succ hx]; simp] at hg0n ⊢
                refine ⟨((hsub (.cons_cons _ (.cons_cons _ (.cons _ (.cons _ (.cons _ (.cons _ (.cons _ (.cons _ (.cons _ (.refl _))))))))))).trans (hsub_pick [7, 7] rfl)), ?_⟩
                refine H_y 10 rfl (by kernel_rfl) (by kernel_rfl) (by kernel_rfl) (((hsub (.cons_cons _ (.cons_cons _ (.cons _ (.cons _ (.cons _ (.cons _ (.cons _ (.cons _ (.cons _ (.refl _))))))))))).trans (hsub_pick [7, 7] rfl))) rfl (y_indexA rfl rfl Try.underlying27 sz_26 (by omega) (by omega) (show _ = 0 from rfl)) rfl ?_
                refine H_one 9 rfl (by kernel_rfl) rfl (op_append (gs := g1) (len := k) (m := 1) (xs := bs (prX lb k).flatten) (vs := bs (sec2 y)) 5 rfl rfl rfl hg1 (src_slice (sees 0 0 rfl) (by simp [bs_length, sec2_len]) (bs_whole0 _ (by rw [sec2_len]))) (by rw [bs_length, sec2_len]) (bs_one _) Try.underlying26 ni_26 sz_37 by_37 (by decide) zl_37 rfl (by omega) rfl (fun g1n hg1n => ?_))
                rw [← bs_append, show (prX lb k).flatten ++ sec2 y = (prX lb (k + 1)).flatten from by rw [prX_succ hy]; simp] at hg1n ⊢
                refine ⟨((hsub (.cons_cons _ (.cons_cons _ (.cons _ (.cons _ (.cons _ (.cons _ (.cons _ (.cons _ (.cons _ (.refl _))))))))))).trans (hsub_pick [7, 7] rfl)), ?_⟩
                refine H_one 11 rfl (by kernel_rfl) rfl (op_store1 3 0 rfl rfl (one_slV _ _) sz_26 rfl (Nat.le_of_ble_eq_true rfl) ?_)
                refine ⟨((hsub (.cons_cons _ (.cons_cons _ (.cons _ (.cons _ (.cons _ (.cons _ (.cons _ (.cons _ (.cons _ (.refl _))))))))))).trans (hsub_pick [7, 7] rfl)), ?_⟩
                refine H_y 12 rfl (by kernel_rfl) (by kernel_rfl) (by kernel_rfl) (((hsub (.cons_cons _ (.cons_cons _ (.cons _ (.cons _ (.cons _ (.cons _ (.cons _ (.cons _ (.cons _ (.refl _))))))))))).trans (hsub_pick [7, 7] rfl))) rfl (y_indexA rfl rfl Try.underlying27 sz_26 (by omega) (by omega) (show _ = 1 from rfl)) rfl ?_
                refine H_one 13 rfl (by kernel_rfl) rfl (op_store1 3 0 rfl rfl (one_slV _ _) sz_26 rfl (Nat.le_of_ble_eq_true rfl) ?_)
                refine ⟨((hsub (.cons_cons _ (.cons_cons _ (.cons _ (.cons _ (.cons _ (.cons _ (.cons _ (.cons _ (.cons _ (.refl _))))))))))).trans (hsub_pick [7, 7] rfl)), ?_⟩
                refine H_done (by kernel_rfl) ?_
                exact ⟨(D3, _, g0n, g1n), ⟨h3, by have := w3; simp only [Bool.false_eq_true, if_false, if_true] at this; rw [wX_set hx (by omega), wX_set hy (by omega)] at this; exact this, hg0n, hg1n⟩, ⟨rfl, rfl, rfl, rfl, rfl, rfl, rfl, rfl, trivial⟩, ((hsub (.cons_cons _ (.cons_cons _ (.cons_cons _ (.cons_cons _ (.cons_cons _ (.cons _ (.cons _ (.cons _ (.cons _ (.refl _))))))))))).trans (hsub_pick [2, 2, 2, 2, 2] rfl))⟩
            · refine op_buildSlice (vs := [(0, _)]) rfl Try.underlying26 sz_37 zl_37 rfl (by decide) (fill_one rfl (by rw [bs_length, sec2_len]) rfl) rfl (fun B26 => ?_)
              refine ⟨((hsub (.cons_cons _ (.cons_cons _ (.cons _ (.cons _ (.cons _ (.cons _ (.cons _ (.cons _ (.cons _ (.refl _))))))))))).trans (hsub_pick [7, 7] rfl)), ?_⟩
              refine H_two 4 6 rfl rfl (by kernel_rfl) rfl rfl ?_ ?_
              · refine op_append (gs := g0) (len := k) (m := 1) (xs := bs (prX la k).flatten) (vs := bs (sec2 x)) 4 rfl rfl rfl hg0 (src_slice (sees 1 0 rfl) (by simp [bs_length, sec2_len]) (bs_whole0 _ (by rw [sec2_len]))) (by rw [bs_length, sec2_len]) (bs_one _) Try.underlying26 ni_26 sz_37 by_37 (by decide) zl_37 rfl (by omega) rfl (fun g0n hg0n => ?_)
                rw [← bs_append, show (prX la k).flatten ++ sec2 x = (prX la (k + 1)).flatten from by rw [prX_succ hx]; simp] at hg0n ⊢
                refine ⟨((hsub (.cons_cons _ (.cons_cons _ (.cons _ (.cons _ (.cons _ (.cons _ (.cons _ (.cons _ (.cons _ (.refl _))))))))))).trans (hsub_pick [7, 7] rfl)), ?_⟩
                refine H_one 6 rfl (by kernel_rfl) rfl (op_y (y_load rfl ag_26 (sees 3 0 rfl) rfl) rfl ?_)
                refine ⟨((hsub (.cons_cons _ (.cons_cons _ (.cons _ (.cons _ (.cons _ (.cons _ (.cons _ (.cons _ (.cons _ (.refl _))))))))))).trans (hsub_pick [7, 7] rfl)), ?_⟩
                refine H_y 10 rfl (by kernel_rfl) (by kernel_rfl) (by kernel_rfl) (((hsub (.cons_cons _ (.cons_cons _ (.cons _ (.cons _ (.cons _ (.cons _ (.cons _ (.cons _ (.cons _ (.refl _))))))))))).trans (hsub_pick [7, 7] rfl))) rfl (y_indexA rfl rfl Try.underlying27 sz_26 (by omega) (by omega) (show _ = 0 from rfl)) rfl ?_
                refine H_one 9 rfl (by kernel_rfl) rfl (op_append (gs := g1) (len := k) (m := 1) (xs := bs (prX lb k).flatten) (vs := bs (sec2 y)) 5 rfl rfl rfl hg1 (src_slice (sees 0 0 rfl) (by simp [bs_length, sec2_len]) (bs_whole0 _ (by rw [sec2_len]))) (by rw [bs_length, sec2_len]) (bs_one _) Try.underlying26 ni_26 sz_37 by_37 (by decide) zl_37 rfl (by omega) rfl (fun g1n hg1n => ?_))
                rw [← bs_append, show (prX lb k).flatten ++ sec2 y = (prX lb (k + 1)).flatten from by rw [prX_succ hy]; simp] at hg1n ⊢
                refine ⟨((hsub (.cons_cons _ (.cons_cons _ (.cons _ (.cons _ (.cons _ (.cons _ (.cons _ (.cons _ (.cons _ (.refl _))))))))))).trans (hsub_pick [7, 7] rfl)), ?_⟩
                refine H_one 11 rfl (by kernel_rfl) rfl (op_store1 3 0 rfl rfl (one_slV _ _) sz_26 rfl (Nat.le_of_ble_eq_true rfl) ?_)
                refine ⟨((hsub (.cons_cons _ (.cons_cons _ (.cons _ (.cons _ (.cons _ (.cons _ (.cons _ (.cons _ (.cons _ (.refl _))))))))))).trans (hsub_pick [7, 7] rfl)), ?_⟩
                refine H_y 12 rfl (by kernel_rfl) (by kernel_rfl) (by kernel_rfl) (((hsub (.cons_cons _ (.cons_cons _ (.cons _ (.cons _ (.cons _ (.cons _ (.cons _ (.cons _ (.cons _ (.refl _))))))))))).trans (hsub_pick [7, 7] rfl))) rfl (y_indexA rfl rfl Try.underlying27 sz_26 (by omega) (by omega) (show _ = 1 from rfl)) rfl ?_
                refine H_one 13 rfl (by kernel_rfl) rfl (op_store1 3 0 rfl rfl (one_slV _ _) sz_26 rfl (Nat.le_of_ble_eq_true rfl) ?_)
                refine ⟨((hsub (.cons_cons _ (.cons_cons _ (.cons _ (.cons _ (.cons _ (.cons _ (.cons _ (.cons _ (.cons _ (.refl _))))))))))).trans (hsub_pick [7, 7] rfl)), ?_⟩
                refine H_done (by kernel_rfl) ?_
                exact ⟨(D3, _, g0n, g1n), ⟨h3, by have := w3; simp only [Bool.false_eq_true, if_false, if_true] at this; rw [wX_set hx (by omega), wX_set hy (by omega)] at this; exact this, hg0n, hg1n⟩, ⟨rfl, rfl, rfl, rfl, rfl, rfl, rfl, rfl, trivial⟩, ((hsub (.cons_cons _ (.cons_cons _ (.cons_cons _ (.cons_cons _ (.cons_cons _ (.cons _ (.cons _ (.cons _ (.cons _ (.refl _))))))))))).trans (hsub_pick [2, 2, 2, 2, 2] rfl))⟩
              · refine op_y (y_load rfl ag_26 (sees 3 0 rfl) rfl) rfl ?_
                refine ⟨((hsub (.cons_cons _ (.cons_cons _ (.cons _ (.cons _ (.cons _ (.cons _ (.cons _ (.cons _ (.cons _ (.refl _))))))))))).trans (hsub_pick [7, 7] rfl)), ?_⟩
                refine H_one 4 rfl (by kernel_rfl) rfl (op_append (gs := g0) (len := k) (m := 1) (xs := bs (prX la k).flatten) (vs := bs (sec2 x)) 4 rfl rfl rfl hg0 (src_slice (sees 1 0 rfl) (by simp [bs_length, sec2_len]) (bs_whole0 _ (by rw [sec2_len]))) (by rw [bs_length, sec2_len]) (bs_one _) Try.underlying26 ni_26 sz_37 by_37 (by decide) zl_37 rfl (by omega) rfl (fun g0n hg0n => ?_))
                rw [← bs_append, show (prX la k).flatten ++ sec2 x = (prX la (k + 1)).flatten from by rw [prX_succ hx]; simp] at hg0n ⊢
                refine ⟨((hsub (.cons_cons _ (.cons_cons _ (.cons _ (.cons _ (.cons _ (.cons _ (.cons _ (.cons _ (.cons _ (.refl _))))))))))).trans (hsub_pick [7, 7] rfl)), ?_⟩
                refine H_y 10 rfl (by kernel_rfl) (by kernel_rfl) (by kernel_rfl) (((hsub (.cons_cons _ (.cons_cons _ (.cons _ (.cons _ (.cons _ (.cons _ (.cons _ (.cons _ (.cons _ (.refl _))))))))))).trans (hsub_pick [7, 7] rfl))) rfl (y_indexA rfl rfl Try.underlying27 sz_26 (by omega) (by omega) (show _ = 0 from rfl)) rfl ?_
                refine H_one 9 rfl (by kernel_rfl) rfl (op_append (gs := g1) (len := k) (m := 1) (xs := bs (prX lb k).flatten) (vs := bs (sec2 y)) 5 rfl rfl rfl hg1 (src_slice (sees 0 0 rfl) (by simp [bs_length, sec2_len]) (bs_whole0 _ (by rw [sec2_len]))) (by rw [bs_length, sec2_len]) (bs_one _) Try.underlying26 ni_26 sz_37 by_37 (by decide) zl_37 rfl (by omega) rfl (fun g1n hg1n => ?_))
                rw [← bs_append, show (prX lb k).flatten ++ sec2 y = (prX lb (k + 1)).flatten from by rw [prX_succ hy]; simp] at hg1n ⊢
                refine ⟨((hsub (.cons_cons _ (.cons_cons _ (.cons _ (.cons _ (.cons _ (.cons _ (.cons _ (.cons _ (.cons _ (.refl _))))))))))).trans (hsub_pick [7, 7] rfl)), ?_⟩
                refine H_one 11 rfl (by kernel_rfl) rfl (op_store1 3 0 rfl rfl (one_slV _ _) sz_26 rfl (Nat.le_of_ble_eq_true rfl) ?_)
                refine ⟨((hsub (.cons_cons _ (.cons_cons _ (.cons _ (.cons _ (.cons _ (.cons _ (.cons _ (.cons _ (.cons _ (.refl _))))))))))).trans (hsub_pick [7, 7] rfl)), ?_⟩
                refine H_y 12 rfl (by kernel_rfl) (by kernel_rfl) (by kernel_rfl) (((hsub (.cons_cons _ (.cons_cons _ (.cons _ (.cons _ (.cons _ (.cons _ (.cons _ (.cons _ (.cons _ (.refl _))))))))))).trans (hsub_pick [7, 7] rfl))) rfl (y_indexA rfl rfl Try.underlying27 sz_26 (by omega) (by omega) (show _ = 1 from rfl)) rfl ?_
                refine H_one 13 rfl (by kernel_rfl) rfl (op_store1 3 0 rfl rfl (one_slV _ _) sz_26 rfl (Nat.le_of_ble_eq_true rfl) ?_)
                refine ⟨((hsub (.cons_cons _ (.cons_cons _ (.cons _ (.cons _ (.cons _ (.cons _ (.cons _ (.cons _ (.cons _ (.refl _))))))))))).trans (hsub_pick [7, 7] rfl)), ?_⟩
                refine H_done (by kernel_rfl) ?_
                exact ⟨(D3, _, g0n, g1n), ⟨h3, by have := w3; simp only [Bool.false_eq_true, if_false, if_true] at this; rw [wX_set hx (by omega), wX_set hy (by omega)] at this; exact this, hg0n, hg1n⟩, ⟨rfl, rfl, rfl, rfl, rfl, rfl, rfl, rfl, trivial⟩, ((hsub (.cons_cons _ (.cons_cons _ (.cons_cons _ (.cons_cons _ (.cons_cons _ (.cons _ (.cons _ (.cons _ (.cons _ (.refl _))))))))))).trans (hsub_pick [2, 2, 2, 2, 2] rfl))⟩
          · refine op_y (y_load rfl ag_26 (sees 2 0 rfl) rfl) rfl ?_
            refine ⟨((hsub (.cons_cons _ (.cons_cons _ (.cons _ (.cons _ (.cons _ (.cons _ (.cons _ (.cons _ (.refl _)))))))))).trans (hsub_pick [6, 6] rfl)), ?_⟩
            refine H_two 1 8 rfl rfl (by kernel_rfl) rfl rfl ?_ ?_
            · refine op_y (y_load rfl ag_26 (sees 2 0 rfl) rfl) rfl ?_
              refine ⟨((hsub (.cons_cons _ (.cons_cons _ (.cons _ (.cons _ (.cons _ (.cons _ (.cons _ (.cons _ (.refl _)))))))))).trans (hsub_pick [6, 6] rfl)), ?_⟩
              refine H_two 4 8 rfl rfl (by kernel_rfl) rfl rfl ?_ ?_
              · refine op_append (gs := g0) (len := k) (m := 1) (xs := bs (prX la k).flatten) (vs := bs (sec2 x)) 3 rfl rfl rfl hg0 (src_slice (sees 0 0 rfl) (by simp [bs_length, sec2_len]) (bs_whole0 _ (by rw [sec2_len]))) (by rw [bs_length, sec2_len]) (bs_one _) Try.underlying26 ni_26 sz_37 by_37 (by decide) zl_37 rfl (by omega) rfl (fun g0n hg0n => ?_)
                rw [← bs_append, show (prX la k).flatten ++ sec2 x = (prX la (k + 1)).flatten from by rw [prX_succ hx]; simp] at hg0n ⊢
                refine ⟨((hsub (.cons_cons _ (.cons_cons _ (.cons _ (.cons _ (.cons _ (.cons _ (.cons _ (.cons _ (.refl _)))))))))).trans (hsub_pick [6, 6] rfl)), ?_⟩
                refine H_y 10 rfl (by kernel_rfl) (by kernel_rfl) (by kernel_rfl) (((hsub (.cons_cons _ (.cons_cons _ (.cons _ (.cons _ (.cons _ (.cons _ (.cons _ (.cons _ (.refl _)))))))))).trans (hsub_pick [6, 6] rfl))) rfl (y_indexA rfl rfl Try.underlying27 sz_26 (by omega) (by omega) (show _ = 0 from rfl)) rfl ?_
                refine H_one 8 rfl (by kernel_rfl) rfl (op_buildSlice (vs := [(0, _)]) rfl Try.underlying26 sz_37 zl_37 rfl (by decide) (fill_one rfl (by rw [bs_length, sec2_len]) rfl) rfl (fun B27 => ?_))
                refine ⟨((hsub (.cons_cons _ (.cons_cons _ (.cons _ (.cons _ (.cons _ (.cons _ (.cons _ (.cons _ (.cons _ (.refl _))))))))))).trans (hsub_pick [7, 7] rfl)), ?_⟩
                refine H_one 9 rfl (by kernel_rfl) rfl (op_append (gs := g1) (len := k) (m := 1) (xs := bs (prX lb k).flatten) (vs := bs (sec2 y)) 5 rfl rfl rfl hg1 (src_slice (sees 0 0 rfl) (by simp [bs_length, sec2_len]) (bs_whole0 _ (by rw [sec2_len]))) (by rw [bs_length, sec2_len]) (bs_one _) Try.underlying26 ni_26 sz_37 by_37 (by decide) zl_37 rfl (by omega) rfl (fun g1n hg1n => ?_))
                rw [← bs_append, show (prX lb k).flatten ++ sec2 y = (prX lb (k + 1)).flatten from by rw [prX_succ hy]; simp] at hg1n ⊢
                refine ⟨((hsub (.cons_cons _ (.cons_cons _ (.cons _ (.cons _ (.cons _ (.cons _ (.cons _ (.cons _ (.cons _ (.refl _))))))))))).trans (hsub_pick [7, 7] rfl)), ?_⟩
                refine H_one 11 rfl (by kernel_rfl) rfl (op_store1 3 0 rfl rfl (one_slV _ _) sz_26 rfl (Nat.le_of_ble_eq_true rfl) ?_)
                refine ⟨((hsub (.cons_cons _ (.cons_cons _ (.cons _ (.cons _ (.cons _ (.cons _ (.cons _ (.cons _ (.cons _ (.refl _))))))))))).trans (hsub_pick [7, 7] rfl)), ?_⟩
                refine H_y 12 rfl (by kernel_rfl) (by kernel_rfl) (by kernel_rfl) (((hsub (.cons_cons _ (.cons_cons _ (.cons _ (.cons _ (.cons _ (.cons _ (.cons _ (.cons _ (.cons _ (.refl _))))))))))).trans (hsub_pick [7, 7] rfl))) rfl (y_indexA rfl rfl Try.underlying27 sz_26 (by omega) (by omega) (show _ = 1 from rfl)) rfl ?_
                refine H_one 13 rfl (by kernel_rfl) rfl (op_store1 3 0 rfl rfl (one_slV _ _) sz_26 rfl (Nat.le_of_ble_eq_true rfl) ?_)
                refine ⟨((hsub (.cons_cons _ (.cons_cons _ (.cons _ (.cons _ (.cons _ (.cons _ (.cons _ (.cons _ (.cons _ (.refl _))))))))))).trans (hsub_pick [7, 7] rfl)), ?_⟩
                refine H_done (by kernel_rfl) ?_
                exact ⟨(D3, _, g0n, g1n), ⟨h3, by have := w3; simp only [Bool.false_eq_true, if_false, if_true] at this; rw [wX_set hx (by omega), wX_set hy (by omega)] at this; exact this, hg0n, hg1n⟩, ⟨rfl, rfl, rfl, rfl, rfl, rfl, rfl, rfl, trivial⟩, ((hsub (.cons_cons _ (.cons_cons _ (.cons_cons _ (.cons_cons _ (.cons_cons _ (.cons _ (.cons _ (.cons _ (.cons _ (.refl _))))))))))).trans (hsub_pick [2, 2, 2, 2, 2] rfl))⟩
              · refine op_buildSlice (vs := [(0, _)]) rfl Try.underlying26 sz_37 zl_37 rfl (by decide) (fill_one rfl (by rw [bs_length, sec2_len]) rfl) rfl (fun B28 => ?_)
                refine ⟨((hsub (.cons_cons _ (.cons_cons _ (.cons _ (.cons _ (.cons _ (.cons _ (.cons _ (.cons _ (.cons _ (.refl _))))))))))).trans (hsub_pick [7, 7] rfl)), ?_⟩
                refine H_one 4 rfl (by kernel_rfl) rfl (op_append (gs := g0) (len := k) (m := 1) (xs := bs (prX la k).flatten) (vs := bs (sec2 x)) 4 rfl rfl rfl hg0 (src_slice (sees 1 0 rfl) (by simp [bs_length, sec2_len]) (bs_whole0 _ (by rw [sec2_len]))) (by rw [bs_length, sec2_len]) (bs_one _) Try.underlying26 ni_26 sz_37 by_37 (by decide) zl_37 rfl (by omega) rfl (fun g0n hg0n => ?_))
                rw [← bs_append, show (prX la k).flatten ++ sec2 x = (prX la (k + 1)).flatten from by rw [prX_succ hx]; simp] at hg0n ⊢
                refine ⟨((hsub (.cons_cons _ (.cons_cons _ (.cons _ (.cons _ (.cons _ (.cons _ (.cons _ (.cons _ (.cons _ (.refl _))))))))))).trans (hsub_pick [7, 7] rfl)), ?_⟩
                refine H_y 10 rfl (by kernel_rfl) (by kernel_rfl) (by kernel_rfl) (((hsub (.cons_cons _ (.cons_cons _ (.cons _ (.cons _ (.cons _ (.cons _ (.cons _ (.cons _ (.cons _ (.refl _))))))))))).trans (hsub_pick [7, 7] rfl))) rfl (y_indexA rfl rfl Try.underlying27 sz_26 (by omega) (by omega) (show _ = 0 from rfl)) rfl ?_
                refine H_one 9 rfl (by kernel_rfl) rfl (op_append (gs := g1) (len := k) (m := 1) (xs := bs (prX lb k).flatten) (vs := bs (sec2 y)) 5 rfl rfl rfl hg1 (src_slice (sees 0 0 rfl) (by simp [bs_length, sec2_len]) (bs_whole0 _ (by rw [sec2_len]))) (by rw [bs_length, sec2_len]) (bs_one _) Try.underlying26 ni_26 sz_37 by_37 (by decide) zl_37 rfl (by omega) rfl (fun g1n hg1n => ?_))
                rw [← bs_append, show (prX lb k).flatten ++ sec2 y = (prX lb (k + 1)).flatten from by rw [prX_succ hy]; simp] at hg1n ⊢
                refine ⟨((hsub (.cons_cons _ (.cons_cons _ (.cons _ (.cons _ (.cons _ (.cons _ (.cons _ (.cons _ (.cons _ (.refl _))))))))))).trans (hsub_pick [7, 7] rfl)), ?_⟩
                refine H_one 11 rfl (by kernel_rfl) rfl (op_store1 3 0 rfl rfl (one_slV _ _) sz_26 rfl (Nat.le_of_ble_eq_true rfl) ?_)
                refine ⟨((hsub (.cons_cons _ (.cons_cons _ (.cons _ (.cons _ (.cons _ (.cons _ (.cons _ (.cons _ (.cons _ (.refl _))))))))))).trans (hsub_pick [7, 7] rfl)), ?_⟩
                refine H_y 12 rfl (by kernel_rfl) (by kernel_rfl) (by kernel_rfl) (((hsub (.cons_cons _ (.cons_cons _ (.cons _ (.cons _ (.cons _ (.cons _ (.cons _ (.cons _ (.cons _ (.refl _))))))))))).trans (hsub_pick [7, 7] rfl))) rfl (y_indexA rfl rfl Try.underlying27 sz_26 (by omega) (by omega) (show _ = 1 from rfl)) rfl ?_
                refine H_one 13 rfl (by kernel_rfl) rfl (op_store1 3 0 rfl rfl (one_slV _ _) sz_26 rfl (Nat.le_of_ble_eq_true rfl) ?_)
                refine ⟨((hsub (.cons_cons _ (.cons_cons _ (.cons _ (.cons _ (.cons _ (.cons _ (.cons _ (.cons _ (.cons _ (.refl _))))))))))).trans (hsub_pick [7, 7] rfl)), ?_⟩
                refine H_done (by kernel_rfl) ?_
                exact ⟨(D3, _, g0n, g1n), ⟨h3, by have := w3; simp only [Bool.false_eq_true, if_false, if_true] at this; rw [wX_set hx (by omega), wX_set hy (by omega)] at this; exact this, hg0n, hg1n⟩, ⟨rfl, rfl, rfl, rfl, rfl, rfl, rfl, rfl, trivial⟩, ((hsub (.cons_cons _ (.cons_cons _ (.cons_cons _ (.cons_cons _ (.cons_cons _ (.cons _ (.cons _ (.cons _ (.cons _ (.refl _))))))))))).trans (hsub_pick [2, 2, 2, 2, 2] rfl))⟩
            · refine op_buildSlice (vs := [(0, _)]) rfl Try.underlying26 sz_37 zl_37 rfl (by decide) (fill_one rfl (by rw [bs_length, sec2_len]) rfl) rfl (fun B29 => ?_)
              refine ⟨((hsub (.cons_cons _ (.cons_cons _ (.cons _ (.cons _ (.cons _ (.cons _ (.cons _ (.cons _ (.cons _ (.refl _))))))))))).trans (hsub_pick [7, 7] rfl)), ?_⟩
              refine H_one 1 rfl (by kernel_rfl) rfl (op_y (y_load rfl ag_26 (sees 3 0 rfl) rfl) rfl ?_)
              refine ⟨((hsub (.cons_cons _ (.cons_cons _ (.cons _ (.cons _ (.cons _ (.cons _ (.cons _ (.cons _ (.cons _ (.refl _))))))))))).trans (hsub_pick [7, 7] rfl)), ?_⟩
              refine H_one 4 rfl (by kernel_rfl) rfl (op_append (gs := g0) (len := k) (m := 1) (xs := bs (prX la k).flatten) (vs := bs (sec2 x)) 4 rfl rfl rfl hg0 (src_slice (sees 1 0 rfl) (by simp [bs_length, sec2_len]) (bs_whole0 _ (by rw [sec2_len]))) (by rw [bs_length, sec2_len]) (bs_one _) Try.underlying26 ni_26 sz_37 by_37 (by decide) zl_37 rfl (by omega) rfl (fun g0n hg0n => ?_))
              rw [← bs_append, show (prX la k).flatten ++ sec2 x = (prX la (k + 1)).flatten from by rw [prX_succ hx]; simp] at hg0n ⊢
              refine ⟨((hsub (.cons_cons _ (.cons_cons _ (.cons _ (.cons _ (.cons _ (.cons _ (.cons _ (.cons _ (.cons _ (.refl _))))))))))).trans (hsub_pick [7, 7] rfl)), ?_⟩
              refine H_y 10 rfl (by kernel_rfl) (by kernel_rfl) (by kernel_rfl) (((hsub (.cons_cons _ (.cons_cons _ (.cons _ (.cons _ (.cons _ (.cons _ (.cons _ (.cons _ (.cons _ (.refl _))))))))))).trans (hsub_pick [7, 7] rfl))) rfl (y_indexA rfl rfl Try.underlying27 sz_26 (by omega) (by omega) (show _ = 0 from rfl)) rfl ?_
              refine H_one 9 rfl (by kernel_rfl) rfl (op_append (gs := g1) (len := k) (m := 1) (xs := bs (prX lb k).flatten) (vs := bs (sec2 y)) 5 rfl rfl rfl hg1 (src_slice (sees 0 0 rfl) (by simp [bs_length, sec2_len]) (bs_whole0 _ (by rw [sec2_len]))) (by rw [bs_length, sec2_len]) (bs_one _) Try.underlying26 ni_26 sz_37 by_37 (by decide) zl_37 rfl (by omega) rfl (fun g1n hg1n => ?_))
              rw [← bs_append, show (prX lb k).flatten ++ sec2 y = (prX lb (k + 1)).flatten from by rw [prX_succ hy]; simp] at hg1n ⊢
              refine ⟨((hsub (.cons_cons _ (.cons_cons _ (.cons _ (.cons _ (.cons _ (.cons _ (.cons _ (.cons _ (.cons _ (.refl _))))))))))).trans (hsub_pick [7, 7] rfl)), ?_⟩
              refine H_one 11 rfl (by kernel_rfl) rfl (op_store1 3 0 rfl rfl (one_slV _ _) sz_26 rfl (Nat.le_of_ble_eq_true rfl) ?_)
              refine ⟨((hsub (.cons_cons _ (.cons_cons _ (.cons _ (.cons _ (.cons _ (.cons _ (.cons _ (.cons _ (.cons _ (.refl _))))))))))).trans (hsub_pick [7, 7] rfl)), ?_⟩
              refine H_y 12 rfl (by kernel_rfl) (by kernel_rfl) (by kernel_rfl) (((hsub (.cons_cons _ (.cons_cons _ (.cons _ (.cons _ (.cons _ (.cons _ (.cons _ (.cons _ (.cons _ (.refl _))))))))))).trans (hsub_pick [7, 7] rfl))) rfl (y_indexA rfl rfl Try.underlying27 sz_26 (by omega) (by omega) (show _ = 1 from rfl)) rfl ?_
              refine H_one 13 rfl (by kernel_rfl) rfl (op_store1 3 0 rfl rfl (one_slV _ _) sz_26 rfl (Nat.le_of_ble_eq_true rfl) ?_)
              refine ⟨((hsub (.cons_cons _ (.cons_cons _ (.cons _ (.cons _ (.cons _ (.cons _ (.cons _ (.cons _ (.cons _ (.refl _))))))))))).trans (hsub_pick [7, 7] rfl)), ?_⟩
              refine H_done (by kernel_rfl) ?_
              exact ⟨(D3, _, g0n, g1n), ⟨h3, by have := w3; simp only [Bool.false_eq_true, if_false, if_true] at this; rw [wX_set hx (by omega), wX_set hy (by omega)] at this; exact this, hg0n, hg1n⟩, ⟨rfl, rfl, rfl, rfl, rfl, rfl, rfl, rfl, trivial⟩, ((hsub (.cons_cons _ (.cons_cons _ (.cons_cons _ (.cons_cons _ (.cons_cons _ (.cons _ (.cons _ (.cons _ (.cons _ (.refl _))))))))))).trans (hsub_pick [2, 2, 2, 2, 2] rfl))⟩
          · refine op_buildSlice (vs := [(0, _)]) rfl Try.underlying26 sz_37 zl_37 rfl (by decide) (fill_one rfl (by rw [bs_length, sec2_len]) rfl) rfl (fun B30 => ?_)
            refine ⟨((hsub (.cons_cons _ (.cons_cons _ (.cons _ (.cons _ (.cons _ (.cons _ (.cons _ (.cons _ (.cons _ (.refl _))))))))))).trans (hsub_pick [7, 7] rfl)), ?_⟩
            refine H_two 1 6 rfl rfl (by kernel_rfl) rfl rfl ?_ ?_
            · refine op_y (y_load rfl ag_26 (sees 3 0 rfl) rfl) rfl ?_
              refine ⟨((hsub (.cons_cons _ (.cons_cons _ (.cons _ (.cons _ (.cons _ (.cons _ (.cons _ (.cons _ (.cons _ (.refl _))))))))))).trans (hsub_pick [7, 7] rfl)), ?_⟩
              refine H_two 4 6 rfl rfl (by kernel_rfl) rfl rfl ?_ ?_
              · refine op_append (gs := g0) (len := k) (m := 1) (xs := bs (prX la k).flatten) (vs := bs (sec2 x)) 4 rfl rfl rfl hg0 (src_slice (sees 1 0 rfl) (by simp [bs_length, sec2_len]) (bs_whole0 _ (by rw [sec2_len]))) (by rw [bs_length, sec2_len]) (bs_one _) Try.underlying26 ni_26 sz_37 by_37 (by decide) zl_37 rfl (by omega) rfl (fun g0n hg0n => ?_)
                rw [← bs_append, show (prX la k).flatten ++ sec2 x = (prX la (k + 1)).flatten from by rw [prX_succ hx]; simp] at hg0n ⊢
                refine ⟨((hsub (.cons_cons _ (.cons_cons _ (.cons _ (.cons _ (.cons _ (.cons _ (.cons _ (.cons _ (.cons _ (.refl _))))))))))).trans (hsub_pick [7, 7] rfl)), ?_⟩
                refine H_one 6 rfl (by kernel_rfl) rfl (op_y (y_load rfl ag_26 (sees 3 0 rfl) rfl) rfl ?_)
                refine ⟨((hsub (.cons_cons _ (.cons_cons _ (.cons _ (.cons _ (.cons _ (.cons _ (.cons _ (.cons _ (.cons _ (.refl _))))))))))).trans (hsub_pick [7, 7] rfl)), ?_⟩
                refine H_y 10 rfl (by kernel_rfl) (by kernel_rfl) (by kernel_rfl) (((hsub (.cons_cons _ (.cons_cons _ (.cons _ (.cons _ (.cons _ (.cons _ (.cons _ (.cons _ (.cons _ (.refl _))))))))))).trans (hsub_pick [7, 7] rfl))) rfl (y_indexA rfl rfl Try.underlying27 sz_26 (by omega) (by omega) (show _ = 0 from rfl)) rfl ?_
                refine H_one 9 rfl (by kernel_rfl) rfl (op_append (gs := g1) (len := k) (m := 1) (xs := bs (prX lb k).flatten) (vs := bs (sec2 y)) 5 rfl rfl rfl hg1 (src_slice (sees 0 0 rfl) (by simp [bs_length, sec2_len]) (bs_whole0 _ (by rw [sec2_len]))) (by rw [bs_length, sec2_len]) (bs_one _) Try.underlying26 ni_26 sz_37 by_37 (by decide) zl_37 rfl (by omega) rfl (fun g1n hg1n => ?_))
                rw [← bs_append, show (prX lb k).flatten ++ sec2 y = (prX lb (k + 1)).flatten from by rw [prX_succ hy]; simp] at hg1n ⊢
                refine ⟨((hsub (.cons_cons _ (.cons_cons _ (.cons _ (.cons _ (.cons _ (.cons _ (.cons _ (.cons _ (.cons _ (.refl _))))))))))).trans (hsub_pick [7, 7] rfl)), ?_⟩
                refine H_one 11 rfl (by kernel_rfl) rfl (op_store1 3 0 rfl rfl (one_slV _ _) sz_26 rfl (Nat.le_of_ble_eq_true rfl) ?_)
                refine ⟨((hsub (.cons_cons _ (.cons_cons _ (.cons _ (.cons _ (.cons _ (.cons _ (.cons _ (.cons _ (.cons _ (.refl _))))))))))).trans (hsub_pick [7, 7] rfl)), ?_⟩
                refine H_y 12 rfl (by kernel_rfl) (by kernel_rfl) (by kernel_rfl) (((hsub (.cons_cons _ (.cons_cons _ (.cons _ (.cons _ (.cons _ (.cons _ (.cons _ (.cons _ (.cons _ (.refl _))))))))))).trans (hsub_pick [7, 7] rfl))) rfl (y_indexA rfl rfl Try.underlying27 sz_26 (by omega) (by omega) (show _ = 1 from rfl)) rfl ?_
                refine H_one 13 rfl (by kernel_rfl) rfl (op_store1 3 0 rfl rfl (one_slV _ _) sz_26 rfl (Nat.le_of_ble_eq_true rfl) ?_)
                refine ⟨((hsub (.cons_cons _ (.cons_cons _ (.cons _ (.cons _ (.cons _ (.cons _ (.cons _ (.cons _ (.cons _ (.refl _))))))))))).trans (hsub_pick [7, 7] rfl)), ?_⟩
                refine H_done (by kernel_rfl) ?_
                exact ⟨(D3, _, g0n, g1n), ⟨h3, by have := w3; simp only [Bool.false_eq_true, if_false, if_true] at this; rw [wX_set hx (by omega), wX_set hy (by omega)] at this; exact this, hg0n, hg1n⟩, ⟨rfl, rfl, rfl, rfl, rfl, rfl, rfl, rfl, trivial⟩, ((hsub (.cons_cons _ (.cons_cons _ (.cons_cons _ (.cons_cons _ (.cons_cons _ (.cons _ (.cons _ (.cons _ (.cons _ (.refl _))))))))))).trans (hsub_pick [2, 2, 2, 2, 2] rfl))⟩
              · refine op_y (y_load rfl ag_26 (sees 3 0 rfl) rfl) rfl ?_
                refine ⟨((hsub (.cons_cons _ (.cons_cons _ (.cons _ (.cons _ (.cons _ (.cons _ (.cons _ (.cons _ (.cons _ (.refl _))))))))))).trans (hsub_pick [7, 7] rfl)), ?_⟩
                refine H_one 4 rfl (by kernel_rfl) rfl (op_append (gs := g0) (len := k) (m := 1) (xs := bs (prX la k).flatten) (vs := bs (sec2 x)) 4 rfl rfl rfl hg0 (src_slice (sees 1 0 rfl) (by simp [bs_length, sec2_len]) (bs_whole0 _ (by rw [sec2_len]))) (by rw [bs_length, sec2_len]) (bs_one _) Try.underlying26 ni_26 sz_37 by_37 (by decide) zl_37 rfl (by omega) rfl (fun g0n hg0n => ?_))
                rw [← bs_append, show (prX la k).flatten ++ sec2 x = (prX la (k + 1)).flatten from by rw [prX_succ hx]; simp] at hg0n ⊢
                refine ⟨((hsub (.cons_cons _ (.cons_cons _ (.cons _ (.cons _ (.cons _ (.cons _ (.cons _ (.cons _ (.cons _ (.refl _))))))))))).trans (hsub_pick [7, 7] rfl)), ?_⟩
                refine H_y 10 rfl (by kernel_rfl) (by kernel_rfl) (by kernel_rfl) (((hsub (.cons_cons _ (.cons_cons _ (.cons _ (.cons _ (.cons _ (.cons _ (.cons _ (.cons _ (.cons _ (.refl _))))))))))).trans (hsub_pick [7, 7] rfl))) rfl (y_indexA rfl rfl Try.underlying27 sz_26 (by omega) (by omega) (show _ = 0 from rfl)) rfl ?_
                refine H_one 9 rfl (by kernel_rfl) rfl (op_append (gs := g1) (len := k) (m := 1) (xs := bs (prX lb k).flatten) (vs := bs (sec2 y)) 5 rfl rfl rfl hg1 (src_slice (sees 0 0 rfl) (by simp [bs_length, sec2_len]) (bs_whole0 _ (by rw [sec2_len]))) (by rw [bs_length, sec2_len]) (bs_one _) Try.underlying26 ni_26 sz_37 by_37 (by decide) zl_37 rfl (by omega) rfl (fun g1n hg1n => ?_))
                rw [← bs_append, show (prX lb k).flatten ++ sec2 y = (prX lb (k + 1)).flatten from by rw [prX_succ hy]; simp] at hg1n ⊢
                refine ⟨((hsub (.cons_cons _ (.cons_cons _ (.cons _ (.cons _ (.cons _ (.cons _ (.cons _ (.cons _ (.cons _ (.refl _))))))))))).trans (hsub_pick [7, 7] rfl)), ?_⟩
                refine H_one 11 rfl (by kernel_rfl) rfl (op_store1 3 0 rfl rfl (one_slV _ _) sz_26 rfl (Nat.le_of_ble_eq_true rfl) ?_)
                refine ⟨((hsub (.cons_cons _ (.cons_cons _ (.cons _ (.cons _ (.cons _ (.cons _ (.cons _ (.cons _ (.cons _ (.refl _))))))))))).trans (hsub_pick [7, 7] rfl)), ?_⟩
                refine H_y 12 rfl (by kernel_rfl) (by kernel_rfl) (by kernel_rfl) (((hsub (.cons_cons _ (.cons_cons _ (.cons _ (.cons _ (.cons _ (.cons _ (.cons _ (.cons _ (.cons _ (.refl _))))))))))).trans (hsub_pick [7, 7] rfl))) rfl (y_indexA rfl rfl Try.underlying27 sz_26 (by omega) (by omega) (show _ = 1 from rfl)) rfl ?_
                refine H_one 13 rfl (by kernel_rfl) rfl (op_store1 3 0 rfl rfl (one_slV _ _) sz_26 rfl (Nat.le_of_ble_eq_true rfl) ?_)
                refine ⟨((hsub (.cons_cons _ (.cons_cons _ (.cons _ (.cons _ (.cons _ (.cons _ (.cons _ (.cons _ (.cons _ (.refl _))))))))))).trans (hsub_pick [7, 7] rfl)), ?_⟩
                refine H_done (by kernel_rfl) ?_
                exact ⟨(D3, _, g0n, g1n), ⟨h3, by have := w3; simp only [Bool.false_eq_true, if_false, if_true] at this; rw [wX_set hx (by omega), wX_set hy (by omega)] at this; exact this, hg0n, hg1n⟩, ⟨rfl, rfl, rfl, rfl, rfl, rfl, rfl, rfl, trivial⟩, ((hsub (.cons_cons _ (.cons_cons _ (.cons_cons _ (.cons_cons _ (.cons_cons _ (.cons _ (.cons _ (.cons _ (.cons _ (.refl _))))))))))).trans (hsub_pick [2, 2, 2, 2, 2] rfl))⟩
            · refine op_y (y_load rfl ag_26 (sees 3 0 rfl) rfl) rfl ?_
              refine ⟨((hsub (.cons_cons _ (.cons_cons _ (.cons _ (.cons _ (.cons _ (.cons _ (.cons _ (.cons _ (.cons _ (.refl _))))))))))).trans (hsub_pick [7, 7] rfl)), ?_⟩
              refine H_one 1 rfl (by kernel_rfl) rfl (op_y (y_load rfl ag_26 (sees 3 0 rfl) rfl) rfl ?_)
              refine ⟨((hsub (.cons_cons _ (.cons_cons _ (.cons _ (.cons _ (.cons _ (.cons _ (.cons _ (.cons _ (.cons _ (.refl _))))))))))).trans (hsub_pick [7, 7] rfl)), ?_⟩
              refine H_one 4 rfl (by kernel_rfl) rfl (op_append (gs := g0) (len := k) (m := 1) (xs := bs (prX la k).flatten) (vs := bs (sec2 x)) 4 rfl rfl rfl hg0 (src_slice (sees 1 0 rfl) (by simp [bs_length, sec2_len]) (bs_whole0 _ (by rw [sec2_len]))) (by rw [bs_length, sec2_len]) (bs_one _) Try.underlying26 ni_26 sz_37 by_37 (by decide) zl_37 rfl (by omega) rfl (fun g0n hg0n => ?_))
              rw [← bs_append, show (prX la k).flatten ++ sec2 x = (prX la (k + 1)).flatten from by rw [prX_succ hx]; simp] at hg0n ⊢
              refine ⟨((hsub (.cons_cons _ (.cons_cons _ (.cons _ (.cons _ (.cons _ (.cons _ (.cons _ (.cons _ (.cons _ (.refl _))))))))))).trans (hsub_pick [7, 7] rfl)), ?_⟩
              refine H_y 10 rfl (by kernel_rfl) (by kernel_rfl) (by kernel_rfl) (((hsub (.cons_cons _ (.cons_cons _ (.cons _ (.cons _ (.cons _ (.cons _ (.cons _ (.cons _ (.cons _ (.refl _))))))))))).trans (hsub_pick [7, 7] rfl))) rfl (y_indexA rfl rfl Try.underlying27 sz_26 (by omega) (by omega) (show _ = 0 from rfl)) rfl ?_
              refine H_one 9 rfl (by kernel_rfl) rfl (op_append (gs := g1) (len := k) (m := 1) (xs := bs (prX lb k).flatten) (vs := bs (sec2 y)) 5 rfl rfl rfl hg1 (src_slice (sees 0 0 rfl) (by simp [bs_length, sec2_len]) (bs_whole0 _ (by rw [sec2_len]))) (by rw [bs_length, sec2_len]) (bs_one _) Try.underlying26 ni_26 sz_37 by_37 (by decide) zl_37 rfl (by omega) rfl (fun g1n hg1n => ?_))
              rw [← bs_append, show (prX lb k).flatten ++ sec2 y = (prX lb (k + 1)).flatten from by rw [prX_succ hy]; simp] at hg1n ⊢
              refine ⟨((hsub (.cons_cons _ (.cons_cons _ (.cons _ (.cons _ (.cons _ (.cons _ (.cons _ (.cons _ (.cons _ (.refl _))))))))))).trans (hsub_pick [7, 7] rfl)), ?_⟩
              refine H_one 11 rfl (by kernel_rfl) rfl (op_store1 3 0 rfl rfl (one_slV _ _) sz_26 rfl (Nat.le_of_ble_eq_true rfl) ?_)
              refine ⟨((hsub (.cons_cons _ (.cons_cons _ (.cons _ (.cons _ (.cons _ (.cons _ (.cons _ (.cons _ (.cons _ (.refl _))))))))))).trans (hsub_pick [7, 7] rfl)), ?_⟩
              refine H_y 12 rfl (by kernel_rfl) (by kernel_rfl) (by kernel_rfl) (((hsub (.cons_cons _ (.cons_cons _ (.cons _ (.cons _ (.cons _ (.cons _ (.cons _ (.cons _ (.cons _ (.refl _))))))))))).trans (hsub_pick [7, 7] rfl))) rfl (y_indexA rfl rfl Try.underlying27 sz_26 (by omega) (by omega) (show _ = 1 from rfl)) rfl ?_
              refine H_one 13 rfl (by kernel_rfl) rfl (op_store1 3 0 rfl rfl (one_slV _ _) sz_26 rfl (Nat.le_of_ble_eq_true rfl) ?_)
              refine ⟨((hsub (.cons_cons _ (.cons_cons _ (.cons _ (.cons _ (.cons _ (.cons _ (.cons _ (.cons _ (.cons _ (.refl _))))))))))).trans (hsub_pick [7, 7] rfl)), ?_⟩
              refine H_done (by kernel_rfl) ?_
              exact ⟨(D3, _, g0n, g1n), ⟨h3, by have := w3; simp only [Bool.false_eq_true, if_false, if_true] at this; rw [wX_set hx (by omega), wX_set hy (by omega)] at this; exact this, hg0n, hg1n⟩, ⟨rfl, rfl, rfl, rfl, rfl, rfl, rfl, rfl, trivial⟩, ((hsub (.cons_cons _ (.cons_cons _ (.cons_cons _ (.cons_cons _ (.cons_cons _ (.cons _ (.cons _ (.cons _ (.cons _ (.refl _))))))))))).trans (hsub_pick [2, 2, 2, 2, 2] rfl))⟩
        · refine op_y (y_load rfl ag_26 (sees 1 0 rfl) rfl) rfl ?_
          refine ⟨((hsub (.cons_cons _ (.cons_cons _ (.cons _ (.cons _ (.cons _ (.cons _ (.cons _ (.refl _))))))))).trans (hsub_pick [5, 5] rfl)), ?_⟩
          refine H_many [1, 3, 8] (by kernel_rfl) (by decide) ⟨⟨_, rfl, rfl, ?_⟩, ⟨_, rfl, rfl, ?_⟩, ⟨_, rfl, rfl, ?_⟩, trivial⟩
          · refine op_y (y_load rfl ag_26 (sees 1 0 rfl) rfl) rfl ?_
            refine ⟨((hsub (.cons_cons _ (.cons_cons _ (.cons _ (.cons _ (.cons _ (.cons _ (.cons _ (.refl _))))))))).trans (hsub_pick [5, 5] rfl)), ?_⟩
            refine H_two 3 8 rfl rfl (by kernel_rfl) rfl rfl ?_ ?_
            · refine op_buildSlice (vs := [(0, _)]) rfl Try.underlying26 sz_37 zl_37 rfl (by decide) (fill_one rfl (by rw [bs_length, sec2_len]) rfl) rfl (fun B31 => ?_)
              refine ⟨((hsub (.cons_cons _ (.cons_cons _ (.cons _ (.cons _ (.cons _ (.cons _ (.cons _ (.cons _ (.refl _)))))))))).trans (hsub_pick [6, 6] rfl)), ?_⟩
              refine H_two 4 8 rfl rfl (by kernel_rfl) rfl rfl ?_ ?_
              · refine op_append (gs := g0) (len := k) (m := 1) (xs := bs (prX la k).flatten) (vs := bs (sec2 x)) 3 rfl rfl rfl hg0 (src_slice (sees 0 0 rfl) (by simp [bs_length, sec2_len]) (bs_whole0 _ (by rw [sec2_len]))) (by rw [bs_length, sec2_len]) (bs_one _) Try.underlying26 ni_26 sz_37 by_37 (by decide) zl_37 rfl (by omega) rfl (fun g0n hg0n => ?_)
                rw [← bs_append, show (prX la k).flatten ++ sec2 x = (prX la (k + 1)).flatten from by rw [prX_succ hx]; simp] at hg0n ⊢
                refine ⟨((hsub (.cons_cons _ (.cons_cons _ (.cons _ (.cons _ (.cons _ (.cons _ (.cons _ (.cons _ (.refl _)))))))))).trans (hsub_pick [6, 6] rfl)), ?_⟩
                refine H_y 10 rfl (by kernel_rfl) (by kernel_rfl) (by kernel_rfl) (((hsub (.cons_cons _ (.cons_cons _ (.cons _ (.cons _ (.cons _ (.cons _ (.cons _ (.cons _ (.refl _)))))))))).trans (hsub_pick [6, 6] rfl))) rfl (y_indexA rfl rfl Try.underlying27 sz_26 (by omega) (by omega) (show _ = 0 from rfl)) rfl ?_
                refine H_one 8 rfl (by kernel_rfl) rfl (op_buildSlice (vs := [(0, _)]) rfl Try.underlying26 sz_37 zl_37 rfl (by decide) (fill_one rfl (by rw [bs_length, sec2_len]) rfl) rfl (fun B32 => ?_))
                refine ⟨((hsub (.cons_cons _ (.cons_cons _ (.cons _ (.cons _ (.cons _ (.cons _ (.cons _ (.cons _ (.cons _ (.refl _))))))))))).trans (hsub_pick [7, 7] rfl)), ?_⟩
                refine H_one 9 rfl (by kernel_rfl) rfl (op_append (gs := g1) (len := k) (m := 1) (xs := bs (prX lb k).flatten) (vs := bs (sec2 y)) 5 rfl rfl rfl hg1 (src_slice (sees 0 0 rfl) (by simp [bs_length, sec2_len]) (bs_whole0 _ (by rw [sec2_len]))) (by rw [bs_length, sec2_len]) (bs_one _) Try.underlying26 ni_26 sz_37 by_37 (by decide) zl_37 rfl (by omega) rfl (fun g1n hg1n => ?_))
                rw [← bs_append, show (prX lb k).flatten ++ sec2 y = (prX lb (k + 1)).flatten from by rw [prX_succ hy]; simp] at hg1n ⊢
                refine ⟨((hsub (.cons_cons _ (.cons_cons _ (.cons _ (.cons _ (.cons _ (.cons _ (.cons _ (.cons _ (.cons _ (.refl _))))))))))).trans (hsub_pick [7, 7] rfl)), ?_⟩
                refine H_one 11 rfl (by kernel_rfl) rfl (op_store1 3 0 rfl rfl (one_slV _ _) sz_26 rfl (Nat.le_of_ble_eq_true rfl) ?_)
                refine ⟨((hsub (.cons_cons _ (.cons_cons _ (.cons _ (.cons _ (.cons _ (.cons _ (.cons _ (.cons _ (.cons _ (.refl _))))))))))).trans (hsub_pick [7, 7] rfl)), ?_⟩
                refine H_y 12 rfl (by kernel_rfl) (by kernel_rfl) (by kernel_rfl) (((hsub (.cons_cons _ (.cons_cons _ (.cons _ (.cons _ (.cons _ (.cons _ (.cons _ (.cons _ (.cons _ (.refl _))))))))))).trans (hsub_pick [7, 7] rfl))) rfl (y_indexA rfl rfl Try.underlying27 sz_26 (by omega) (by omega) (show _ = 1 from rfl)) rfl ?_
                refine H_one 13 rfl (by kernel_rfl) rfl (op_store1 3 0 rfl rfl (one_slV _ _) sz_26 rfl (Nat.le_of_ble_eq_true rfl) ?_)
                refine ⟨((hsub (.cons_cons _ (.cons_cons _ (.cons _ (.cons _ (.cons _ (.cons _ (.cons _ (.cons _ (.cons _ (.refl _))))))))))).trans (hsub_pick [7, 7] rfl)), ?_⟩
                refine H_done (by kernel_rfl) ?_
                exact ⟨(D3, _, g0n, g1n), ⟨h3, by have := w3; simp only [Bool.false_eq_true, if_false, if_true] at this; rw [wX_set hx (by omega), wX_set hy (by omega)] at this; exact this, hg0n, hg1n⟩, ⟨rfl, rfl, rfl, rfl, rfl, rfl, rfl, rfl, trivial⟩, ((hsub (.cons_cons _ (.cons_cons _ (.cons_cons _ (.cons_cons _ (.cons_cons _ (.cons _ (.cons _ (.cons _ (.cons _ (.refl _))))))))))).trans (hsub_pick [2, 2, 2, 2, 2] rfl))⟩
              · refine op_buildSlice (vs := [(0, _)]) rfl Try.underlying26 sz_37 zl_37 rfl (by decide) (fill_one rfl (by rw [bs_length, sec2_len]) rfl) rfl (fun B33 => ?_)
                refine ⟨((hsub (.cons_cons _ (.cons_cons _ (.cons _ (.cons _ (.cons _ (.cons _ (.cons _ (.cons _ (.cons _ (.refl _))))))))))).trans (hsub_pick [7, 7] rfl)), ?_⟩
                refine H_one 4 rfl (by kernel_rfl) rfl (op_append (gs := g0) (len := k) (m := 1) (xs := bs (prX la k).flatten) (vs := bs (sec2 x)) 4 rfl rfl rfl hg0 (src_slice (sees 1 0 rfl) (by simp [bs_length, sec2_len]) (bs_whole0 _ (by rw [sec2_len]))) (by rw [bs_length, sec2_len]) (bs_one _) Try.underlying26 ni_26 sz_37 by_37 (by decide) zl_37 rfl (by omega) rfl (fun g0n hg0n => ?_))
                rw [← bs_append, show (prX la k).flatten ++ sec2 x = (prX la (k + 1)).flatten from by rw [prX_succ hx]; simp] at hg0n ⊢
                refine ⟨((hsub (.cons_cons _ (.cons_cons _ (.cons _ (.cons _ (.cons _ (.cons _ (.cons _ (.cons _ (.cons _ (.refl _))))))))))).trans (hsub_pick [7, 7] rfl)), ?_⟩
                refine H_y 10 rfl (by kernel_rfl) (by kernel_rfl) (by kernel_rfl) (((hsub (.cons_cons _ (.cons_cons _ (.cons _ (.cons _ (.cons _ (.cons _ (.cons _ (.cons _ (.cons _ (.refl _))))))))))).trans (hsub_pick [7, 7] rfl))) rfl (y_indexA rfl rfl Try.underlying27 sz_26 (by omega) (by omega) (show _ = 0 from rfl)) rfl ?_
                refine H_one 9 rfl (by kernel_rfl) rfl (op_append (gs := g1) (len := k) (m := 1) (xs := bs (prX lb k).flatten) (vs := bs (sec2 y)) 5 rfl rfl rfl hg1 (src_slice (sees 0 0 rfl) (by simp [bs_length, sec2_len]) (bs_whole0 _ (by rw [sec2_len]))) (by rw [bs_length, sec2_len]) (bs_one _) Try.underlying26 ni_26 sz_37 by_37 (by decide) zl_37 rfl (by omega) rfl (fun g1n hg1n => ?_))
                rw [← bs_append, show (prX lb k).flatten ++ sec2 y = (prX lb (k + 1)).flatten from by rw [prX_succ hy]; simp] at hg1n ⊢
                refine ⟨((hsub (.cons_cons _ (.cons_cons _ (.cons _ (.cons _ (.cons _ (.cons _ (.cons _ (.cons _ (.cons _ (.refl _))))))))))).trans (hsub_pick [7, 7] rfl)), ?_⟩
                refine H_one 11 rfl (by kernel_rfl) rfl (op_store1 3 0 rfl rfl (one_slV _ _) sz_26 rfl (Nat.le_of_ble_eq_true rfl) ?_)
                refine ⟨((hsub (.cons_cons _ (.cons_cons _ (.cons _ (.cons _ (.cons _ (.cons _ (.cons _ (.cons _ (.cons _ (.refl _))))))))))).trans (hsub_pick [7, 7] rfl)), ?_⟩
                refine H_y 12 rfl (by kernel_rfl) (by kernel_rfl) (by kernel_rfl) (((hsub (.cons_cons _ (.cons_cons _ (.cons _ (.cons _ (.cons _ (.cons _ (.cons _ (.cons _ (.cons _ (.refl _))))))))))).trans (hsub_pick [7, 7] rfl))) rfl (y_indexA rfl rfl Try.underlying27 sz_26 (by omega) (by omega) (show _ = 1 from rfl)) rfl ?_
                refine H_one 13 rfl (by kernel_rfl) rfl (op_store1 3 0 rfl rfl (one_slV _ _) sz_26 rfl (Nat.le_of_ble_eq_true rfl) ?_)
                refine ⟨((hsub (.cons_cons _ (.cons_cons _ (.cons _ (.cons _ (.cons _ (.cons _ (.cons _ (.cons _ (.cons _ (.refl _))))))))))).trans (hsub_pick [7, 7] rfl)), ?_⟩
                refine H_done (by kernel_rfl) ?_
                exact ⟨(D3, _, g0n, g1n), ⟨h3, by have := w3; simp only [Bool.false_eq_true, if_false, if_true] at this; rw [wX_set hx (by omega), wX_set hy (by omega)] at this; exact this, hg0n, hg1n⟩, ⟨rfl, rfl, rfl, rfl, rfl, rfl, rfl, rfl, trivial⟩, ((hsub (.cons_cons _ (.cons_cons _ (.cons_cons _ (.cons_cons _ (.cons_cons _ (.cons _ (.cons _ (.cons _ (.cons _ (.refl _))))))))))).trans (hsub_pick [2, 2, 2, 2, 2] rfl))⟩
            · refine op_buildSlice (vs := [(0, _)]) rfl Try.underlying26 sz_37 zl_37 rfl (by decide) (fill_one rfl (by rw [bs_length, sec2_len]) rfl) rfl (fun B34 => ?_)
              refine ⟨((hsub (.cons_cons _ (.cons_cons _ (.cons _ (.cons _ (.cons _ (.cons _ (.cons _ (.cons _ (.refl _)))))))))).trans (hsub_pick [6, 6] rfl)), ?_⟩
              refine H_one 3 rfl (by kernel_rfl) rfl (op_buildSlice (vs := [(0, _)]) rfl Try.underlying26 sz_37 zl_37 rfl (by decide) (fill_one rfl (by rw [bs_length, sec2_len]) rfl) rfl (fun B35 => ?_))
              refine ⟨((hsub (.cons_cons _ (.cons_cons _ (.cons _ (.cons _ (.cons _ (.cons _ (.cons _ (.cons _ (.cons _ (.refl _))))))))))).trans (hsub_pick [7, 7] rfl)), ?_⟩
              refine H_one 4 rfl (by kernel_rfl) rfl (op_append (gs := g0) (len := k) (m := 1) (xs := bs (prX la k).flatten) (vs := bs (sec2 x)) 4 rfl rfl rfl hg0 (src_slice (sees 0 0 rfl) (by simp [bs_length, sec2_len]) (bs_whole0 _ (by rw [sec2_len]))) (by rw [bs_length, sec2_len]) (bs_one _) Try.underlying26 ni_26 sz_37 by_37 (by decide) zl_37 rfl (by omega) rfl (fun g0n hg0n => ?_))
              rw [← bs_append, show (prX la k).flatten ++ sec2 x = (prX la (k + 1)).flatten from by rw [prX_succ hx]; simp] at hg0n ⊢
              refine ⟨((hsub (.cons_cons _ (.cons_cons _ (.cons _ (.cons _ (.cons _ (.cons _ (.cons _ (.cons _ (.cons _ (.refl _))))))))))).trans (hsub_pick [7, 7] rfl)), ?_⟩
              refine H_y 10 rfl (by kernel_rfl) (by kernel_rfl) (by kernel_rfl) (((hsub (.cons_cons _ (.cons_cons _ (.cons _ (.cons _ (.cons _ (.cons _ (.cons _ (.cons _ (.cons _ (.refl _))))))))))).trans (hsub_pick [7, 7] rfl))) rfl (y_indexA rfl rfl Try.underlying27 sz_26 (by omega) (by omega) (show _ = 0 from rfl)) rfl ?_
              refine H_one 9 rfl (by kernel_rfl) rfl (op_append (gs := g1) (len := k) (m := 1) (xs := bs (prX lb k).flatten) (vs := bs (sec2 y)) 5 rfl rfl rfl hg1 (src_slice (sees 1 0 rfl) (by simp [bs_length, sec2_len]) (bs_whole0 _ (by rw [sec2_len]))) (by rw [bs_length, sec2_len]) (bs_one _) Try.underlying26 ni_26 sz_37 by_37 (by decide) zl_37 rfl (by omega) rfl (fun g1n hg1n => ?_))
              rw [← bs_append, show (prX lb k).flatten ++ sec2 y = (prX lb (k + 1)).flatten from by rw [prX_succ hy]; simp] at hg1n ⊢
              refine ⟨((hsub (.cons_cons _ (.cons_cons _ (.cons _ (.cons _ (.cons _ (.cons _ (.cons _ (.cons _ (.cons _ (.refl _))))))))))).trans (hsub_pick [7, 7] rfl)), ?_⟩
              refine H_one 11 rfl (by kernel_rfl) rfl (op_store1 3 0 rfl rfl (one_slV _ _) sz_26 rfl (Nat.le_of_ble_eq_true rfl) ?_)
              refine ⟨((hsub (.cons_cons _ (.cons_cons _ (.cons _ (.cons _ (.cons _ (.cons _ (.cons _ (.cons _ (.cons _ (.refl _))))))))))).trans (hsub_pick [7, 7] rfl)), ?_⟩
              refine H_y 12 rfl (by kernel_rfl) (by kernel_rfl) (by kernel_rfl) (((hsub (.cons_cons _ (.cons_cons _ (.cons _ (.cons _ (.cons _ (.cons _ (.cons _ (.cons _ (.cons _ (.refl _))))))))))).trans (hsub_pick [7, 7] rfl))) rfl (y_indexA rfl rfl Try.underlying27 sz_26 (by omega) (by omega) (show _ = 1 from rfl)) rfl ?_
              refine H_one 13 rfl (by kernel_rfl) rfl (op_store1 3 0 rfl rfl (one_slV _ _) sz_26 rfl (Nat.le_of_ble_eq_true rfl) ?_)
              refine ⟨((hsub (.cons_cons _ (.cons_cons _ (.cons _ (.cons _ (.cons _ (.cons _ (.cons _ (.cons _ (.cons _ (.refl _))))))))))).trans (hsub_pick [7, 7] rfl)), ?_⟩
              refine H_done (by kernel_rfl) ?_
              exact ⟨(D3, _, g0n, g1n), ⟨h3, by have := w3; simp only [Bool.false_eq_true, if_false, if_true] at this; rw [wX_set hx (by omega), wX_set hy (by omega)] at this; exact this, hg0n, hg1n⟩, ⟨rfl, rfl, rfl, rfl, rfl, rfl, rfl, rfl, trivial⟩, ((hsub (.cons_cons _ (.cons_cons _ (.cons_cons _ (.cons_cons _ (.cons_cons _ (.cons _ (.cons _ (.cons _ (.cons _ (.refl _))))))))))).trans (hsub_pick [2, 2, 2, 2, 2] rfl))⟩
          · refine op_buildSlice (vs := [(0, _)]) rfl Try.underlying26 sz_37 zl_37 rfl (by decide) (fill_one rfl (by rw [bs_length, sec2_len]) rfl) rfl (fun B36 => ?_)
            refine ⟨((hsub (.cons_cons _ (.cons_cons _ (.cons _ (.cons _ (.cons _ (.cons _ (.cons _ (.cons _ (.refl _)))))))))).trans (hsub_pick [6, 6] rfl)), ?_⟩
            refine H_two 1 8 rfl rfl (by kernel_rfl) rfl rfl ?_ ?_
            · refine op_y (y_load rfl ag_26 (sees 2 0 rfl) rfl) rfl ?_
              refine ⟨((hsub (.cons_cons _ (.cons_cons _ (.cons _ (.cons _ (.cons _ (.cons _ (.cons _ (.cons _ (.refl _)))))))))).trans (hsub_pick [6, 6] rfl)), ?_⟩
              refine H_two 4 8 rfl rfl (by kernel_rfl) rfl rfl ?_ ?_
              · refine op_append (gs := g0) (len := k) (m := 1) (xs := bs (prX la k).flatten) (vs := bs (sec2 x)) 3 rfl rfl rfl hg0 (src_slice (sees 0 0 rfl) (by simp [bs_length, sec2_len]) (bs_whole0 _ (by rw [sec2_len]))) (by rw [bs_length, sec2_len]) (bs_one _) Try.underlying26 ni_26 sz_37 by_37 (by decide) zl_37 rfl (by omega) rfl (fun g0n hg0n => ?_)
                rw [← bs_append, show (prX la k).flatten ++ sec2 x = (prX la (k + 1)).flatten from by rw [prX_succ hx]; simp] at hg0n ⊢
                refine ⟨((hsub (.cons_cons _ (.cons_cons _ (.cons _ (.cons _ (.cons _ (.cons _ (.cons _ (.cons _ (.refl _)))))))))).trans (hsub_pick [6, 6] rfl)), ?_⟩
                refine H_y 10 rfl (by kernel_rfl) (by kernel_rfl) (by kernel_rfl) (((hsub (.cons_cons _ (.cons_cons _ (.cons _ (.cons _ (.cons _ (.cons _ (.cons _ (.cons _ (.refl _)))))))))).trans (hsub_pick [6, 6] rfl))) rfl (y_indexA rfl rfl Try.underlying27 sz_26 (by omega) (by omega) (show _ = 0 from rfl)) rfl ?_
                refine H_one 8 rfl (by kernel_rfl) rfl (op_buildSlice (vs := [(0, _)]) rfl Try.underlying26 sz_37 zl_37 rfl (by decide) (fill_one rfl (by rw [bs_length, sec2_len]) rfl) rfl (fun B37 => ?_))
                refine ⟨((hsub (.cons_cons _ (.cons_cons _ (.cons _ (.cons _ (.cons _ (.cons _ (.cons _ (.cons _ (.cons _ (.refl _))))))))))).trans (hsub_pick [7, 7] rfl)), ?_⟩
                refine H_one 9 rfl (by kernel_rfl) rfl (op_append (gs := g1) (len := k) (m := 1) (xs := bs (prX lb k).flatten) (vs := bs (sec2 y)) 5 rfl rfl rfl hg1 (src_slice (sees 0 0 rfl) (by simp [bs_length, sec2_len]) (bs_whole0 _ (by rw [sec2_len]))) (by rw [bs_length, sec2_len]) (bs_one _) Try.underlying26 ni_26 sz_37 by_37 (by decide) zl_37 rfl (by omega) rfl (fun g1n hg1n => ?_))
                rw [← bs_append, show (prX lb k).flatten ++ sec2 y = (prX lb (k + 1)).flatten from by rw [prX_succ hy]; simp] at hg1n ⊢
                refine ⟨((hsub (.cons_cons _ (.cons_cons _ (.cons _ (.cons _ (.cons _ (.cons _ (.cons _ (.cons _ (.cons _ (.refl _))))))))))).trans (hsub_pick [7, 7] rfl)), ?_⟩
                refine H_one 11 rfl (by kernel_rfl) rfl (op_store1 3 0 rfl rfl (one_slV _ _) sz_26 rfl (Nat.le_of_ble_eq_true rfl) ?_)
                refine ⟨((hsub (.cons_cons _ (.cons_cons _ (.cons _ (.cons _ (.cons _ (.cons _ (.cons _ (.cons _ (.cons _ (.refl _))))))))))).trans (hsub_pick [7, 7] rfl)), ?_⟩
                refine H_y 12 rfl (by kernel_rfl) (by kernel_rfl) (by kernel_rfl) (((hsub (.cons_cons _ (.cons_cons _ (.cons _ (.cons _ (.cons _ (.cons _ (.cons _ (.cons _ (.cons _ (.refl _))))))))))).trans (hsub_pick [7, 7] rfl))) rfl (y_indexA rfl rfl Try.underlying27 sz_26 (by omega) (by omega) (show _ = 1 from rfl)) rfl ?_
                refine H_one 13 rfl (by kernel_rfl) rfl (op_store1 3 0 rfl rfl (one_slV _ _) sz_26 rfl (Nat.le_of_ble_eq_true rfl) ?_)
                refine ⟨((hsub (.cons_cons _ (.cons_cons _ (.cons _ (.cons _ (.cons _ (.cons _ (.cons _ (.cons _ (.cons _ (.refl _))))))))))).trans (hsub_pick [7, 7] rfl)), ?_⟩
                refine H_done (by kernel_rfl) ?_
                exact ⟨(D3, _, g0n, g1n), ⟨h3, by have := w3; simp only [Bool.false_eq_true, if_false, if_true] at this; rw [wX_set hx (by omega), wX_set hy (by omega)] at this; exact this, hg0n, hg1n⟩, ⟨rfl, rfl, rfl, rfl, rfl, rfl, rfl, rfl, trivial⟩, ((hsub (.cons_cons _ (.cons_cons _ (.cons_cons _ (.cons_cons _ (.cons_cons _ (.cons _ (.cons _ (.cons _ (.cons _ (.refl _))))))))))).trans (hsub_pick [2, 2, 2, 2, 2] rfl))⟩
              · refine op_buildSlice (vs := [(0, _)]) rfl Try.underlying26 sz_37 zl_37 rfl (by decide) (fill_one rfl (by rw [bs_length, sec2_len]) rfl) rfl (fun B38 => ?_)
                refine ⟨((hsub (.cons_cons _ (.cons_cons _ (.cons _ (.cons _ (.cons _ (.cons _ (.cons _ (.cons _ (.cons _ (.refl _))))))))))).trans (hsub_pick [7, 7] rfl)), ?_⟩
                refine H_one 4 rfl (by kernel_rfl) rfl (op_append (gs := g0) (len := k) (m := 1) (xs := bs (prX la k).flatten) (vs := bs (sec2 x)) 4 rfl rfl rfl hg0 (src_slice (sees 1 0 rfl) (by simp [bs_length, sec2_len]) (bs_whole0 _ (by rw [sec2_len]))) (by rw [bs_length, sec2_len]) (bs_one _) Try.underlying26 ni_26 sz_37 by_37 (by decide) zl_37 rfl (by omega) rfl (fun g0n hg0n => ?_))
                rw [← bs_append, show (prX la k).flatten ++ sec2 x = (prX la (k + 1)).flatten from by rw [prX_succ hx]; simp] at hg0n ⊢
                refine ⟨((hsub (.cons_cons _ (.cons_cons _ (.cons _ (.cons _ (.cons _ (.cons _ (.cons _ (.cons _ (.cons _ (.refl _))))))))))).trans (hsub_pick [7, 7] rfl)), ?_⟩
                refine H_y 10 rfl (by kernel_rfl) (by kernel_rfl) (by kernel_rfl) (((hsub (.cons_cons _ (.cons_cons _ (.cons _ (.cons _ (.cons _ (.cons _ (.cons _ (.cons _ (.cons _ (.refl _))))))))))).trans (hsub_pick [7, 7] rfl))) rfl (y_indexA rfl rfl Try.underlying27 sz_26 (by omega) (by omega) (show _ = 0 from rfl)) rfl ?_
                refine H_one 9 rfl (by kernel_rfl) rfl (op_append (gs := g1) (len := k) (m := 1) (xs := bs (prX lb k).flatten) (vs := bs (sec2 y)) 5 rfl rfl rfl hg1 (src_slice (sees 0 0 rfl) (by simp [bs_length, sec2_len]) (bs_whole0 _ (by rw [sec2_len]))) (by rw [bs_length, sec2_len]) (bs_one _) Try.underlying26 ni_26 sz_37 by_37 (by decide) zl_37 rfl (by omega) rfl (fun g1n hg1n => ?_))
                rw [← bs_append, show (prX lb k).flatten ++ sec2 y = (prX lb (k + 1)).flatten from by rw [prX_succ hy]; simp] at hg1n ⊢
                refine ⟨((hsub (.cons_cons _ (.cons_cons _ (.cons _ (.cons _ (.cons _ (.cons _ (.cons _ (.cons _ (.cons _ (.refl _))))))))))).trans (hsub_pick [7, 7] rfl)), ?_⟩
                refine H_one 11 rfl (by kernel_rfl) rfl (op_store1 3 0 rfl rfl (one_slV _ _) sz_26 rfl (Nat.le_of_ble_eq_true rfl) ?_)
                refine ⟨((hsub (.cons_cons _ (.cons_cons _ (.cons _ (.cons _ (.cons _ (.cons _ (.cons _ (.cons _ (.cons _ (.refl _))))))))))).trans (hsub_pick [7, 7] rfl)), ?_⟩
                refine H_y 12 rfl (by kernel_rfl) (by kernel_rfl) (by kernel_rfl) (((hsub (.cons_cons _ (.cons_cons _ (.cons _ (.cons _ (.cons _ (.cons _ (.cons _ (.cons _ (.cons _ (.refl _))))))))))).trans (hsub_pick [7, 7] rfl))) rfl (y_indexA rfl rfl Try.underlying27 sz_26 (by omega) (by omega) (show _ = 1 from rfl)) rfl ?_
                refine H_one 13 rfl (by kernel_rfl) rfl (op_store1 3 0 rfl rfl (one_slV _ _) sz_26 rfl (Nat.le_of_ble_eq_true rfl) ?_)
                refine ⟨((hsub (.cons_cons _ (.cons_cons _ (.cons _ (.cons _ (.cons _ (.cons _ (.cons _ (.cons _ (.cons _ (.refl _))))))))))).trans (hsub_pick [7, 7] rfl)), ?_⟩
                refine H_done (by kernel_rfl) ?_
                exact ⟨(D3, _, g0n, g1n), ⟨h3, by have := w3; simp only [Bool.false_eq_true, if_false, if_true] at this; rw [wX_set hx (by omega), wX_set hy (by omega)] at this; exact this, hg0n, hg1n⟩, ⟨rfl, rfl, rfl, rfl, rfl, rfl, rfl, rfl, trivial⟩, ((hsub (.cons_cons _ (.cons_cons _ (.cons_cons _ (.cons_cons _ (.cons_cons _ (.cons _ (.cons _ (.cons _ (.cons _ (.refl _))))))))))).trans (hsub_pick [2, 2, 2, 2, 2] rfl))⟩
            · refine op_buildSlice (vs := [(0, _)]) rfl Try.underlying26 sz_37 zl_37 rfl (by decide) (fill_one rfl (by rw [bs_length, sec2_len]) rfl) rfl (fun B39 => ?_)
              refine ⟨((hsub (.cons_cons _ (.cons_cons _ (.cons _ (.cons _ (.cons _ (.cons _ (.cons _ (.cons _ (.cons _ (.refl _))))))))))).trans (hsub_pick [7, 7] rfl)), ?_⟩
              refine H_one 1 rfl (by kernel_rfl) rfl (op_y (y_load rfl ag_26 (sees 3 0 rfl) rfl) rfl ?_)
              refine ⟨((hsub (.cons_cons _ (.cons_cons _ (.cons _ (.cons _ (.cons _ (.cons _ (.cons _ (.cons _ (.cons _ (.refl _))))))))))).trans (hsub_pick [7, 7] rfl)), ?_⟩
              refine H_one 4 rfl (by kernel_rfl) rfl (op_append (gs := g0) (len := k) (m := 1) (xs := bs (prX la k).flatten) (vs := bs (sec2 x)) 4 rfl rfl rfl hg0 (src_slice (sees 1 0 rfl) (by simp [bs_length, sec2_len]) (bs_whole0 _ (by rw [sec2_len]))) (by rw [bs_length, sec2_len]) (bs_one _) Try.underlying26 ni_26 sz_37 by_37 (by decide) zl_37 rfl (by omega) rfl (fun g0n hg0n => ?_))
              rw [← bs_append, show (prX la k).flatten ++ sec2 x = (prX la (k + 1)).flatten from by rw [prX_succ hx]; simp] at hg0n ⊢
              refine ⟨((hsub (.cons_cons _ (.cons_cons _ (.cons _ (.cons _ (.cons _ (.cons _ (.cons _ (.cons _ (.cons _ (.refl _))))))))))).trans (hsub_pick [7, 7] rfl)), ?_⟩
              refine H_y 10 rfl (by kernel_rfl) (by kernel_rfl) (by kernel_rfl) (((hsub (.cons_cons _ (.cons_cons _ (.cons _ (.cons _ (.cons _ (.cons _ (.cons _ (.cons _ (.cons _ (.refl _))))))))))).trans (hsub_pick [7, 7] rfl))) rfl (y_indexA rfl rfl Try.underlying27 sz_26 (by omega) (by omega) (show _ = 0 from rfl)) rfl ?_
              refine H_one 9 rfl (by kernel_rfl) rfl (op_append (gs := g1) (len := k) (m := 1) (xs := bs (prX lb k).flatten) (vs := bs (sec2 y)) 5 rfl rfl rfl hg1 (src_slice (sees 0 0 rfl) (by simp [bs_length, sec2_len]) (bs_whole0 _ (by rw [sec2_len]))) (by rw [bs_length, sec2_len]) (bs_one _) Try.underlying26 ni_26 sz_37 by_37 (by decide) zl_37 rfl (by omega) rfl (fun g1n hg1n => ?_))
              rw [← bs_append, show (prX lb k).flatten ++ sec2 y = (prX lb (k + 1)).flatten from by rw [prX_succ hy]; simp] at hg1n ⊢
              refine ⟨((hsub (.cons_cons _ (.cons_cons _ (.cons _ (.cons _ (.cons _ (.cons _ (.cons _ (.cons _ (.cons _ (.refl _))))))))))).trans (hsub_pick [7, 7] rfl)), ?_⟩
              refine H_one 11 rfl (by kernel_rfl) rfl (op_store1 3 0 rfl rfl (one_slV _ _) sz_26 rfl (Nat.le_of_ble_eq_true rfl) ?_)
              refine ⟨((hsub (.cons_cons _ (.cons_cons _ (.cons _ (.cons _ (.cons _ (.cons _ (.cons _ (.cons _ (.cons _ (.refl _))))))))))).trans (hsub_pick [7, 7] rfl)), ?_⟩
              refine H_y 12 rfl (by kernel_rfl) (by kernel_rfl) (by kernel_rfl) (((hsub (.cons_cons _ (.cons_cons _ (.cons _ (.cons _ (.cons _ (.cons _ (.cons _ (.cons _ (.cons _ (.refl _))))))))))).trans (hsub_pick [7, 7] rfl))) rfl (y_indexA rfl rfl Try.underlying27 sz_26 (by omega) (by omega) (show _ = 1 from rfl)) rfl ?_
              refine H_one 13 rfl (by kernel_rfl) rfl (op_store1 3 0 rfl rfl (one_slV _ _) sz_26 rfl (Nat.le_of_ble_eq_true rfl) ?_)
              refine ⟨((hsub (.cons_cons _ (.cons_cons _ (.cons _ (.cons _ (.cons _ (.cons _ (.cons _ (.cons _ (.cons _ (.refl _))))))))))).trans (hsub_pick [7, 7] rfl)), ?_⟩
              refine H_done (by kernel_rfl) ?_
              exact ⟨(D3, _, g0n, g1n), ⟨h3, by have := w3; simp only [Bool.false_eq_true, if_false, if_true] at this; rw [wX_set hx (by omega), wX_set hy (by omega)] at this; exact this, hg0n, hg1n⟩, ⟨rfl, rfl, rfl, rfl, rfl, rfl, rfl, rfl, trivial⟩, ((hsub (.cons_cons _ (.cons_cons _ (.cons_cons _ (.cons_cons _ (.cons_cons _ (.cons _ (.cons _ (.cons _ (.cons _ (.refl _))))))))))).trans (hsub_pick [2, 2, 2, 2, 2] rfl))⟩
          · refine op_buildSlice (vs := [(0, _)]) rfl Try.underlying26 sz_37 zl_37 rfl (by decide) (fill_one rfl (by rw [bs_length, sec2_len]) rfl) rfl (fun B40 => ?_)
            refine ⟨((hsub (.cons_cons _ (.cons_cons _ (.cons _ (.cons _ (.cons _ (.cons _ (.cons _ (.cons _ (.refl _)))))))))).trans (hsub_pick [6, 6] rfl)), ?_⟩
            refine H_two 1 3 rfl rfl (by kernel_rfl) rfl rfl ?_ ?_
            · refine op_y (y_load rfl ag_26 (sees 2 0 rfl) rfl) rfl ?_
              refine ⟨((hsub (.cons_cons _ (.cons_cons _ (.cons _ (.cons _ (.cons _ (.cons _ (.cons _ (.cons _ (.refl _)))))))))).trans (hsub_pick [6, 6] rfl)), ?_⟩
              refine H_one 3 rfl (by kernel_rfl) rfl (op_buildSlice (vs := [(0, _)]) rfl Try.underlying26 sz_37 zl_37 rfl (by decide) (fill_one rfl (by rw [bs_length, sec2_len]) rfl) rfl (fun B41 => ?_))
              refine ⟨((hsub (.cons_cons _ (.cons_cons _ (.cons _ (.cons _ (.cons _ (.cons _ (.cons _ (.cons _ (.cons _ (.refl _))))))))))).trans (hsub_pick [7, 7] rfl)), ?_⟩
              refine H_one 4 rfl (by kernel_rfl) rfl (op_append (gs := g0) (len := k) (m := 1) (xs := bs (prX la k).flatten) (vs := bs (sec2 x)) 4 rfl rfl rfl hg0 (src_slice (sees 0 0 rfl) (by simp [bs_length, sec2_len]) (bs_whole0 _ (by rw [sec2_len]))) (by rw [bs_length, sec2_len]) (bs_one _) Try.underlying26 ni_26 sz_37 by_37 (by decide) zl_37 rfl (by omega) rfl (fun g0n hg0n => ?_))
              rw [← bs_append, show (prX la k).flatten ++ sec2 x = (prX la (k + 1)).flatten from by rw [prX_succ hx]; simp] at hg0n ⊢
              refine ⟨((hsub (.cons_cons _ (.cons_cons _ (.cons _ (.cons _ (.cons _ (.cons _ (.cons _ (.cons _ (.cons _ (.refl _))))))))))).trans (hsub_pick [7, 7] rfl)), ?_⟩
              refine H_y 10 rfl (by kernel_rfl) (by kernel_rfl) (by kernel_rfl) (((hsub (.cons_cons _ (.cons_cons _ (.cons _ (.cons _ (.cons _ (.cons _ (.cons _ (.cons _ (.cons _ (.refl _))))))))))).trans (hsub_pick [7, 7] rfl))) rfl (y_indexA rfl rfl Try.underlying27 sz_26 (by omega) (by omega) (show _ = 0 from rfl)) rfl ?_
              refine H_one 9 rfl (by kernel_rfl) rfl (op_append (gs := g1) (len := k) (m := 1) (xs := bs (prX lb k).flatten) (vs := bs (sec2 y)) 5 rfl rfl rfl hg1 (src_slice (sees 1 0 rfl) (by simp [bs_length, sec2_len]) (bs_whole0 _ (by rw [sec2_len]))) (by rw [bs_length, sec2_len]) (bs_one _) Try.underlying26 ni_26 sz_37 by_37 (by decide) zl_37 rfl (by omega) rfl (fun g1n hg1n => ?_))
              rw [← bs_append, show (prX lb k).flatten ++ sec2 y = (prX lb (k + 1)).flatten from by rw [prX_succ hy]; simp] at hg1n ⊢
              refine ⟨((hsub (.cons_cons _ (.cons_cons _ (.cons _ (.cons _ (.cons _ (.cons _ (.cons _ (.cons _ (.cons _ (.refl _))))))))))).trans (hsub_pick [7, 7] rfl)), ?_⟩
              refine H_one 11 rfl (by kernel_rfl) rfl (op_store1 3 0 rfl rfl (one_slV _ _) sz_26 rfl (Nat.le_of_ble_eq_true rfl) ?_)
              refine ⟨((hsub (.cons_cons _ (.cons_cons _ (.cons _ (.cons _ (.cons _ (.cons _ (.cons _ (.cons _ (.cons _ (.refl _))))))))))).trans (hsub_pick [7, 7] rfl)), ?_⟩
              refine H_y 12 rfl (by kernel_rfl) (by kernel_rfl) (by kernel_rfl) (((hsub (.cons_cons _ (.cons_cons _ (.cons _ (.cons _ (.cons _ (.cons _ (.cons _ (.cons _ (.cons _ (.refl _))))))))))).trans (hsub_pick [7, 7] rfl))) rfl (y_indexA rfl rfl Try.underlying27 sz_26 (by omega) (by omega) (show _ = 1 from rfl)) rfl ?_
              refine H_one 13 rfl (by kernel_rfl) rfl (op_store1 3 0 rfl rfl (one_slV _ _) sz_26 rfl (Nat.le_of_ble_eq_true rfl) ?_)
              refine ⟨((hsub (.cons_cons _ (.cons_cons _ (.cons _ (.cons _ (.cons _ (.cons _ (.cons _ (.cons _ (.cons _ (.refl _))))))))))).trans (hsub_pick [7, 7] rfl)), ?_⟩
              refine H_done (by kernel_rfl) ?_
              exact ⟨(D3, _, g0n, g1n), ⟨h3, by have := w3; simp only [Bool.false_eq_true, if_false, if_true] at this; rw [wX_set hx (by omega), wX_set hy (by omega)] at this; exact this, hg0n, hg1n⟩, ⟨rfl, rfl, rfl, rfl, rfl, rfl, rfl, rfl, trivial⟩, ((hsub (.cons_cons _ (.cons_cons _ (.cons_cons _ (.cons_cons _ (.cons_cons _ (.cons _ (.cons _ (.cons _ (.cons _ (.refl _))))))))))).trans (hsub_pick [2, 2, 2, 2, 2] rfl))⟩
            · refine op_buildSlice (vs := [(0, _)]) rfl Try.underlying26 sz_37 zl_37 rfl (by decide) (fill_one rfl (by rw [bs_length, sec2_len]) rfl) rfl (fun B42 => ?_)
              refine ⟨((hsub (.cons_cons _ (.cons_cons _ (.cons _ (.cons _ (.cons _ (.cons _ (.cons _ (.cons _ (.cons _ (.refl _))))))))))).trans (hsub_pick [7, 7] rfl)), ?_⟩
              refine H_one 1 rfl (by kernel_rfl) rfl (op_y (y_load rfl ag_26 (sees 3 0 rfl) rfl) rfl ?_)
              refine ⟨((hsub (.cons_cons _ (.cons_cons _ (.cons _ (.cons _ (.cons _ (.cons _ (.cons _ (.cons _ (.cons _ (.refl _))))))))))).trans (hsub_pick [7, 7] rfl)), ?_⟩
              refine H_one 4 rfl (by kernel_rfl) rfl (op_append (gs := g0) (len := k) (m := 1) (xs := bs (prX la k).flatten) (vs := bs (sec2 x)) 4 rfl rfl rfl hg0 (src_slice (sees 0 0 rfl) (by simp [bs_length, sec2_len]) (bs_whole0 _ (by rw [sec2_len]))) (by rw [bs_length, sec2_len]) (bs_one _) Try.underlying26 ni_26 sz_37 by_37 (by decide) zl_37 rfl (by omega) rfl (fun g0n hg0n => ?_))
              rw [← bs_append, show (prX la k).flatten ++ sec2 x = (prX la (k + 1)).flatten from by rw [prX_succ hx]; simp] at hg0n ⊢
              refine ⟨((hsub (.cons_cons _ (.cons_cons _ (.cons _ (.cons _ (.cons _ (.cons _ (.cons _ (.cons _ (.cons _ (.refl _))))))))))).trans (hsub_pick [7, 7] rfl)), ?_⟩
              refine H_y 10 rfl (by kernel_rfl) (by kernel_rfl) (by kernel_rfl) (((hsub (.cons_cons _ (.cons_cons _ (.cons _ (.cons _ (.cons _ (.cons _ (.cons _ (.cons _ (.cons _ (.refl _))))))))))).trans (hsub_pick [7, 7] rfl))) rfl (y_indexA rfl rfl Try.underlying27 sz_26 (by omega) (by omega) (show _ = 0 from rfl)) rfl ?_
              refine H_one 9 rfl (by kernel_rfl) rfl (op_append (gs := g1) (len := k) (m := 1) (xs := bs (prX lb k).flatten) (vs := bs (sec2 y)) 5 rfl rfl rfl hg1 (src_slice (sees 1 0 rfl) (by simp [bs_length, sec2_len]) (bs_whole0 _ (by rw [sec2_len]))) (by rw [bs_length, sec2_len]) (bs_one _) Try.underlying26 ni_26 sz_37 by_37 (by decide) zl_37 rfl (by omega) rfl (fun g1n hg1n => ?_))
              rw [← bs_append, show (prX lb k).flatten ++ sec2 y = (prX lb (k + 1)).flatten from by rw [prX_succ hy]; simp] at hg1n ⊢
              refine ⟨((hsub (.cons_cons _ (.cons_cons _ (.cons _ (.cons _ (.cons _ (.cons _ (.cons _ (.cons _ (.cons _ (.refl _))))))))))).trans (hsub_pick [7, 7] rfl)), ?_⟩
              refine H_one 11 rfl (by kernel_rfl) rfl (op_store1 3 0 rfl rfl (one_slV _ _) sz_26 rfl (Nat.le_of_ble_eq_true rfl) ?_)
              refine ⟨((hsub (.cons_cons _ (.cons_cons _ (.cons _ (.cons _ (.cons _ (.cons _ (.cons _ (.cons _ (.cons _ (.refl _))))))))))).trans (hsub_pick [7, 7] rfl)), ?_⟩
              refine H_y 12 rfl (by kernel_rfl) (by kernel_rfl) (by kernel_rfl) (((hsub (.cons_cons _ (.cons_cons _ (.cons _ (.cons _ (.cons _ (.cons _ (.cons _ (.cons _ (.cons _ (.refl _))))))))))).trans (hsub_pick [7, 7] rfl))) rfl (y_indexA rfl rfl Try.underlying27 sz_26 (by omega) (by omega) (show _ = 1 from rfl)) rfl ?_
              refine H_one 13 rfl (by kernel_rfl) rfl (op_store1 3 0 rfl rfl (one_slV _ _) sz_26 rfl (Nat.le_of_ble_eq_true rfl) ?_)
              refine ⟨((hsub (.cons_cons _ (.cons_cons _ (.cons _ (.cons _ (.cons _ (.cons _ (.cons _ (.cons _ (.cons _ (.refl _))))))))))).trans (hsub_pick [7, 7] rfl)), ?_⟩
              refine H_done (by kernel_rfl) ?_
              exact ⟨(D3, _, g0n, g1n), ⟨h3, by have := w3; simp only [Bool.false_eq_true, if_false, if_true] at this; rw [wX_set hx (by omega), wX_set hy (by omega)] at this; exact this, hg0n, hg1n⟩, ⟨rfl, rfl, rfl, rfl, rfl, rfl, rfl, rfl, trivial⟩, ((hsub (.cons_cons _ (.cons_cons _ (.cons_cons _ (.cons_cons _ (.cons_cons _ (.cons _ (.cons _ (.cons _ (.cons _ (.refl _))))))))))).trans (hsub_pick [2, 2, 2, 2, 2] rfl))⟩
        · refine op_buildSlice (vs := [(0, _)]) rfl Try.underlying26 sz_37 zl_37 rfl (by decide) (fill_one rfl (by rw [bs_length, sec2_len]) rfl) rfl (fun B43 => ?_)
          refine ⟨((hsub (.cons_cons _ (.cons_cons _ (.cons _ (.cons _ (.cons _ (.cons _ (.cons _ (.cons _ (.refl _)))))))))).trans (hsub_pick [6, 6] rfl)), ?_⟩
          refine H_many [1, 3, 6] (by kernel_rfl) (by decide) ⟨⟨_, rfl, rfl, ?_⟩, ⟨_, rfl, rfl, ?_⟩, ⟨_, rfl, rfl, ?_⟩, trivial⟩
          · refine op_y (y_load rfl ag_26 (sees 2 0 rfl) rfl) rfl ?_
            refine ⟨((hsub (.cons_cons _ (.cons_cons _ (.cons _ (.cons _ (.cons _ (.cons _ (.cons _ (.cons _ (.refl _)))))))))).trans (hsub_pick [6, 6] rfl)), ?_⟩
            refine H_two 3 6 rfl rfl (by kernel_rfl) rfl rfl ?_ ?_
            · refine op_buildSlice (vs := [(0, _)]) rfl Try.underlying26 sz_37 zl_37 rfl (by decide) (fill_one rfl (by rw [bs_length, sec2_len]) rfl) rfl (fun B44 => ?_)
              refine ⟨((hsub (.cons_cons _ (.cons_cons _ (.cons _ (.cons _ (.cons _ (.cons _ (.cons _ (.cons _ (.cons _ (.refl _))))))))))).trans (hsub_pick [7, 7] rfl)), ?_⟩
              refine H_two 4 6 rfl rfl (by kernel_rfl) rfl rfl ?_ ?_
              · refine op_append (gs := g0) (len := k) (m := 1) (xs := bs (prX la k).flatten) (vs := bs (sec2 x)) 4 rfl rfl rfl hg0 (src_slice (sees 0 0 rfl) (by simp [bs_length, sec2_len]) (bs_whole0 _ (by rw [sec2_len]))) (by rw [bs_length, sec2_len]) (bs_one _) Try.underlying26 ni_26 sz_37 by_37 (by decide) zl_37 rfl (by omega) rfl (fun g0n hg0n => ?_)
                rw [← bs_append, show (prX la k).flatten ++ sec2 x = (prX la (k + 1)).flatten from by rw [prX_succ hx]; simp] at hg0n ⊢
                refine ⟨((hsub (.cons_cons _ (.cons_cons _ (.cons _ (.cons _ (.cons _ (.cons _ (.cons _ (.cons _ (.cons _ (.refl _))))))))))).trans (hsub_pick [7, 7] rfl)), ?_⟩
                refine H_one 6 rfl (by kernel_rfl) rfl (op_y (y_load rfl ag_26 (sees 3 0 rfl) rfl) rfl ?_)
                refine ⟨((hsub (.cons_cons _ (.cons_cons _ (.cons _ (.cons _ (.cons _ (.cons _ (.cons _ (.cons _ (.cons _ (.refl _))))))))))).trans (hsub_pick [7, 7] rfl)), ?_⟩
                refine H_y 10 rfl (by kernel_rfl) (by kernel_rfl) (by kernel_rfl) (((hsub (.cons_cons _ (.cons_cons _ (.cons _ (.cons _ (.cons _ (.cons _ (.cons _ (.cons _ (.cons _ (.refl _))))))))))).trans (hsub_pick [7, 7] rfl))) rfl (y_indexA rfl rfl Try.underlying27 sz_26 (by omega) (by omega) (show _ = 0 from rfl)) rfl ?_
                refine H_one 9 rfl (by kernel_rfl) rfl (op_append (gs := g1) (len := k) (m := 1) (xs := bs (prX lb k).flatten) (vs := bs (sec2 y)) 5 rfl rfl rfl hg1 (src_slice (sees 1 0 rfl) (by simp [bs_length, sec2_len]) (bs_whole0 _ (by rw [sec2_len]))) (by rw [bs_length, sec2_len]) (bs_one _) Try.underlying26 ni_26 sz_37 by_37 (by decide) zl_37 rfl (by omega) rfl (fun g1n hg1n => ?_))
                rw [← bs_append, show (prX lb k).flatten ++ sec2 y = (prX lb (k + 1)).flatten from by rw [prX_succ hy]; simp] at hg1n ⊢
                refine ⟨((hsub (.cons_cons _ (.cons_cons _ (.cons _ (.cons _ (.cons _ (.cons _ (.cons _ (.cons _ (.cons _ (.refl _))))))))))).trans (hsub_pick [7, 7] rfl)), ?_⟩
                refine H_one 11 rfl (by kernel_rfl) rfl (op_store1 3 0 rfl rfl (one_slV _ _) sz_26 rfl (Nat.le_of_ble_eq_true rfl) ?_)
                refine ⟨((hsub (.cons_cons _ (.cons_cons _ (.cons _ (.cons _ (.cons _ (.cons _ (.cons _ (.cons _ (.cons _ (.refl _))))))))))).trans (hsub_pick [7, 7] rfl)), ?_⟩
                refine H_y 12 rfl (by kernel_rfl) (by kernel_rfl) (by kernel_rfl) (((hsub (.cons_cons _ (.cons_cons _ (.cons _ (.cons _ (.cons _ (.cons _ (.cons _ (.cons _ (.cons _ (.refl _))))))))))).trans (hsub_pick [7, 7] rfl))) rfl (y_indexA rfl rfl Try.underlying27 sz_26 (by omega) (by omega) (show _ = 1 from rfl)) rfl ?_
                refine H_one 13 rfl (by kernel_rfl) rfl (op_store1 3 0 rfl rfl (one_slV _ _) sz_26 rfl (Nat.le_of_ble_eq_true rfl) ?_)
                refine ⟨((hsub (.cons_cons _ (.cons_cons _ (.cons _ (.cons _ (.cons _ (.cons _ (.cons _ (.cons _ (.cons _ (.refl _))))))))))).trans (hsub_pick [7, 7] rfl)), ?_⟩
                refine H_done (by kernel_rfl) ?_
                exact ⟨(D3, _, g0n, g1n), ⟨h3, by have := w3; simp only [Bool.false_eq_true, if_false, if_true] at this; rw [wX_set hx (by omega), wX_set hy (by omega)] at this; exact this, hg0n, hg1n⟩, ⟨rfl, rfl, rfl, rfl, rfl, rfl, rfl, rfl, trivial⟩, ((hsub (.cons_cons _ (.cons_cons _ (.cons_cons _ (.cons_cons _ (.cons_cons _ (.cons _ (.cons _ (.cons _ (.cons _ (.refl _))))))))))).trans (hsub_pick [2, 2, 2, 2, 2] rfl))⟩
              · refine op_y (y_load rfl ag_26 (sees 3 0 rfl) rfl) rfl ?_
                refine ⟨((hsub (.cons_cons _ (.cons_cons _ (.cons _ (.cons _ (.cons _ (.cons _ (.cons _ (.cons _ (.cons _ (.refl _))))))))))).trans (hsub_pick [7, 7] rfl)), ?_⟩
                refine H_one 4 rfl (by kernel_rfl) rfl (op_append (gs := g0) (len := k) (m := 1) (xs := bs (prX la k).flatten) (vs := bs (sec2 x)) 4 rfl rfl rfl hg0 (src_slice (sees 0 0 rfl) (by simp [bs_length, sec2_len]) (bs_whole0 _ (by rw [sec2_len]))) (by rw [bs_length, sec2_len]) (bs_one _) Try.underlying26 ni_26 sz_37 by_37 (by decide) zl_37 rfl (by omega) rfl (fun g0n hg0n => ?_))
                rw [← bs_append, show (prX la k).flatten ++ sec2 x = (prX la (k + 1)).flatten from by rw [prX_succ hx]; simp] at hg0n ⊢
                refine ⟨((hsub (.cons_cons _ (.cons_cons _ (.cons _ (.cons _ (.cons _ (.cons _ (.cons _ (.cons _ (.cons _ (.refl _))))))))))).trans (hsub_pick [7, 7] rfl)), ?_⟩
                refine H_y 10 rfl (by kernel_rfl) (by kernel_rfl) (by kernel_rfl) (((hsub (.cons_cons _ (.cons_cons _ (.cons _ (.cons _ (.cons _ (.cons _ (.cons _ (.cons _ (.cons _ (.refl _))))))))))).trans (hsub_pick [7, 7] rfl))) rfl (y_indexA rfl rfl Try.underlying27 sz_26 (by omega) (by omega) (show _ = 0 from rfl)) rfl ?_
                refine H_one 9 rfl (by kernel_rfl) rfl (op_append (gs := g1) (len := k) (m := 1) (xs := bs (prX lb k).flatten) (vs := bs (sec2 y)) 5 rfl rfl rfl hg1 (src_slice (sees 1 0 rfl) (by simp [bs_length, sec2_len]) (bs_whole0 _ (by rw [sec2_len]))) (by rw [bs_length, sec2_len]) (bs_one _) Try.underlying26 ni_26 sz_37 by_37 (by decide) zl_37 rfl (by omega) rfl (fun g1n hg1n => ?_))
                rw [← bs_append, show (prX lb k).flatten ++ sec2 y = (prX lb (k + 1)).flatten from by rw [prX_succ hy]; simp] at hg1n ⊢
                refine ⟨((hsub (.cons_cons _ (.cons_cons _ (.cons _ (.cons _ (.cons _ (.cons _ (.cons _ (.cons _ (.cons _ (.refl _))))))))))).trans (hsub_pick [7, 7] rfl)), ?_⟩
                refine H_one 11 rfl (by kernel_rfl) rfl (op_store1 3 0 rfl rfl (one_slV _ _) sz_26 rfl (Nat.le_of_ble_eq_true rfl) ?_)
                refine ⟨((hsub (.cons_cons _ (.cons_cons _ (.cons _ (.cons _ (.cons _ (.cons _ (.cons _ (.cons _ (.cons _ (.refl _))))))))))).trans (hsub_pick [7, 7] rfl)), ?_⟩
                refine H_y 12 rfl (by kernel_rfl) (by kernel_rfl) (by kernel_rfl) (((hsub (.cons_cons _ (.cons_cons _ (.cons _ (.cons _ (.cons _ (.cons _ (.cons _ (.cons _ (.cons _ (.refl _))))))))))).trans (hsub_pick [7, 7] rfl))) rfl (y_indexA rfl rfl Try.underlying27 sz_26 (by omega) (by omega) (show _ = 1 from rfl)) rfl ?_
                refine H_one 13 rfl (by kernel_rfl) rfl (op_store1 3 0 rfl rfl (one_slV _ _) sz_26 rfl (Nat.le_of_ble_eq_true rfl) ?_)
                refine ⟨((hsub (.cons_cons _ (.cons_cons _ (.cons _ (.cons _ (.cons _ (.cons _ (.cons _ (.cons _ (.cons _ (.refl _))))))))))).trans (hsub_pick [7, 7] rfl)), ?_⟩
                refine H_done (by kernel_rfl) ?_
                exact ⟨(D3, _, g0n, g1n), ⟨h3, by have := w3; simp only [Bool.false_eq_true, if_false, if_true] at this; rw [wX_set hx (by omega), wX_set hy (by omega)] at this; exact this, hg0n, hg1n⟩, ⟨rfl, rfl, rfl, rfl, rfl, rfl, rfl, rfl, trivial⟩, ((hsub (.cons_cons _ (.cons_cons _ (.cons_cons _ (.cons_cons _ (.cons_cons _ (.cons _ (.cons _ (.cons _ (.cons _ (.refl _))))))))))).trans (hsub_pick [2, 2, 2, 2, 2] rfl))⟩
            · refine op_y (y_load rfl ag_26 (sees 2 0 rfl) rfl) rfl ?_
              refine ⟨((hsub (.cons_cons _ (.cons_cons _ (.cons _ (.cons _ (.cons _ (.cons _ (.cons _ (.cons _ (.refl _)))))))))).trans (hsub_pick [6, 6] rfl)), ?_⟩
              refine H_one 3 rfl (by kernel_rfl) rfl (op_buildSlice (vs := [(0, _)]) rfl Try.underlying26 sz_37 zl_37 rfl (by decide) (fill_one rfl (by rw [bs_length, sec2_len]) rfl) rfl (fun B45 => ?_))
              refine ⟨((hsub (.cons_cons _ (.cons_cons _ (.cons _ (.cons _ (.cons _ (.cons _ (.cons _ (.cons _ (.cons _ (.refl _))))))))))).trans (hsub_pick [7, 7] rfl)), ?_⟩
              refine H_one 4 rfl (by kernel_rfl) rfl (op_append (gs := g0) (len := k) (m := 1) (xs := bs (prX la k).flatten) (vs := bs (sec2 x)) 4 rfl rfl rfl hg0 (src_slice (sees 0 0 rfl) (by simp [bs_length, sec2_len]) (bs_whole0 _ (by rw [sec2_len]))) (by rw [bs_length, sec2_len]) (bs_one _) Try.underlying26 ni_26 sz_37 by_37 (by decide) zl_37 rfl (by omega) rfl (fun g0n hg0n => ?_))
              rw [← bs_append, show (prX la k).flatten ++ sec2 x = (prX la (k + 1)).flatten from by rw [prX_succ hx]; simp] at hg0n ⊢
              refine ⟨((hsub (.cons_cons _ (.cons_cons _ (.cons _ (.cons _ (.cons _ (.cons _ (.cons _ (.cons _ (.cons _ (.refl _))))))))))).trans (hsub_pick [7, 7] rfl)), ?_⟩
              refine H_y 10 rfl (by kernel_rfl) (by kernel_rfl) (by kernel_rfl) (((hsub (.cons_cons _ (.cons_cons _ (.cons _ (.cons _ (.cons _ (.cons _ (.cons _ (.cons _ (.cons _ (.refl _))))))))))).trans (hsub_pick [7, 7] rfl))) rfl (y_indexA rfl rfl Try.underlying27 sz_26 (by omega) (by omega) (show _ = 0 from rfl)) rfl ?_
              refine H_one 9 rfl (by kernel_rfl) rfl (op_append (gs := g1) (len := k) (m := 1) (xs := bs (prX lb k).flatten) (vs := bs (sec2 y)) 5 rfl rfl rfl hg1 (src_slice (sees 1 0 rfl) (by simp [bs_length, sec2_len]) (bs_whole0 _ (by rw [sec2_len]))) (by rw [bs_length, sec2_len]) (bs_one _) Try.underlying26 ni_26 sz_37 by_37 (by decide) zl_37 rfl (by omega) rfl (fun g1n hg1n => ?_))
              rw [← bs_append, show (prX lb k).flatten ++ sec2 y = (prX lb (k + 1)).flatten from by rw [prX_succ hy]; simp] at hg1n ⊢
              refine ⟨((hsub (.cons_cons _ (.cons_cons _ (.cons _ (.cons _ (.cons _ (.cons _ (.cons _ (.cons _ (.cons _ (.refl _))))))))))).trans (hsub_pick [7, 7] rfl)), ?_⟩
              refine H_one 11 rfl (by kernel_rfl) rfl (op_store1 3 0 rfl rfl (one_slV _ _) sz_26 rfl (Nat.le_of_ble_eq_true rfl) ?_)
              refine ⟨((hsub (.cons_cons _ (.cons_cons _ (.cons _ (.cons _ (.cons _ (.cons _ (.cons _ (.cons _ (.cons _ (.refl _))))))))))).trans (hsub_pick [7, 7] rfl)), ?_⟩
              refine H_y 12 rfl (by kernel_rfl) (by kernel_rfl) (by kernel_rfl) (((hsub (.cons_cons _ (.cons_cons _ (.cons _ (.cons _ (.cons _ (.cons _ (.cons _ (.cons _ (.cons _ (.refl _))))))))))).trans (hsub_pick [7, 7] rfl))) rfl (y_indexA rfl rfl Try.underlying27 sz_26 (by omega) (by omega) (show _ = 1 from rfl)) rfl ?_
              refine H_one 13 rfl (by kernel_rfl) rfl (op_store1 3 0 rfl rfl (one_slV _ _) sz_26 rfl (Nat.le_of_ble_eq_true rfl) ?_)
              refine ⟨((hsub (.cons_cons _ (.cons_cons _ (.cons _ (.cons _ (.cons _ (.cons _ (.cons _ (.cons _ (.cons _ (.refl _))))))))))).trans (hsub_pick [7, 7] rfl)), ?_⟩
              refine H_done (by kernel_rfl) ?_
              exact ⟨(D3, _, g0n, g1n), ⟨h3, by have := w3; simp only [Bool.false_eq_true, if_false, if_true] at this; rw [wX_set hx (by omega), wX_set hy (by omega)] at this; exact this, hg0n, hg1n⟩, ⟨rfl, rfl, rfl, rfl, rfl, rfl, rfl, rfl, trivial⟩, ((hsub (.cons_cons _ (.cons_cons _ (.cons_cons _ (.cons_cons _ (.cons_cons _ (.cons _ (.cons _ (.cons _ (.cons _ (.refl _))))))))))).trans (hsub_pick [2, 2, 2, 2, 2] rfl))⟩
          · refine op_buildSlice (vs := [(0, _)]) rfl Try.underlying26 sz_37 zl_37 rfl (by decide) (fill_one rfl (by rw [bs_length, sec2_len]) rfl) rfl (fun B46 => ?_)
            refine ⟨((hsub (.cons_cons _ (.cons_cons _ (.cons _ (.cons _ (.cons _ (.cons _ (.cons _ (.cons _ (.cons _ (.refl _))))))))))).trans (hsub_pick [7, 7] rfl)), ?_⟩
            refine H_two 1 6 rfl rfl (by kernel_rfl) rfl rfl ?_ ?_
            · refine op_y (y_load rfl ag_26 (sees 3 0 rfl) rfl) rfl ?_
              refine ⟨((hsub (.cons_cons _ (.cons_cons _ (.cons _ (.cons _ (.cons _ (.cons _ (.cons _ (.cons _ (.cons _ (.refl _))))))))))).trans (hsub_pick [7, 7] rfl)), ?_⟩
              refine H_two 4 6 rfl rfl (by kernel_rfl) rfl rfl ?_ ?_
              · refine op_append (gs := g0) (len := k) (m := 1) (xs := bs (prX la k).flatten) (vs := bs (sec2 x)) 4 rfl rfl rfl hg0 (src_slice (sees 0 0 rfl) (by simp [bs_length, sec2_len]) (bs_whole0 _ (by rw [sec2_len]))) (by rw [bs_length, sec2_len]) (bs_one _) Try.underlying26 ni_26 sz_37 by_37 (by decide) zl_37 rfl (by omega) rfl (fun g0n hg0n => ?_)
                rw [← bs_append, show (prX la k).flatten ++ sec2 x = (prX la (k + 1)).flatten from by rw [prX_succ hx]; simp] at hg0n ⊢
                refine ⟨((hsub (.cons_cons _ (.cons_cons _ (.cons _ (.cons _ (.cons _ (.cons _ (.cons _ (.cons _ (.cons _ (.refl _))))))))))).trans (hsub_pick [7, 7] rfl)), ?_⟩
                refine H_one 6 rfl (by kernel_rfl) rfl (op_y (y_load rfl ag_26 (sees 3 0 rfl) rfl) rfl ?_)
                refine ⟨((hsub (.cons_cons _ (.cons_cons _ (.cons _ (.cons _ (.cons _ (.cons _ (.cons _ (.cons _ (.cons _ (.refl _))))))))))).trans (hsub_pick [7, 7] rfl)), ?_⟩
                refine H_y 10 rfl (by kernel_rfl) (by kernel_rfl) (by kernel_rfl) (((hsub (.cons_cons _ (.cons_cons _ (.cons _ (.cons _ (.cons _ (.cons _ (.cons _ (.cons _ (.cons _ (.refl _))))))))))).trans (hsub_pick [7, 7] rfl))) rfl (y_indexA rfl rfl Try.underlying27 sz_26 (by omega) (by omega) (show _ = 0 from rfl)) rfl ?_
                refine H_one 9 rfl (by kernel_rfl) rfl (op_append (gs := g1) (len := k) (m := 1) (xs := bs (prX lb k).flatten) (vs := bs (sec2 y)) 5 rfl rfl rfl hg1 (src_slice (sees 1 0 rfl) (by simp [bs_length, sec2_len]) (bs_whole0 _ (by rw [sec2_len]))) (by rw [bs_length, sec2_len]) (bs_one _) Try.underlying26 ni_26 sz_37 by_37 (by decide) zl_37 rfl (by omega) rfl (fun g1n hg1n => ?_))
                rw [← bs_append, show (prX lb k).flatten ++ sec2 y = (prX lb (k + 1)).flatten from by rw [prX_succ hy]; simp] at hg1n ⊢
                refine ⟨((hsub (.cons_cons _ (.cons_cons _ (.cons _ (.cons _ (.cons _ (.cons _ (.cons _ (.cons _ (.cons _ (.refl _))))))))))).trans (hsub_pick [7, 7] rfl)), ?_⟩
                refine H_one 11 rfl (by kernel_rfl) rfl (op_store1 3 0 rfl rfl (one_slV _ _) sz_26 rfl (Nat.le_of_ble_eq_true rfl) ?_)
                refine ⟨((hsub (.cons_cons _ (.cons_cons _ (.cons _ (.cons _ (.cons _ (.cons _ (.cons _ (.cons _ (.cons _ (.refl _))))))))))).trans (hsub_pick [7, 7] rfl)), ?_⟩
                refine H_y 12 rfl (by kernel_rfl) (by kernel_rfl) (by kernel_rfl) (((hsub (.cons_cons _ (.cons_cons _ (.cons _ (.cons _ (.cons _ (.cons _ (.cons _ (.cons _ (.cons _ (.refl _))))))))))).trans (hsub_pick [7, 7] rfl))) rfl (y_indexA rfl rfl Try.underlying27 sz_26 (by omega) (by omega) (show _ = 1 from rfl)) rfl ?_
                refine H_one 13 rfl (by kernel_rfl) rfl (op_store1 3 0 rfl rfl (one_slV _ _) sz_26 rfl (Nat.le_of_ble_eq_true rfl) ?_)
                refine ⟨((hsub (.cons_cons _ (.cons_cons _ (.cons _ (.cons _ (.cons _ (.cons _ (.cons _ (.cons _ (.cons _ (.refl _))))))))))).trans (hsub_pick [7, 7] rfl)), ?_⟩
                refine H_done (by kernel_rfl) ?_
                exact ⟨(D3, _, g0n, g1n), ⟨h3, by have := w3; simp only [Bool.false_eq_true, if_false, if_true] at this; rw [wX_set hx (by omega), wX_set hy (by omega)] at this; exact this, hg0n, hg1n⟩, ⟨rfl, rfl, rfl, rfl, rfl, rfl, rfl, rfl, trivial⟩, ((hsub (.cons_cons _ (.cons_cons _ (.cons_cons _ (.cons_cons _ (.cons_cons _ (.cons _ (.cons _ (.cons _ (.cons _ (.refl _))))))))))).trans (hsub_pick [2, 2, 2, 2, 2] rfl))⟩
              · refine op_y (y_load rfl ag_26 (sees 3 0 rfl) rfl) rfl ?_
                refine ⟨((hsub (.cons_cons _ (.cons_cons _ (.cons _ (.cons _ (.cons _ (.cons _ (.cons _ (.cons _ (.cons _ (.refl _))))))))))).trans (hsub_pick [7, 7] rfl)), ?_⟩
                refine H_one 4 rfl (by kernel_rfl) rfl (op_append (gs := g0) (len := k) (m := 1) (xs := bs (prX la k).flatten) (vs := bs (sec2 x)) 4 rfl rfl rfl hg0 (src_slice (sees 0 0 rfl) (by simp [bs_length, sec2_len]) (bs_whole0 _ (by rw [sec2_len]))) (by rw [bs_length, sec2_len]) (bs_one _) Try.underlying26 ni_26 sz_37 by_37 (by decide) zl_37 rfl (by omega) rfl (fun g0n hg0n => ?_))
                rw [← bs_append, show (prX la k).flatten ++ sec2 x = (prX la (k + 1)).flatten from by rw [prX_succ hx]; simp] at hg0n ⊢
                refine ⟨((hsub (.cons_cons _ (.cons_cons _ (.cons _ (.cons _ (.cons _ (.cons _ (.cons _ (.cons _ (.cons _ (.refl _))))))))))).trans (hsub_pick [7, 7] rfl)), ?_⟩
                refine H_y 10 rfl (by kernel_rfl) (by kernel_rfl) (by kernel_rfl) (((hsub (.cons_cons _ (.cons_cons _ (.cons _ (.cons _ (.cons _ (.cons _ (.cons _ (.cons _ (.cons _ (.refl _))))))))))).trans (hsub_pick [7, 7] rfl))) rfl (y_indexA rfl rfl Try.underlying27 sz_26 (by omega) (by omega) (show _ = 0 from rfl)) rfl ?_
                refine H_one 9 rfl (by kernel_rfl) rfl (op_append (gs := g1) (len := k) (m := 1) (xs := bs (prX lb k).flatten) (vs := bs (sec2 y)) 5 rfl rfl rfl hg1 (src_slice (sees 1 0 rfl) (by simp [bs_length, sec2_len]) (bs_whole0 _ (by rw [sec2_len]))) (by rw [bs_length, sec2_len]) (bs_one _) Try.underlying26 ni_26 sz_37 by_37 (by decide) zl_37 rfl (by omega) rfl (fun g1n hg1n => ?_))
                rw [← bs_append, show (prX lb k).flatten ++ sec2 y = (prX lb (k + 1)).flatten from by rw [prX_succ hy]; simp] at hg1n ⊢
                refine ⟨((hsub (.cons_cons _ (.cons_cons _ (.cons _ (.cons _ (.cons _ (.cons _ (.cons _ (.cons _ (.cons _ (.refl _))))))))))).trans (hsub_pick [7, 7] rfl)), ?_⟩
                refine H_one 11 rfl (by kernel_rfl) rfl (op_store1 3 0 rfl rfl (one_slV _ _) sz_26 rfl (Nat.le_of_ble_eq_true rfl) ?_)
                refine ⟨((hsub (.cons_cons _ (.cons_cons _ (.cons _ (.cons _ (.cons _ (.cons _ (.cons _ (.cons _ (.cons _ (.refl _))))))))))).trans (hsub_pick [7, 7] rfl)), ?_⟩
                refine H_y 12 rfl (by kernel_rfl) (by kernel_rfl) (by kernel_rfl) (((hsub (.cons_cons _ (.cons_cons _ (.cons _ (.cons _ (.cons _ (.cons _ (.cons _ (.cons _ (.cons _ (.refl _))))))))))).trans (hsub_pick [7, 7] rfl))) rfl (y_indexA rfl rfl Try.underlying27 sz_26 (by omega) (by omega) (show _ = 1 from rfl)) rfl ?_
                refine H_one 13 rfl (by kernel_rfl) rfl (op_store1 3 0 rfl rfl (one_slV _ _) sz_26 rfl (Nat.le_of_ble_eq_true rfl) ?_)
                refine ⟨((hsub (.cons_cons _ (.cons_cons _ (.cons _ (.cons _ (.cons _ (.cons _ (.cons _ (.cons _ (.cons _ (.refl _))))))))))).trans (hsub_pick [7, 7] rfl)), ?_⟩
                refine H_done (by kernel_rfl) ?_
                exact ⟨(D3, _, g0n, g1n), ⟨h3, by have := w3; simp only [Bool.false_eq_true, if_false, if_true] at this; rw [wX_set hx (by omega), wX_set hy (by omega)] at this; exact this, hg0n, hg1n⟩, ⟨rfl, rfl, rfl, rfl, rfl, rfl, rfl, rfl, trivial⟩, ((hsub (.cons_cons _ (.cons_cons _ (.cons_cons _ (.cons_cons _ (.cons_cons _ (.cons _ (.cons _ (.cons _ (.cons _ (.refl _))))))))))).trans (hsub_pick [2, 2, 2, 2, 2] rfl))⟩
            · refine op_y (y_load rfl ag_26 (sees 3 0 rfl) rfl) rfl ?_
              refine ⟨((hsub (.cons_cons _ (.cons_cons _ (.cons _ (.cons _ (.cons _ (.cons _ (.cons _ (.cons _ (.cons _ (.refl _))))))))))).trans (hsub_pick [7, 7] rfl)), ?_⟩
              refine H_one 1 rfl (by kernel_rfl) rfl (op_y (y_load rfl ag_26 (sees 3 0 rfl) rfl) rfl ?_)
              refine ⟨((hsub (.cons_cons _ (.cons_cons _ (.cons _ (.cons _ (.cons _ (.cons _ (.cons _ (.cons _ (.cons _ (.refl _))))))))))).trans (hsub_pick [7, 7] rfl)), ?_⟩
              refine H_one 4 rfl (by kernel_rfl) rfl (op_append (gs := g0) (len := k) (m := 1) (xs := bs (prX la k).flatten) (vs := bs (sec2 x)) 4 rfl rfl rfl hg0 (src_slice (sees 0 0 rfl) (by simp [bs_length, sec2_len]) (bs_whole0 _ (by rw [sec2_len]))) (by rw [bs_length, sec2_len]) (bs_one _) Try.underlying26 ni_26 sz_37 by_37 (by decide) zl_37 rfl (by omega) rfl (fun g0n hg0n => ?_))
              rw [← bs_append, show (prX la k).flatten ++ sec2 x = (prX la (k + 1)).flatten from by rw [prX_succ hx]; simp] at hg0n ⊢
              refine ⟨((hsub (.cons_cons _ (.cons_cons _ (.cons _ (.cons _ (.cons _ (.cons _ (.cons _ (.cons _ (.cons _ (.refl _))))))))))).trans (hsub_pick [7, 7] rfl)), ?_⟩
              refine H_y 10 rfl (by kernel_rfl) (by kernel_rfl) (by kernel_rfl) (((hsub (.cons_cons _ (.cons_cons _ (.cons _ (.cons _ (.cons _ (.cons _ (.cons _ (.cons _ (.cons _ (.refl _))))))))))).trans (hsub_pick [7, 7] rfl))) rfl (y_indexA rfl rfl Try.underlying27 sz_26 (by omega) (by omega) (show _ = 0 from rfl)) rfl ?_
              refine H_one 9 rfl (by kernel_rfl) rfl (op_append (gs := g1) (len := k) (m := 1) (xs := bs (prX lb k).flatten) (vs := bs (sec2 y)) 5 rfl rfl rfl hg1 (src_slice (sees 1 0 rfl) (by simp [bs_length, sec2_len]) (bs_whole0 _ (by rw [sec2_len]))) (by rw [bs_length, sec2_len]) (bs_one _) Try.underlying26 ni_26 sz_37 by_37 (by decide) zl_37 rfl (by omega) rfl (fun g1n hg1n => ?_))
              rw [← bs_append, show (prX lb k).flatten ++ sec2 y = (prX lb (k + 1)).flatten from by rw [prX_succ hy]; simp] at hg1n ⊢
              refine ⟨((hsub (.cons_cons _ (.cons_cons _ (.cons _ (.cons _ (.cons _ (.cons _ (.cons _ (.cons _ (.cons _ (.refl _))))))))))).trans (hsub_pick [7, 7] rfl)), ?_⟩
              refine H_one 11 rfl (by kernel_rfl) rfl (op_store1 3 0 rfl rfl (one_slV _ _) sz_26 rfl (Nat.le_of_ble_eq_true rfl) ?_)
              refine ⟨((hsub (.cons_cons _ (.cons_cons _ (.cons _ (.cons _ (.cons _ (.cons _ (.cons _ (.cons _ (.cons _ (.refl _))))))))))).trans (hsub_pick [7, 7] rfl)), ?_⟩
              refine H_y 12 rfl (by kernel_rfl) (by kernel_rfl) (by kernel_rfl) (((hsub (.cons_cons _ (.cons_cons _ (.cons _ (.cons _ (.cons _ (.cons _ (.cons _ (.cons _ (.cons _ (.refl _))))))))))).trans (hsub_pick [7, 7] rfl))) rfl (y_indexA rfl rfl Try.underlying27 sz_26 (by omega) (by omega) (show _ = 1 from rfl)) rfl ?_
              refine H_one 13 rfl (by kernel_rfl) rfl (op_store1 3 0 rfl rfl (one_slV _ _) sz_26 rfl (Nat.le_of_ble_eq_true rfl) ?_)
              refine ⟨((hsub (.cons_cons _ (.cons_cons _ (.cons _ (.cons _ (.cons _ (.cons _ (.cons _ (.cons _ (.cons _ (.refl _))))))))))).trans (hsub_pick [7, 7] rfl)), ?_⟩
              refine H_done (by kernel_rfl) ?_
              exact ⟨(D3, _, g0n, g1n), ⟨h3, by have := w3; simp only [Bool.false_eq_true, if_false, if_true] at this; rw [wX_set hx (by omega), wX_set hy (by omega)] at this; exact this, hg0n, hg1n⟩, ⟨rfl, rfl, rfl, rfl, rfl, rfl, rfl, rfl, trivial⟩, ((hsub (.cons_cons _ (.cons_cons _ (.cons_cons _ (.cons_cons _ (.cons_cons _ (.cons _ (.cons _ (.cons _ (.cons _ (.refl _))))))))))).trans (hsub_pick [2, 2, 2, 2, 2] rfl))⟩
          · refine op_y (y_load rfl ag_26 (sees 2 0 rfl) rfl) rfl ?_
            refine ⟨((hsub (.cons_cons _ (.cons_cons _ (.cons _ (.cons _ (.cons _ (.cons _ (.cons _ (.cons _ (.refl _)))))))))).trans (hsub_pick [6, 6] rfl)), ?_⟩
            refine H_two 1 3 rfl rfl (by kernel_rfl) rfl rfl ?_ ?_
            · refine op_y (y_load rfl ag_26 (sees 2 0 rfl) rfl) rfl ?_
              refine ⟨((hsub (.cons_cons _ (.cons_cons _ (.cons _ (.cons _ (.cons _ (.cons _ (.cons _ (.cons _ (.refl _)))))))))).trans (hsub_pick [6, 6] rfl)), ?_⟩
              refine H_one 3 rfl (by kernel_rfl) rfl (op_buildSlice (vs := [(0, _)]) rfl Try.underlying26 sz_37 zl_37 rfl (by decide) (fill_one rfl (by rw [bs_length, sec2_len]) rfl) rfl (fun B47 => ?_))
              refine ⟨((hsub (.cons_cons _ (.cons_cons _ (.cons _ (.cons _ (.cons _ (.cons _ (.cons _ (.cons _ (.cons _ (.refl _))))))))))).trans (hsub_pick [7, 7] rfl)), ?_⟩
              refine H_one 4 rfl (by kernel_rfl) rfl (op_append (gs := g0) (len := k) (m := 1) (xs := bs (prX la k).flatten) (vs := bs (sec2 x)) 4 rfl rfl rfl hg0 (src_slice (sees 0 0 rfl) (by simp [bs_length, sec2_len]) (bs_whole0 _ (by rw [sec2_len]))) (by rw [bs_length, sec2_len]) (bs_one _) Try.underlying26 ni_26 sz_37 by_37 (by decide) zl_37 rfl (by omega) rfl (fun g0n hg0n => ?_))
              rw [← bs_append, show (prX la k).flatten ++ sec2 x = (prX la (k + 1)).flatten from by rw [prX_succ hx]; simp] at hg0n ⊢
              refine ⟨((hsub (.cons_cons _ (.cons_cons _ (.cons _ (.cons _ (.cons _ (.cons _ (.cons _ (.cons _ (.cons _ (.refl _))))))))))).trans (hsub_pick [7, 7] rfl)), ?_⟩
              refine H_y 10 rfl (by kernel_rfl) (by kernel_rfl) (by kernel_rfl) (((hsub (.cons_cons _ (.cons_cons _ (.cons _ (.cons _ (.cons _ (.cons _ (.cons _ (.cons _ (.cons _ (.refl _))))))))))).trans (hsub_pick [7, 7] rfl))) rfl (y_indexA rfl rfl Try.underlying27 sz_26 (by omega) (by omega) (show _ = 0 from rfl)) rfl ?_
              refine H_one 9 rfl (by kernel_rfl) rfl (op_append (gs := g1) (len := k) (m := 1) (xs := bs (prX lb k).flatten) (vs := bs (sec2 y)) 5 rfl rfl rfl hg1 (src_slice (sees 1 0 rfl) (by simp [bs_length, sec2_len]) (bs_whole0 _ (by rw [sec2_len]))) (by rw [bs_length, sec2_len]) (bs_one _) Try.underlying26 ni_26 sz_37 by_37 (by decide) zl_37 rfl (by omega) rfl (fun g1n hg1n => ?_))
              rw [← bs_append, show (prX lb k).flatten ++ sec2 y = (prX lb (k + 1)).flatten from by rw [prX_succ hy]; simp] at hg1n ⊢
              refine ⟨((hsub (.cons_cons _ (.cons_cons _ (.cons _ (.cons _ (.cons _ (.cons _ (.cons _ (.cons _ (.cons _ (.refl _))))))))))).trans (hsub_pick [7, 7] rfl)), ?_⟩
              refine H_one 11 rfl (by kernel_rfl) rfl (op_store1 3 0 rfl rfl (one_slV _ _) sz_26 rfl (Nat.le_of_ble_eq_true rfl) ?_)
              refine ⟨((hsub (.cons_cons _ (.cons_cons _ (.cons _ (.cons _ (.cons _ (.cons _ (.cons _ (.cons _ (.cons _ (.refl _))))))))))).trans (hsub_pick [7, 7] rfl)), ?_⟩
              refine H_y 12 rfl (by kernel_rfl) (by kernel_rfl) (by kernel_rfl) (((hsub (.cons_cons _ (.cons_cons _ (.cons _ (.cons _ (.cons _ (.cons _ (.cons _ (.cons _ (.cons _ (.refl _))))))))))).trans (hsub_pick [7, 7] rfl))) rfl (y_indexA rfl rfl Try.underlying27 sz_26 (by omega) (by omega) (show _ = 1 from rfl)) rfl ?_
              refine H_one 13 rfl (by kernel_rfl) rfl (op_store1 3 0 rfl rfl (one_slV _ _) sz_26 rfl (Nat.le_of_ble_eq_true rfl) ?_)
              refine ⟨((hsub (.cons_cons _ (.cons_cons _ (.cons _ (.cons _ (.cons _ (.cons _ (.cons _ (.cons _ (.cons _ (.refl _))))))))))).trans (hsub_pick [7, 7] rfl)), ?_⟩
              refine H_done (by kernel_rfl) ?_
              exact ⟨(D3, _, g0n, g1n), ⟨h3, by have := w3; simp only [Bool.false_eq_true, if_false, if_true] at this; rw [wX_set hx (by omega), wX_set hy (by omega)] at this; exact this, hg0n, hg1n⟩, ⟨rfl, rfl, rfl, rfl, rfl, rfl, rfl, rfl, trivial⟩, ((hsub (.cons_cons _ (.cons_cons _ (.cons_cons _ (.cons_cons _ (.cons_cons _ (.cons _ (.cons _ (.cons _ (.cons _ (.refl _))))))))))).trans (hsub_pick [2, 2, 2, 2, 2] rfl))⟩
            · refine op_buildSlice (vs := [(0, _)]) rfl Try.underlying26 sz_37 zl_37 rfl (by decide) (fill_one rfl (by rw [bs_length, sec2_len]) rfl) rfl (fun B48 => ?_)
              refine ⟨((hsub (.cons_cons _ (.cons_cons _ (.cons _ (.cons _ (.cons _ (.cons _ (.cons _ (.cons _ (.cons _ (.refl _))))))))))).trans (hsub_pick [7, 7] rfl)), ?_⟩
              refine H_one 1 rfl (by kernel_rfl) rfl (op_y (y_load rfl ag_26 (sees 3 0 rfl) rfl) rfl ?_)
              refine ⟨((hsub (.cons_cons _ (.cons_cons _ (.cons _ (.cons _ (.cons _ (.cons _ (.cons _ (.cons _ (.cons _ (.refl _))))))))))).trans (hsub_pick [7, 7] rfl)), ?_⟩
              refine H_one 4 rfl (by kernel_rfl) rfl (op_append (gs := g0) (len := k) (m := 1) (xs := bs (prX la k).flatten) (vs := bs (sec2 x)) 4 rfl rfl rfl hg0 (src_slice (sees 0 0 rfl) (by simp [bs_length, sec2_len]) (bs_whole0 _ (by rw [sec2_len]))) (by rw [bs_length, sec2_len]) (bs_one _) Try.underlying26 ni_26 sz_37 by_37 (by decide) zl_37 rfl (by omega) rfl (fun g0n hg0n => ?_))
              rw [← bs_append, show (prX la k).flatten ++ sec2 x = (prX la (k + 1)).flatten from by rw [prX_succ hx]; simp] at hg0n ⊢
              refine ⟨((hsub (.cons_cons _ (.cons_cons _ (.cons _ (.cons _ (.cons _ (.cons _ (.cons _ (.cons _ (.cons _ (.refl _))))))))))).trans (hsub_pick [7, 7] rfl)), ?_⟩
              refine H_y 10 rfl (by kernel_rfl) (by kernel_rfl) (by kernel_rfl) (((hsub (.cons_cons _ (.cons_cons _ (.cons _ (.cons _ (.cons _ (.cons _ (.cons _ (.cons _ (.cons _ (.refl _))))))))))).trans (hsub_pick [7, 7] rfl))) rfl (y_indexA rfl rfl Try.underlying27 sz_26 (by omega) (by omega) (show _ = 0 from rfl)) rfl ?_
              refine H_one 9 rfl (by kernel_rfl) rfl (op_append (gs := g1) (len := k) (m := 1) (xs := bs (prX lb k).flatten) (vs := bs (sec2 y)) 5 rfl rfl rfl hg1 (src_slice (sees 1 0 rfl) (by simp [bs_length, sec2_len]) (bs_whole0 _ (by rw [sec2_len]))) (by rw [bs_length, sec2_len]) (bs_one _) Try.underlying26 ni_26 sz_37 by_37 (by decide) zl_37 rfl (by omega) rfl (fun g1n hg1n => ?_))
              rw [← bs_append, show (prX lb k).flatten ++ sec2 y = (prX lb (k + 1)).flatten from by rw [prX_succ hy]; simp] at hg1n ⊢
              refine ⟨((hsub (.cons_cons _ (.cons_cons _ (.cons _ (.cons _ (.cons _ (.cons _ (.cons _ (.cons _ (.cons _ (.refl _))))))))))).trans (hsub_pick [7, 7] rfl)), ?_⟩
              refine H_one 11 rfl (by kernel_rfl) rfl (op_store1 3 0 rfl rfl (one_slV _ _) sz_26 rfl (Nat.le_of_ble_eq_true rfl) ?_)
              refine ⟨((hsub (.cons_cons _ (.cons_cons _ (.cons _ (.cons _ (.cons _ (.cons _ (.cons _ (.cons _ (.cons _ (.refl _))))))))))).trans (hsub_pick [7, 7] rfl)), ?_⟩
              refine H_y 12 rfl (by kernel_rfl) (by kernel_rfl) (by kernel_rfl) (((hsub (.cons_cons _ (.cons_cons _ (.cons _ (.cons _ (.cons _ (.cons _ (.cons _ (.cons _ (.cons _ (.refl _))))))))))).trans (hsub_pick [7, 7] rfl))) rfl (y_indexA rfl rfl Try.underlying27 sz_26 (by omega) (by omega) (show _ = 1 from rfl)) rfl ?_
              refine H_one 13 rfl (by kernel_rfl) rfl (op_store1 3 0 rfl rfl (one_slV _ _) sz_26 rfl (Nat.le_of_ble_eq_true rfl) ?_)
              refine ⟨((hsub (.cons_cons _ (.cons_cons _ (.cons _ (.cons _ (.cons _ (.cons _ (.cons _ (.cons _ (.cons _ (.refl _))))))))))).trans (hsub_pick [7, 7] rfl)), ?_⟩
              refine H_done (by kernel_rfl) ?_
              exact ⟨(D3, _, g0n, g1n), ⟨h3, by have := w3; simp only [Bool.false_eq_true, if_false, if_true] at this; rw [wX_set hx (by omega), wX_set hy (by omega)] at this; exact this, hg0n, hg1n⟩, ⟨rfl, rfl, rfl, rfl, rfl, rfl, rfl, rfl, trivial⟩, ((hsub (.cons_cons _ (.cons_cons _ (.cons_cons _ (.cons_cons _ (.cons_cons _ (.cons _ (.cons _ (.cons _ (.cons _ (.refl _))))))))))).trans (hsub_pick [2, 2, 2, 2, 2] rfl))⟩
    · obtain ⟨D2, A2, g2, g3⟩ := i
      obtain ⟨hT2, hV2, hg2, hg3⟩ := hi
      simp only at hT2 hV2 hg2 hg3
      dsimp only
      refine C_region ?_
      refine L_y rfl (y_add rfl rfl (wi64 (by omega) (by omega))) rfl ?_
      refine L_y rfl (y_move rfl) rfl ?_
      refine L_nil ?_
      exact ⟨(D2, A2, k + 1, g2, g3), ⟨hT2, hV2, by simp only; omega, hg2, hg3⟩, by simp only; omega, ⟨rfl, rfl, rfl, rfl, rfl, rfl, rfl, rfl, trivial⟩, HSub.refl _⟩
  · replace hc0 := of_decide_eq_false hc0
    refine C_exit ?_
    refine C_seq ?_
    obtain rfl : k = (min la.length lb.length) := by omega
    rw [wX_all, wX_all] at hV
    refine C_region ?_
    refine L_y rfl (y_move rfl) rfl ?_
    refine L_op rfl (op_call rfl rfl (fun a w => Try.call42 a w) rfl ?_)
    obtain ⟨e4, w4⟩ := hV.flush false
    refine ((flush_d hT false).sub (hsub_pick [0] rfl)).mono ?_
    rintro _ _ ⟨rfl, D4, h4, rfl⟩
    refine ⟨_, rfl, ?_⟩
    refine L_nil ?_
    refine C_seq ?_
    refine C_region ?_
    refine L_y rfl (y_move rfl) rfl ?_
    refine L_op rfl (op_call rfl rfl (fun a w => Try.call42 a w) rfl ?_)
    obtain ⟨e5, w5⟩ := w4.flush true
    refine ((flush_d h4 true).sub (hsub_pick [0] rfl)).mono ?_
    rintro _ _ ⟨rfl, D5, h5, rfl⟩
    refine ⟨_, rfl, ?_⟩
    refine L_nil ?_
    refine C_seq ?_
    refine C_regionH H (by kernel_rfl) ?_
    refine H_y 0 rfl (by kernel_rfl) (by kernel_rfl) (by kernel_rfl) (hsub (.cons _ (.cons _ (.cons _ (.cons _ (.cons _ (.refl _))))))) rfl (y_move rfl) rfl ?_
    refine H_y 1 rfl (by kernel_rfl) (by kernel_rfl) (by kernel_rfl) (hsub (.cons _ (.cons _ (.cons _ (.cons _ (.cons _ (.refl _))))))) rfl (y_move rfl) rfl ?_
    refine H_y 2 rfl (by kernel_rfl) (by kernel_rfl) (by kernel_rfl) (hsub (.cons _ (.cons _ (.cons _ (.cons _ (.cons _ (.refl _))))))) rfl (y_move rfl) rfl ?_
    refine H_y 3 rfl (by kernel_rfl) (by kernel_rfl) (by kernel_rfl) (hsub (.cons _ (.cons _ (.cons _ (.cons _ (.cons _ (.refl _))))))) rfl (y_move rfl) rfl ?_
    refine H_two 4 5 rfl rfl (by kernel_rfl) rfl rfl ?_ ?_
    · refine op_call rfl rfl (fun a w => Try.call31 a w) rfl ?_
      refine (FnS.sub (hsub_pick [0] rfl) (mnew_fn (f := 26) (cap := []) h5)).mono ?_
      rintro _ _ ⟨mb, r0, r1, rfl, rfl⟩
      refine ⟨_, rfl, ?_⟩
      refine ⟨hsub (.cons _ (.cons _ (.cons _ (.cons _ (.cons _ (.cons _ (.refl _))))))), ?_⟩
      refine H_y 6 rfl (by kernel_rfl) (by kernel_rfl) (by kernel_rfl) (hsub (.cons _ (.cons _ (.cons _ (.cons _ (.cons _ (.cons _ (.refl _)))))))) rfl (y_assign rfl) rfl ?_
      refine H_y 7 rfl (by kernel_rfl) (by kernel_rfl) (by kernel_rfl) (hsub (.cons _ (.cons _ (.cons _ (.cons _ (.cons _ (.cons _ (.refl _)))))))) rfl (y_assign rfl) rfl ?_
      refine H_y 8 rfl (by kernel_rfl) (by kernel_rfl) (by kernel_rfl) (hsub (.cons _ (.cons _ (.cons _ (.cons _ (.cons _ (.cons _ (.refl _)))))))) rfl (y_assign rfl) rfl ?_
      refine H_one 5 rfl (by kernel_rfl) rfl (op_y (y_loadA rfl ag_27 sz_27 (sees 2 0 rfl) (Nat.le_of_ble_eq_true rfl) rfl) rfl ?_)
      refine ⟨hsub (.cons _ (.cons _ (.cons _ (.cons _ (.cons _ (.cons _ (.refl _))))))), ?_⟩
      refine H_one 9 rfl (by kernel_rfl) rfl (op_store (vs := [slV g0 (min la.length lb.length), slV g1 (min la.length lb.length)]) 5 0 rfl rfl rfl sz_27 rfl rfl (fun v hv => by simp at hv; rcases hv with rfl | rfl <;> exact one_slV _ _) (Nat.le_of_ble_eq_true rfl) ?_)
      refine ⟨hsub (.cons _ (.cons _ (.cons _ (.cons _ (.cons _ (.cons _ (.refl _))))))), ?_⟩
      refine H_done (by kernel_rfl) ?_
      refine C_ret ?_
      refine B_ret (rv_tmp rfl (rv_tmp rfl (rv_tmp rfl (rv_cellA rfl ag_27 sz_27 (sees 5 0 rfl) (Nat.le_of_ble_eq_true rfl) rfl rv_nil)))) ((hsub (.cons_cons _ (.cons_cons _ (.cons_cons _ (.cons_cons _ (.cons _ (.cons _ (.refl _)))))))).trans (hsub_pick [0, 0, 1, 1] rfl)) ?_
      have hw := w5
      simp only [Bool.false_eq_true, if_false, if_true] at hw
      have ht0 := hw.thr false
      have ht1 := hw.thr true
      have hl0 := hw.a.len
      have hl1 := hw.b.len
      refine ⟨D5, _, mnew _ d91.b by1 _ mb r0 r1, p1.b, g0, g1, h5, hw, ?_, ?_, ?_, rfl, hg0, hg1, rfl, rfl⟩
      · show min _ _ = _; rw [hl0, hl1]; omega
      · show stale0 _ _ = []; rw [ht0]; rfl
      · show stale0 _ _ = []; rw [ht1]; rfl
    · refine op_y (y_loadA rfl ag_27 sz_27 (sees 1 0 rfl) (Nat.le_of_ble_eq_true rfl) rfl) rfl ?_
      refine ⟨hsub (.cons _ (.cons _ (.cons _ (.cons _ (.cons _ (.refl _)))))), ?_⟩
      refine H_one 4 rfl (by kernel_rfl) rfl (op_call rfl rfl (fun a w => Try.call31 a w) rfl ?_)
      refine (FnS.sub (hsub_pick [0] rfl) (mnew_fn (f := 26) (cap := []) h5)).mono ?_
      rintro _ _ ⟨mb, r0, r1, rfl, rfl⟩
      refine ⟨_, rfl, ?_⟩
      refine ⟨hsub (.cons _ (.cons _ (.cons _ (.cons _ (.cons _ (.cons _ (.refl _))))))), ?_⟩
      refine H_y 6 rfl (by kernel_rfl) (by kernel_rfl) (by kernel_rfl) (hsub (.cons _ (.cons _ (.cons _ (.cons _ (.cons _ (.cons _ (.refl _)))))))) rfl (y_assign rfl) rfl ?_
      refine H_y 7 rfl (by kernel_rfl) (by kernel_rfl) (by kernel_rfl) (hsub (.cons _ (.cons _ (.cons _ (.cons _ (.cons _ (.cons _ (.refl _)))))))) rfl (y_assign rfl) rfl ?_
      refine H_y 8 rfl (by kernel_rfl) (by kernel_rfl) (by kernel_rfl) (hsub (.cons _ (.cons _ (.cons _ (.cons _ (.cons _ (.cons _ (.refl _)))))))) rfl (y_assign rfl) rfl ?_
      refine H_one 9 rfl (by kernel_rfl) rfl (op_store (vs := [slV g0 (min la.length lb.length), slV g1 (min la.length lb.length)]) 5 0 rfl rfl rfl sz_27 rfl rfl (fun v hv => by simp at hv; rcases hv with rfl | rfl <;> exact one_slV _ _) (Nat.le_of_ble_eq_true rfl) ?_)
      refine ⟨hsub (.cons _ (.cons _ (.cons _ (.cons _ (.cons _ (.cons _ (.refl _))))))), ?_⟩
      refine H_done (by kernel_rfl) ?_
      refine C_ret ?_
      refine B_ret (rv_tmp rfl (rv_tmp rfl (rv_tmp rfl (rv_cellA rfl ag_27 sz_27 (sees 5 0 rfl) (Nat.le_of_ble_eq_true rfl) rfl rv_nil)))) ((hsub (.cons_cons _ (.cons_cons _ (.cons_cons _ (.cons_cons _ (.cons _ (.cons _ (.refl _)))))))).trans (hsub_pick [0, 0, 1, 1] rfl)) ?_
      have hw := w5
      simp only [Bool.false_eq_true, if_false, if_true] at hw
      have ht0 := hw.thr false
      have ht1 := hw.thr true
      have hl0 := hw.a.len
      have hl1 := hw.b.len
      refine ⟨D5, _, mnew _ d91.b by1 _ mb r0 r1, p1.b, g0, g1, h5, hw, ?_, ?_, ?_, rfl, hg0, hg1, rfl, rfl⟩
      · show min _ _ = _; rw [hl0, hl1]; omega
      · show stale0 _ _ = []; rw [ht0]; rfl
      · show stale0 _ _ = []; rw [ht1]; rfl

end Go.Proofs.Ytoaalclbplgegaa
