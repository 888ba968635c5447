/- walks (own work; the walks' lines by a program of this repo). -/
import Derived.Test.YtoaalclbplgegaaSoW
set_option linter.unusedVariables false
set_option linter.unusedSimpArgs false
set_option maxRecDepth 20000
namespace Go.Proofs.Ytoaalclbplgegaa
open Go.Sl
attribute [local irreducible] BodyQ WpC WpL WpS WpH OpW FnS



set_option maxHeartbeats 4000000 in

theorem scrubstale_t {w0 : World} {H : Hp} (n a : Nat) (hn : n < 256) (ha : a < 256) (u v : UInt8) (hg : goodP ((a % (1 + n % 6) : Nat) : Int) (sec3 u v 7) = true) : FnS Try.prog w0 10 #[.int .u8 (n : Int), .int .u8 (a : Int), .agg (bs [u, v]).toArray] H (fun e H' => e = .returned (.bool true)) := by
  refine FnS_intro (n := 120) (rs := [.tmp 6]) (vs := [.int .u8 (n : Int), .int .u8 (a : Int), .agg (bs [u, v]).toArray]) Try.func10 rfl Try.ntmps10 rfl rfl ?_
  refine C_seq ?_
  refine C_region ?_
  refine L_op rfl (op_box rfl rfl rfl (fun B1 => ?_))
  refine L_y rfl (y_assign rfl) rfl ?_
  refine L_nil ?_
  refine C_seq ?_
  refine C_seq ?_
  refine C_region ?_
  refine L_op rfl (op_call rfl rfl (fun a w => Try.call13 a w) rfl ?_)
  refine awake10_s.mono ?_
  rintro _ _ ⟨rfl, e⟩
  obtain rfl := e.symm
  refine ⟨_, rfl, ?_⟩
  refine L_y rfl (y_not rfl) rfl ?_
  refine L_nil ?_
  refine C_cond_f rfl ?_
  refine C_skip ?_
  refine C_seq ?_
  obtain ⟨K, hK⟩ : ∃ K, 1 + n % 6 = K := ⟨_, rfl⟩
  rw [hK] at hg
  refine C_region ?_
  refine L_y rfl (y_move rfl) rfl ?_
  refine L_y rfl (y_conv rfl us_5 Try.underlying3 (wi64 (by omega) (by omega))) rfl ?_
  refine L_y rfl (y_rem rfl rfl (by decide) (show _ = ((n % 6 : Nat) : Int) from rfl)) rfl ?_
  refine L_y rfl (y_add rfl rfl (show _ = ((K : Nat) : Int) from by rw [wi64 (by omega) (by omega)]; omega)) rfl ?_
  refine L_y rfl (y_assign rfl) rfl ?_
  refine L_nil ?_
  refine C_cutG (ι := Duo × Da × Mi × Nat) (fun i => Ms dt (.func (.func 26) #[] ([] : List Value).toArray) i.1 i.2.1 i.2.2.1 K (prX (List.replicate K (0, 0)) K) (prX (List.replicate K (0, 0)) K) 0 0 i.2.2.1.b i.2.2.1.bx i.2.2.1.bys i.2.2.2) (fun i => [(1, .int .u8 (a : Int)), (5, ptr B1), (7, .int .i64 (K : Int)), (8, ptr i.2.2.1.bx), (9, ptr i.2.2.1.bys), (10, ptr i.2.2.1.b)]) (fun i => i.2.2.1.seg 109 :: i.1.seg dt :: [(B1, .cells (bs [u, v]).toArray 58)] :: H) ?_ (fun i hi => ?_)
  · refine C_regionH0 (by kernel_rfl) ?_
    refine H_y 0 rfl (by kernel_rfl) (by kernel_rfl) (by kernel_rfl) (HSub.refl _) rfl (y_move rfl) rfl ?_
    refine H_y 2 rfl (by kernel_rfl) (by kernel_rfl) (by kernel_rfl) (HSub.refl _) rfl (y_move rfl) rfl ?_
    refine H_many [1, 3, 10] (by kernel_rfl) (by decide) ⟨⟨_, rfl, rfl, ?_⟩, ⟨_, rfl, rfl, ?_⟩, ⟨_, rfl, rfl, ?_⟩, trivial⟩
    · refine op_makeSlice rfl Try.underlying22 by_58 sz_58 zl_58 rfl (by omega) (by omega) (by omega) rfl (fun B2 => ?_)
      refine ⟨hsub (.cons _ (.refl _)), ?_⟩
      refine H_two 3 10 rfl rfl (by kernel_rfl) rfl rfl ?_ ?_
      · refine op_makeSlice rfl Try.underlying22 by_58 sz_58 zl_58 rfl (by omega) (by omega) (by omega) rfl (fun B3 => ?_)
        refine ⟨hsub (.cons _ (.cons _ (.refl _))), ?_⟩
        refine H_two 4 10 rfl rfl (by kernel_rfl) rfl rfl ?_ ?_
        · refine op_call rfl rfl (fun a w => Try.call14 a w) rfl ?_
          refine FnS.mono (pair_z (K := K) (by omega) (sees 1 0 rfl) (sees 0 0 rfl)) ?_
          rintro _ _ ⟨D1, A1, m1, mb1, bx1, by1, bp1, ga1, gb1, hS1, hga1, hgb1, rfl, rfl⟩
          obtain rfl := hS1.mb
          obtain rfl := hS1.bx
          obtain rfl := hS1.bys
          refine ⟨_, rfl, ?_⟩
          refine ⟨hsub (.cons _ (.cons _ (.cons _ (.cons _ (.cons _ (.cons _ (.refl _))))))), ?_⟩
          refine H_y 5 rfl (by kernel_rfl) (by kernel_rfl) (by kernel_rfl) (hsub (.cons _ (.cons _ (.cons _ (.cons _ (.cons _ (.cons _ (.refl _)))))))) rfl (y_move rfl) rfl ?_
          refine H_y 6 rfl (by kernel_rfl) (by kernel_rfl) (by kernel_rfl) (hsub (.cons _ (.cons _ (.cons _ (.cons _ (.cons _ (.cons _ (.refl _)))))))) rfl (y_extract rfl rfl) rfl ?_
          refine H_y 7 rfl (by kernel_rfl) (by kernel_rfl) (by kernel_rfl) (hsub (.cons _ (.cons _ (.cons _ (.cons _ (.cons _ (.cons _ (.refl _)))))))) rfl (y_extract rfl rfl) rfl ?_
          refine H_y 8 rfl (by kernel_rfl) (by kernel_rfl) (by kernel_rfl) (hsub (.cons _ (.cons _ (.cons _ (.cons _ (.cons _ (.cons _ (.refl _)))))))) rfl (y_extract rfl rfl) rfl ?_
          refine H_y 9 rfl (by kernel_rfl) (by kernel_rfl) (by kernel_rfl) (hsub (.cons _ (.cons _ (.cons _ (.cons _ (.cons _ (.cons _ (.refl _)))))))) rfl (y_extract rfl rfl) rfl ?_
          refine H_one 10 rfl (by kernel_rfl) rfl (op_alloc zl_27 rfl (fun B4 => ?_))
          refine ⟨hsub (.cons _ (.cons _ (.cons _ (.cons _ (.cons _ (.cons _ (.cons _ (.refl _)))))))), ?_⟩
          refine H_y 11 rfl (by kernel_rfl) (by kernel_rfl) (by kernel_rfl) (hsub (.cons _ (.cons _ (.cons _ (.cons _ (.cons _ (.cons _ (.cons _ (.refl _))))))))) rfl (y_assign rfl) rfl ?_
          refine H_y 12 rfl (by kernel_rfl) (by kernel_rfl) (by kernel_rfl) (hsub (.cons _ (.cons _ (.cons _ (.cons _ (.cons _ (.cons _ (.cons _ (.refl _))))))))) rfl (y_assign rfl) rfl ?_
          refine H_y 13 rfl (by kernel_rfl) (by kernel_rfl) (by kernel_rfl) (hsub (.cons _ (.cons _ (.cons _ (.cons _ (.cons _ (.cons _ (.cons _ (.refl _))))))))) rfl (y_assign rfl) rfl ?_
          refine H_one 14 rfl (by kernel_rfl) rfl (op_store (vs := [slV ga1 K, slV gb1 K]) 0 0 rfl rfl rfl sz_27 rfl rfl (fun v hv => by simp at hv; rcases hv with rfl | rfl <;> exact one_slV _ _) (Nat.le_of_ble_eq_true rfl) ?_)
          refine ⟨hsub (.cons _ (.cons _ (.cons _ (.cons _ (.cons _ (.cons _ (.cons _ (.refl _)))))))), ?_⟩
          refine H_done (by kernel_rfl) ?_
          exact ⟨(D1, A1, m1, bp1), hS1, ⟨rfl, rfl, rfl, rfl, rfl, rfl, trivial⟩, ((hsub (.cons_cons _ (.cons_cons _ (.cons_cons _ (.cons _ (.cons _ (.cons _ (.cons _ (.cons _ (.refl _)))))))))).trans (hsub_pick [1, 1, 5] rfl))⟩
        · refine op_alloc zl_27 rfl (fun B5 => ?_)
          refine ⟨hsub (.cons _ (.cons _ (.cons _ (.refl _)))), ?_⟩
          refine H_one 4 rfl (by kernel_rfl) rfl (op_call rfl rfl (fun a w => Try.call14 a w) rfl ?_)
          refine FnS.mono (pair_z (K := K) (by omega) (sees 2 0 rfl) (sees 1 0 rfl)) ?_
          rintro _ _ ⟨D2, A2, m2, mb2, bx2, by2, bp2, ga2, gb2, hS2, hga2, hgb2, rfl, rfl⟩
          obtain rfl := hS2.mb
          obtain rfl := hS2.bx
          obtain rfl := hS2.bys
          refine ⟨_, rfl, ?_⟩
          refine ⟨hsub (.cons _ (.cons _ (.cons _ (.cons _ (.cons _ (.cons _ (.cons _ (.refl _)))))))), ?_⟩
          refine H_y 5 rfl (by kernel_rfl) (by kernel_rfl) (by kernel_rfl) (hsub (.cons _ (.cons _ (.cons _ (.cons _ (.cons _ (.cons _ (.cons _ (.refl _))))))))) rfl (y_move rfl) rfl ?_
          refine H_y 6 rfl (by kernel_rfl) (by kernel_rfl) (by kernel_rfl) (hsub (.cons _ (.cons _ (.cons _ (.cons _ (.cons _ (.cons _ (.cons _ (.refl _))))))))) rfl (y_extract rfl rfl) rfl ?_
          refine H_y 7 rfl (by kernel_rfl) (by kernel_rfl) (by kernel_rfl) (hsub (.cons _ (.cons _ (.cons _ (.cons _ (.cons _ (.cons _ (.cons _ (.refl _))))))))) rfl (y_extract rfl rfl) rfl ?_
          refine H_y 8 rfl (by kernel_rfl) (by kernel_rfl) (by kernel_rfl) (hsub (.cons _ (.cons _ (.cons _ (.cons _ (.cons _ (.cons _ (.cons _ (.refl _))))))))) rfl (y_extract rfl rfl) rfl ?_
          refine H_y 9 rfl (by kernel_rfl) (by kernel_rfl) (by kernel_rfl) (hsub (.cons _ (.cons _ (.cons _ (.cons _ (.cons _ (.cons _ (.cons _ (.refl _))))))))) rfl (y_extract rfl rfl) rfl ?_
          refine H_y 11 rfl (by kernel_rfl) (by kernel_rfl) (by kernel_rfl) (hsub (.cons _ (.cons _ (.cons _ (.cons _ (.cons _ (.cons _ (.cons _ (.refl _))))))))) rfl (y_assign rfl) rfl ?_
          refine H_y 12 rfl (by kernel_rfl) (by kernel_rfl) (by kernel_rfl) (hsub (.cons _ (.cons _ (.cons _ (.cons _ (.cons _ (.cons _ (.cons _ (.refl _))))))))) rfl (y_assign rfl) rfl ?_
          refine H_y 13 rfl (by kernel_rfl) (by kernel_rfl) (by kernel_rfl) (hsub (.cons _ (.cons _ (.cons _ (.cons _ (.cons _ (.cons _ (.cons _ (.refl _))))))))) rfl (y_assign rfl) rfl ?_
          refine H_one 14 rfl (by kernel_rfl) rfl (op_store (vs := [slV ga2 K, slV gb2 K]) 4 0 rfl rfl rfl sz_27 rfl rfl (fun v hv => by simp at hv; rcases hv with rfl | rfl <;> exact one_slV _ _) (Nat.le_of_ble_eq_true rfl) ?_)
          refine ⟨hsub (.cons _ (.cons _ (.cons _ (.cons _ (.cons _ (.cons _ (.cons _ (.refl _)))))))), ?_⟩
          refine H_done (by kernel_rfl) ?_
          exact ⟨(D2, A2, m2, bp2), hS2, ⟨rfl, rfl, rfl, rfl, rfl, rfl, trivial⟩, ((hsub (.cons_cons _ (.cons_cons _ (.cons_cons _ (.cons _ (.cons _ (.cons _ (.cons _ (.cons _ (.refl _)))))))))).trans (hsub_pick [0, 0, 5] rfl))⟩
      · refine op_alloc zl_27 rfl (fun B6 => ?_)
        refine ⟨hsub (.cons _ (.cons _ (.refl _))), ?_⟩
        refine H_one 3 rfl (by kernel_rfl) rfl (op_makeSlice rfl Try.underlying22 by_58 sz_58 zl_58 rfl (by omega) (by omega) (by omega) rfl (fun B7 => ?_))
        refine ⟨hsub (.cons _ (.cons _ (.cons _ (.refl _)))), ?_⟩
        refine H_one 4 rfl (by kernel_rfl) rfl (op_call rfl rfl (fun a w => Try.call14 a w) rfl ?_)
        refine FnS.mono (pair_z (K := K) (by omega) (sees 2 0 rfl) (sees 0 0 rfl)) ?_
        rintro _ _ ⟨D3, A3, m3, mb3, bx3, by3, bp3, ga3, gb3, hS3, hga3, hgb3, rfl, rfl⟩
        obtain rfl := hS3.mb
        obtain rfl := hS3.bx
        obtain rfl := hS3.bys
        refine ⟨_, rfl, ?_⟩
        refine ⟨hsub (.cons _ (.cons _ (.cons _ (.cons _ (.cons _ (.cons _ (.cons _ (.refl _)))))))), ?_⟩
        refine H_y 5 rfl (by kernel_rfl) (by kernel_rfl) (by kernel_rfl) (hsub (.cons _ (.cons _ (.cons _ (.cons _ (.cons _ (.cons _ (.cons _ (.refl _))))))))) rfl (y_move rfl) rfl ?_
        refine H_y 6 rfl (by kernel_rfl) (by kernel_rfl) (by kernel_rfl) (hsub (.cons _ (.cons _ (.cons _ (.cons _ (.cons _ (.cons _ (.cons _ (.refl _))))))))) rfl (y_extract rfl rfl) rfl ?_
        refine H_y 7 rfl (by kernel_rfl) (by kernel_rfl) (by kernel_rfl) (hsub (.cons _ (.cons _ (.cons _ (.cons _ (.cons _ (.cons _ (.cons _ (.refl _))))))))) rfl (y_extract rfl rfl) rfl ?_
        refine H_y 8 rfl (by kernel_rfl) (by kernel_rfl) (by kernel_rfl) (hsub (.cons _ (.cons _ (.cons _ (.cons _ (.cons _ (.cons _ (.cons _ (.refl _))))))))) rfl (y_extract rfl rfl) rfl ?_
        refine H_y 9 rfl (by kernel_rfl) (by kernel_rfl) (by kernel_rfl) (hsub (.cons _ (.cons _ (.cons _ (.cons _ (.cons _ (.cons _ (.cons _ (.refl _))))))))) rfl (y_extract rfl rfl) rfl ?_
        refine H_y 11 rfl (by kernel_rfl) (by kernel_rfl) (by kernel_rfl) (hsub (.cons _ (.cons _ (.cons _ (.cons _ (.cons _ (.cons _ (.cons _ (.refl _))))))))) rfl (y_assign rfl) rfl ?_
        refine H_y 12 rfl (by kernel_rfl) (by kernel_rfl) (by kernel_rfl) (hsub (.cons _ (.cons _ (.cons _ (.cons _ (.cons _ (.cons _ (.cons _ (.refl _))))))))) rfl (y_assign rfl) rfl ?_
        refine H_y 13 rfl (by kernel_rfl) (by kernel_rfl) (by kernel_rfl) (hsub (.cons _ (.cons _ (.cons _ (.cons _ (.cons _ (.cons _ (.cons _ (.refl _))))))))) rfl (y_assign rfl) rfl ?_
        refine H_one 14 rfl (by kernel_rfl) rfl (op_store (vs := [slV ga3 K, slV gb3 K]) 5 0 rfl rfl rfl sz_27 rfl rfl (fun v hv => by simp at hv; rcases hv with rfl | rfl <;> exact one_slV _ _) (Nat.le_of_ble_eq_true rfl) ?_)
        refine ⟨hsub (.cons _ (.cons _ (.cons _ (.cons _ (.cons _ (.cons _ (.cons _ (.refl _)))))))), ?_⟩
        refine H_done (by kernel_rfl) ?_
        exact ⟨(D3, A3, m3, bp3), hS3, ⟨rfl, rfl, rfl, rfl, rfl, rfl, trivial⟩, ((hsub (.cons_cons _ (.cons_cons _ (.cons_cons _ (.cons _ (.cons _ (.cons _ (.cons _ (.cons _ (.refl _)))))))))).trans (hsub_pick [0, 0, 5] rfl))⟩
    · refine op_makeSlice rfl Try.underlying22 by_58 sz_58 zl_58 rfl (by omega) (by omega) (by omega) rfl (fun B8 => ?_)
      refine ⟨hsub (.cons _ (.refl _)), ?_⟩
      refine H_two 1 10 rfl rfl (by kernel_rfl) rfl rfl ?_ ?_
      · refine op_makeSlice rfl Try.underlying22 by_58 sz_58 zl_58 rfl (by omega) (by omega) (by omega) rfl (fun B9 => ?_)
        refine ⟨hsub (.cons _ (.cons _ (.refl _))), ?_⟩
        refine H_two 4 10 rfl rfl (by kernel_rfl) rfl rfl ?_ ?_
        · refine op_call rfl rfl (fun a w => Try.call14 a w) rfl ?_
          refine FnS.mono (pair_z (K := K) (by omega) (sees 0 0 rfl) (sees 1 0 rfl)) ?_
          rintro _ _ ⟨D4, A4, m4, mb4, bx4, by4, bp4, ga4, gb4, hS4, hga4, hgb4, rfl, rfl⟩
          obtain rfl := hS4.mb
          obtain rfl := hS4.bx
          obtain rfl := hS4.bys
          refine ⟨_, rfl, ?_⟩
          refine ⟨hsub (.cons _ (.cons _ (.cons _ (.cons _ (.cons _ (.cons _ (.refl _))))))), ?_⟩
          refine H_y 5 rfl (by kernel_rfl) (by kernel_rfl) (by kernel_rfl) (hsub (.cons _ (.cons _ (.cons _ (.cons _ (.cons _ (.cons _ (.refl _)))))))) rfl (y_move rfl) rfl ?_
          refine H_y 6 rfl (by kernel_rfl) (by kernel_rfl) (by kernel_rfl) (hsub (.cons _ (.cons _ (.cons _ (.cons _ (.cons _ (.cons _ (.refl _)))))))) rfl (y_extract rfl rfl) rfl ?_
          refine H_y 7 rfl (by kernel_rfl) (by kernel_rfl) (by kernel_rfl) (hsub (.cons _ (.cons _ (.cons _ (.cons _ (.cons _ (.cons _ (.refl _)))))))) rfl (y_extract rfl rfl) rfl ?_
          refine H_y 8 rfl (by kernel_rfl) (by kernel_rfl) (by kernel_rfl) (hsub (.cons _ (.cons _ (.cons _ (.cons _ (.cons _ (.cons _ (.refl _)))))))) rfl (y_extract rfl rfl) rfl ?_
          refine H_y 9 rfl (by kernel_rfl) (by kernel_rfl) (by kernel_rfl) (hsub (.cons _ (.cons _ (.cons _ (.cons _ (.cons _ (.cons _ (.refl _)))))))) rfl (y_extract rfl rfl) rfl ?_
          refine H_one 10 rfl (by kernel_rfl) rfl (op_alloc zl_27 rfl (fun B10 => ?_))
          refine ⟨hsub (.cons _ (.cons _ (.cons _ (.cons _ (.cons _ (.cons _ (.cons _ (.refl _)))))))), ?_⟩
          refine H_y 11 rfl (by kernel_rfl) (by kernel_rfl) (by kernel_rfl) (hsub (.cons _ (.cons _ (.cons _ (.cons _ (.cons _ (.cons _ (.cons _ (.refl _))))))))) rfl (y_assign rfl) rfl ?_
          refine H_y 12 rfl (by kernel_rfl) (by kernel_rfl) (by kernel_rfl) (hsub (.cons _ (.cons _ (.cons _ (.cons _ (.cons _ (.cons _ (.cons _ (.refl _))))))))) rfl (y_assign rfl) rfl ?_
          refine H_y 13 rfl (by kernel_rfl) (by kernel_rfl) (by kernel_rfl) (hsub (.cons _ (.cons _ (.cons _ (.cons _ (.cons _ (.cons _ (.cons _ (.refl _))))))))) rfl (y_assign rfl) rfl ?_
          refine H_one 14 rfl (by kernel_rfl) rfl (op_store (vs := [slV ga4 K, slV gb4 K]) 0 0 rfl rfl rfl sz_27 rfl rfl (fun v hv => by simp at hv; rcases hv with rfl | rfl <;> exact one_slV _ _) (Nat.le_of_ble_eq_true rfl) ?_)
          refine ⟨hsub (.cons _ (.cons _ (.cons _ (.cons _ (.cons _ (.cons _ (.cons _ (.refl _)))))))), ?_⟩
          refine H_done (by kernel_rfl) ?_
          exact ⟨(D4, A4, m4, bp4), hS4, ⟨rfl, rfl, rfl, rfl, rfl, rfl, trivial⟩, ((hsub (.cons_cons _ (.cons_cons _ (.cons_cons _ (.cons _ (.cons _ (.cons _ (.cons _ (.cons _ (.refl _)))))))))).trans (hsub_pick [1, 1, 5] rfl))⟩
        · refine op_alloc zl_27 rfl (fun B11 => ?_)
          refine ⟨hsub (.cons _ (.cons _ (.cons _ (.refl _)))), ?_⟩
          refine H_one 4 rfl (by kernel_rfl) rfl (op_call rfl rfl (fun a w => Try.call14 a w) rfl ?_)
          refine FnS.mono (pair_z (K := K) (by omega) (sees 1 0 rfl) (sees 2 0 rfl)) ?_
          rintro _ _ ⟨D5, A5, m5, mb5, bx5, by5, bp5, ga5, gb5, hS5, hga5, hgb5, rfl, rfl⟩
          obtain rfl := hS5.mb
          obtain rfl := hS5.bx
          obtain rfl := hS5.bys
          refine ⟨_, rfl, ?_⟩
          refine ⟨hsub (.cons _ (.cons _ (.cons _ (.cons _ (.cons _ (.cons _ (.cons _ (.refl _)))))))), ?_⟩
          refine H_y 5 rfl (by kernel_rfl) (by kernel_rfl) (by kernel_rfl) (hsub (.cons _ (.cons _ (.cons _ (.cons _ (.cons _ (.cons _ (.cons _ (.refl _))))))))) rfl (y_move rfl) rfl ?_
          refine H_y 6 rfl (by kernel_rfl) (by kernel_rfl) (by kernel_rfl) (hsub (.cons _ (.cons _ (.cons _ (.cons _ (.cons _ (.cons _ (.cons _ (.refl _))))))))) rfl (y_extract rfl rfl) rfl ?_
          refine H_y 7 rfl (by kernel_rfl) (by kernel_rfl) (by kernel_rfl) (hsub (.cons _ (.cons _ (.cons _ (.cons _ (.cons _ (.cons _ (.cons _ (.refl _))))))))) rfl (y_extract rfl rfl) rfl ?_
          refine H_y 8 rfl (by kernel_rfl) (by kernel_rfl) (by kernel_rfl) (hsub (.cons _ (.cons _ (.cons _ (.cons _ (.cons _ (.cons _ (.cons _ (.refl _))))))))) rfl (y_extract rfl rfl) rfl ?_
          refine H_y 9 rfl (by kernel_rfl) (by kernel_rfl) (by kernel_rfl) (hsub (.cons _ (.cons _ (.cons _ (.cons _ (.cons _ (.cons _ (.cons _ (.refl _))))))))) rfl (y_extract rfl rfl) rfl ?_
          refine H_y 11 rfl (by kernel_rfl) (by kernel_rfl) (by kernel_rfl) (hsub (.cons _ (.cons _ (.cons _ (.cons _ (.cons _ (.cons _ (.cons _ (.refl _))))))))) rfl (y_assign rfl) rfl ?_
          refine H_y 12 rfl (by kernel_rfl) (by kernel_rfl) (by kernel_rfl) (hsub (.cons _ (.cons _ (.cons _ (.cons _ (.cons _ (.cons _ (.cons _ (.refl _))))))))) rfl (y_assign rfl) rfl ?_
          refine H_y 13 rfl (by kernel_rfl) (by kernel_rfl) (by kernel_rfl) (hsub (.cons _ (.cons _ (.cons _ (.cons _ (.cons _ (.cons _ (.cons _ (.refl _))))))))) rfl (y_assign rfl) rfl ?_
          refine H_one 14 rfl (by kernel_rfl) rfl (op_store (vs := [slV ga5 K, slV gb5 K]) 4 0 rfl rfl rfl sz_27 rfl rfl (fun v hv => by simp at hv; rcases hv with rfl | rfl <;> exact one_slV _ _) (Nat.le_of_ble_eq_true rfl) ?_)
          refine ⟨hsub (.cons _ (.cons _ (.cons _ (.cons _ (.cons _ (.cons _ (.cons _ (.refl _)))))))), ?_⟩
          refine H_done (by kernel_rfl) ?_
          exact ⟨(D5, A5, m5, bp5), hS5, ⟨rfl, rfl, rfl, rfl, rfl, rfl, trivial⟩, ((hsub (.cons_cons _ (.cons_cons _ (.cons_cons _ (.cons _ (.cons _ (.cons _ (.cons _ (.cons _ (.refl _)))))))))).trans (hsub_pick [0, 0, 5] rfl))⟩
      · refine op_alloc zl_27 rfl (fun B12 => ?_)
        refine ⟨hsub (.cons _ (.cons _ (.refl _))), ?_⟩
        refine H_one 1 rfl (by kernel_rfl) rfl (op_makeSlice rfl Try.underlying22 by_58 sz_58 zl_58 rfl (by omega) (by omega) (by omega) rfl (fun B13 => ?_))
        refine ⟨hsub (.cons _ (.cons _ (.cons _ (.refl _)))), ?_⟩
        refine H_one 4 rfl (by kernel_rfl) rfl (op_call rfl rfl (fun a w => Try.call14 a w) rfl ?_)
        refine FnS.mono (pair_z (K := K) (by omega) (sees 0 0 rfl) (sees 2 0 rfl)) ?_
        rintro _ _ ⟨D6, A6, m6, mb6, bx6, by6, bp6, ga6, gb6, hS6, hga6, hgb6, rfl, rfl⟩
        obtain rfl := hS6.mb
        obtain rfl := hS6.bx
        obtain rfl := hS6.bys
        refine ⟨_, rfl, ?_⟩
        refine ⟨hsub (.cons _ (.cons _ (.cons _ (.cons _ (.cons _ (.cons _ (.cons _ (.refl _)))))))), ?_⟩
        refine H_y 5 rfl (by kernel_rfl) (by kernel_rfl) (by kernel_rfl) (hsub (.cons _ (.cons _ (.cons _ (.cons _ (.cons _ (.cons _ (.cons _ (.refl _))))))))) rfl (y_move rfl) rfl ?_
        refine H_y 6 rfl (by kernel_rfl) (by kernel_rfl) (by kernel_rfl) (hsub (.cons _ (.cons _ (.cons _ (.cons _ (.cons _ (.cons _ (.cons _ (.refl _))))))))) rfl (y_extract rfl rfl) rfl ?_
        refine H_y 7 rfl (by kernel_rfl) (by kernel_rfl) (by kernel_rfl) (hsub (.cons _ (.cons _ (.cons _ (.cons _ (.cons _ (.cons _ (.cons _ (.refl _))))))))) rfl (y_extract rfl rfl) rfl ?_
        refine H_y 8 rfl (by kernel_rfl) (by kernel_rfl) (by kernel_rfl) (hsub (.cons _ (.cons _ (.cons _ (.cons _ (.cons _ (.cons _ (.cons _ (.refl _))))))))) rfl (y_extract rfl rfl) rfl ?_
        refine H_y 9 rfl (by kernel_rfl) (by kernel_rfl) (by kernel_rfl) (hsub (.cons _ (.cons _ (.cons _ (.cons _ (.cons _ (.cons _ (.cons _ (.refl _))))))))) rfl (y_extract rfl rfl) rfl ?_
        refine H_y 11 rfl (by kernel_rfl) (by kernel_rfl) (by kernel_rfl) (hsub (.cons _ (.cons _ (.cons _ (.cons _ (.cons _ (.cons _ (.cons _ (.refl _))))))))) rfl (y_assign rfl) rfl ?_
        refine H_y 12 rfl (by kernel_rfl) (by kernel_rfl) (by kernel_rfl) (hsub (.cons _ (.cons _ (.cons _ (.cons _ (.cons _ (.cons _ (.cons _ (.refl _))))))))) rfl (y_assign rfl) rfl ?_
        refine H_y 13 rfl (by kernel_rfl) (by kernel_rfl) (by kernel_rfl) (hsub (.cons _ (.cons _ (.cons _ (.cons _ (.cons _ (.cons _ (.cons _ (.refl _))))))))) rfl (y_assign rfl) rfl ?_
        refine H_one 14 rfl (by kernel_rfl) rfl (op_store (vs := [slV ga6 K, slV gb6 K]) 5 0 rfl rfl rfl sz_27 rfl rfl (fun v hv => by simp at hv; rcases hv with rfl | rfl <;> exact one_slV _ _) (Nat.le_of_ble_eq_true rfl) ?_)
        refine ⟨hsub (.cons _ (.cons _ (.cons _ (.cons _ (.cons _ (.cons _ (.cons _ (.refl _)))))))), ?_⟩
        refine H_done (by kernel_rfl) ?_
        exact ⟨(D6, A6, m6, bp6), hS6, ⟨rfl, rfl, rfl, rfl, rfl, rfl, trivial⟩, ((hsub (.cons_cons _ (.cons_cons _ (.cons_cons _ (.cons _ (.cons _ (.cons _ (.cons _ (.cons _ (.refl _)))))))))).trans (hsub_pick [0, 0, 5] rfl))⟩
    · refine op_alloc zl_27 rfl (fun B14 => ?_)
      refine ⟨hsub (.cons _ (.refl _)), ?_⟩
      refine H_two 1 3 rfl rfl (by kernel_rfl) rfl rfl ?_ ?_
      · refine op_makeSlice rfl Try.underlying22 by_58 sz_58 zl_58 rfl (by omega) (by omega) (by omega) rfl (fun B15 => ?_)
        refine ⟨hsub (.cons _ (.cons _ (.refl _))), ?_⟩
        refine H_one 3 rfl (by kernel_rfl) rfl (op_makeSlice rfl Try.underlying22 by_58 sz_58 zl_58 rfl (by omega) (by omega) (by omega) rfl (fun B16 => ?_))
        refine ⟨hsub (.cons _ (.cons _ (.cons _ (.refl _)))), ?_⟩
        refine H_one 4 rfl (by kernel_rfl) rfl (op_call rfl rfl (fun a w => Try.call14 a w) rfl ?_)
        refine FnS.mono (pair_z (K := K) (by omega) (sees 1 0 rfl) (sees 0 0 rfl)) ?_
        rintro _ _ ⟨D7, A7, m7, mb7, bx7, by7, bp7, ga7, gb7, hS7, hga7, hgb7, rfl, rfl⟩
        obtain rfl := hS7.mb
        obtain rfl := hS7.bx
        obtain rfl := hS7.bys
        refine ⟨_, rfl, ?_⟩
        refine ⟨hsub (.cons _ (.cons _ (.cons _ (.cons _ (.cons _ (.cons _ (.cons _ (.refl _)))))))), ?_⟩
        refine H_y 5 rfl (by kernel_rfl) (by kernel_rfl) (by kernel_rfl) (hsub (.cons _ (.cons _ (.cons _ (.cons _ (.cons _ (.cons _ (.cons _ (.refl _))))))))) rfl (y_move rfl) rfl ?_
        refine H_y 6 rfl (by kernel_rfl) (by kernel_rfl) (by kernel_rfl) (hsub (.cons _ (.cons _ (.cons _ (.cons _ (.cons _ (.cons _ (.cons _ (.refl _))))))))) rfl (y_extract rfl rfl) rfl ?_
        refine H_y 7 rfl (by kernel_rfl) (by kernel_rfl) (by kernel_rfl) (hsub (.cons _ (.cons _ (.cons _ (.cons _ (.cons _ (.cons _ (.cons _ (.refl _))))))))) rfl (y_extract rfl rfl) rfl ?_
        refine H_y 8 rfl (by kernel_rfl) (by kernel_rfl) (by kernel_rfl) (hsub (.cons _ (.cons _ (.cons _ (.cons _ (.cons _ (.cons _ (.cons _ (.refl _))))))))) rfl (y_extract rfl rfl) rfl ?_
        refine H_y 9 rfl (by kernel_rfl) (by kernel_rfl) (by kernel_rfl) (hsub (.cons _ (.cons _ (.cons _ (.cons _ (.cons _ (.cons _ (.cons _ (.refl _))))))))) rfl (y_extract rfl rfl) rfl ?_
        refine H_y 11 rfl (by kernel_rfl) (by kernel_rfl) (by kernel_rfl) (hsub (.cons _ (.cons _ (.cons _ (.cons _ (.cons _ (.cons _ (.cons _ (.refl _))))))))) rfl (y_assign rfl) rfl ?_
        refine H_y 12 rfl (by kernel_rfl) (by kernel_rfl) (by kernel_rfl) (hsub (.cons _ (.cons _ (.cons _ (.cons _ (.cons _ (.cons _ (.cons _ (.refl _))))))))) rfl (y_assign rfl) rfl ?_
        refine H_y 13 rfl (by kernel_rfl) (by kernel_rfl) (by kernel_rfl) (hsub (.cons _ (.cons _ (.cons _ (.cons _ (.cons _ (.cons _ (.cons _ (.refl _))))))))) rfl (y_assign rfl) rfl ?_
        refine H_one 14 rfl (by kernel_rfl) rfl (op_store (vs := [slV ga7 K, slV gb7 K]) 6 0 rfl rfl rfl sz_27 rfl rfl (fun v hv => by simp at hv; rcases hv with rfl | rfl <;> exact one_slV _ _) (Nat.le_of_ble_eq_true rfl) ?_)
        refine ⟨hsub (.cons _ (.cons _ (.cons _ (.cons _ (.cons _ (.cons _ (.cons _ (.refl _)))))))), ?_⟩
        refine H_done (by kernel_rfl) ?_
        exact ⟨(D7, A7, m7, bp7), hS7, ⟨rfl, rfl, rfl, rfl, rfl, rfl, trivial⟩, ((hsub (.cons_cons _ (.cons_cons _ (.cons_cons _ (.cons _ (.cons _ (.cons _ (.cons _ (.cons _ (.refl _)))))))))).trans (hsub_pick [0, 0, 5] rfl))⟩
      · refine op_makeSlice rfl Try.underlying22 by_58 sz_58 zl_58 rfl (by omega) (by omega) (by omega) rfl (fun B17 => ?_)
        refine ⟨hsub (.cons _ (.cons _ (.refl _))), ?_⟩
        refine H_one 1 rfl (by kernel_rfl) rfl (op_makeSlice rfl Try.underlying22 by_58 sz_58 zl_58 rfl (by omega) (by omega) (by omega) rfl (fun B18 => ?_))
        refine ⟨hsub (.cons _ (.cons _ (.cons _ (.refl _)))), ?_⟩
        refine H_one 4 rfl (by kernel_rfl) rfl (op_call rfl rfl (fun a w => Try.call14 a w) rfl ?_)
        refine FnS.mono (pair_z (K := K) (by omega) (sees 0 0 rfl) (sees 1 0 rfl)) ?_
        rintro _ _ ⟨D8, A8, m8, mb8, bx8, by8, bp8, ga8, gb8, hS8, hga8, hgb8, rfl, rfl⟩
        obtain rfl := hS8.mb
        obtain rfl := hS8.bx
        obtain rfl := hS8.bys
        refine ⟨_, rfl, ?_⟩
        refine ⟨hsub (.cons _ (.cons _ (.cons _ (.cons _ (.cons _ (.cons _ (.cons _ (.refl _)))))))), ?_⟩
        refine H_y 5 rfl (by kernel_rfl) (by kernel_rfl) (by kernel_rfl) (hsub (.cons _ (.cons _ (.cons _ (.cons _ (.cons _ (.cons _ (.cons _ (.refl _))))))))) rfl (y_move rfl) rfl ?_
        refine H_y 6 rfl (by kernel_rfl) (by kernel_rfl) (by kernel_rfl) (hsub (.cons _ (.cons _ (.cons _ (.cons _ (.cons _ (.cons _ (.cons _ (.refl _))))))))) rfl (y_extract rfl rfl) rfl ?_
        refine H_y 7 rfl (by kernel_rfl) (by kernel_rfl) (by kernel_rfl) (hsub (.cons _ (.cons _ (.cons _ (.cons _ (.cons _ (.cons _ (.cons _ (.refl _))))))))) rfl (y_extract rfl rfl) rfl ?_
        refine H_y 8 rfl (by kernel_rfl) (by kernel_rfl) (by kernel_rfl) (hsub (.cons _ (.cons _ (.cons _ (.cons _ (.cons _ (.cons _ (.cons _ (.refl _))))))))) rfl (y_extract rfl rfl) rfl ?_
        refine H_y 9 rfl (by kernel_rfl) (by kernel_rfl) (by kernel_rfl) (hsub (.cons _ (.cons _ (.cons _ (.cons _ (.cons _ (.cons _ (.cons _ (.refl _))))))))) rfl (y_extract rfl rfl) rfl ?_
        refine H_y 11 rfl (by kernel_rfl) (by kernel_rfl) (by kernel_rfl) (hsub (.cons _ (.cons _ (.cons _ (.cons _ (.cons _ (.cons _ (.cons _ (.refl _))))))))) rfl (y_assign rfl) rfl ?_
        refine H_y 12 rfl (by kernel_rfl) (by kernel_rfl) (by kernel_rfl) (hsub (.cons _ (.cons _ (.cons _ (.cons _ (.cons _ (.cons _ (.cons _ (.refl _))))))))) rfl (y_assign rfl) rfl ?_
        refine H_y 13 rfl (by kernel_rfl) (by kernel_rfl) (by kernel_rfl) (hsub (.cons _ (.cons _ (.cons _ (.cons _ (.cons _ (.cons _ (.cons _ (.refl _))))))))) rfl (y_assign rfl) rfl ?_
        refine H_one 14 rfl (by kernel_rfl) rfl (op_store (vs := [slV ga8 K, slV gb8 K]) 6 0 rfl rfl rfl sz_27 rfl rfl (fun v hv => by simp at hv; rcases hv with rfl | rfl <;> exact one_slV _ _) (Nat.le_of_ble_eq_true rfl) ?_)
        refine ⟨hsub (.cons _ (.cons _ (.cons _ (.cons _ (.cons _ (.cons _ (.cons _ (.refl _)))))))), ?_⟩
        refine H_done (by kernel_rfl) ?_
        exact ⟨(D8, A8, m8, bp8), hS8, ⟨rfl, rfl, rfl, rfl, rfl, rfl, trivial⟩, ((hsub (.cons_cons _ (.cons_cons _ (.cons_cons _ (.cons _ (.cons _ (.cons _ (.cons _ (.cons _ (.refl _)))))))))).trans (hsub_pick [0, 0, 5] rfl))⟩
  · obtain ⟨D1, A1, m1, bp1⟩ := i
    dsimp only
    have hS1 := hi
    simp only at hS1
    refine C_seq ?_
    refine C_seq ?_
    refine C_region ?_
    refine L_y rfl (y_move rfl) rfl ?_
    refine L_op rfl (op_call rfl rfl (fun a w => Try.call16 a w) rfl ?_)
    refine (FnS.sub (hsub_pick [0, 0] rfl) (all_still hS1 (by omega) (by omega) (by omega))).mono ?_
    rintro _ _ ⟨ra, rc, D2, rfl, hT2, rfl⟩
    refine ⟨_, rfl, ?_⟩
    refine L_op rfl (op_alloc zl_32 rfl (fun B19 => ?_))
    refine L_op rfl (op_store (vs := [.int .i64 ra, .int .i64 0, .int .i64 rc]) 0 0 rfl rfl rfl sz_32 rfl rfl (ones rfl) (Nat.le_of_ble_eq_true rfl) ?_)
    refine L_nil ?_
    refine C_seq ?_
    refine C_region ?_
    refine L_y rfl (y_fieldAddr rfl fl_32_1) rfl ?_
    refine L_y rfl (y_load rfl ag_3 (sees 0 0 rfl) rfl) rfl ?_
    refine L_y rfl (y_nei rfl rfl) rfl ?_
    refine L_nil ?_
    refine C_cond rfl (fun hc1 => absurd hc1 (by simp)) (fun hc1 => ?_)
    refine C_skip ?_
    refine C_seq ?_
    refine C_region ?_
    refine L_y rfl (y_move rfl) rfl ?_
    refine L_y rfl (y_conv rfl us_5 Try.underlying3 (wi64 (by omega) (by omega))) rfl ?_
    refine L_y rfl (y_move rfl) rfl ?_
    refine L_y rfl (y_rem rfl rfl (by omega) (show _ = ((a % K : Nat) : Int) from rfl)) rfl ?_
    refine L_y rfl (y_assign rfl) rfl ?_
    refine L_nil ?_
    refine C_seq ?_
    obtain ⟨t, htt⟩ : ∃ t, a % K = t := ⟨_, rfl⟩
    rw [htt] at hg ⊢
    have ht : t < K := by rw [← htt]; exact Nat.mod_lt _ (by omega)
    refine C_region ?_
    refine L_y rfl (y_indexA rfl rfl Try.underlying58 sz_5 (by omega) (by omega) (show _ = 0 from rfl)) rfl ?_
    refine L_y rfl (y_load rfl ag_5 (sees 3 0 rfl) rfl) rfl ?_
    refine L_y rfl (y_indexA rfl rfl Try.underlying58 sz_5 (by omega) (by omega) (show _ = 1 from rfl)) rfl ?_
    refine L_y rfl (y_load rfl ag_5 (sees 3 0 rfl) rfl) rfl ?_
    refine L_y rfl (y_buildA (vs := [(0, _), (1, _), (2, _)]) (l := bs (sec3 u v 7)) rfl Try.underlying37 sz_5 zl_37 (by rw [sec3_fill]; exact (fill_cons (off := 0) (m := 1) (vs := [_]) rfl rfl rfl (Nat.le_of_ble_eq_true rfl) (fill_cons (off := 1) (m := 1) (vs := [_]) rfl rfl rfl (Nat.le_of_ble_eq_true rfl) (fill_cons (off := 2) (m := 1) (vs := [_]) rfl rfl rfl (Nat.le_of_ble_eq_true rfl) rfl))))) rfl ?_
    refine L_op rfl (op_alloc zl_37 rfl (fun B20 => ?_))
    refine L_op rfl (op_storeA 0 0 rfl rfl rfl sz_37 (by rw [bs_length, sec3_len _ _ _]) rfl (bs_one _) (by simp) ?_)
    refine L_nil ?_
    refine C_seq ?_
    skip
    refine C_region ?_
    refine L_y rfl (y_move rfl) rfl ?_
    refine L_op rfl (op_call rfl rfl (fun a w => Try.call23 a w) rfl ?_)
    refine (FnS.sub (hsub_pick [3] rfl) (out_d hT2 false true)).mono ?_
    rintro _ _ ⟨rfl, D3, hT3, rfl⟩
    refine ⟨_, rfl, ?_⟩
    refine L_nil ?_
    refine C_seq ?_
    refine C_region ?_
    refine L_y rfl (y_move rfl) rfl ?_
    refine L_y rfl (y_move rfl) rfl ?_
    refine L_y rfl (y_loadA rfl ag_37 sz_37 (sees 1 0 rfl) (by rw [bs_length, sec3_len _ _ _]; decide) (bs_whole0 _ (sec3_len _ _ _))) rfl ?_
    refine L_op rfl (op_call rfl rfl (fun a w => Try.call27 a w) rfl ?_)
    refine (FnS.sub (hsub_pick [3, 0] rfl) (mwrite_m (m := m1) hT3 (t : Int) (sec3 u v 7) (sec3_len _ _ _) (fun i => Nat.lt_of_le_of_lt (Nat.le_trans (outs_many A1 false i) (hS1.many (k := 0) (Nat.le_refl _) (Nat.le_refl _) i)) (by decide)))).mono ?_
    rintro _ _ ⟨e4, D4, hT4, rfl⟩
    obtain ⟨p0, p1, p2, p3, p4, p5, p6, p7, p8⟩ := put_out (s := (sec3 u v 7)) hS1.vw ht hS1.n hS1.s0 hS1.s1
    rw [p0] at e4
    obtain rfl := e4
    generalize hm2 : putm m1 _ askAll (t : Int) (sec3 u v 7) = m2 at *
    refine ⟨_, rfl, ?_⟩
    refine L_y rfl (y_assign rfl) rfl ?_
    refine L_nil ?_
    refine C_seq ?_
    refine C_region ?_
    refine L_y rfl (y_move rfl) rfl ?_
    refine L_op rfl (op_call rfl rfl (fun a w => Try.call23 a w) rfl ?_)
    refine (FnS.sub (hsub_pick [1] rfl) (out_d hT4 false false)).mono ?_
    rintro _ _ ⟨rfl, D5, hT5, rfl⟩
    rw [p1] at hT5
    obtain ⟨w1, v5⟩ := hS1.vw.write (n := t) (s := (sec3 u v 7)) true ht (sec3_len _ _ _)
    simp only [if_true] at v5
    refine ⟨_, rfl, ?_⟩
    refine L_nil ?_
    refine C_seq ?_
    refine C_region ?_
    refine L_y rfl (y_move rfl) rfl ?_
    refine L_op rfl (op_call rfl rfl (fun a w => Try.call16 a w) rfl ?_)
    refine (FnS.sub (hsub_pick [1, 0] rfl) (all_heals (m := m2) (K := K) (t := t) (s := (sec3 u v 7)) v5 ht (sec3_len _ _ _) (p7.trans hS1.n) p2 p3 (p8.trans hS1.gv) (by rw [p5, p6]; exact hT5) (by omega) (by omega) (by omega) p4 hg)).mono ?_
    rintro _ _ ⟨qa, qc, D6, rfl, hT6, rfl⟩
    rw [p5, p6] at hT6
    obtain ⟨w6, v6⟩ := v5.write (n := t) (s := (sec3 u v 7)) false ht (sec3_len _ _ _)
    simp only [Bool.false_eq_true, if_false] at v6
    generalize hm3 : ({ m2 with k0 := [] } : Mi) = m3 at *
    have z0 : m3.k0 = [] := by rw [← hm3]
    have z1 : m3.k1 = [] := by rw [← hm3]; exact p3
    have zb : m3.b = m1.b := by rw [← hm3]; exact p4
    refine ⟨_, rfl, ?_⟩
    refine L_op rfl (op_alloc zl_32 rfl (fun B21 => ?_))
    refine L_op rfl (op_store (vs := [.int .i64 qa, .int .i64 1, .int .i64 qc]) 0 0 rfl rfl rfl sz_32 rfl rfl (ones rfl) (Nat.le_of_ble_eq_true rfl) ?_)
    refine L_nil ?_
    refine C_seq ?_
    refine C_region ?_
    refine L_y rfl (y_move rfl) rfl ?_
    refine L_op rfl (op_call rfl rfl (fun a w => Try.call28 a w) rfl ?_)
    refine FnS.mono (FnS.sub (hsub_pick [1] rfl) (stale_b (m := m3) zb)) ?_
    rintro _ _ ⟨rfl, rfl⟩
    refine ⟨_, rfl, ?_⟩
    refine L_y rfl (y_move rfl) rfl ?_
    refine L_y rfl (y_extract rfl rfl) rfl ?_
    refine L_y rfl (y_extract rfl rfl) rfl ?_
    refine L_y rfl (y_assign rfl) rfl ?_
    refine L_y rfl (y_assign rfl) rfl ?_
    refine L_nil ?_
    refine C_seq ?_
    refine C_region ?_
    refine L_y rfl (y_move rfl) rfl ?_
    refine L_y rfl (y_move rfl) rfl ?_
    refine L_op rfl (op_call rfl rfl (fun a w => Try.call19 a w) rfl ?_)
    refine (FnS.sub (hsub_pick [2] rfl) (read_d hT6 false (t : Int))).mono ?_
    rintro _ _ ⟨rfl, rfl⟩
    rw [(v6.reads false (s := (sec3 u v 7)) (gset hS1.vw.a.wlen ht)).1, (v6.reads false (s := (sec3 u v 7)) (gset hS1.vw.a.wlen ht)).2]
    refine ⟨_, rfl, ?_⟩
    refine L_y rfl (y_move rfl) rfl ?_
    refine L_y rfl (y_extract rfl rfl) rfl ?_
    refine L_y rfl (y_extract rfl rfl) rfl ?_
    refine L_op rfl (op_alloc zl_37 rfl (fun B22 => ?_))
    refine L_op rfl (op_storeA 0 0 rfl rfl rfl sz_37 (by rw [bs_length, sec3_len _ _ _]) rfl (bs_one _) (by simp) ?_)
    refine L_y rfl (y_assign rfl) rfl ?_
    refine L_nil ?_
    refine C_seq ?_
    refine C_region ?_
    refine L_y rfl (y_move rfl) rfl ?_
    refine L_y rfl (y_move rfl) rfl ?_
    refine L_op rfl (op_call rfl rfl (fun a w => Try.call19 a w) rfl ?_)
    refine (FnS.sub (hsub_pick [1] rfl) (read_d hT6 true (t : Int))).mono ?_
    rintro _ _ ⟨rfl, rfl⟩
    rw [(v6.reads true (s := (sec3 u v 7)) (gset hS1.vw.a.wlen ht)).1, (v6.reads true (s := (sec3 u v 7)) (gset hS1.vw.a.wlen ht)).2]
    refine ⟨_, rfl, ?_⟩
    refine L_y rfl (y_move rfl) rfl ?_
    refine L_y rfl (y_extract rfl rfl) rfl ?_
    refine L_y rfl (y_extract rfl rfl) rfl ?_
    refine L_op rfl (op_alloc zl_37 rfl (fun B23 => ?_))
    refine L_op rfl (op_storeA 0 0 rfl rfl rfl sz_37 (by rw [bs_length, sec3_len _ _ _]) rfl (bs_one _) (by simp) ?_)
    refine L_y rfl (y_assign rfl) rfl ?_
    refine L_nil ?_
    refine C_seq ?_
    refine C_seq ?_
    refine C_region ?_
    refine L_y rfl (y_move rfl) rfl ?_
    refine L_y rfl (y_loadA rfl ag_37 sz_37 (sees 5 0 rfl) (by rw [bs_length, sec3_len _ _ _]; decide) (bs_whole0 _ (sec3_len _ _ _))) rfl ?_
    refine L_op rfl (op_call rfl rfl (fun a w => Try.call26 a w) rfl ?_)
    refine (good09_s (t : Int) (sec3 u v 7) (sec3_len _ _ _)).mono ?_
    rintro _ _ ⟨rfl, e⟩
    obtain rfl := e.symm
    rw [hg]
    refine ⟨_, rfl, ?_⟩
    refine L_y rfl (y_not rfl) rfl ?_
    refine L_nil ?_
    refine C_cond_f rfl ?_
    refine C_skip ?_
    refine C_seq ?_
    refine C_region ?_
    refine L_y rfl (y_move rfl) rfl ?_
    refine L_y rfl (y_eqi rfl rfl) rfl ?_
    refine L_y rfl (y_move rfl) rfl ?_
    refine L_case 97 rfl (fun hg19_3 => ?_) (fun hg19_3 => ?_)
    · skip
      refine L_y rfl (y_fieldAddr rfl fl_32_1) rfl ?_
      refine L_y rfl (y_load rfl ag_3 (sees 4 0 rfl) rfl) rfl ?_
      refine L_y rfl (y_eqi rfl rfl) rfl ?_
      refine L_y rfl (y_pick_t rfl rfl) rfl ?_
      refine L_y rfl (y_move rfl) rfl ?_
      refine L_case 102 rfl (fun hg19_8 => ?_) (fun hg19_8 => ?_)
      · skip
        refine L_y rfl (y_move rfl) rfl ?_
        refine L_y rfl (y_eqi rfl rfl) rfl ?_
        refine L_y rfl (y_pick_t rfl rfl) rfl ?_
        refine L_y rfl (y_move rfl) rfl ?_
        refine L_case 106 rfl (fun hg19_12 => ?_) (fun hg19_12 => ?_)
        · skip
          refine L_y rfl (y_loadA rfl ag_37 sz_37 (sees 2 0 rfl) (by rw [bs_length, sec3_len _ _ _]; decide) (bs_whole0 _ (sec3_len _ _ _))) rfl ?_
          refine L_y rfl (y_loadA rfl ag_37 sz_37 (sees 5 0 rfl) (by rw [bs_length, sec3_len _ _ _]; decide) (bs_whole0 _ (sec3_len _ _ _))) rfl ?_
          refine L_y rfl (y_eqa rfl rfl Try.underlying37 Try.underlying5 sz_5 eg_37 (sec3_len _ _ _) (sec3_len _ _ _)) rfl ?_
          refine L_y rfl (y_pick_t rfl rfl) rfl ?_
          refine L_y rfl (y_move rfl) rfl ?_
          refine L_case 111 rfl (fun hg19_17 => ?_) (fun hg19_17 => ?_)
          · skip
            refine L_y rfl (y_loadA rfl ag_37 sz_37 (sees 0 0 rfl) (by rw [bs_length, sec3_len _ _ _]; decide) (bs_whole0 _ (sec3_len _ _ _))) rfl ?_
            refine L_y rfl (y_loadA rfl ag_37 sz_37 (sees 5 0 rfl) (by rw [bs_length, sec3_len _ _ _]; decide) (bs_whole0 _ (sec3_len _ _ _))) rfl ?_
            refine L_y rfl (y_eqa rfl rfl Try.underlying37 Try.underlying5 sz_5 eg_37 (sec3_len _ _ _) (sec3_len _ _ _)) rfl ?_
            refine L_y rfl (y_pick_t rfl rfl) rfl ?_
            refine L_y rfl (y_move rfl) rfl ?_
            refine L_case 116 rfl (fun hg19_22 => ?_) (fun hg19_22 => ?_)
            · skip
              refine L_y rfl (y_move rfl) rfl ?_
              refine L_y rfl (y_eqi rfl rfl) rfl ?_
              refine L_y rfl (y_pick_t rfl rfl) rfl ?_
              refine L_y rfl (y_assign rfl) rfl ?_
              refine L_nil ?_
              refine C_ret ?_
              refine B_ret (rv_tmp rfl rv_nil) (HSub.refl _) ?_
              exact ret_bool (by simp [z0, z1])
            · exact absurd hg19_22 (by simp [z0, z1])
          · exact absurd hg19_17 (by simp [z0, z1])
        · exact absurd hg19_12 (by simp [z0, z1])
      · exact absurd hg19_8 (by simp [z0, z1])
    · exact absurd hg19_3 (by simp [z0, z1])

set_option maxHeartbeats 4000000 in

theorem scrubstale_f {w0 : World} {H : Hp} (n a : Nat) (hn : n < 256) (ha : a < 256) (u v : UInt8) (hg : goodP ((a % (1 + n % 6) : Nat) : Int) (sec3 u v 7) = false) : FnS Try.prog w0 10 #[.int .u8 (n : Int), .int .u8 (a : Int), .agg (bs [u, v]).toArray] H (fun e H' => e = .returned (.bool true)) := by
  refine FnS_intro (n := 120) (rs := [.tmp 6]) (vs := [.int .u8 (n : Int), .int .u8 (a : Int), .agg (bs [u, v]).toArray]) Try.func10 rfl Try.ntmps10 rfl rfl ?_
  refine C_seq ?_
  refine C_region ?_
  refine L_op rfl (op_box rfl rfl rfl (fun B1 => ?_))
  refine L_y rfl (y_assign rfl) rfl ?_
  refine L_nil ?_
  refine C_seq ?_
  refine C_seq ?_
  refine C_region ?_
  refine L_op rfl (op_call rfl rfl (fun a w => Try.call13 a w) rfl ?_)
  refine awake10_s.mono ?_
  rintro _ _ ⟨rfl, e⟩
  obtain rfl := e.symm
  refine ⟨_, rfl, ?_⟩
  refine L_y rfl (y_not rfl) rfl ?_
  refine L_nil ?_
  refine C_cond_f rfl ?_
  refine C_skip ?_
  refine C_seq ?_
  obtain ⟨K, hK⟩ : ∃ K, 1 + n % 6 = K := ⟨_, rfl⟩
  rw [hK] at hg
  refine C_region ?_
  refine L_y rfl (y_move rfl) rfl ?_
  refine L_y rfl (y_conv rfl us_5 Try.underlying3 (wi64 (by omega) (by omega))) rfl ?_
  refine L_y rfl (y_rem rfl rfl (by decide) (show _ = ((n % 6 : Nat) : Int) from rfl)) rfl ?_
  refine L_y rfl (y_add rfl rfl (show _ = ((K : Nat) : Int) from by rw [wi64 (by omega) (by omega)]; omega)) rfl ?_
  refine L_y rfl (y_assign rfl) rfl ?_
  refine L_nil ?_
  refine C_cutG (ι := Duo × Da × Mi × Nat) (fun i => Ms dt (.func (.func 26) #[] ([] : List Value).toArray) i.1 i.2.1 i.2.2.1 K (prX (List.replicate K (0, 0)) K) (prX (List.replicate K (0, 0)) K) 0 0 i.2.2.1.b i.2.2.1.bx i.2.2.1.bys i.2.2.2) (fun i => [(1, .int .u8 (a : Int)), (5, ptr B1), (7, .int .i64 (K : Int)), (8, ptr i.2.2.1.bx), (9, ptr i.2.2.1.bys), (10, ptr i.2.2.1.b)]) (fun i => i.2.2.1.seg 109 :: i.1.seg dt :: [(B1, .cells (bs [u, v]).toArray 58)] :: H) ?_ (fun i hi => ?_)
  · refine C_regionH0 (by kernel_rfl) ?_
    refine H_y 0 rfl (by kernel_rfl) (by kernel_rfl) (by kernel_rfl) (HSub.refl _) rfl (y_move rfl) rfl ?_
    refine H_y 2 rfl (by kernel_rfl) (by kernel_rfl) (by kernel_rfl) (HSub.refl _) rfl (y_move rfl) rfl ?_
    refine H_many [1, 3, 10] (by kernel_rfl) (by decide) ⟨⟨_, rfl, rfl, ?_⟩, ⟨_, rfl, rfl, ?_⟩, ⟨_, rfl, rfl, ?_⟩, trivial⟩
    · refine op_makeSlice rfl Try.underlying22 by_58 sz_58 zl_58 rfl (by omega) (by omega) (by omega) rfl (fun B2 => ?_)
      refine ⟨hsub (.cons _ (.refl _)), ?_⟩
      refine H_two 3 10 rfl rfl (by kernel_rfl) rfl rfl ?_ ?_
      · refine op_makeSlice rfl Try.underlying22 by_58 sz_58 zl_58 rfl (by omega) (by omega) (by omega) rfl (fun B3 => ?_)
        refine ⟨hsub (.cons _ (.cons _ (.refl _))), ?_⟩
        refine H_two 4 10 rfl rfl (by kernel_rfl) rfl rfl ?_ ?_
        · refine op_call rfl rfl (fun a w => Try.call14 a w) rfl ?_
          refine FnS.mono (pair_z (K := K) (by omega) (sees 1 0 rfl) (sees 0 0 rfl)) ?_
          rintro _ _ ⟨D1, A1, m1, mb1, bx1, by1, bp1, ga1, gb1, hS1, hga1, hgb1, rfl, rfl⟩
          obtain rfl := hS1.mb
          obtain rfl := hS1.bx
          obtain rfl := hS1.bys
          refine ⟨_, rfl, ?_⟩
          refine ⟨hsub (.cons _ (.cons _ (.cons _ (.cons _ (.cons _ (.cons _ (.refl _))))))), ?_⟩
          refine H_y 5 rfl (by kernel_rfl) (by kernel_rfl) (by kernel_rfl) (hsub (.cons _ (.cons _ (.cons _ (.cons _ (.cons _ (.cons _ (.refl _)))))))) rfl (y_move rfl) rfl ?_
          refine H_y 6 rfl (by kernel_rfl) (by kernel_rfl) (by kernel_rfl) (hsub (.cons _ (.cons _ (.cons _ (.cons _ (.cons _ (.cons _ (.refl _)))))))) rfl (y_extract rfl rfl) rfl ?_
          refine H_y 7 rfl (by kernel_rfl) (by kernel_rfl) (by kernel_rfl) (hsub (.cons _ (.cons _ (.cons _ (.cons _ (.cons _ (.cons _ (.refl _)))))))) rfl (y_extract rfl rfl) rfl ?_
          refine H_y 8 rfl (by kernel_rfl) (by kernel_rfl) (by kernel_rfl) (hsub (.cons _ (.cons _ (.cons _ (.cons _ (.cons _ (.cons _ (.refl _)))))))) rfl (y_extract rfl rfl) rfl ?_
          refine H_y 9 rfl (by kernel_rfl) (by kernel_rfl) (by kernel_rfl) (hsub (.cons _ (.cons _ (.cons _ (.cons _ (.cons _ (.cons _ (.refl _)))))))) rfl (y_extract rfl rfl) rfl ?_
          refine H_one 10 rfl (by kernel_rfl) rfl (op_alloc zl_27 rfl (fun B4 => ?_))
          refine ⟨hsub (.cons _ (.cons _ (.cons _ (.cons _ (.cons _ (.cons _ (.cons _ (.refl _)))))))), ?_⟩
          refine H_y 11 rfl (by kernel_rfl) (by kernel_rfl) (by kernel_rfl) (hsub (.cons _ (.cons _ (.cons _ (.cons _ (.cons _ (.cons _ (.cons _ (.refl _))))))))) rfl (y_assign rfl) rfl ?_
          refine H_y 12 rfl (by kernel_rfl) (by kernel_rfl) (by kernel_rfl) (hsub (.cons _ (.cons _ (.cons _ (.cons _ (.cons _ (.cons _ (.cons _ (.refl _))))))))) rfl (y_assign rfl) rfl ?_
          refine H_y 13 rfl (by kernel_rfl) (by kernel_rfl) (by kernel_rfl) (hsub (.cons _ (.cons _ (.cons _ (.cons _ (.cons _ (.cons _ (.cons _ (.refl _))))))))) rfl (y_assign rfl) rfl ?_
          refine H_one 14 rfl (by kernel_rfl) rfl (op_store (vs := [slV ga1 K, slV gb1 K]) 0 0 rfl rfl rfl sz_27 rfl rfl (fun v hv => by simp at hv; rcases hv with rfl | rfl <;> exact one_slV _ _) (Nat.le_of_ble_eq_true rfl) ?_)
          refine ⟨hsub (.cons _ (.cons _ (.cons _ (.cons _ (.cons _ (.cons _ (.cons _ (.refl _)))))))), ?_⟩
          refine H_done (by kernel_rfl) ?_
          exact ⟨(D1, A1, m1, bp1), hS1, ⟨rfl, rfl, rfl, rfl, rfl, rfl, trivial⟩, ((hsub (.cons_cons _ (.cons_cons _ (.cons_cons _ (.cons _ (.cons _ (.cons _ (.cons _ (.cons _ (.refl _)))))))))).trans (hsub_pick [1, 1, 5] rfl))⟩
        · refine op_alloc zl_27 rfl (fun B5 => ?_)
          refine ⟨hsub (.cons _ (.cons _ (.cons _ (.refl _)))), ?_⟩
          refine H_one 4 rfl (by kernel_rfl) rfl (op_call rfl rfl (fun a w => Try.call14 a w) rfl ?_)
          refine FnS.mono (pair_z (K := K) (by omega) (sees 2 0 rfl) (sees 1 0 rfl)) ?_
          rintro _ _ ⟨D2, A2, m2, mb2, bx2, by2, bp2, ga2, gb2, hS2, hga2, hgb2, rfl, rfl⟩
          obtain rfl := hS2.mb
          obtain rfl := hS2.bx
          obtain rfl := hS2.bys
          refine ⟨_, rfl, ?_⟩
          refine ⟨hsub (.cons _ (.cons _ (.cons _ (.cons _ (.cons _ (.cons _ (.cons _ (.refl _)))))))), ?_⟩
          refine H_y 5 rfl (by kernel_rfl) (by kernel_rfl) (by kernel_rfl) (hsub (.cons _ (.cons _ (.cons _ (.cons _ (.cons _ (.cons _ (.cons _ (.refl _))))))))) rfl (y_move rfl) rfl ?_
          refine H_y 6 rfl (by kernel_rfl) (by kernel_rfl) (by kernel_rfl) (hsub (.cons _ (.cons _ (.cons _ (.cons _ (.cons _ (.cons _ (.cons _ (.refl _))))))))) rfl (y_extract rfl rfl) rfl ?_
          refine H_y 7 rfl (by kernel_rfl) (by kernel_rfl) (by kernel_rfl) (hsub (.cons _ (.cons _ (.cons _ (.cons _ (.cons _ (.cons _ (.cons _ (.refl _))))))))) rfl (y_extract rfl rfl) rfl ?_
          refine H_y 8 rfl (by kernel_rfl) (by kernel_rfl) (by kernel_rfl) (hsub (.cons _ (.cons _ (.cons _ (.cons _ (.cons _ (.cons _ (.cons _ (.refl _))))))))) rfl (y_extract rfl rfl) rfl ?_
          refine H_y 9 rfl (by kernel_rfl) (by kernel_rfl) (by kernel_rfl) (hsub (.cons _ (.cons _ (.cons _ (.cons _ (.cons _ (.cons _ (.cons _ (.refl _))))))))) rfl (y_extract rfl rfl) rfl ?_
          refine H_y 11 rfl (by kernel_rfl) (by kernel_rfl) (by kernel_rfl) (hsub (.cons _ (.cons _ (.cons _ (.cons _ (.cons _ (.cons _ (.cons _ (.refl _))))))))) rfl (y_assign rfl) rfl ?_
          refine H_y 12 rfl (by kernel_rfl) (by kernel_rfl) (by kernel_rfl) (hsub (.cons _ (.cons _ (.cons _ (.cons _ (.cons _ (.cons _ (.cons _ (.refl _))))))))) rfl (y_assign rfl) rfl ?_
          refine H_y 13 rfl (by kernel_rfl) (by kernel_rfl) (by kernel_rfl) (hsub (.cons _ (.cons _ (.cons _ (.cons _ (.cons _ (.cons _ (.cons _ (.refl _))))))))) rfl (y_assign rfl) rfl ?_
          refine H_one 14 rfl (by kernel_rfl) rfl (op_store (vs := [slV ga2 K, slV gb2 K]) 4 0 rfl rfl rfl sz_27 rfl rfl (fun v hv => by simp at hv; rcases hv with rfl | rfl <;> exact one_slV _ _) (Nat.le_of_ble_eq_true rfl) ?_)
          refine ⟨hsub (.cons _ (.cons _ (.cons _ (.cons _ (.cons _ (.cons _ (.cons _ (.refl _)))))))), ?_⟩
          refine H_done (by kernel_rfl) ?_
          exact ⟨(D2, A2, m2, bp2), hS2, ⟨rfl, rfl, rfl, rfl, rfl, rfl, trivial⟩, ((hsub (.cons_cons _ (.cons_cons _ (.cons_cons _ (.cons _ (.cons _ (.cons _ (.cons _ (.cons _ (.refl _)))))))))).trans (hsub_pick [0, 0, 5] rfl))⟩
      · refine op_alloc zl_27 rfl (fun B6 => ?_)
        refine ⟨hsub (.cons _ (.cons _ (.refl _))), ?_⟩
        refine H_one 3 rfl (by kernel_rfl) rfl (op_makeSlice rfl Try.underlying22 by_58 sz_58 zl_58 rfl (by omega) (by omega) (by omega) rfl (fun B7 => ?_))
        refine ⟨hsub (.cons _ (.cons _ (.cons _ (.refl _)))), ?_⟩
        refine H_one 4 rfl (by kernel_rfl) rfl (op_call rfl rfl (fun a w => Try.call14 a w) rfl ?_)
        refine FnS.mono (pair_z (K := K) (by omega) (sees 2 0 rfl) (sees 0 0 rfl)) ?_
        rintro _ _ ⟨D3, A3, m3, mb3, bx3, by3, bp3, ga3, gb3, hS3, hga3, hgb3, rfl, rfl⟩
        obtain rfl := hS3.mb
        obtain rfl := hS3.bx
        obtain rfl := hS3.bys
        refine ⟨_, rfl, ?_⟩
        refine ⟨hsub (.cons _ (.cons _ (.cons _ (.cons _ (.cons _ (.cons _ (.cons _ (.refl _)))))))), ?_⟩
        refine H_y 5 rfl (by kernel_rfl) (by kernel_rfl) (by kernel_rfl) (hsub (.cons _ (.cons _ (.cons _ (.cons _ (.cons _ (.cons _ (.cons _ (.refl _))))))))) rfl (y_move rfl) rfl ?_
        refine H_y 6 rfl (by kernel_rfl) (by kernel_rfl) (by kernel_rfl) (hsub (.cons _ (.cons _ (.cons _ (.cons _ (.cons _ (.cons _ (.cons _ (.refl _))))))))) rfl (y_extract rfl rfl) rfl ?_
        refine H_y 7 rfl (by kernel_rfl) (by kernel_rfl) (by kernel_rfl) (hsub (.cons _ (.cons _ (.cons _ (.cons _ (.cons _ (.cons _ (.cons _ (.refl _))))))))) rfl (y_extract rfl rfl) rfl ?_
        refine H_y 8 rfl (by kernel_rfl) (by kernel_rfl) (by kernel_rfl) (hsub (.cons _ (.cons _ (.cons _ (.cons _ (.cons _ (.cons _ (.cons _ (.refl _))))))))) rfl (y_extract rfl rfl) rfl ?_
        refine H_y 9 rfl (by kernel_rfl) (by kernel_rfl) (by kernel_rfl) (hsub (.cons _ (.cons _ (.cons _ (.cons _ (.cons _ (.cons _ (.cons _ (.refl _))))))))) rfl (y_extract rfl rfl) rfl ?_
        refine H_y 11 rfl (by kernel_rfl) (by kernel_rfl) (by kernel_rfl) (hsub (.cons _ (.cons _ (.cons _ (.cons _ (.cons _ (.cons _ (.cons _ (.refl _))))))))) rfl (y_assign rfl) rfl ?_
        refine H_y 12 rfl (by kernel_rfl) (by kernel_rfl) (by kernel_rfl) (hsub (.cons _ (.cons _ (.cons _ (.cons _ (.cons _ (.cons _ (.cons _ (.refl _))))))))) rfl (y_assign rfl) rfl ?_
        refine H_y 13 rfl (by kernel_rfl) (by kernel_rfl) (by kernel_rfl) (hsub (.cons _ (.cons _ (.cons _ (.cons _ (.cons _ (.cons _ (.cons _ (.refl _))))))))) rfl (y_assign rfl) rfl ?_
        refine H_one 14 rfl (by kernel_rfl) rfl (op_store (vs := [slV ga3 K, slV gb3 K]) 5 0 rfl rfl rfl sz_27 rfl rfl (fun v hv => by simp at hv; rcases hv with rfl | rfl <;> exact one_slV _ _) (Nat.le_of_ble_eq_true rfl) ?_)
        refine ⟨hsub (.cons _ (.cons _ (.cons _ (.cons _ (.cons _ (.cons _ (.cons _ (.refl _)))))))), ?_⟩
        refine H_done (by kernel_rfl) ?_
        exact ⟨(D3, A3, m3, bp3), hS3, ⟨rfl, rfl, rfl, rfl, rfl, rfl, trivial⟩, ((hsub (.cons_cons _ (.cons_cons _ (.cons_cons _ (.cons _ (.cons _ (.cons _ (.cons _ (.cons _ (.refl _)))))))))).trans (hsub_pick [0, 0, 5] rfl))⟩
    · refine op_makeSlice rfl Try.underlying22 by_58 sz_58 zl_58 rfl (by omega) (by omega) (by omega) rfl (fun B8 => ?_)
      refine ⟨hsub (.cons _ (.refl _)), ?_⟩
      refine H_two 1 10 rfl rfl (by kernel_rfl) rfl rfl ?_ ?_
      · refine op_makeSlice rfl Try.underlying22 by_58 sz_58 zl_58 rfl (by omega) (by omega) (by omega) rfl (fun B9 => ?_)
        refine ⟨hsub (.cons _ (.cons _ (.refl _))), ?_⟩
        refine H_two 4 10 rfl rfl (by kernel_rfl) rfl rfl ?_ ?_
        · refine op_call rfl rfl (fun a w => Try.call14 a w) rfl ?_
          refine FnS.mono (pair_z (K := K) (by omega) (sees 0 0 rfl) (sees 1 0 rfl)) ?_
          rintro _ _ ⟨D4, A4, m4, mb4, bx4, by4, bp4, ga4, gb4, hS4, hga4, hgb4, rfl, rfl⟩
          obtain rfl := hS4.mb
          obtain rfl := hS4.bx
          obtain rfl := hS4.bys
          refine ⟨_, rfl, ?_⟩
          refine ⟨hsub (.cons _ (.cons _ (.cons _ (.cons _ (.cons _ (.cons _ (.refl _))))))), ?_⟩
          refine H_y 5 rfl (by kernel_rfl) (by kernel_rfl) (by kernel_rfl) (hsub (.cons _ (.cons _ (.cons _ (.cons _ (.cons _ (.cons _ (.refl _)))))))) rfl (y_move rfl) rfl ?_
          refine H_y 6 rfl (by kernel_rfl) (by kernel_rfl) (by kernel_rfl) (hsub (.cons _ (.cons _ (.cons _ (.cons _ (.cons _ (.cons _ (.refl _)))))))) rfl (y_extract rfl rfl) rfl ?_
          refine H_y 7 rfl (by kernel_rfl) (by kernel_rfl) (by kernel_rfl) (hsub (.cons _ (.cons _ (.cons _ (.cons _ (.cons _ (.cons _ (.refl _)))))))) rfl (y_extract rfl rfl) rfl ?_
          refine H_y 8 rfl (by kernel_rfl) (by kernel_rfl) (by kernel_rfl) (hsub (.cons _ (.cons _ (.cons _ (.cons _ (.cons _ (.cons _ (.refl _)))))))) rfl (y_extract rfl rfl) rfl ?_
          refine H_y 9 rfl (by kernel_rfl) (by kernel_rfl) (by kernel_rfl) (hsub (.cons _ (.cons _ (.cons _ (.cons _ (.cons _ (.cons _ (.refl _)))))))) rfl (y_extract rfl rfl) rfl ?_
          refine H_one 10 rfl (by kernel_rfl) rfl (op_alloc zl_27 rfl (fun B10 => ?_))
          refine ⟨hsub (.cons _ (.cons _ (.cons _ (.cons _ (.cons _ (.cons _ (.cons _ (.refl _)))))))), ?_⟩
          refine H_y 11 rfl (by kernel_rfl) (by kernel_rfl) (by kernel_rfl) (hsub (.cons _ (.cons _ (.cons _ (.cons _ (.cons _ (.cons _ (.cons _ (.refl _))))))))) rfl (y_assign rfl) rfl ?_
          refine H_y 12 rfl (by kernel_rfl) (by kernel_rfl) (by kernel_rfl) (hsub (.cons _ (.cons _ (.cons _ (.cons _ (.cons _ (.cons _ (.cons _ (.refl _))))))))) rfl (y_assign rfl) rfl ?_
          refine H_y 13 rfl (by kernel_rfl) (by kernel_rfl) (by kernel_rfl) (hsub (.cons _ (.cons _ (.cons _ (.cons _ (.cons _ (.cons _ (.cons _ (.refl _))))))))) rfl (y_assign rfl) rfl ?_
          refine H_one 14 rfl (by kernel_rfl) rfl (op_store (vs := [slV ga4 K, slV gb4 K]) 0 0 rfl rfl rfl sz_27 rfl rfl (fun v hv => by simp at hv; rcases hv with rfl | rfl <;> exact one_slV _ _) (Nat.le_of_ble_eq_true rfl) ?_)
          refine ⟨hsub (.cons _ (.cons _ (.cons _ (.cons _ (.cons _ (.cons _ (.cons _ (.refl _)))))))), ?_⟩
          refine H_done (by kernel_rfl) ?_
          exact ⟨(D4, A4, m4, bp4), hS4, ⟨rfl, rfl, rfl, rfl, rfl, rfl, trivial⟩, ((hsub (.cons_cons _ (.cons_cons _ (.cons_cons _ (.cons _ (.cons _ (.cons _ (.cons _ (.cons _ (.refl _)))))))))).trans (hsub_pick [1, 1, 5] rfl))⟩
        · refine op_alloc zl_27 rfl (fun B11 => ?_)
          refine ⟨hsub (.cons _ (.cons _ (.cons _ (.refl _)))), ?_⟩
          refine H_one 4 rfl (by kernel_rfl) rfl (op_call rfl rfl (fun a w => Try.call14 a w) rfl ?_)
          refine FnS.mono (pair_z (K := K) (by omega) (sees 1 0 rfl) (sees 2 0 rfl)) ?_
          rintro _ _ ⟨D5, A5, m5, mb5, bx5, by5, bp5, ga5, gb5, hS5, hga5, hgb5, rfl, rfl⟩
          obtain rfl := hS5.mb
          obtain rfl := hS5.bx
          obtain rfl := hS5.bys
          refine ⟨_, rfl, ?_⟩
          refine ⟨hsub (.cons _ (.cons _ (.cons _ (.cons _ (.cons _ (.cons _ (.cons _ (.refl _)))))))), ?_⟩
          refine H_y 5 rfl (by kernel_rfl) (by kernel_rfl) (by kernel_rfl) (hsub (.cons _ (.cons _ (.cons _ (.cons _ (.cons _ (.cons _ (.cons _ (.refl _))))))))) rfl (y_move rfl) rfl ?_
          refine H_y 6 rfl (by kernel_rfl) (by kernel_rfl) (by kernel_rfl) (hsub (.cons _ (.cons _ (.cons _ (.cons _ (.cons _ (.cons _ (.cons _ (.refl _))))))))) rfl (y_extract rfl rfl) rfl ?_
          refine H_y 7 rfl (by kernel_rfl) (by kernel_rfl) (by kernel_rfl) (hsub (.cons _ (.cons _ (.cons _ (.cons _ (.cons _ (.cons _ (.cons _ (.refl _))))))))) rfl (y_extract rfl rfl) rfl ?_
          refine H_y 8 rfl (by kernel_rfl) (by kernel_rfl) (by kernel_rfl) (hsub (.cons _ (.cons _ (.cons _ (.cons _ (.cons _ (.cons _ (.cons _ (.refl _))))))))) rfl (y_extract rfl rfl) rfl ?_
          refine H_y 9 rfl (by kernel_rfl) (by kernel_rfl) (by kernel_rfl) (hsub (.cons _ (.cons _ (.cons _ (.cons _ (.cons _ (.cons _ (.cons _ (.refl _))))))))) rfl (y_extract rfl rfl) rfl ?_
          refine H_y 11 rfl (by kernel_rfl) (by kernel_rfl) (by kernel_rfl) (hsub (.cons _ (.cons _ (.cons _ (.cons _ (.cons _ (.cons _ (.cons _ (.refl _))))))))) rfl (y_assign rfl) rfl ?_
          refine H_y 12 rfl (by kernel_rfl) (by kernel_rfl) (by kernel_rfl) (hsub (.cons _ (.cons _ (.cons _ (.cons _ (.cons _ (.cons _ (.cons _ (.refl _))))))))) rfl (y_assign rfl) rfl ?_
          refine H_y 13 rfl (by kernel_rfl) (by kernel_rfl) (by kernel_rfl) (hsub (.cons _ (.cons _ (.cons _ (.cons _ (.cons _ (.cons _ (.cons _ (.refl _))))))))) rfl (y_assign rfl) rfl ?_
          refine H_one 14 rfl (by kernel_rfl) rfl (op_store (vs := [slV ga5 K, slV gb5 K]) 4 0 rfl rfl rfl sz_27 rfl rfl (fun v hv => by simp at hv; rcases hv with rfl | rfl <;> exact one_slV _ _) (Nat.le_of_ble_eq_true rfl) ?_)
          refine ⟨hsub (.cons _ (.cons _ (.cons _ (.cons _ (.cons _ (.cons _ (.cons _ (.refl _)))))))), ?_⟩
          refine H_done (by kernel_rfl) ?_
          exact ⟨(D5, A5, m5, bp5), hS5, ⟨rfl, rfl, rfl, rfl, rfl, rfl, trivial⟩, ((hsub (.cons_cons _ (.cons_cons _ (.cons_cons _ (.cons _ (.cons _ (.cons _ (.cons _ (.cons _ (.refl _)))))))))).trans (hsub_pick [0, 0, 5] rfl))⟩
      · refine op_alloc zl_27 rfl (fun B12 => ?_)
        refine ⟨hsub (.cons _ (.cons _ (.refl _))), ?_⟩
        refine H_one 1 rfl (by kernel_rfl) rfl (op_makeSlice rfl Try.underlying22 by_58 sz_58 zl_58 rfl (by omega) (by omega) (by omega) rfl (fun B13 => ?_))
        refine ⟨hsub (.cons _ (.cons _ (.cons _ (.refl _)))), ?_⟩
        refine H_one 4 rfl (by kernel_rfl) rfl (op_call rfl rfl (fun a w => Try.call14 a w) rfl ?_)
        refine FnS.mono (pair_z (K := K) (by omega) (sees 0 0 rfl) (sees 2 0 rfl)) ?_
        rintro _ _ ⟨D6, A6, m6, mb6, bx6, by6, bp6, ga6, gb6, hS6, hga6, hgb6, rfl, rfl⟩
        obtain rfl := hS6.mb
        obtain rfl := hS6.bx
        obtain rfl := hS6.bys
        refine ⟨_, rfl, ?_⟩
        refine ⟨hsub (.cons _ (.cons _ (.cons _ (.cons _ (.cons _ (.cons _ (.cons _ (.refl _)))))))), ?_⟩
        refine H_y 5 rfl (by kernel_rfl) (by kernel_rfl) (by kernel_rfl) (hsub (.cons _ (.cons _ (.cons _ (.cons _ (.cons _ (.cons _ (.cons _ (.refl _))))))))) rfl (y_move rfl) rfl ?_
        refine H_y 6 rfl (by kernel_rfl) (by kernel_rfl) (by kernel_rfl) (hsub (.cons _ (.cons _ (.cons _ (.cons _ (.cons _ (.cons _ (.cons _ (.refl _))))))))) rfl (y_extract rfl rfl) rfl ?_
        refine H_y 7 rfl (by kernel_rfl) (by kernel_rfl) (by kernel_rfl) (hsub (.cons _ (.cons _ (.cons _ (.cons _ (.cons _ (.cons _ (.cons _ (.refl _))))))))) rfl (y_extract rfl rfl) rfl ?_
        refine H_y 8 rfl (by kernel_rfl) (by kernel_rfl) (by kernel_rfl) (hsub (.cons _ (.cons _ (.cons _ (.cons _ (.cons _ (.cons _ (.cons _ (.refl _))))))))) rfl (y_extract rfl rfl) rfl ?_
        refine H_y 9 rfl (by kernel_rfl) (by kernel_rfl) (by kernel_rfl) (hsub (.cons _ (.cons _ (.cons _ (.cons _ (.cons _ (.cons _ (.cons _ (.refl _))))))))) rfl (y_extract rfl rfl) rfl ?_
        refine H_y 11 rfl (by kernel_rfl) (by kernel_rfl) (by kernel_rfl) (hsub (.cons _ (.cons _ (.cons _ (.cons _ (.cons _ (.cons _ (.cons _ (.refl _))))))))) rfl (y_assign rfl) rfl ?_
        refine H_y 12 rfl (by kernel_rfl) (by kernel_rfl) (by kernel_rfl) (hsub (.cons _ (.cons _ (.cons _ (.cons _ (.cons _ (.cons _ (.cons _ (.refl _))))))))) rfl (y_assign rfl) rfl ?_
        refine H_y 13 rfl (by kernel_rfl) (by kernel_rfl) (by kernel_rfl) (hsub (.cons _ (.cons _ (.cons _ (.cons _ (.cons _ (.cons _ (.cons _ (.refl _))))))))) rfl (y_assign rfl) rfl ?_
        refine H_one 14 rfl (by kernel_rfl) rfl (op_store (vs := [slV ga6 K, slV gb6 K]) 5 0 rfl rfl rfl sz_27 rfl rfl (fun v hv => by simp at hv; rcases hv with rfl | rfl <;> exact one_slV _ _) (Nat.le_of_ble_eq_true rfl) ?_)
        refine ⟨hsub (.cons _ (.cons _ (.cons _ (.cons _ (.cons _ (.cons _ (.cons _ (.refl _)))))))), ?_⟩
        refine H_done (by kernel_rfl) ?_
        exact ⟨(D6, A6, m6, bp6), hS6, ⟨rfl, rfl, rfl, rfl, rfl, rfl, trivial⟩, ((hsub (.cons_cons _ (.cons_cons _ (.cons_cons _ (.cons _ (.cons _ (.cons _ (.cons _ (.cons _ (.refl _)))))))))).trans (hsub_pick [0, 0, 5] rfl))⟩
    · refine op_alloc zl_27 rfl (fun B14 => ?_)
      refine ⟨hsub (.cons _ (.refl _)), ?_⟩
      refine H_two 1 3 rfl rfl (by kernel_rfl) rfl rfl ?_ ?_
      · refine op_makeSlice rfl Try.underlying22 by_58 sz_58 zl_58 rfl (by omega) (by omega) (by omega) rfl (fun B15 => ?_)
        refine ⟨hsub (.cons _ (.cons _ (.refl _))), ?_⟩
        refine H_one 3 rfl (by kernel_rfl) rfl (op_makeSlice rfl Try.underlying22 by_58 sz_58 zl_58 rfl (by omega) (by omega) (by omega) rfl (fun B16 => ?_))
        refine ⟨hsub (.cons _ (.cons _ (.cons _ (.refl _)))), ?_⟩
        refine H_one 4 rfl (by kernel_rfl) rfl (op_call rfl rfl (fun a w => Try.call14 a w) rfl ?_)
        refine FnS.mono (pair_z (K := K) (by omega) (sees 1 0 rfl) (sees 0 0 rfl)) ?_
        rintro _ _ ⟨D7, A7, m7, mb7, bx7, by7, bp7, ga7, gb7, hS7, hga7, hgb7, rfl, rfl⟩
        obtain rfl := hS7.mb
        obtain rfl := hS7.bx
        obtain rfl := hS7.bys
        refine ⟨_, rfl, ?_⟩
        refine ⟨hsub (.cons _ (.cons _ (.cons _ (.cons _ (.cons _ (.cons _ (.cons _ (.refl _)))))))), ?_⟩
        refine H_y 5 rfl (by kernel_rfl) (by kernel_rfl) (by kernel_rfl) (hsub (.cons _ (.cons _ (.cons _ (.cons _ (.cons _ (.cons _ (.cons _ (.refl _))))))))) rfl (y_move rfl) rfl ?_
        refine H_y 6 rfl (by kernel_rfl) (by kernel_rfl) (by kernel_rfl) (hsub (.cons _ (.cons _ (.cons _ (.cons _ (.cons _ (.cons _ (.cons _ (.refl _))))))))) rfl (y_extract rfl rfl) rfl ?_
        refine H_y 7 rfl (by kernel_rfl) (by kernel_rfl) (by kernel_rfl) (hsub (.cons _ (.cons _ (.cons _ (.cons _ (.cons _ (.cons _ (.cons _ (.refl _))))))))) rfl (y_extract rfl rfl) rfl ?_
        refine H_y 8 rfl (by kernel_rfl) (by kernel_rfl) (by kernel_rfl) (hsub (.cons _ (.cons _ (.cons _ (.cons _ (.cons _ (.cons _ (.cons _ (.refl _))))))))) rfl (y_extract rfl rfl) rfl ?_
        refine H_y 9 rfl (by kernel_rfl) (by kernel_rfl) (by kernel_rfl) (hsub (.cons _ (.cons _ (.cons _ (.cons _ (.cons _ (.cons _ (.cons _ (.refl _))))))))) rfl (y_extract rfl rfl) rfl ?_
        refine H_y 11 rfl (by kernel_rfl) (by kernel_rfl) (by kernel_rfl) (hsub (.cons _ (.cons _ (.cons _ (.cons _ (.cons _ (.cons _ (.cons _ (.refl _))))))))) rfl (y_assign rfl) rfl ?_
        refine H_y 12 rfl (by kernel_rfl) (by kernel_rfl) (by kernel_rfl) (hsub (.cons _ (.cons _ (.cons _ (.cons _ (.cons _ (.cons _ (.cons _ (.refl _))))))))) rfl (y_assign rfl) rfl ?_
        refine H_y 13 rfl (by kernel_rfl) (by kernel_rfl) (by kernel_rfl) (hsub (.cons _ (.cons _ (.cons _ (.cons _ (.cons _ (.cons _ (.cons _ (.refl _))))))))) rfl (y_assign rfl) rfl ?_
        refine H_one 14 rfl (by kernel_rfl) rfl (op_store (vs := [slV ga7 K, slV gb7 K]) 6 0 rfl rfl rfl sz_27 rfl rfl (fun v hv => by simp at hv; rcases hv with rfl | rfl <;> exact one_slV _ _) (Nat.le_of_ble_eq_true rfl) ?_)
        refine ⟨hsub (.cons _ (.cons _ (.cons _ (.cons _ (.cons _ (.cons _ (.cons _ (.refl _)))))))), ?_⟩
        refine H_done (by kernel_rfl) ?_
        exact ⟨(D7, A7, m7, bp7), hS7, ⟨rfl, rfl, rfl, rfl, rfl, rfl, trivial⟩, ((hsub (.cons_cons _ (.cons_cons _ (.cons_cons _ (.cons _ (.cons _ (.cons _ (.cons _ (.cons _ (.refl _)))))))))).trans (hsub_pick [0, 0, 5] rfl))⟩
      · refine op_makeSlice rfl Try.underlying22 by_58 sz_58 zl_58 rfl (by omega) (by omega) (by omega) rfl (fun B17 => ?_)
        refine ⟨hsub (.cons _ (.cons _ (.refl _))), ?_⟩
        refine H_one 1 rfl (by kernel_rfl) rfl (op_makeSlice rfl Try.underlying22 by_58 sz_58 zl_58 rfl (by omega) (by omega) (by omega) rfl (fun B18 => ?_))
        refine ⟨hsub (.cons _ (.cons _ (.cons _ (.refl _)))), ?_⟩
        refine H_one 4 rfl (by kernel_rfl) rfl (op_call rfl rfl (fun a w => Try.call14 a w) rfl ?_)
        refine FnS.mono (pair_z (K := K) (by omega) (sees 0 0 rfl) (sees 1 0 rfl)) ?_
        rintro _ _ ⟨D8, A8, m8, mb8, bx8, by8, bp8, ga8, gb8, hS8, hga8, hgb8, rfl, rfl⟩
        obtain rfl := hS8.mb
        obtain rfl := hS8.bx
        obtain rfl := hS8.bys
        refine ⟨_, rfl, ?_⟩
        refine ⟨hsub (.cons _ (.cons _ (.cons _ (.cons _ (.cons _ (.cons _ (.cons _ (.refl _)))))))), ?_⟩
        refine H_y 5 rfl (by kernel_rfl) (by kernel_rfl) (by kernel_rfl) (hsub (.cons _ (.cons _ (.cons _ (.cons _ (.cons _ (.cons _ (.cons _ (.refl _))))))))) rfl (y_move rfl) rfl ?_
        refine H_y 6 rfl (by kernel_rfl) (by kernel_rfl) (by kernel_rfl) (hsub (.cons _ (.cons _ (.cons _ (.cons _ (.cons _ (.cons _ (.cons _ (.refl _))))))))) rfl (y_extract rfl rfl) rfl ?_
        refine H_y 7 rfl (by kernel_rfl) (by kernel_rfl) (by kernel_rfl) (hsub (.cons _ (.cons _ (.cons _ (.cons _ (.cons _ (.cons _ (.cons _ (.refl _))))))))) rfl (y_extract rfl rfl) rfl ?_
        refine H_y 8 rfl (by kernel_rfl) (by kernel_rfl) (by kernel_rfl) (hsub (.cons _ (.cons _ (.cons _ (.cons _ (.cons _ (.cons _ (.cons _ (.refl _))))))))) rfl (y_extract rfl rfl) rfl ?_
        refine H_y 9 rfl (by kernel_rfl) (by kernel_rfl) (by kernel_rfl) (hsub (.cons _ (.cons _ (.cons _ (.cons _ (.cons _ (.cons _ (.cons _ (.refl _))))))))) rfl (y_extract rfl rfl) rfl ?_
        refine H_y 11 rfl (by kernel_rfl) (by kernel_rfl) (by kernel_rfl) (hsub (.cons _ (.cons _ (.cons _ (.cons _ (.cons _ (.cons _ (.cons _ (.refl _))))))))) rfl (y_assign rfl) rfl ?_
        refine H_y 12 rfl (by kernel_rfl) (by kernel_rfl) (by kernel_rfl) (hsub (.cons _ (.cons _ (.cons _ (.cons _ (.cons _ (.cons _ (.cons _ (.refl _))))))))) rfl (y_assign rfl) rfl ?_
        refine H_y 13 rfl (by kernel_rfl) (by kernel_rfl) (by kernel_rfl) (hsub (.cons _ (.cons _ (.cons _ (.cons _ (.cons _ (.cons _ (.cons _ (.refl _))))))))) rfl (y_assign rfl) rfl ?_
        refine H_one 14 rfl (by kernel_rfl) rfl (op_store (vs := [slV ga8 K, slV gb8 K]) 6 0 rfl rfl rfl sz_27 rfl rfl (fun v hv => by simp at hv; rcases hv with rfl | rfl <;> exact one_slV _ _) (Nat.le_of_ble_eq_true rfl) ?_)
        refine ⟨hsub (.cons _ (.cons _ (.cons _ (.cons _ (.cons _ (.cons _ (.cons _ (.refl _)))))))), ?_⟩
        refine H_done (by kernel_rfl) ?_
        exact ⟨(D8, A8, m8, bp8), hS8, ⟨rfl, rfl, rfl, rfl, rfl, rfl, trivial⟩, ((hsub (.cons_cons _ (.cons_cons _ (.cons_cons _ (.cons _ (.cons _ (.cons _ (.cons _ (.cons _ (.refl _)))))))))).trans (hsub_pick [0, 0, 5] rfl))⟩
  · obtain ⟨D1, A1, m1, bp1⟩ := i
    dsimp only
    have hS1 := hi
    simp only at hS1
    refine C_seq ?_
    refine C_seq ?_
    refine C_region ?_
    refine L_y rfl (y_move rfl) rfl ?_
    refine L_op rfl (op_call rfl rfl (fun a w => Try.call16 a w) rfl ?_)
    refine (FnS.sub (hsub_pick [0, 0] rfl) (all_still hS1 (by omega) (by omega) (by omega))).mono ?_
    rintro _ _ ⟨ra, rc, D2, rfl, hT2, rfl⟩
    refine ⟨_, rfl, ?_⟩
    refine L_op rfl (op_alloc zl_32 rfl (fun B19 => ?_))
    refine L_op rfl (op_store (vs := [.int .i64 ra, .int .i64 0, .int .i64 rc]) 0 0 rfl rfl rfl sz_32 rfl rfl (ones rfl) (Nat.le_of_ble_eq_true rfl) ?_)
    refine L_nil ?_
    refine C_seq ?_
    refine C_region ?_
    refine L_y rfl (y_fieldAddr rfl fl_32_1) rfl ?_
    refine L_y rfl (y_load rfl ag_3 (sees 0 0 rfl) rfl) rfl ?_
    refine L_y rfl (y_nei rfl rfl) rfl ?_
    refine L_nil ?_
    refine C_cond rfl (fun hc1 => absurd hc1 (by simp)) (fun hc1 => ?_)
    refine C_skip ?_
    refine C_seq ?_
    refine C_region ?_
    refine L_y rfl (y_move rfl) rfl ?_
    refine L_y rfl (y_conv rfl us_5 Try.underlying3 (wi64 (by omega) (by omega))) rfl ?_
    refine L_y rfl (y_move rfl) rfl ?_
    refine L_y rfl (y_rem rfl rfl (by omega) (show _ = ((a % K : Nat) : Int) from rfl)) rfl ?_
    refine L_y rfl (y_assign rfl) rfl ?_
    refine L_nil ?_
    refine C_seq ?_
    obtain ⟨t, htt⟩ : ∃ t, a % K = t := ⟨_, rfl⟩
    rw [htt] at hg ⊢
    have ht : t < K := by rw [← htt]; exact Nat.mod_lt _ (by omega)
    refine C_region ?_
    refine L_y rfl (y_indexA rfl rfl Try.underlying58 sz_5 (by omega) (by omega) (show _ = 0 from rfl)) rfl ?_
    refine L_y rfl (y_load rfl ag_5 (sees 3 0 rfl) rfl) rfl ?_
    refine L_y rfl (y_indexA rfl rfl Try.underlying58 sz_5 (by omega) (by omega) (show _ = 1 from rfl)) rfl ?_
    refine L_y rfl (y_load rfl ag_5 (sees 3 0 rfl) rfl) rfl ?_
    refine L_y rfl (y_buildA (vs := [(0, _), (1, _), (2, _)]) (l := bs (sec3 u v 7)) rfl Try.underlying37 sz_5 zl_37 (by rw [sec3_fill]; exact (fill_cons (off := 0) (m := 1) (vs := [_]) rfl rfl rfl (Nat.le_of_ble_eq_true rfl) (fill_cons (off := 1) (m := 1) (vs := [_]) rfl rfl rfl (Nat.le_of_ble_eq_true rfl) (fill_cons (off := 2) (m := 1) (vs := [_]) rfl rfl rfl (Nat.le_of_ble_eq_true rfl) rfl))))) rfl ?_
    refine L_op rfl (op_alloc zl_37 rfl (fun B20 => ?_))
    refine L_op rfl (op_storeA 0 0 rfl rfl rfl sz_37 (by rw [bs_length, sec3_len _ _ _]) rfl (bs_one _) (by simp) ?_)
    refine L_nil ?_
    refine C_seq ?_
    skip
    refine C_region ?_
    refine L_y rfl (y_move rfl) rfl ?_
    refine L_op rfl (op_call rfl rfl (fun a w => Try.call23 a w) rfl ?_)
    refine (FnS.sub (hsub_pick [3] rfl) (out_d hT2 false true)).mono ?_
    rintro _ _ ⟨rfl, D3, hT3, rfl⟩
    refine ⟨_, rfl, ?_⟩
    refine L_nil ?_
    refine C_seq ?_
    refine C_region ?_
    refine L_y rfl (y_move rfl) rfl ?_
    refine L_y rfl (y_move rfl) rfl ?_
    refine L_y rfl (y_loadA rfl ag_37 sz_37 (sees 1 0 rfl) (by rw [bs_length, sec3_len _ _ _]; decide) (bs_whole0 _ (sec3_len _ _ _))) rfl ?_
    refine L_op rfl (op_call rfl rfl (fun a w => Try.call27 a w) rfl ?_)
    refine (FnS.sub (hsub_pick [3, 0] rfl) (mwrite_m (m := m1) hT3 (t : Int) (sec3 u v 7) (sec3_len _ _ _) (fun i => Nat.lt_of_le_of_lt (Nat.le_trans (outs_many A1 false i) (hS1.many (k := 0) (Nat.le_refl _) (Nat.le_refl _) i)) (by decide)))).mono ?_
    rintro _ _ ⟨e4, D4, hT4, rfl⟩
    obtain ⟨p0, p1, p2, p3, p4, p5, p6, p7, p8⟩ := put_out (s := (sec3 u v 7)) hS1.vw ht hS1.n hS1.s0 hS1.s1
    rw [p0] at e4
    obtain rfl := e4
    generalize hm2 : putm m1 _ askAll (t : Int) (sec3 u v 7) = m2 at *
    refine ⟨_, rfl, ?_⟩
    refine L_y rfl (y_assign rfl) rfl ?_
    refine L_nil ?_
    refine C_seq ?_
    refine C_region ?_
    refine L_y rfl (y_move rfl) rfl ?_
    refine L_op rfl (op_call rfl rfl (fun a w => Try.call23 a w) rfl ?_)
    refine (FnS.sub (hsub_pick [1] rfl) (out_d hT4 false false)).mono ?_
    rintro _ _ ⟨rfl, D5, hT5, rfl⟩
    rw [p1] at hT5
    obtain ⟨w1, v5⟩ := hS1.vw.write (n := t) (s := (sec3 u v 7)) true ht (sec3_len _ _ _)
    simp only [if_true] at v5
    refine ⟨_, rfl, ?_⟩
    refine L_nil ?_
    refine C_seq ?_
    refine C_region ?_
    refine L_y rfl (y_move rfl) rfl ?_
    refine L_op rfl (op_call rfl rfl (fun a w => Try.call16 a w) rfl ?_)
    refine (FnS.sub (hsub_pick [1, 0] rfl) (all_loses (m := m2) (K := K) (t := t) (s := (sec3 u v 7)) v5 ht (sec3_len _ _ _) (p7.trans hS1.n) p2 p3 (p8.trans hS1.gv) (by rw [p5, p6]; exact hT5) (by omega) (by omega) (by omega) p4 hg)).mono ?_
    rintro _ _ ⟨qa, qc, D6, hqc, rfl, hT6, rfl⟩
    rw [p5, p6] at hT6
    refine ⟨_, rfl, ?_⟩
    refine L_op rfl (op_alloc zl_32 rfl (fun B21 => ?_))
    refine L_op rfl (op_store (vs := [.int .i64 qa, .int .i64 0, .int .i64 (qc : Int)]) 0 0 rfl rfl rfl sz_32 rfl rfl (ones rfl) (Nat.le_of_ble_eq_true rfl) ?_)
    refine L_nil ?_
    refine C_seq ?_
    refine C_region ?_
    refine L_y rfl (y_move rfl) rfl ?_
    refine L_op rfl (op_call rfl rfl (fun a w => Try.call28 a w) rfl ?_)
    refine FnS.mono (FnS.sub (hsub_pick [1] rfl) (stale_b (m := m2) p4)) ?_
    rintro _ _ ⟨rfl, rfl⟩
    refine ⟨_, rfl, ?_⟩
    refine L_y rfl (y_move rfl) rfl ?_
    refine L_y rfl (y_extract rfl rfl) rfl ?_
    refine L_y rfl (y_extract rfl rfl) rfl ?_
    refine L_y rfl (y_assign rfl) rfl ?_
    refine L_y rfl (y_assign rfl) rfl ?_
    refine L_nil ?_
    refine C_seq ?_
    refine C_region ?_
    refine L_y rfl (y_move rfl) rfl ?_
    refine L_y rfl (y_move rfl) rfl ?_
    refine L_op rfl (op_call rfl rfl (fun a w => Try.call19 a w) rfl ?_)
    refine (FnS.sub (hsub_pick [2] rfl) (read_d hT6 false (t : Int))).mono ?_
    rintro _ _ ⟨rfl, rfl⟩
    refine ⟨_, rfl, ?_⟩
    refine L_y rfl (y_move rfl) rfl ?_
    refine L_y rfl (y_extract rfl rfl) rfl ?_
    refine L_y rfl (y_extract rfl rfl) rfl ?_
    refine L_op rfl (op_alloc zl_37 rfl (fun B22 => ?_))
    refine L_op rfl (op_storeA 0 0 rfl rfl rfl sz_37 (by rw [bs_length, rS_len false hT6.oks]) rfl (bs_one _) (by simp) ?_)
    refine L_y rfl (y_assign rfl) rfl ?_
    refine L_nil ?_
    refine C_seq ?_
    refine C_region ?_
    refine L_y rfl (y_move rfl) rfl ?_
    refine L_y rfl (y_move rfl) rfl ?_
    refine L_op rfl (op_call rfl rfl (fun a w => Try.call19 a w) rfl ?_)
    refine (FnS.sub (hsub_pick [1] rfl) (read_d hT6 true (t : Int))).mono ?_
    rintro _ _ ⟨rfl, rfl⟩
    refine ⟨_, rfl, ?_⟩
    refine L_y rfl (y_move rfl) rfl ?_
    refine L_y rfl (y_extract rfl rfl) rfl ?_
    refine L_y rfl (y_extract rfl rfl) rfl ?_
    refine L_op rfl (op_alloc zl_37 rfl (fun B23 => ?_))
    refine L_op rfl (op_storeA 0 0 rfl rfl rfl sz_37 (by rw [bs_length, rS_len true hT6.oks]) rfl (bs_one _) (by simp) ?_)
    refine L_y rfl (y_assign rfl) rfl ?_
    refine L_nil ?_
    refine C_seq ?_
    refine C_seq ?_
    refine C_region ?_
    refine L_y rfl (y_move rfl) rfl ?_
    refine L_y rfl (y_loadA rfl ag_37 sz_37 (sees 5 0 rfl) (by rw [bs_length, sec3_len _ _ _]; decide) (bs_whole0 _ (sec3_len _ _ _))) rfl ?_
    refine L_op rfl (op_call rfl rfl (fun a w => Try.call26 a w) rfl ?_)
    refine (good09_s (t : Int) (sec3 u v 7) (sec3_len _ _ _)).mono ?_
    rintro _ _ ⟨rfl, e⟩
    obtain rfl := e.symm
    rw [hg]
    refine ⟨_, rfl, ?_⟩
    refine L_y rfl (y_not rfl) rfl ?_
    refine L_nil ?_
    refine C_cond_t rfl ?_
    refine C_seq ?_
    refine C_region ?_
    refine L_y rfl (y_move rfl) rfl ?_
    refine L_y rfl (y_eqi rfl rfl) rfl ?_
    refine L_y rfl (y_move rfl) rfl ?_
    refine L_case 86 rfl (fun hg18_3 => ?_) (fun hg18_3 => ?_)
    · skip
      refine L_y rfl (y_fieldAddr rfl fl_32_2) rfl ?_
      refine L_y rfl (y_load rfl ag_3 (sees 4 0 rfl) rfl) rfl ?_
      refine L_y rfl (y_geq rfl rfl) rfl ?_
      refine L_y rfl (y_pick_t rfl rfl) rfl ?_
      refine L_y rfl (y_move rfl) rfl ?_
      refine L_case 91 rfl (fun hg18_8 => ?_) (fun hg18_8 => ?_)
      · skip
        refine L_y rfl (y_move rfl) rfl ?_
        refine L_y rfl (y_eqi rfl rfl) rfl ?_
        refine L_y rfl (y_pick_t rfl rfl) rfl ?_
        refine L_y rfl (y_assign rfl) rfl ?_
        refine L_nil ?_
        refine C_ret ?_
        refine B_ret (rv_tmp rfl rv_nil) (HSub.refl _) ?_
        exact ret_bool (by simp [p2])
      · exact absurd hg18_8 (by simp; try omega)
    · exact absurd hg18_3 (by simp)

end Go.Proofs.Ytoaalclbplgegaa
