/- walks (own work; the walks' lines by a program of this repo). -/
import Derived.Test.YtjiojffakejgjaaDaW
import Derived.Test.YtjiojffakejgjaaDw
set_option linter.unusedVariables false
set_option linter.unusedSimpArgs false
set_option maxRecDepth 20000
namespace Go.Proofs.Ytjiojffakejgjaa
open Go.Sl
attribute [local irreducible] BodyQ WpC WpL WpS WpH OpW FnS


theorem lies_over {w0 : World} {H : Hp} {a : Option Addr} {cap : Nat} (ds : List DeedM) (hL : Holds w0 H a (deeds ds)) (h20 : 20 < ds.length) : FnS Try.prog w0 9 #[.slice a ds.length cap] H (fun e H' => e = .returned (.bool true)) := by
  refine FnS_intro (n := 90) (rs := [.tmp 2]) (vs := [.slice a ds.length cap]) Try.func9 rfl Try.ntmps9 rfl rfl ?_
  refine C_seq ?_
  refine C_region ?_
  refine L_y rfl (y_assign rfl) rfl ?_
  refine L_nil ?_
  refine C_seq ?_
  refine C_seq ?_
  refine C_region ?_
  refine L_op rfl (op_call rfl rfl (fun a w => Try.call20 a w) rfl ?_)
  refine awake08_s.mono ?_
  rintro _ _ ⟨rfl, e⟩
  obtain rfl := e.symm
  refine ⟨_, rfl, ?_⟩
  refine L_y rfl (y_not rfl) rfl ?_
  refine L_nil ?_
  refine C_cond_f rfl ?_
  refine C_skip ?_
  refine C_seq ?_
  refine C_seq ?_
  refine C_region ?_
  refine L_y rfl (y_move rfl) rfl ?_
  refine L_y rfl (y_lenS rfl rfl Try.underlying55) rfl ?_
  refine L_y rfl (y_gtr rfl rfl) rfl ?_
  refine L_nil ?_
  refine C_cond rfl (fun hc1 => ?_) (fun hc1 => absurd hc1 (by simp <;> omega))
  refine C_seq ?_
  refine C_region ?_
  refine L_y rfl (y_assign rfl) rfl ?_
  refine L_nil ?_
  refine C_ret ?_
  refine B_ret (rv_tmp rfl rv_nil) (HSub.refl _) ?_
  rfl

theorem lies_s {w0 : World} {H : Hp} {a : Option Addr} {cap : Nat} (ds : List DeedM) (hL : Holds w0 H a (deeds ds)) (h20 : ¬ 20 < ds.length) : FnS Try.prog w0 9 #[.slice a ds.length cap] H (fun e H' => e = .returned (.bool true)) := by
  refine FnS_intro (n := 90) (rs := [.tmp 2]) (vs := [.slice a ds.length cap]) Try.func9 rfl Try.ntmps9 rfl rfl ?_
  refine C_seq ?_
  refine C_region ?_
  refine L_y rfl (y_assign rfl) rfl ?_
  refine L_nil ?_
  refine C_seq ?_
  refine C_seq ?_
  refine C_region ?_
  refine L_op rfl (op_call rfl rfl (fun a w => Try.call20 a w) rfl ?_)
  refine awake08_s.mono ?_
  rintro _ _ ⟨rfl, e⟩
  obtain rfl := e.symm
  refine ⟨_, rfl, ?_⟩
  refine L_y rfl (y_not rfl) rfl ?_
  refine L_nil ?_
  refine C_cond_f rfl ?_
  refine C_skip ?_
  refine C_seq ?_
  refine C_seq ?_
  refine C_region ?_
  refine L_y rfl (y_move rfl) rfl ?_
  refine L_y rfl (y_lenS rfl rfl Try.underlying55) rfl ?_
  refine L_y rfl (y_gtr rfl rfl) rfl ?_
  refine L_nil ?_
  refine C_cond rfl (fun hc1 => absurd hc1 (by simp <;> omega)) (fun hc1 => ?_)
  refine C_skip ?_
  refine C_seq ?_
  refine C_region ?_
  refine L_op rfl (op_call rfl rfl (fun a w => Try.call22 a w) rfl ?_)
  refine (new_ln 20).mono ?_
  rintro _ _ ⟨d1, p1, hG1, ha1, hP1, rfl, rfl⟩
  have hA1 : d1.a = Ab.new 20 := by rw [ha1] <;> (rfl)
  have hb1 : d1.b = d1.b := rfl
  refine ⟨_, rfl, ?_⟩
  refine L_y rfl (y_assign rfl) rfl ?_
  refine L_nil ?_
  refine C_seq ?_
  refine C_region ?_
  refine L_y rfl (y_move rfl) rfl ?_
  refine L_op rfl (op_call rfl rfl (fun a w => Try.call28 a w) rfl ?_)
  refine (dump_l hb1 hG1.dok.1 (sees 0 0 rfl) (sees 1 0 rfl)).mono ?_
  rintro _ _ ⟨g, hg, rfl, rfl⟩
  have hS2 : d1.a.S = S20 := by rw [hA1] <;> (rfl)
  rw [show d1.a.S.length = (S20).length from by rw [hS2], hS2] at hg
  rw [show slSeg _ g (bs d1.a.S.flatten) = slSeg _ g (bs (S20).flatten) from by rw [hS2], show slV g d1.a.S.length = slV g (S20).length from by rw [hS2]]
  cases g with
  | none => exact slOk_none hg (by rw [S20_len]; decide)
  | some g => ?_
  refine ⟨_, rfl, ?_⟩
  refine L_y rfl (y_assign rfl) rfl ?_
  refine L_nil ?_
  refine C_seq ?_
  refine C_region ?_
  refine L_y rfl (y_move rfl) rfl ?_
  refine L_op rfl (op_call rfl rfl (fun a w => Try.call35 a w) rfl ?_)
  refine ((lie_l (H := (_ :: H)) (L := []) (R := []) hG1 hb1 true).sub (hsub_pick [1, 1, 1, 1, 1] rfl)).mono ?_
  rintro _ _ ⟨rfl, d3, hG3, hb3, ha3, rfl⟩
  have hA3 : d3.a = lA ds 0 := by rw [ha3, hA1] <;> (rfl)
  refine ⟨_, rfl, ?_⟩
  refine L_nil ?_
  refine C_seq ?_
  refine C_region ?_
  refine L_y rfl (y_assign rfl) rfl ?_
  refine L_nil ?_
  refine C_seq ?_
  refine C_seq ?_
  refine C_region ?_
  refine L_y rfl (y_assign rfl) rfl ?_
  refine L_nil ?_
  refine C_block ?_
  refine C_loop (ι := Dv × Pw × Nat) (fun i => [(0, .slice a ds.length cap), (3, ptr d1.b), (4, slV (some g) S20.length), (5, .int .i64 ((lq ds i.2.2).length : Int)), (6, .int .i64 (i.2.2 : Int))]) (fun i => i.1.o dt :: i.1.t dt :: i.1.q dt :: i.2.1.o dt :: i.2.1.q dt :: slSeg 44 (some g) (bs S20.flatten) :: H) (fun i => GOk dt i.2.1 [] i.1 [] ∧ i.1.b = d1.b ∧ i.2.1.b = p1.b ∧ i.1.a = lA ds i.2.2 ∧ i.2.1.a = q0 ∧ i.2.2 ≤ ds.length) (fun i => ds.length - i.2.2) (d3, p1, 0) ⟨hG3, hb3, rfl, hA3, hP1, Nat.zero_le _⟩ ⟨rfl, rfl, rfl, rfl, rfl, trivial⟩ (HSub.refl _) (fun i hi => ?_)
  obtain ⟨d, p, i⟩ := i
  obtain ⟨hG, hb, pb, hA, hP, hi⟩ := hi
  simp only at hG hb pb hA hP hi
  dsimp only
  refine C_seq ?_
  refine C_seq ?_
  refine C_region ?_
  refine L_y rfl (y_move rfl) rfl ?_
  refine L_y rfl (y_move rfl) rfl ?_
  refine L_y rfl (y_lenS rfl rfl Try.underlying55) rfl ?_
  refine L_y rfl (y_lss rfl rfl) rfl ?_
  refine L_nil ?_
  refine C_cond rfl (fun hc2 => ?_) (fun hc2 => ?_)
  · replace hc2 := of_decide_eq_true hc2
    refine C_skip ?_
    refine C_seq ?_
    refine C_block ?_
    refine C_seq ?_
    refine C_seq ?_
    obtain ⟨x, hx⟩ : ∃ x, ds[i]? = some x := ⟨_, List.getElem?_eq_getElem (by omega)⟩
    obtain ⟨b1, o1, l1, T1, fr1, rfl, hs1, hle1, hv1⟩ := hL (by rw [deeds_len]; omega)
    refine C_regionH H (by kernel_rfl) ?_
    refine H_y 0 rfl (by kernel_rfl) (by kernel_rfl) (by kernel_rfl) (hsub (.cons _ (.cons _ (.cons _ (.cons _ (.cons _ (.cons _ (.refl _)))))))) rfl (y_move rfl) rfl ?_
    refine H_y 1 rfl (by kernel_rfl) (by kernel_rfl) (by kernel_rfl) (hsub (.cons _ (.cons _ (.cons _ (.cons _ (.cons _ (.cons _ (.refl _)))))))) rfl (y_move rfl) rfl ?_
    refine H_y 2 rfl (by kernel_rfl) (by kernel_rfl) (by kernel_rfl) (hsub (.cons _ (.cons _ (.cons _ (.cons _ (.cons _ (.cons _ (.refl _)))))))) rfl (y_move rfl) rfl ?_
    refine H_y 3 rfl (by kernel_rfl) (by kernel_rfl) (by kernel_rfl) (hsub (.cons _ (.cons _ (.cons _ (.cons _ (.cons _ (.cons _ (.refl _)))))))) rfl (y_indexS rfl rfl Try.underlying55 sz_57 (by omega) (by omega) (show _ = o1 + i * 5 from by simp)) rfl ?_
    refine H_y 4 rfl (by kernel_rfl) (by kernel_rfl) (by kernel_rfl) (hsub (.cons _ (.cons _ (.cons _ (.cons _ (.cons _ (.cons _ (.refl _)))))))) rfl (y_fieldAddr rfl fl_57_2) rfl ?_
    refine H_y 5 rfl (by kernel_rfl) (by kernel_rfl) (by kernel_rfl) (hsub (.cons _ (.cons _ (.cons _ (.cons _ (.cons _ (.cons _ (.refl _)))))))) rfl (y_load rfl ag_3 (hs1) (show _ = some (.int .i64 x.n) from deed_at hv1 hx (by decide))) rfl ?_
    refine H_y 6 rfl (by kernel_rfl) (by kernel_rfl) (by kernel_rfl) (hsub (.cons _ (.cons _ (.cons _ (.cons _ (.cons _ (.cons _ (.refl _)))))))) rfl (y_move rfl) rfl ?_
    refine H_y 7 rfl (by kernel_rfl) (by kernel_rfl) (by kernel_rfl) (hsub (.cons _ (.cons _ (.cons _ (.cons _ (.cons _ (.cons _ (.refl _)))))))) rfl (y_move rfl) rfl ?_
    refine H_y 8 rfl (by kernel_rfl) (by kernel_rfl) (by kernel_rfl) (hsub (.cons _ (.cons _ (.cons _ (.cons _ (.cons _ (.cons _ (.refl _)))))))) rfl (y_indexS rfl rfl Try.underlying55 sz_57 (by omega) (by omega) (show _ = o1 + i * 5 from by simp)) rfl ?_
    refine H_y 9 rfl (by kernel_rfl) (by kernel_rfl) (by kernel_rfl) (hsub (.cons _ (.cons _ (.cons _ (.cons _ (.cons _ (.cons _ (.refl _)))))))) rfl (y_fieldAddr rfl fl_57_4) rfl ?_
    refine H_y 10 rfl (by kernel_rfl) (by kernel_rfl) (by kernel_rfl) (hsub (.cons _ (.cons _ (.cons _ (.cons _ (.cons _ (.cons _ (.refl _)))))))) rfl (y_load rfl ag_5 (hs1) (show _ = some (.int .u8 (x.c.toNat : Int)) from deed_at hv1 hx (by decide))) rfl ?_
    refine H_one 11 rfl (by kernel_rfl) rfl (op_call rfl rfl (fun a w => Try.call25 a w) rfl ?_)
    refine (sector_s x.c).mono ?_
    rintro _ _ ⟨rfl, rfl⟩
    refine ⟨_, rfl, ?_⟩
    refine ⟨hsub (.cons _ (.cons _ (.cons _ (.cons _ (.cons _ (.cons _ (.refl _))))))), ?_⟩
    refine H_one 12 rfl (by kernel_rfl) rfl (op_call rfl rfl (fun a w => Try.call24 a w) rfl ?_)
    refine ((write_1 (H := (_ :: H)) hG hb x.n (secOf x.c) (secOf_len _) (by rw [hA]; have := lq_len ds i; simp only [lA]; omega)).sub (hsub_pick [0, 0, 0, 0, 0] rfl)).mono ?_
    rintro _ _ ⟨rfl, d4, p4, hG4, hb4, ha4, hpb4, hq4, rfl⟩
    have hA4 : d4.a = lA ds (i + 1) := by rw [ha4, hA, hP] <;> (exact (lA_write hx).2.1)
    have hP4 : p4.a = q0 := by rw [hq4, hA, hP] <;> (exact (lA_write hx).2.2)
    have pb4 := hpb4.trans pb
    rw [show writeE d.a p.a x.n = (if okN x then 0 else 2) from by rw [hA, hP] <;> (exact (lA_write hx).1)]
    refine ⟨_, rfl, ?_⟩
    refine ⟨hsub (.cons _ (.cons _ (.cons _ (.cons _ (.cons _ (.cons _ (.refl _))))))), ?_⟩
    refine H_y 13 rfl (by kernel_rfl) (by kernel_rfl) (by kernel_rfl) (hsub (.cons _ (.cons _ (.cons _ (.cons _ (.cons _ (.cons _ (.refl _)))))))) rfl (y_eqi rfl rfl) rfl ?_
    refine H_done (by kernel_rfl) ?_
    refine C_cond rfl (fun hc3 => ?_) (fun hc3 => ?_)
    · have hv2 : okN x := by
        by_cases h : okN x
        · exact h
        · rw [if_neg h] at hc3; exact absurd hc3 (by decide)
      refine C_region ?_
      refine L_y rfl (y_move rfl) rfl ?_
      refine L_y rfl (y_add rfl rfl (show _ = (((lq ds (i + 1)).length : Nat) : Int) from by rw [wi64 (by omega) (by have := lq_len ds i; omega), lq_t hx hv2]; simp)) rfl ?_
      refine L_y rfl (y_assign rfl) rfl ?_
      refine L_nil ?_
      refine C_seq ?_
      refine C_region ?_
      refine L_y rfl (y_move rfl) rfl ?_
      refine L_op rfl (op_call rfl rfl (fun a w => Try.call27 a w) rfl ?_)
      refine ((flush_1 (H := (_ :: H)) hG4 hb4).sub (hsub_pick [0, 0, 0, 0, 0] rfl)).mono ?_
      rintro _ _ ⟨rfl, d5, p5, hG5, hb5, ha5, hpb5, hq5, rfl⟩
      have hA5 : d5.a = lA ds (i + 1) := by rw [ha5, hA4, hP4] <;> (exact (lA_flush _ _).2.1)
      have hP5 : p5.a = q0 := by rw [hq5, hA4, hP4] <;> (exact (lA_flush _ _).2.2)
      have pb5 := hpb5.trans pb4
      rw [show flushE d4.a p4.a = 0 from by rw [hA4, hP4] <;> (exact (lA_flush _ _).1)]
      refine ⟨_, rfl, ?_⟩
      refine L_y rfl (y_nei rfl rfl) rfl ?_
      refine L_y rfl (y_move rfl) rfl ?_
      refine L_y rfl (y_move rfl) rfl ?_
      refine L_op rfl (op_call rfl rfl (fun a w => Try.call29 a w) rfl ?_)
      refine (waiting_l hb5 hG5.dok (sees 0 0 rfl)).mono ?_
      rintro _ _ ⟨rfl, rfl⟩
      rw [show ((d5.a.Q.length : Nat) : Int) = (((lq ds (i + 1)).length : Nat) : Int) from by rw [hA5] <;> (rfl)]
      refine ⟨_, rfl, ?_⟩
      refine L_y rfl (y_move rfl) rfl ?_
      refine L_y rfl (y_nei rfl rfl) rfl ?_
      refine L_y rfl (y_pick_f rfl rfl) rfl ?_
      refine L_y rfl (y_move rfl) rfl ?_
      refine L_case 52 rfl (fun hg14_10 => ?_) (fun hg14_10 => ?_)
      · exact absurd hg14_10 (by simp)
      · skip
        refine L_y rfl (y_move rfl) rfl ?_
        refine L_op rfl (op_call rfl rfl (fun a w => Try.call28 a w) rfl ?_)
        refine (dump_l hb5 hG5.dok.1 (sees 0 0 rfl) (sees 1 0 rfl)).mono ?_
        rintro _ _ ⟨g2, hg2, rfl, rfl⟩
        have hS6 : d5.a.S = S20 := by rw [hA5] <;> (rfl)
        rw [show d5.a.S.length = (S20).length from by rw [hS6], hS6] at hg2
        rw [show slSeg _ g2 (bs d5.a.S.flatten) = slSeg _ g2 (bs (S20).flatten) from by rw [hS6], show slV g2 d5.a.S.length = slV g2 (S20).length from by rw [hS6]]
        cases g2 with
        | none => exact slOk_none hg2 (by rw [S20_len]; decide)
        | some g2 => ?_
        refine ⟨_, rfl, ?_⟩
        refine L_y rfl (y_move rfl) rfl ?_
        refine L_op rfl (op_call rfl rfl (fun a w => Try.call32 a w) rfl ?_)
        refine (same_s (A := S20) (B := S20) S20_ok S20_ok (holds_slice (sees 0 0 rfl) (by simp) (by simp)) (holds_slice (sees 6 0 rfl) (by simp) (by simp)) (by rw [S20_len]; decide)).mono ?_
        rintro _ _ ⟨rfl, rfl⟩
        rw [if_pos rfl]
        refine ⟨_, rfl, ?_⟩
        refine L_y rfl (y_nei rfl rfl) rfl ?_
        refine L_y rfl (y_pick_f rfl rfl) rfl ?_
        refine L_nil ?_
        refine C_cond_f rfl ?_
        refine C_skip ?_
        refine C_region ?_
        refine L_y rfl (y_move rfl) rfl ?_
        refine L_y rfl (y_add rfl rfl (wi64 (by omega) (by omega))) rfl ?_
        refine L_y rfl (y_assign rfl) rfl ?_
        refine L_nil ?_
        exact ⟨(d5, p5, i + 1), ⟨hG5, hb5, pb5, hA5, hP5, by simp only; omega⟩, by simp only; omega, ⟨rfl, rfl, rfl, rfl, rfl, trivial⟩, hsub (.cons _ (.refl _))⟩
    · have hv2 : ¬ okN x := fun h => by rw [if_pos h] at hc3; exact absurd hc3 (by decide)
      rw [show (lq ds i).length = (lq ds (i + 1)).length from by rw [lq_f hx hv2]]
      refine C_skip ?_
      refine C_seq ?_
      refine C_region ?_
      refine L_y rfl (y_move rfl) rfl ?_
      refine L_op rfl (op_call rfl rfl (fun a w => Try.call27 a w) rfl ?_)
      refine ((flush_1 (H := (_ :: H)) hG4 hb4).sub (hsub_pick [0, 0, 0, 0, 0] rfl)).mono ?_
      rintro _ _ ⟨rfl, d7, p7, hG7, hb7, ha7, hpb7, hq7, rfl⟩
      have hA7 : d7.a = lA ds (i + 1) := by rw [ha7, hA4, hP4] <;> (exact (lA_flush _ _).2.1)
      have hP7 : p7.a = q0 := by rw [hq7, hA4, hP4] <;> (exact (lA_flush _ _).2.2)
      have pb7 := hpb7.trans pb4
      rw [show flushE d4.a p4.a = 0 from by rw [hA4, hP4] <;> (exact (lA_flush _ _).1)]
      refine ⟨_, rfl, ?_⟩
      refine L_y rfl (y_nei rfl rfl) rfl ?_
      refine L_y rfl (y_move rfl) rfl ?_
      refine L_y rfl (y_move rfl) rfl ?_
      refine L_op rfl (op_call rfl rfl (fun a w => Try.call29 a w) rfl ?_)
      refine (waiting_l hb7 hG7.dok (sees 0 0 rfl)).mono ?_
      rintro _ _ ⟨rfl, rfl⟩
      rw [show ((d7.a.Q.length : Nat) : Int) = (((lq ds (i + 1)).length : Nat) : Int) from by rw [hA7] <;> (rfl)]
      refine ⟨_, rfl, ?_⟩
      refine L_y rfl (y_move rfl) rfl ?_
      refine L_y rfl (y_nei rfl rfl) rfl ?_
      refine L_y rfl (y_pick_f rfl rfl) rfl ?_
      refine L_y rfl (y_move rfl) rfl ?_
      refine L_case 52 rfl (fun hg14_10 => ?_) (fun hg14_10 => ?_)
      · exact absurd hg14_10 (by simp)
      · skip
        refine L_y rfl (y_move rfl) rfl ?_
        refine L_op rfl (op_call rfl rfl (fun a w => Try.call28 a w) rfl ?_)
        refine (dump_l hb7 hG7.dok.1 (sees 0 0 rfl) (sees 1 0 rfl)).mono ?_
        rintro _ _ ⟨g2, hg2, rfl, rfl⟩
        have hS8 : d7.a.S = S20 := by rw [hA7] <;> (rfl)
        rw [show d7.a.S.length = (S20).length from by rw [hS8], hS8] at hg2
        rw [show slSeg _ g2 (bs d7.a.S.flatten) = slSeg _ g2 (bs (S20).flatten) from by rw [hS8], show slV g2 d7.a.S.length = slV g2 (S20).length from by rw [hS8]]
        cases g2 with
        | none => exact slOk_none hg2 (by rw [S20_len]; decide)
        | some g2 => ?_
        refine ⟨_, rfl, ?_⟩
        refine L_y rfl (y_move rfl) rfl ?_
        refine L_op rfl (op_call rfl rfl (fun a w => Try.call32 a w) rfl ?_)
        refine (same_s (A := S20) (B := S20) S20_ok S20_ok (holds_slice (sees 0 0 rfl) (by simp) (by simp)) (holds_slice (sees 6 0 rfl) (by simp) (by simp)) (by rw [S20_len]; decide)).mono ?_
        rintro _ _ ⟨rfl, rfl⟩
        rw [if_pos rfl]
        refine ⟨_, rfl, ?_⟩
        refine L_y rfl (y_nei rfl rfl) rfl ?_
        refine L_y rfl (y_pick_f rfl rfl) rfl ?_
        refine L_nil ?_
        refine C_cond_f rfl ?_
        refine C_skip ?_
        refine C_region ?_
        refine L_y rfl (y_move rfl) rfl ?_
        refine L_y rfl (y_add rfl rfl (wi64 (by omega) (by omega))) rfl ?_
        refine L_y rfl (y_assign rfl) rfl ?_
        refine L_nil ?_
        exact ⟨(d7, p7, i + 1), ⟨hG7, hb7, pb7, hA7, hP7, by simp only; omega⟩, by simp only; omega, ⟨rfl, rfl, rfl, rfl, rfl, trivial⟩, hsub (.cons _ (.refl _))⟩
  · replace hc2 := of_decide_eq_false hc2
    refine C_exit ?_
    refine C_seq ?_
    obtain rfl : i = ds.length := by omega
    refine C_region ?_
    refine L_y rfl (y_assign rfl) rfl ?_
    refine L_nil ?_
    refine C_seq ?_
    refine C_seq ?_
    refine C_region ?_
    refine L_y rfl (y_assign rfl) rfl ?_
    refine L_nil ?_
    refine C_block ?_
    refine C_loop (ι := Nat × Option SlG) (fun i => [(3, ptr d1.b), (7, slV i.2 i.1), (8, .int .i64 (i.1 : Int))]) (fun i => slSeg 44 i.2 (bs (nowS ds i.1).flatten) :: d.o dt :: d.t dt :: d.q dt :: p.o dt :: p.q dt :: H) (fun i => i.1 ≤ 20 ∧ slOk 128 i.2 i.1 (bs (nowS ds i.1).flatten)) (fun i => 20 - i.1) (0, none) ⟨Nat.zero_le _, rfl, rfl⟩ ⟨rfl, rfl, rfl, trivial⟩ (hsub_nil0.trans (hsub (.cons_cons _ (.cons_cons _ (.cons_cons _ (.cons_cons _ (.cons_cons _ (.cons _ (.refl _))))))))) (fun i hi => ?_)
    obtain ⟨k, gs⟩ := i
    obtain ⟨hk, hgs⟩ := hi
    simp only at hk hgs
    dsimp only
    refine C_seq ?_
    refine C_seq ?_
    refine C_region ?_
    refine L_y rfl (y_move rfl) rfl ?_
    refine L_y rfl (y_lss rfl rfl) rfl ?_
    refine L_nil ?_
    refine C_cond rfl (fun hc5 => ?_) (fun hc5 => ?_)
    · replace hc5 := of_decide_eq_true hc5
      refine C_skip ?_
      refine C_seq ?_
      refine C_block ?_
      refine C_seq ?_
      refine C_region ?_
      refine L_y rfl (y_move rfl) rfl ?_
      refine L_y rfl (y_move rfl) rfl ?_
      refine L_op rfl (op_call rfl rfl (fun a w => Try.call33 a w) rfl ?_)
      refine ((read_l (H := (_ :: H)) (L := []) (R := []) hG hb (k : Int)).sub (hsub_pick [1, 1, 1, 1, 1] rfl)).mono ?_
      rintro _ _ ⟨rfl, rfl⟩
      rw [hA, hP, (lA_read ds (by omega)).1, (lA_read ds (by omega)).2]
      have hr128 : ((lA ds ds.length).read k).length = 128 := Ab.read_len (lA_ok _ _) (by rw [show (lA ds ds.length).S = S20 from rfl, S20_len]; omega)
      refine ⟨_, rfl, ?_⟩
      refine L_y rfl (y_move rfl) rfl ?_
      refine L_y rfl (y_extract rfl rfl) rfl ?_
      refine L_y rfl (y_extract rfl rfl) rfl ?_
      refine L_op rfl (op_alloc zl_44 rfl (fun B1 => ?_))
      refine L_op rfl (op_storeA 0 0 rfl rfl rfl sz_44 (by rw [bs_length, hr128]) rfl (bs_one _) (by simp) ?_)
      refine L_y rfl (y_assign rfl) rfl ?_
      refine L_nil ?_
      refine C_region ?_
      refine L_y rfl (y_move rfl) rfl ?_
      refine L_y rfl (y_loadA rfl ag_44 sz_44 (sees 0 0 rfl) (by rw [bs_length, hr128]; decide) (bs_whole0 _ hr128)) rfl ?_
      refine L_op rfl (op_buildSlice (vs := [(0, _)]) rfl Try.underlying48 sz_44 zl_44 rfl (by decide) (fill_one rfl (by rw [bs_length, hr128]) rfl) rfl (fun B2 => ?_))
      refine L_op rfl (op_append (gs := gs) (len := k) (m := 1) (xs := bs (nowS ds k).flatten) (vs := bs ((lA ds ds.length).read k)) 7 rfl rfl rfl hgs (src_slice (sees 0 0 rfl) (by simp [bs_length, hr128]) (by rw [List.drop_zero, List.take_of_length_le (by simp [bs_length, hr128])])) (by simp [bs_length, hr128]) (bs_one _) Try.underlying48 ni_48 sz_44 by_44 (by decide) zl_44 rfl (by omega) rfl (fun g' hg' => ?_))
      rw [← bs_append, show (nowS ds k).flatten ++ (lA ds ds.length).read k = (nowS ds (k + 1)).flatten from by rw [nowS_succ]; simp] at hg' ⊢
      refine L_y rfl (y_assign rfl) rfl ?_
      refine L_nil ?_
      refine C_region ?_
      refine L_y rfl (y_move rfl) rfl ?_
      refine L_y rfl (y_add rfl rfl (wi64 (by omega) (by omega))) rfl ?_
      refine L_y rfl (y_assign rfl) rfl ?_
      refine L_nil ?_
      exact ⟨(k + 1, g'), ⟨by simp only; omega, hg'⟩, by simp only; omega, ⟨rfl, rfl, rfl, trivial⟩, (hsub (.cons_cons _ (.cons_cons _ (.cons_cons _ (.cons_cons _ (.cons_cons _ (.cons_cons _ (.cons _ (.cons _ (.refl _)))))))))).trans (hsub_pick [7, 2, 2, 2, 2, 2] rfl)⟩
    · replace hc5 := of_decide_eq_false hc5
      refine C_exit ?_
      refine C_seq ?_
      obtain rfl : k = 20 := by omega
      refine C_region ?_
      refine L_y rfl (y_move rfl) rfl ?_
      refine L_op rfl (op_call rfl rfl (fun a w => Try.call35 a w) rfl ?_)
      refine ((lie_l (H := (_ :: H)) (L := []) (R := []) hG hb false).sub (hsub_pick [1, 1, 1, 1, 1] rfl)).mono ?_
      rintro _ _ ⟨rfl, d9, hG9, hb9, ha9, rfl⟩
      have hA9 : d9.a = { lA ds ds.length with lies := false } := by rw [ha9, hA] <;> (rfl)
      refine ⟨_, rfl, ?_⟩
      refine L_nil ?_
      refine C_seq ?_
      refine C_region ?_
      refine L_y rfl (y_move rfl) rfl ?_
      refine L_op rfl (op_call rfl rfl (fun a w => Try.call27 a w) rfl ?_)
      refine ((flush_1 (H := (_ :: H)) hG9 hb9).sub (hsub_pick [0, 0, 0, 0, 0] rfl)).mono ?_
      rintro _ _ ⟨rfl, d10, p10, hG10, hb10, ha10, hpb10, hq10, rfl⟩
      have hA10 : d10.a = lC ds := by rw [ha10, hA9, hP] <;> (exact (lB_flush ds).2.1)
      have hP10 : p10.a = q0 := by rw [hq10, hA9, hP] <;> (exact (lB_flush ds).2.2)
      have pb10 := hpb10.trans pb
      rw [show flushE d9.a p.a = 0 from by rw [hA9, hP] <;> (exact (lB_flush ds).1)]
      refine ⟨_, rfl, ?_⟩
      refine L_y rfl (y_eqi rfl rfl) rfl ?_
      refine L_y rfl (y_move rfl) rfl ?_
      refine L_y rfl (y_move rfl) rfl ?_
      refine L_op rfl (op_call rfl rfl (fun a w => Try.call29 a w) rfl ?_)
      refine (waiting_l hb10 hG10.dok (sees 0 0 rfl)).mono ?_
      rintro _ _ ⟨rfl, rfl⟩
      rw [show ((d10.a.Q.length : Nat) : Int) = 0 from by rw [hA10] <;> (rfl)]
      refine ⟨_, rfl, ?_⟩
      refine L_y rfl (y_eqi rfl rfl) rfl ?_
      refine L_y rfl (y_pick_t rfl rfl) rfl ?_
      refine L_y rfl (y_move rfl) rfl ?_
      refine L_y rfl (y_move rfl) rfl ?_
      refine L_op rfl (op_call rfl rfl (fun a w => Try.call28 a w) rfl ?_)
      refine (dump_l hb10 hG10.dok.1 (sees 0 0 rfl) (sees 1 0 rfl)).mono ?_
      rintro _ _ ⟨g3, hg3, rfl, rfl⟩
      have hS11 : d10.a.S = nowS ds 20 := by rw [hA10] <;> (rfl)
      rw [show d10.a.S.length = (nowS ds 20).length from by rw [hS11], hS11] at hg3
      rw [show slSeg _ g3 (bs d10.a.S.flatten) = slSeg _ g3 (bs (nowS ds 20).flatten) from by rw [hS11], show slV g3 d10.a.S.length = slV g3 (nowS ds 20).length from by rw [hS11]]
      cases g3 with
      | none => exact slOk_none hg3 (by rw [nowS_len]; decide)
      | some g3 => ?_
      cases gs with
      | none => exact slOk_none hgs (by decide)
      | some gs => ?_
      refine ⟨_, rfl, ?_⟩
      refine L_y rfl (y_move rfl) rfl ?_
      refine L_op rfl (op_call rfl rfl (fun a w => Try.call32 a w) rfl ?_)
      refine (same_s (A := nowS ds 20) (B := nowS ds 20) (nowS_ok ds (Nat.le_refl _)) (nowS_ok ds (Nat.le_refl _)) (holds_slice (sees 0 0 rfl) (by simp) (by simp)) (holds_slice (sees 6 0 rfl) (by simp) (by simp)) (by rw [nowS_len]; decide)).mono ?_
      rintro _ _ ⟨rfl, rfl⟩
      rw [if_pos rfl]
      refine ⟨_, rfl, ?_⟩
      refine L_y rfl (y_eqi rfl rfl) rfl ?_
      refine L_y rfl (y_pick_t rfl rfl) rfl ?_
      refine L_y rfl (y_assign rfl) rfl ?_
      refine L_nil ?_
      refine C_ret ?_
      refine B_ret (rv_tmp rfl rv_nil) (HSub.refl _) ?_
      rfl

end Go.Proofs.Ytjiojffakejgjaa
