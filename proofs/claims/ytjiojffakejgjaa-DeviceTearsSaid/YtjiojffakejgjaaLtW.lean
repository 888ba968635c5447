/- walks (own work; the walks' lines by a program of this repo). -/
import Derived.Test.YtjiojffakejgjaaDaW
import Derived.Test.YtjiojffakejgjaaDw
set_option linter.unusedVariables false
set_option linter.unusedSimpArgs false
set_option maxRecDepth 20000
namespace Go.Proofs.Ytjiojffakejgjaa
open Go.Sl
attribute [local irreducible] BodyQ WpC WpL WpS WpH OpW FnS


theorem tears_t {w0 : World} {H : Hp} (m0 m1 m2 : Nat) (h0 : m0 < 256) (h1 : m1 < 256) (h2 : m2 < 256) : FnS Try.prog w0 5 #[.int .u8 (m0 : Int), .int .u8 (m1 : Int), .int .u8 (m2 : Int), .bool true] H (fun e H' => e = .returned (.bool true)) := by
  refine FnS_intro (n := 117) (rs := [.tmp 8]) (vs := [.int .u8 (m0 : Int), .int .u8 (m1 : Int), .int .u8 (m2 : Int), .bool true]) Try.func5 rfl Try.ntmps5 rfl rfl ?_
  refine C_seq ?_
  refine C_region ?_
  refine L_y rfl (y_assign rfl) rfl ?_
  refine L_nil ?_
  refine C_seq ?_
  refine C_seq ?_
  refine C_region ?_
  refine L_op rfl (op_call rfl rfl (fun a w => Try.call20 a w) rfl ?_)
  refine awake08_s.mono ?_
  rintro _ _ ⟨rfl, e⟩
  obtain rfl := e.symm
  refine ⟨_, rfl, ?_⟩
  refine L_y rfl (y_not rfl) rfl ?_
  refine L_nil ?_
  refine C_cond_f rfl ?_
  refine C_skip ?_
  refine C_seq ?_
  refine C_region ?_
  refine L_y rfl (y_move rfl) rfl ?_
  refine L_y rfl (y_conv rfl us_5 Try.underlying3 (wi64 (by omega) (by omega))) rfl ?_
  refine L_y rfl (y_rem rfl rfl (by decide) (show _ = (((m0 % 10) : Nat) : Int) from rfl)) rfl ?_
  refine L_y rfl (y_move rfl) rfl ?_
  refine L_y rfl (y_conv rfl us_5 Try.underlying3 (wi64 (by omega) (by omega))) rfl ?_
  refine L_y rfl (y_rem rfl rfl (by decide) (show _ = (((m1 % 12) : Nat) : Int) from rfl)) rfl ?_
  refine L_y rfl (y_move rfl) rfl ?_
  refine L_y rfl (y_conv rfl us_5 Try.underlying3 (wi64 (by omega) (by omega))) rfl ?_
  refine L_y rfl (y_rem rfl rfl (by decide) (show _ = (((m2 % 130) : Nat) : Int) from rfl)) rfl ?_
  refine L_y rfl (y_assign rfl) rfl ?_
  refine L_y rfl (y_assign rfl) rfl ?_
  refine L_y rfl (y_assign rfl) rfl ?_
  refine L_nil ?_
  refine C_seq ?_
  refine C_region ?_
  refine L_op rfl (op_call rfl rfl (fun a w => Try.call21 a w) rfl ?_)
  refine newpower_l.mono ?_
  rintro _ _ ⟨p1, hpk1, hdv1, hP1, rfl, rfl⟩
  refine ⟨_, rfl, ?_⟩
  refine L_y rfl (y_assign rfl) rfl ?_
  refine L_nil ?_
  refine C_seq ?_
  refine C_region ?_
  refine L_y rfl (y_move rfl) rfl ?_
  refine L_op rfl (op_call rfl rfl (fun a w => Try.call22 a w) rfl ?_)
  refine ((new_l (H := (H)) (rfl : p1.b = _) hpk1 hdv1 12).sub (hsub_pick [0, 0] rfl)).mono ?_
  rintro _ _ ⟨d2, p2, hG2, pb2, ha2, hq2, rfl, rfl⟩
  have hA2 : d2.a = Ab.new 12 := by rw [ha2] <;> (rfl)
  have hP2 : p2.a = _ := hq2.trans hP1
  have hb2 : d2.b = d2.b := rfl
  refine ⟨_, rfl, ?_⟩
  refine L_y rfl (y_assign rfl) rfl ?_
  refine L_nil ?_
  refine C_seq ?_
  refine C_region ?_
  refine L_y rfl (y_move rfl) rfl ?_
  refine L_y rfl (y_move rfl) rfl ?_
  refine L_y rfl (y_move rfl) rfl ?_
  refine L_op rfl (op_call rfl rfl (fun a w => Try.call23 a w) rfl ?_)
  refine ((tear_l (H := (H)) (L := []) (R := []) hG2 hb2 _ _).sub (hsub_pick [0, 0, 0, 0, 0] rfl)).mono ?_
  rintro _ _ ⟨rfl, d3, hG3, hb3, ha3, rfl⟩
  have hA3 : d3.a = tearA (m1 % 12) (m2 % 130) 0 := by rw [ha3, hA2] <;> (rfl)
  refine ⟨_, rfl, ?_⟩
  refine L_nil ?_
  refine C_seq ?_
  refine C_seq ?_
  refine C_region ?_
  refine L_y rfl (y_assign rfl) rfl ?_
  refine L_nil ?_
  refine C_block ?_
  refine C_loop (ι := Dv × Pw × Nat) (fun i => [(9, .int .i64 (((m0 % 10) : Nat) : Int)), (10, .int .i64 (((m1 % 12) : Nat) : Int)), (11, .int .i64 (((m2 % 130) : Nat) : Int)), (12, ptr p1.b), (13, ptr d2.b), (14, .int .i64 (i.2.2 : Int)), (3, .bool true)]) (fun i => i.1.o dt :: i.1.t dt :: i.1.q dt :: i.2.1.o dt :: i.2.1.q dt :: H) (fun i => GOk dt i.2.1 [] i.1 [] ∧ i.1.b = d2.b ∧ i.2.1.b = p1.b ∧ i.1.a = tearA (m1 % 12) (m2 % 130) i.2.2 ∧ i.2.1.a = ⟨false, 0, false⟩ ∧ i.2.2 ≤ (m0 % 10)) (fun i => (m0 % 10) - i.2.2) (d3, p2, 0) ⟨hG3, hb3, pb2, hA3, hP2, Nat.zero_le _⟩ ⟨rfl, rfl, rfl, rfl, rfl, rfl, rfl, trivial⟩ (HSub.refl _) (fun i hi => ?_)
  obtain ⟨d, p, i⟩ := i
  obtain ⟨hG, hb, pb, hA, hP, hi⟩ := hi
  simp only at hG hb pb hA hP hi
  dsimp only
  refine C_seq ?_
  refine C_seq ?_
  refine C_region ?_
  refine L_y rfl (y_move rfl) rfl ?_
  refine L_y rfl (y_move rfl) rfl ?_
  refine L_y rfl (y_lss rfl rfl) rfl ?_
  refine L_nil ?_
  refine C_cond rfl (fun hc1 => ?_) (fun hc1 => ?_)
  · replace hc1 := of_decide_eq_true hc1
    refine C_skip ?_
    refine C_seq ?_
    refine C_block ?_
    refine C_seq ?_
    refine C_region ?_
    refine L_y rfl (y_move rfl) rfl ?_
    refine L_y rfl (y_move rfl) rfl ?_
    refine L_y rfl (y_move rfl) rfl ?_
    refine L_y rfl (y_add rfl rfl (wi64 (by omega) (by omega))) rfl ?_
    refine L_y rfl (y_conv rfl us_3 Try.underlying5 (wrap_succ i)) rfl ?_
    refine L_op rfl (op_call rfl rfl (fun a w => Try.call25 a w) rfl ?_)
    refine (sector_s (UInt8.ofNat (i + 1))).mono ?_
    rintro _ _ ⟨rfl, rfl⟩
    refine ⟨_, rfl, ?_⟩
    refine L_op rfl (op_call rfl rfl (fun a w => Try.call24 a w) rfl ?_)
    refine ((write_1 (H := (H)) hG hb (i : Int) (secOf (UInt8.ofNat (i + 1))) (secOf_len _) (by rw [hA]; simp only [tearA, tq_len]; omega)).sub (hsub_pick [0, 0, 0, 0, 0] rfl)).mono ?_
    rintro _ _ ⟨rfl, d4, p4, hG4, hb4, ha4, hpb4, hq4, rfl⟩
    have hA4 : d4.a = tearA (m1 % 12) (m2 % 130) (i + 1) := by rw [ha4, hA, hP] <;> (exact (tearA_write (by omega) rfl rfl).2.1)
    have hP4 : p4.a = ⟨false, 0, false⟩ := by rw [hq4, hA, hP] <;> (exact (tearA_write (by omega) rfl rfl).2.2)
    have pb4 := hpb4.trans pb
    rw [show writeE d.a p.a (i : Int) = 0 from by rw [hA, hP] <;> (exact (tearA_write (by omega) rfl rfl).1)]
    refine ⟨_, rfl, ?_⟩
    refine L_y rfl (y_nei rfl rfl) rfl ?_
    refine L_nil ?_
    refine C_cond rfl (fun hc2 => absurd hc2 (by simp)) (fun hc2 => ?_)
    refine C_skip ?_
    refine C_region ?_
    refine L_y rfl (y_move rfl) rfl ?_
    refine L_y rfl (y_add rfl rfl (wi64 (by omega) (by omega))) rfl ?_
    refine L_y rfl (y_assign rfl) rfl ?_
    refine L_nil ?_
    exact ⟨(d4, p4, i + 1), ⟨hG4, hb4, pb4, hA4, hP4, by simp only; omega⟩, by simp only; omega, ⟨rfl, rfl, rfl, rfl, rfl, rfl, rfl, trivial⟩, HSub.refl _⟩
  · replace hc1 := of_decide_eq_false hc1
    refine C_exit ?_
    refine C_seq ?_
    obtain rfl : i = (m0 % 10) := by omega
    refine C_region ?_
    refine L_y rfl (y_move rfl) rfl ?_
    refine L_op rfl (op_call rfl rfl (fun a w => Try.call26 a w) rfl ?_)
    refine ((fail_l (H := (H)) (L := []) (R := []) hG pb 0 (by decide)).sub (hsub_pick [0, 0, 0, 0, 0] rfl)).mono ?_
    rintro _ _ ⟨rfl, p5, hG5, pb5, hq5, rfl⟩
    have hP5 : p5.a = ⟨false, 0, true⟩ := by rw [hq5, hP] <;> (rfl)
    refine ⟨_, rfl, ?_⟩
    refine L_nil ?_
    refine C_seq ?_
    refine C_seq ?_
    refine C_region ?_
    refine L_y rfl (y_move rfl) rfl ?_
    refine L_nil ?_
    refine C_cond_t rfl ?_
    refine C_seq ?_
    refine C_seq ?_
    refine C_region ?_
    refine L_y rfl (y_move rfl) rfl ?_
    refine L_y rfl (y_move rfl) rfl ?_
    refine L_y rfl (y_move rfl) rfl ?_
    refine L_y rfl (y_add rfl rfl (wi64 (by omega) (by omega))) rfl ?_
    refine L_y rfl (y_conv rfl us_3 Try.underlying5 (wrap_succ (m0 % 10))) rfl ?_
    refine L_op rfl (op_call rfl rfl (fun a w => Try.call25 a w) rfl ?_)
    refine (sector_s (UInt8.ofNat ((m0 % 10) + 1))).mono ?_
    rintro _ _ ⟨rfl, rfl⟩
    refine ⟨_, rfl, ?_⟩
    refine L_op rfl (op_call rfl rfl (fun a w => Try.call24 a w) rfl ?_)
    refine ((write_1 (H := (H)) hG5 hb (((m0 % 10) : Nat) : Int) (secOf (UInt8.ofNat ((m0 % 10) + 1))) (secOf_len _) (by rw [hA]; simp only [tearA, tq_len]; omega)).sub (hsub_pick [0, 0, 0, 0, 0] rfl)).mono ?_
    rintro _ _ ⟨rfl, d6, p6, hG6, hb6, ha6, hpb6, hq6, rfl⟩
    have hA6 : d6.a = (tearA (m1 % 12) (m2 % 130) ((m0 % 10) + 1)).cut := by rw [ha6, hA, hP5] <;> (exact (tearA_fall (by omega) rfl rfl).2.1)
    have hP6 : p6.a = ⟨true, 0, false⟩ := by rw [hq6, hA, hP5] <;> (exact (tearA_fall (by omega) rfl rfl).2.2)
    have pb6 := hpb6.trans pb5
    rw [show writeE d.a p5.a (((m0 % 10) : Nat) : Int) = 13 from by rw [hA, hP5] <;> (exact (tearA_fall (by omega) rfl rfl).1)]
    refine ⟨_, rfl, ?_⟩
    refine L_y rfl (y_nei rfl rfl) rfl ?_
    refine L_nil ?_
    refine C_cond rfl (fun hc4 => absurd hc4 (by simp)) (fun hc4 => ?_)
    refine C_skip ?_
    refine C_region ?_
    refine L_y rfl (y_move rfl) rfl ?_
    refine L_y rfl (y_add rfl rfl (show _ = ((((m0 % 10) + 1) : Nat) : Int) from by rw [wi64 (by omega) (by omega)]; omega)) rfl ?_
    refine L_y rfl (y_assign rfl) rfl ?_
    refine L_nil ?_
    refine C_seq ?_
    refine C_region ?_
    refine L_y rfl (y_move rfl) rfl ?_
    refine L_op rfl (op_call rfl rfl (fun a w => Try.call28 a w) rfl ?_)
    refine (dump_l hb6 hG6.dok.1 (sees 0 0 rfl) (sees 1 0 rfl)).mono ?_
    rintro _ _ ⟨g, hg, rfl, rfl⟩
    have hS7 : d6.a.S = tearS (m1 % 12) (m2 % 130) ((m0 % 10) + 1) := by rw [hA6] <;> (exact (tearA_cut _ _ _).1)
    rw [show d6.a.S.length = (tearS (m1 % 12) (m2 % 130) ((m0 % 10) + 1)).length from by rw [hS7], hS7] at hg
    rw [show slSeg _ g (bs d6.a.S.flatten) = slSeg _ g (bs (tearS (m1 % 12) (m2 % 130) ((m0 % 10) + 1)).flatten) from by rw [hS7], show slV g d6.a.S.length = slV g (tearS (m1 % 12) (m2 % 130) ((m0 % 10) + 1)).length from by rw [hS7]]
    cases g with
    | none => exact slOk_none hg (by rw [(tearS_ok (by omega)).2]; decide)
    | some g => ?_
    refine ⟨_, rfl, ?_⟩
    refine L_y rfl (y_assign rfl) rfl ?_
    refine L_nil ?_
    refine C_seq ?_
    refine C_seq ?_
    refine C_region ?_
    refine L_y rfl (y_move rfl) rfl ?_
    refine L_y rfl (y_lenS rfl rfl Try.underlying48) rfl ?_
    refine L_y rfl (y_nei rfl rfl) rfl ?_
    refine L_y rfl (y_move rfl) rfl ?_
    refine L_case 71 rfl (fun hg20_4 => ?_) (fun hg20_4 => ?_)
    · exact absurd hg20_4 (by rw [(tearS_ok (by omega)).2]; decide)
    · skip
      refine L_y rfl (y_move rfl) rfl ?_
      refine L_op rfl (op_call rfl rfl (fun a w => Try.call29 a w) rfl ?_)
      refine (waiting_l hb6 hG6.dok (sees 1 0 rfl)).mono ?_
      rintro _ _ ⟨rfl, rfl⟩
      rw [show ((d6.a.Q.length : Nat) : Int) = 0 from by rw [hA6] <;> (rw [(tearA_cut _ _ _).2]; rfl)]
      refine ⟨_, rfl, ?_⟩
      refine L_y rfl (y_nei rfl rfl) rfl ?_
      refine L_y rfl (y_pick_f rfl rfl) rfl ?_
      refine L_y rfl (y_move rfl) rfl ?_
      refine L_case 76 rfl (fun hg20_9 => ?_) (fun hg20_9 => ?_)
      · exact absurd hg20_9 (by decide)
      · skip
        refine L_y rfl (y_move rfl) rfl ?_
        refine L_op rfl (op_call rfl rfl (fun a w => Try.call30 a w) rfl ?_)
        refine (on_l pb6 (sees 4 0 rfl)).mono ?_
        rintro _ _ ⟨rfl, rfl⟩
        rw [show (!p6.a.off) = false from by rw [hP6] <;> (rfl)]
        refine ⟨_, rfl, ?_⟩
        refine L_y rfl (y_pick_f rfl rfl) rfl ?_
        refine L_nil ?_
        refine C_cond_f rfl ?_
        refine C_skip ?_
        refine C_seq ?_
        refine C_seq ?_
        refine C_region ?_
        refine L_y rfl (y_assign rfl) rfl ?_
        refine L_nil ?_
        refine C_block ?_
        refine C_loop (ι := Nat) (fun i => [(9, .int .i64 ((((m0 % 10) + 1) : Nat) : Int)), (10, .int .i64 (((m1 % 12) : Nat) : Int)), (11, .int .i64 (((m2 % 130) : Nat) : Int)), (15, slV (some g) (tearS (m1 % 12) (m2 % 130) ((m0 % 10) + 1)).length), (16, .int .i64 (i : Int))]) (fun i => slSeg 44 (some g) (bs (tearS (m1 % 12) (m2 % 130) ((m0 % 10) + 1)).flatten) :: H) (fun i => i ≤ 12) (fun i => 12 - i) 0 (Nat.zero_le _) ⟨rfl, rfl, rfl, rfl, rfl, trivial⟩ (hsub (.cons_cons _ (.cons _ (.cons _ (.cons _ (.cons _ (.cons _ (.refl _)))))))) (fun i hi => ?_)
        skip
        refine C_seq ?_
        refine C_seq ?_
        refine C_region ?_
        refine L_y rfl (y_move rfl) rfl ?_
        refine L_y rfl (y_lss rfl rfl) rfl ?_
        refine L_nil ?_
        refine C_cond rfl (fun hc6 => ?_) (fun hc6 => ?_)
        · replace hc6 := of_decide_eq_true hc6
          refine C_skip ?_
          refine C_seq ?_
          refine C_block ?_
          refine C_seq ?_
          refine C_region ?_
          refine L_y rfl (y_assign rfl) rfl ?_
          refine L_nil ?_
          refine C_block ?_
          refine C_loop (ι := Nat) (fun j => [(17, .int .i64 (j : Int)), (9, .int .i64 ((((m0 % 10) + 1) : Nat) : Int)), (10, .int .i64 (((m1 % 12) : Nat) : Int)), (11, .int .i64 (((m2 % 130) : Nat) : Int)), (15, slV (some g) (tearS (m1 % 12) (m2 % 130) ((m0 % 10) + 1)).length), (16, .int .i64 (i : Int))]) (fun j => slSeg 44 (some g) (bs (tearS (m1 % 12) (m2 % 130) ((m0 % 10) + 1)).flatten) :: H) (fun j => j ≤ 128) (fun j => 128 - j) 0 (Nat.zero_le _) ⟨rfl, rfl, rfl, rfl, rfl, rfl, trivial⟩ (HSub.refl _) (fun j hj => ?_)
          skip
          refine C_seq ?_
          refine C_seq ?_
          refine C_region ?_
          refine L_y rfl (y_move rfl) rfl ?_
          refine L_y rfl (y_lss rfl rfl) rfl ?_
          refine L_nil ?_
          refine C_cond rfl (fun hc7 => ?_) (fun hc7 => ?_)
          · replace hc7 := of_decide_eq_true hc7
            refine C_skip ?_
            refine C_seq ?_
            refine C_block ?_
            refine C_seq ?_
            refine C_region ?_
            refine L_y rfl (y_assign rfl) rfl ?_
            refine L_nil ?_
            refine C_seq ?_
            refine C_seq ?_
            refine C_region ?_
            refine L_y rfl (y_move rfl) rfl ?_
            refine L_y rfl (y_move rfl) rfl ?_
            refine L_y rfl (y_lss rfl rfl) rfl ?_
            refine L_y rfl (y_move rfl) rfl ?_
            refine L_case 91 rfl (fun hg29_4 => ?_) (fun hg29_4 => ?_)
            · have q1 := of_decide_eq_true hg29_4
              refine L_y rfl (y_move rfl) rfl ?_
              refine L_y rfl (y_move rfl) rfl ?_
              refine L_y rfl (y_lss rfl rfl) rfl ?_
              refine L_y rfl (y_move rfl) rfl ?_
              refine L_case 95 rfl (fun hg29_8 => ?_) (fun hg29_8 => ?_)
              · have q2 := of_decide_eq_true hg29_8
                refine L_skip rfl rfl ?_
                refine L_skip rfl rfl ?_
                refine L_skip rfl rfl ?_
                refine L_skip rfl rfl ?_
                refine L_skip rfl rfl ?_
                refine L_skip rfl rfl ?_
                refine L_skip rfl rfl ?_
                refine L_skip rfl rfl ?_
                refine L_y rfl (y_pick_t rfl rfl) rfl ?_
                refine L_y rfl (y_pick_t rfl rfl) rfl ?_
                refine L_nil ?_
                refine C_cond_t rfl ?_
                refine C_region ?_
                refine L_y rfl (y_move rfl) rfl ?_
                refine L_y rfl (y_add rfl rfl (wi64 (by omega) (by omega))) rfl ?_
                refine L_y rfl (y_conv rfl us_3 Try.underlying5 (wrap_succ i)) rfl ?_
                refine L_y rfl (y_assign rfl) rfl ?_
                refine L_nil ?_
                refine C_seq ?_
                refine C_region ?_
                refine L_y rfl (y_move rfl) rfl ?_
                refine L_y rfl (y_move rfl) rfl ?_
                refine L_y rfl (y_move rfl) rfl ?_
                refine L_y rfl (y_indexS rfl rfl Try.underlying48 sz_44 (by omega) (by rw [(tearS_ok (by omega)).2]; omega) (show _ = i * 128 from by simp)) rfl ?_
                refine L_y rfl (y_indexA rfl rfl Try.underlying44 sz_5 (by omega) (by omega) (show _ = i * 128 + j from by simp)) rfl ?_
                refine L_y rfl (y_load rfl ag_5 (sees 0 0 rfl) (show _ = some (u8 (tbyte (m1 % 12) (m2 % 130) ((m0 % 10) + 1) i j)) from by rw [List.getElem?_append_left (by rw [bs_length, flat_len (tearS_ok (by omega)).1, (tearS_ok (by omega)).2]; omega), bs_get, tear_at (by omega) (by omega) (by omega)]; rfl)) rfl ?_
                refine L_y rfl (y_move rfl) rfl ?_
                refine L_y rfl (y_nei rfl rfl) rfl ?_
                refine L_nil ?_
                refine C_cond rfl (fun hc9 => absurd hc9 (by first | (rw [tb_pos (by omega)]; simp) | (rw [tb_neg (by omega)]; simp))) (fun hc9 => ?_)
                refine C_skip ?_
                refine C_region ?_
                refine L_y rfl (y_move rfl) rfl ?_
                refine L_y rfl (y_add rfl rfl (wi64 (by omega) (by omega))) rfl ?_
                refine L_y rfl (y_assign rfl) rfl ?_
                refine L_nil ?_
                exact ⟨j + 1, by omega, by omega, ⟨rfl, rfl, rfl, rfl, rfl, rfl, trivial⟩, HSub.refl _⟩
              · have q2 := of_decide_eq_false hg29_8
                refine L_y rfl (y_move rfl) rfl ?_
                refine L_y rfl (y_move rfl) rfl ?_
                refine L_y rfl (y_eqi rfl rfl) rfl ?_
                refine L_y rfl (y_move rfl) rfl ?_
                refine L_case 99 rfl (fun hg29_12 => ?_) (fun hg29_12 => ?_)
                · have q3 := of_decide_eq_true hg29_12
                  refine L_y rfl (y_move rfl) rfl ?_
                  refine L_y rfl (y_move rfl) rfl ?_
                  refine L_y rfl (y_lss rfl rfl) rfl ?_
                  refine L_y rfl (y_pick_t rfl rfl) rfl ?_
                  refine L_y rfl (y_pick_f rfl rfl) rfl ?_
                  refine L_y rfl (y_pick_t rfl rfl) rfl ?_
                  refine L_nil ?_
                  refine C_cond rfl (fun hc8 => ?_) (fun hc8 => ?_)
                  · replace hc8 := of_decide_eq_true hc8
                    refine C_region ?_
                    refine L_y rfl (y_move rfl) rfl ?_
                    refine L_y rfl (y_add rfl rfl (wi64 (by omega) (by omega))) rfl ?_
                    refine L_y rfl (y_conv rfl us_3 Try.underlying5 (wrap_succ i)) rfl ?_
                    refine L_y rfl (y_assign rfl) rfl ?_
                    refine L_nil ?_
                    refine C_seq ?_
                    refine C_region ?_
                    refine L_y rfl (y_move rfl) rfl ?_
                    refine L_y rfl (y_move rfl) rfl ?_
                    refine L_y rfl (y_move rfl) rfl ?_
                    refine L_y rfl (y_indexS rfl rfl Try.underlying48 sz_44 (by omega) (by rw [(tearS_ok (by omega)).2]; omega) (show _ = i * 128 from by simp)) rfl ?_
                    refine L_y rfl (y_indexA rfl rfl Try.underlying44 sz_5 (by omega) (by omega) (show _ = i * 128 + j from by simp)) rfl ?_
                    refine L_y rfl (y_load rfl ag_5 (sees 0 0 rfl) (show _ = some (u8 (tbyte (m1 % 12) (m2 % 130) ((m0 % 10) + 1) i j)) from by rw [List.getElem?_append_left (by rw [bs_length, flat_len (tearS_ok (by omega)).1, (tearS_ok (by omega)).2]; omega), bs_get, tear_at (by omega) (by omega) (by omega)]; rfl)) rfl ?_
                    refine L_y rfl (y_move rfl) rfl ?_
                    refine L_y rfl (y_nei rfl rfl) rfl ?_
                    refine L_nil ?_
                    refine C_cond rfl (fun hc9 => absurd hc9 (by first | (rw [tb_pos (by omega)]; simp) | (rw [tb_neg (by omega)]; simp))) (fun hc9 => ?_)
                    refine C_skip ?_
                    refine C_region ?_
                    refine L_y rfl (y_move rfl) rfl ?_
                    refine L_y rfl (y_add rfl rfl (wi64 (by omega) (by omega))) rfl ?_
                    refine L_y rfl (y_assign rfl) rfl ?_
                    refine L_nil ?_
                    exact ⟨j + 1, by omega, by omega, ⟨rfl, rfl, rfl, rfl, rfl, rfl, trivial⟩, HSub.refl _⟩
                  · replace hc8 := of_decide_eq_false hc8
                    refine C_skip ?_
                    refine C_seq ?_
                    refine C_region ?_
                    refine L_y rfl (y_move rfl) rfl ?_
                    refine L_y rfl (y_move rfl) rfl ?_
                    refine L_y rfl (y_move rfl) rfl ?_
                    refine L_y rfl (y_indexS rfl rfl Try.underlying48 sz_44 (by omega) (by rw [(tearS_ok (by omega)).2]; omega) (show _ = i * 128 from by simp)) rfl ?_
                    refine L_y rfl (y_indexA rfl rfl Try.underlying44 sz_5 (by omega) (by omega) (show _ = i * 128 + j from by simp)) rfl ?_
                    refine L_y rfl (y_load rfl ag_5 (sees 0 0 rfl) (show _ = some (u8 (tbyte (m1 % 12) (m2 % 130) ((m0 % 10) + 1) i j)) from by rw [List.getElem?_append_left (by rw [bs_length, flat_len (tearS_ok (by omega)).1, (tearS_ok (by omega)).2]; omega), bs_get, tear_at (by omega) (by omega) (by omega)]; rfl)) rfl ?_
                    refine L_y rfl (y_move rfl) rfl ?_
                    refine L_y rfl (y_nei rfl rfl) rfl ?_
                    refine L_nil ?_
                    refine C_cond rfl (fun hc9 => absurd hc9 (by first | (rw [tb_pos (by omega)]; simp) | (rw [tb_neg (by omega)]; simp))) (fun hc9 => ?_)
                    refine C_skip ?_
                    refine C_region ?_
                    refine L_y rfl (y_move rfl) rfl ?_
                    refine L_y rfl (y_add rfl rfl (wi64 (by omega) (by omega))) rfl ?_
                    refine L_y rfl (y_assign rfl) rfl ?_
                    refine L_nil ?_
                    exact ⟨j + 1, by omega, by omega, ⟨rfl, rfl, rfl, rfl, rfl, rfl, trivial⟩, HSub.refl _⟩
                · have q3 := of_decide_eq_false hg29_12
                  refine L_skip rfl rfl ?_
                  refine L_skip rfl rfl ?_
                  refine L_skip rfl rfl ?_
                  refine L_y rfl (y_pick_f rfl rfl) rfl ?_
                  refine L_y rfl (y_pick_f rfl rfl) rfl ?_
                  refine L_y rfl (y_pick_t rfl rfl) rfl ?_
                  refine L_nil ?_
                  refine C_cond_f rfl ?_
                  refine C_skip ?_
                  refine C_seq ?_
                  refine C_region ?_
                  refine L_y rfl (y_move rfl) rfl ?_
                  refine L_y rfl (y_move rfl) rfl ?_
                  refine L_y rfl (y_move rfl) rfl ?_
                  refine L_y rfl (y_indexS rfl rfl Try.underlying48 sz_44 (by omega) (by rw [(tearS_ok (by omega)).2]; omega) (show _ = i * 128 from by simp)) rfl ?_
                  refine L_y rfl (y_indexA rfl rfl Try.underlying44 sz_5 (by omega) (by omega) (show _ = i * 128 + j from by simp)) rfl ?_
                  refine L_y rfl (y_load rfl ag_5 (sees 0 0 rfl) (show _ = some (u8 (tbyte (m1 % 12) (m2 % 130) ((m0 % 10) + 1) i j)) from by rw [List.getElem?_append_left (by rw [bs_length, flat_len (tearS_ok (by omega)).1, (tearS_ok (by omega)).2]; omega), bs_get, tear_at (by omega) (by omega) (by omega)]; rfl)) rfl ?_
                  refine L_y rfl (y_move rfl) rfl ?_
                  refine L_y rfl (y_nei rfl rfl) rfl ?_
                  refine L_nil ?_
                  refine C_cond rfl (fun hc9 => absurd hc9 (by first | (rw [tb_pos (by omega)]; simp) | (rw [tb_neg (by omega)]; simp))) (fun hc9 => ?_)
                  refine C_skip ?_
                  refine C_region ?_
                  refine L_y rfl (y_move rfl) rfl ?_
                  refine L_y rfl (y_add rfl rfl (wi64 (by omega) (by omega))) rfl ?_
                  refine L_y rfl (y_assign rfl) rfl ?_
                  refine L_nil ?_
                  exact ⟨j + 1, by omega, by omega, ⟨rfl, rfl, rfl, rfl, rfl, rfl, trivial⟩, HSub.refl _⟩
            · have q1 := of_decide_eq_false hg29_4
              refine L_skip rfl rfl ?_
              refine L_skip rfl rfl ?_
              refine L_skip rfl rfl ?_
              refine L_skip rfl rfl ?_
              refine L_skip rfl rfl ?_
              refine L_skip rfl rfl ?_
              refine L_skip rfl rfl ?_
              refine L_skip rfl rfl ?_
              refine L_skip rfl rfl ?_
              refine L_skip rfl rfl ?_
              refine L_skip rfl rfl ?_
              refine L_skip rfl rfl ?_
              refine L_skip rfl rfl ?_
              refine L_y rfl (y_pick_f rfl rfl) rfl ?_
              refine L_nil ?_
              refine C_cond_f rfl ?_
              refine C_skip ?_
              refine C_seq ?_
              refine C_region ?_
              refine L_y rfl (y_move rfl) rfl ?_
              refine L_y rfl (y_move rfl) rfl ?_
              refine L_y rfl (y_move rfl) rfl ?_
              refine L_y rfl (y_indexS rfl rfl Try.underlying48 sz_44 (by omega) (by rw [(tearS_ok (by omega)).2]; omega) (show _ = i * 128 from by simp)) rfl ?_
              refine L_y rfl (y_indexA rfl rfl Try.underlying44 sz_5 (by omega) (by omega) (show _ = i * 128 + j from by simp)) rfl ?_
              refine L_y rfl (y_load rfl ag_5 (sees 0 0 rfl) (show _ = some (u8 (tbyte (m1 % 12) (m2 % 130) ((m0 % 10) + 1) i j)) from by rw [List.getElem?_append_left (by rw [bs_length, flat_len (tearS_ok (by omega)).1, (tearS_ok (by omega)).2]; omega), bs_get, tear_at (by omega) (by omega) (by omega)]; rfl)) rfl ?_
              refine L_y rfl (y_move rfl) rfl ?_
              refine L_y rfl (y_nei rfl rfl) rfl ?_
              refine L_nil ?_
              refine C_cond rfl (fun hc9 => absurd hc9 (by first | (rw [tb_pos (by omega)]; simp) | (rw [tb_neg (by omega)]; simp))) (fun hc9 => ?_)
              refine C_skip ?_
              refine C_region ?_
              refine L_y rfl (y_move rfl) rfl ?_
              refine L_y rfl (y_add rfl rfl (wi64 (by omega) (by omega))) rfl ?_
              refine L_y rfl (y_assign rfl) rfl ?_
              refine L_nil ?_
              exact ⟨j + 1, by omega, by omega, ⟨rfl, rfl, rfl, rfl, rfl, rfl, trivial⟩, HSub.refl _⟩
          · replace hc7 := of_decide_eq_false hc7
            refine C_exit ?_
            refine C_region ?_
            refine L_y rfl (y_move rfl) rfl ?_
            refine L_y rfl (y_add rfl rfl (wi64 (by omega) (by omega))) rfl ?_
            refine L_y rfl (y_assign rfl) rfl ?_
            refine L_nil ?_
            exact ⟨i + 1, by omega, by omega, ⟨rfl, rfl, rfl, rfl, rfl, trivial⟩, HSub.refl _⟩
        · replace hc6 := of_decide_eq_false hc6
          refine C_exit ?_
          refine C_seq ?_
          refine C_region ?_
          refine L_y rfl (y_assign rfl) rfl ?_
          refine L_nil ?_
          refine C_ret ?_
          refine B_ret (rv_tmp rfl rv_nil) (HSub.refl _) ?_
          rfl

theorem tears_f {w0 : World} {H : Hp} (m0 m1 m2 : Nat) (h0 : m0 < 256) (h1 : m1 < 256) (h2 : m2 < 256) : FnS Try.prog w0 5 #[.int .u8 (m0 : Int), .int .u8 (m1 : Int), .int .u8 (m2 : Int), .bool false] H (fun e H' => e = .returned (.bool true)) := by
  refine FnS_intro (n := 117) (rs := [.tmp 8]) (vs := [.int .u8 (m0 : Int), .int .u8 (m1 : Int), .int .u8 (m2 : Int), .bool false]) Try.func5 rfl Try.ntmps5 rfl rfl ?_
  refine C_seq ?_
  refine C_region ?_
  refine L_y rfl (y_assign rfl) rfl ?_
  refine L_nil ?_
  refine C_seq ?_
  refine C_seq ?_
  refine C_region ?_
  refine L_op rfl (op_call rfl rfl (fun a w => Try.call20 a w) rfl ?_)
  refine awake08_s.mono ?_
  rintro _ _ ⟨rfl, e⟩
  obtain rfl := e.symm
  refine ⟨_, rfl, ?_⟩
  refine L_y rfl (y_not rfl) rfl ?_
  refine L_nil ?_
  refine C_cond_f rfl ?_
  refine C_skip ?_
  refine C_seq ?_
  refine C_region ?_
  refine L_y rfl (y_move rfl) rfl ?_
  refine L_y rfl (y_conv rfl us_5 Try.underlying3 (wi64 (by omega) (by omega))) rfl ?_
  refine L_y rfl (y_rem rfl rfl (by decide) (show _ = (((m0 % 10) : Nat) : Int) from rfl)) rfl ?_
  refine L_y rfl (y_move rfl) rfl ?_
  refine L_y rfl (y_conv rfl us_5 Try.underlying3 (wi64 (by omega) (by omega))) rfl ?_
  refine L_y rfl (y_rem rfl rfl (by decide) (show _ = (((m1 % 12) : Nat) : Int) from rfl)) rfl ?_
  refine L_y rfl (y_move rfl) rfl ?_
  refine L_y rfl (y_conv rfl us_5 Try.underlying3 (wi64 (by omega) (by omega))) rfl ?_
  refine L_y rfl (y_rem rfl rfl (by decide) (show _ = (((m2 % 130) : Nat) : Int) from rfl)) rfl ?_
  refine L_y rfl (y_assign rfl) rfl ?_
  refine L_y rfl (y_assign rfl) rfl ?_
  refine L_y rfl (y_assign rfl) rfl ?_
  refine L_nil ?_
  refine C_seq ?_
  refine C_region ?_
  refine L_op rfl (op_call rfl rfl (fun a w => Try.call21 a w) rfl ?_)
  refine newpower_l.mono ?_
  rintro _ _ ⟨p1, hpk1, hdv1, hP1, rfl, rfl⟩
  refine ⟨_, rfl, ?_⟩
  refine L_y rfl (y_assign rfl) rfl ?_
  refine L_nil ?_
  refine C_seq ?_
  refine C_region ?_
  refine L_y rfl (y_move rfl) rfl ?_
  refine L_op rfl (op_call rfl rfl (fun a w => Try.call22 a w) rfl ?_)
  refine ((new_l (H := (H)) (rfl : p1.b = _) hpk1 hdv1 12).sub (hsub_pick [0, 0] rfl)).mono ?_
  rintro _ _ ⟨d2, p2, hG2, pb2, ha2, hq2, rfl, rfl⟩
  have hA2 : d2.a = Ab.new 12 := by rw [ha2] <;> (rfl)
  have hP2 : p2.a = _ := hq2.trans hP1
  have hb2 : d2.b = d2.b := rfl
  refine ⟨_, rfl, ?_⟩
  refine L_y rfl (y_assign rfl) rfl ?_
  refine L_nil ?_
  refine C_seq ?_
  refine C_region ?_
  refine L_y rfl (y_move rfl) rfl ?_
  refine L_y rfl (y_move rfl) rfl ?_
  refine L_y rfl (y_move rfl) rfl ?_
  refine L_op rfl (op_call rfl rfl (fun a w => Try.call23 a w) rfl ?_)
  refine ((tear_l (H := (H)) (L := []) (R := []) hG2 hb2 _ _).sub (hsub_pick [0, 0, 0, 0, 0] rfl)).mono ?_
  rintro _ _ ⟨rfl, d3, hG3, hb3, ha3, rfl⟩
  have hA3 : d3.a = tearA (m1 % 12) (m2 % 130) 0 := by rw [ha3, hA2] <;> (rfl)
  refine ⟨_, rfl, ?_⟩
  refine L_nil ?_
  refine C_seq ?_
  refine C_seq ?_
  refine C_region ?_
  refine L_y rfl (y_assign rfl) rfl ?_
  refine L_nil ?_
  refine C_block ?_
  refine C_loop (ι := Dv × Pw × Nat) (fun i => [(9, .int .i64 (((m0 % 10) : Nat) : Int)), (10, .int .i64 (((m1 % 12) : Nat) : Int)), (11, .int .i64 (((m2 % 130) : Nat) : Int)), (12, ptr p1.b), (13, ptr d2.b), (14, .int .i64 (i.2.2 : Int)), (3, .bool false)]) (fun i => i.1.o dt :: i.1.t dt :: i.1.q dt :: i.2.1.o dt :: i.2.1.q dt :: H) (fun i => GOk dt i.2.1 [] i.1 [] ∧ i.1.b = d2.b ∧ i.2.1.b = p1.b ∧ i.1.a = tearA (m1 % 12) (m2 % 130) i.2.2 ∧ i.2.1.a = ⟨false, 0, false⟩ ∧ i.2.2 ≤ (m0 % 10)) (fun i => (m0 % 10) - i.2.2) (d3, p2, 0) ⟨hG3, hb3, pb2, hA3, hP2, Nat.zero_le _⟩ ⟨rfl, rfl, rfl, rfl, rfl, rfl, rfl, trivial⟩ (HSub.refl _) (fun i hi => ?_)
  obtain ⟨d, p, i⟩ := i
  obtain ⟨hG, hb, pb, hA, hP, hi⟩ := hi
  simp only at hG hb pb hA hP hi
  dsimp only
  refine C_seq ?_
  refine C_seq ?_
  refine C_region ?_
  refine L_y rfl (y_move rfl) rfl ?_
  refine L_y rfl (y_move rfl) rfl ?_
  refine L_y rfl (y_lss rfl rfl) rfl ?_
  refine L_nil ?_
  refine C_cond rfl (fun hc1 => ?_) (fun hc1 => ?_)
  · replace hc1 := of_decide_eq_true hc1
    refine C_skip ?_
    refine C_seq ?_
    refine C_block ?_
    refine C_seq ?_
    refine C_region ?_
    refine L_y rfl (y_move rfl) rfl ?_
    refine L_y rfl (y_move rfl) rfl ?_
    refine L_y rfl (y_move rfl) rfl ?_
    refine L_y rfl (y_add rfl rfl (wi64 (by omega) (by omega))) rfl ?_
    refine L_y rfl (y_conv rfl us_3 Try.underlying5 (wrap_succ i)) rfl ?_
    refine L_op rfl (op_call rfl rfl (fun a w => Try.call25 a w) rfl ?_)
    refine (sector_s (UInt8.ofNat (i + 1))).mono ?_
    rintro _ _ ⟨rfl, rfl⟩
    refine ⟨_, rfl, ?_⟩
    refine L_op rfl (op_call rfl rfl (fun a w => Try.call24 a w) rfl ?_)
    refine ((write_1 (H := (H)) hG hb (i : Int) (secOf (UInt8.ofNat (i + 1))) (secOf_len _) (by rw [hA]; simp only [tearA, tq_len]; omega)).sub (hsub_pick [0, 0, 0, 0, 0] rfl)).mono ?_
    rintro _ _ ⟨rfl, d4, p4, hG4, hb4, ha4, hpb4, hq4, rfl⟩
    have hA4 : d4.a = tearA (m1 % 12) (m2 % 130) (i + 1) := by rw [ha4, hA, hP] <;> (exact (tearA_write (by omega) rfl rfl).2.1)
    have hP4 : p4.a = ⟨false, 0, false⟩ := by rw [hq4, hA, hP] <;> (exact (tearA_write (by omega) rfl rfl).2.2)
    have pb4 := hpb4.trans pb
    rw [show writeE d.a p.a (i : Int) = 0 from by rw [hA, hP] <;> (exact (tearA_write (by omega) rfl rfl).1)]
    refine ⟨_, rfl, ?_⟩
    refine L_y rfl (y_nei rfl rfl) rfl ?_
    refine L_nil ?_
    refine C_cond rfl (fun hc2 => absurd hc2 (by simp)) (fun hc2 => ?_)
    refine C_skip ?_
    refine C_region ?_
    refine L_y rfl (y_move rfl) rfl ?_
    refine L_y rfl (y_add rfl rfl (wi64 (by omega) (by omega))) rfl ?_
    refine L_y rfl (y_assign rfl) rfl ?_
    refine L_nil ?_
    exact ⟨(d4, p4, i + 1), ⟨hG4, hb4, pb4, hA4, hP4, by simp only; omega⟩, by simp only; omega, ⟨rfl, rfl, rfl, rfl, rfl, rfl, rfl, trivial⟩, HSub.refl _⟩
  · replace hc1 := of_decide_eq_false hc1
    refine C_exit ?_
    refine C_seq ?_
    obtain rfl : i = (m0 % 10) := by omega
    refine C_region ?_
    refine L_y rfl (y_move rfl) rfl ?_
    refine L_op rfl (op_call rfl rfl (fun a w => Try.call26 a w) rfl ?_)
    refine ((fail_l (H := (H)) (L := []) (R := []) hG pb 0 (by decide)).sub (hsub_pick [0, 0, 0, 0, 0] rfl)).mono ?_
    rintro _ _ ⟨rfl, p5, hG5, pb5, hq5, rfl⟩
    have hP5 : p5.a = ⟨false, 0, true⟩ := by rw [hq5, hP] <;> (rfl)
    refine ⟨_, rfl, ?_⟩
    refine L_nil ?_
    refine C_seq ?_
    refine C_seq ?_
    refine C_region ?_
    refine L_y rfl (y_move rfl) rfl ?_
    refine L_nil ?_
    refine C_cond_f rfl ?_
    refine C_seq ?_
    refine C_region ?_
    refine L_y rfl (y_move rfl) rfl ?_
    refine L_op rfl (op_call rfl rfl (fun a w => Try.call27 a w) rfl ?_)
    refine ((flush_1 (H := (H)) hG5 hb).sub (hsub_pick [0, 0, 0, 0, 0] rfl)).mono ?_
    rintro _ _ ⟨rfl, d6, p6, hG6, hb6, ha6, hpb6, hq6, rfl⟩
    have hA6 : d6.a = (tearA (m1 % 12) (m2 % 130) (m0 % 10)).cut := by rw [ha6, hA, hP5] <;> (exact (tearA_flush rfl rfl).2.1)
    have hP6 : p6.a = ⟨true, 0, false⟩ := by rw [hq6, hA, hP5] <;> (exact (tearA_flush rfl rfl).2.2)
    have pb6 := hpb6.trans pb5
    rw [show flushE d.a p5.a = 13 from by rw [hA, hP5] <;> (exact (tearA_flush rfl rfl).1)]
    refine ⟨_, rfl, ?_⟩
    refine L_y rfl (y_nei rfl rfl) rfl ?_
    refine L_nil ?_
    refine C_cond rfl (fun hc4 => absurd hc4 (by simp)) (fun hc4 => ?_)
    refine C_skip ?_
    refine C_seq ?_
    refine C_region ?_
    refine L_y rfl (y_move rfl) rfl ?_
    refine L_op rfl (op_call rfl rfl (fun a w => Try.call28 a w) rfl ?_)
    refine (dump_l hb6 hG6.dok.1 (sees 0 0 rfl) (sees 1 0 rfl)).mono ?_
    rintro _ _ ⟨g, hg, rfl, rfl⟩
    have hS7 : d6.a.S = tearS (m1 % 12) (m2 % 130) (m0 % 10) := by rw [hA6] <;> (exact (tearA_cut _ _ _).1)
    rw [show d6.a.S.length = (tearS (m1 % 12) (m2 % 130) (m0 % 10)).length from by rw [hS7], hS7] at hg
    rw [show slSeg _ g (bs d6.a.S.flatten) = slSeg _ g (bs (tearS (m1 % 12) (m2 % 130) (m0 % 10)).flatten) from by rw [hS7], show slV g d6.a.S.length = slV g (tearS (m1 % 12) (m2 % 130) (m0 % 10)).length from by rw [hS7]]
    cases g with
    | none => exact slOk_none hg (by rw [(tearS_ok (by omega)).2]; decide)
    | some g => ?_
    refine ⟨_, rfl, ?_⟩
    refine L_y rfl (y_assign rfl) rfl ?_
    refine L_nil ?_
    refine C_seq ?_
    refine C_seq ?_
    refine C_region ?_
    refine L_y rfl (y_move rfl) rfl ?_
    refine L_y rfl (y_lenS rfl rfl Try.underlying48) rfl ?_
    refine L_y rfl (y_nei rfl rfl) rfl ?_
    refine L_y rfl (y_move rfl) rfl ?_
    refine L_case 71 rfl (fun hg20_4 => ?_) (fun hg20_4 => ?_)
    · exact absurd hg20_4 (by rw [(tearS_ok (by omega)).2]; decide)
    · skip
      refine L_y rfl (y_move rfl) rfl ?_
      refine L_op rfl (op_call rfl rfl (fun a w => Try.call29 a w) rfl ?_)
      refine (waiting_l hb6 hG6.dok (sees 1 0 rfl)).mono ?_
      rintro _ _ ⟨rfl, rfl⟩
      rw [show ((d6.a.Q.length : Nat) : Int) = 0 from by rw [hA6] <;> (rw [(tearA_cut _ _ _).2]; rfl)]
      refine ⟨_, rfl, ?_⟩
      refine L_y rfl (y_nei rfl rfl) rfl ?_
      refine L_y rfl (y_pick_f rfl rfl) rfl ?_
      refine L_y rfl (y_move rfl) rfl ?_
      refine L_case 76 rfl (fun hg20_9 => ?_) (fun hg20_9 => ?_)
      · exact absurd hg20_9 (by decide)
      · skip
        refine L_y rfl (y_move rfl) rfl ?_
        refine L_op rfl (op_call rfl rfl (fun a w => Try.call30 a w) rfl ?_)
        refine (on_l pb6 (sees 4 0 rfl)).mono ?_
        rintro _ _ ⟨rfl, rfl⟩
        rw [show (!p6.a.off) = false from by rw [hP6] <;> (rfl)]
        refine ⟨_, rfl, ?_⟩
        refine L_y rfl (y_pick_f rfl rfl) rfl ?_
        refine L_nil ?_
        refine C_cond_f rfl ?_
        refine C_skip ?_
        refine C_seq ?_
        refine C_seq ?_
        refine C_region ?_
        refine L_y rfl (y_assign rfl) rfl ?_
        refine L_nil ?_
        refine C_block ?_
        refine C_loop (ι := Nat) (fun i => [(9, .int .i64 (((m0 % 10) : Nat) : Int)), (10, .int .i64 (((m1 % 12) : Nat) : Int)), (11, .int .i64 (((m2 % 130) : Nat) : Int)), (15, slV (some g) (tearS (m1 % 12) (m2 % 130) (m0 % 10)).length), (16, .int .i64 (i : Int))]) (fun i => slSeg 44 (some g) (bs (tearS (m1 % 12) (m2 % 130) (m0 % 10)).flatten) :: H) (fun i => i ≤ 12) (fun i => 12 - i) 0 (Nat.zero_le _) ⟨rfl, rfl, rfl, rfl, rfl, trivial⟩ (hsub (.cons_cons _ (.cons _ (.cons _ (.cons _ (.cons _ (.cons _ (.refl _)))))))) (fun i hi => ?_)
        skip
        refine C_seq ?_
        refine C_seq ?_
        refine C_region ?_
        refine L_y rfl (y_move rfl) rfl ?_
        refine L_y rfl (y_lss rfl rfl) rfl ?_
        refine L_nil ?_
        refine C_cond rfl (fun hc6 => ?_) (fun hc6 => ?_)
        · replace hc6 := of_decide_eq_true hc6
          refine C_skip ?_
          refine C_seq ?_
          refine C_block ?_
          refine C_seq ?_
          refine C_region ?_
          refine L_y rfl (y_assign rfl) rfl ?_
          refine L_nil ?_
          refine C_block ?_
          refine C_loop (ι := Nat) (fun j => [(17, .int .i64 (j : Int)), (9, .int .i64 (((m0 % 10) : Nat) : Int)), (10, .int .i64 (((m1 % 12) : Nat) : Int)), (11, .int .i64 (((m2 % 130) : Nat) : Int)), (15, slV (some g) (tearS (m1 % 12) (m2 % 130) (m0 % 10)).length), (16, .int .i64 (i : Int))]) (fun j => slSeg 44 (some g) (bs (tearS (m1 % 12) (m2 % 130) (m0 % 10)).flatten) :: H) (fun j => j ≤ 128) (fun j => 128 - j) 0 (Nat.zero_le _) ⟨rfl, rfl, rfl, rfl, rfl, rfl, trivial⟩ (HSub.refl _) (fun j hj => ?_)
          skip
          refine C_seq ?_
          refine C_seq ?_
          refine C_region ?_
          refine L_y rfl (y_move rfl) rfl ?_
          refine L_y rfl (y_lss rfl rfl) rfl ?_
          refine L_nil ?_
          refine C_cond rfl (fun hc7 => ?_) (fun hc7 => ?_)
          · replace hc7 := of_decide_eq_true hc7
            refine C_skip ?_
            refine C_seq ?_
            refine C_block ?_
            refine C_seq ?_
            refine C_region ?_
            refine L_y rfl (y_assign rfl) rfl ?_
            refine L_nil ?_
            refine C_seq ?_
            refine C_seq ?_
            refine C_region ?_
            refine L_y rfl (y_move rfl) rfl ?_
            refine L_y rfl (y_move rfl) rfl ?_
            refine L_y rfl (y_lss rfl rfl) rfl ?_
            refine L_y rfl (y_move rfl) rfl ?_
            refine L_case 91 rfl (fun hg29_4 => ?_) (fun hg29_4 => ?_)
            · have q1 := of_decide_eq_true hg29_4
              refine L_y rfl (y_move rfl) rfl ?_
              refine L_y rfl (y_move rfl) rfl ?_
              refine L_y rfl (y_lss rfl rfl) rfl ?_
              refine L_y rfl (y_move rfl) rfl ?_
              refine L_case 95 rfl (fun hg29_8 => ?_) (fun hg29_8 => ?_)
              · have q2 := of_decide_eq_true hg29_8
                refine L_skip rfl rfl ?_
                refine L_skip rfl rfl ?_
                refine L_skip rfl rfl ?_
                refine L_skip rfl rfl ?_
                refine L_skip rfl rfl ?_
                refine L_skip rfl rfl ?_
                refine L_skip rfl rfl ?_
                refine L_skip rfl rfl ?_
                refine L_y rfl (y_pick_t rfl rfl) rfl ?_
                refine L_y rfl (y_pick_t rfl rfl) rfl ?_
                refine L_nil ?_
                refine C_cond_t rfl ?_
                refine C_region ?_
                refine L_y rfl (y_move rfl) rfl ?_
                refine L_y rfl (y_add rfl rfl (wi64 (by omega) (by omega))) rfl ?_
                refine L_y rfl (y_conv rfl us_3 Try.underlying5 (wrap_succ i)) rfl ?_
                refine L_y rfl (y_assign rfl) rfl ?_
                refine L_nil ?_
                refine C_seq ?_
                refine C_region ?_
                refine L_y rfl (y_move rfl) rfl ?_
                refine L_y rfl (y_move rfl) rfl ?_
                refine L_y rfl (y_move rfl) rfl ?_
                refine L_y rfl (y_indexS rfl rfl Try.underlying48 sz_44 (by omega) (by rw [(tearS_ok (by omega)).2]; omega) (show _ = i * 128 from by simp)) rfl ?_
                refine L_y rfl (y_indexA rfl rfl Try.underlying44 sz_5 (by omega) (by omega) (show _ = i * 128 + j from by simp)) rfl ?_
                refine L_y rfl (y_load rfl ag_5 (sees 0 0 rfl) (show _ = some (u8 (tbyte (m1 % 12) (m2 % 130) (m0 % 10) i j)) from by rw [List.getElem?_append_left (by rw [bs_length, flat_len (tearS_ok (by omega)).1, (tearS_ok (by omega)).2]; omega), bs_get, tear_at (by omega) (by omega) (by omega)]; rfl)) rfl ?_
                refine L_y rfl (y_move rfl) rfl ?_
                refine L_y rfl (y_nei rfl rfl) rfl ?_
                refine L_nil ?_
                refine C_cond rfl (fun hc9 => absurd hc9 (by first | (rw [tb_pos (by omega)]; simp) | (rw [tb_neg (by omega)]; simp))) (fun hc9 => ?_)
                refine C_skip ?_
                refine C_region ?_
                refine L_y rfl (y_move rfl) rfl ?_
                refine L_y rfl (y_add rfl rfl (wi64 (by omega) (by omega))) rfl ?_
                refine L_y rfl (y_assign rfl) rfl ?_
                refine L_nil ?_
                exact ⟨j + 1, by omega, by omega, ⟨rfl, rfl, rfl, rfl, rfl, rfl, trivial⟩, HSub.refl _⟩
              · have q2 := of_decide_eq_false hg29_8
                refine L_y rfl (y_move rfl) rfl ?_
                refine L_y rfl (y_move rfl) rfl ?_
                refine L_y rfl (y_eqi rfl rfl) rfl ?_
                refine L_y rfl (y_move rfl) rfl ?_
                refine L_case 99 rfl (fun hg29_12 => ?_) (fun hg29_12 => ?_)
                · have q3 := of_decide_eq_true hg29_12
                  refine L_y rfl (y_move rfl) rfl ?_
                  refine L_y rfl (y_move rfl) rfl ?_
                  refine L_y rfl (y_lss rfl rfl) rfl ?_
                  refine L_y rfl (y_pick_t rfl rfl) rfl ?_
                  refine L_y rfl (y_pick_f rfl rfl) rfl ?_
                  refine L_y rfl (y_pick_t rfl rfl) rfl ?_
                  refine L_nil ?_
                  refine C_cond rfl (fun hc8 => ?_) (fun hc8 => ?_)
                  · replace hc8 := of_decide_eq_true hc8
                    refine C_region ?_
                    refine L_y rfl (y_move rfl) rfl ?_
                    refine L_y rfl (y_add rfl rfl (wi64 (by omega) (by omega))) rfl ?_
                    refine L_y rfl (y_conv rfl us_3 Try.underlying5 (wrap_succ i)) rfl ?_
                    refine L_y rfl (y_assign rfl) rfl ?_
                    refine L_nil ?_
                    refine C_seq ?_
                    refine C_region ?_
                    refine L_y rfl (y_move rfl) rfl ?_
                    refine L_y rfl (y_move rfl) rfl ?_
                    refine L_y rfl (y_move rfl) rfl ?_
                    refine L_y rfl (y_indexS rfl rfl Try.underlying48 sz_44 (by omega) (by rw [(tearS_ok (by omega)).2]; omega) (show _ = i * 128 from by simp)) rfl ?_
                    refine L_y rfl (y_indexA rfl rfl Try.underlying44 sz_5 (by omega) (by omega) (show _ = i * 128 + j from by simp)) rfl ?_
                    refine L_y rfl (y_load rfl ag_5 (sees 0 0 rfl) (show _ = some (u8 (tbyte (m1 % 12) (m2 % 130) (m0 % 10) i j)) from by rw [List.getElem?_append_left (by rw [bs_length, flat_len (tearS_ok (by omega)).1, (tearS_ok (by omega)).2]; omega), bs_get, tear_at (by omega) (by omega) (by omega)]; rfl)) rfl ?_
                    refine L_y rfl (y_move rfl) rfl ?_
                    refine L_y rfl (y_nei rfl rfl) rfl ?_
                    refine L_nil ?_
                    refine C_cond rfl (fun hc9 => absurd hc9 (by first | (rw [tb_pos (by omega)]; simp) | (rw [tb_neg (by omega)]; simp))) (fun hc9 => ?_)
                    refine C_skip ?_
                    refine C_region ?_
                    refine L_y rfl (y_move rfl) rfl ?_
                    refine L_y rfl (y_add rfl rfl (wi64 (by omega) (by omega))) rfl ?_
                    refine L_y rfl (y_assign rfl) rfl ?_
                    refine L_nil ?_
                    exact ⟨j + 1, by omega, by omega, ⟨rfl, rfl, rfl, rfl, rfl, rfl, trivial⟩, HSub.refl _⟩
                  · replace hc8 := of_decide_eq_false hc8
                    refine C_skip ?_
                    refine C_seq ?_
                    refine C_region ?_
                    refine L_y rfl (y_move rfl) rfl ?_
                    refine L_y rfl (y_move rfl) rfl ?_
                    refine L_y rfl (y_move rfl) rfl ?_
                    refine L_y rfl (y_indexS rfl rfl Try.underlying48 sz_44 (by omega) (by rw [(tearS_ok (by omega)).2]; omega) (show _ = i * 128 from by simp)) rfl ?_
                    refine L_y rfl (y_indexA rfl rfl Try.underlying44 sz_5 (by omega) (by omega) (show _ = i * 128 + j from by simp)) rfl ?_
                    refine L_y rfl (y_load rfl ag_5 (sees 0 0 rfl) (show _ = some (u8 (tbyte (m1 % 12) (m2 % 130) (m0 % 10) i j)) from by rw [List.getElem?_append_left (by rw [bs_length, flat_len (tearS_ok (by omega)).1, (tearS_ok (by omega)).2]; omega), bs_get, tear_at (by omega) (by omega) (by omega)]; rfl)) rfl ?_
                    refine L_y rfl (y_move rfl) rfl ?_
                    refine L_y rfl (y_nei rfl rfl) rfl ?_
                    refine L_nil ?_
                    refine C_cond rfl (fun hc9 => absurd hc9 (by first | (rw [tb_pos (by omega)]; simp) | (rw [tb_neg (by omega)]; simp))) (fun hc9 => ?_)
                    refine C_skip ?_
                    refine C_region ?_
                    refine L_y rfl (y_move rfl) rfl ?_
                    refine L_y rfl (y_add rfl rfl (wi64 (by omega) (by omega))) rfl ?_
                    refine L_y rfl (y_assign rfl) rfl ?_
                    refine L_nil ?_
                    exact ⟨j + 1, by omega, by omega, ⟨rfl, rfl, rfl, rfl, rfl, rfl, trivial⟩, HSub.refl _⟩
                · have q3 := of_decide_eq_false hg29_12
                  refine L_skip rfl rfl ?_
                  refine L_skip rfl rfl ?_
                  refine L_skip rfl rfl ?_
                  refine L_y rfl (y_pick_f rfl rfl) rfl ?_
                  refine L_y rfl (y_pick_f rfl rfl) rfl ?_
                  refine L_y rfl (y_pick_t rfl rfl) rfl ?_
                  refine L_nil ?_
                  refine C_cond_f rfl ?_
                  refine C_skip ?_
                  refine C_seq ?_
                  refine C_region ?_
                  refine L_y rfl (y_move rfl) rfl ?_
                  refine L_y rfl (y_move rfl) rfl ?_
                  refine L_y rfl (y_move rfl) rfl ?_
                  refine L_y rfl (y_indexS rfl rfl Try.underlying48 sz_44 (by omega) (by rw [(tearS_ok (by omega)).2]; omega) (show _ = i * 128 from by simp)) rfl ?_
                  refine L_y rfl (y_indexA rfl rfl Try.underlying44 sz_5 (by omega) (by omega) (show _ = i * 128 + j from by simp)) rfl ?_
                  refine L_y rfl (y_load rfl ag_5 (sees 0 0 rfl) (show _ = some (u8 (tbyte (m1 % 12) (m2 % 130) (m0 % 10) i j)) from by rw [List.getElem?_append_left (by rw [bs_length, flat_len (tearS_ok (by omega)).1, (tearS_ok (by omega)).2]; omega), bs_get, tear_at (by omega) (by omega) (by omega)]; rfl)) rfl ?_
                  refine L_y rfl (y_move rfl) rfl ?_
                  refine L_y rfl (y_nei rfl rfl) rfl ?_
                  refine L_nil ?_
                  refine C_cond rfl (fun hc9 => absurd hc9 (by first | (rw [tb_pos (by omega)]; simp) | (rw [tb_neg (by omega)]; simp))) (fun hc9 => ?_)
                  refine C_skip ?_
                  refine C_region ?_
                  refine L_y rfl (y_move rfl) rfl ?_
                  refine L_y rfl (y_add rfl rfl (wi64 (by omega) (by omega))) rfl ?_
                  refine L_y rfl (y_assign rfl) rfl ?_
                  refine L_nil ?_
                  exact ⟨j + 1, by omega, by omega, ⟨rfl, rfl, rfl, rfl, rfl, rfl, trivial⟩, HSub.refl _⟩
            · have q1 := of_decide_eq_false hg29_4
              refine L_skip rfl rfl ?_
              refine L_skip rfl rfl ?_
              refine L_skip rfl rfl ?_
              refine L_skip rfl rfl ?_
              refine L_skip rfl rfl ?_
              refine L_skip rfl rfl ?_
              refine L_skip rfl rfl ?_
              refine L_skip rfl rfl ?_
              refine L_skip rfl rfl ?_
              refine L_skip rfl rfl ?_
              refine L_skip rfl rfl ?_
              refine L_skip rfl rfl ?_
              refine L_skip rfl rfl ?_
              refine L_y rfl (y_pick_f rfl rfl) rfl ?_
              refine L_nil ?_
              refine C_cond_f rfl ?_
              refine C_skip ?_
              refine C_seq ?_
              refine C_region ?_
              refine L_y rfl (y_move rfl) rfl ?_
              refine L_y rfl (y_move rfl) rfl ?_
              refine L_y rfl (y_move rfl) rfl ?_
              refine L_y rfl (y_indexS rfl rfl Try.underlying48 sz_44 (by omega) (by rw [(tearS_ok (by omega)).2]; omega) (show _ = i * 128 from by simp)) rfl ?_
              refine L_y rfl (y_indexA rfl rfl Try.underlying44 sz_5 (by omega) (by omega) (show _ = i * 128 + j from by simp)) rfl ?_
              refine L_y rfl (y_load rfl ag_5 (sees 0 0 rfl) (show _ = some (u8 (tbyte (m1 % 12) (m2 % 130) (m0 % 10) i j)) from by rw [List.getElem?_append_left (by rw [bs_length, flat_len (tearS_ok (by omega)).1, (tearS_ok (by omega)).2]; omega), bs_get, tear_at (by omega) (by omega) (by omega)]; rfl)) rfl ?_
              refine L_y rfl (y_move rfl) rfl ?_
              refine L_y rfl (y_nei rfl rfl) rfl ?_
              refine L_nil ?_
              refine C_cond rfl (fun hc9 => absurd hc9 (by first | (rw [tb_pos (by omega)]; simp) | (rw [tb_neg (by omega)]; simp))) (fun hc9 => ?_)
              refine C_skip ?_
              refine C_region ?_
              refine L_y rfl (y_move rfl) rfl ?_
              refine L_y rfl (y_add rfl rfl (wi64 (by omega) (by omega))) rfl ?_
              refine L_y rfl (y_assign rfl) rfl ?_
              refine L_nil ?_
              exact ⟨j + 1, by omega, by omega, ⟨rfl, rfl, rfl, rfl, rfl, rfl, trivial⟩, HSub.refl _⟩
          · replace hc7 := of_decide_eq_false hc7
            refine C_exit ?_
            refine C_region ?_
            refine L_y rfl (y_move rfl) rfl ?_
            refine L_y rfl (y_add rfl rfl (wi64 (by omega) (by omega))) rfl ?_
            refine L_y rfl (y_assign rfl) rfl ?_
            refine L_nil ?_
            exact ⟨i + 1, by omega, by omega, ⟨rfl, rfl, rfl, rfl, rfl, trivial⟩, HSub.refl _⟩
        · replace hc6 := of_decide_eq_false hc6
          refine C_exit ?_
          refine C_seq ?_
          refine C_region ?_
          refine L_y rfl (y_assign rfl) rfl ?_
          refine L_nil ?_
          refine C_ret ?_
          refine B_ret (rv_tmp rfl rv_nil) (HSub.refl _) ?_
          rfl

end Go.Proofs.Ytjiojffakejgjaa
