/- walks (own work; the walks' lines by a program of this repo). -/
import Derived.Test.YtjiojffakejgjaaDaW
import Derived.Test.YtjiojffakejgjaaDw
set_option linter.unusedVariables false
set_option linter.unusedSimpArgs false
set_option maxRecDepth 20000
namespace Go.Proofs.Ytjiojffakejgjaa
open Go.Sl
attribute [local irreducible] BodyQ WpC WpL WpS WpH OpW FnS


theorem rots_t {w0 : World} {H : Hp} (n k : Nat) (m c : UInt8) (hn : n < 6) (hk : k < 128) : FnS Try.prog w0 6 #[.int .i64 (n : Int), .int .i64 (k : Int), .int .u8 (m.toNat : Int), .int .u8 (c.toNat : Int)] H (fun e H' => e = .returned (.bool true)) := by
  refine FnS_intro (n := 114) (rs := [.tmp 8]) (vs := [.int .i64 (n : Int), .int .i64 (k : Int), .int .u8 (m.toNat : Int), .int .u8 (c.toNat : Int)]) Try.func6 rfl Try.ntmps6 rfl rfl ?_
  refine C_seq ?_
  refine C_region ?_
  refine L_y rfl (y_assign rfl) rfl ?_
  refine L_nil ?_
  refine C_seq ?_
  refine C_seq ?_
  refine C_region ?_
  refine L_op rfl (op_call rfl rfl (fun a w => Try.call20 a w) rfl ?_)
  refine awake08_s.mono ?_
  rintro _ _ ⟨rfl, e⟩
  obtain rfl := e.symm
  refine ⟨_, rfl, ?_⟩
  refine L_y rfl (y_not rfl) rfl ?_
  refine L_nil ?_
  refine C_cond_f rfl ?_
  refine C_skip ?_
  refine C_seq ?_
  refine C_region ?_
  refine L_op rfl (op_call rfl rfl (fun a w => Try.call22 a w) rfl ?_)
  refine (new_ln 6).mono ?_
  rintro _ _ ⟨d1, p1, hG1, ha1, hP1, rfl, rfl⟩
  have hA1 : d1.a = rotA c 0 := by rw [ha1] <;> (rfl)
  have hb1 : d1.b = d1.b := rfl
  refine ⟨_, rfl, ?_⟩
  refine L_y rfl (y_assign rfl) rfl ?_
  refine L_nil ?_
  refine C_seq ?_
  refine C_seq ?_
  refine C_region ?_
  refine L_y rfl (y_assign rfl) rfl ?_
  refine L_nil ?_
  refine C_block ?_
  refine C_loop (ι := Dv × Pw × Nat) (fun i => [(0, .int .i64 (n : Int)), (1, .int .i64 (k : Int)), (2, .int .u8 (m.toNat : Int)), (3, .int .u8 (c.toNat : Int)), (9, ptr d1.b), (10, .int .i64 (i.2.2 : Int))]) (fun i => i.1.o dt :: i.1.t dt :: i.1.q dt :: i.2.1.o dt :: i.2.1.q dt :: H) (fun i => GOk dt i.2.1 [] i.1 [] ∧ i.1.b = d1.b ∧ i.2.1.b = p1.b ∧ i.1.a = rotA c i.2.2 ∧ i.2.1.a = q0 ∧ i.2.2 ≤ 6) (fun i => 6 - i.2.2) (d1, p1, 0) ⟨hG1, hb1, rfl, hA1, hP1, Nat.zero_le _⟩ ⟨rfl, rfl, rfl, rfl, rfl, rfl, trivial⟩ (HSub.refl _) (fun i hi => ?_)
  obtain ⟨d, p, i⟩ := i
  obtain ⟨hG, hb, pb, hA, hP, hi⟩ := hi
  simp only at hG hb pb hA hP hi
  dsimp only
  refine C_seq ?_
  refine C_seq ?_
  refine C_region ?_
  refine L_y rfl (y_move rfl) rfl ?_
  refine L_y rfl (y_lss rfl rfl) rfl ?_
  refine L_nil ?_
  refine C_cond rfl (fun hc1 => ?_) (fun hc1 => ?_)
  · replace hc1 := of_decide_eq_true hc1
    refine C_skip ?_
    refine C_seq ?_
    refine C_block ?_
    refine C_region ?_
    refine L_y rfl (y_move rfl) rfl ?_
    refine L_y rfl (y_move rfl) rfl ?_
    refine L_y rfl (y_move rfl) rfl ?_
    refine L_op rfl (op_call rfl rfl (fun a w => Try.call25 a w) rfl ?_)
    refine (sector_s c).mono ?_
    rintro _ _ ⟨rfl, rfl⟩
    refine ⟨_, rfl, ?_⟩
    refine L_op rfl (op_call rfl rfl (fun a w => Try.call24 a w) rfl ?_)
    refine ((write_1 (H := (H)) hG hb (i : Int) (secOf c) (secOf_len _) (by rw [hA]; simp only [rotA, rq_len]; omega)).sub (hsub_pick [0, 0, 0, 0, 0] rfl)).mono ?_
    rintro _ _ ⟨rfl, d2, p2, hG2, hb2, ha2, hpb2, hq2, rfl⟩
    have hA2 : d2.a = rotA c (i + 1) := by rw [ha2, hA, hP] <;> (exact (rotA_write (by omega)).1)
    have hP2 : p2.a = q0 := by rw [hq2, hA, hP] <;> (exact (rotA_write (by omega)).2)
    have pb2 := hpb2.trans pb
    refine ⟨_, rfl, ?_⟩
    refine L_nil ?_
    refine C_region ?_
    refine L_y rfl (y_move rfl) rfl ?_
    refine L_y rfl (y_add rfl rfl (wi64 (by omega) (by omega))) rfl ?_
    refine L_y rfl (y_assign rfl) rfl ?_
    refine L_nil ?_
    exact ⟨(d2, p2, i + 1), ⟨hG2, hb2, pb2, hA2, hP2, by simp only; omega⟩, by simp only; omega, ⟨rfl, rfl, rfl, rfl, rfl, rfl, trivial⟩, HSub.refl _⟩
  · replace hc1 := of_decide_eq_false hc1
    refine C_exit ?_
    refine C_seq ?_
    obtain rfl : i = 6 := by omega
    refine C_region ?_
    refine L_y rfl (y_move rfl) rfl ?_
    refine L_op rfl (op_call rfl rfl (fun a w => Try.call27 a w) rfl ?_)
    refine ((flush_1 (H := (H)) hG hb).sub (hsub_pick [0, 0, 0, 0, 0] rfl)).mono ?_
    rintro _ _ ⟨rfl, d3, p3, hG3, hb3, ha3, hpb3, hq3, rfl⟩
    have hA3 : d3.a = rotF c := by rw [ha3, hA, hP] <;> (exact (rot_flush c).1)
    have hP3 : p3.a = q0 := by rw [hq3, hA, hP] <;> (exact (rot_flush c).2)
    have pb3 := hpb3.trans pb
    refine ⟨_, rfl, ?_⟩
    refine L_nil ?_
    refine C_seq ?_
    refine C_region ?_
    refine L_y rfl (y_move rfl) rfl ?_
    refine L_op rfl (op_call rfl rfl (fun a w => Try.call28 a w) rfl ?_)
    refine (dump_l hb3 hG3.dok.1 (sees 0 0 rfl) (sees 1 0 rfl)).mono ?_
    rintro _ _ ⟨g, hg, rfl, rfl⟩
    have hS4 : d3.a.S = rotS c := by rw [hA3] <;> (rfl)
    rw [show d3.a.S.length = (rotS c).length from by rw [hS4], hS4] at hg
    rw [show slSeg _ g (bs d3.a.S.flatten) = slSeg _ g (bs (rotS c).flatten) from by rw [hS4], show slV g d3.a.S.length = slV g (rotS c).length from by rw [hS4]]
    cases g with
    | none => exact slOk_none hg (by rw [rotS_len]; decide)
    | some g => ?_
    refine ⟨_, rfl, ?_⟩
    refine L_y rfl (y_assign rfl) rfl ?_
    refine L_nil ?_
    refine C_seq ?_
    refine C_region ?_
    refine L_y rfl (y_move rfl) rfl ?_
    refine L_y rfl (y_move rfl) rfl ?_
    refine L_y rfl (y_move rfl) rfl ?_
    refine L_y rfl (y_move rfl) rfl ?_
    refine L_op rfl (op_call rfl rfl (fun a w => Try.call31 a w) rfl ?_)
    refine ((rot_l (H := (_ :: H)) (L := []) (R := []) hG3 hb3 (n : Int) (k : Int) m).sub (hsub_pick [1, 1, 1, 1, 1] rfl)).mono ?_
    rintro _ _ ⟨rfl, d5, hG5, hb5, ha5, rfl⟩
    have hA5 : d5.a = rotG c n k m := by rw [ha5, hA3] <;> (exact rots_in hn hk)
    rw [show d3.a.rotE (n : Int) (k : Int) = true from by rw [hA3] <;> (exact rotE_in hn hk)]
    refine ⟨_, rfl, ?_⟩
    refine L_y rfl (y_assign rfl) rfl ?_
    refine L_nil ?_
    refine C_seq ?_
    refine C_seq ?_
    refine C_region ?_
    refine L_y rfl (y_move rfl) rfl ?_
    refine L_y rfl (y_move rfl) rfl ?_
    refine L_y rfl (y_geq rfl rfl) rfl ?_
    refine L_y rfl (y_move rfl) rfl ?_
    refine L_case 41 rfl (fun hg11_4 => ?_) (fun hg11_4 => ?_)
    · skip
      refine L_y rfl (y_move rfl) rfl ?_
      refine L_y rfl (y_lss rfl rfl) rfl ?_
      refine L_y rfl (y_pick_t rfl rfl) rfl ?_
      refine L_y rfl (y_move rfl) rfl ?_
      refine L_case 45 rfl (fun hg11_8 => ?_) (fun hg11_8 => ?_)
      · skip
        refine L_y rfl (y_move rfl) rfl ?_
        refine L_y rfl (y_geq rfl rfl) rfl ?_
        refine L_y rfl (y_pick_t rfl rfl) rfl ?_
        refine L_y rfl (y_move rfl) rfl ?_
        refine L_case 49 rfl (fun hg11_12 => ?_) (fun hg11_12 => ?_)
        · skip
          refine L_y rfl (y_move rfl) rfl ?_
          refine L_y rfl (y_lss rfl rfl) rfl ?_
          refine L_y rfl (y_pick_t rfl rfl) rfl ?_
          refine L_y rfl (y_neb rfl rfl Try.underlying4) rfl ?_
          refine L_y rfl (y_move rfl) rfl ?_
          refine L_case 54 rfl (fun hg11_17 => ?_) (fun hg11_17 => ?_)
          · exact absurd hg11_17 (by simp; omega)
          · skip
            refine L_y rfl (y_move rfl) rfl ?_
            refine L_y rfl (y_lenS rfl rfl Try.underlying48) rfl ?_
            refine L_y rfl (y_nei rfl rfl) rfl ?_
            refine L_y rfl (y_pick_f rfl rfl) rfl ?_
            refine L_nil ?_
            refine C_cond rfl (fun hc2 => absurd hc2 (by rw [rotS_len]; decide)) (fun hc2 => ?_)
            refine C_skip ?_
            refine C_seq ?_
            refine C_region ?_
            refine L_y rfl (y_move rfl) rfl ?_
            refine L_op rfl (op_call rfl rfl (fun a w => Try.call28 a w) rfl ?_)
            refine (dump_l hb5 hG5.dok.1 (sees 0 0 rfl) (sees 1 0 rfl)).mono ?_
            rintro _ _ ⟨g2, hg2, rfl, rfl⟩
            have hS6 : d5.a.S = rotT c n k m := by rw [hA5] <;> (rfl)
            rw [show d5.a.S.length = (rotT c n k m).length from by rw [hS6], hS6] at hg2
            rw [show slSeg _ g2 (bs d5.a.S.flatten) = slSeg _ g2 (bs (rotT c n k m).flatten) from by rw [hS6], show slV g2 d5.a.S.length = slV g2 (rotT c n k m).length from by rw [hS6]]
            cases g2 with
            | none => exact slOk_none hg2 (by rw [rotT_len c n k m]; decide)
            | some g2 => ?_
            refine ⟨_, rfl, ?_⟩
            refine L_y rfl (y_assign rfl) rfl ?_
            refine L_nil ?_
            refine C_seq ?_
            refine C_seq ?_
            refine C_region ?_
            refine L_y rfl (y_move rfl) rfl ?_
            refine L_y rfl (y_lenS rfl rfl Try.underlying48) rfl ?_
            refine L_y rfl (y_nei rfl rfl) rfl ?_
            refine L_nil ?_
            refine C_cond rfl (fun hc3 => absurd hc3 (by rw [rotT_len c n k m]; decide)) (fun hc3 => ?_)
            refine C_skip ?_
            refine C_seq ?_
            refine C_seq ?_
            refine C_region ?_
            refine L_y rfl (y_assign rfl) rfl ?_
            refine L_nil ?_
            refine C_block ?_
            refine C_loop (ι := Nat) (fun i => [(0, .int .i64 (n : Int)), (1, .int .i64 (k : Int)), (2, .int .u8 (m.toNat : Int)), (3, .int .u8 (c.toNat : Int)), (9, ptr d1.b), (11, slV (some g) (rotS c).length), (12, .bool true), (13, slV (some g2) (rotT c n k m).length), (14, .int .i64 (i : Int))]) (fun i => slSeg 44 (some g2) (bs (rotT c n k m).flatten) :: d5.o dt :: d5.t dt :: d5.q dt :: p3.o dt :: p3.q dt :: slSeg 44 (some g) (bs (rotS c).flatten) :: H) (fun i => i ≤ 6) (fun i => 6 - i) 0 (Nat.zero_le _) ⟨rfl, rfl, rfl, rfl, rfl, rfl, rfl, rfl, rfl, trivial⟩ (HSub.refl _) (fun i hi => ?_)
            skip
            refine C_seq ?_
            refine C_seq ?_
            refine C_region ?_
            refine L_y rfl (y_move rfl) rfl ?_
            refine L_y rfl (y_lss rfl rfl) rfl ?_
            refine L_nil ?_
            refine C_cond rfl (fun hc4 => ?_) (fun hc4 => ?_)
            · replace hc4 := of_decide_eq_true hc4
              refine C_skip ?_
              refine C_seq ?_
              refine C_block ?_
              refine C_seq ?_
              refine C_region ?_
              refine L_y rfl (y_assign rfl) rfl ?_
              refine L_nil ?_
              refine C_block ?_
              refine C_loop (ι := Nat) (fun j => [(15, .int .i64 (j : Int)), (0, .int .i64 (n : Int)), (1, .int .i64 (k : Int)), (2, .int .u8 (m.toNat : Int)), (3, .int .u8 (c.toNat : Int)), (9, ptr d1.b), (11, slV (some g) (rotS c).length), (12, .bool true), (13, slV (some g2) (rotT c n k m).length), (14, .int .i64 (i : Int))]) (fun j => slSeg 44 (some g2) (bs (rotT c n k m).flatten) :: d5.o dt :: d5.t dt :: d5.q dt :: p3.o dt :: p3.q dt :: slSeg 44 (some g) (bs (rotS c).flatten) :: H) (fun j => j ≤ 128) (fun j => 128 - j) 0 (Nat.zero_le _) ⟨rfl, rfl, rfl, rfl, rfl, rfl, rfl, rfl, rfl, rfl, trivial⟩ (HSub.refl _) (fun j hj => ?_)
              skip
              refine C_seq ?_
              refine C_seq ?_
              refine C_region ?_
              refine L_y rfl (y_move rfl) rfl ?_
              refine L_y rfl (y_lss rfl rfl) rfl ?_
              refine L_nil ?_
              refine C_cond rfl (fun hc5 => ?_) (fun hc5 => ?_)
              · replace hc5 := of_decide_eq_true hc5
                refine C_skip ?_
                refine C_seq ?_
                refine C_block ?_
                refine C_seq ?_
                refine C_region ?_
                refine L_y rfl (y_move rfl) rfl ?_
                refine L_y rfl (y_move rfl) rfl ?_
                refine L_y rfl (y_move rfl) rfl ?_
                refine L_y rfl (y_indexS rfl rfl Try.underlying48 sz_44 (by omega) (by rw [rotS_len]; omega) (show _ = i * 128 from by simp)) rfl ?_
                refine L_y rfl (y_indexA rfl rfl Try.underlying44 sz_5 (by omega) (by omega) (show _ = i * 128 + j from by simp)) rfl ?_
                refine L_y rfl (y_load rfl ag_5 (sees 6 0 rfl) (show _ = some (u8 c) from by rw [List.getElem?_append_left (by rw [bs_length, flat_len (rotS_ok c), rotS_len]; omega), bs_get, rotS_at (by omega) (by omega)]; rfl)) rfl ?_
                refine L_y rfl (y_assign rfl) rfl ?_
                refine L_nil ?_
                refine C_seq ?_
                refine C_seq ?_
                refine C_region ?_
                refine L_y rfl (y_move rfl) rfl ?_
                refine L_y rfl (y_move rfl) rfl ?_
                refine L_y rfl (y_move rfl) rfl ?_
                refine L_y rfl (y_move rfl) rfl ?_
                refine L_y rfl (y_eqi rfl rfl) rfl ?_
                refine L_y rfl (y_pick_t rfl rfl) rfl ?_
                refine L_y rfl (y_move rfl) rfl ?_
                refine L_case 84 rfl (fun hg23_7 => ?_) (fun hg23_7 => ?_)
                · have q1 := of_decide_eq_true hg23_7
                  refine L_y rfl (y_move rfl) rfl ?_
                  refine L_y rfl (y_move rfl) rfl ?_
                  refine L_y rfl (y_eqi rfl rfl) rfl ?_
                  refine L_y rfl (y_pick_t rfl rfl) rfl ?_
                  refine L_nil ?_
                  refine C_cond rfl (fun hc6 => ?_) (fun hc6 => ?_)
                  · replace hc6 := of_decide_eq_true hc6
                    refine C_region ?_
                    refine L_y rfl (y_move rfl) rfl ?_
                    refine L_y rfl (y_move rfl) rfl ?_
                    refine L_y rfl (y_xor rfl rfl (bits_xor8 c m)) rfl ?_
                    refine L_y rfl (y_assign rfl) rfl ?_
                    refine L_nil ?_
                    refine C_seq ?_
                    refine C_region ?_
                    refine L_y rfl (y_move rfl) rfl ?_
                    refine L_y rfl (y_move rfl) rfl ?_
                    refine L_y rfl (y_move rfl) rfl ?_
                    refine L_y rfl (y_indexS rfl rfl Try.underlying48 sz_44 (by omega) (by rw [rotT_len c n k m]; omega) (show _ = i * 128 from by simp)) rfl ?_
                    refine L_y rfl (y_indexA rfl rfl Try.underlying44 sz_5 (by omega) (by omega) (show _ = i * 128 + j from by simp)) rfl ?_
                    refine L_y rfl (y_load rfl ag_5 (sees 0 0 rfl) (show _ = some (u8 (rbyte c n k m i j)) from by rw [List.getElem?_append_left (by rw [bs_length, flat_len (rotT_ok c n k m), rotT_len]; omega), bs_get, rotT_at (by omega) (by omega)]; rfl)) rfl ?_
                    refine L_y rfl (y_move rfl) rfl ?_
                    refine L_y rfl (y_nei rfl rfl) rfl ?_
                    refine L_nil ?_
                    refine C_cond rfl (fun hc7 => absurd hc7 (by first | (rw [show rbyte c n k m i j = c ^^^ m from if_pos (by omega)]; simp) | (rw [show rbyte c n k m i j = c from if_neg (by omega)]; simp))) (fun hc7 => ?_)
                    refine C_skip ?_
                    refine C_region ?_
                    refine L_y rfl (y_move rfl) rfl ?_
                    refine L_y rfl (y_add rfl rfl (wi64 (by omega) (by omega))) rfl ?_
                    refine L_y rfl (y_assign rfl) rfl ?_
                    refine L_nil ?_
                    exact ⟨j + 1, by omega, by omega, ⟨rfl, rfl, rfl, rfl, rfl, rfl, rfl, rfl, rfl, rfl, trivial⟩, HSub.refl _⟩
                  · replace hc6 := of_decide_eq_false hc6
                    refine C_skip ?_
                    refine C_seq ?_
                    refine C_region ?_
                    refine L_y rfl (y_move rfl) rfl ?_
                    refine L_y rfl (y_move rfl) rfl ?_
                    refine L_y rfl (y_move rfl) rfl ?_
                    refine L_y rfl (y_indexS rfl rfl Try.underlying48 sz_44 (by omega) (by rw [rotT_len c n k m]; omega) (show _ = i * 128 from by simp)) rfl ?_
                    refine L_y rfl (y_indexA rfl rfl Try.underlying44 sz_5 (by omega) (by omega) (show _ = i * 128 + j from by simp)) rfl ?_
                    refine L_y rfl (y_load rfl ag_5 (sees 0 0 rfl) (show _ = some (u8 (rbyte c n k m i j)) from by rw [List.getElem?_append_left (by rw [bs_length, flat_len (rotT_ok c n k m), rotT_len]; omega), bs_get, rotT_at (by omega) (by omega)]; rfl)) rfl ?_
                    refine L_y rfl (y_move rfl) rfl ?_
                    refine L_y rfl (y_nei rfl rfl) rfl ?_
                    refine L_nil ?_
                    refine C_cond rfl (fun hc7 => absurd hc7 (by first | (rw [show rbyte c n k m i j = c ^^^ m from if_pos (by omega)]; simp) | (rw [show rbyte c n k m i j = c from if_neg (by omega)]; simp))) (fun hc7 => ?_)
                    refine C_skip ?_
                    refine C_region ?_
                    refine L_y rfl (y_move rfl) rfl ?_
                    refine L_y rfl (y_add rfl rfl (wi64 (by omega) (by omega))) rfl ?_
                    refine L_y rfl (y_assign rfl) rfl ?_
                    refine L_nil ?_
                    exact ⟨j + 1, by omega, by omega, ⟨rfl, rfl, rfl, rfl, rfl, rfl, rfl, rfl, rfl, rfl, trivial⟩, HSub.refl _⟩
                · have q1 := of_decide_eq_false hg23_7
                  refine L_skip rfl rfl ?_
                  refine L_skip rfl rfl ?_
                  refine L_skip rfl rfl ?_
                  refine L_y rfl (y_pick_f rfl rfl) rfl ?_
                  refine L_nil ?_
                  refine C_cond_f rfl ?_
                  refine C_skip ?_
                  refine C_seq ?_
                  refine C_region ?_
                  refine L_y rfl (y_move rfl) rfl ?_
                  refine L_y rfl (y_move rfl) rfl ?_
                  refine L_y rfl (y_move rfl) rfl ?_
                  refine L_y rfl (y_indexS rfl rfl Try.underlying48 sz_44 (by omega) (by rw [rotT_len c n k m]; omega) (show _ = i * 128 from by simp)) rfl ?_
                  refine L_y rfl (y_indexA rfl rfl Try.underlying44 sz_5 (by omega) (by omega) (show _ = i * 128 + j from by simp)) rfl ?_
                  refine L_y rfl (y_load rfl ag_5 (sees 0 0 rfl) (show _ = some (u8 (rbyte c n k m i j)) from by rw [List.getElem?_append_left (by rw [bs_length, flat_len (rotT_ok c n k m), rotT_len]; omega), bs_get, rotT_at (by omega) (by omega)]; rfl)) rfl ?_
                  refine L_y rfl (y_move rfl) rfl ?_
                  refine L_y rfl (y_nei rfl rfl) rfl ?_
                  refine L_nil ?_
                  refine C_cond rfl (fun hc7 => absurd hc7 (by first | (rw [show rbyte c n k m i j = c ^^^ m from if_pos (by omega)]; simp) | (rw [show rbyte c n k m i j = c from if_neg (by omega)]; simp))) (fun hc7 => ?_)
                  refine C_skip ?_
                  refine C_region ?_
                  refine L_y rfl (y_move rfl) rfl ?_
                  refine L_y rfl (y_add rfl rfl (wi64 (by omega) (by omega))) rfl ?_
                  refine L_y rfl (y_assign rfl) rfl ?_
                  refine L_nil ?_
                  exact ⟨j + 1, by omega, by omega, ⟨rfl, rfl, rfl, rfl, rfl, rfl, rfl, rfl, rfl, rfl, trivial⟩, HSub.refl _⟩
              · replace hc5 := of_decide_eq_false hc5
                refine C_exit ?_
                refine C_region ?_
                refine L_y rfl (y_move rfl) rfl ?_
                refine L_y rfl (y_add rfl rfl (wi64 (by omega) (by omega))) rfl ?_
                refine L_y rfl (y_assign rfl) rfl ?_
                refine L_nil ?_
                exact ⟨i + 1, by omega, by omega, ⟨rfl, rfl, rfl, rfl, rfl, rfl, rfl, rfl, rfl, trivial⟩, HSub.refl _⟩
            · replace hc4 := of_decide_eq_false hc4
              refine C_exit ?_
              refine C_seq ?_
              refine C_region ?_
              refine L_y rfl (y_move rfl) rfl ?_
              refine L_y rfl (y_move rfl) rfl ?_
              refine L_y rfl (y_move rfl) rfl ?_
              refine L_y rfl (y_move rfl) rfl ?_
              refine L_op rfl (op_call rfl rfl (fun a w => Try.call31 a w) rfl ?_)
              refine ((rot_l (H := (_ :: _ :: H)) (L := []) (R := []) hG5 hb5 (n : Int) (k : Int) m).sub (hsub_pick [1, 1, 1, 1, 1] rfl)).mono ?_
              rintro _ _ ⟨rfl, d7, hG7, hb7, ha7, rfl⟩
              have hA7 : d7.a = rotF c := by rw [ha7, hA5] <;> (exact rotG_back hn hk)
              rw [show d5.a.rotE (n : Int) (k : Int) = true from by rw [hA5] <;> (exact rotG_E hn hk)]
              refine ⟨_, rfl, ?_⟩
              refine L_y rfl (y_move rfl) rfl ?_
              refine L_y rfl (y_eqb rfl rfl Try.underlying4) rfl ?_
              refine L_y rfl (y_move rfl) rfl ?_
              refine L_y rfl (y_move rfl) rfl ?_
              refine L_op rfl (op_call rfl rfl (fun a w => Try.call28 a w) rfl ?_)
              refine (dump_l hb7 hG7.dok.1 (sees 0 0 rfl) (sees 1 0 rfl)).mono ?_
              rintro _ _ ⟨g3, hg3, rfl, rfl⟩
              have hS8 : d7.a.S = rotS c := by rw [hA7] <;> (rfl)
              rw [show d7.a.S.length = (rotS c).length from by rw [hS8], hS8] at hg3
              rw [show slSeg _ g3 (bs d7.a.S.flatten) = slSeg _ g3 (bs (rotS c).flatten) from by rw [hS8], show slV g3 d7.a.S.length = slV g3 (rotS c).length from by rw [hS8]]
              cases g3 with
              | none => exact slOk_none hg3 (by rw [rotS_len]; decide)
              | some g3 => ?_
              refine ⟨_, rfl, ?_⟩
              refine L_y rfl (y_move rfl) rfl ?_
              refine L_op rfl (op_call rfl rfl (fun a w => Try.call32 a w) rfl ?_)
              refine (same_s (A := rotS c) (B := rotS c) (rotS_ok c) (rotS_ok c) (holds_slice (sees 0 0 rfl) (by simp) (by simp)) (holds_slice (sees 7 0 rfl) (by simp) (by simp)) (by rw [rotS_len]; decide)).mono ?_
              rintro _ _ ⟨rfl, rfl⟩
              rw [if_pos rfl]
              refine ⟨_, rfl, ?_⟩
              refine L_y rfl (y_eqi rfl rfl) rfl ?_
              refine L_y rfl (y_pick_t rfl rfl) rfl ?_
              refine L_y rfl (y_assign rfl) rfl ?_
              refine L_nil ?_
              refine C_ret ?_
              refine B_ret (rv_tmp rfl rv_nil) (HSub.refl _) ?_
              first | rfl | exact congrArg (fun b => Ending.returned (.bool b)) (by simp)
        · exact absurd (of_decide_eq_false hg11_12) (by omega)
      · exact absurd (of_decide_eq_false hg11_8) (by omega)
    · exact absurd (of_decide_eq_false hg11_4) (by omega)

theorem rots_f {w0 : World} {H : Hp} (n k : Int) (m c : UInt8) (hnk : ¬ (0 ≤ n ∧ n < 6 ∧ 0 ≤ k ∧ k < 128)) : FnS Try.prog w0 6 #[.int .i64 (n : Int), .int .i64 (k : Int), .int .u8 (m.toNat : Int), .int .u8 (c.toNat : Int)] H (fun e H' => e = .returned (.bool true)) := by
  refine FnS_intro (n := 114) (rs := [.tmp 8]) (vs := [.int .i64 (n : Int), .int .i64 (k : Int), .int .u8 (m.toNat : Int), .int .u8 (c.toNat : Int)]) Try.func6 rfl Try.ntmps6 rfl rfl ?_
  refine C_seq ?_
  refine C_region ?_
  refine L_y rfl (y_assign rfl) rfl ?_
  refine L_nil ?_
  refine C_seq ?_
  refine C_seq ?_
  refine C_region ?_
  refine L_op rfl (op_call rfl rfl (fun a w => Try.call20 a w) rfl ?_)
  refine awake08_s.mono ?_
  rintro _ _ ⟨rfl, e⟩
  obtain rfl := e.symm
  refine ⟨_, rfl, ?_⟩
  refine L_y rfl (y_not rfl) rfl ?_
  refine L_nil ?_
  refine C_cond_f rfl ?_
  refine C_skip ?_
  refine C_seq ?_
  refine C_region ?_
  refine L_op rfl (op_call rfl rfl (fun a w => Try.call22 a w) rfl ?_)
  refine (new_ln 6).mono ?_
  rintro _ _ ⟨d1, p1, hG1, ha1, hP1, rfl, rfl⟩
  have hA1 : d1.a = rotA c 0 := by rw [ha1] <;> (rfl)
  have hb1 : d1.b = d1.b := rfl
  refine ⟨_, rfl, ?_⟩
  refine L_y rfl (y_assign rfl) rfl ?_
  refine L_nil ?_
  refine C_seq ?_
  refine C_seq ?_
  refine C_region ?_
  refine L_y rfl (y_assign rfl) rfl ?_
  refine L_nil ?_
  refine C_block ?_
  refine C_loop (ι := Dv × Pw × Nat) (fun i => [(0, .int .i64 (n : Int)), (1, .int .i64 (k : Int)), (2, .int .u8 (m.toNat : Int)), (3, .int .u8 (c.toNat : Int)), (9, ptr d1.b), (10, .int .i64 (i.2.2 : Int))]) (fun i => i.1.o dt :: i.1.t dt :: i.1.q dt :: i.2.1.o dt :: i.2.1.q dt :: H) (fun i => GOk dt i.2.1 [] i.1 [] ∧ i.1.b = d1.b ∧ i.2.1.b = p1.b ∧ i.1.a = rotA c i.2.2 ∧ i.2.1.a = q0 ∧ i.2.2 ≤ 6) (fun i => 6 - i.2.2) (d1, p1, 0) ⟨hG1, hb1, rfl, hA1, hP1, Nat.zero_le _⟩ ⟨rfl, rfl, rfl, rfl, rfl, rfl, trivial⟩ (HSub.refl _) (fun i hi => ?_)
  obtain ⟨d, p, i⟩ := i
  obtain ⟨hG, hb, pb, hA, hP, hi⟩ := hi
  simp only at hG hb pb hA hP hi
  dsimp only
  refine C_seq ?_
  refine C_seq ?_
  refine C_region ?_
  refine L_y rfl (y_move rfl) rfl ?_
  refine L_y rfl (y_lss rfl rfl) rfl ?_
  refine L_nil ?_
  refine C_cond rfl (fun hc1 => ?_) (fun hc1 => ?_)
  · replace hc1 := of_decide_eq_true hc1
    refine C_skip ?_
    refine C_seq ?_
    refine C_block ?_
    refine C_region ?_
    refine L_y rfl (y_move rfl) rfl ?_
    refine L_y rfl (y_move rfl) rfl ?_
    refine L_y rfl (y_move rfl) rfl ?_
    refine L_op rfl (op_call rfl rfl (fun a w => Try.call25 a w) rfl ?_)
    refine (sector_s c).mono ?_
    rintro _ _ ⟨rfl, rfl⟩
    refine ⟨_, rfl, ?_⟩
    refine L_op rfl (op_call rfl rfl (fun a w => Try.call24 a w) rfl ?_)
    refine ((write_1 (H := (H)) hG hb (i : Int) (secOf c) (secOf_len _) (by rw [hA]; simp only [rotA, rq_len]; omega)).sub (hsub_pick [0, 0, 0, 0, 0] rfl)).mono ?_
    rintro _ _ ⟨rfl, d2, p2, hG2, hb2, ha2, hpb2, hq2, rfl⟩
    have hA2 : d2.a = rotA c (i + 1) := by rw [ha2, hA, hP] <;> (exact (rotA_write (by omega)).1)
    have hP2 : p2.a = q0 := by rw [hq2, hA, hP] <;> (exact (rotA_write (by omega)).2)
    have pb2 := hpb2.trans pb
    refine ⟨_, rfl, ?_⟩
    refine L_nil ?_
    refine C_region ?_
    refine L_y rfl (y_move rfl) rfl ?_
    refine L_y rfl (y_add rfl rfl (wi64 (by omega) (by omega))) rfl ?_
    refine L_y rfl (y_assign rfl) rfl ?_
    refine L_nil ?_
    exact ⟨(d2, p2, i + 1), ⟨hG2, hb2, pb2, hA2, hP2, by simp only; omega⟩, by simp only; omega, ⟨rfl, rfl, rfl, rfl, rfl, rfl, trivial⟩, HSub.refl _⟩
  · replace hc1 := of_decide_eq_false hc1
    refine C_exit ?_
    refine C_seq ?_
    obtain rfl : i = 6 := by omega
    refine C_region ?_
    refine L_y rfl (y_move rfl) rfl ?_
    refine L_op rfl (op_call rfl rfl (fun a w => Try.call27 a w) rfl ?_)
    refine ((flush_1 (H := (H)) hG hb).sub (hsub_pick [0, 0, 0, 0, 0] rfl)).mono ?_
    rintro _ _ ⟨rfl, d3, p3, hG3, hb3, ha3, hpb3, hq3, rfl⟩
    have hA3 : d3.a = rotF c := by rw [ha3, hA, hP] <;> (exact (rot_flush c).1)
    have hP3 : p3.a = q0 := by rw [hq3, hA, hP] <;> (exact (rot_flush c).2)
    have pb3 := hpb3.trans pb
    refine ⟨_, rfl, ?_⟩
    refine L_nil ?_
    refine C_seq ?_
    refine C_region ?_
    refine L_y rfl (y_move rfl) rfl ?_
    refine L_op rfl (op_call rfl rfl (fun a w => Try.call28 a w) rfl ?_)
    refine (dump_l hb3 hG3.dok.1 (sees 0 0 rfl) (sees 1 0 rfl)).mono ?_
    rintro _ _ ⟨g, hg, rfl, rfl⟩
    have hS4 : d3.a.S = rotS c := by rw [hA3] <;> (rfl)
    rw [show d3.a.S.length = (rotS c).length from by rw [hS4], hS4] at hg
    rw [show slSeg _ g (bs d3.a.S.flatten) = slSeg _ g (bs (rotS c).flatten) from by rw [hS4], show slV g d3.a.S.length = slV g (rotS c).length from by rw [hS4]]
    cases g with
    | none => exact slOk_none hg (by rw [rotS_len]; decide)
    | some g => ?_
    refine ⟨_, rfl, ?_⟩
    refine L_y rfl (y_assign rfl) rfl ?_
    refine L_nil ?_
    refine C_seq ?_
    refine C_region ?_
    refine L_y rfl (y_move rfl) rfl ?_
    refine L_y rfl (y_move rfl) rfl ?_
    refine L_y rfl (y_move rfl) rfl ?_
    refine L_y rfl (y_move rfl) rfl ?_
    refine L_op rfl (op_call rfl rfl (fun a w => Try.call31 a w) rfl ?_)
    refine ((rot_l (H := (_ :: H)) (L := []) (R := []) hG3 hb3 (n : Int) (k : Int) m).sub (hsub_pick [1, 1, 1, 1, 1] rfl)).mono ?_
    rintro _ _ ⟨rfl, d5, hG5, hb5, ha5, rfl⟩
    have hA5 : d5.a = rotF c := by rw [ha5, hA3] <;> (exact rots_out hnk)
    rw [show d3.a.rotE (n : Int) (k : Int) = false from by rw [hA3] <;> (exact rotE_out hnk)]
    refine ⟨_, rfl, ?_⟩
    refine L_y rfl (y_assign rfl) rfl ?_
    refine L_nil ?_
    refine C_seq ?_
    refine C_seq ?_
    refine C_region ?_
    refine L_y rfl (y_move rfl) rfl ?_
    refine L_y rfl (y_move rfl) rfl ?_
    refine L_y rfl (y_geq rfl rfl) rfl ?_
    refine L_y rfl (y_move rfl) rfl ?_
    refine L_case 41 rfl (fun hg11_4 => ?_) (fun hg11_4 => ?_)
    · have q1 := of_decide_eq_true hg11_4
      refine L_y rfl (y_move rfl) rfl ?_
      refine L_y rfl (y_lss rfl rfl) rfl ?_
      refine L_y rfl (y_pick_t rfl rfl) rfl ?_
      refine L_y rfl (y_move rfl) rfl ?_
      refine L_case 45 rfl (fun hg11_8 => ?_) (fun hg11_8 => ?_)
      · have q2 := of_decide_eq_true hg11_8
        refine L_y rfl (y_move rfl) rfl ?_
        refine L_y rfl (y_geq rfl rfl) rfl ?_
        refine L_y rfl (y_pick_t rfl rfl) rfl ?_
        refine L_y rfl (y_move rfl) rfl ?_
        refine L_case 49 rfl (fun hg11_12 => ?_) (fun hg11_12 => ?_)
        · have q3 := of_decide_eq_true hg11_12
          refine L_y rfl (y_move rfl) rfl ?_
          refine L_y rfl (y_lss rfl rfl) rfl ?_
          refine L_y rfl (y_pick_t rfl rfl) rfl ?_
          refine L_y rfl (y_neb rfl rfl Try.underlying4) rfl ?_
          refine L_y rfl (y_move rfl) rfl ?_
          refine L_case 54 rfl (fun hg11_17 => ?_) (fun hg11_17 => ?_)
          · exact absurd hg11_17 (by first | decide | (simp; omega))
          · skip
            refine L_y rfl (y_move rfl) rfl ?_
            refine L_y rfl (y_lenS rfl rfl Try.underlying48) rfl ?_
            refine L_y rfl (y_nei rfl rfl) rfl ?_
            refine L_y rfl (y_pick_f rfl rfl) rfl ?_
            refine L_nil ?_
            refine C_cond rfl (fun hc2 => absurd hc2 (by rw [rotS_len]; decide)) (fun hc2 => ?_)
            refine C_skip ?_
            refine C_seq ?_
            refine C_region ?_
            refine L_y rfl (y_move rfl) rfl ?_
            refine L_op rfl (op_call rfl rfl (fun a w => Try.call28 a w) rfl ?_)
            refine (dump_l hb5 hG5.dok.1 (sees 0 0 rfl) (sees 1 0 rfl)).mono ?_
            rintro _ _ ⟨g2, hg2, rfl, rfl⟩
            have hS6 : d5.a.S = rotS c := by rw [hA5] <;> (rfl)
            rw [show d5.a.S.length = (rotS c).length from by rw [hS6], hS6] at hg2
            rw [show slSeg _ g2 (bs d5.a.S.flatten) = slSeg _ g2 (bs (rotS c).flatten) from by rw [hS6], show slV g2 d5.a.S.length = slV g2 (rotS c).length from by rw [hS6]]
            cases g2 with
            | none => exact slOk_none hg2 (by rw [rotS_len c]; decide)
            | some g2 => ?_
            refine ⟨_, rfl, ?_⟩
            refine L_y rfl (y_assign rfl) rfl ?_
            refine L_nil ?_
            refine C_seq ?_
            refine C_seq ?_
            refine C_region ?_
            refine L_y rfl (y_move rfl) rfl ?_
            refine L_y rfl (y_lenS rfl rfl Try.underlying48) rfl ?_
            refine L_y rfl (y_nei rfl rfl) rfl ?_
            refine L_nil ?_
            refine C_cond rfl (fun hc3 => absurd hc3 (by rw [rotS_len c]; decide)) (fun hc3 => ?_)
            refine C_skip ?_
            refine C_seq ?_
            refine C_seq ?_
            refine C_region ?_
            refine L_y rfl (y_assign rfl) rfl ?_
            refine L_nil ?_
            refine C_block ?_
            refine C_loop (ι := Nat) (fun i => [(0, .int .i64 (n : Int)), (1, .int .i64 (k : Int)), (2, .int .u8 (m.toNat : Int)), (3, .int .u8 (c.toNat : Int)), (9, ptr d1.b), (11, slV (some g) (rotS c).length), (12, .bool false), (13, slV (some g2) (rotS c).length), (14, .int .i64 (i : Int))]) (fun i => slSeg 44 (some g2) (bs (rotS c).flatten) :: d5.o dt :: d5.t dt :: d5.q dt :: p3.o dt :: p3.q dt :: slSeg 44 (some g) (bs (rotS c).flatten) :: H) (fun i => i ≤ 6) (fun i => 6 - i) 0 (Nat.zero_le _) ⟨rfl, rfl, rfl, rfl, rfl, rfl, rfl, rfl, rfl, trivial⟩ (HSub.refl _) (fun i hi => ?_)
            skip
            refine C_seq ?_
            refine C_seq ?_
            refine C_region ?_
            refine L_y rfl (y_move rfl) rfl ?_
            refine L_y rfl (y_lss rfl rfl) rfl ?_
            refine L_nil ?_
            refine C_cond rfl (fun hc4 => ?_) (fun hc4 => ?_)
            · replace hc4 := of_decide_eq_true hc4
              refine C_skip ?_
              refine C_seq ?_
              refine C_block ?_
              refine C_seq ?_
              refine C_region ?_
              refine L_y rfl (y_assign rfl) rfl ?_
              refine L_nil ?_
              refine C_block ?_
              refine C_loop (ι := Nat) (fun j => [(15, .int .i64 (j : Int)), (0, .int .i64 (n : Int)), (1, .int .i64 (k : Int)), (2, .int .u8 (m.toNat : Int)), (3, .int .u8 (c.toNat : Int)), (9, ptr d1.b), (11, slV (some g) (rotS c).length), (12, .bool false), (13, slV (some g2) (rotS c).length), (14, .int .i64 (i : Int))]) (fun j => slSeg 44 (some g2) (bs (rotS c).flatten) :: d5.o dt :: d5.t dt :: d5.q dt :: p3.o dt :: p3.q dt :: slSeg 44 (some g) (bs (rotS c).flatten) :: H) (fun j => j ≤ 128) (fun j => 128 - j) 0 (Nat.zero_le _) ⟨rfl, rfl, rfl, rfl, rfl, rfl, rfl, rfl, rfl, rfl, trivial⟩ (HSub.refl _) (fun j hj => ?_)
              skip
              refine C_seq ?_
              refine C_seq ?_
              refine C_region ?_
              refine L_y rfl (y_move rfl) rfl ?_
              refine L_y rfl (y_lss rfl rfl) rfl ?_
              refine L_nil ?_
              refine C_cond rfl (fun hc5 => ?_) (fun hc5 => ?_)
              · replace hc5 := of_decide_eq_true hc5
                refine C_skip ?_
                refine C_seq ?_
                refine C_block ?_
                refine C_seq ?_
                refine C_region ?_
                refine L_y rfl (y_move rfl) rfl ?_
                refine L_y rfl (y_move rfl) rfl ?_
                refine L_y rfl (y_move rfl) rfl ?_
                refine L_y rfl (y_indexS rfl rfl Try.underlying48 sz_44 (by omega) (by rw [rotS_len]; omega) (show _ = i * 128 from by simp)) rfl ?_
                refine L_y rfl (y_indexA rfl rfl Try.underlying44 sz_5 (by omega) (by omega) (show _ = i * 128 + j from by simp)) rfl ?_
                refine L_y rfl (y_load rfl ag_5 (sees 6 0 rfl) (show _ = some (u8 c) from by rw [List.getElem?_append_left (by rw [bs_length, flat_len (rotS_ok c), rotS_len]; omega), bs_get, rotS_at (by omega) (by omega)]; rfl)) rfl ?_
                refine L_y rfl (y_assign rfl) rfl ?_
                refine L_nil ?_
                refine C_seq ?_
                refine C_seq ?_
                refine C_region ?_
                refine L_y rfl (y_move rfl) rfl ?_
                refine L_y rfl (y_move rfl) rfl ?_
                refine L_skip rfl rfl ?_
                refine L_skip rfl rfl ?_
                refine L_skip rfl rfl ?_
                refine L_y rfl (y_pick_f rfl rfl) rfl ?_
                refine L_y rfl (y_move rfl) rfl ?_
                refine L_skip rfl rfl ?_
                refine L_skip rfl rfl ?_
                refine L_skip rfl rfl ?_
                refine L_y rfl (y_pick_f rfl rfl) rfl ?_
                refine L_nil ?_
                refine C_cond_f rfl ?_
                refine C_skip ?_
                refine C_seq ?_
                refine C_region ?_
                refine L_y rfl (y_move rfl) rfl ?_
                refine L_y rfl (y_move rfl) rfl ?_
                refine L_y rfl (y_move rfl) rfl ?_
                refine L_y rfl (y_indexS rfl rfl Try.underlying48 sz_44 (by omega) (by rw [rotS_len c]; omega) (show _ = i * 128 from by simp)) rfl ?_
                refine L_y rfl (y_indexA rfl rfl Try.underlying44 sz_5 (by omega) (by omega) (show _ = i * 128 + j from by simp)) rfl ?_
                refine L_y rfl (y_load rfl ag_5 (sees 0 0 rfl) (show _ = some (u8 c) from by rw [List.getElem?_append_left (by rw [bs_length, flat_len (rotS_ok c), rotS_len]; omega), bs_get, rotS_at (by omega) (by omega)]; rfl)) rfl ?_
                refine L_y rfl (y_move rfl) rfl ?_
                refine L_y rfl (y_nei rfl rfl) rfl ?_
                refine L_nil ?_
                refine C_cond rfl (fun hc7 => absurd hc7 (by simp)) (fun hc7 => ?_)
                refine C_skip ?_
                refine C_region ?_
                refine L_y rfl (y_move rfl) rfl ?_
                refine L_y rfl (y_add rfl rfl (wi64 (by omega) (by omega))) rfl ?_
                refine L_y rfl (y_assign rfl) rfl ?_
                refine L_nil ?_
                exact ⟨j + 1, by omega, by omega, ⟨rfl, rfl, rfl, rfl, rfl, rfl, rfl, rfl, rfl, rfl, trivial⟩, HSub.refl _⟩
              · replace hc5 := of_decide_eq_false hc5
                refine C_exit ?_
                refine C_region ?_
                refine L_y rfl (y_move rfl) rfl ?_
                refine L_y rfl (y_add rfl rfl (wi64 (by omega) (by omega))) rfl ?_
                refine L_y rfl (y_assign rfl) rfl ?_
                refine L_nil ?_
                exact ⟨i + 1, by omega, by omega, ⟨rfl, rfl, rfl, rfl, rfl, rfl, rfl, rfl, rfl, trivial⟩, HSub.refl _⟩
            · replace hc4 := of_decide_eq_false hc4
              refine C_exit ?_
              refine C_seq ?_
              refine C_region ?_
              refine L_y rfl (y_move rfl) rfl ?_
              refine L_y rfl (y_move rfl) rfl ?_
              refine L_y rfl (y_move rfl) rfl ?_
              refine L_y rfl (y_move rfl) rfl ?_
              refine L_op rfl (op_call rfl rfl (fun a w => Try.call31 a w) rfl ?_)
              refine ((rot_l (H := (_ :: _ :: H)) (L := []) (R := []) hG5 hb5 (n : Int) (k : Int) m).sub (hsub_pick [1, 1, 1, 1, 1] rfl)).mono ?_
              rintro _ _ ⟨rfl, d7, hG7, hb7, ha7, rfl⟩
              have hA7 : d7.a = rotF c := by rw [ha7, hA5] <;> (exact rots_out hnk)
              rw [show d5.a.rotE (n : Int) (k : Int) = false from by rw [hA5] <;> (exact rotE_out hnk)]
              refine ⟨_, rfl, ?_⟩
              refine L_y rfl (y_move rfl) rfl ?_
              refine L_y rfl (y_eqb rfl rfl Try.underlying4) rfl ?_
              refine L_y rfl (y_move rfl) rfl ?_
              refine L_y rfl (y_move rfl) rfl ?_
              refine L_op rfl (op_call rfl rfl (fun a w => Try.call28 a w) rfl ?_)
              refine (dump_l hb7 hG7.dok.1 (sees 0 0 rfl) (sees 1 0 rfl)).mono ?_
              rintro _ _ ⟨g3, hg3, rfl, rfl⟩
              have hS8 : d7.a.S = rotS c := by rw [hA7] <;> (rfl)
              rw [show d7.a.S.length = (rotS c).length from by rw [hS8], hS8] at hg3
              rw [show slSeg _ g3 (bs d7.a.S.flatten) = slSeg _ g3 (bs (rotS c).flatten) from by rw [hS8], show slV g3 d7.a.S.length = slV g3 (rotS c).length from by rw [hS8]]
              cases g3 with
              | none => exact slOk_none hg3 (by rw [rotS_len]; decide)
              | some g3 => ?_
              refine ⟨_, rfl, ?_⟩
              refine L_y rfl (y_move rfl) rfl ?_
              refine L_op rfl (op_call rfl rfl (fun a w => Try.call32 a w) rfl ?_)
              refine (same_s (A := rotS c) (B := rotS c) (rotS_ok c) (rotS_ok c) (holds_slice (sees 0 0 rfl) (by simp) (by simp)) (holds_slice (sees 7 0 rfl) (by simp) (by simp)) (by rw [rotS_len]; decide)).mono ?_
              rintro _ _ ⟨rfl, rfl⟩
              rw [if_pos rfl]
              refine ⟨_, rfl, ?_⟩
              refine L_y rfl (y_eqi rfl rfl) rfl ?_
              refine L_y rfl (y_pick_t rfl rfl) rfl ?_
              refine L_y rfl (y_assign rfl) rfl ?_
              refine L_nil ?_
              refine C_ret ?_
              refine B_ret (rv_tmp rfl rv_nil) (HSub.refl _) ?_
              first | rfl | exact congrArg (fun b => Ending.returned (.bool b)) (by simp)
        · have q3 := of_decide_eq_false hg11_12
          refine L_skip rfl rfl ?_
          refine L_skip rfl rfl ?_
          refine L_y rfl (y_pick_f rfl rfl) rfl ?_
          refine L_y rfl (y_neb rfl rfl Try.underlying4) rfl ?_
          refine L_y rfl (y_move rfl) rfl ?_
          refine L_case 54 rfl (fun hg11_17 => ?_) (fun hg11_17 => ?_)
          · exact absurd hg11_17 (by first | decide | (simp; omega))
          · skip
            refine L_y rfl (y_move rfl) rfl ?_
            refine L_y rfl (y_lenS rfl rfl Try.underlying48) rfl ?_
            refine L_y rfl (y_nei rfl rfl) rfl ?_
            refine L_y rfl (y_pick_f rfl rfl) rfl ?_
            refine L_nil ?_
            refine C_cond rfl (fun hc2 => absurd hc2 (by rw [rotS_len]; decide)) (fun hc2 => ?_)
            refine C_skip ?_
            refine C_seq ?_
            refine C_region ?_
            refine L_y rfl (y_move rfl) rfl ?_
            refine L_op rfl (op_call rfl rfl (fun a w => Try.call28 a w) rfl ?_)
            refine (dump_l hb5 hG5.dok.1 (sees 0 0 rfl) (sees 1 0 rfl)).mono ?_
            rintro _ _ ⟨g2, hg2, rfl, rfl⟩
            have hS9 : d5.a.S = rotS c := by rw [hA5] <;> (rfl)
            rw [show d5.a.S.length = (rotS c).length from by rw [hS9], hS9] at hg2
            rw [show slSeg _ g2 (bs d5.a.S.flatten) = slSeg _ g2 (bs (rotS c).flatten) from by rw [hS9], show slV g2 d5.a.S.length = slV g2 (rotS c).length from by rw [hS9]]
            cases g2 with
            | none => exact slOk_none hg2 (by rw [rotS_len c]; decide)
            | some g2 => ?_
            refine ⟨_, rfl, ?_⟩
            refine L_y rfl (y_assign rfl) rfl ?_
            refine L_nil ?_
            refine C_seq ?_
            refine C_seq ?_
            refine C_region ?_
            refine L_y rfl (y_move rfl) rfl ?_
            refine L_y rfl (y_lenS rfl rfl Try.underlying48) rfl ?_
            refine L_y rfl (y_nei rfl rfl) rfl ?_
            refine L_nil ?_
            refine C_cond rfl (fun hc3 => absurd hc3 (by rw [rotS_len c]; decide)) (fun hc3 => ?_)
            refine C_skip ?_
            refine C_seq ?_
            refine C_seq ?_
            refine C_region ?_
            refine L_y rfl (y_assign rfl) rfl ?_
            refine L_nil ?_
            refine C_block ?_
            refine C_loop (ι := Nat) (fun i => [(0, .int .i64 (n : Int)), (1, .int .i64 (k : Int)), (2, .int .u8 (m.toNat : Int)), (3, .int .u8 (c.toNat : Int)), (9, ptr d1.b), (11, slV (some g) (rotS c).length), (12, .bool false), (13, slV (some g2) (rotS c).length), (14, .int .i64 (i : Int))]) (fun i => slSeg 44 (some g2) (bs (rotS c).flatten) :: d5.o dt :: d5.t dt :: d5.q dt :: p3.o dt :: p3.q dt :: slSeg 44 (some g) (bs (rotS c).flatten) :: H) (fun i => i ≤ 6) (fun i => 6 - i) 0 (Nat.zero_le _) ⟨rfl, rfl, rfl, rfl, rfl, rfl, rfl, rfl, rfl, trivial⟩ (HSub.refl _) (fun i hi => ?_)
            skip
            refine C_seq ?_
            refine C_seq ?_
            refine C_region ?_
            refine L_y rfl (y_move rfl) rfl ?_
            refine L_y rfl (y_lss rfl rfl) rfl ?_
            refine L_nil ?_
            refine C_cond rfl (fun hc4 => ?_) (fun hc4 => ?_)
            · replace hc4 := of_decide_eq_true hc4
              refine C_skip ?_
              refine C_seq ?_
              refine C_block ?_
              refine C_seq ?_
              refine C_region ?_
              refine L_y rfl (y_assign rfl) rfl ?_
              refine L_nil ?_
              refine C_block ?_
              refine C_loop (ι := Nat) (fun j => [(15, .int .i64 (j : Int)), (0, .int .i64 (n : Int)), (1, .int .i64 (k : Int)), (2, .int .u8 (m.toNat : Int)), (3, .int .u8 (c.toNat : Int)), (9, ptr d1.b), (11, slV (some g) (rotS c).length), (12, .bool false), (13, slV (some g2) (rotS c).length), (14, .int .i64 (i : Int))]) (fun j => slSeg 44 (some g2) (bs (rotS c).flatten) :: d5.o dt :: d5.t dt :: d5.q dt :: p3.o dt :: p3.q dt :: slSeg 44 (some g) (bs (rotS c).flatten) :: H) (fun j => j ≤ 128) (fun j => 128 - j) 0 (Nat.zero_le _) ⟨rfl, rfl, rfl, rfl, rfl, rfl, rfl, rfl, rfl, rfl, trivial⟩ (HSub.refl _) (fun j hj => ?_)
              skip
              refine C_seq ?_
              refine C_seq ?_
              refine C_region ?_
              refine L_y rfl (y_move rfl) rfl ?_
              refine L_y rfl (y_lss rfl rfl) rfl ?_
              refine L_nil ?_
              refine C_cond rfl (fun hc5 => ?_) (fun hc5 => ?_)
              · replace hc5 := of_decide_eq_true hc5
                refine C_skip ?_
                refine C_seq ?_
                refine C_block ?_
                refine C_seq ?_
                refine C_region ?_
                refine L_y rfl (y_move rfl) rfl ?_
                refine L_y rfl (y_move rfl) rfl ?_
                refine L_y rfl (y_move rfl) rfl ?_
                refine L_y rfl (y_indexS rfl rfl Try.underlying48 sz_44 (by omega) (by rw [rotS_len]; omega) (show _ = i * 128 from by simp)) rfl ?_
                refine L_y rfl (y_indexA rfl rfl Try.underlying44 sz_5 (by omega) (by omega) (show _ = i * 128 + j from by simp)) rfl ?_
                refine L_y rfl (y_load rfl ag_5 (sees 6 0 rfl) (show _ = some (u8 c) from by rw [List.getElem?_append_left (by rw [bs_length, flat_len (rotS_ok c), rotS_len]; omega), bs_get, rotS_at (by omega) (by omega)]; rfl)) rfl ?_
                refine L_y rfl (y_assign rfl) rfl ?_
                refine L_nil ?_
                refine C_seq ?_
                refine C_seq ?_
                refine C_region ?_
                refine L_y rfl (y_move rfl) rfl ?_
                refine L_y rfl (y_move rfl) rfl ?_
                refine L_skip rfl rfl ?_
                refine L_skip rfl rfl ?_
                refine L_skip rfl rfl ?_
                refine L_y rfl (y_pick_f rfl rfl) rfl ?_
                refine L_y rfl (y_move rfl) rfl ?_
                refine L_skip rfl rfl ?_
                refine L_skip rfl rfl ?_
                refine L_skip rfl rfl ?_
                refine L_y rfl (y_pick_f rfl rfl) rfl ?_
                refine L_nil ?_
                refine C_cond_f rfl ?_
                refine C_skip ?_
                refine C_seq ?_
                refine C_region ?_
                refine L_y rfl (y_move rfl) rfl ?_
                refine L_y rfl (y_move rfl) rfl ?_
                refine L_y rfl (y_move rfl) rfl ?_
                refine L_y rfl (y_indexS rfl rfl Try.underlying48 sz_44 (by omega) (by rw [rotS_len c]; omega) (show _ = i * 128 from by simp)) rfl ?_
                refine L_y rfl (y_indexA rfl rfl Try.underlying44 sz_5 (by omega) (by omega) (show _ = i * 128 + j from by simp)) rfl ?_
                refine L_y rfl (y_load rfl ag_5 (sees 0 0 rfl) (show _ = some (u8 c) from by rw [List.getElem?_append_left (by rw [bs_length, flat_len (rotS_ok c), rotS_len]; omega), bs_get, rotS_at (by omega) (by omega)]; rfl)) rfl ?_
                refine L_y rfl (y_move rfl) rfl ?_
                refine L_y rfl (y_nei rfl rfl) rfl ?_
                refine L_nil ?_
                refine C_cond rfl (fun hc7 => absurd hc7 (by simp)) (fun hc7 => ?_)
                refine C_skip ?_
                refine C_region ?_
                refine L_y rfl (y_move rfl) rfl ?_
                refine L_y rfl (y_add rfl rfl (wi64 (by omega) (by omega))) rfl ?_
                refine L_y rfl (y_assign rfl) rfl ?_
                refine L_nil ?_
                exact ⟨j + 1, by omega, by omega, ⟨rfl, rfl, rfl, rfl, rfl, rfl, rfl, rfl, rfl, rfl, trivial⟩, HSub.refl _⟩
              · replace hc5 := of_decide_eq_false hc5
                refine C_exit ?_
                refine C_region ?_
                refine L_y rfl (y_move rfl) rfl ?_
                refine L_y rfl (y_add rfl rfl (wi64 (by omega) (by omega))) rfl ?_
                refine L_y rfl (y_assign rfl) rfl ?_
                refine L_nil ?_
                exact ⟨i + 1, by omega, by omega, ⟨rfl, rfl, rfl, rfl, rfl, rfl, rfl, rfl, rfl, trivial⟩, HSub.refl _⟩
            · replace hc4 := of_decide_eq_false hc4
              refine C_exit ?_
              refine C_seq ?_
              refine C_region ?_
              refine L_y rfl (y_move rfl) rfl ?_
              refine L_y rfl (y_move rfl) rfl ?_
              refine L_y rfl (y_move rfl) rfl ?_
              refine L_y rfl (y_move rfl) rfl ?_
              refine L_op rfl (op_call rfl rfl (fun a w => Try.call31 a w) rfl ?_)
              refine ((rot_l (H := (_ :: _ :: H)) (L := []) (R := []) hG5 hb5 (n : Int) (k : Int) m).sub (hsub_pick [1, 1, 1, 1, 1] rfl)).mono ?_
              rintro _ _ ⟨rfl, d10, hG10, hb10, ha10, rfl⟩
              have hA10 : d10.a = rotF c := by rw [ha10, hA5] <;> (exact rots_out hnk)
              rw [show d5.a.rotE (n : Int) (k : Int) = false from by rw [hA5] <;> (exact rotE_out hnk)]
              refine ⟨_, rfl, ?_⟩
              refine L_y rfl (y_move rfl) rfl ?_
              refine L_y rfl (y_eqb rfl rfl Try.underlying4) rfl ?_
              refine L_y rfl (y_move rfl) rfl ?_
              refine L_y rfl (y_move rfl) rfl ?_
              refine L_op rfl (op_call rfl rfl (fun a w => Try.call28 a w) rfl ?_)
              refine (dump_l hb10 hG10.dok.1 (sees 0 0 rfl) (sees 1 0 rfl)).mono ?_
              rintro _ _ ⟨g3, hg3, rfl, rfl⟩
              have hS11 : d10.a.S = rotS c := by rw [hA10] <;> (rfl)
              rw [show d10.a.S.length = (rotS c).length from by rw [hS11], hS11] at hg3
              rw [show slSeg _ g3 (bs d10.a.S.flatten) = slSeg _ g3 (bs (rotS c).flatten) from by rw [hS11], show slV g3 d10.a.S.length = slV g3 (rotS c).length from by rw [hS11]]
              cases g3 with
              | none => exact slOk_none hg3 (by rw [rotS_len]; decide)
              | some g3 => ?_
              refine ⟨_, rfl, ?_⟩
              refine L_y rfl (y_move rfl) rfl ?_
              refine L_op rfl (op_call rfl rfl (fun a w => Try.call32 a w) rfl ?_)
              refine (same_s (A := rotS c) (B := rotS c) (rotS_ok c) (rotS_ok c) (holds_slice (sees 0 0 rfl) (by simp) (by simp)) (holds_slice (sees 7 0 rfl) (by simp) (by simp)) (by rw [rotS_len]; decide)).mono ?_
              rintro _ _ ⟨rfl, rfl⟩
              rw [if_pos rfl]
              refine ⟨_, rfl, ?_⟩
              refine L_y rfl (y_eqi rfl rfl) rfl ?_
              refine L_y rfl (y_pick_t rfl rfl) rfl ?_
              refine L_y rfl (y_assign rfl) rfl ?_
              refine L_nil ?_
              refine C_ret ?_
              refine B_ret (rv_tmp rfl rv_nil) (HSub.refl _) ?_
              first | rfl | exact congrArg (fun b => Ending.returned (.bool b)) (by simp)
      · have q2 := of_decide_eq_false hg11_8
        refine L_skip rfl rfl ?_
        refine L_skip rfl rfl ?_
        refine L_y rfl (y_pick_f rfl rfl) rfl ?_
        refine L_y rfl (y_move rfl) rfl ?_
        refine L_skip rfl rfl ?_
        refine L_skip rfl rfl ?_
        refine L_y rfl (y_pick_f rfl rfl) rfl ?_
        refine L_y rfl (y_neb rfl rfl Try.underlying4) rfl ?_
        refine L_y rfl (y_move rfl) rfl ?_
        refine L_case 54 rfl (fun hg11_17 => ?_) (fun hg11_17 => ?_)
        · exact absurd hg11_17 (by first | decide | (simp; omega))
        · skip
          refine L_y rfl (y_move rfl) rfl ?_
          refine L_y rfl (y_lenS rfl rfl Try.underlying48) rfl ?_
          refine L_y rfl (y_nei rfl rfl) rfl ?_
          refine L_y rfl (y_pick_f rfl rfl) rfl ?_
          refine L_nil ?_
          refine C_cond rfl (fun hc2 => absurd hc2 (by rw [rotS_len]; decide)) (fun hc2 => ?_)
          refine C_skip ?_
          refine C_seq ?_
          refine C_region ?_
          refine L_y rfl (y_move rfl) rfl ?_
          refine L_op rfl (op_call rfl rfl (fun a w => Try.call28 a w) rfl ?_)
          refine (dump_l hb5 hG5.dok.1 (sees 0 0 rfl) (sees 1 0 rfl)).mono ?_
          rintro _ _ ⟨g2, hg2, rfl, rfl⟩
          have hS12 : d5.a.S = rotS c := by rw [hA5] <;> (rfl)
          rw [show d5.a.S.length = (rotS c).length from by rw [hS12], hS12] at hg2
          rw [show slSeg _ g2 (bs d5.a.S.flatten) = slSeg _ g2 (bs (rotS c).flatten) from by rw [hS12], show slV g2 d5.a.S.length = slV g2 (rotS c).length from by rw [hS12]]
          cases g2 with
          | none => exact slOk_none hg2 (by rw [rotS_len c]; decide)
          | some g2 => ?_
          refine ⟨_, rfl, ?_⟩
          refine L_y rfl (y_assign rfl) rfl ?_
          refine L_nil ?_
          refine C_seq ?_
          refine C_seq ?_
          refine C_region ?_
          refine L_y rfl (y_move rfl) rfl ?_
          refine L_y rfl (y_lenS rfl rfl Try.underlying48) rfl ?_
          refine L_y rfl (y_nei rfl rfl) rfl ?_
          refine L_nil ?_
          refine C_cond rfl (fun hc3 => absurd hc3 (by rw [rotS_len c]; decide)) (fun hc3 => ?_)
          refine C_skip ?_
          refine C_seq ?_
          refine C_seq ?_
          refine C_region ?_
          refine L_y rfl (y_assign rfl) rfl ?_
          refine L_nil ?_
          refine C_block ?_
          refine C_loop (ι := Nat) (fun i => [(0, .int .i64 (n : Int)), (1, .int .i64 (k : Int)), (2, .int .u8 (m.toNat : Int)), (3, .int .u8 (c.toNat : Int)), (9, ptr d1.b), (11, slV (some g) (rotS c).length), (12, .bool false), (13, slV (some g2) (rotS c).length), (14, .int .i64 (i : Int))]) (fun i => slSeg 44 (some g2) (bs (rotS c).flatten) :: d5.o dt :: d5.t dt :: d5.q dt :: p3.o dt :: p3.q dt :: slSeg 44 (some g) (bs (rotS c).flatten) :: H) (fun i => i ≤ 6) (fun i => 6 - i) 0 (Nat.zero_le _) ⟨rfl, rfl, rfl, rfl, rfl, rfl, rfl, rfl, rfl, trivial⟩ (HSub.refl _) (fun i hi => ?_)
          skip
          refine C_seq ?_
          refine C_seq ?_
          refine C_region ?_
          refine L_y rfl (y_move rfl) rfl ?_
          refine L_y rfl (y_lss rfl rfl) rfl ?_
          refine L_nil ?_
          refine C_cond rfl (fun hc4 => ?_) (fun hc4 => ?_)
          · replace hc4 := of_decide_eq_true hc4
            refine C_skip ?_
            refine C_seq ?_
            refine C_block ?_
            refine C_seq ?_
            refine C_region ?_
            refine L_y rfl (y_assign rfl) rfl ?_
            refine L_nil ?_
            refine C_block ?_
            refine C_loop (ι := Nat) (fun j => [(15, .int .i64 (j : Int)), (0, .int .i64 (n : Int)), (1, .int .i64 (k : Int)), (2, .int .u8 (m.toNat : Int)), (3, .int .u8 (c.toNat : Int)), (9, ptr d1.b), (11, slV (some g) (rotS c).length), (12, .bool false), (13, slV (some g2) (rotS c).length), (14, .int .i64 (i : Int))]) (fun j => slSeg 44 (some g2) (bs (rotS c).flatten) :: d5.o dt :: d5.t dt :: d5.q dt :: p3.o dt :: p3.q dt :: slSeg 44 (some g) (bs (rotS c).flatten) :: H) (fun j => j ≤ 128) (fun j => 128 - j) 0 (Nat.zero_le _) ⟨rfl, rfl, rfl, rfl, rfl, rfl, rfl, rfl, rfl, rfl, trivial⟩ (HSub.refl _) (fun j hj => ?_)
            skip
            refine C_seq ?_
            refine C_seq ?_
            refine C_region ?_
            refine L_y rfl (y_move rfl) rfl ?_
            refine L_y rfl (y_lss rfl rfl) rfl ?_
            refine L_nil ?_
            refine C_cond rfl (fun hc5 => ?_) (fun hc5 => ?_)
            · replace hc5 := of_decide_eq_true hc5
              refine C_skip ?_
              refine C_seq ?_
              refine C_block ?_
              refine C_seq ?_
              refine C_region ?_
              refine L_y rfl (y_move rfl) rfl ?_
              refine L_y rfl (y_move rfl) rfl ?_
              refine L_y rfl (y_move rfl) rfl ?_
              refine L_y rfl (y_indexS rfl rfl Try.underlying48 sz_44 (by omega) (by rw [rotS_len]; omega) (show _ = i * 128 from by simp)) rfl ?_
              refine L_y rfl (y_indexA rfl rfl Try.underlying44 sz_5 (by omega) (by omega) (show _ = i * 128 + j from by simp)) rfl ?_
              refine L_y rfl (y_load rfl ag_5 (sees 6 0 rfl) (show _ = some (u8 c) from by rw [List.getElem?_append_left (by rw [bs_length, flat_len (rotS_ok c), rotS_len]; omega), bs_get, rotS_at (by omega) (by omega)]; rfl)) rfl ?_
              refine L_y rfl (y_assign rfl) rfl ?_
              refine L_nil ?_
              refine C_seq ?_
              refine C_seq ?_
              refine C_region ?_
              refine L_y rfl (y_move rfl) rfl ?_
              refine L_y rfl (y_move rfl) rfl ?_
              refine L_skip rfl rfl ?_
              refine L_skip rfl rfl ?_
              refine L_skip rfl rfl ?_
              refine L_y rfl (y_pick_f rfl rfl) rfl ?_
              refine L_y rfl (y_move rfl) rfl ?_
              refine L_skip rfl rfl ?_
              refine L_skip rfl rfl ?_
              refine L_skip rfl rfl ?_
              refine L_y rfl (y_pick_f rfl rfl) rfl ?_
              refine L_nil ?_
              refine C_cond_f rfl ?_
              refine C_skip ?_
              refine C_seq ?_
              refine C_region ?_
              refine L_y rfl (y_move rfl) rfl ?_
              refine L_y rfl (y_move rfl) rfl ?_
              refine L_y rfl (y_move rfl) rfl ?_
              refine L_y rfl (y_indexS rfl rfl Try.underlying48 sz_44 (by omega) (by rw [rotS_len c]; omega) (show _ = i * 128 from by simp)) rfl ?_
              refine L_y rfl (y_indexA rfl rfl Try.underlying44 sz_5 (by omega) (by omega) (show _ = i * 128 + j from by simp)) rfl ?_
              refine L_y rfl (y_load rfl ag_5 (sees 0 0 rfl) (show _ = some (u8 c) from by rw [List.getElem?_append_left (by rw [bs_length, flat_len (rotS_ok c), rotS_len]; omega), bs_get, rotS_at (by omega) (by omega)]; rfl)) rfl ?_
              refine L_y rfl (y_move rfl) rfl ?_
              refine L_y rfl (y_nei rfl rfl) rfl ?_
              refine L_nil ?_
              refine C_cond rfl (fun hc7 => absurd hc7 (by simp)) (fun hc7 => ?_)
              refine C_skip ?_
              refine C_region ?_
              refine L_y rfl (y_move rfl) rfl ?_
              refine L_y rfl (y_add rfl rfl (wi64 (by omega) (by omega))) rfl ?_
              refine L_y rfl (y_assign rfl) rfl ?_
              refine L_nil ?_
              exact ⟨j + 1, by omega, by omega, ⟨rfl, rfl, rfl, rfl, rfl, rfl, rfl, rfl, rfl, rfl, trivial⟩, HSub.refl _⟩
            · replace hc5 := of_decide_eq_false hc5
              refine C_exit ?_
              refine C_region ?_
              refine L_y rfl (y_move rfl) rfl ?_
              refine L_y rfl (y_add rfl rfl (wi64 (by omega) (by omega))) rfl ?_
              refine L_y rfl (y_assign rfl) rfl ?_
              refine L_nil ?_
              exact ⟨i + 1, by omega, by omega, ⟨rfl, rfl, rfl, rfl, rfl, rfl, rfl, rfl, rfl, trivial⟩, HSub.refl _⟩
          · replace hc4 := of_decide_eq_false hc4
            refine C_exit ?_
            refine C_seq ?_
            refine C_region ?_
            refine L_y rfl (y_move rfl) rfl ?_
            refine L_y rfl (y_move rfl) rfl ?_
            refine L_y rfl (y_move rfl) rfl ?_
            refine L_y rfl (y_move rfl) rfl ?_
            refine L_op rfl (op_call rfl rfl (fun a w => Try.call31 a w) rfl ?_)
            refine ((rot_l (H := (_ :: _ :: H)) (L := []) (R := []) hG5 hb5 (n : Int) (k : Int) m).sub (hsub_pick [1, 1, 1, 1, 1] rfl)).mono ?_
            rintro _ _ ⟨rfl, d13, hG13, hb13, ha13, rfl⟩
            have hA13 : d13.a = rotF c := by rw [ha13, hA5] <;> (exact rots_out hnk)
            rw [show d5.a.rotE (n : Int) (k : Int) = false from by rw [hA5] <;> (exact rotE_out hnk)]
            refine ⟨_, rfl, ?_⟩
            refine L_y rfl (y_move rfl) rfl ?_
            refine L_y rfl (y_eqb rfl rfl Try.underlying4) rfl ?_
            refine L_y rfl (y_move rfl) rfl ?_
            refine L_y rfl (y_move rfl) rfl ?_
            refine L_op rfl (op_call rfl rfl (fun a w => Try.call28 a w) rfl ?_)
            refine (dump_l hb13 hG13.dok.1 (sees 0 0 rfl) (sees 1 0 rfl)).mono ?_
            rintro _ _ ⟨g3, hg3, rfl, rfl⟩
            have hS14 : d13.a.S = rotS c := by rw [hA13] <;> (rfl)
            rw [show d13.a.S.length = (rotS c).length from by rw [hS14], hS14] at hg3
            rw [show slSeg _ g3 (bs d13.a.S.flatten) = slSeg _ g3 (bs (rotS c).flatten) from by rw [hS14], show slV g3 d13.a.S.length = slV g3 (rotS c).length from by rw [hS14]]
            cases g3 with
            | none => exact slOk_none hg3 (by rw [rotS_len]; decide)
            | some g3 => ?_
            refine ⟨_, rfl, ?_⟩
            refine L_y rfl (y_move rfl) rfl ?_
            refine L_op rfl (op_call rfl rfl (fun a w => Try.call32 a w) rfl ?_)
            refine (same_s (A := rotS c) (B := rotS c) (rotS_ok c) (rotS_ok c) (holds_slice (sees 0 0 rfl) (by simp) (by simp)) (holds_slice (sees 7 0 rfl) (by simp) (by simp)) (by rw [rotS_len]; decide)).mono ?_
            rintro _ _ ⟨rfl, rfl⟩
            rw [if_pos rfl]
            refine ⟨_, rfl, ?_⟩
            refine L_y rfl (y_eqi rfl rfl) rfl ?_
            refine L_y rfl (y_pick_t rfl rfl) rfl ?_
            refine L_y rfl (y_assign rfl) rfl ?_
            refine L_nil ?_
            refine C_ret ?_
            refine B_ret (rv_tmp rfl rv_nil) (HSub.refl _) ?_
            first | rfl | exact congrArg (fun b => Ending.returned (.bool b)) (by simp)
    · have q1 := of_decide_eq_false hg11_4
      refine L_skip rfl rfl ?_
      refine L_skip rfl rfl ?_
      refine L_y rfl (y_pick_f rfl rfl) rfl ?_
      refine L_y rfl (y_move rfl) rfl ?_
      refine L_skip rfl rfl ?_
      refine L_skip rfl rfl ?_
      refine L_y rfl (y_pick_f rfl rfl) rfl ?_
      refine L_y rfl (y_move rfl) rfl ?_
      refine L_skip rfl rfl ?_
      refine L_skip rfl rfl ?_
      refine L_y rfl (y_pick_f rfl rfl) rfl ?_
      refine L_y rfl (y_neb rfl rfl Try.underlying4) rfl ?_
      refine L_y rfl (y_move rfl) rfl ?_
      refine L_case 54 rfl (fun hg11_17 => ?_) (fun hg11_17 => ?_)
      · exact absurd hg11_17 (by first | decide | (simp; omega))
      · skip
        refine L_y rfl (y_move rfl) rfl ?_
        refine L_y rfl (y_lenS rfl rfl Try.underlying48) rfl ?_
        refine L_y rfl (y_nei rfl rfl) rfl ?_
        refine L_y rfl (y_pick_f rfl rfl) rfl ?_
        refine L_nil ?_
        refine C_cond rfl (fun hc2 => absurd hc2 (by rw [rotS_len]; decide)) (fun hc2 => ?_)
        refine C_skip ?_
        refine C_seq ?_
        refine C_region ?_
        refine L_y rfl (y_move rfl) rfl ?_
        refine L_op rfl (op_call rfl rfl (fun a w => Try.call28 a w) rfl ?_)
        refine (dump_l hb5 hG5.dok.1 (sees 0 0 rfl) (sees 1 0 rfl)).mono ?_
        rintro _ _ ⟨g2, hg2, rfl, rfl⟩
        have hS15 : d5.a.S = rotS c := by rw [hA5] <;> (rfl)
        rw [show d5.a.S.length = (rotS c).length from by rw [hS15], hS15] at hg2
        rw [show slSeg _ g2 (bs d5.a.S.flatten) = slSeg _ g2 (bs (rotS c).flatten) from by rw [hS15], show slV g2 d5.a.S.length = slV g2 (rotS c).length from by rw [hS15]]
        cases g2 with
        | none => exact slOk_none hg2 (by rw [rotS_len c]; decide)
        | some g2 => ?_
        refine ⟨_, rfl, ?_⟩
        refine L_y rfl (y_assign rfl) rfl ?_
        refine L_nil ?_
        refine C_seq ?_
        refine C_seq ?_
        refine C_region ?_
        refine L_y rfl (y_move rfl) rfl ?_
        refine L_y rfl (y_lenS rfl rfl Try.underlying48) rfl ?_
        refine L_y rfl (y_nei rfl rfl) rfl ?_
        refine L_nil ?_
        refine C_cond rfl (fun hc3 => absurd hc3 (by rw [rotS_len c]; decide)) (fun hc3 => ?_)
        refine C_skip ?_
        refine C_seq ?_
        refine C_seq ?_
        refine C_region ?_
        refine L_y rfl (y_assign rfl) rfl ?_
        refine L_nil ?_
        refine C_block ?_
        refine C_loop (ι := Nat) (fun i => [(0, .int .i64 (n : Int)), (1, .int .i64 (k : Int)), (2, .int .u8 (m.toNat : Int)), (3, .int .u8 (c.toNat : Int)), (9, ptr d1.b), (11, slV (some g) (rotS c).length), (12, .bool false), (13, slV (some g2) (rotS c).length), (14, .int .i64 (i : Int))]) (fun i => slSeg 44 (some g2) (bs (rotS c).flatten) :: d5.o dt :: d5.t dt :: d5.q dt :: p3.o dt :: p3.q dt :: slSeg 44 (some g) (bs (rotS c).flatten) :: H) (fun i => i ≤ 6) (fun i => 6 - i) 0 (Nat.zero_le _) ⟨rfl, rfl, rfl, rfl, rfl, rfl, rfl, rfl, rfl, trivial⟩ (HSub.refl _) (fun i hi => ?_)
        skip
        refine C_seq ?_
        refine C_seq ?_
        refine C_region ?_
        refine L_y rfl (y_move rfl) rfl ?_
        refine L_y rfl (y_lss rfl rfl) rfl ?_
        refine L_nil ?_
        refine C_cond rfl (fun hc4 => ?_) (fun hc4 => ?_)
        · replace hc4 := of_decide_eq_true hc4
          refine C_skip ?_
          refine C_seq ?_
          refine C_block ?_
          refine C_seq ?_
          refine C_region ?_
          refine L_y rfl (y_assign rfl) rfl ?_
          refine L_nil ?_
          refine C_block ?_
          refine C_loop (ι := Nat) (fun j => [(15, .int .i64 (j : Int)), (0, .int .i64 (n : Int)), (1, .int .i64 (k : Int)), (2, .int .u8 (m.toNat : Int)), (3, .int .u8 (c.toNat : Int)), (9, ptr d1.b), (11, slV (some g) (rotS c).length), (12, .bool false), (13, slV (some g2) (rotS c).length), (14, .int .i64 (i : Int))]) (fun j => slSeg 44 (some g2) (bs (rotS c).flatten) :: d5.o dt :: d5.t dt :: d5.q dt :: p3.o dt :: p3.q dt :: slSeg 44 (some g) (bs (rotS c).flatten) :: H) (fun j => j ≤ 128) (fun j => 128 - j) 0 (Nat.zero_le _) ⟨rfl, rfl, rfl, rfl, rfl, rfl, rfl, rfl, rfl, rfl, trivial⟩ (HSub.refl _) (fun j hj => ?_)
          skip
          refine C_seq ?_
          refine C_seq ?_
          refine C_region ?_
          refine L_y rfl (y_move rfl) rfl ?_
          refine L_y rfl (y_lss rfl rfl) rfl ?_
          refine L_nil ?_
          refine C_cond rfl (fun hc5 => ?_) (fun hc5 => ?_)
          · replace hc5 := of_decide_eq_true hc5
            refine C_skip ?_
            refine C_seq ?_
            refine C_block ?_
            refine C_seq ?_
            refine C_region ?_
            refine L_y rfl (y_move rfl) rfl ?_
            refine L_y rfl (y_move rfl) rfl ?_
            refine L_y rfl (y_move rfl) rfl ?_
            refine L_y rfl (y_indexS rfl rfl Try.underlying48 sz_44 (by omega) (by rw [rotS_len]; omega) (show _ = i * 128 from by simp)) rfl ?_
            refine L_y rfl (y_indexA rfl rfl Try.underlying44 sz_5 (by omega) (by omega) (show _ = i * 128 + j from by simp)) rfl ?_
            refine L_y rfl (y_load rfl ag_5 (sees 6 0 rfl) (show _ = some (u8 c) from by rw [List.getElem?_append_left (by rw [bs_length, flat_len (rotS_ok c), rotS_len]; omega), bs_get, rotS_at (by omega) (by omega)]; rfl)) rfl ?_
            refine L_y rfl (y_assign rfl) rfl ?_
            refine L_nil ?_
            refine C_seq ?_
            refine C_seq ?_
            refine C_region ?_
            refine L_y rfl (y_move rfl) rfl ?_
            refine L_y rfl (y_move rfl) rfl ?_
            refine L_skip rfl rfl ?_
            refine L_skip rfl rfl ?_
            refine L_skip rfl rfl ?_
            refine L_y rfl (y_pick_f rfl rfl) rfl ?_
            refine L_y rfl (y_move rfl) rfl ?_
            refine L_skip rfl rfl ?_
            refine L_skip rfl rfl ?_
            refine L_skip rfl rfl ?_
            refine L_y rfl (y_pick_f rfl rfl) rfl ?_
            refine L_nil ?_
            refine C_cond_f rfl ?_
            refine C_skip ?_
            refine C_seq ?_
            refine C_region ?_
            refine L_y rfl (y_move rfl) rfl ?_
            refine L_y rfl (y_move rfl) rfl ?_
            refine L_y rfl (y_move rfl) rfl ?_
            refine L_y rfl (y_indexS rfl rfl Try.underlying48 sz_44 (by omega) (by rw [rotS_len c]; omega) (show _ = i * 128 from by simp)) rfl ?_
            refine L_y rfl (y_indexA rfl rfl Try.underlying44 sz_5 (by omega) (by omega) (show _ = i * 128 + j from by simp)) rfl ?_
            refine L_y rfl (y_load rfl ag_5 (sees 0 0 rfl) (show _ = some (u8 c) from by rw [List.getElem?_append_left (by rw [bs_length, flat_len (rotS_ok c), rotS_len]; omega), bs_get, rotS_at (by omega) (by omega)]; rfl)) rfl ?_
            refine L_y rfl (y_move rfl) rfl ?_
            refine L_y rfl (y_nei rfl rfl) rfl ?_
            refine L_nil ?_
            refine C_cond rfl (fun hc7 => absurd hc7 (by simp)) (fun hc7 => ?_)
            refine C_skip ?_
            refine C_region ?_
            refine L_y rfl (y_move rfl) rfl ?_
            refine L_y rfl (y_add rfl rfl (wi64 (by omega) (by omega))) rfl ?_
            refine L_y rfl (y_assign rfl) rfl ?_
            refine L_nil ?_
            exact ⟨j + 1, by omega, by omega, ⟨rfl, rfl, rfl, rfl, rfl, rfl, rfl, rfl, rfl, rfl, trivial⟩, HSub.refl _⟩
          · replace hc5 := of_decide_eq_false hc5
            refine C_exit ?_
            refine C_region ?_
            refine L_y rfl (y_move rfl) rfl ?_
            refine L_y rfl (y_add rfl rfl (wi64 (by omega) (by omega))) rfl ?_
            refine L_y rfl (y_assign rfl) rfl ?_
            refine L_nil ?_
            exact ⟨i + 1, by omega, by omega, ⟨rfl, rfl, rfl, rfl, rfl, rfl, rfl, rfl, rfl, trivial⟩, HSub.refl _⟩
        · replace hc4 := of_decide_eq_false hc4
          refine C_exit ?_
          refine C_seq ?_
          refine C_region ?_
          refine L_y rfl (y_move rfl) rfl ?_
          refine L_y rfl (y_move rfl) rfl ?_
          refine L_y rfl (y_move rfl) rfl ?_
          refine L_y rfl (y_move rfl) rfl ?_
          refine L_op rfl (op_call rfl rfl (fun a w => Try.call31 a w) rfl ?_)
          refine ((rot_l (H := (_ :: _ :: H)) (L := []) (R := []) hG5 hb5 (n : Int) (k : Int) m).sub (hsub_pick [1, 1, 1, 1, 1] rfl)).mono ?_
          rintro _ _ ⟨rfl, d16, hG16, hb16, ha16, rfl⟩
          have hA16 : d16.a = rotF c := by rw [ha16, hA5] <;> (exact rots_out hnk)
          rw [show d5.a.rotE (n : Int) (k : Int) = false from by rw [hA5] <;> (exact rotE_out hnk)]
          refine ⟨_, rfl, ?_⟩
          refine L_y rfl (y_move rfl) rfl ?_
          refine L_y rfl (y_eqb rfl rfl Try.underlying4) rfl ?_
          refine L_y rfl (y_move rfl) rfl ?_
          refine L_y rfl (y_move rfl) rfl ?_
          refine L_op rfl (op_call rfl rfl (fun a w => Try.call28 a w) rfl ?_)
          refine (dump_l hb16 hG16.dok.1 (sees 0 0 rfl) (sees 1 0 rfl)).mono ?_
          rintro _ _ ⟨g3, hg3, rfl, rfl⟩
          have hS17 : d16.a.S = rotS c := by rw [hA16] <;> (rfl)
          rw [show d16.a.S.length = (rotS c).length from by rw [hS17], hS17] at hg3
          rw [show slSeg _ g3 (bs d16.a.S.flatten) = slSeg _ g3 (bs (rotS c).flatten) from by rw [hS17], show slV g3 d16.a.S.length = slV g3 (rotS c).length from by rw [hS17]]
          cases g3 with
          | none => exact slOk_none hg3 (by rw [rotS_len]; decide)
          | some g3 => ?_
          refine ⟨_, rfl, ?_⟩
          refine L_y rfl (y_move rfl) rfl ?_
          refine L_op rfl (op_call rfl rfl (fun a w => Try.call32 a w) rfl ?_)
          refine (same_s (A := rotS c) (B := rotS c) (rotS_ok c) (rotS_ok c) (holds_slice (sees 0 0 rfl) (by simp) (by simp)) (holds_slice (sees 7 0 rfl) (by simp) (by simp)) (by rw [rotS_len]; decide)).mono ?_
          rintro _ _ ⟨rfl, rfl⟩
          rw [if_pos rfl]
          refine ⟨_, rfl, ?_⟩
          refine L_y rfl (y_eqi rfl rfl) rfl ?_
          refine L_y rfl (y_pick_t rfl rfl) rfl ?_
          refine L_y rfl (y_assign rfl) rfl ?_
          refine L_nil ?_
          refine C_ret ?_
          refine B_ret (rv_tmp rfl rv_nil) (HSub.refl _) ?_
          first | rfl | exact congrArg (fun b => Ending.returned (.bool b)) (by simp)

end Go.Proofs.Ytjiojffakejgjaa
