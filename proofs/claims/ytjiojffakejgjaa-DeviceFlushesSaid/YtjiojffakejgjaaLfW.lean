/- walks (own work; the walks' lines by a program of this repo). -/
import Derived.Test.YtjiojffakejgjaaDaW
import Derived.Test.YtjiojffakejgjaaDw
set_option linter.unusedVariables false
set_option linter.unusedSimpArgs false
set_option maxRecDepth 20000
namespace Go.Proofs.Ytjiojffakejgjaa
open Go.Sl
attribute [local irreducible] BodyQ WpC WpL WpS WpH OpW FnS


theorem flushes_over1 {w0 : World} {H : Hp} {a : Option Addr} {cap : Nat} (n : Int) (ds : List DeedM) (hL : Holds w0 H a (deeds ds)) (kept bytes : Int) (h30 : 30 < ds.length) : FnS Try.prog w0 10 #[.int .i64 n, .slice a ds.length cap, .int .i64 kept, .int .i64 bytes] H (fun e H' => e = .returned (.bool true)) := by
  refine FnS_intro (n := 125) (rs := [.tmp 8]) (vs := [.int .i64 n, .slice a ds.length cap, .int .i64 kept, .int .i64 bytes]) Try.func10 rfl Try.ntmps10 rfl rfl ?_
  refine C_seq ?_
  refine C_region ?_
  refine L_y rfl (y_assign rfl) rfl ?_
  refine L_nil ?_
  refine C_seq ?_
  refine C_seq ?_
  refine C_region ?_
  refine L_op rfl (op_call rfl rfl (fun a w => Try.call20 a w) rfl ?_)
  refine awake08_s.mono ?_
  rintro _ _ ⟨rfl, e⟩
  obtain rfl := e.symm
  refine ⟨_, rfl, ?_⟩
  refine L_y rfl (y_not rfl) rfl ?_
  refine L_nil ?_
  refine C_cond_f rfl ?_
  refine C_skip ?_
  refine C_seq ?_
  refine C_seq ?_
  refine C_region ?_
  refine L_y rfl (y_move rfl) rfl ?_
  refine L_y rfl (y_lenS rfl rfl Try.underlying55) rfl ?_
  refine L_y rfl (y_gtr rfl rfl) rfl ?_
  refine L_y rfl (y_move rfl) rfl ?_
  refine L_case 24 rfl (fun hg3_4 => ?_) (fun hg3_4 => ?_)
  · skip
    refine L_skip rfl rfl ?_
    refine L_skip rfl rfl ?_
    refine L_y rfl (y_pick_t rfl rfl) rfl ?_
    refine L_nil ?_
    refine C_cond_t rfl ?_
    refine C_seq ?_
    refine C_region ?_
    refine L_y rfl (y_assign rfl) rfl ?_
    refine L_nil ?_
    refine C_ret ?_
    refine B_ret (rv_tmp rfl rv_nil) (HSub.refl _) ?_
    rfl
  · exact absurd (of_decide_eq_false hg3_4) (by omega)

theorem flushes_over2 {w0 : World} {H : Hp} {a : Option Addr} {cap : Nat} (n : Int) (ds : List DeedM) (hL : Holds w0 H a (deeds ds)) (kept bytes : Int) (h30 : ¬ 30 < ds.length) (hn : 20 < n) : FnS Try.prog w0 10 #[.int .i64 n, .slice a ds.length cap, .int .i64 kept, .int .i64 bytes] H (fun e H' => e = .returned (.bool true)) := by
  refine FnS_intro (n := 125) (rs := [.tmp 8]) (vs := [.int .i64 n, .slice a ds.length cap, .int .i64 kept, .int .i64 bytes]) Try.func10 rfl Try.ntmps10 rfl rfl ?_
  refine C_seq ?_
  refine C_region ?_
  refine L_y rfl (y_assign rfl) rfl ?_
  refine L_nil ?_
  refine C_seq ?_
  refine C_seq ?_
  refine C_region ?_
  refine L_op rfl (op_call rfl rfl (fun a w => Try.call20 a w) rfl ?_)
  refine awake08_s.mono ?_
  rintro _ _ ⟨rfl, e⟩
  obtain rfl := e.symm
  refine ⟨_, rfl, ?_⟩
  refine L_y rfl (y_not rfl) rfl ?_
  refine L_nil ?_
  refine C_cond_f rfl ?_
  refine C_skip ?_
  refine C_seq ?_
  refine C_seq ?_
  refine C_region ?_
  refine L_y rfl (y_move rfl) rfl ?_
  refine L_y rfl (y_lenS rfl rfl Try.underlying55) rfl ?_
  refine L_y rfl (y_gtr rfl rfl) rfl ?_
  refine L_y rfl (y_move rfl) rfl ?_
  refine L_case 24 rfl (fun hg3_4 => ?_) (fun hg3_4 => ?_)
  · exact absurd (of_decide_eq_true hg3_4) (by omega)
  · skip
    refine L_y rfl (y_move rfl) rfl ?_
    refine L_y rfl (y_gtr rfl rfl) rfl ?_
    refine L_y rfl (y_pick_f rfl rfl) rfl ?_
    refine L_nil ?_
    refine C_cond rfl (fun hc1 => ?_) (fun hc1 => absurd hc1 (by simp <;> omega))
    refine C_seq ?_
    refine C_region ?_
    refine L_y rfl (y_assign rfl) rfl ?_
    refine L_nil ?_
    refine C_ret ?_
    refine B_ret (rv_tmp rfl rv_nil) (HSub.refl _) ?_
    rfl

theorem flushes_s {w0 : World} {H : Hp} {a : Option Addr} {cap : Nat} (n : Int) (ds : List DeedM) (hL : Holds w0 H a (deeds ds)) (kept bytes : Int) (h30 : ¬ 30 < ds.length) (hn : n ≤ 20) : FnS Try.prog w0 10 #[.int .i64 n, .slice a ds.length cap, .int .i64 kept, .int .i64 bytes] H (fun e H' => e = .returned (.bool true)) := by
  refine FnS_intro (n := 125) (rs := [.tmp 8]) (vs := [.int .i64 n, .slice a ds.length cap, .int .i64 kept, .int .i64 bytes]) Try.func10 rfl Try.ntmps10 rfl rfl ?_
  refine C_seq ?_
  refine C_region ?_
  refine L_y rfl (y_assign rfl) rfl ?_
  refine L_nil ?_
  refine C_seq ?_
  refine C_seq ?_
  refine C_region ?_
  refine L_op rfl (op_call rfl rfl (fun a w => Try.call20 a w) rfl ?_)
  refine awake08_s.mono ?_
  rintro _ _ ⟨rfl, e⟩
  obtain rfl := e.symm
  refine ⟨_, rfl, ?_⟩
  refine L_y rfl (y_not rfl) rfl ?_
  refine L_nil ?_
  refine C_cond_f rfl ?_
  refine C_skip ?_
  refine C_seq ?_
  refine C_seq ?_
  refine C_region ?_
  refine L_y rfl (y_move rfl) rfl ?_
  refine L_y rfl (y_lenS rfl rfl Try.underlying55) rfl ?_
  refine L_y rfl (y_gtr rfl rfl) rfl ?_
  refine L_y rfl (y_move rfl) rfl ?_
  refine L_case 24 rfl (fun hg3_4 => ?_) (fun hg3_4 => ?_)
  · exact absurd (of_decide_eq_true hg3_4) (by omega)
  · skip
    refine L_y rfl (y_move rfl) rfl ?_
    refine L_y rfl (y_gtr rfl rfl) rfl ?_
    refine L_y rfl (y_pick_f rfl rfl) rfl ?_
    refine L_nil ?_
    refine C_cond rfl (fun hc1 => absurd hc1 (by simp <;> omega)) (fun hc1 => ?_)
    refine C_skip ?_
    refine C_seq ?_
    refine C_region ?_
    refine L_op rfl (op_call rfl rfl (fun a w => Try.call21 a w) rfl ?_)
    refine newpower_l.mono ?_
    rintro _ _ ⟨p1, hpk1, hdv1, hP1, rfl, rfl⟩
    refine ⟨_, rfl, ?_⟩
    refine L_y rfl (y_assign rfl) rfl ?_
    refine L_nil ?_
    refine C_seq ?_
    refine C_region ?_
    refine L_y rfl (y_move rfl) rfl ?_
    refine L_y rfl (y_move rfl) rfl ?_
    refine L_op rfl (op_call rfl rfl (fun a w => Try.call22 a w) rfl ?_)
    refine ((new_l (H := (H)) (rfl : p1.b = _) hpk1 hdv1 n).sub (hsub_pick [0, 0] rfl)).mono ?_
    rintro _ _ ⟨d2, p2, hG2, pb2, ha2, hq2, rfl, rfl⟩
    have hA2 : d2.a = Ab.new (szOf n) := by rw [ha2] <;> (rfl)
    have hP2 : p2.a = _ := hq2.trans hP1
    have hb2 : d2.b = d2.b := rfl
    refine ⟨_, rfl, ?_⟩
    refine L_y rfl (y_assign rfl) rfl ?_
    refine L_nil ?_
    refine C_seq ?_
    refine C_seq ?_
    refine C_region ?_
    refine L_y rfl (y_assign rfl) rfl ?_
    refine L_nil ?_
    refine C_block ?_
    refine C_loop (ι := Dv × Pw × Nat × List Sec) (fun i => [(1, .slice a ds.length cap), (2, .int .i64 kept), (3, .int .i64 bytes), (9, ptr p1.b), (10, ptr d2.b), (11, .int .i64 (i.2.2.1 : Int))]) (fun i => i.1.o dt :: i.1.t dt :: i.1.q dt :: i.2.1.o dt :: i.2.1.q dt :: H) (fun i => GOk dt i.2.1 [] i.1 [] ∧ i.1.b = d2.b ∧ i.2.1.b = p1.b ∧ i.2.1.a = q0 ∧ RdW (szOf n) i.2.2.2 i.1.a i.2.2.1 ∧ (∀ s ∈ i.2.2.2, s.length = 128) ∧ i.2.2.1 ≤ ds.length) (fun i => ds.length - i.2.2.1) (d2, p2, 0, List.replicate (szOf n) (secOf 0)) ⟨hG2, hb2, pb2, hP2, by rw [hA2]; exact RdW.new (by have := szOf_le hn; omega), fun s hs => by rw [List.eq_of_mem_replicate hs, secOf_len], Nat.zero_le _⟩ ⟨rfl, rfl, rfl, rfl, rfl, rfl, trivial⟩ (HSub.refl _) (fun i hi => ?_)
    obtain ⟨d, p, i, W⟩ := i
    obtain ⟨hG, hb, pb, hP, hR, hWo, hi⟩ := hi
    simp only at hG hb pb hP hR hWo hi
    obtain ⟨A, hA⟩ : ∃ A, d.a = A := ⟨_, rfl⟩
    rw [hA] at hR
    have hK := szOf_le hn
    dsimp only
    refine C_seq ?_
    refine C_seq ?_
    refine C_region ?_
    refine L_y rfl (y_move rfl) rfl ?_
    refine L_y rfl (y_move rfl) rfl ?_
    refine L_y rfl (y_lenS rfl rfl Try.underlying55) rfl ?_
    refine L_y rfl (y_lss rfl rfl) rfl ?_
    refine L_nil ?_
    refine C_cond rfl (fun hc2 => ?_) (fun hc2 => ?_)
    · replace hc2 := of_decide_eq_true hc2
      refine C_skip ?_
      refine C_seq ?_
      refine C_block ?_
      obtain ⟨x, hx⟩ : ∃ x, ds[i]? = some x := ⟨_, List.getElem?_eq_getElem (by omega)⟩
      obtain ⟨b1, o1, l1, T1, fr1, rfl, hs1, hle1, hv1⟩ := hL (by rw [deeds_len]; omega)
      refine C_regionH H (by kernel_rfl) ?_
      refine H_y 0 rfl (by kernel_rfl) (by kernel_rfl) (by kernel_rfl) (hsub (.cons _ (.cons _ (.cons _ (.cons _ (.cons _ (.refl _))))))) rfl (y_move rfl) rfl ?_
      refine H_y 1 rfl (by kernel_rfl) (by kernel_rfl) (by kernel_rfl) (hsub (.cons _ (.cons _ (.cons _ (.cons _ (.cons _ (.refl _))))))) rfl (y_move rfl) rfl ?_
      refine H_y 2 rfl (by kernel_rfl) (by kernel_rfl) (by kernel_rfl) (hsub (.cons _ (.cons _ (.cons _ (.cons _ (.cons _ (.refl _))))))) rfl (y_move rfl) rfl ?_
      refine H_y 3 rfl (by kernel_rfl) (by kernel_rfl) (by kernel_rfl) (hsub (.cons _ (.cons _ (.cons _ (.cons _ (.cons _ (.refl _))))))) rfl (y_indexS rfl rfl Try.underlying55 sz_57 (by omega) (by omega) (show _ = o1 + i * 5 from by simp)) rfl ?_
      refine H_y 4 rfl (by kernel_rfl) (by kernel_rfl) (by kernel_rfl) (hsub (.cons _ (.cons _ (.cons _ (.cons _ (.cons _ (.refl _))))))) rfl (y_fieldAddr rfl fl_57_2) rfl ?_
      refine H_y 5 rfl (by kernel_rfl) (by kernel_rfl) (by kernel_rfl) (hsub (.cons _ (.cons _ (.cons _ (.cons _ (.cons _ (.refl _))))))) rfl (y_load rfl ag_3 (hs1) (show _ = some (.int .i64 x.n) from deed_at hv1 hx (by decide))) rfl ?_
      refine H_y 6 rfl (by kernel_rfl) (by kernel_rfl) (by kernel_rfl) (hsub (.cons _ (.cons _ (.cons _ (.cons _ (.cons _ (.refl _))))))) rfl (y_move rfl) rfl ?_
      refine H_y 7 rfl (by kernel_rfl) (by kernel_rfl) (by kernel_rfl) (hsub (.cons _ (.cons _ (.cons _ (.cons _ (.cons _ (.refl _))))))) rfl (y_move rfl) rfl ?_
      refine H_y 8 rfl (by kernel_rfl) (by kernel_rfl) (by kernel_rfl) (hsub (.cons _ (.cons _ (.cons _ (.cons _ (.cons _ (.refl _))))))) rfl (y_indexS rfl rfl Try.underlying55 sz_57 (by omega) (by omega) (show _ = o1 + i * 5 from by simp)) rfl ?_
      refine H_y 9 rfl (by kernel_rfl) (by kernel_rfl) (by kernel_rfl) (hsub (.cons _ (.cons _ (.cons _ (.cons _ (.cons _ (.refl _))))))) rfl (y_fieldAddr rfl fl_57_4) rfl ?_
      refine H_y 10 rfl (by kernel_rfl) (by kernel_rfl) (by kernel_rfl) (hsub (.cons _ (.cons _ (.cons _ (.cons _ (.cons _ (.refl _))))))) rfl (y_load rfl ag_5 (hs1) (show _ = some (.int .u8 (x.c.toNat : Int)) from deed_at hv1 hx (by decide))) rfl ?_
      refine H_one 11 rfl (by kernel_rfl) rfl (op_call rfl rfl (fun a w => Try.call25 a w) rfl ?_)
      refine (sector_s x.c).mono ?_
      rintro _ _ ⟨rfl, rfl⟩
      refine ⟨_, rfl, ?_⟩
      refine ⟨hsub (.cons _ (.cons _ (.cons _ (.cons _ (.cons _ (.refl _)))))), ?_⟩
      refine H_one 12 rfl (by kernel_rfl) rfl (op_call rfl rfl (fun a w => Try.call24 a w) rfl ?_)
      refine ((write_1 (H := (H)) hG hb x.n (secOf x.c) (secOf_len _) (by rw [hA]; have := hR.many; omega)).sub (hsub_pick [0, 0, 0, 0, 0] rfl)).mono ?_
      rintro _ _ ⟨rfl, d3, p3, hG3, hb3, ha3, hpb3, hq3, rfl⟩
      have hA3 : d3.a = (if 0 ≤ x.n ∧ x.n < ((szOf n : Nat) : Int) then A.push x.n.toNat (secOf x.c) else A) := by rw [ha3, hA, hP] <;> (exact (hR.writes x.n _).2.1)
      have hP3 : p3.a = q0 := by rw [hq3, hA, hP] <;> (exact (hR.writes x.n (secOf x.c)).2.2)
      have pb3 := hpb3.trans pb
      refine ⟨_, rfl, ?_⟩
      refine ⟨hsub (.cons _ (.cons _ (.cons _ (.cons _ (.cons _ (.refl _)))))), ?_⟩
      refine H_done (by kernel_rfl) ?_
      refine C_region ?_
      refine L_y rfl (y_move rfl) rfl ?_
      refine L_y rfl (y_add rfl rfl (wi64 (by omega) (by omega))) rfl ?_
      refine L_y rfl (y_assign rfl) rfl ?_
      refine L_nil ?_
      by_cases hv : 0 ≤ x.n ∧ x.n < ((szOf n : Nat) : Int)
      · exact ⟨(d3, p3, i + 1, W.set x.n.toNat (secOf x.c)), ⟨hG3, hb3, pb3, hP3, by rw [hA3, if_pos hv]; exact hR.write (by omega) (secOf_len _), set_ok hWo (secOf_len _), by simp only; omega⟩, by simp only; omega, ⟨rfl, rfl, rfl, rfl, rfl, rfl, trivial⟩, HSub.refl _⟩
      · exact ⟨(d3, p3, i + 1, W), ⟨hG3, hb3, pb3, hP3, by rw [hA3, if_neg hv]; exact hR.mono (Nat.le_succ _), hWo, by simp only; omega⟩, by simp only; omega, ⟨rfl, rfl, rfl, rfl, rfl, rfl, trivial⟩, HSub.refl _⟩
    · replace hc2 := of_decide_eq_false hc2
      refine C_exit ?_
      refine C_seq ?_
      refine C_seq ?_
      refine C_region ?_
      refine L_y rfl (y_move rfl) rfl ?_
      refine L_op rfl (op_call rfl rfl (fun a w => Try.call27 a w) rfl ?_)
      refine ((flush_1 (H := (H)) hG hb).sub (hsub_pick [0, 0, 0, 0, 0] rfl)).mono ?_
      rintro _ _ ⟨rfl, d4, p4, hG4, hb4, ha4, hpb4, hq4, rfl⟩
      have hA4 : d4.a = A.flush := by rw [ha4, hA, hP] <;> (exact hR.flushes.2.1)
      have hP4 : p4.a = q0 := by rw [hq4, hA, hP] <;> (exact hR.flushes.2.2)
      have pb4 := hpb4.trans pb
      rw [show flushE d.a p.a = 0 from by rw [hA, hP] <;> (exact hR.flushes.1)]
      refine ⟨_, rfl, ?_⟩
      refine L_y rfl (y_nei rfl rfl) rfl ?_
      refine L_y rfl (y_move rfl) rfl ?_
      refine L_y rfl (y_move rfl) rfl ?_
      refine L_op rfl (op_call rfl rfl (fun a w => Try.call29 a w) rfl ?_)
      refine (waiting_l hb4 hG4.dok (sees 0 0 rfl)).mono ?_
      rintro _ _ ⟨rfl, rfl⟩
      rw [show ((d4.a.Q.length : Nat) : Int) = 0 from by rw [hA4] <;> (rw [hR.flush.stable.1]; rfl)]
      refine ⟨_, rfl, ?_⟩
      refine L_y rfl (y_nei rfl rfl) rfl ?_
      refine L_y rfl (y_pick_f rfl rfl) rfl ?_
      refine L_nil ?_
      refine C_cond_f rfl ?_
      refine C_skip ?_
      refine C_seq ?_
      have hR2 := hR.flush
      refine C_region ?_
      refine L_y rfl (y_assign rfl) rfl ?_
      refine L_nil ?_
      refine C_seq ?_
      refine C_seq ?_
      refine C_region ?_
      refine L_y rfl (y_assign rfl) rfl ?_
      refine L_nil ?_
      refine C_block ?_
      refine C_loop (ι := Nat × Option SlG) (fun i => [(2, .int .i64 kept), (3, .int .i64 bytes), (9, ptr p1.b), (10, ptr d2.b), (12, slV i.2 i.1), (13, .int .i64 (i.1 : Int))]) (fun i => slSeg 44 i.2 (bs (W.take i.1).flatten) :: d4.o dt :: d4.t dt :: d4.q dt :: p4.o dt :: p4.q dt :: H) (fun i => i.1 ≤ szOf n ∧ slOk 128 i.2 i.1 (bs (W.take i.1).flatten)) (fun i => szOf n - i.1) (0, none) ⟨Nat.zero_le _, by simp [bs], rfl⟩ ⟨rfl, rfl, rfl, rfl, rfl, rfl, trivial⟩ (HSub.trans (HSub.same (by simp [slSeg])) hsub_nil0) (fun i hi => ?_)
      obtain ⟨k, gs⟩ := i
      obtain ⟨hk, hgs⟩ := hi
      simp only at hk hgs
      dsimp only
      refine C_seq ?_
      refine C_seq ?_
      refine C_region ?_
      refine L_y rfl (y_move rfl) rfl ?_
      refine L_y rfl (y_move rfl) rfl ?_
      refine L_op rfl (op_call rfl rfl (fun a w => Try.call36 a w) rfl ?_)
      refine (len_l hb4 (sees 1 0 rfl)).mono ?_
      rintro _ _ ⟨rfl, rfl⟩
      rw [show ((d4.a.S.length : Nat) : Int) = ((szOf n : Nat) : Int) from by rw [hA4, hR2.len]]
      refine ⟨_, rfl, ?_⟩
      refine L_y rfl (y_lss rfl rfl) rfl ?_
      refine L_y rfl (y_move rfl) rfl ?_
      refine L_case 63 rfl (fun hg15_5 => ?_) (fun hg15_5 => ?_)
      · have q1 := of_decide_eq_true hg15_5
        refine L_y rfl (y_move rfl) rfl ?_
        refine L_y rfl (y_lss rfl rfl) rfl ?_
        refine L_y rfl (y_pick_t rfl rfl) rfl ?_
        refine L_nil ?_
        refine C_cond rfl (fun hc4 => ?_) (fun hc4 => absurd hc4 (by simp <;> omega))
        refine C_skip ?_
        refine C_seq ?_
        refine C_block ?_
        refine C_seq ?_
        obtain ⟨t, ht⟩ : ∃ t, W[k]? = some t := ⟨_, List.getElem?_eq_getElem (by rw [hR2.wlen]; omega)⟩
        have ht128 : t.length = 128 := hWo t (List.mem_of_getElem? ht)
        refine C_region ?_
        refine L_y rfl (y_move rfl) rfl ?_
        refine L_y rfl (y_move rfl) rfl ?_
        refine L_op rfl (op_call rfl rfl (fun a w => Try.call33 a w) rfl ?_)
        refine ((read_l (H := (_ :: H)) (L := []) (R := []) hG4 hb4 (k : Int)).sub (hsub_pick [1, 1, 1, 1, 1] rfl)).mono ?_
        rintro _ _ ⟨rfl, rfl⟩
        rw [hA4, hP4, (hR2.reads ht).1, (hR2.reads ht).2]
        refine ⟨_, rfl, ?_⟩
        refine L_y rfl (y_move rfl) rfl ?_
        refine L_y rfl (y_extract rfl rfl) rfl ?_
        refine L_y rfl (y_extract rfl rfl) rfl ?_
        refine L_op rfl (op_alloc zl_44 rfl (fun B1 => ?_))
        refine L_op rfl (op_storeA 0 0 rfl rfl rfl sz_44 (by rw [bs_length, ht128]) rfl (bs_one _) (by simp) ?_)
        refine L_y rfl (y_assign rfl) rfl ?_
        refine L_nil ?_
        refine C_region ?_
        refine L_y rfl (y_move rfl) rfl ?_
        refine L_y rfl (y_loadA rfl ag_44 sz_44 (sees 0 0 rfl) (by rw [bs_length, ht128]; decide) (bs_whole0 _ ht128)) rfl ?_
        refine L_op rfl (op_buildSlice (vs := [(0, _)]) rfl Try.underlying48 sz_44 zl_44 rfl (by decide) (fill_one rfl (by rw [bs_length, ht128]) rfl) rfl (fun B2 => ?_))
        refine L_op rfl (op_append (gs := gs) (len := k) (m := 1) (xs := bs (W.take k).flatten) (vs := bs t) 7 rfl rfl rfl hgs (src_slice (sees 0 0 rfl) (by simp [bs_length, ht128]) (by rw [List.drop_zero, List.take_of_length_le (by simp [bs_length, ht128])])) (by simp [bs_length, ht128]) (bs_one _) Try.underlying48 ni_48 sz_44 by_44 (by decide) zl_44 rfl (by omega) rfl (fun g' hg' => ?_))
        rw [← bs_append, show (W.take k).flatten ++ t = (W.take (k + 1)).flatten from by rw [List.take_add_one, ht]; simp] at hg' ⊢
        refine L_y rfl (y_assign rfl) rfl ?_
        refine L_nil ?_
        refine C_region ?_
        refine L_y rfl (y_move rfl) rfl ?_
        refine L_y rfl (y_add rfl rfl (wi64 (by omega) (by omega))) rfl ?_
        refine L_y rfl (y_assign rfl) rfl ?_
        refine L_nil ?_
        exact ⟨(k + 1, g'), ⟨by simp only; omega, hg'⟩, by simp only; omega, ⟨rfl, rfl, rfl, rfl, rfl, rfl, trivial⟩, (hsub (.cons_cons _ (.cons_cons _ (.cons_cons _ (.cons_cons _ (.cons_cons _ (.cons_cons _ (.cons _ (.cons _ (.refl _)))))))))).trans (hsub_pick [7, 2, 2, 2, 2, 2] rfl)⟩
      · have q1 := of_decide_eq_false hg15_5
        refine L_skip rfl rfl ?_
        refine L_skip rfl rfl ?_
        refine L_y rfl (y_pick_f rfl rfl) rfl ?_
        refine L_nil ?_
        refine C_cond_f rfl ?_
        refine C_exit ?_
        refine C_seq ?_
        obtain rfl : k = szOf n := by omega
        rw [List.take_of_length_le (by rw [hR2.wlen]; exact Nat.le_refl _)] at hgs ⊢
        refine C_region ?_
        refine L_y rfl (y_move rfl) rfl ?_
        refine L_y rfl (y_move rfl) rfl ?_
        refine L_y rfl (y_move rfl) rfl ?_
        refine L_op rfl (op_call rfl rfl (fun a w => Try.call23 a w) rfl ?_)
        refine ((tear_l (H := (_ :: H)) (L := []) (R := []) hG4 hb4 kept bytes).sub (hsub_pick [1, 1, 1, 1, 1] rfl)).mono ?_
        rintro _ _ ⟨rfl, d5, hG5, hb5, ha5, rfl⟩
        have hA5 : d5.a = A.flush.tear kept bytes := by rw [ha5, hA4] <;> (rfl)
        refine ⟨_, rfl, ?_⟩
        refine L_nil ?_
        refine C_seq ?_
        refine C_region ?_
        refine L_y rfl (y_move rfl) rfl ?_
        refine L_op rfl (op_call rfl rfl (fun a w => Try.call26 a w) rfl ?_)
        refine ((fail_l (H := (_ :: H)) (L := []) (R := []) hG5 pb4 0 (by decide)).sub (hsub_pick [0, 0, 0, 0, 0] rfl)).mono ?_
        rintro _ _ ⟨rfl, p6, hG6, pb6, hq6, rfl⟩
        have hP6 : p6.a = qF := by rw [hq6, hP4] <;> (rfl)
        refine ⟨_, rfl, ?_⟩
        refine L_nil ?_
        refine C_seq ?_
        refine C_seq ?_
        refine C_region ?_
        refine L_y rfl (y_move rfl) rfl ?_
        refine L_op rfl (op_call rfl rfl (fun a w => Try.call27 a w) rfl ?_)
        refine ((flush_1 (H := (_ :: H)) hG6 hb5).sub (hsub_pick [0, 0, 0, 0, 0] rfl)).mono ?_
        rintro _ _ ⟨rfl, d7, p7, hG7, hb7, ha7, hpb7, hq7, rfl⟩
        have hA7 : d7.a = A.flush.tear kept bytes := by rw [ha7, hA5, hP6] <;> (exact (hR2.fails _ _).2.1)
        have hP7 : p7.a = qX := by rw [hq7, hA5, hP6] <;> (exact (hR2.fails kept bytes).2.2)
        have pb7 := hpb7.trans pb6
        rw [show flushE d5.a p6.a = 13 from by rw [hA5, hP6] <;> (exact (hR2.fails _ _).1)]
        refine ⟨_, rfl, ?_⟩
        refine L_y rfl (y_nei rfl rfl) rfl ?_
        refine L_y rfl (y_move rfl) rfl ?_
        refine L_y rfl (y_move rfl) rfl ?_
        refine L_op rfl (op_call rfl rfl (fun a w => Try.call30 a w) rfl ?_)
        refine (on_l pb7 (sees 3 0 rfl)).mono ?_
        rintro _ _ ⟨rfl, rfl⟩
        rw [show (!p7.a.off) = false from by rw [hP7] <;> (rfl)]
        refine ⟨_, rfl, ?_⟩
        refine L_y rfl (y_pick_f rfl rfl) rfl ?_
        refine L_y rfl (y_move rfl) rfl ?_
        refine L_y rfl (y_move rfl) rfl ?_
        refine L_op rfl (op_call rfl rfl (fun a w => Try.call28 a w) rfl ?_)
        refine (dump_l hb7 hG7.dok.1 (sees 0 0 rfl) (sees 1 0 rfl)).mono ?_
        rintro _ _ ⟨g3, hg3, rfl, rfl⟩
        have hS8 : d7.a.S = W := by rw [hA7] <;> (exact hR2.stable.2)
        rw [show d7.a.S.length = (W).length from by rw [hS8], hS8] at hg3
        rw [show slSeg _ g3 (bs d7.a.S.flatten) = slSeg _ g3 (bs (W).flatten) from by rw [hS8], show slV g3 d7.a.S.length = slV g3 (W).length from by rw [hS8]]
        refine ⟨_, rfl, ?_⟩
        refine L_y rfl (y_move rfl) rfl ?_
        refine L_op rfl (op_call rfl rfl (fun a w => Try.call32 a w) rfl ?_)
        refine (same_v (A := W) (B := W) (sa := 0) (sb := 6) rfl rfl hg3 hgs hWo hWo rfl hR2.wlen (by rw [hR2.wlen]; omega)).mono ?_
        rintro _ _ ⟨rfl, rfl⟩
        rw [if_pos rfl]
        refine ⟨_, rfl, ?_⟩
        refine L_y rfl (y_nei rfl rfl) rfl ?_
        refine L_y rfl (y_pick_f rfl rfl) rfl ?_
        refine L_nil ?_
        refine C_cond_f rfl ?_
        refine C_skip ?_
        refine C_seq ?_
        refine C_region ?_
        refine L_y rfl (y_move rfl) rfl ?_
        refine L_op rfl (op_call rfl rfl (fun a w => Try.call34 a w) rfl ?_)
        refine ((restart_l (H := (_ :: _ :: H)) (L := []) (R := []) hG7 pb7).sub (hsub_pick [1, 1, 1, 1, 1] rfl)).mono ?_
        rintro _ _ ⟨rfl, p9, hG9, pb9, hq9, rfl⟩
        have hP9 : p9.a = q0 := by rw [hq9, hP7] <;> (rfl)
        refine ⟨_, rfl, ?_⟩
        refine L_nil ?_
        refine C_seq ?_
        refine C_seq ?_
        refine C_region ?_
        refine L_y rfl (y_assign rfl) rfl ?_
        refine L_nil ?_
        refine C_block ?_
        refine C_loop (ι := Nat) (fun k => [(9, ptr p1.b), (10, ptr d2.b), (12, slV gs (szOf n)), (16, .int .i64 (k : Int))]) (fun k => d7.o dt :: d7.t dt :: d7.q dt :: p9.o dt :: p9.q dt :: slSeg 44 gs (bs W.flatten) :: H) (fun k => k ≤ szOf n) (fun k => szOf n - k) 0 (Nat.zero_le _) ⟨rfl, rfl, rfl, rfl, trivial⟩ (hsub (.cons_cons _ (.cons_cons _ (.cons_cons _ (.cons_cons _ (.cons_cons _ (.cons _ (.refl _)))))))) (fun k hk => ?_)
        skip
        refine C_seq ?_
        refine C_seq ?_
        refine C_region ?_
        refine L_y rfl (y_move rfl) rfl ?_
        refine L_y rfl (y_move rfl) rfl ?_
        refine L_y rfl (y_lenV hgs rfl rfl Try.underlying48) rfl ?_
        refine L_y rfl (y_lss rfl rfl) rfl ?_
        refine L_nil ?_
        refine C_cond rfl (fun hc6 => ?_) (fun hc6 => ?_)
        · replace hc6 := of_decide_eq_true hc6
          refine C_skip ?_
          refine C_seq ?_
          refine C_block ?_
          refine C_seq ?_
          obtain ⟨t, ht⟩ : ∃ t, W[k]? = some t := ⟨_, List.getElem?_eq_getElem (by rw [hR2.wlen]; omega)⟩
          have ht128 : t.length = 128 := hWo t (List.mem_of_getElem? ht)
          have hR3 := hR2.tear kept bytes
          refine C_region ?_
          refine L_y rfl (y_move rfl) rfl ?_
          refine L_y rfl (y_move rfl) rfl ?_
          refine L_op rfl (op_call rfl rfl (fun a w => Try.call33 a w) rfl ?_)
          refine ((read_l (H := (_ :: H)) (L := []) (R := []) hG9 hb7 (k : Int)).sub (hsub_pick [0, 0, 0, 0, 0] rfl)).mono ?_
          rintro _ _ ⟨rfl, rfl⟩
          rw [hA7, hP9, (hR3.reads ht).1, (hR3.reads ht).2]
          refine ⟨_, rfl, ?_⟩
          refine L_y rfl (y_move rfl) rfl ?_
          refine L_y rfl (y_extract rfl rfl) rfl ?_
          refine L_y rfl (y_extract rfl rfl) rfl ?_
          refine L_op rfl (op_alloc zl_44 rfl (fun B3 => ?_))
          refine L_op rfl (op_storeA 0 0 rfl rfl rfl sz_44 (by rw [bs_length, ht128]) rfl (bs_one _) (by simp) ?_)
          refine L_y rfl (y_assign rfl) rfl ?_
          refine L_nil ?_
          refine C_seq ?_
          cases gs with
          | none => exact slOk_none hgs (by omega)
          | some gs => ?_
          refine C_regionH0 (by kernel_rfl) ?_
          refine H_y 0 rfl (by kernel_rfl) (by kernel_rfl) (by kernel_rfl) (HSub.refl _) rfl (y_move rfl) rfl ?_
          refine H_y 1 rfl (by kernel_rfl) (by kernel_rfl) (by kernel_rfl) (HSub.refl _) rfl (y_nei rfl rfl) rfl ?_
          refine H_y 2 rfl (by kernel_rfl) (by kernel_rfl) (by kernel_rfl) (HSub.refl _) rfl (y_move rfl) rfl ?_
          refine H_y 3 rfl (by kernel_rfl) (by kernel_rfl) (by kernel_rfl) (HSub.refl _) rfl (y_loadA rfl ag_44 sz_44 (sees 0 0 rfl) (by rw [bs_length, ht128]; decide) (bs_whole0 _ ht128)) rfl ?_
          refine H_y 4 rfl (by kernel_rfl) (by kernel_rfl) (by kernel_rfl) (HSub.refl _) rfl (y_move rfl) rfl ?_
          refine H_y 5 rfl (by kernel_rfl) (by kernel_rfl) (by kernel_rfl) (HSub.refl _) rfl (y_move rfl) rfl ?_
          refine H_y 6 rfl (by kernel_rfl) (by kernel_rfl) (by kernel_rfl) (HSub.refl _) rfl (y_indexS rfl rfl Try.underlying48 sz_44 (by omega) (by omega) (show _ = 0 + k * 128 from by simp)) rfl ?_
          refine H_y 7 rfl (by kernel_rfl) (by kernel_rfl) (by kernel_rfl) (HSub.refl _) rfl (y_loadA rfl ag_44 sz_44 (sees 6 0 rfl) (by rw [List.length_append, bs_length, flat_len hWo, hR2.wlen]; omega) (sec_at (n := 0) (A := W) hWo (by simp) ht)) rfl ?_
          refine H_y 8 rfl (by kernel_rfl) (by kernel_rfl) (by kernel_rfl) (HSub.refl _) rfl (y_nea rfl rfl Try.underlying44 Try.underlying5 sz_5 eg_44 ht128 ht128) rfl ?_
          refine H_y 9 rfl (by kernel_rfl) (by kernel_rfl) (by kernel_rfl) (HSub.refl _) rfl (y_pick_f rfl rfl) rfl ?_
          refine H_done (by kernel_rfl) ?_
          refine C_cond rfl (fun hc7 => absurd hc7 (by simp)) (fun hc7 => ?_)
          refine C_skip ?_
          refine C_region ?_
          refine L_y rfl (y_move rfl) rfl ?_
          refine L_y rfl (y_add rfl rfl (wi64 (by omega) (by omega))) rfl ?_
          refine L_y rfl (y_assign rfl) rfl ?_
          refine L_nil ?_
          exact ⟨k + 1, by omega, by omega, ⟨rfl, rfl, rfl, rfl, trivial⟩, hsub (.cons _ (.refl _))⟩
        · replace hc6 := of_decide_eq_false hc6
          refine C_exit ?_
          refine C_seq ?_
          refine C_region ?_
          refine L_y rfl (y_move rfl) rfl ?_
          refine L_op rfl (op_call rfl rfl (fun a w => Try.call30 a w) rfl ?_)
          refine (on_l pb9 (sees 3 0 rfl)).mono ?_
          rintro _ _ ⟨rfl, rfl⟩
          rw [show (!p9.a.off) = true from by rw [hP9] <;> (rfl)]
          refine ⟨_, rfl, ?_⟩
          refine L_y rfl (y_assign rfl) rfl ?_
          refine L_nil ?_
          refine C_ret ?_
          refine B_ret (rv_tmp rfl rv_nil) (HSub.refl _) ?_
          rfl

end Go.Proofs.Ytjiojffakejgjaa
