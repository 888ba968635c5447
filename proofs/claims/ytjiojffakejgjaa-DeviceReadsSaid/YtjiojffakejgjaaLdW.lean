/- walks (own work; the walks' lines by a program of this repo). -/
import Derived.Test.YtjiojffakejgjaaDaW
import Derived.Test.YtjiojffakejgjaaDw
set_option linter.unusedVariables false
set_option linter.unusedSimpArgs false
set_option maxRecDepth 20000
namespace Go.Proofs.Ytjiojffakejgjaa
open Go.Sl
attribute [local irreducible] BodyQ WpC WpL WpS WpH OpW FnS


theorem reads_over1 {w0 : World} {H : Hp} {a : Option Addr} {cap : Nat} (n : Int) (ds : List DeedM) (hL : Holds w0 H a (deeds ds)) (fl : Bool) (h30 : 30 < ds.length) : FnS Try.prog w0 7 #[.int .i64 n, .slice a ds.length cap, .bool fl] H (fun e H' => e = .returned (.bool true)) := by
  refine FnS_intro (n := 108) (rs := [.tmp 6]) (vs := [.int .i64 n, .slice a ds.length cap, .bool fl]) Try.func7 rfl Try.ntmps7 rfl rfl ?_
  refine C_seq ?_
  refine C_region ?_
  refine L_y rfl (y_assign rfl) rfl ?_
  refine L_nil ?_
  refine C_seq ?_
  refine C_seq ?_
  refine C_region ?_
  refine L_op rfl (op_call rfl rfl (fun a w => Try.call20 a w) rfl ?_)
  refine awake08_s.mono ?_
  rintro _ _ ⟨rfl, e⟩
  obtain rfl := e.symm
  refine ⟨_, rfl, ?_⟩
  refine L_y rfl (y_not rfl) rfl ?_
  refine L_nil ?_
  refine C_cond_f rfl ?_
  refine C_skip ?_
  refine C_seq ?_
  refine C_seq ?_
  refine C_region ?_
  refine L_y rfl (y_move rfl) rfl ?_
  refine L_y rfl (y_lenS rfl rfl Try.underlying55) rfl ?_
  refine L_y rfl (y_gtr rfl rfl) rfl ?_
  refine L_y rfl (y_move rfl) rfl ?_
  refine L_case 19 rfl (fun hg3_4 => ?_) (fun hg3_4 => ?_)
  · skip
    refine L_skip rfl rfl ?_
    refine L_skip rfl rfl ?_
    refine L_y rfl (y_pick_t rfl rfl) rfl ?_
    refine L_nil ?_
    refine C_cond_t rfl ?_
    refine C_seq ?_
    refine C_region ?_
    refine L_y rfl (y_assign rfl) rfl ?_
    refine L_nil ?_
    refine C_ret ?_
    refine B_ret (rv_tmp rfl rv_nil) (HSub.refl _) ?_
    rfl
  · exact absurd (of_decide_eq_false hg3_4) (by omega)

theorem reads_over2 {w0 : World} {H : Hp} {a : Option Addr} {cap : Nat} (n : Int) (ds : List DeedM) (hL : Holds w0 H a (deeds ds)) (fl : Bool) (h30 : ¬ 30 < ds.length) (hn : 20 < n) : FnS Try.prog w0 7 #[.int .i64 n, .slice a ds.length cap, .bool fl] H (fun e H' => e = .returned (.bool true)) := by
  refine FnS_intro (n := 108) (rs := [.tmp 6]) (vs := [.int .i64 n, .slice a ds.length cap, .bool fl]) Try.func7 rfl Try.ntmps7 rfl rfl ?_
  refine C_seq ?_
  refine C_region ?_
  refine L_y rfl (y_assign rfl) rfl ?_
  refine L_nil ?_
  refine C_seq ?_
  refine C_seq ?_
  refine C_region ?_
  refine L_op rfl (op_call rfl rfl (fun a w => Try.call20 a w) rfl ?_)
  refine awake08_s.mono ?_
  rintro _ _ ⟨rfl, e⟩
  obtain rfl := e.symm
  refine ⟨_, rfl, ?_⟩
  refine L_y rfl (y_not rfl) rfl ?_
  refine L_nil ?_
  refine C_cond_f rfl ?_
  refine C_skip ?_
  refine C_seq ?_
  refine C_seq ?_
  refine C_region ?_
  refine L_y rfl (y_move rfl) rfl ?_
  refine L_y rfl (y_lenS rfl rfl Try.underlying55) rfl ?_
  refine L_y rfl (y_gtr rfl rfl) rfl ?_
  refine L_y rfl (y_move rfl) rfl ?_
  refine L_case 19 rfl (fun hg3_4 => ?_) (fun hg3_4 => ?_)
  · exact absurd (of_decide_eq_true hg3_4) (by omega)
  · skip
    refine L_y rfl (y_move rfl) rfl ?_
    refine L_y rfl (y_gtr rfl rfl) rfl ?_
    refine L_y rfl (y_pick_f rfl rfl) rfl ?_
    refine L_nil ?_
    refine C_cond rfl (fun hc1 => ?_) (fun hc1 => absurd hc1 (by simp <;> omega))
    refine C_seq ?_
    refine C_region ?_
    refine L_y rfl (y_assign rfl) rfl ?_
    refine L_nil ?_
    refine C_ret ?_
    refine B_ret (rv_tmp rfl rv_nil) (HSub.refl _) ?_
    rfl

theorem reads_t {w0 : World} {H : Hp} {a : Option Addr} {cap : Nat} (n : Int) (ds : List DeedM) (hL : Holds w0 H a (deeds ds)) (h30 : ¬ 30 < ds.length) (hn : n ≤ 20) : FnS Try.prog w0 7 #[.int .i64 n, .slice a ds.length cap, .bool true] H (fun e H' => e = .returned (.bool true)) := by
  refine FnS_intro (n := 108) (rs := [.tmp 6]) (vs := [.int .i64 n, .slice a ds.length cap, .bool true]) Try.func7 rfl Try.ntmps7 rfl rfl ?_
  refine C_seq ?_
  refine C_region ?_
  refine L_y rfl (y_assign rfl) rfl ?_
  refine L_nil ?_
  refine C_seq ?_
  refine C_seq ?_
  refine C_region ?_
  refine L_op rfl (op_call rfl rfl (fun a w => Try.call20 a w) rfl ?_)
  refine awake08_s.mono ?_
  rintro _ _ ⟨rfl, e⟩
  obtain rfl := e.symm
  refine ⟨_, rfl, ?_⟩
  refine L_y rfl (y_not rfl) rfl ?_
  refine L_nil ?_
  refine C_cond_f rfl ?_
  refine C_skip ?_
  refine C_seq ?_
  refine C_seq ?_
  refine C_region ?_
  refine L_y rfl (y_move rfl) rfl ?_
  refine L_y rfl (y_lenS rfl rfl Try.underlying55) rfl ?_
  refine L_y rfl (y_gtr rfl rfl) rfl ?_
  refine L_y rfl (y_move rfl) rfl ?_
  refine L_case 19 rfl (fun hg3_4 => ?_) (fun hg3_4 => ?_)
  · exact absurd (of_decide_eq_true hg3_4) (by omega)
  · skip
    refine L_y rfl (y_move rfl) rfl ?_
    refine L_y rfl (y_gtr rfl rfl) rfl ?_
    refine L_y rfl (y_pick_f rfl rfl) rfl ?_
    refine L_nil ?_
    refine C_cond rfl (fun hc1 => absurd hc1 (by simp <;> omega)) (fun hc1 => ?_)
    refine C_skip ?_
    refine C_seq ?_
    refine C_region ?_
    refine L_y rfl (y_move rfl) rfl ?_
    refine L_op rfl (op_call rfl rfl (fun a w => Try.call22 a w) rfl ?_)
    refine (new_ln n).mono ?_
    rintro _ _ ⟨d1, p1, hG1, ha1, hP1, rfl, rfl⟩
    have hA1 : d1.a = Ab.new (szOf n) := by rw [ha1] <;> (rfl)
    have hb1 : d1.b = d1.b := rfl
    refine ⟨_, rfl, ?_⟩
    refine L_y rfl (y_assign rfl) rfl ?_
    refine L_nil ?_
    refine C_seq ?_
    refine C_region ?_
    refine L_y rfl (y_move rfl) rfl ?_
    refine L_y rfl (y_max rfl rfl) rfl ?_
    refine L_op rfl (op_makeSlice rfl Try.underlying48 by_44 sz_44 zl_44 rfl (by omega) (by omega) (by omega) rfl (fun B1 => ?_))
    refine L_y rfl (y_assign rfl) rfl ?_
    refine L_nil ?_
    rw [zsecs, szOf_max hn]
    refine C_seq ?_
    refine C_seq ?_
    refine C_region ?_
    refine L_y rfl (y_assign rfl) rfl ?_
    refine L_nil ?_
    refine C_block ?_
    refine C_loop (ι := Dv × Pw × Nat × List Sec) (fun i => [(1, .slice a ds.length cap), (2, .bool true), (7, ptr d1.b), (8, .slice (some ⟨B1, 0, none⟩) (szOf n) (szOf n)), (9, .int .i64 (i.2.2.1 : Int))]) (fun i => i.1.o dt :: i.1.t dt :: i.1.q dt :: i.2.1.o dt :: i.2.1.q dt :: [(B1, .cells (bs (i.2.2.2).flatten).toArray 44)] :: H) (fun i => GOk dt i.2.1 [] i.1 [] ∧ i.1.b = d1.b ∧ i.2.1.b = p1.b ∧ i.2.1.a = q0 ∧ RdW (szOf n) i.2.2.2 i.1.a i.2.2.1 ∧ (∀ s ∈ i.2.2.2, s.length = 128) ∧ i.2.2.1 ≤ ds.length) (fun i => ds.length - i.2.2.1) (d1, p1, 0, List.replicate (szOf n) (secOf 0)) ⟨hG1, hb1, rfl, hP1, by rw [hA1]; exact RdW.new (by have := szOf_le hn; omega), fun s hs => by rw [List.eq_of_mem_replicate hs, secOf_len], Nat.zero_le _⟩ ⟨rfl, rfl, rfl, rfl, rfl, trivial⟩ (hsub_pick [1, 1, 1, 1, 1] rfl) (fun i hi => ?_)
    obtain ⟨d, p, i, W⟩ := i
    obtain ⟨hG, hb, pb, hP, hR, hWo, hi⟩ := hi
    simp only at hG hb pb hP hR hWo hi
    obtain ⟨A, hA⟩ : ∃ A, d.a = A := ⟨_, rfl⟩
    rw [hA] at hR
    have hK := szOf_le hn
    dsimp only
    refine C_seq ?_
    refine C_seq ?_
    refine C_region ?_
    refine L_y rfl (y_move rfl) rfl ?_
    refine L_y rfl (y_move rfl) rfl ?_
    refine L_y rfl (y_lenS rfl rfl Try.underlying55) rfl ?_
    refine L_y rfl (y_lss rfl rfl) rfl ?_
    refine L_nil ?_
    refine C_cond rfl (fun hc2 => ?_) (fun hc2 => ?_)
    · replace hc2 := of_decide_eq_true hc2
      refine C_skip ?_
      refine C_seq ?_
      refine C_block ?_
      refine C_seq ?_
      obtain ⟨x, hx⟩ : ∃ x, ds[i]? = some x := ⟨_, List.getElem?_eq_getElem (by omega)⟩
      obtain ⟨b1, o1, l1, T1, fr1, rfl, hs1, hle1, hv1⟩ := hL (by rw [deeds_len]; omega)
      refine C_regionH H (by kernel_rfl) ?_
      refine H_y 0 rfl (by kernel_rfl) (by kernel_rfl) (by kernel_rfl) (hsub (.cons _ (.cons _ (.cons _ (.cons _ (.cons _ (.cons _ (.refl _)))))))) rfl (y_move rfl) rfl ?_
      refine H_y 1 rfl (by kernel_rfl) (by kernel_rfl) (by kernel_rfl) (hsub (.cons _ (.cons _ (.cons _ (.cons _ (.cons _ (.cons _ (.refl _)))))))) rfl (y_move rfl) rfl ?_
      refine H_y 2 rfl (by kernel_rfl) (by kernel_rfl) (by kernel_rfl) (hsub (.cons _ (.cons _ (.cons _ (.cons _ (.cons _ (.cons _ (.refl _)))))))) rfl (y_move rfl) rfl ?_
      refine H_y 3 rfl (by kernel_rfl) (by kernel_rfl) (by kernel_rfl) (hsub (.cons _ (.cons _ (.cons _ (.cons _ (.cons _ (.cons _ (.refl _)))))))) rfl (y_indexS rfl rfl Try.underlying55 sz_57 (by omega) (by omega) (show _ = o1 + i * 5 from by simp)) rfl ?_
      refine H_y 4 rfl (by kernel_rfl) (by kernel_rfl) (by kernel_rfl) (hsub (.cons _ (.cons _ (.cons _ (.cons _ (.cons _ (.cons _ (.refl _)))))))) rfl (y_fieldAddr rfl fl_57_2) rfl ?_
      refine H_y 5 rfl (by kernel_rfl) (by kernel_rfl) (by kernel_rfl) (hsub (.cons _ (.cons _ (.cons _ (.cons _ (.cons _ (.cons _ (.refl _)))))))) rfl (y_load rfl ag_3 (hs1) (show _ = some (.int .i64 x.n) from deed_at hv1 hx (by decide))) rfl ?_
      refine H_y 6 rfl (by kernel_rfl) (by kernel_rfl) (by kernel_rfl) (hsub (.cons _ (.cons _ (.cons _ (.cons _ (.cons _ (.cons _ (.refl _)))))))) rfl (y_move rfl) rfl ?_
      refine H_y 7 rfl (by kernel_rfl) (by kernel_rfl) (by kernel_rfl) (hsub (.cons _ (.cons _ (.cons _ (.cons _ (.cons _ (.cons _ (.refl _)))))))) rfl (y_move rfl) rfl ?_
      refine H_y 8 rfl (by kernel_rfl) (by kernel_rfl) (by kernel_rfl) (hsub (.cons _ (.cons _ (.cons _ (.cons _ (.cons _ (.cons _ (.refl _)))))))) rfl (y_indexS rfl rfl Try.underlying55 sz_57 (by omega) (by omega) (show _ = o1 + i * 5 from by simp)) rfl ?_
      refine H_y 9 rfl (by kernel_rfl) (by kernel_rfl) (by kernel_rfl) (hsub (.cons _ (.cons _ (.cons _ (.cons _ (.cons _ (.cons _ (.refl _)))))))) rfl (y_fieldAddr rfl fl_57_4) rfl ?_
      refine H_y 10 rfl (by kernel_rfl) (by kernel_rfl) (by kernel_rfl) (hsub (.cons _ (.cons _ (.cons _ (.cons _ (.cons _ (.cons _ (.refl _)))))))) rfl (y_load rfl ag_5 (hs1) (show _ = some (.int .u8 (x.c.toNat : Int)) from deed_at hv1 hx (by decide))) rfl ?_
      refine H_one 11 rfl (by kernel_rfl) rfl (op_call rfl rfl (fun a w => Try.call25 a w) rfl ?_)
      refine (sector_s x.c).mono ?_
      rintro _ _ ⟨rfl, rfl⟩
      refine ⟨_, rfl, ?_⟩
      refine ⟨hsub (.cons _ (.cons _ (.cons _ (.cons _ (.cons _ (.cons _ (.refl _))))))), ?_⟩
      refine H_one 12 rfl (by kernel_rfl) rfl (op_call rfl rfl (fun a w => Try.call24 a w) rfl ?_)
      refine ((write_1 (H := (_ :: H)) hG hb x.n (secOf x.c) (secOf_len _) (by rw [hA]; have := hR.many; omega)).sub (hsub_pick [0, 0, 0, 0, 0] rfl)).mono ?_
      rintro _ _ ⟨rfl, d2, p2, hG2, hb2, ha2, hpb2, hq2, rfl⟩
      have hA2 : d2.a = (if 0 ≤ x.n ∧ x.n < ((szOf n : Nat) : Int) then A.push x.n.toNat (secOf x.c) else A) := by rw [ha2, hA, hP] <;> (exact (hR.writes x.n _).2.1)
      have hP2 : p2.a = q0 := by rw [hq2, hA, hP] <;> (exact (hR.writes x.n (secOf x.c)).2.2)
      have pb2 := hpb2.trans pb
      rw [show writeE d.a p.a x.n = (if 0 ≤ x.n ∧ x.n < ((szOf n : Nat) : Int) then 0 else 2) from by rw [hA, hP] <;> (exact (hR.writes x.n (secOf x.c)).1)]
      refine ⟨_, rfl, ?_⟩
      refine ⟨hsub (.cons _ (.cons _ (.cons _ (.cons _ (.cons _ (.cons _ (.refl _))))))), ?_⟩
      refine H_y 13 rfl (by kernel_rfl) (by kernel_rfl) (by kernel_rfl) (hsub (.cons _ (.cons _ (.cons _ (.cons _ (.cons _ (.cons _ (.refl _)))))))) rfl (y_assign rfl) rfl ?_
      refine H_done (by kernel_rfl) ?_
      refine C_seq ?_
      refine C_seq ?_
      refine C_region ?_
      refine L_y rfl (y_move rfl) rfl ?_
      refine L_y rfl (y_move rfl) rfl ?_
      refine L_y rfl (y_indexS rfl rfl Try.underlying55 sz_57 (by omega) (by omega) (show _ = o1 + i * 5 from by simp)) rfl ?_
      refine L_y rfl (y_fieldAddr rfl fl_57_2) rfl ?_
      refine L_y rfl (y_load rfl ag_3 (hs1.up.up.up.up.up.up) (show _ = some (.int .i64 x.n) from deed_at hv1 hx (by decide))) rfl ?_
      refine L_y rfl (y_lss rfl rfl) rfl ?_
      refine L_y rfl (y_move rfl) rfl ?_
      refine L_case 53 rfl (fun hg11_7 => ?_) (fun hg11_7 => ?_)
      · have q1 := of_decide_eq_true hg11_7
        refine L_skip rfl rfl ?_
        refine L_skip rfl rfl ?_
        refine L_skip rfl rfl ?_
        refine L_skip rfl rfl ?_
        refine L_skip rfl rfl ?_
        refine L_skip rfl rfl ?_
        refine L_skip rfl rfl ?_
        refine L_skip rfl rfl ?_
        refine L_y rfl (y_pick_t rfl rfl) rfl ?_
        refine L_nil ?_
        refine C_cond_t rfl ?_
        refine C_seq ?_
        refine C_seq ?_
        refine C_region ?_
        refine L_y rfl (y_move rfl) rfl ?_
        refine L_y rfl (y_nei rfl rfl) rfl ?_
        refine L_nil ?_
        refine C_cond rfl (fun hc4 => absurd hc4 (by rw [if_neg (by omega)]; decide)) (fun hc4 => ?_)
        refine C_skip ?_
        refine C_exit ?_
        refine C_region ?_
        refine L_y rfl (y_move rfl) rfl ?_
        refine L_y rfl (y_add rfl rfl (wi64 (by omega) (by omega))) rfl ?_
        refine L_y rfl (y_assign rfl) rfl ?_
        refine L_nil ?_
        exact ⟨(d2, p2, i + 1, W), ⟨hG2, hb2, pb2, hP2, by rw [hA2, if_neg (by omega)]; exact hR.mono (Nat.le_succ _), hWo, by simp only; omega⟩, by simp only; omega, ⟨rfl, rfl, rfl, rfl, rfl, trivial⟩, HSub.refl _⟩
      · have q1 := of_decide_eq_false hg11_7
        refine L_y rfl (y_move rfl) rfl ?_
        refine L_y rfl (y_move rfl) rfl ?_
        refine L_y rfl (y_indexS rfl rfl Try.underlying55 sz_57 (by omega) (by omega) (show _ = o1 + i * 5 from by simp)) rfl ?_
        refine L_y rfl (y_fieldAddr rfl fl_57_2) rfl ?_
        refine L_y rfl (y_load rfl ag_3 (hs1.up.up.up.up.up.up) (show _ = some (.int .i64 x.n) from deed_at hv1 hx (by decide))) rfl ?_
        refine L_y rfl (y_move rfl) rfl ?_
        refine L_y rfl (y_lenS rfl rfl Try.underlying48) rfl ?_
        refine L_y rfl (y_geq rfl rfl) rfl ?_
        refine L_y rfl (y_pick_f rfl rfl) rfl ?_
        refine L_nil ?_
        refine C_cond rfl (fun hc3 => ?_) (fun hc3 => ?_)
        · replace hc3 := of_decide_eq_true hc3
          refine C_seq ?_
          refine C_seq ?_
          refine C_region ?_
          refine L_y rfl (y_move rfl) rfl ?_
          refine L_y rfl (y_nei rfl rfl) rfl ?_
          refine L_nil ?_
          refine C_cond rfl (fun hc4 => absurd hc4 (by rw [if_neg (by omega)]; decide)) (fun hc4 => ?_)
          refine C_skip ?_
          refine C_exit ?_
          refine C_region ?_
          refine L_y rfl (y_move rfl) rfl ?_
          refine L_y rfl (y_add rfl rfl (wi64 (by omega) (by omega))) rfl ?_
          refine L_y rfl (y_assign rfl) rfl ?_
          refine L_nil ?_
          exact ⟨(d2, p2, i + 1, W), ⟨hG2, hb2, pb2, hP2, by rw [hA2, if_neg (by omega)]; exact hR.mono (Nat.le_succ _), hWo, by simp only; omega⟩, by simp only; omega, ⟨rfl, rfl, rfl, rfl, rfl, trivial⟩, HSub.refl _⟩
        · replace hc3 := of_decide_eq_false hc3
          refine C_skip ?_
          refine C_seq ?_
          refine C_seq ?_
          refine C_region ?_
          refine L_y rfl (y_move rfl) rfl ?_
          refine L_y rfl (y_nei rfl rfl) rfl ?_
          refine L_nil ?_
          refine C_cond rfl (fun hc5 => absurd hc5 (by rw [if_pos (by omega)]; decide)) (fun hc5 => ?_)
          refine C_skip ?_
          refine C_seq ?_
          rw [if_pos (show 0 ≤ x.n ∧ x.n < ((szOf n : Nat) : Int) from ⟨by omega, by omega⟩)] at hA2
          have hR1 := hR.write (s := secOf x.c) (show x.n.toNat < szOf n from by omega) (secOf_len _)
          have hR2 := hR1.flush
          refine C_regionH H (by kernel_rfl) ?_
          refine H_y 0 rfl (by kernel_rfl) (by kernel_rfl) (by kernel_rfl) (hsub (.cons _ (.cons _ (.cons _ (.cons _ (.cons _ (.cons _ (.refl _)))))))) rfl (y_move rfl) rfl ?_
          refine H_y 1 rfl (by kernel_rfl) (by kernel_rfl) (by kernel_rfl) (hsub (.cons _ (.cons _ (.cons _ (.cons _ (.cons _ (.cons _ (.refl _)))))))) rfl (y_move rfl) rfl ?_
          refine H_y 2 rfl (by kernel_rfl) (by kernel_rfl) (by kernel_rfl) (hsub (.cons _ (.cons _ (.cons _ (.cons _ (.cons _ (.cons _ (.refl _)))))))) rfl (y_move rfl) rfl ?_
          refine H_y 3 rfl (by kernel_rfl) (by kernel_rfl) (by kernel_rfl) (hsub (.cons _ (.cons _ (.cons _ (.cons _ (.cons _ (.cons _ (.refl _)))))))) rfl (y_indexS rfl rfl Try.underlying55 sz_57 (by omega) (by omega) (show _ = o1 + i * 5 from by simp)) rfl ?_
          refine H_y 4 rfl (by kernel_rfl) (by kernel_rfl) (by kernel_rfl) (hsub (.cons _ (.cons _ (.cons _ (.cons _ (.cons _ (.cons _ (.refl _)))))))) rfl (y_fieldAddr rfl fl_57_2) rfl ?_
          refine H_y 5 rfl (by kernel_rfl) (by kernel_rfl) (by kernel_rfl) (hsub (.cons _ (.cons _ (.cons _ (.cons _ (.cons _ (.cons _ (.refl _)))))))) rfl (y_load rfl ag_3 (hs1) (show _ = some (.int .i64 x.n) from deed_at hv1 hx (by decide))) rfl ?_
          refine H_y 6 rfl (by kernel_rfl) (by kernel_rfl) (by kernel_rfl) (hsub (.cons _ (.cons _ (.cons _ (.cons _ (.cons _ (.cons _ (.refl _)))))))) rfl (y_move rfl) rfl ?_
          refine H_y 7 rfl (by kernel_rfl) (by kernel_rfl) (by kernel_rfl) (hsub (.cons _ (.cons _ (.cons _ (.cons _ (.cons _ (.cons _ (.refl _)))))))) rfl (y_move rfl) rfl ?_
          refine H_y 8 rfl (by kernel_rfl) (by kernel_rfl) (by kernel_rfl) (hsub (.cons _ (.cons _ (.cons _ (.cons _ (.cons _ (.cons _ (.refl _)))))))) rfl (y_indexS rfl rfl Try.underlying55 sz_57 (by omega) (by omega) (show _ = o1 + i * 5 from by simp)) rfl ?_
          refine H_y 9 rfl (by kernel_rfl) (by kernel_rfl) (by kernel_rfl) (hsub (.cons _ (.cons _ (.cons _ (.cons _ (.cons _ (.cons _ (.refl _)))))))) rfl (y_fieldAddr rfl fl_57_4) rfl ?_
          refine H_y 10 rfl (by kernel_rfl) (by kernel_rfl) (by kernel_rfl) (hsub (.cons _ (.cons _ (.cons _ (.cons _ (.cons _ (.cons _ (.refl _)))))))) rfl (y_load rfl ag_5 (hs1) (show _ = some (.int .u8 (x.c.toNat : Int)) from deed_at hv1 hx (by decide))) rfl ?_
          refine H_one 11 rfl (by kernel_rfl) rfl (op_call rfl rfl (fun a w => Try.call25 a w) rfl ?_)
          refine (sector_s x.c).mono ?_
          rintro _ _ ⟨rfl, rfl⟩
          refine ⟨_, rfl, ?_⟩
          refine ⟨hsub (.cons _ (.cons _ (.cons _ (.cons _ (.cons _ (.cons _ (.refl _))))))), ?_⟩
          refine H_y 12 rfl (by kernel_rfl) (by kernel_rfl) (by kernel_rfl) (hsub (.cons _ (.cons _ (.cons _ (.cons _ (.cons _ (.cons _ (.refl _)))))))) rfl (y_indexS rfl rfl Try.underlying48 sz_44 (by omega) (by omega) (show _ = x.n.toNat * 128 from by simp)) rfl ?_
          refine H_one 13 rfl (by kernel_rfl) rfl (op_store 5 0 rfl rfl rfl sz_44 (by rw [bs_length, secOf_len]) rfl (bs_one _) (by rw [bs_length, flat_len hWo, hR.wlen]; omega) ?_)
          rw [flat_spl hWo (by rw [hR.wlen]; omega) (secOf_len _)]
          refine ⟨hsub (.cons _ (.cons _ (.cons _ (.cons _ (.cons _ (.cons _ (.refl _))))))), ?_⟩
          refine H_done (by kernel_rfl) ?_
          refine C_seq ?_
          refine C_seq ?_
          refine C_region ?_
          refine L_y rfl (y_move rfl) rfl ?_
          refine L_y rfl (y_move rfl) rfl ?_
          refine L_y rfl (y_move rfl) rfl ?_
          refine L_op rfl (op_call rfl rfl (fun a w => Try.call27 a w) rfl ?_)
          refine ((flush_1 (H := (_ :: H)) hG2 hb2).sub (hsub_pick [0, 0, 0, 0, 0] rfl)).mono ?_
          rintro _ _ ⟨rfl, d3, p3, hG3, hb3, ha3, hpb3, hq3, rfl⟩
          have hA3 : d3.a = (A.push x.n.toNat (secOf x.c)).flush := by rw [ha3, hA2, hP2] <;> (exact hR1.flushes.2.1)
          have hP3 : p3.a = q0 := by rw [hq3, hA2, hP2] <;> (exact hR1.flushes.2.2)
          have pb3 := hpb3.trans pb2
          rw [show flushE d2.a p2.a = 0 from by rw [hA2, hP2] <;> (exact hR1.flushes.1)]
          refine ⟨_, rfl, ?_⟩
          refine L_y rfl (y_nei rfl rfl) rfl ?_
          refine L_y rfl (y_pick_t rfl rfl) rfl ?_
          refine L_nil ?_
          refine C_cond_f rfl ?_
          refine C_skip ?_
          refine C_seq ?_
          refine C_region ?_
          refine L_y rfl (y_assign rfl) rfl ?_
          refine L_nil ?_
          refine C_block ?_
          refine C_loop (ι := Nat) (fun k => [(1, .slice (some ⟨b1, o1, none⟩) ds.length cap), (2, .bool true), (7, ptr d1.b), (8, .slice (some ⟨B1, 0, none⟩) (szOf n) (szOf n)), (9, .int .i64 (i : Int)), (11, .int .i64 (k : Int))]) (fun k => d3.o dt :: d3.t dt :: d3.q dt :: p3.o dt :: p3.q dt :: [(B1, .cells (bs (W.set x.n.toNat (secOf x.c)).flatten).toArray 44)] :: H) (fun k => k ≤ szOf n) (fun k => szOf n - k) 0 (Nat.zero_le _) ⟨rfl, rfl, rfl, rfl, rfl, rfl, trivial⟩ (HSub.refl _) (fun k hk => ?_)
          skip
          refine C_seq ?_
          refine C_seq ?_
          refine C_region ?_
          refine L_y rfl (y_move rfl) rfl ?_
          refine L_y rfl (y_move rfl) rfl ?_
          refine L_y rfl (y_lenS rfl rfl Try.underlying48) rfl ?_
          refine L_y rfl (y_lss rfl rfl) rfl ?_
          refine L_nil ?_
          refine C_cond rfl (fun hc7 => ?_) (fun hc7 => ?_)
          · replace hc7 := of_decide_eq_true hc7
            refine C_skip ?_
            refine C_seq ?_
            refine C_block ?_
            refine C_seq ?_
            obtain ⟨t, ht⟩ : ∃ t, (W.set x.n.toNat (secOf x.c))[k]? = some t := ⟨_, List.getElem?_eq_getElem (by rw [List.length_set, hR.wlen]; omega)⟩
            have ht128 : t.length = 128 := set_ok hWo (secOf_len _) t (List.mem_of_getElem? ht)
            refine C_region ?_
            refine L_y rfl (y_move rfl) rfl ?_
            refine L_y rfl (y_move rfl) rfl ?_
            refine L_op rfl (op_call rfl rfl (fun a w => Try.call33 a w) rfl ?_)
            refine ((read_l (H := (_ :: H)) (L := []) (R := []) hG3 hb3 (k : Int)).sub (hsub_pick [0, 0, 0, 0, 0] rfl)).mono ?_
            rintro _ _ ⟨rfl, rfl⟩
            rw [hA3, hP3, (hR2.reads ht).1, (hR2.reads ht).2]
            refine ⟨_, rfl, ?_⟩
            refine L_y rfl (y_move rfl) rfl ?_
            refine L_y rfl (y_extract rfl rfl) rfl ?_
            refine L_y rfl (y_extract rfl rfl) rfl ?_
            refine L_op rfl (op_alloc zl_44 rfl (fun B2 => ?_))
            refine L_op rfl (op_storeA 0 0 rfl rfl rfl sz_44 (by rw [bs_length, ht128]) rfl (bs_one _) (by simp) ?_)
            refine L_y rfl (y_assign rfl) rfl ?_
            refine L_nil ?_
            refine C_seq ?_
            refine C_regionH0 (by kernel_rfl) ?_
            refine H_y 0 rfl (by kernel_rfl) (by kernel_rfl) (by kernel_rfl) (HSub.refl _) rfl (y_move rfl) rfl ?_
            refine H_y 1 rfl (by kernel_rfl) (by kernel_rfl) (by kernel_rfl) (HSub.refl _) rfl (y_nei rfl rfl) rfl ?_
            refine H_y 2 rfl (by kernel_rfl) (by kernel_rfl) (by kernel_rfl) (HSub.refl _) rfl (y_move rfl) rfl ?_
            refine H_y 3 rfl (by kernel_rfl) (by kernel_rfl) (by kernel_rfl) (HSub.refl _) rfl (y_loadA rfl ag_44 sz_44 (sees 0 0 rfl) (by rw [bs_length, ht128]; decide) (bs_whole0 _ ht128)) rfl ?_
            refine H_y 4 rfl (by kernel_rfl) (by kernel_rfl) (by kernel_rfl) (HSub.refl _) rfl (y_move rfl) rfl ?_
            refine H_y 5 rfl (by kernel_rfl) (by kernel_rfl) (by kernel_rfl) (HSub.refl _) rfl (y_move rfl) rfl ?_
            refine H_y 6 rfl (by kernel_rfl) (by kernel_rfl) (by kernel_rfl) (HSub.refl _) rfl (y_indexS rfl rfl Try.underlying48 sz_44 (by omega) (by omega) (show _ = 0 + k * 128 from by simp)) rfl ?_
            refine H_y 7 rfl (by kernel_rfl) (by kernel_rfl) (by kernel_rfl) (HSub.refl _) rfl (y_loadA rfl ag_44 sz_44 (sees 6 0 rfl) (by rw [bs_length, flat_len (set_ok hWo (secOf_len _)), List.length_set, hR.wlen]; omega) (sec_at (n := 0) (A := W.set x.n.toNat (secOf x.c)) (set_ok hWo (secOf_len _)) (by simp) ht)) rfl ?_
            refine H_y 8 rfl (by kernel_rfl) (by kernel_rfl) (by kernel_rfl) (HSub.refl _) rfl (y_nea rfl rfl Try.underlying44 Try.underlying5 sz_5 eg_44 ht128 ht128) rfl ?_
            refine H_y 9 rfl (by kernel_rfl) (by kernel_rfl) (by kernel_rfl) (HSub.refl _) rfl (y_pick_f rfl rfl) rfl ?_
            refine H_done (by kernel_rfl) ?_
            refine C_cond rfl (fun hc8 => absurd hc8 (by simp)) (fun hc8 => ?_)
            refine C_skip ?_
            refine C_region ?_
            refine L_y rfl (y_move rfl) rfl ?_
            refine L_y rfl (y_add rfl rfl (wi64 (by omega) (by omega))) rfl ?_
            refine L_y rfl (y_assign rfl) rfl ?_
            refine L_nil ?_
            exact ⟨k + 1, by omega, by omega, ⟨rfl, rfl, rfl, rfl, rfl, rfl, trivial⟩, hsub (.cons _ (.refl _))⟩
          · replace hc7 := of_decide_eq_false hc7
            refine C_exit ?_
            refine C_region ?_
            refine L_y rfl (y_move rfl) rfl ?_
            refine L_y rfl (y_add rfl rfl (wi64 (by omega) (by omega))) rfl ?_
            refine L_y rfl (y_assign rfl) rfl ?_
            refine L_nil ?_
            exact ⟨(d3, p3, i + 1, (W.set x.n.toNat (secOf x.c))), ⟨hG3, hb3, pb3, hP3, by rw [hA3]; exact hR2.mono (by simp only; omega), set_ok hWo (secOf_len _), by simp only; omega⟩, by simp only; omega, ⟨rfl, rfl, rfl, rfl, rfl, trivial⟩, HSub.refl _⟩
    · replace hc2 := of_decide_eq_false hc2
      refine C_exit ?_
      refine C_seq ?_
      refine C_region ?_
      refine L_y rfl (y_assign rfl) rfl ?_
      refine L_nil ?_
      refine C_ret ?_
      refine B_ret (rv_tmp rfl rv_nil) (HSub.refl _) ?_
      rfl

theorem reads_f {w0 : World} {H : Hp} {a : Option Addr} {cap : Nat} (n : Int) (ds : List DeedM) (hL : Holds w0 H a (deeds ds)) (h30 : ¬ 30 < ds.length) (hn : n ≤ 20) : FnS Try.prog w0 7 #[.int .i64 n, .slice a ds.length cap, .bool false] H (fun e H' => e = .returned (.bool true)) := by
  refine FnS_intro (n := 108) (rs := [.tmp 6]) (vs := [.int .i64 n, .slice a ds.length cap, .bool false]) Try.func7 rfl Try.ntmps7 rfl rfl ?_
  refine C_seq ?_
  refine C_region ?_
  refine L_y rfl (y_assign rfl) rfl ?_
  refine L_nil ?_
  refine C_seq ?_
  refine C_seq ?_
  refine C_region ?_
  refine L_op rfl (op_call rfl rfl (fun a w => Try.call20 a w) rfl ?_)
  refine awake08_s.mono ?_
  rintro _ _ ⟨rfl, e⟩
  obtain rfl := e.symm
  refine ⟨_, rfl, ?_⟩
  refine L_y rfl (y_not rfl) rfl ?_
  refine L_nil ?_
  refine C_cond_f rfl ?_
  refine C_skip ?_
  refine C_seq ?_
  refine C_seq ?_
  refine C_region ?_
  refine L_y rfl (y_move rfl) rfl ?_
  refine L_y rfl (y_lenS rfl rfl Try.underlying55) rfl ?_
  refine L_y rfl (y_gtr rfl rfl) rfl ?_
  refine L_y rfl (y_move rfl) rfl ?_
  refine L_case 19 rfl (fun hg3_4 => ?_) (fun hg3_4 => ?_)
  · exact absurd (of_decide_eq_true hg3_4) (by omega)
  · skip
    refine L_y rfl (y_move rfl) rfl ?_
    refine L_y rfl (y_gtr rfl rfl) rfl ?_
    refine L_y rfl (y_pick_f rfl rfl) rfl ?_
    refine L_nil ?_
    refine C_cond rfl (fun hc1 => absurd hc1 (by simp <;> omega)) (fun hc1 => ?_)
    refine C_skip ?_
    refine C_seq ?_
    refine C_region ?_
    refine L_y rfl (y_move rfl) rfl ?_
    refine L_op rfl (op_call rfl rfl (fun a w => Try.call22 a w) rfl ?_)
    refine (new_ln n).mono ?_
    rintro _ _ ⟨d1, p1, hG1, ha1, hP1, rfl, rfl⟩
    have hA1 : d1.a = Ab.new (szOf n) := by rw [ha1] <;> (rfl)
    have hb1 : d1.b = d1.b := rfl
    refine ⟨_, rfl, ?_⟩
    refine L_y rfl (y_assign rfl) rfl ?_
    refine L_nil ?_
    refine C_seq ?_
    refine C_region ?_
    refine L_y rfl (y_move rfl) rfl ?_
    refine L_y rfl (y_max rfl rfl) rfl ?_
    refine L_op rfl (op_makeSlice rfl Try.underlying48 by_44 sz_44 zl_44 rfl (by omega) (by omega) (by omega) rfl (fun B1 => ?_))
    refine L_y rfl (y_assign rfl) rfl ?_
    refine L_nil ?_
    rw [zsecs, szOf_max hn]
    refine C_seq ?_
    refine C_seq ?_
    refine C_region ?_
    refine L_y rfl (y_assign rfl) rfl ?_
    refine L_nil ?_
    refine C_block ?_
    refine C_loop (ι := Dv × Pw × Nat × List Sec) (fun i => [(1, .slice a ds.length cap), (2, .bool false), (7, ptr d1.b), (8, .slice (some ⟨B1, 0, none⟩) (szOf n) (szOf n)), (9, .int .i64 (i.2.2.1 : Int))]) (fun i => i.1.o dt :: i.1.t dt :: i.1.q dt :: i.2.1.o dt :: i.2.1.q dt :: [(B1, .cells (bs (i.2.2.2).flatten).toArray 44)] :: H) (fun i => GOk dt i.2.1 [] i.1 [] ∧ i.1.b = d1.b ∧ i.2.1.b = p1.b ∧ i.2.1.a = q0 ∧ RdW (szOf n) i.2.2.2 i.1.a i.2.2.1 ∧ (∀ s ∈ i.2.2.2, s.length = 128) ∧ i.2.2.1 ≤ ds.length) (fun i => ds.length - i.2.2.1) (d1, p1, 0, List.replicate (szOf n) (secOf 0)) ⟨hG1, hb1, rfl, hP1, by rw [hA1]; exact RdW.new (by have := szOf_le hn; omega), fun s hs => by rw [List.eq_of_mem_replicate hs, secOf_len], Nat.zero_le _⟩ ⟨rfl, rfl, rfl, rfl, rfl, trivial⟩ (hsub_pick [1, 1, 1, 1, 1] rfl) (fun i hi => ?_)
    obtain ⟨d, p, i, W⟩ := i
    obtain ⟨hG, hb, pb, hP, hR, hWo, hi⟩ := hi
    simp only at hG hb pb hP hR hWo hi
    obtain ⟨A, hA⟩ : ∃ A, d.a = A := ⟨_, rfl⟩
    rw [hA] at hR
    have hK := szOf_le hn
    dsimp only
    refine C_seq ?_
    refine C_seq ?_
    refine C_region ?_
    refine L_y rfl (y_move rfl) rfl ?_
    refine L_y rfl (y_move rfl) rfl ?_
    refine L_y rfl (y_lenS rfl rfl Try.underlying55) rfl ?_
    refine L_y rfl (y_lss rfl rfl) rfl ?_
    refine L_nil ?_
    refine C_cond rfl (fun hc2 => ?_) (fun hc2 => ?_)
    · replace hc2 := of_decide_eq_true hc2
      refine C_skip ?_
      refine C_seq ?_
      refine C_block ?_
      refine C_seq ?_
      obtain ⟨x, hx⟩ : ∃ x, ds[i]? = some x := ⟨_, List.getElem?_eq_getElem (by omega)⟩
      obtain ⟨b1, o1, l1, T1, fr1, rfl, hs1, hle1, hv1⟩ := hL (by rw [deeds_len]; omega)
      refine C_regionH H (by kernel_rfl) ?_
      refine H_y 0 rfl (by kernel_rfl) (by kernel_rfl) (by kernel_rfl) (hsub (.cons _ (.cons _ (.cons _ (.cons _ (.cons _ (.cons _ (.refl _)))))))) rfl (y_move rfl) rfl ?_
      refine H_y 1 rfl (by kernel_rfl) (by kernel_rfl) (by kernel_rfl) (hsub (.cons _ (.cons _ (.cons _ (.cons _ (.cons _ (.cons _ (.refl _)))))))) rfl (y_move rfl) rfl ?_
      refine H_y 2 rfl (by kernel_rfl) (by kernel_rfl) (by kernel_rfl) (hsub (.cons _ (.cons _ (.cons _ (.cons _ (.cons _ (.cons _ (.refl _)))))))) rfl (y_move rfl) rfl ?_
      refine H_y 3 rfl (by kernel_rfl) (by kernel_rfl) (by kernel_rfl) (hsub (.cons _ (.cons _ (.cons _ (.cons _ (.cons _ (.cons _ (.refl _)))))))) rfl (y_indexS rfl rfl Try.underlying55 sz_57 (by omega) (by omega) (show _ = o1 + i * 5 from by simp)) rfl ?_
      refine H_y 4 rfl (by kernel_rfl) (by kernel_rfl) (by kernel_rfl) (hsub (.cons _ (.cons _ (.cons _ (.cons _ (.cons _ (.cons _ (.refl _)))))))) rfl (y_fieldAddr rfl fl_57_2) rfl ?_
      refine H_y 5 rfl (by kernel_rfl) (by kernel_rfl) (by kernel_rfl) (hsub (.cons _ (.cons _ (.cons _ (.cons _ (.cons _ (.cons _ (.refl _)))))))) rfl (y_load rfl ag_3 (hs1) (show _ = some (.int .i64 x.n) from deed_at hv1 hx (by decide))) rfl ?_
      refine H_y 6 rfl (by kernel_rfl) (by kernel_rfl) (by kernel_rfl) (hsub (.cons _ (.cons _ (.cons _ (.cons _ (.cons _ (.cons _ (.refl _)))))))) rfl (y_move rfl) rfl ?_
      refine H_y 7 rfl (by kernel_rfl) (by kernel_rfl) (by kernel_rfl) (hsub (.cons _ (.cons _ (.cons _ (.cons _ (.cons _ (.cons _ (.refl _)))))))) rfl (y_move rfl) rfl ?_
      refine H_y 8 rfl (by kernel_rfl) (by kernel_rfl) (by kernel_rfl) (hsub (.cons _ (.cons _ (.cons _ (.cons _ (.cons _ (.cons _ (.refl _)))))))) rfl (y_indexS rfl rfl Try.underlying55 sz_57 (by omega) (by omega) (show _ = o1 + i * 5 from by simp)) rfl ?_
      refine H_y 9 rfl (by kernel_rfl) (by kernel_rfl) (by kernel_rfl) (hsub (.cons _ (.cons _ (.cons _ (.cons _ (.cons _ (.cons _ (.refl _)))))))) rfl (y_fieldAddr rfl fl_57_4) rfl ?_
      refine H_y 10 rfl (by kernel_rfl) (by kernel_rfl) (by kernel_rfl) (hsub (.cons _ (.cons _ (.cons _ (.cons _ (.cons _ (.cons _ (.refl _)))))))) rfl (y_load rfl ag_5 (hs1) (show _ = some (.int .u8 (x.c.toNat : Int)) from deed_at hv1 hx (by decide))) rfl ?_
      refine H_one 11 rfl (by kernel_rfl) rfl (op_call rfl rfl (fun a w => Try.call25 a w) rfl ?_)
      refine (sector_s x.c).mono ?_
      rintro _ _ ⟨rfl, rfl⟩
      refine ⟨_, rfl, ?_⟩
      refine ⟨hsub (.cons _ (.cons _ (.cons _ (.cons _ (.cons _ (.cons _ (.refl _))))))), ?_⟩
      refine H_one 12 rfl (by kernel_rfl) rfl (op_call rfl rfl (fun a w => Try.call24 a w) rfl ?_)
      refine ((write_1 (H := (_ :: H)) hG hb x.n (secOf x.c) (secOf_len _) (by rw [hA]; have := hR.many; omega)).sub (hsub_pick [0, 0, 0, 0, 0] rfl)).mono ?_
      rintro _ _ ⟨rfl, d2, p2, hG2, hb2, ha2, hpb2, hq2, rfl⟩
      have hA2 : d2.a = (if 0 ≤ x.n ∧ x.n < ((szOf n : Nat) : Int) then A.push x.n.toNat (secOf x.c) else A) := by rw [ha2, hA, hP] <;> (exact (hR.writes x.n _).2.1)
      have hP2 : p2.a = q0 := by rw [hq2, hA, hP] <;> (exact (hR.writes x.n (secOf x.c)).2.2)
      have pb2 := hpb2.trans pb
      rw [show writeE d.a p.a x.n = (if 0 ≤ x.n ∧ x.n < ((szOf n : Nat) : Int) then 0 else 2) from by rw [hA, hP] <;> (exact (hR.writes x.n (secOf x.c)).1)]
      refine ⟨_, rfl, ?_⟩
      refine ⟨hsub (.cons _ (.cons _ (.cons _ (.cons _ (.cons _ (.cons _ (.refl _))))))), ?_⟩
      refine H_y 13 rfl (by kernel_rfl) (by kernel_rfl) (by kernel_rfl) (hsub (.cons _ (.cons _ (.cons _ (.cons _ (.cons _ (.cons _ (.refl _)))))))) rfl (y_assign rfl) rfl ?_
      refine H_done (by kernel_rfl) ?_
      refine C_seq ?_
      refine C_seq ?_
      refine C_region ?_
      refine L_y rfl (y_move rfl) rfl ?_
      refine L_y rfl (y_move rfl) rfl ?_
      refine L_y rfl (y_indexS rfl rfl Try.underlying55 sz_57 (by omega) (by omega) (show _ = o1 + i * 5 from by simp)) rfl ?_
      refine L_y rfl (y_fieldAddr rfl fl_57_2) rfl ?_
      refine L_y rfl (y_load rfl ag_3 (hs1.up.up.up.up.up.up) (show _ = some (.int .i64 x.n) from deed_at hv1 hx (by decide))) rfl ?_
      refine L_y rfl (y_lss rfl rfl) rfl ?_
      refine L_y rfl (y_move rfl) rfl ?_
      refine L_case 53 rfl (fun hg11_7 => ?_) (fun hg11_7 => ?_)
      · have q1 := of_decide_eq_true hg11_7
        refine L_skip rfl rfl ?_
        refine L_skip rfl rfl ?_
        refine L_skip rfl rfl ?_
        refine L_skip rfl rfl ?_
        refine L_skip rfl rfl ?_
        refine L_skip rfl rfl ?_
        refine L_skip rfl rfl ?_
        refine L_skip rfl rfl ?_
        refine L_y rfl (y_pick_t rfl rfl) rfl ?_
        refine L_nil ?_
        refine C_cond_t rfl ?_
        refine C_seq ?_
        refine C_seq ?_
        refine C_region ?_
        refine L_y rfl (y_move rfl) rfl ?_
        refine L_y rfl (y_nei rfl rfl) rfl ?_
        refine L_nil ?_
        refine C_cond rfl (fun hc4 => absurd hc4 (by rw [if_neg (by omega)]; decide)) (fun hc4 => ?_)
        refine C_skip ?_
        refine C_exit ?_
        refine C_region ?_
        refine L_y rfl (y_move rfl) rfl ?_
        refine L_y rfl (y_add rfl rfl (wi64 (by omega) (by omega))) rfl ?_
        refine L_y rfl (y_assign rfl) rfl ?_
        refine L_nil ?_
        exact ⟨(d2, p2, i + 1, W), ⟨hG2, hb2, pb2, hP2, by rw [hA2, if_neg (by omega)]; exact hR.mono (Nat.le_succ _), hWo, by simp only; omega⟩, by simp only; omega, ⟨rfl, rfl, rfl, rfl, rfl, trivial⟩, HSub.refl _⟩
      · have q1 := of_decide_eq_false hg11_7
        refine L_y rfl (y_move rfl) rfl ?_
        refine L_y rfl (y_move rfl) rfl ?_
        refine L_y rfl (y_indexS rfl rfl Try.underlying55 sz_57 (by omega) (by omega) (show _ = o1 + i * 5 from by simp)) rfl ?_
        refine L_y rfl (y_fieldAddr rfl fl_57_2) rfl ?_
        refine L_y rfl (y_load rfl ag_3 (hs1.up.up.up.up.up.up) (show _ = some (.int .i64 x.n) from deed_at hv1 hx (by decide))) rfl ?_
        refine L_y rfl (y_move rfl) rfl ?_
        refine L_y rfl (y_lenS rfl rfl Try.underlying48) rfl ?_
        refine L_y rfl (y_geq rfl rfl) rfl ?_
        refine L_y rfl (y_pick_f rfl rfl) rfl ?_
        refine L_nil ?_
        refine C_cond rfl (fun hc3 => ?_) (fun hc3 => ?_)
        · replace hc3 := of_decide_eq_true hc3
          refine C_seq ?_
          refine C_seq ?_
          refine C_region ?_
          refine L_y rfl (y_move rfl) rfl ?_
          refine L_y rfl (y_nei rfl rfl) rfl ?_
          refine L_nil ?_
          refine C_cond rfl (fun hc4 => absurd hc4 (by rw [if_neg (by omega)]; decide)) (fun hc4 => ?_)
          refine C_skip ?_
          refine C_exit ?_
          refine C_region ?_
          refine L_y rfl (y_move rfl) rfl ?_
          refine L_y rfl (y_add rfl rfl (wi64 (by omega) (by omega))) rfl ?_
          refine L_y rfl (y_assign rfl) rfl ?_
          refine L_nil ?_
          exact ⟨(d2, p2, i + 1, W), ⟨hG2, hb2, pb2, hP2, by rw [hA2, if_neg (by omega)]; exact hR.mono (Nat.le_succ _), hWo, by simp only; omega⟩, by simp only; omega, ⟨rfl, rfl, rfl, rfl, rfl, trivial⟩, HSub.refl _⟩
        · replace hc3 := of_decide_eq_false hc3
          refine C_skip ?_
          refine C_seq ?_
          refine C_seq ?_
          refine C_region ?_
          refine L_y rfl (y_move rfl) rfl ?_
          refine L_y rfl (y_nei rfl rfl) rfl ?_
          refine L_nil ?_
          refine C_cond rfl (fun hc5 => absurd hc5 (by rw [if_pos (by omega)]; decide)) (fun hc5 => ?_)
          refine C_skip ?_
          refine C_seq ?_
          rw [if_pos (show 0 ≤ x.n ∧ x.n < ((szOf n : Nat) : Int) from ⟨by omega, by omega⟩)] at hA2
          have hR1 := hR.write (s := secOf x.c) (show x.n.toNat < szOf n from by omega) (secOf_len _)
          have hR2 := hR1
          refine C_regionH H (by kernel_rfl) ?_
          refine H_y 0 rfl (by kernel_rfl) (by kernel_rfl) (by kernel_rfl) (hsub (.cons _ (.cons _ (.cons _ (.cons _ (.cons _ (.cons _ (.refl _)))))))) rfl (y_move rfl) rfl ?_
          refine H_y 1 rfl (by kernel_rfl) (by kernel_rfl) (by kernel_rfl) (hsub (.cons _ (.cons _ (.cons _ (.cons _ (.cons _ (.cons _ (.refl _)))))))) rfl (y_move rfl) rfl ?_
          refine H_y 2 rfl (by kernel_rfl) (by kernel_rfl) (by kernel_rfl) (hsub (.cons _ (.cons _ (.cons _ (.cons _ (.cons _ (.cons _ (.refl _)))))))) rfl (y_move rfl) rfl ?_
          refine H_y 3 rfl (by kernel_rfl) (by kernel_rfl) (by kernel_rfl) (hsub (.cons _ (.cons _ (.cons _ (.cons _ (.cons _ (.cons _ (.refl _)))))))) rfl (y_indexS rfl rfl Try.underlying55 sz_57 (by omega) (by omega) (show _ = o1 + i * 5 from by simp)) rfl ?_
          refine H_y 4 rfl (by kernel_rfl) (by kernel_rfl) (by kernel_rfl) (hsub (.cons _ (.cons _ (.cons _ (.cons _ (.cons _ (.cons _ (.refl _)))))))) rfl (y_fieldAddr rfl fl_57_2) rfl ?_
          refine H_y 5 rfl (by kernel_rfl) (by kernel_rfl) (by kernel_rfl) (hsub (.cons _ (.cons _ (.cons _ (.cons _ (.cons _ (.cons _ (.refl _)))))))) rfl (y_load rfl ag_3 (hs1) (show _ = some (.int .i64 x.n) from deed_at hv1 hx (by decide))) rfl ?_
          refine H_y 6 rfl (by kernel_rfl) (by kernel_rfl) (by kernel_rfl) (hsub (.cons _ (.cons _ (.cons _ (.cons _ (.cons _ (.cons _ (.refl _)))))))) rfl (y_move rfl) rfl ?_
          refine H_y 7 rfl (by kernel_rfl) (by kernel_rfl) (by kernel_rfl) (hsub (.cons _ (.cons _ (.cons _ (.cons _ (.cons _ (.cons _ (.refl _)))))))) rfl (y_move rfl) rfl ?_
          refine H_y 8 rfl (by kernel_rfl) (by kernel_rfl) (by kernel_rfl) (hsub (.cons _ (.cons _ (.cons _ (.cons _ (.cons _ (.cons _ (.refl _)))))))) rfl (y_indexS rfl rfl Try.underlying55 sz_57 (by omega) (by omega) (show _ = o1 + i * 5 from by simp)) rfl ?_
          refine H_y 9 rfl (by kernel_rfl) (by kernel_rfl) (by kernel_rfl) (hsub (.cons _ (.cons _ (.cons _ (.cons _ (.cons _ (.cons _ (.refl _)))))))) rfl (y_fieldAddr rfl fl_57_4) rfl ?_
          refine H_y 10 rfl (by kernel_rfl) (by kernel_rfl) (by kernel_rfl) (hsub (.cons _ (.cons _ (.cons _ (.cons _ (.cons _ (.cons _ (.refl _)))))))) rfl (y_load rfl ag_5 (hs1) (show _ = some (.int .u8 (x.c.toNat : Int)) from deed_at hv1 hx (by decide))) rfl ?_
          refine H_one 11 rfl (by kernel_rfl) rfl (op_call rfl rfl (fun a w => Try.call25 a w) rfl ?_)
          refine (sector_s x.c).mono ?_
          rintro _ _ ⟨rfl, rfl⟩
          refine ⟨_, rfl, ?_⟩
          refine ⟨hsub (.cons _ (.cons _ (.cons _ (.cons _ (.cons _ (.cons _ (.refl _))))))), ?_⟩
          refine H_y 12 rfl (by kernel_rfl) (by kernel_rfl) (by kernel_rfl) (hsub (.cons _ (.cons _ (.cons _ (.cons _ (.cons _ (.cons _ (.refl _)))))))) rfl (y_indexS rfl rfl Try.underlying48 sz_44 (by omega) (by omega) (show _ = x.n.toNat * 128 from by simp)) rfl ?_
          refine H_one 13 rfl (by kernel_rfl) rfl (op_store 5 0 rfl rfl rfl sz_44 (by rw [bs_length, secOf_len]) rfl (bs_one _) (by rw [bs_length, flat_len hWo, hR.wlen]; omega) ?_)
          rw [flat_spl hWo (by rw [hR.wlen]; omega) (secOf_len _)]
          refine ⟨hsub (.cons _ (.cons _ (.cons _ (.cons _ (.cons _ (.cons _ (.refl _))))))), ?_⟩
          refine H_done (by kernel_rfl) ?_
          refine C_seq ?_
          refine C_seq ?_
          refine C_region ?_
          refine L_y rfl (y_move rfl) rfl ?_
          refine L_y rfl (y_move rfl) rfl ?_
          refine L_skip rfl rfl ?_
          refine L_skip rfl rfl ?_
          refine L_skip rfl rfl ?_
          refine L_y rfl (y_pick_f rfl rfl) rfl ?_
          refine L_nil ?_
          refine C_cond_f rfl ?_
          refine C_skip ?_
          refine C_seq ?_
          refine C_region ?_
          refine L_y rfl (y_assign rfl) rfl ?_
          refine L_nil ?_
          refine C_block ?_
          refine C_loop (ι := Nat) (fun k => [(1, .slice (some ⟨b1, o1, none⟩) ds.length cap), (2, .bool false), (7, ptr d1.b), (8, .slice (some ⟨B1, 0, none⟩) (szOf n) (szOf n)), (9, .int .i64 (i : Int)), (11, .int .i64 (k : Int))]) (fun k => d2.o dt :: d2.t dt :: d2.q dt :: p2.o dt :: p2.q dt :: [(B1, .cells (bs (W.set x.n.toNat (secOf x.c)).flatten).toArray 44)] :: H) (fun k => k ≤ szOf n) (fun k => szOf n - k) 0 (Nat.zero_le _) ⟨rfl, rfl, rfl, rfl, rfl, rfl, trivial⟩ (HSub.refl _) (fun k hk => ?_)
          skip
          refine C_seq ?_
          refine C_seq ?_
          refine C_region ?_
          refine L_y rfl (y_move rfl) rfl ?_
          refine L_y rfl (y_move rfl) rfl ?_
          refine L_y rfl (y_lenS rfl rfl Try.underlying48) rfl ?_
          refine L_y rfl (y_lss rfl rfl) rfl ?_
          refine L_nil ?_
          refine C_cond rfl (fun hc7 => ?_) (fun hc7 => ?_)
          · replace hc7 := of_decide_eq_true hc7
            refine C_skip ?_
            refine C_seq ?_
            refine C_block ?_
            refine C_seq ?_
            obtain ⟨t, ht⟩ : ∃ t, (W.set x.n.toNat (secOf x.c))[k]? = some t := ⟨_, List.getElem?_eq_getElem (by rw [List.length_set, hR.wlen]; omega)⟩
            have ht128 : t.length = 128 := set_ok hWo (secOf_len _) t (List.mem_of_getElem? ht)
            refine C_region ?_
            refine L_y rfl (y_move rfl) rfl ?_
            refine L_y rfl (y_move rfl) rfl ?_
            refine L_op rfl (op_call rfl rfl (fun a w => Try.call33 a w) rfl ?_)
            refine ((read_l (H := (_ :: H)) (L := []) (R := []) hG2 hb2 (k : Int)).sub (hsub_pick [0, 0, 0, 0, 0] rfl)).mono ?_
            rintro _ _ ⟨rfl, rfl⟩
            rw [hA2, hP2, (hR2.reads ht).1, (hR2.reads ht).2]
            refine ⟨_, rfl, ?_⟩
            refine L_y rfl (y_move rfl) rfl ?_
            refine L_y rfl (y_extract rfl rfl) rfl ?_
            refine L_y rfl (y_extract rfl rfl) rfl ?_
            refine L_op rfl (op_alloc zl_44 rfl (fun B2 => ?_))
            refine L_op rfl (op_storeA 0 0 rfl rfl rfl sz_44 (by rw [bs_length, ht128]) rfl (bs_one _) (by simp) ?_)
            refine L_y rfl (y_assign rfl) rfl ?_
            refine L_nil ?_
            refine C_seq ?_
            refine C_regionH0 (by kernel_rfl) ?_
            refine H_y 0 rfl (by kernel_rfl) (by kernel_rfl) (by kernel_rfl) (HSub.refl _) rfl (y_move rfl) rfl ?_
            refine H_y 1 rfl (by kernel_rfl) (by kernel_rfl) (by kernel_rfl) (HSub.refl _) rfl (y_nei rfl rfl) rfl ?_
            refine H_y 2 rfl (by kernel_rfl) (by kernel_rfl) (by kernel_rfl) (HSub.refl _) rfl (y_move rfl) rfl ?_
            refine H_y 3 rfl (by kernel_rfl) (by kernel_rfl) (by kernel_rfl) (HSub.refl _) rfl (y_loadA rfl ag_44 sz_44 (sees 0 0 rfl) (by rw [bs_length, ht128]; decide) (bs_whole0 _ ht128)) rfl ?_
            refine H_y 4 rfl (by kernel_rfl) (by kernel_rfl) (by kernel_rfl) (HSub.refl _) rfl (y_move rfl) rfl ?_
            refine H_y 5 rfl (by kernel_rfl) (by kernel_rfl) (by kernel_rfl) (HSub.refl _) rfl (y_move rfl) rfl ?_
            refine H_y 6 rfl (by kernel_rfl) (by kernel_rfl) (by kernel_rfl) (HSub.refl _) rfl (y_indexS rfl rfl Try.underlying48 sz_44 (by omega) (by omega) (show _ = 0 + k * 128 from by simp)) rfl ?_
            refine H_y 7 rfl (by kernel_rfl) (by kernel_rfl) (by kernel_rfl) (HSub.refl _) rfl (y_loadA rfl ag_44 sz_44 (sees 6 0 rfl) (by rw [bs_length, flat_len (set_ok hWo (secOf_len _)), List.length_set, hR.wlen]; omega) (sec_at (n := 0) (A := W.set x.n.toNat (secOf x.c)) (set_ok hWo (secOf_len _)) (by simp) ht)) rfl ?_
            refine H_y 8 rfl (by kernel_rfl) (by kernel_rfl) (by kernel_rfl) (HSub.refl _) rfl (y_nea rfl rfl Try.underlying44 Try.underlying5 sz_5 eg_44 ht128 ht128) rfl ?_
            refine H_y 9 rfl (by kernel_rfl) (by kernel_rfl) (by kernel_rfl) (HSub.refl _) rfl (y_pick_f rfl rfl) rfl ?_
            refine H_done (by kernel_rfl) ?_
            refine C_cond rfl (fun hc8 => absurd hc8 (by simp)) (fun hc8 => ?_)
            refine C_skip ?_
            refine C_region ?_
            refine L_y rfl (y_move rfl) rfl ?_
            refine L_y rfl (y_add rfl rfl (wi64 (by omega) (by omega))) rfl ?_
            refine L_y rfl (y_assign rfl) rfl ?_
            refine L_nil ?_
            exact ⟨k + 1, by omega, by omega, ⟨rfl, rfl, rfl, rfl, rfl, rfl, trivial⟩, hsub (.cons _ (.refl _))⟩
          · replace hc7 := of_decide_eq_false hc7
            refine C_exit ?_
            refine C_region ?_
            refine L_y rfl (y_move rfl) rfl ?_
            refine L_y rfl (y_add rfl rfl (wi64 (by omega) (by omega))) rfl ?_
            refine L_y rfl (y_assign rfl) rfl ?_
            refine L_nil ?_
            exact ⟨(d2, p2, i + 1, (W.set x.n.toNat (secOf x.c))), ⟨hG2, hb2, pb2, hP2, by rw [hA2]; exact hR2.mono (by simp only; omega), set_ok hWo (secOf_len _), by simp only; omega⟩, by simp only; omega, ⟨rfl, rfl, rfl, rfl, rfl, trivial⟩, HSub.refl _⟩
    · replace hc2 := of_decide_eq_false hc2
      refine C_exit ?_
      refine C_seq ?_
      refine C_region ?_
      refine L_y rfl (y_assign rfl) rfl ?_
      refine L_nil ?_
      refine C_ret ?_
      refine B_ret (rv_tmp rfl rv_nil) (HSub.refl _) ?_
      rfl

end Go.Proofs.Ytjiojffakejgjaa
