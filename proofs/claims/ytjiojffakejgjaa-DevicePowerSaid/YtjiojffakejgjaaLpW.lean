/- walks (own work; the walks' lines by a program of this repo). -/
import Derived.Test.YtjiojffakejgjaaDaW
import Derived.Test.YtjiojffakejgjaaDuW
import Derived.Test.YtjiojffakejgjaaDx
set_option linter.unusedVariables false
set_option linter.unusedSimpArgs false
set_option maxRecDepth 20000
namespace Go.Proofs.Ytjiojffakejgjaa
open Go.Sl
attribute [local irreducible] BodyQ WpC WpL WpS WpH OpW FnS


theorem power_t {w0 : World} {H : Hp} (m : Nat) (hm : m < 256) : FnS Try.prog w0 8 #[.int .u8 (m : Int), .bool true] H (fun e H' => e = .returned (.bool true)) := by
  refine FnS_intro (n := 111) (rs := [.tmp 4]) (vs := [.int .u8 (m : Int), .bool true]) Try.func8 rfl Try.ntmps8 rfl rfl ?_
  refine C_seq ?_
  refine C_region ?_
  refine L_y rfl (y_assign rfl) rfl ?_
  refine L_nil ?_
  refine C_seq ?_
  refine C_seq ?_
  refine C_region ?_
  refine L_op rfl (op_call rfl rfl (fun a w => Try.call20 a w) rfl ?_)
  refine awake08_s.mono ?_
  rintro _ _ ⟨rfl, e⟩
  obtain rfl := e.symm
  refine ⟨_, rfl, ?_⟩
  refine L_y rfl (y_not rfl) rfl ?_
  refine L_nil ?_
  refine C_cond_f rfl ?_
  refine C_skip ?_
  refine C_seq ?_
  refine C_region ?_
  refine L_y rfl (y_move rfl) rfl ?_
  refine L_y rfl (y_conv rfl us_5 Try.underlying3 (wi64 (by omega) (by omega))) rfl ?_
  refine L_y rfl (y_rem rfl rfl (by decide) (show _ = (((m % 40) : Nat) : Int) from rfl)) rfl ?_
  refine L_y rfl (y_assign rfl) rfl ?_
  refine L_nil ?_
  refine C_seq ?_
  refine C_region ?_
  refine L_op rfl (op_call rfl rfl (fun a w => Try.call21 a w) rfl ?_)
  refine newpower_l.mono ?_
  rintro _ _ ⟨p1, hpk1, hdv1, hP1, rfl, rfl⟩
  refine ⟨_, rfl, ?_⟩
  refine L_y rfl (y_assign rfl) rfl ?_
  refine L_nil ?_
  refine C_seq ?_
  refine C_region ?_
  refine L_y rfl (y_move rfl) rfl ?_
  refine L_op rfl (op_call rfl rfl (fun a w => Try.call22 a w) rfl ?_)
  refine ((new_l (H := (H)) (rfl : p1.b = _) hpk1 hdv1 3).sub (hsub_pick [0, 0] rfl)).mono ?_
  rintro _ _ ⟨d91, p91, hG91, pb91, ha91, hq91, rfl, rfl⟩
  have hA91 : d91.a = Ab.new 3 := by rw [ha91] <;> (rfl)
  have hP91 : p91.a = _ := hq91.trans hP1
  have hb91 : d91.b = d91.b := rfl
  refine ⟨_, rfl, ?_⟩
  refine L_y rfl (y_move rfl) rfl ?_
  refine L_op rfl (op_call rfl rfl (fun a w => Try.call22 a w) rfl ?_)
  refine ((newtwo_d hG91 pb91 rfl 3).sub (hsub_pick [0, 0, 0, 0, 0] rfl)).mono ?_
  rintro _ _ ⟨by1, D1, h1, rfl, rfl⟩
  replace h1 := h1.to (B := ⟨Ab.new 3, Ab.new 3, ⟨false, 0, false⟩, none⟩) (by rw [hA91, hP91] <;> (rfl))
  refine ⟨_, rfl, ?_⟩
  refine L_y rfl (y_assign rfl) rfl ?_
  refine L_y rfl (y_assign rfl) rfl ?_
  refine L_nil ?_
  refine C_seq ?_
  refine C_region ?_
  refine L_y rfl (y_move rfl) rfl ?_
  refine L_y rfl (y_move rfl) rfl ?_
  refine L_op rfl (op_call rfl rfl (fun a w => Try.call26 a w) rfl ?_)
  refine ((fail_d h1 (((m % 40) : Nat) : Int) (by omega)).sub (hsub_pick [0] rfl)).mono ?_
  rintro _ _ ⟨rfl, D2, h2, rfl⟩
  replace h2 := h2.to (B := ⟨Ab.new 3, Ab.new 3, qN (m % 40), none⟩) (by simp [Pa.fail]; omega)
  refine ⟨_, rfl, ?_⟩
  refine L_nil ?_
  refine C_seq ?_
  refine C_seq ?_
  refine C_region ?_
  refine L_y rfl (y_assign rfl) rfl ?_
  refine L_nil ?_
  refine C_block ?_
  refine C_loop (ι := Duo × Da × Nat) (fun i => [(0, .int .u8 (m : Int)), (1, .bool true), (5, .int .i64 (((m % 40) : Nat) : Int)), (6, ptr p1.b), (7, ptr d91.b), (8, ptr by1), (9, .int .i64 (i.2.2 : Int))]) (fun i => i.1.seg dt :: H) (fun i => Two dt i.1 i.2.1 d91.b by1 p1.b ∧ Mid i.2.1 i.2.2 (qN ((m % 40) - i.2.2)) ∧ i.2.2 ≤ (m % 40)) (fun i => (m % 40) - i.2.2) (D2, ⟨Ab.new 3, Ab.new 3, qN (m % 40), none⟩, 0) ⟨h2, Mid.new _, Nat.zero_le _⟩ ⟨rfl, rfl, rfl, rfl, rfl, rfl, rfl, trivial⟩ (HSub.refl _) (fun i hi => ?_)
  obtain ⟨D, A, i⟩ := i
  obtain ⟨hT, hM, hi⟩ := hi
  simp only at hT hM hi
  dsimp only
  refine C_seq ?_
  refine C_seq ?_
  refine C_region ?_
  refine L_y rfl (y_move rfl) rfl ?_
  refine L_y rfl (y_move rfl) rfl ?_
  refine L_y rfl (y_lss rfl rfl) rfl ?_
  refine L_nil ?_
  refine C_cond rfl (fun hc1 => ?_) (fun hc1 => ?_)
  · replace hc1 := of_decide_eq_true hc1
    refine C_skip ?_
    refine C_seq ?_
    refine C_block ?_
    refine C_seq ?_
    refine C_region ?_
    refine L_y rfl (y_move rfl) rfl ?_
    refine L_y rfl (y_assign rfl) rfl ?_
    refine L_nil ?_
    refine C_seq ?_
    refine C_seq ?_
    refine C_region ?_
    refine L_y rfl (y_move rfl) rfl ?_
    refine L_y rfl (y_rem rfl rfl (by decide) (show _ = ((i % 2 : Nat) : Int) from rfl)) rfl ?_
    refine L_y rfl (y_eqi rfl rfl) rfl ?_
    refine L_nil ?_
    refine C_cond rfl (fun hc2 => ?_) (fun hc2 => ?_)
    · replace hc2 := of_decide_eq_true hc2
      refine C_region ?_
      refine L_y rfl (y_move rfl) rfl ?_
      refine L_y rfl (y_assign rfl) rfl ?_
      refine L_nil ?_
      refine C_seq ?_
      refine C_seq ?_
      refine C_region ?_
      refine L_y rfl (y_move rfl) rfl ?_
      refine L_nil ?_
      refine C_cond_t rfl ?_
      refine C_seq ?_
      refine C_region ?_
      refine L_y rfl (y_move rfl) rfl ?_
      refine L_op rfl (op_call rfl rfl (fun a w => Try.call33 a w) rfl ?_)
      refine ((read_d hT true 0).sub (hsub_pick [0] rfl)).mono ?_
      rintro _ _ ⟨rfl, rfl⟩
      refine ⟨_, rfl, ?_⟩
      refine L_nil ?_
      refine C_seq ?_
      refine C_region ?_
      refine L_y rfl (y_move rfl) rfl ?_
      refine L_op rfl (op_call rfl rfl (fun a w => Try.call25 a w) rfl ?_)
      refine (sector_s 1).mono ?_
      rintro _ _ ⟨rfl, rfl⟩
      refine ⟨_, rfl, ?_⟩
      refine L_op rfl (op_call rfl rfl (fun a w => Try.call24 a w) rfl ?_)
      refine ((write_d hT true (9) (secOf 1) (secOf_len _) (by have := hM.many true; omega)).sub (hsub_pick [0] rfl)).mono ?_
      rintro _ _ ⟨rfl, D3, h3, rfl⟩
      replace h3 := h3.to (B := A) (by exact (hM.far rfl true (by omega) _).2)
      rw [show A.wE true (9) = 2 from by exact (hM.far rfl true (by omega) (secOf 1)).1]
      refine ⟨_, rfl, ?_⟩
      refine L_y rfl (y_nei rfl rfl) rfl ?_
      refine L_y rfl (y_move rfl) rfl ?_
      refine L_y rfl (y_move rfl) rfl ?_
      refine L_op rfl (op_call rfl rfl (fun a w => Try.call25 a w) rfl ?_)
      refine (sector_s 1).mono ?_
      rintro _ _ ⟨rfl, rfl⟩
      refine ⟨_, rfl, ?_⟩
      refine L_op rfl (op_call rfl rfl (fun a w => Try.call24 a w) rfl ?_)
      refine ((write_d h3 true (-1) (secOf 1) (secOf_len _) (by have := hM.many true; omega)).sub (hsub_pick [0] rfl)).mono ?_
      rintro _ _ ⟨rfl, D4, h4, rfl⟩
      replace h4 := h4.to (B := A) (by exact (hM.far rfl true (by omega) _).2)
      rw [show A.wE true (-1) = 2 from by exact (hM.far rfl true (by omega) (secOf 1)).1]
      refine ⟨_, rfl, ?_⟩
      refine L_y rfl (y_nei rfl rfl) rfl ?_
      refine L_y rfl (y_pick_f rfl rfl) rfl ?_
      refine L_nil ?_
      refine C_cond_f rfl ?_
      refine C_skip ?_
      refine C_seq ?_
      refine C_region ?_
      refine L_y rfl (y_move rfl) rfl ?_
      refine L_y rfl (y_rem rfl rfl (by decide) (show _ = ((i % 3 : Nat) : Int) from rfl)) rfl ?_
      refine L_y rfl (y_eqi rfl rfl) rfl ?_
      refine L_nil ?_
      refine C_cond rfl (fun hc5 => ?_) (fun hc5 => ?_)
      · replace hc5 := of_decide_eq_true hc5
        refine C_seq ?_
        refine C_region ?_
        refine L_y rfl (y_move rfl) rfl ?_
        refine L_op rfl (op_call rfl rfl (fun a w => Try.call27 a w) rfl ?_)
        refine ((flush_d h4 true).sub (hsub_pick [0] rfl)).mono ?_
        rintro _ _ ⟨rfl, D5, h5, rfl⟩
        obtain ⟨e0, hM2⟩ := hM.flush_up rfl (qN_up (n := (m % 40) - i) (by omega)).1 true
        replace hM2 := hM2.mono (Nat.le_succ _)
        rw [(qN_up (n := (m % 40) - i) (by omega)).2, show (m % 40) - i - 1 = (m % 40) - (i + 1) from by omega] at hM2
        rw [e0]
        refine ⟨_, rfl, ?_⟩
        refine L_y rfl (y_nei rfl rfl) rfl ?_
        refine L_nil ?_
        refine C_cond_f rfl ?_
        refine C_skip ?_
        refine C_region ?_
        refine L_y rfl (y_move rfl) rfl ?_
        refine L_y rfl (y_add rfl rfl (wi64 (by omega) (by omega))) rfl ?_
        refine L_y rfl (y_assign rfl) rfl ?_
        refine L_nil ?_
        exact ⟨(D5, _, i + 1), ⟨h5, hM2, by simp only; omega⟩, by simp only; omega, ⟨rfl, rfl, rfl, rfl, rfl, rfl, rfl, trivial⟩, HSub.refl _⟩
      · replace hc5 := of_decide_eq_false hc5
        refine C_seq ?_
        refine C_region ?_
        refine L_y rfl (y_move rfl) rfl ?_
        refine L_y rfl (y_move rfl) rfl ?_
        refine L_y rfl (y_rem rfl rfl (by decide) (show _ = ((i % 3 : Nat) : Int) from rfl)) rfl ?_
        refine L_op rfl (op_call rfl rfl (fun a w => Try.call25 a w) rfl ?_)
        refine (sector_s 1).mono ?_
        rintro _ _ ⟨rfl, rfl⟩
        refine ⟨_, rfl, ?_⟩
        refine L_op rfl (op_call rfl rfl (fun a w => Try.call24 a w) rfl ?_)
        refine ((write_d h4 true ((i % 3 : Nat) : Int) (secOf 1) (secOf_len _) (by have := hM.many true; omega)).sub (hsub_pick [0] rfl)).mono ?_
        rintro _ _ ⟨rfl, D6, h6, rfl⟩
        obtain ⟨e0, hM2⟩ := hM.write_up rfl (qN_up (n := (m % 40) - i) (by omega)).1 true (m := ((i % 3 : Nat) : Int)) (by omega) (secOf 1)
        rw [(qN_up (n := (m % 40) - i) (by omega)).2, show (m % 40) - i - 1 = (m % 40) - (i + 1) from by omega] at hM2
        rw [e0]
        refine ⟨_, rfl, ?_⟩
        refine L_y rfl (y_nei rfl rfl) rfl ?_
        refine L_nil ?_
        refine C_cond_f rfl ?_
        refine C_skip ?_
        refine C_region ?_
        refine L_y rfl (y_move rfl) rfl ?_
        refine L_y rfl (y_add rfl rfl (wi64 (by omega) (by omega))) rfl ?_
        refine L_y rfl (y_assign rfl) rfl ?_
        refine L_nil ?_
        exact ⟨(D6, _, i + 1), ⟨h6, hM2, by simp only; omega⟩, by simp only; omega, ⟨rfl, rfl, rfl, rfl, rfl, rfl, rfl, trivial⟩, HSub.refl _⟩
    · replace hc2 := of_decide_eq_false hc2
      refine C_skip ?_
      refine C_seq ?_
      refine C_seq ?_
      refine C_region ?_
      refine L_y rfl (y_move rfl) rfl ?_
      refine L_nil ?_
      refine C_cond_t rfl ?_
      refine C_seq ?_
      refine C_region ?_
      refine L_y rfl (y_move rfl) rfl ?_
      refine L_op rfl (op_call rfl rfl (fun a w => Try.call33 a w) rfl ?_)
      refine ((read_d hT false 0).sub (hsub_pick [0] rfl)).mono ?_
      rintro _ _ ⟨rfl, rfl⟩
      refine ⟨_, rfl, ?_⟩
      refine L_nil ?_
      refine C_seq ?_
      refine C_region ?_
      refine L_y rfl (y_move rfl) rfl ?_
      refine L_op rfl (op_call rfl rfl (fun a w => Try.call25 a w) rfl ?_)
      refine (sector_s 1).mono ?_
      rintro _ _ ⟨rfl, rfl⟩
      refine ⟨_, rfl, ?_⟩
      refine L_op rfl (op_call rfl rfl (fun a w => Try.call24 a w) rfl ?_)
      refine ((write_d hT false (9) (secOf 1) (secOf_len _) (by have := hM.many false; omega)).sub (hsub_pick [0] rfl)).mono ?_
      rintro _ _ ⟨rfl, D7, h7, rfl⟩
      replace h7 := h7.to (B := A) (by exact (hM.far rfl false (by omega) _).2)
      rw [show A.wE false (9) = 2 from by exact (hM.far rfl false (by omega) (secOf 1)).1]
      refine ⟨_, rfl, ?_⟩
      refine L_y rfl (y_nei rfl rfl) rfl ?_
      refine L_y rfl (y_move rfl) rfl ?_
      refine L_y rfl (y_move rfl) rfl ?_
      refine L_op rfl (op_call rfl rfl (fun a w => Try.call25 a w) rfl ?_)
      refine (sector_s 1).mono ?_
      rintro _ _ ⟨rfl, rfl⟩
      refine ⟨_, rfl, ?_⟩
      refine L_op rfl (op_call rfl rfl (fun a w => Try.call24 a w) rfl ?_)
      refine ((write_d h7 false (-1) (secOf 1) (secOf_len _) (by have := hM.many false; omega)).sub (hsub_pick [0] rfl)).mono ?_
      rintro _ _ ⟨rfl, D8, h8, rfl⟩
      replace h8 := h8.to (B := A) (by exact (hM.far rfl false (by omega) _).2)
      rw [show A.wE false (-1) = 2 from by exact (hM.far rfl false (by omega) (secOf 1)).1]
      refine ⟨_, rfl, ?_⟩
      refine L_y rfl (y_nei rfl rfl) rfl ?_
      refine L_y rfl (y_pick_f rfl rfl) rfl ?_
      refine L_nil ?_
      refine C_cond_f rfl ?_
      refine C_skip ?_
      refine C_seq ?_
      refine C_region ?_
      refine L_y rfl (y_move rfl) rfl ?_
      refine L_y rfl (y_rem rfl rfl (by decide) (show _ = ((i % 3 : Nat) : Int) from rfl)) rfl ?_
      refine L_y rfl (y_eqi rfl rfl) rfl ?_
      refine L_nil ?_
      refine C_cond rfl (fun hc5 => ?_) (fun hc5 => ?_)
      · replace hc5 := of_decide_eq_true hc5
        refine C_seq ?_
        refine C_region ?_
        refine L_y rfl (y_move rfl) rfl ?_
        refine L_op rfl (op_call rfl rfl (fun a w => Try.call27 a w) rfl ?_)
        refine ((flush_d h8 false).sub (hsub_pick [0] rfl)).mono ?_
        rintro _ _ ⟨rfl, D9, h9, rfl⟩
        obtain ⟨e0, hM2⟩ := hM.flush_up rfl (qN_up (n := (m % 40) - i) (by omega)).1 false
        replace hM2 := hM2.mono (Nat.le_succ _)
        rw [(qN_up (n := (m % 40) - i) (by omega)).2, show (m % 40) - i - 1 = (m % 40) - (i + 1) from by omega] at hM2
        rw [e0]
        refine ⟨_, rfl, ?_⟩
        refine L_y rfl (y_nei rfl rfl) rfl ?_
        refine L_nil ?_
        refine C_cond_f rfl ?_
        refine C_skip ?_
        refine C_region ?_
        refine L_y rfl (y_move rfl) rfl ?_
        refine L_y rfl (y_add rfl rfl (wi64 (by omega) (by omega))) rfl ?_
        refine L_y rfl (y_assign rfl) rfl ?_
        refine L_nil ?_
        exact ⟨(D9, _, i + 1), ⟨h9, hM2, by simp only; omega⟩, by simp only; omega, ⟨rfl, rfl, rfl, rfl, rfl, rfl, rfl, trivial⟩, HSub.refl _⟩
      · replace hc5 := of_decide_eq_false hc5
        refine C_seq ?_
        refine C_region ?_
        refine L_y rfl (y_move rfl) rfl ?_
        refine L_y rfl (y_move rfl) rfl ?_
        refine L_y rfl (y_rem rfl rfl (by decide) (show _ = ((i % 3 : Nat) : Int) from rfl)) rfl ?_
        refine L_op rfl (op_call rfl rfl (fun a w => Try.call25 a w) rfl ?_)
        refine (sector_s 1).mono ?_
        rintro _ _ ⟨rfl, rfl⟩
        refine ⟨_, rfl, ?_⟩
        refine L_op rfl (op_call rfl rfl (fun a w => Try.call24 a w) rfl ?_)
        refine ((write_d h8 false ((i % 3 : Nat) : Int) (secOf 1) (secOf_len _) (by have := hM.many false; omega)).sub (hsub_pick [0] rfl)).mono ?_
        rintro _ _ ⟨rfl, D10, h10, rfl⟩
        obtain ⟨e0, hM2⟩ := hM.write_up rfl (qN_up (n := (m % 40) - i) (by omega)).1 false (m := ((i % 3 : Nat) : Int)) (by omega) (secOf 1)
        rw [(qN_up (n := (m % 40) - i) (by omega)).2, show (m % 40) - i - 1 = (m % 40) - (i + 1) from by omega] at hM2
        rw [e0]
        refine ⟨_, rfl, ?_⟩
        refine L_y rfl (y_nei rfl rfl) rfl ?_
        refine L_nil ?_
        refine C_cond_f rfl ?_
        refine C_skip ?_
        refine C_region ?_
        refine L_y rfl (y_move rfl) rfl ?_
        refine L_y rfl (y_add rfl rfl (wi64 (by omega) (by omega))) rfl ?_
        refine L_y rfl (y_assign rfl) rfl ?_
        refine L_nil ?_
        exact ⟨(D10, _, i + 1), ⟨h10, hM2, by simp only; omega⟩, by simp only; omega, ⟨rfl, rfl, rfl, rfl, rfl, rfl, rfl, trivial⟩, HSub.refl _⟩
  · replace hc1 := of_decide_eq_false hc1
    refine C_exit ?_
    refine C_seq ?_
    refine C_seq ?_
    obtain rfl : i = (m % 40) := by omega
    rw [Nat.sub_self] at hM
    refine C_region ?_
    refine L_y rfl (y_move rfl) rfl ?_
    refine L_op rfl (op_call rfl rfl (fun a w => Try.call30 a w) rfl ?_)
    refine ((on_d hT).sub (hsub_pick [0] rfl)).mono ?_
    rintro _ _ ⟨rfl, rfl⟩
    rw [show (!A.p.off) = true from by rw [hM.p]; rfl]
    refine ⟨_, rfl, ?_⟩
    refine L_y rfl (y_not rfl) rfl ?_
    refine L_y rfl (y_move rfl) rfl ?_
    refine L_y rfl (y_move rfl) rfl ?_
    refine L_op rfl (op_call rfl rfl (fun a w => Try.call27 a w) rfl ?_)
    refine ((flush_d hT false).sub (hsub_pick [0] rfl)).mono ?_
    rintro _ _ ⟨rfl, D11, h11, rfl⟩
    obtain ⟨e1, hM1⟩ := hM.flush_fall rfl rfl false
    replace hM1 : Mid (A.flush false) ((m % 40)) qX := hM1
    rw [e1]
    refine ⟨_, rfl, ?_⟩
    refine L_y rfl (y_nei rfl rfl) rfl ?_
    refine L_y rfl (y_pick_f rfl rfl) rfl ?_
    refine L_y rfl (y_move rfl) rfl ?_
    refine L_y rfl (y_move rfl) rfl ?_
    refine L_op rfl (op_call rfl rfl (fun a w => Try.call30 a w) rfl ?_)
    refine ((on_d h11).sub (hsub_pick [0] rfl)).mono ?_
    rintro _ _ ⟨rfl, rfl⟩
    rw [show (!(A.flush false).p.off) = false from by rw [hM1.p]; rfl]
    refine ⟨_, rfl, ?_⟩
    refine L_y rfl (y_pick_f rfl rfl) rfl ?_
    refine L_y rfl (y_move rfl) rfl ?_
    refine L_y rfl (y_move rfl) rfl ?_
    refine L_op rfl (op_call rfl rfl (fun a w => Try.call27 a w) rfl ?_)
    refine ((flush_d h11 true).sub (hsub_pick [0] rfl)).mono ?_
    rintro _ _ ⟨rfl, D12, h12, rfl⟩
    replace h12 := h12.to (B := A.flush false) (by exact (hM1.down rfl true 0 []).2.2.2.1)
    rw [(hM1.down rfl true 0 []).2.2.1]
    refine ⟨_, rfl, ?_⟩
    refine L_y rfl (y_nei rfl rfl) rfl ?_
    refine L_y rfl (y_pick_f rfl rfl) rfl ?_
    refine L_y rfl (y_move rfl) rfl ?_
    refine L_y rfl (y_move rfl) rfl ?_
    refine L_op rfl (op_call rfl rfl (fun a w => Try.call25 a w) rfl ?_)
    refine (sector_s 2).mono ?_
    rintro _ _ ⟨rfl, rfl⟩
    refine ⟨_, rfl, ?_⟩
    refine L_op rfl (op_call rfl rfl (fun a w => Try.call24 a w) rfl ?_)
    refine ((write_d h12 true 0 (secOf 2) (secOf_len _) (by have := hM1.many true; omega)).sub (hsub_pick [0] rfl)).mono ?_
    rintro _ _ ⟨rfl, D13, h13, rfl⟩
    replace h13 := h13.to (B := A.flush false) (by exact (hM1.down rfl true 0 (secOf 2)).2.1)
    rw [(hM1.down rfl true 0 []).1]
    refine ⟨_, rfl, ?_⟩
    refine L_y rfl (y_nei rfl rfl) rfl ?_
    refine L_y rfl (y_pick_f rfl rfl) rfl ?_
    refine L_nil ?_
    refine C_cond_f rfl ?_
    refine C_skip ?_
    refine C_seq ?_
    refine C_seq ?_
    refine C_region ?_
    refine L_y rfl (y_move rfl) rfl ?_
    refine L_op rfl (op_call rfl rfl (fun a w => Try.call33 a w) rfl ?_)
    refine ((read_d h13 true 0).sub (hsub_pick [0] rfl)).mono ?_
    rintro _ _ ⟨rfl, rfl⟩
    have hl128 : ((A.flush false).rS true 0).length = 128 := readS_len (h13.aok true).1
    rw [show (A.flush false).rE true 0 = 13 from by exact (hM1.down rfl true 0 []).2.2.2.2]
    refine ⟨_, rfl, ?_⟩
    refine L_y rfl (y_move rfl) rfl ?_
    refine L_y rfl (y_extract rfl rfl) rfl ?_
    refine L_y rfl (y_extract rfl rfl) rfl ?_
    refine L_op rfl (op_alloc zl_44 rfl (fun B1 => ?_))
    refine L_op rfl (op_storeA 0 0 rfl rfl rfl sz_44 (by rw [bs_length, hl128]) rfl (bs_one _) (by simp) ?_)
    refine L_y rfl (y_assign rfl) rfl ?_
    refine L_nil ?_
    refine C_seq ?_
    refine C_region ?_
    refine L_y rfl (y_move rfl) rfl ?_
    refine L_y rfl (y_nei rfl rfl) rfl ?_
    refine L_nil ?_
    refine C_cond_f rfl ?_
    refine C_skip ?_
    refine C_seq ?_
    refine C_region ?_
    refine L_y rfl (y_move rfl) rfl ?_
    refine L_op rfl (op_call rfl rfl (fun a w => Try.call34 a w) rfl ?_)
    refine ((restart_d h13).sub (hsub_pick [1] rfl)).mono ?_
    rintro _ _ ⟨rfl, D14, h14, rfl⟩
    replace h14 := h14.to (B := { A.flush false with p := q0 }) (by rw [show (A.flush false).p.restart = q0 from by rw [hM1.p]; rfl])
    have hM2 := hM1.setp q0
    refine ⟨_, rfl, ?_⟩
    refine L_nil ?_
    refine C_seq ?_
    refine C_region ?_
    refine L_y rfl (y_move rfl) rfl ?_
    refine L_op rfl (op_call rfl rfl (fun a w => Try.call30 a w) rfl ?_)
    refine ((on_d h14).sub (hsub_pick [0] rfl)).mono ?_
    rintro _ _ ⟨rfl, rfl⟩
    refine ⟨_, rfl, ?_⟩
    refine L_y rfl (y_move rfl) rfl ?_
    refine L_y rfl (y_move rfl) rfl ?_
    refine L_op rfl (op_call rfl rfl (fun a w => Try.call25 a w) rfl ?_)
    refine (sector_s 3).mono ?_
    rintro _ _ ⟨rfl, rfl⟩
    refine ⟨_, rfl, ?_⟩
    refine L_op rfl (op_call rfl rfl (fun a w => Try.call24 a w) rfl ?_)
    refine ((write_d h14 false 0 (secOf 3) (secOf_len _) (Nat.lt_of_le_of_lt (hM2.many false) (by omega))).sub (hsub_pick [0] rfl)).mono ?_
    rintro _ _ ⟨rfl, D15, h15, rfl⟩
    obtain ⟨e3, hM3⟩ := hM2.write_up rfl rfl false (m := 0) (by omega) (secOf 3)
    rw [e3]
    refine ⟨_, rfl, ?_⟩
    refine L_y rfl (y_eqi rfl rfl) rfl ?_
    refine L_y rfl (y_pick_t rfl rfl) rfl ?_
    refine L_y rfl (y_move rfl) rfl ?_
    refine L_y rfl (y_move rfl) rfl ?_
    refine L_op rfl (op_call rfl rfl (fun a w => Try.call27 a w) rfl ?_)
    refine ((flush_d h15 false).sub (hsub_pick [0] rfl)).mono ?_
    rintro _ _ ⟨rfl, D16, h16, rfl⟩
    obtain ⟨e4, hM4⟩ := hM3.flush_up rfl rfl false
    rw [e4]
    refine ⟨_, rfl, ?_⟩
    refine L_y rfl (y_eqi rfl rfl) rfl ?_
    refine L_y rfl (y_pick_t rfl rfl) rfl ?_
    refine L_y rfl (y_move rfl) rfl ?_
    refine L_y rfl (y_move rfl) rfl ?_
    refine L_op rfl (op_call rfl rfl (fun a w => Try.call27 a w) rfl ?_)
    refine ((flush_d h16 true).sub (hsub_pick [0] rfl)).mono ?_
    rintro _ _ ⟨rfl, D17, h17, rfl⟩
    obtain ⟨e5, hM5⟩ := hM4.flush_up rfl rfl true
    rw [e5]
    refine ⟨_, rfl, ?_⟩
    refine L_y rfl (y_eqi rfl rfl) rfl ?_
    refine L_y rfl (y_pick_t rfl rfl) rfl ?_
    refine L_y rfl (y_assign rfl) rfl ?_
    refine L_nil ?_
    refine C_ret ?_
    refine B_ret (rv_tmp rfl rv_nil) (HSub.refl _) ?_
    rfl

theorem power_f {w0 : World} {H : Hp} (m : Nat) (hm : m < 256) : FnS Try.prog w0 8 #[.int .u8 (m : Int), .bool false] H (fun e H' => e = .returned (.bool true)) := by
  refine FnS_intro (n := 111) (rs := [.tmp 4]) (vs := [.int .u8 (m : Int), .bool false]) Try.func8 rfl Try.ntmps8 rfl rfl ?_
  refine C_seq ?_
  refine C_region ?_
  refine L_y rfl (y_assign rfl) rfl ?_
  refine L_nil ?_
  refine C_seq ?_
  refine C_seq ?_
  refine C_region ?_
  refine L_op rfl (op_call rfl rfl (fun a w => Try.call20 a w) rfl ?_)
  refine awake08_s.mono ?_
  rintro _ _ ⟨rfl, e⟩
  obtain rfl := e.symm
  refine ⟨_, rfl, ?_⟩
  refine L_y rfl (y_not rfl) rfl ?_
  refine L_nil ?_
  refine C_cond_f rfl ?_
  refine C_skip ?_
  refine C_seq ?_
  refine C_region ?_
  refine L_y rfl (y_move rfl) rfl ?_
  refine L_y rfl (y_conv rfl us_5 Try.underlying3 (wi64 (by omega) (by omega))) rfl ?_
  refine L_y rfl (y_rem rfl rfl (by decide) (show _ = (((m % 40) : Nat) : Int) from rfl)) rfl ?_
  refine L_y rfl (y_assign rfl) rfl ?_
  refine L_nil ?_
  refine C_seq ?_
  refine C_region ?_
  refine L_op rfl (op_call rfl rfl (fun a w => Try.call21 a w) rfl ?_)
  refine newpower_l.mono ?_
  rintro _ _ ⟨p1, hpk1, hdv1, hP1, rfl, rfl⟩
  refine ⟨_, rfl, ?_⟩
  refine L_y rfl (y_assign rfl) rfl ?_
  refine L_nil ?_
  refine C_seq ?_
  refine C_region ?_
  refine L_y rfl (y_move rfl) rfl ?_
  refine L_op rfl (op_call rfl rfl (fun a w => Try.call22 a w) rfl ?_)
  refine ((new_l (H := (H)) (rfl : p1.b = _) hpk1 hdv1 3).sub (hsub_pick [0, 0] rfl)).mono ?_
  rintro _ _ ⟨d91, p91, hG91, pb91, ha91, hq91, rfl, rfl⟩
  have hA91 : d91.a = Ab.new 3 := by rw [ha91] <;> (rfl)
  have hP91 : p91.a = _ := hq91.trans hP1
  have hb91 : d91.b = d91.b := rfl
  refine ⟨_, rfl, ?_⟩
  refine L_y rfl (y_move rfl) rfl ?_
  refine L_op rfl (op_call rfl rfl (fun a w => Try.call22 a w) rfl ?_)
  refine ((newtwo_d hG91 pb91 rfl 3).sub (hsub_pick [0, 0, 0, 0, 0] rfl)).mono ?_
  rintro _ _ ⟨by1, D1, h1, rfl, rfl⟩
  replace h1 := h1.to (B := ⟨Ab.new 3, Ab.new 3, ⟨false, 0, false⟩, none⟩) (by rw [hA91, hP91] <;> (rfl))
  refine ⟨_, rfl, ?_⟩
  refine L_y rfl (y_assign rfl) rfl ?_
  refine L_y rfl (y_assign rfl) rfl ?_
  refine L_nil ?_
  refine C_seq ?_
  refine C_region ?_
  refine L_y rfl (y_move rfl) rfl ?_
  refine L_y rfl (y_move rfl) rfl ?_
  refine L_op rfl (op_call rfl rfl (fun a w => Try.call26 a w) rfl ?_)
  refine ((fail_d h1 (((m % 40) : Nat) : Int) (by omega)).sub (hsub_pick [0] rfl)).mono ?_
  rintro _ _ ⟨rfl, D2, h2, rfl⟩
  replace h2 := h2.to (B := ⟨Ab.new 3, Ab.new 3, qN (m % 40), none⟩) (by simp [Pa.fail]; omega)
  refine ⟨_, rfl, ?_⟩
  refine L_nil ?_
  refine C_seq ?_
  refine C_seq ?_
  refine C_region ?_
  refine L_y rfl (y_assign rfl) rfl ?_
  refine L_nil ?_
  refine C_block ?_
  refine C_loop (ι := Duo × Da × Nat) (fun i => [(0, .int .u8 (m : Int)), (1, .bool false), (5, .int .i64 (((m % 40) : Nat) : Int)), (6, ptr p1.b), (7, ptr d91.b), (8, ptr by1), (9, .int .i64 (i.2.2 : Int))]) (fun i => i.1.seg dt :: H) (fun i => Two dt i.1 i.2.1 d91.b by1 p1.b ∧ Mid i.2.1 i.2.2 (qN ((m % 40) - i.2.2)) ∧ i.2.2 ≤ (m % 40)) (fun i => (m % 40) - i.2.2) (D2, ⟨Ab.new 3, Ab.new 3, qN (m % 40), none⟩, 0) ⟨h2, Mid.new _, Nat.zero_le _⟩ ⟨rfl, rfl, rfl, rfl, rfl, rfl, rfl, trivial⟩ (HSub.refl _) (fun i hi => ?_)
  obtain ⟨D, A, i⟩ := i
  obtain ⟨hT, hM, hi⟩ := hi
  simp only at hT hM hi
  dsimp only
  refine C_seq ?_
  refine C_seq ?_
  refine C_region ?_
  refine L_y rfl (y_move rfl) rfl ?_
  refine L_y rfl (y_move rfl) rfl ?_
  refine L_y rfl (y_lss rfl rfl) rfl ?_
  refine L_nil ?_
  refine C_cond rfl (fun hc1 => ?_) (fun hc1 => ?_)
  · replace hc1 := of_decide_eq_true hc1
    refine C_skip ?_
    refine C_seq ?_
    refine C_block ?_
    refine C_seq ?_
    refine C_region ?_
    refine L_y rfl (y_move rfl) rfl ?_
    refine L_y rfl (y_assign rfl) rfl ?_
    refine L_nil ?_
    refine C_seq ?_
    refine C_seq ?_
    refine C_region ?_
    refine L_y rfl (y_move rfl) rfl ?_
    refine L_y rfl (y_rem rfl rfl (by decide) (show _ = ((i % 2 : Nat) : Int) from rfl)) rfl ?_
    refine L_y rfl (y_eqi rfl rfl) rfl ?_
    refine L_nil ?_
    refine C_cond rfl (fun hc2 => ?_) (fun hc2 => ?_)
    · replace hc2 := of_decide_eq_true hc2
      refine C_region ?_
      refine L_y rfl (y_move rfl) rfl ?_
      refine L_y rfl (y_assign rfl) rfl ?_
      refine L_nil ?_
      refine C_seq ?_
      refine C_seq ?_
      refine C_region ?_
      refine L_y rfl (y_move rfl) rfl ?_
      refine L_nil ?_
      refine C_cond_f rfl ?_
      refine C_skip ?_
      refine C_seq ?_
      refine C_region ?_
      refine L_y rfl (y_move rfl) rfl ?_
      refine L_y rfl (y_rem rfl rfl (by decide) (show _ = ((i % 3 : Nat) : Int) from rfl)) rfl ?_
      refine L_y rfl (y_eqi rfl rfl) rfl ?_
      refine L_nil ?_
      refine C_cond rfl (fun hc4 => ?_) (fun hc4 => ?_)
      · replace hc4 := of_decide_eq_true hc4
        refine C_seq ?_
        refine C_region ?_
        refine L_y rfl (y_move rfl) rfl ?_
        refine L_op rfl (op_call rfl rfl (fun a w => Try.call27 a w) rfl ?_)
        refine ((flush_d hT true).sub (hsub_pick [0] rfl)).mono ?_
        rintro _ _ ⟨rfl, D3, h3, rfl⟩
        obtain ⟨e0, hM2⟩ := hM.flush_up rfl (qN_up (n := (m % 40) - i) (by omega)).1 true
        replace hM2 := hM2.mono (Nat.le_succ _)
        rw [(qN_up (n := (m % 40) - i) (by omega)).2, show (m % 40) - i - 1 = (m % 40) - (i + 1) from by omega] at hM2
        rw [e0]
        refine ⟨_, rfl, ?_⟩
        refine L_y rfl (y_nei rfl rfl) rfl ?_
        refine L_nil ?_
        refine C_cond_f rfl ?_
        refine C_skip ?_
        refine C_region ?_
        refine L_y rfl (y_move rfl) rfl ?_
        refine L_y rfl (y_add rfl rfl (wi64 (by omega) (by omega))) rfl ?_
        refine L_y rfl (y_assign rfl) rfl ?_
        refine L_nil ?_
        exact ⟨(D3, _, i + 1), ⟨h3, hM2, by simp only; omega⟩, by simp only; omega, ⟨rfl, rfl, rfl, rfl, rfl, rfl, rfl, trivial⟩, HSub.refl _⟩
      · replace hc4 := of_decide_eq_false hc4
        refine C_seq ?_
        refine C_region ?_
        refine L_y rfl (y_move rfl) rfl ?_
        refine L_y rfl (y_move rfl) rfl ?_
        refine L_y rfl (y_rem rfl rfl (by decide) (show _ = ((i % 3 : Nat) : Int) from rfl)) rfl ?_
        refine L_op rfl (op_call rfl rfl (fun a w => Try.call25 a w) rfl ?_)
        refine (sector_s 1).mono ?_
        rintro _ _ ⟨rfl, rfl⟩
        refine ⟨_, rfl, ?_⟩
        refine L_op rfl (op_call rfl rfl (fun a w => Try.call24 a w) rfl ?_)
        refine ((write_d hT true ((i % 3 : Nat) : Int) (secOf 1) (secOf_len _) (by have := hM.many true; omega)).sub (hsub_pick [0] rfl)).mono ?_
        rintro _ _ ⟨rfl, D4, h4, rfl⟩
        obtain ⟨e0, hM2⟩ := hM.write_up rfl (qN_up (n := (m % 40) - i) (by omega)).1 true (m := ((i % 3 : Nat) : Int)) (by omega) (secOf 1)
        rw [(qN_up (n := (m % 40) - i) (by omega)).2, show (m % 40) - i - 1 = (m % 40) - (i + 1) from by omega] at hM2
        rw [e0]
        refine ⟨_, rfl, ?_⟩
        refine L_y rfl (y_nei rfl rfl) rfl ?_
        refine L_nil ?_
        refine C_cond_f rfl ?_
        refine C_skip ?_
        refine C_region ?_
        refine L_y rfl (y_move rfl) rfl ?_
        refine L_y rfl (y_add rfl rfl (wi64 (by omega) (by omega))) rfl ?_
        refine L_y rfl (y_assign rfl) rfl ?_
        refine L_nil ?_
        exact ⟨(D4, _, i + 1), ⟨h4, hM2, by simp only; omega⟩, by simp only; omega, ⟨rfl, rfl, rfl, rfl, rfl, rfl, rfl, trivial⟩, HSub.refl _⟩
    · replace hc2 := of_decide_eq_false hc2
      refine C_skip ?_
      refine C_seq ?_
      refine C_seq ?_
      refine C_region ?_
      refine L_y rfl (y_move rfl) rfl ?_
      refine L_nil ?_
      refine C_cond_f rfl ?_
      refine C_skip ?_
      refine C_seq ?_
      refine C_region ?_
      refine L_y rfl (y_move rfl) rfl ?_
      refine L_y rfl (y_rem rfl rfl (by decide) (show _ = ((i % 3 : Nat) : Int) from rfl)) rfl ?_
      refine L_y rfl (y_eqi rfl rfl) rfl ?_
      refine L_nil ?_
      refine C_cond rfl (fun hc4 => ?_) (fun hc4 => ?_)
      · replace hc4 := of_decide_eq_true hc4
        refine C_seq ?_
        refine C_region ?_
        refine L_y rfl (y_move rfl) rfl ?_
        refine L_op rfl (op_call rfl rfl (fun a w => Try.call27 a w) rfl ?_)
        refine ((flush_d hT false).sub (hsub_pick [0] rfl)).mono ?_
        rintro _ _ ⟨rfl, D5, h5, rfl⟩
        obtain ⟨e0, hM2⟩ := hM.flush_up rfl (qN_up (n := (m % 40) - i) (by omega)).1 false
        replace hM2 := hM2.mono (Nat.le_succ _)
        rw [(qN_up (n := (m % 40) - i) (by omega)).2, show (m % 40) - i - 1 = (m % 40) - (i + 1) from by omega] at hM2
        rw [e0]
        refine ⟨_, rfl, ?_⟩
        refine L_y rfl (y_nei rfl rfl) rfl ?_
        refine L_nil ?_
        refine C_cond_f rfl ?_
        refine C_skip ?_
        refine C_region ?_
        refine L_y rfl (y_move rfl) rfl ?_
        refine L_y rfl (y_add rfl rfl (wi64 (by omega) (by omega))) rfl ?_
        refine L_y rfl (y_assign rfl) rfl ?_
        refine L_nil ?_
        exact ⟨(D5, _, i + 1), ⟨h5, hM2, by simp only; omega⟩, by simp only; omega, ⟨rfl, rfl, rfl, rfl, rfl, rfl, rfl, trivial⟩, HSub.refl _⟩
      · replace hc4 := of_decide_eq_false hc4
        refine C_seq ?_
        refine C_region ?_
        refine L_y rfl (y_move rfl) rfl ?_
        refine L_y rfl (y_move rfl) rfl ?_
        refine L_y rfl (y_rem rfl rfl (by decide) (show _ = ((i % 3 : Nat) : Int) from rfl)) rfl ?_
        refine L_op rfl (op_call rfl rfl (fun a w => Try.call25 a w) rfl ?_)
        refine (sector_s 1).mono ?_
        rintro _ _ ⟨rfl, rfl⟩
        refine ⟨_, rfl, ?_⟩
        refine L_op rfl (op_call rfl rfl (fun a w => Try.call24 a w) rfl ?_)
        refine ((write_d hT false ((i % 3 : Nat) : Int) (secOf 1) (secOf_len _) (by have := hM.many false; omega)).sub (hsub_pick [0] rfl)).mono ?_
        rintro _ _ ⟨rfl, D6, h6, rfl⟩
        obtain ⟨e0, hM2⟩ := hM.write_up rfl (qN_up (n := (m % 40) - i) (by omega)).1 false (m := ((i % 3 : Nat) : Int)) (by omega) (secOf 1)
        rw [(qN_up (n := (m % 40) - i) (by omega)).2, show (m % 40) - i - 1 = (m % 40) - (i + 1) from by omega] at hM2
        rw [e0]
        refine ⟨_, rfl, ?_⟩
        refine L_y rfl (y_nei rfl rfl) rfl ?_
        refine L_nil ?_
        refine C_cond_f rfl ?_
        refine C_skip ?_
        refine C_region ?_
        refine L_y rfl (y_move rfl) rfl ?_
        refine L_y rfl (y_add rfl rfl (wi64 (by omega) (by omega))) rfl ?_
        refine L_y rfl (y_assign rfl) rfl ?_
        refine L_nil ?_
        exact ⟨(D6, _, i + 1), ⟨h6, hM2, by simp only; omega⟩, by simp only; omega, ⟨rfl, rfl, rfl, rfl, rfl, rfl, rfl, trivial⟩, HSub.refl _⟩
  · replace hc1 := of_decide_eq_false hc1
    refine C_exit ?_
    refine C_seq ?_
    refine C_seq ?_
    obtain rfl : i = (m % 40) := by omega
    rw [Nat.sub_self] at hM
    refine C_region ?_
    refine L_y rfl (y_move rfl) rfl ?_
    refine L_op rfl (op_call rfl rfl (fun a w => Try.call30 a w) rfl ?_)
    refine ((on_d hT).sub (hsub_pick [0] rfl)).mono ?_
    rintro _ _ ⟨rfl, rfl⟩
    rw [show (!A.p.off) = true from by rw [hM.p]; rfl]
    refine ⟨_, rfl, ?_⟩
    refine L_y rfl (y_not rfl) rfl ?_
    refine L_y rfl (y_move rfl) rfl ?_
    refine L_y rfl (y_move rfl) rfl ?_
    refine L_op rfl (op_call rfl rfl (fun a w => Try.call27 a w) rfl ?_)
    refine ((flush_d hT false).sub (hsub_pick [0] rfl)).mono ?_
    rintro _ _ ⟨rfl, D7, h7, rfl⟩
    obtain ⟨e1, hM1⟩ := hM.flush_fall rfl rfl false
    replace hM1 : Mid (A.flush false) ((m % 40)) qX := hM1
    rw [e1]
    refine ⟨_, rfl, ?_⟩
    refine L_y rfl (y_nei rfl rfl) rfl ?_
    refine L_y rfl (y_pick_f rfl rfl) rfl ?_
    refine L_y rfl (y_move rfl) rfl ?_
    refine L_y rfl (y_move rfl) rfl ?_
    refine L_op rfl (op_call rfl rfl (fun a w => Try.call30 a w) rfl ?_)
    refine ((on_d h7).sub (hsub_pick [0] rfl)).mono ?_
    rintro _ _ ⟨rfl, rfl⟩
    rw [show (!(A.flush false).p.off) = false from by rw [hM1.p]; rfl]
    refine ⟨_, rfl, ?_⟩
    refine L_y rfl (y_pick_f rfl rfl) rfl ?_
    refine L_y rfl (y_move rfl) rfl ?_
    refine L_y rfl (y_move rfl) rfl ?_
    refine L_op rfl (op_call rfl rfl (fun a w => Try.call27 a w) rfl ?_)
    refine ((flush_d h7 true).sub (hsub_pick [0] rfl)).mono ?_
    rintro _ _ ⟨rfl, D8, h8, rfl⟩
    replace h8 := h8.to (B := A.flush false) (by exact (hM1.down rfl true 0 []).2.2.2.1)
    rw [(hM1.down rfl true 0 []).2.2.1]
    refine ⟨_, rfl, ?_⟩
    refine L_y rfl (y_nei rfl rfl) rfl ?_
    refine L_y rfl (y_pick_f rfl rfl) rfl ?_
    refine L_y rfl (y_move rfl) rfl ?_
    refine L_y rfl (y_move rfl) rfl ?_
    refine L_op rfl (op_call rfl rfl (fun a w => Try.call25 a w) rfl ?_)
    refine (sector_s 2).mono ?_
    rintro _ _ ⟨rfl, rfl⟩
    refine ⟨_, rfl, ?_⟩
    refine L_op rfl (op_call rfl rfl (fun a w => Try.call24 a w) rfl ?_)
    refine ((write_d h8 true 0 (secOf 2) (secOf_len _) (by have := hM1.many true; omega)).sub (hsub_pick [0] rfl)).mono ?_
    rintro _ _ ⟨rfl, D9, h9, rfl⟩
    replace h9 := h9.to (B := A.flush false) (by exact (hM1.down rfl true 0 (secOf 2)).2.1)
    rw [(hM1.down rfl true 0 []).1]
    refine ⟨_, rfl, ?_⟩
    refine L_y rfl (y_nei rfl rfl) rfl ?_
    refine L_y rfl (y_pick_f rfl rfl) rfl ?_
    refine L_nil ?_
    refine C_cond_f rfl ?_
    refine C_skip ?_
    refine C_seq ?_
    refine C_seq ?_
    refine C_region ?_
    refine L_y rfl (y_move rfl) rfl ?_
    refine L_op rfl (op_call rfl rfl (fun a w => Try.call33 a w) rfl ?_)
    refine ((read_d h9 true 0).sub (hsub_pick [0] rfl)).mono ?_
    rintro _ _ ⟨rfl, rfl⟩
    have hl128 : ((A.flush false).rS true 0).length = 128 := readS_len (h9.aok true).1
    rw [show (A.flush false).rE true 0 = 13 from by exact (hM1.down rfl true 0 []).2.2.2.2]
    refine ⟨_, rfl, ?_⟩
    refine L_y rfl (y_move rfl) rfl ?_
    refine L_y rfl (y_extract rfl rfl) rfl ?_
    refine L_y rfl (y_extract rfl rfl) rfl ?_
    refine L_op rfl (op_alloc zl_44 rfl (fun B1 => ?_))
    refine L_op rfl (op_storeA 0 0 rfl rfl rfl sz_44 (by rw [bs_length, hl128]) rfl (bs_one _) (by simp) ?_)
    refine L_y rfl (y_assign rfl) rfl ?_
    refine L_nil ?_
    refine C_seq ?_
    refine C_region ?_
    refine L_y rfl (y_move rfl) rfl ?_
    refine L_y rfl (y_nei rfl rfl) rfl ?_
    refine L_nil ?_
    refine C_cond_f rfl ?_
    refine C_skip ?_
    refine C_seq ?_
    refine C_region ?_
    refine L_y rfl (y_move rfl) rfl ?_
    refine L_op rfl (op_call rfl rfl (fun a w => Try.call34 a w) rfl ?_)
    refine ((restart_d h9).sub (hsub_pick [1] rfl)).mono ?_
    rintro _ _ ⟨rfl, D10, h10, rfl⟩
    replace h10 := h10.to (B := { A.flush false with p := q0 }) (by rw [show (A.flush false).p.restart = q0 from by rw [hM1.p]; rfl])
    have hM2 := hM1.setp q0
    refine ⟨_, rfl, ?_⟩
    refine L_nil ?_
    refine C_seq ?_
    refine C_region ?_
    refine L_y rfl (y_move rfl) rfl ?_
    refine L_op rfl (op_call rfl rfl (fun a w => Try.call30 a w) rfl ?_)
    refine ((on_d h10).sub (hsub_pick [0] rfl)).mono ?_
    rintro _ _ ⟨rfl, rfl⟩
    refine ⟨_, rfl, ?_⟩
    refine L_y rfl (y_move rfl) rfl ?_
    refine L_y rfl (y_move rfl) rfl ?_
    refine L_op rfl (op_call rfl rfl (fun a w => Try.call25 a w) rfl ?_)
    refine (sector_s 3).mono ?_
    rintro _ _ ⟨rfl, rfl⟩
    refine ⟨_, rfl, ?_⟩
    refine L_op rfl (op_call rfl rfl (fun a w => Try.call24 a w) rfl ?_)
    refine ((write_d h10 false 0 (secOf 3) (secOf_len _) (Nat.lt_of_le_of_lt (hM2.many false) (by omega))).sub (hsub_pick [0] rfl)).mono ?_
    rintro _ _ ⟨rfl, D11, h11, rfl⟩
    obtain ⟨e3, hM3⟩ := hM2.write_up rfl rfl false (m := 0) (by omega) (secOf 3)
    rw [e3]
    refine ⟨_, rfl, ?_⟩
    refine L_y rfl (y_eqi rfl rfl) rfl ?_
    refine L_y rfl (y_pick_t rfl rfl) rfl ?_
    refine L_y rfl (y_move rfl) rfl ?_
    refine L_y rfl (y_move rfl) rfl ?_
    refine L_op rfl (op_call rfl rfl (fun a w => Try.call27 a w) rfl ?_)
    refine ((flush_d h11 false).sub (hsub_pick [0] rfl)).mono ?_
    rintro _ _ ⟨rfl, D12, h12, rfl⟩
    obtain ⟨e4, hM4⟩ := hM3.flush_up rfl rfl false
    rw [e4]
    refine ⟨_, rfl, ?_⟩
    refine L_y rfl (y_eqi rfl rfl) rfl ?_
    refine L_y rfl (y_pick_t rfl rfl) rfl ?_
    refine L_y rfl (y_move rfl) rfl ?_
    refine L_y rfl (y_move rfl) rfl ?_
    refine L_op rfl (op_call rfl rfl (fun a w => Try.call27 a w) rfl ?_)
    refine ((flush_d h12 true).sub (hsub_pick [0] rfl)).mono ?_
    rintro _ _ ⟨rfl, D13, h13, rfl⟩
    obtain ⟨e5, hM5⟩ := hM4.flush_up rfl rfl true
    rw [e5]
    refine ⟨_, rfl, ?_⟩
    refine L_y rfl (y_eqi rfl rfl) rfl ?_
    refine L_y rfl (y_pick_t rfl rfl) rfl ?_
    refine L_y rfl (y_assign rfl) rfl ?_
    refine L_nil ?_
    refine C_ret ?_
    refine B_ret (rv_tmp rfl rv_nil) (HSub.refl _) ?_
    rfl

end Go.Proofs.Ytjiojffakejgjaa
