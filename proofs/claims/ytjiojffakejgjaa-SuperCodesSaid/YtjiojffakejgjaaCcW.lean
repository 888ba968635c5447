/- walks (own work; the walks' lines by a program of this repo). -/
import Derived.Test.YtjiojffakejgjaaFa
import Derived.Test.YtjiojffakejgjaaCc
import Derived.Test.YtjiojffakejgjaaWiW
set_option linter.unusedVariables false
set_option linter.unusedSimpArgs false
set_option maxRecDepth 20000
namespace Go.Proofs.Ytjiojffakejgjaa
open Go.Sl
attribute [local irreducible] BodyQ WpC WpL WpS WpH OpW FnS


theorem grow_s {w0 : World} {H : Hp} (m : Nat) (hm : m ≤ 1000000) : FnS Try.prog w0 59 #[.slice none 0 0, .int .i64 (m : Int)] H (fun e H' => ∃ g, slOk 1 g 0 [] ∧ e = .returned (slV g 0) ∧ H' = slSeg 5 g [] :: H) := by
  refine FnS_intro (n := 27) (rs := [.tmp 4]) (vs := [.slice none 0 0, .int .i64 (m : Int)]) Try.func59 rfl Try.ntmps59 rfl rfl ?_
  refine C_seq ?_
  refine C_region ?_
  refine L_y rfl (y_assign rfl) rfl ?_
  refine L_nil ?_
  refine C_seq ?_
  refine C_seq ?_
  refine C_region ?_
  refine L_y rfl (y_move rfl) rfl ?_
  refine L_y rfl (y_lss rfl rfl) rfl ?_
  refine L_nil ?_
  refine C_cond rfl (fun hc0 => absurd hc0 (by simp)) (fun hc0 => ?_)
  refine C_skip ?_
  refine C_seq ?_
  refine C_seq ?_
  refine C_region ?_
  refine L_y rfl (y_move rfl) rfl ?_
  refine L_y rfl (y_move rfl) rfl ?_
  refine L_y rfl (y_capS rfl rfl Try.underlying25) rfl ?_
  refine L_y rfl (y_move rfl) rfl ?_
  refine L_y rfl (y_lenS rfl rfl Try.underlying25) rfl ?_
  refine L_y rfl (y_sub rfl rfl (wi64 (by omega) (by omega))) rfl ?_
  refine L_y rfl (y_sub rfl rfl (show _ = (m : Int) from by rw [wi64 (by omega) (by omega)]; omega)) rfl ?_
  refine L_y rfl (y_assign rfl) rfl ?_
  refine L_nil ?_
  refine C_seq ?_
  refine C_region ?_
  refine L_y rfl (y_move rfl) rfl ?_
  refine L_y rfl (y_gtr rfl rfl) rfl ?_
  refine L_nil ?_
  refine C_cond rfl (fun hc1 => ?_) (fun hc1 => ?_)
  · replace hc1 := of_decide_eq_true hc1
    refine C_region ?_
    refine L_y rfl (y_move rfl) rfl ?_
    refine L_y rfl (y_move rfl) rfl ?_
    refine L_y rfl (y_capS rfl rfl Try.underlying25) rfl ?_
    refine L_y rfl (y_sliceS_hi rfl rfl Try.underlying25 sz_5 (by simp) (by simp)) rfl ?_
    refine L_y rfl (y_move rfl) rfl ?_
    refine L_op rfl (op_append_zeros rfl rfl (by omega) Try.underlying25 Try.underlying3 sz_5 by_5 (by decide) zl_5 rfl (by decide) (by omega) rfl (fun B1 cap hcap => ?_))
    refine L_y rfl (y_move rfl) rfl ?_
    refine L_y rfl (y_lenS rfl rfl Try.underlying25) rfl ?_
    refine L_y rfl (y_sliceS_hi rfl rfl Try.underlying25 sz_5 (by simp) (by simp)) rfl ?_
    refine L_y rfl (y_assign rfl) rfl ?_
    refine L_nil ?_
    refine C_seq ?_
    refine C_region ?_
    refine L_y rfl (y_move rfl) rfl ?_
    refine L_y rfl (y_assign rfl) rfl ?_
    refine L_nil ?_
    refine C_ret ?_
    refine B_ret (rv_tmp rfl rv_nil) (HSub.refl _) ?_
    exact ⟨some ⟨B1, cap, zcells [.int .u8 0] cap⟩, ⟨rfl, by simp [zcells_length], Nat.zero_le _⟩, rfl, rfl⟩
  · replace hc1 := of_decide_eq_false hc1
    refine C_skip ?_
    refine C_seq ?_
    refine C_region ?_
    refine L_y rfl (y_move rfl) rfl ?_
    refine L_y rfl (y_assign rfl) rfl ?_
    refine L_nil ?_
    refine C_ret ?_
    refine B_ret (rv_tmp rfl rv_nil) (hsub_flat rfl : HSub ([] :: H) H) ?_
    exact ⟨none, ⟨rfl, rfl⟩, rfl, rfl⟩

theorem concat_s {w0 : World} {H : Hp} {bp T : Nat} {fr : Nat × Nat} (ps : List Part) (hb : Sees (fun w => St w0 w H) bp (.cells (ps.map pv).toArray T fr)) (hps : ∀ p ∈ ps, Src Try.prog w0 H 1 (pv p) p.2.2.length (bs p.2.2)) (htot : (cat ps).length ≤ 1000000) (hk : ps.length ≤ 1000) : FnS Try.prog w0 42 #[.slice (some ⟨bp, 0, none⟩) ps.length ps.length] H (fun e H' => ∃ g, slOk 1 g (cat ps).length (bs (cat ps)) ∧ e = .returned (slV g (cat ps).length) ∧ H' = slSeg 5 g (bs (cat ps)) :: H) := by
  refine FnS_intro (n := 36) (rs := [.tmp 2]) (vs := [.slice (some ⟨bp, 0, none⟩) ps.length ps.length]) Try.func42 rfl Try.ntmps42 rfl rfl ?_
  refine C_seq ?_
  refine C_region ?_
  refine L_y rfl (y_assign rfl) rfl ?_
  refine L_nil ?_
  refine C_seq ?_
  refine C_region ?_
  refine L_y rfl (y_assign rfl) rfl ?_
  refine L_nil ?_
  refine C_seq ?_
  refine C_seq ?_
  refine C_region ?_
  refine L_y rfl (y_move rfl) rfl ?_
  refine L_y rfl (y_lenS rfl rfl Try.underlying103) rfl ?_
  refine L_y rfl (y_move rfl) rfl ?_
  refine L_nil ?_
  refine C_block ?_
  refine C_loop (ι := Nat) (fun i => [(0, .slice (some ⟨bp, 0, none⟩) ps.length ps.length), (3, .int .i64 (((cat (ps.take i)).length : Nat) : Int)), (9, .slice (some ⟨bp, 0, none⟩) ps.length ps.length), (10, .int .i64 (ps.length : Int)), (11, .int .i64 (i : Int))]) (fun i => H) (fun i => i ≤ ps.length) (fun i => ps.length - i) 0 (Nat.zero_le _) ⟨rfl, rfl, rfl, rfl, rfl, trivial⟩ (HSub.refl _) (fun i hi => ?_)
  skip
  refine C_seq ?_
  refine C_region ?_
  refine L_y rfl (y_lss rfl rfl) rfl ?_
  refine L_nil ?_
  refine C_seq ?_
  refine C_cond rfl (fun hc0 => ?_) (fun hc0 => ?_)
  · replace hc0 := of_decide_eq_true hc0
    refine C_skip ?_
    refine C_seq ?_
    refine C_block ?_
    refine C_seq ?_
    obtain ⟨p, hp⟩ : ∃ p, ps[i]? = some p := ⟨_, List.getElem?_eq_getElem (by omega)⟩
    have hct := cat_take hp
    have hle := cat_le ps (i + 1)
    have hln : (cat (ps.take (i + 1))).length = (cat (ps.take i)).length + p.2.2.length := by rw [hct]; simp
    refine C_region ?_
    refine L_y rfl (y_indexS rfl rfl Try.underlying103 sz_25 (by omega) (by omega) rfl) rfl ?_
    refine L_y rfl (y_load rfl ag_25 (hb) (part_get hp)) rfl ?_
    refine L_y rfl (y_assign rfl) rfl ?_
    refine L_nil ?_
    refine C_seq ?_
    refine C_region ?_
    refine L_y rfl (y_move rfl) rfl ?_
    refine L_y rfl (y_move rfl) rfl ?_
    refine L_y rfl (y_lenS rfl rfl Try.underlying25) rfl ?_
    refine L_y rfl (y_add rfl rfl (show _ = (((cat (ps.take (i + 1))).length : Nat) : Int) from by rw [wi64 (by omega) (by omega)]; omega)) rfl ?_
    refine L_y rfl (y_assign rfl) rfl ?_
    refine L_nil ?_
    refine C_seq ?_
    refine C_region ?_
    refine L_y rfl (y_move rfl) rfl ?_
    refine L_y rfl (y_lss rfl rfl) rfl ?_
    refine L_nil ?_
    refine C_cond rfl (fun hc1 => absurd hc1 (by simp <;> omega)) (fun hc1 => ?_)
    refine C_skip ?_
    refine C_region ?_
    refine L_y rfl (y_add rfl rfl (wi64 (by omega) (by omega))) rfl ?_
    refine L_y rfl (y_move rfl) rfl ?_
    refine L_nil ?_
    exact ⟨i + 1, by omega, by omega, ⟨rfl, rfl, rfl, rfl, rfl, trivial⟩, HSub.refl _⟩
  · replace hc0 := of_decide_eq_false hc0
    refine C_exit ?_
    refine C_seq ?_
    obtain rfl : i = ps.length := by omega
    rw [List.take_length]
    refine C_region ?_
    refine L_y rfl (y_move rfl) rfl ?_
    refine L_op rfl (op_call rfl rfl (fun a w => Try.call59 a w) rfl ?_)
    refine (grow_s (cat ps).length htot).mono ?_
    rintro _ _ ⟨g, hg, rfl, rfl⟩
    refine ⟨_, rfl, ?_⟩
    refine L_y rfl (y_assign rfl) rfl ?_
    refine L_nil ?_
    refine C_seq ?_
    refine C_seq ?_
    refine C_region ?_
    refine L_y rfl (y_move rfl) rfl ?_
    refine L_y rfl (y_lenS rfl rfl Try.underlying103) rfl ?_
    refine L_y rfl (y_move rfl) rfl ?_
    refine L_nil ?_
    refine C_block ?_
    refine C_loop (ι := Nat × Option SlG) (fun i => [(6, slV i.2 (cat (ps.take i.1)).length), (25, .slice (some ⟨bp, 0, none⟩) ps.length ps.length), (26, .int .i64 (ps.length : Int)), (27, .int .i64 (i.1 : Int))]) (fun i => slSeg 5 i.2 (bs (cat (ps.take i.1))) :: H) (fun i => i.1 ≤ ps.length ∧ slOk 1 i.2 (cat (ps.take i.1)).length (bs (cat (ps.take i.1)))) (fun i => ps.length - i.1) (0, g) ⟨Nat.zero_le _, hg⟩ ⟨rfl, rfl, rfl, rfl, trivial⟩ (HSub.refl _) (fun i hi => ?_)
    obtain ⟨i, gs⟩ := i
    obtain ⟨hi, hok⟩ := hi
    refine C_seq ?_
    refine C_region ?_
    refine L_y rfl (y_lss rfl rfl) rfl ?_
    refine L_nil ?_
    refine C_seq ?_
    refine C_cond rfl (fun hc2 => ?_) (fun hc2 => ?_)
    · replace hc2 := of_decide_eq_true hc2
      refine C_skip ?_
      refine C_seq ?_
      refine C_block ?_
      refine C_seq ?_
      obtain ⟨p, hp⟩ : ∃ p, ps[i]? = some p := ⟨_, List.getElem?_eq_getElem (by simp only at hc2; omega)⟩
      have hct := cat_take hp
      have hle := cat_le ps (i + 1)
      have hln : (cat (ps.take (i + 1))).length = (cat (ps.take i)).length + p.2.2.length := by rw [hct]; simp
      refine C_region ?_
      refine L_y rfl (y_indexS rfl rfl Try.underlying103 sz_25 (by simp) (by simp only at hc2; omega) rfl) rfl ?_
      refine L_y rfl (y_load rfl ag_25 (hb.up) (part_get hp)) rfl ?_
      refine L_y rfl (y_assign rfl) rfl ?_
      refine L_nil ?_
      refine C_region ?_
      refine L_y rfl (y_move rfl) rfl ?_
      refine L_y rfl (y_move rfl) rfl ?_
      refine L_op rfl (op_append (gs := gs) (len := (cat (ps.take i)).length) (m := p.2.2.length) (xs := bs (cat (ps.take i))) (vs := bs p.2.2) 0 rfl rfl rfl hok ((hps p (List.mem_of_getElem? hp)).sub (HSub.drop _ _)) (by simp [bs_length]) (bs_one _) Try.underlying25 ni_25 sz_5 by_5 (by decide) zl_5 rfl (by omega) rfl (fun g' hg' => ?_))
      rw [← bs_append, ← hct, ← hln] at hg' ⊢
      refine L_y rfl (y_assign rfl) rfl ?_
      refine L_nil ?_
      refine C_region ?_
      refine L_y rfl (y_add rfl rfl (wi64 (by simp only; omega) (by simp only; omega))) rfl ?_
      refine L_y rfl (y_move rfl) rfl ?_
      refine L_nil ?_
      exact ⟨(i + 1, g'), ⟨by omega, hg'⟩, by simp only; omega, ⟨rfl, rfl, rfl, rfl, trivial⟩, HSub.refl _⟩
    · replace hc2 := of_decide_eq_false hc2
      refine C_exit ?_
      refine C_seq ?_
      refine C_region ?_
      refine L_y rfl (y_move rfl) rfl ?_
      refine L_y rfl (y_assign rfl) rfl ?_
      refine L_nil ?_
      refine C_ret ?_
      refine B_ret (rv_tmp rfl rv_nil) (HSub.refl _) ?_
      obtain rfl : i = ps.length := by simp only at hc2; omega
      rw [List.take_length] at hok ⊢
      exact ⟨gs, hok, rfl, rfl⟩

end Go.Proofs.Ytjiojffakejgjaa
