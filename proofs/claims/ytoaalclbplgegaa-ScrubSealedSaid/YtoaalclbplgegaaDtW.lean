/- walks (own work; the walks' lines by a program of this repo). -/
import Derived.Test.YtoaalclbplgegaaDfW
set_option linter.unusedVariables false
set_option linter.unusedSimpArgs false
set_option maxRecDepth 20000
namespace Go.Proofs.Ytoaalclbplgegaa
open Go.Sl
attribute [local irreducible] BodyQ WpC WpL WpS WpH OpW FnS


theorem rot_nil {w0 : World} {H : Hp} (n i m : Int) : FnS Try.prog w0 35 #[.pointer none, .int .i64 n, .int .i64 i, .int .u8 m] H (fun e H' => e = .returned (.bool false) ∧ H' = H) := by
  refine FnS_intro (n := 38) (rs := [.tmp 8]) (vs := [.pointer none, .int .i64 n, .int .i64 i, .int .u8 m]) Try.func35 rfl Try.ntmps35 rfl rfl ?_
  refine C_seq ?_
  refine C_region ?_
  refine L_y rfl (y_assign rfl) rfl ?_
  refine L_nil ?_
  refine C_seq ?_
  refine C_seq ?_
  refine C_region ?_
  refine L_y rfl (y_move rfl) rfl ?_
  refine L_y rfl (y_eqp rfl rfl Try.underlying24) rfl ?_
  refine L_y rfl (y_move rfl) rfl ?_
  refine L_skip rfl rfl ?_
  refine L_skip rfl rfl ?_
  refine L_skip rfl rfl ?_
  refine L_skip rfl rfl ?_
  refine L_y rfl (y_pick_t rfl rfl) rfl ?_
  refine L_y rfl (y_move rfl) rfl ?_
  refine L_skip rfl rfl ?_
  refine L_skip rfl rfl ?_
  refine L_y rfl (y_pick_t rfl rfl) rfl ?_
  refine L_y rfl (y_move rfl) rfl ?_
  refine L_skip rfl rfl ?_
  refine L_skip rfl rfl ?_
  refine L_y rfl (y_pick_t rfl rfl) rfl ?_
  refine L_nil ?_
  refine C_cond_t rfl ?_
  refine C_seq ?_
  refine C_region ?_
  refine L_y rfl (y_assign rfl) rfl ?_
  refine L_nil ?_
  refine C_ret ?_
  refine B_ret (rv_tmp rfl rv_nil) (HSub.refl _) ?_
  exact ⟨rfl, rfl⟩

theorem rot_out {w0 : World} {H : Hp} (d : Dv) (hD : Sees (fun w => St w0 w H) d.b (.cells d.cells.toArray dt.dev)) (n i m : Int) (hth : (decide (0 ≤ n) && decide (n < d.a.S.length)) = false) : FnS Try.prog w0 35 #[ptr d.b, .int .i64 n, .int .i64 i, .int .u8 m] H (fun e H' => e = .returned (.bool false) ∧ H' = H) := by
  refine FnS_intro (n := 38) (rs := [.tmp 8]) (vs := [ptr d.b, .int .i64 n, .int .i64 i, .int .u8 m]) Try.func35 rfl Try.ntmps35 rfl rfl ?_
  refine C_seq ?_
  refine C_region ?_
  refine L_y rfl (y_assign rfl) rfl ?_
  refine L_nil ?_
  refine C_seq ?_
  refine C_seq ?_
  refine C_region ?_
  refine L_y rfl (y_move rfl) rfl ?_
  refine L_y rfl (y_eqp rfl rfl Try.underlying24) rfl ?_
  refine L_y rfl (y_move rfl) rfl ?_
  refine L_y rfl (y_move rfl) rfl ?_
  refine L_y rfl (y_move rfl) rfl ?_
  refine L_op rfl (op_call rfl rfl (fun a w => Try.call45 a w) rfl ?_)
  refine (there_s d n (hD)).mono ?_
  rintro _ _ ⟨rfl, rfl⟩
  rw [hth]
  refine ⟨_, rfl, ?_⟩
  refine L_y rfl (y_not rfl) rfl ?_
  refine L_y rfl (y_pick_f rfl rfl) rfl ?_
  refine L_y rfl (y_move rfl) rfl ?_
  refine L_skip rfl rfl ?_
  refine L_skip rfl rfl ?_
  refine L_y rfl (y_pick_t rfl rfl) rfl ?_
  refine L_y rfl (y_move rfl) rfl ?_
  refine L_skip rfl rfl ?_
  refine L_skip rfl rfl ?_
  refine L_y rfl (y_pick_t rfl rfl) rfl ?_
  refine L_nil ?_
  refine C_cond_t rfl ?_
  refine C_seq ?_
  refine C_region ?_
  refine L_y rfl (y_assign rfl) rfl ?_
  refine L_nil ?_
  refine C_ret ?_
  refine B_ret (rv_tmp rfl rv_nil) (HSub.refl _) ?_
  exact ⟨rfl, rfl⟩

theorem rot_at {w0 : World} {H : Hp} (d : Dv) (hD : Sees (fun w => St w0 w H) d.b (.cells d.cells.toArray dt.dev)) (n i m : Int) (hth : (decide (0 ≤ n) && decide (n < d.a.S.length)) = true) (hi : ¬ (0 ≤ i ∧ i < 128)) : FnS Try.prog w0 35 #[ptr d.b, .int .i64 n, .int .i64 i, .int .u8 m] H (fun e H' => e = .returned (.bool false) ∧ H' = H) := by
  refine FnS_intro (n := 38) (rs := [.tmp 8]) (vs := [ptr d.b, .int .i64 n, .int .i64 i, .int .u8 m]) Try.func35 rfl Try.ntmps35 rfl rfl ?_
  refine C_seq ?_
  refine C_region ?_
  refine L_y rfl (y_assign rfl) rfl ?_
  refine L_nil ?_
  refine C_seq ?_
  refine C_seq ?_
  refine C_region ?_
  refine L_y rfl (y_move rfl) rfl ?_
  refine L_y rfl (y_eqp rfl rfl Try.underlying24) rfl ?_
  refine L_y rfl (y_move rfl) rfl ?_
  refine L_y rfl (y_move rfl) rfl ?_
  refine L_y rfl (y_move rfl) rfl ?_
  refine L_op rfl (op_call rfl rfl (fun a w => Try.call45 a w) rfl ?_)
  refine (there_s d n (hD)).mono ?_
  rintro _ _ ⟨rfl, rfl⟩
  rw [hth]
  refine ⟨_, rfl, ?_⟩
  refine L_y rfl (y_not rfl) rfl ?_
  refine L_y rfl (y_pick_f rfl rfl) rfl ?_
  refine L_y rfl (y_move rfl) rfl ?_
  refine L_y rfl (y_move rfl) rfl ?_
  refine L_y rfl (y_lss rfl rfl) rfl ?_
  refine L_y rfl (y_pick_f rfl rfl) rfl ?_
  refine L_y rfl (y_move rfl) rfl ?_
  refine L_case 21 rfl (fun hg1_13 => ?_) (fun hg1_13 => ?_)
  · skip
    refine L_skip rfl rfl ?_
    refine L_skip rfl rfl ?_
    refine L_y rfl (y_pick_t rfl rfl) rfl ?_
    refine L_nil ?_
    refine C_cond_t rfl ?_
    refine C_seq ?_
    refine C_region ?_
    refine L_y rfl (y_assign rfl) rfl ?_
    refine L_nil ?_
    refine C_ret ?_
    refine B_ret (rv_tmp rfl rv_nil) (HSub.refl _) ?_
    exact ⟨rfl, rfl⟩
  · skip
    refine L_y rfl (y_move rfl) rfl ?_
    refine L_y rfl (y_geq rfl rfl) rfl ?_
    refine L_y rfl (y_pick_f rfl rfl) rfl ?_
    refine L_nil ?_
    refine C_cond rfl (fun hc0 => ?_) (fun hc0 => absurd hc0 (by simp at hg1_13 ⊢ <;> omega))
    refine C_seq ?_
    refine C_region ?_
    refine L_y rfl (y_assign rfl) rfl ?_
    refine L_nil ?_
    refine C_ret ?_
    refine B_ret (rv_tmp rfl rv_nil) (HSub.refl _) ?_
    exact ⟨rfl, rfl⟩

theorem rot_go {w0 : World} {H : Hp} (d : Dv) (hd : d.a.ok) (n i : Nat) (m : UInt8) (hn : n < d.a.S.length) (hi : i < 128) : FnS Try.prog w0 35 #[ptr d.b, .int .i64 (n : Int), .int .i64 (i : Int), .int .u8 (m.toNat : Int)] (d.o dt :: d.t dt :: H) (fun e H' => e = .returned (.bool true) ∧ H' = ({ d with a := d.a.rot n i m } : Dv).o dt :: ({ d with a := d.a.rot n i m } : Dv).t dt :: H) := by
  have hth : (decide ((0 : Int) ≤ (n : Int)) && decide ((n : Int) < d.a.S.length)) = true := by simp; omega
  obtain ⟨s, hs⟩ : ∃ s, d.a.S[n]? = some s := ⟨_, List.getElem?_eq_getElem hn⟩
  have hs1 := hd.1 s (List.mem_of_getElem? hs)
  obtain ⟨v, hv⟩ : ∃ v, s[i]? = some v := ⟨_, List.getElem?_eq_getElem (by omega)⟩
  have hfl := flat_len hd.1
  have erot : d.a.rot n i m = { d.a with S := d.a.S.set n (s.set i (v ^^^ m)) } := by simp [Ab.rot, List.getD, hs, hv]
  refine FnS_intro (n := 38) (rs := [.tmp 8]) (vs := [ptr d.b, .int .i64 (n : Int), .int .i64 (i : Int), .int .u8 (m.toNat : Int)]) Try.func35 rfl Try.ntmps35 rfl rfl ?_
  refine C_seq ?_
  refine C_region ?_
  refine L_y rfl (y_assign rfl) rfl ?_
  refine L_nil ?_
  refine C_seq ?_
  refine C_seq ?_
  refine C_region ?_
  refine L_y rfl (y_move rfl) rfl ?_
  refine L_y rfl (y_eqp rfl rfl Try.underlying24) rfl ?_
  refine L_y rfl (y_move rfl) rfl ?_
  refine L_y rfl (y_move rfl) rfl ?_
  refine L_y rfl (y_move rfl) rfl ?_
  refine L_op rfl (op_call rfl rfl (fun a w => Try.call45 a w) rfl ?_)
  refine (there_s d _ (sees 0 0 rfl)).mono ?_
  rintro _ _ ⟨rfl, rfl⟩
  rw [hth]
  refine ⟨_, rfl, ?_⟩
  refine L_y rfl (y_not rfl) rfl ?_
  refine L_y rfl (y_pick_f rfl rfl) rfl ?_
  refine L_y rfl (y_move rfl) rfl ?_
  refine L_y rfl (y_move rfl) rfl ?_
  refine L_y rfl (y_lss rfl rfl) rfl ?_
  refine L_y rfl (y_pick_f rfl rfl) rfl ?_
  refine L_y rfl (y_move rfl) rfl ?_
  refine L_case 21 rfl (fun hg1_13 => ?_) (fun hg1_13 => ?_)
  · exact absurd (of_decide_eq_true hg1_13) (by omega)
  · skip
    refine L_y rfl (y_move rfl) rfl ?_
    refine L_y rfl (y_geq rfl rfl) rfl ?_
    refine L_y rfl (y_pick_f rfl rfl) rfl ?_
    refine L_nil ?_
    refine C_cond rfl (fun hc0 => absurd hc0 (by simp at * <;> omega)) (fun hc0 => ?_)
    refine C_skip ?_
    refine C_seq ?_
    refine C_regionT 13 (by kernel_rfl) (by kernel_rfl) ?_
    refine S_y rfl (y_move rfl) rfl ?_
    refine S_y rfl (y_nilCheck rfl) rfl ?_
    refine S_y rfl (y_fieldAddr rfl fl_97_1) rfl ?_
    refine S_y rfl (y_load rfl ag_26 (sees 0 0 rfl) rfl) rfl ?_
    refine S_y rfl (y_move rfl) rfl ?_
    refine S_y rfl (y_move rfl) rfl ?_
    refine S_y rfl (y_indexS rfl rfl Try.underlying26 sz_37 (by omega) (by omega) (show _ = n * 128 from by simp)) rfl ?_
    refine S_y rfl (y_indexA rfl rfl Try.underlying37 sz_5 (by omega) (by omega) (show _ = n * 128 + i from by simp)) rfl ?_
    refine S_y rfl (y_load rfl ag_5 (sees 1 0 rfl) (show _ = some (u8 v) from by rw [bs_get, flat_at hd.1 hs hi, hv]; rfl)) rfl ?_
    refine S_y rfl (y_move rfl) rfl ?_
    refine S_y rfl (y_xor rfl rfl (bits_xor8 v m)) rfl ?_
    refine S_y rfl (y_indexS rfl rfl Try.underlying26 sz_37 (by omega) (by omega) (show _ = n * 128 from by simp)) rfl ?_
    refine S_y rfl (y_indexA rfl rfl Try.underlying37 sz_5 (by omega) (by omega) (show _ = n * 128 + i from by simp)) rfl ?_
    refine S_nil ?_
    refine L_op rfl (op_store1 1 0 rfl rfl rfl sz_5 rfl (by rw [bs_length, hfl]; omega) ?_)
    refine L_nil ?_
    refine C_seq ?_
    refine C_region ?_
    refine L_y rfl (y_assign rfl) rfl ?_
    refine L_nil ?_
    refine C_ret ?_
    refine B_ret (rv_tmp rfl rv_nil) (HSub.refl _) ?_
    refine ⟨rfl, ?_⟩
    rw [erot]
    unfold Dv.o Dv.t Dv.cells
    simp only [List.length_set]
    rw [← flat_byte hd.1 hs hi, ← bs_set]
    rfl

end Go.Proofs.Ytoaalclbplgegaa
