/- Own work: texts DtW, DmW, SlR, DeW, DlW, Dw, Du, DuW, SlU, Mi, Fb, MsW, MrW, Sb, Wi, Xc, Fc, GgW, Mv, put together. -/
import Derived.RangeFuncRecord
import Derived.RangeFuncSeq
import Derived.TacticsIn
import Derived.Test.YtjjiclgbdenkkaaProg
import Derived.Test.YtjjiclgbdenkkaaMMirrorOnea
/- walks (own work; the walks' lines by a program of this repo). -/
set_option linter.unusedVariables false
set_option linter.unusedSimpArgs false
set_option maxRecDepth 20000
namespace Go.Proofs.Ytjjiclgbdenkkaa
open Go.Sl
attribute [local irreducible] BodyQ WpC WpL WpS WpH OpW FnS


theorem rot_nil {w0 : World} {H : Hp} (n i m : Int) : FnS Try.prog w0 34 #[.pointer none, .int .i64 n, .int .i64 i, .int .u8 m] H (fun e H' => e = .returned (.bool false) ∧ H' = H) := by
  refine FnS_intro (n := 38) (rs := [.tmp 8]) (vs := [.pointer none, .int .i64 n, .int .i64 i, .int .u8 m]) Try.func34 rfl Try.ntmps34 rfl rfl ?_
  refine C_seq ?_
  refine C_region ?_
  refine L_y rfl (y_assign rfl) rfl ?_
  refine L_nil ?_
  refine C_seq ?_
  refine C_seq ?_
  refine C_region ?_
  refine L_y rfl (y_move rfl) rfl ?_
  refine L_y rfl (y_eqp rfl rfl Try.underlying24) rfl ?_
  refine L_y rfl (y_move rfl) rfl ?_
  refine L_skip rfl rfl ?_
  refine L_skip rfl rfl ?_
  refine L_skip rfl rfl ?_
  refine L_skip rfl rfl ?_
  refine L_y rfl (y_pick_t rfl rfl) rfl ?_
  refine L_y rfl (y_move rfl) rfl ?_
  refine L_skip rfl rfl ?_
  refine L_skip rfl rfl ?_
  refine L_y rfl (y_pick_t rfl rfl) rfl ?_
  refine L_y rfl (y_move rfl) rfl ?_
  refine L_skip rfl rfl ?_
  refine L_skip rfl rfl ?_
  refine L_y rfl (y_pick_t rfl rfl) rfl ?_
  refine L_nil ?_
  refine C_cond_t rfl ?_
  refine C_seq ?_
  refine C_region ?_
  refine L_y rfl (y_assign rfl) rfl ?_
  refine L_nil ?_
  refine C_ret ?_
  refine B_ret (rv_tmp rfl rv_nil) (HSub.refl _) ?_
  exact ⟨rfl, rfl⟩

theorem rot_out {w0 : World} {H : Hp} (d : Dv) (hD : Sees (fun w => St w0 w H) d.b (.cells d.cells.toArray dt.dev)) (n i m : Int) (hth : (decide (0 ≤ n) && decide (n < d.a.S.length)) = false) : FnS Try.prog w0 34 #[ptr d.b, .int .i64 n, .int .i64 i, .int .u8 m] H (fun e H' => e = .returned (.bool false) ∧ H' = H) := by
  refine FnS_intro (n := 38) (rs := [.tmp 8]) (vs := [ptr d.b, .int .i64 n, .int .i64 i, .int .u8 m]) Try.func34 rfl Try.ntmps34 rfl rfl ?_
  refine C_seq ?_
  refine C_region ?_
  refine L_y rfl (y_assign rfl) rfl ?_
  refine L_nil ?_
  refine C_seq ?_
  refine C_seq ?_
  refine C_region ?_
  refine L_y rfl (y_move rfl) rfl ?_
  refine L_y rfl (y_eqp rfl rfl Try.underlying24) rfl ?_
  refine L_y rfl (y_move rfl) rfl ?_
  refine L_y rfl (y_move rfl) rfl ?_
  refine L_y rfl (y_move rfl) rfl ?_
  refine L_op rfl (op_call rfl rfl (fun a w => Try.call65 a w) rfl ?_)
  refine (there_s d n (hD)).mono ?_
  rintro _ _ ⟨rfl, rfl⟩
  rw [hth]
  refine ⟨_, rfl, ?_⟩
  refine L_y rfl (y_not rfl) rfl ?_
  refine L_y rfl (y_pick_f rfl rfl) rfl ?_
  refine L_y rfl (y_move rfl) rfl ?_
  refine L_skip rfl rfl ?_
  refine L_skip rfl rfl ?_
  refine L_y rfl (y_pick_t rfl rfl) rfl ?_
  refine L_y rfl (y_move rfl) rfl ?_
  refine L_skip rfl rfl ?_
  refine L_skip rfl rfl ?_
  refine L_y rfl (y_pick_t rfl rfl) rfl ?_
  refine L_nil ?_
  refine C_cond_t rfl ?_
  refine C_seq ?_
  refine C_region ?_
  refine L_y rfl (y_assign rfl) rfl ?_
  refine L_nil ?_
  refine C_ret ?_
  refine B_ret (rv_tmp rfl rv_nil) (HSub.refl _) ?_
  exact ⟨rfl, rfl⟩

theorem rot_at {w0 : World} {H : Hp} (d : Dv) (hD : Sees (fun w => St w0 w H) d.b (.cells d.cells.toArray dt.dev)) (n i m : Int) (hth : (decide (0 ≤ n) && decide (n < d.a.S.length)) = true) (hi : ¬ (0 ≤ i ∧ i < 128)) : FnS Try.prog w0 34 #[ptr d.b, .int .i64 n, .int .i64 i, .int .u8 m] H (fun e H' => e = .returned (.bool false) ∧ H' = H) := by
  refine FnS_intro (n := 38) (rs := [.tmp 8]) (vs := [ptr d.b, .int .i64 n, .int .i64 i, .int .u8 m]) Try.func34 rfl Try.ntmps34 rfl rfl ?_
  refine C_seq ?_
  refine C_region ?_
  refine L_y rfl (y_assign rfl) rfl ?_
  refine L_nil ?_
  refine C_seq ?_
  refine C_seq ?_
  refine C_region ?_
  refine L_y rfl (y_move rfl) rfl ?_
  refine L_y rfl (y_eqp rfl rfl Try.underlying24) rfl ?_
  refine L_y rfl (y_move rfl) rfl ?_
  refine L_y rfl (y_move rfl) rfl ?_
  refine L_y rfl (y_move rfl) rfl ?_
  refine L_op rfl (op_call rfl rfl (fun a w => Try.call65 a w) rfl ?_)
  refine (there_s d n (hD)).mono ?_
  rintro _ _ ⟨rfl, rfl⟩
  rw [hth]
  refine ⟨_, rfl, ?_⟩
  refine L_y rfl (y_not rfl) rfl ?_
  refine L_y rfl (y_pick_f rfl rfl) rfl ?_
  refine L_y rfl (y_move rfl) rfl ?_
  refine L_y rfl (y_move rfl) rfl ?_
  refine L_y rfl (y_lss rfl rfl) rfl ?_
  refine L_y rfl (y_pick_f rfl rfl) rfl ?_
  refine L_y rfl (y_move rfl) rfl ?_
  refine L_case 21 rfl (fun hg1_13 => ?_) (fun hg1_13 => ?_)
  · skip
    refine L_skip rfl rfl ?_
    refine L_skip rfl rfl ?_
    refine L_y rfl (y_pick_t rfl rfl) rfl ?_
    refine L_nil ?_
    refine C_cond_t rfl ?_
    refine C_seq ?_
    refine C_region ?_
    refine L_y rfl (y_assign rfl) rfl ?_
    refine L_nil ?_
    refine C_ret ?_
    refine B_ret (rv_tmp rfl rv_nil) (HSub.refl _) ?_
    exact ⟨rfl, rfl⟩
  · skip
    refine L_y rfl (y_move rfl) rfl ?_
    refine L_y rfl (y_geq rfl rfl) rfl ?_
    refine L_y rfl (y_pick_f rfl rfl) rfl ?_
    refine L_nil ?_
    refine C_cond rfl (fun hc0 => ?_) (fun hc0 => absurd hc0 (by simp at hg1_13 ⊢ <;> omega))
    refine C_seq ?_
    refine C_region ?_
    refine L_y rfl (y_assign rfl) rfl ?_
    refine L_nil ?_
    refine C_ret ?_
    refine B_ret (rv_tmp rfl rv_nil) (HSub.refl _) ?_
    exact ⟨rfl, rfl⟩

theorem rot_go {w0 : World} {H : Hp} (d : Dv) (hd : d.a.ok) (n i : Nat) (m : UInt8) (hn : n < d.a.S.length) (hi : i < 128) : FnS Try.prog w0 34 #[ptr d.b, .int .i64 (n : Int), .int .i64 (i : Int), .int .u8 (m.toNat : Int)] (d.o dt :: d.t dt :: H) (fun e H' => e = .returned (.bool true) ∧ H' = ({ d with a := d.a.rot n i m } : Dv).o dt :: ({ d with a := d.a.rot n i m } : Dv).t dt :: H) := by
  have hth : (decide ((0 : Int) ≤ (n : Int)) && decide ((n : Int) < d.a.S.length)) = true := by simp; omega
  obtain ⟨s, hs⟩ : ∃ s, d.a.S[n]? = some s := ⟨_, List.getElem?_eq_getElem hn⟩
  have hs1 := hd.1 s (List.mem_of_getElem? hs)
  obtain ⟨v, hv⟩ : ∃ v, s[i]? = some v := ⟨_, List.getElem?_eq_getElem (by omega)⟩
  have hfl := flat_len hd.1
  have erot : d.a.rot n i m = { d.a with S := d.a.S.set n (s.set i (v ^^^ m)) } := by simp [Ab.rot, List.getD, hs, hv]
  refine FnS_intro (n := 38) (rs := [.tmp 8]) (vs := [ptr d.b, .int .i64 (n : Int), .int .i64 (i : Int), .int .u8 (m.toNat : Int)]) Try.func34 rfl Try.ntmps34 rfl rfl ?_
  refine C_seq ?_
  refine C_region ?_
  refine L_y rfl (y_assign rfl) rfl ?_
  refine L_nil ?_
  refine C_seq ?_
  refine C_seq ?_
  refine C_region ?_
  refine L_y rfl (y_move rfl) rfl ?_
  refine L_y rfl (y_eqp rfl rfl Try.underlying24) rfl ?_
  refine L_y rfl (y_move rfl) rfl ?_
  refine L_y rfl (y_move rfl) rfl ?_
  refine L_y rfl (y_move rfl) rfl ?_
  refine L_op rfl (op_call rfl rfl (fun a w => Try.call65 a w) rfl ?_)
  refine (there_s d _ (sees 0 0 rfl)).mono ?_
  rintro _ _ ⟨rfl, rfl⟩
  rw [hth]
  refine ⟨_, rfl, ?_⟩
  refine L_y rfl (y_not rfl) rfl ?_
  refine L_y rfl (y_pick_f rfl rfl) rfl ?_
  refine L_y rfl (y_move rfl) rfl ?_
  refine L_y rfl (y_move rfl) rfl ?_
  refine L_y rfl (y_lss rfl rfl) rfl ?_
  refine L_y rfl (y_pick_f rfl rfl) rfl ?_
  refine L_y rfl (y_move rfl) rfl ?_
  refine L_case 21 rfl (fun hg1_13 => ?_) (fun hg1_13 => ?_)
  · exact absurd (of_decide_eq_true hg1_13) (by omega)
  · skip
    refine L_y rfl (y_move rfl) rfl ?_
    refine L_y rfl (y_geq rfl rfl) rfl ?_
    refine L_y rfl (y_pick_f rfl rfl) rfl ?_
    refine L_nil ?_
    refine C_cond rfl (fun hc0 => absurd hc0 (by simp at * <;> omega)) (fun hc0 => ?_)
    refine C_skip ?_
    refine C_seq ?_
    refine C_regionT 13 (by kernel_rfl) (by kernel_rfl) ?_
    refine S_y rfl (y_move rfl) rfl ?_
    refine S_y rfl (y_nilCheck rfl) rfl ?_
    refine S_y rfl (y_fieldAddr rfl fl_101_1) rfl ?_
    refine S_y rfl (y_load rfl ag_40 (sees 0 0 rfl) rfl) rfl ?_
    refine S_y rfl (y_move rfl) rfl ?_
    refine S_y rfl (y_move rfl) rfl ?_
    refine S_y rfl (y_indexS rfl rfl Try.underlying40 sz_32 (by omega) (by omega) (show _ = n * 128 from by simp)) rfl ?_
    refine S_y rfl (y_indexA rfl rfl Try.underlying32 sz_5 (by omega) (by omega) (show _ = n * 128 + i from by simp)) rfl ?_
    refine S_y rfl (y_load rfl ag_5 (sees 1 0 rfl) (show _ = some (u8 v) from by rw [bs_get, flat_at hd.1 hs hi, hv]; rfl)) rfl ?_
    refine S_y rfl (y_move rfl) rfl ?_
    refine S_y rfl (y_xor rfl rfl (bits_xor8 v m)) rfl ?_
    refine S_y rfl (y_indexS rfl rfl Try.underlying40 sz_32 (by omega) (by omega) (show _ = n * 128 from by simp)) rfl ?_
    refine S_y rfl (y_indexA rfl rfl Try.underlying32 sz_5 (by omega) (by omega) (show _ = n * 128 + i from by simp)) rfl ?_
    refine S_nil ?_
    refine L_op rfl (op_store1 1 0 rfl rfl rfl sz_5 rfl (by rw [bs_length, hfl]; omega) ?_)
    refine L_nil ?_
    refine C_seq ?_
    refine C_region ?_
    refine L_y rfl (y_assign rfl) rfl ?_
    refine L_nil ?_
    refine C_ret ?_
    refine B_ret (rv_tmp rfl rv_nil) (HSub.refl _) ?_
    refine ⟨rfl, ?_⟩
    rw [erot]
    unfold Dv.o Dv.t Dv.cells
    simp only [List.length_set]
    rw [← flat_byte hd.1 hs hi, ← bs_set]
    rfl

end Go.Proofs.Ytjjiclgbdenkkaa

/- walks (own work; the walks' lines by a program of this repo). -/
set_option linter.unusedVariables false
set_option linter.unusedSimpArgs false
set_option maxRecDepth 20000
namespace Go.Proofs.Ytjjiclgbdenkkaa
open Go.Sl
attribute [local irreducible] BodyQ WpC WpL WpS WpH OpW FnS


theorem newpower_s {w0 : World} {H : Hp}  : FnS Try.prog w0 26 #[] H (fun e H' => ∃ b, e = .returned (ptr b) ∧ H' = (⟨b, none, [], ⟨false, 0, false⟩⟩ : Pw).o dt :: [] :: H) := by
  refine FnS_intro (n := 3) (rs := [.tmp 0]) (vs := []) Try.func26 rfl Try.ntmps26 rfl rfl ?_
  refine C_seq ?_
  refine C_region ?_
  refine L_y rfl (y_assign rfl) rfl ?_
  refine L_nil ?_
  refine C_seq ?_
  refine C_region ?_
  refine L_y rfl (y_build0 pl_104 zl_104) rfl ?_
  refine L_op rfl (op_box rfl rfl rfl (fun B1 => ?_))
  refine L_y rfl (y_assign rfl) rfl ?_
  refine L_nil ?_
  refine C_ret ?_
  refine B_ret (rv_tmp rfl rv_nil) hsub_nil1 ?_
  exact ⟨_, rfl, rfl⟩

theorem new_s {w0 : World} {H : Hp} (n : Int) (p : Pw) (hp : p.ok dt) (hk : p.devs.length ≤ 1000) : FnS Try.prog w0 16 #[.int .i64 n, ptr p.b] (p.o dt :: p.q dt :: H) (fun e H' => ∃ b st g', slOk 1 g' (p.devs ++ [b]).length ((p.devs ++ [b]).map (clos dt)) ∧ e = .returned (ptr b) ∧ H' = opn dt (Dv.new b st p.b (szOf n)) ⟨p.b, g', p.devs ++ [b], p.a⟩ [] H) := by
  refine FnS_intro (n := 28) (rs := [.tmp 4]) (vs := [.int .i64 n, ptr p.b]) Try.func16 rfl Try.ntmps16 rfl rfl ?_
  refine C_seq ?_
  refine C_region ?_
  refine L_y rfl (y_assign rfl) rfl ?_
  refine L_nil ?_
  refine C_seq ?_
  refine C_seq ?_
  refine C_region ?_
  refine L_y rfl (y_move rfl) rfl ?_
  refine L_y rfl (y_eqp rfl rfl Try.underlying43) rfl ?_
  refine L_nil ?_
  refine C_cond_f rfl ?_
  refine C_skip ?_
  refine C_seq ?_
  refine C_region ?_
  refine L_y rfl (y_move rfl) rfl ?_
  refine L_y rfl (y_move rfl) rfl ?_
  refine L_y rfl (y_max rfl rfl) rfl ?_
  refine L_y rfl (y_min rfl rfl) rfl ?_
  refine L_op rfl (op_makeSlice rfl Try.underlying40 by_32 sz_32 zl_32 rfl (by omega) (by omega) (by omega) rfl (fun B1 => ?_))
  refine L_y rfl (y_build (vs := [(0, _), (1, _)]) rfl pl_101 zl_101 (fill_cons (off := 0) (m := 1) (vs := [_]) rfl rfl rfl (Nat.le_of_ble_eq_true rfl) (fill_cons (off := 1) (m := 1) (vs := [_]) rfl rfl rfl (Nat.le_of_ble_eq_true rfl) rfl))) rfl ?_
  refine L_op rfl (op_box rfl rfl rfl (fun B2 => ?_))
  refine L_y rfl (y_assign rfl) rfl ?_
  refine L_nil ?_
  refine C_seq ?_
  refine C_region ?_
  refine L_y rfl (y_move rfl) rfl ?_
  refine L_y rfl (y_move rfl) rfl ?_
  refine L_y rfl (y_nilCheck rfl) rfl ?_
  refine L_y rfl (y_fieldAddr rfl fl_104_3) rfl ?_
  refine L_y rfl (y_load rfl ag_102 (sees 2 0 rfl) rfl) rfl ?_
  refine L_y rfl (y_move rfl) rfl ?_
  refine L_y rfl (y_makeFunc rfl rfl) rfl ?_
  refine L_op rfl (op_buildSlice (vs := [(0, _)]) rfl Try.underlying102 sz_1 zl_1 rfl (by decide) (fill_one rfl rfl rfl) rfl (fun B3 => ?_))
  refine L_op rfl (op_append (gs := p.g) (len := p.devs.length) (m := 1) (xs := p.devs.map (clos dt)) (vs := [clos dt B2]) 4 rfl rfl rfl hp.1 (src_slice (sees 0 0 rfl) (Nat.le_of_ble_eq_true rfl) rfl) rfl (fun v hv => by simp at hv; subst hv; rfl) Try.underlying102 ni_102 sz_1 by_1 (by decide) zl_1 rfl (by omega) rfl (fun g' hg' => ?_))
  rw [show p.devs.map (clos dt) ++ [clos dt B2] = (p.devs ++ [B2]).map (clos dt) from by simp, show p.devs.length + 1 = (p.devs ++ [B2]).length from by simp] at hg' ⊢
  refine L_y rfl (y_nilCheck rfl) rfl ?_
  refine L_y rfl (y_fieldAddr rfl fl_104_3) rfl ?_
  refine L_op rfl (op_store1 3 0 rfl rfl (one_slV _ _) sz_102 rfl (Nat.le_of_ble_eq_true rfl) ?_)
  refine L_nil ?_
  refine C_seq ?_
  refine C_region ?_
  refine L_y rfl (y_move rfl) rfl ?_
  refine L_y rfl (y_assign rfl) rfl ?_
  refine L_nil ?_
  refine C_ret ?_
  refine B_ret (rv_tmp rfl rv_nil) (hsub_nil2.trans (hsub (.cons _ (.refl _)))) ?_
  refine ⟨B2, B1, g', hg', rfl, ?_⟩
  rw [zsecs]
  unfold opn Dv.o Dv.t Dv.q Dv.cells Dv.new Ab.new szOf
  simp only [List.length_replicate]
  have e0 : (((min (max n 0) 4096).toNat : Nat) : Int) = min (max n 0) 4096 := by omega
  rfl

theorem new_nil {w0 : World} {H : Hp} (n : Int) : FnS Try.prog w0 16 #[.int .i64 n, .pointer none] H (fun e H' => ∃ pb b st g', slOk 1 g' ([] ++ [b]).length (([] ++ [b]).map (clos dt)) ∧ e = .returned (ptr b) ∧ H' = opn dt (Dv.new b st pb (szOf n)) ⟨pb, g', [] ++ [b], ⟨false, 0, false⟩⟩ [] H) := by
  have hk : (0 : Nat) ≤ 0 := Nat.le_refl 0
  refine FnS_intro (n := 28) (rs := [.tmp 4]) (vs := [.int .i64 n, .pointer none]) Try.func16 rfl Try.ntmps16 rfl rfl ?_
  refine C_seq ?_
  refine C_region ?_
  refine L_y rfl (y_assign rfl) rfl ?_
  refine L_nil ?_
  refine C_seq ?_
  refine C_seq ?_
  refine C_region ?_
  refine L_y rfl (y_move rfl) rfl ?_
  refine L_y rfl (y_eqp rfl rfl Try.underlying43) rfl ?_
  refine L_nil ?_
  refine C_cond_t rfl ?_
  refine C_region ?_
  refine L_op rfl (op_call rfl rfl (fun a w => Try.call26 a w) rfl ?_)
  refine newpower_s.mono ?_
  rintro _ _ ⟨pb, rfl, rfl⟩
  refine ⟨_, rfl, ?_⟩
  refine L_y rfl (y_assign rfl) rfl ?_
  refine L_nil ?_
  refine C_seq ?_
  refine C_region ?_
  refine L_y rfl (y_move rfl) rfl ?_
  refine L_y rfl (y_move rfl) rfl ?_
  refine L_y rfl (y_max rfl rfl) rfl ?_
  refine L_y rfl (y_min rfl rfl) rfl ?_
  refine L_op rfl (op_makeSlice rfl Try.underlying40 by_32 sz_32 zl_32 rfl (by omega) (by omega) (by omega) rfl (fun B1 => ?_))
  refine L_y rfl (y_build (vs := [(0, _), (1, _)]) rfl pl_101 zl_101 (fill_cons (off := 0) (m := 1) (vs := [_]) rfl rfl rfl (Nat.le_of_ble_eq_true rfl) (fill_cons (off := 1) (m := 1) (vs := [_]) rfl rfl rfl (Nat.le_of_ble_eq_true rfl) rfl))) rfl ?_
  refine L_op rfl (op_box rfl rfl rfl (fun B2 => ?_))
  refine L_y rfl (y_assign rfl) rfl ?_
  refine L_nil ?_
  refine C_seq ?_
  refine C_region ?_
  refine L_y rfl (y_move rfl) rfl ?_
  refine L_y rfl (y_move rfl) rfl ?_
  refine L_y rfl (y_nilCheck rfl) rfl ?_
  refine L_y rfl (y_fieldAddr rfl fl_104_3) rfl ?_
  refine L_y rfl (y_load rfl ag_102 (sees 2 0 rfl) rfl) rfl ?_
  refine L_y rfl (y_move rfl) rfl ?_
  refine L_y rfl (y_makeFunc rfl rfl) rfl ?_
  refine L_op rfl (op_buildSlice (vs := [(0, _)]) rfl Try.underlying102 sz_1 zl_1 rfl (by decide) (fill_one rfl rfl rfl) rfl (fun B3 => ?_))
  refine L_op rfl (op_append (gs := none) (len := [].length) (m := 1) (xs := [].map (clos dt)) (vs := [clos dt B2]) 4 rfl rfl rfl ⟨rfl, rfl⟩ (src_slice (sees 0 0 rfl) (Nat.le_of_ble_eq_true rfl) rfl) rfl (fun v hv => by simp at hv; subst hv; rfl) Try.underlying102 ni_102 sz_1 by_1 (by decide) zl_1 rfl (by decide) rfl (fun g' hg' => ?_))
  rw [show [].map (clos dt) ++ [clos dt B2] = ([] ++ [B2]).map (clos dt) from by simp, show [].length + 1 = ([] ++ [B2]).length from by simp] at hg' ⊢
  refine L_y rfl (y_nilCheck rfl) rfl ?_
  refine L_y rfl (y_fieldAddr rfl fl_104_3) rfl ?_
  refine L_op rfl (op_store1 3 0 rfl rfl (one_slV _ _) sz_102 rfl (Nat.le_of_ble_eq_true rfl) ?_)
  refine L_nil ?_
  refine C_seq ?_
  refine C_region ?_
  refine L_y rfl (y_move rfl) rfl ?_
  refine L_y rfl (y_assign rfl) rfl ?_
  refine L_nil ?_
  refine C_ret ?_
  refine B_ret (rv_tmp rfl rv_nil) (hsub_nil2.trans (hsub (.cons _ (.refl _)))) ?_
  refine ⟨pb, B2, B1, g', hg', rfl, ?_⟩
  rw [zsecs]
  unfold opn Dv.o Dv.t Dv.q Dv.cells Dv.new Ab.new szOf
  simp only [List.length_replicate]
  have e0 : (((min (max n 0) 4096).toNat : Nat) : Int) = min (max n 0) 4096 := by omega
  rfl

theorem clonesec_s {w0 : World} {H : Hp} {x : Addr} {m cap : Nat} (vs : List Value) (hs : Src Try.prog w0 H 128 (.slice (some x) m cap) m vs) (hv : vs.length = m * 128) (ho : ∀ v ∈ vs, one v = true) (hm : m ≤ 100000) : FnS Try.prog w0 63 #[.slice (some x) m cap] H (fun e H' => ∃ g, slOk 128 g m vs ∧ e = .returned (slV g m) ∧ H' = slSeg 32 g vs :: H) := by
  refine FnS_intro (n := 8) (rs := [.tmp 2]) (vs := [.slice (some x) m cap]) Try.func63 rfl Try.ntmps63 rfl rfl ?_
  refine C_seq ?_
  refine C_region ?_
  refine L_y rfl (y_assign rfl) rfl ?_
  refine L_nil ?_
  refine C_seq ?_
  refine C_seq ?_
  refine C_region ?_
  refine L_y rfl (y_move rfl) rfl ?_
  refine L_y rfl (y_eqs rfl rfl Try.underlying40) rfl ?_
  refine L_nil ?_
  refine C_cond_f rfl ?_
  refine C_skip ?_
  refine C_seq ?_
  refine C_region ?_
  refine L_op rfl (op_buildSlice (vs := []) rfl Try.underlying40 sz_32 zl_32 rfl (by decide) rfl rfl (fun B1 => ?_))
  refine L_y rfl (y_move rfl) rfl ?_
  refine L_op rfl (op_append (gs := some ⟨B1, 0, []⟩) (len := 0) (m := m) (xs := []) (vs := vs) 0 rfl rfl rfl ⟨rfl, rfl, Nat.le_refl _⟩ hs.up hv ho Try.underlying40 ni_40 sz_32 by_32 (by decide) zl_32 rfl (by omega) rfl (fun g hg => ?_))
  rw [Nat.zero_add, List.nil_append] at hg ⊢
  refine L_y rfl (y_assign rfl) rfl ?_
  refine L_nil ?_
  refine C_ret ?_
  refine B_ret (rv_tmp rfl rv_nil) (HSub.refl _) ?_
  exact ⟨g, hg, rfl, rfl⟩

theorem clonesec_nil {w0 : World} {H : Hp}  : FnS Try.prog w0 63 #[.slice none 0 0] H (fun e H' => e = .returned (.slice none 0 0) ∧ H' = H) := by
  refine FnS_intro (n := 8) (rs := [.tmp 2]) (vs := [.slice none 0 0]) Try.func63 rfl Try.ntmps63 rfl rfl ?_
  refine C_seq ?_
  refine C_region ?_
  refine L_y rfl (y_assign rfl) rfl ?_
  refine L_nil ?_
  refine C_seq ?_
  refine C_seq ?_
  refine C_region ?_
  refine L_y rfl (y_move rfl) rfl ?_
  refine L_y rfl (y_eqs rfl rfl Try.underlying40) rfl ?_
  refine L_nil ?_
  refine C_cond_t rfl ?_
  refine C_seq ?_
  refine C_region ?_
  refine L_y rfl (y_assign rfl) rfl ?_
  refine L_nil ?_
  refine C_ret ?_
  refine B_ret (rv_tmp rfl rv_nil) (HSub.refl _) ?_
  exact ⟨rfl, rfl⟩

theorem dump_s {w0 : World} {H : Hp} (d : Dv) (hd : d.a.ok) (hD : Sees (fun w => St w0 w H) d.b (.cells d.cells.toArray dt.dev)) (hT : Sees (fun w => St w0 w H) d.st (.cells (bs d.a.S.flatten).toArray dt.sec)) : FnS Try.prog w0 30 #[ptr d.b] H (fun e H' => ∃ g, slOk 128 g d.a.S.length (bs d.a.S.flatten) ∧ e = .returned (slV g d.a.S.length) ∧ H' = slSeg 32 g (bs d.a.S.flatten) :: H) := by
  have hfl := flat_len hd.1
  refine FnS_intro (n := 10) (rs := [.tmp 2]) (vs := [ptr d.b]) Try.func30 rfl Try.ntmps30 rfl rfl ?_
  refine C_seq ?_
  refine C_region ?_
  refine L_y rfl (y_assign rfl) rfl ?_
  refine L_nil ?_
  refine C_seq ?_
  refine C_seq ?_
  refine C_region ?_
  refine L_y rfl (y_move rfl) rfl ?_
  refine L_y rfl (y_eqp rfl rfl Try.underlying24) rfl ?_
  refine L_nil ?_
  refine C_cond_f rfl ?_
  refine C_skip ?_
  refine C_seq ?_
  refine C_region ?_
  refine L_y rfl (y_move rfl) rfl ?_
  refine L_y rfl (y_nilCheck rfl) rfl ?_
  refine L_y rfl (y_fieldAddr rfl fl_101_1) rfl ?_
  refine L_y rfl (y_load rfl ag_40 (hD) rfl) rfl ?_
  refine L_op rfl (op_call rfl rfl (fun a w => Try.call63 a w) rfl ?_)
  refine (clonesec_s (bs d.a.S.flatten) (src_slice (hT) (Nat.le_of_eq (by rw [bs_length, hfl, Nat.zero_add])) (by rw [List.drop_zero, List.take_of_length_le (Nat.le_of_eq (by rw [bs_length, hfl]))])) (by rw [bs_length, hfl]) (bs_one _) (by have := hd.2.1; omega)).mono ?_
  rintro _ _ ⟨g, hg, rfl, rfl⟩
  refine ⟨_, rfl, ?_⟩
  refine L_y rfl (y_assign rfl) rfl ?_
  refine L_nil ?_
  refine C_ret ?_
  refine B_ret (rv_tmp rfl rv_nil) (HSub.refl _) ?_
  exact ⟨g, hg, rfl, rfl⟩

theorem dump_nil {w0 : World} {H : Hp}  : FnS Try.prog w0 30 #[.pointer none] H (fun e H' => e = .returned (.slice none 0 0) ∧ H' = H) := by
  refine FnS_intro (n := 10) (rs := [.tmp 2]) (vs := [.pointer none]) Try.func30 rfl Try.ntmps30 rfl rfl ?_
  refine C_seq ?_
  refine C_region ?_
  refine L_y rfl (y_assign rfl) rfl ?_
  refine L_nil ?_
  refine C_seq ?_
  refine C_seq ?_
  refine C_region ?_
  refine L_y rfl (y_move rfl) rfl ?_
  refine L_y rfl (y_eqp rfl rfl Try.underlying24) rfl ?_
  refine L_nil ?_
  refine C_cond_t rfl ?_
  refine C_seq ?_
  refine C_region ?_
  refine L_y rfl (y_assign rfl) rfl ?_
  refine L_nil ?_
  refine C_ret ?_
  refine B_ret (rv_tmp rfl rv_nil) (HSub.refl _) ?_
  exact ⟨rfl, rfl⟩

end Go.Proofs.Ytjjiclgbdenkkaa

/- A range over a function: the rounds, the call, the way out (own work, over the kit's laws of the statement). -/
set_option linter.unusedVariables false
set_option linter.unusedSimpArgs false
namespace Go.Sl
variable {P : Program} {n : FN} {w0 : World} {Q : Post} {E E' : Env} {H H' : Hp} {r : Option Nat}
abbrev Fr (r : Option Nat) : Fence := { Fence.wide with round := r }
def WpCI (P : Program) (n : FN) (w0 : World) (r : Option Nat) (c : Code) (Q : Post) (E : Env) (H : Hp) : Prop := ∀ m a w, FrOk n E a → St w0 w H → c.wpIn (Fr r) m P (lift n w0 Q) a w
def WpLI (P : Program) (n : FN) (w0 : World) (r : Option Nat) (ops : List Oper) (Q : Post) (l : List Oper) (E : Env) (H : Hp) : Prop := ∀ m a w, FrOk n E a → St w0 w H → wpListIn (Fr r) m P ops.toArray (lift n w0 Q) l a w
theorem CI_of {c : Code} (h : WpC P n w0 c Q E H) : WpCI P n w0 none c Q E H := fun m a w ha hw => (wpIn_wide (n := m)).2 (h a w ha hw)
theorem C_of {c : Code} (h : WpCI P n w0 none c Q E H) : WpC P n w0 c Q E H := fun a w ha hw => (wpIn_wide (n := 0)).1 (h 0 a w ha hw)
theorem CI_seq {x y : Code} (h : WpCI P n w0 r x (thenQ (WpCI P n w0 r y Q) Q) E H) : WpCI P n w0 r (.seq x y) Q E H := fun m a w ha hw => by
  refine wpIn_seq (wpIn_mono (h m a w ha hw) ?_)
  rintro e a' w' ⟨E', H', x, s, q⟩
  cases e with
  | normal => exact q m a' w' (x.2 rfl) s
  | _ => exact ⟨E', H', x, s, q⟩
theorem CI_block {id : Nat} {c : Code} (h : WpCI P n w0 r c (blockQ id Q) E H) : WpCI P n w0 r (.block id c) Q E H := fun m a w ha hw => by
  refine wpIn_block (wpIn_mono (h m a w ha hw) ?_)
  rintro e a' w' ⟨E', H', x, s, q⟩
  cases e with
  | exit id' =>
    simp only [blockQ] at q
    simp only [Exit.inBlock]
    split
    · rename_i e; rw [if_pos e] at q; exact ⟨E', H', ⟨x.1, fun _ => x.2 rfl⟩, s, q⟩
    · rename_i e; rw [if_neg e] at q; exact ⟨E', H', ⟨x.1, fun _ => x.2 rfl⟩, s, q⟩
  | _ => exact ⟨E', H', x, s, q⟩
theorem CI_cond {c : Operand} {x y : Code} {b : Bool} (hc : ev E c = some (.bool b)) (ht : b = true → WpCI P n w0 r x Q E H) (hf : b = false → WpCI P n w0 r y Q E H) :
    WpCI P n w0 r (.cond c x y) Q E H := fun m a w ha hw => wpIn_cond_split (ha.eval hc) (fun h => ht h m a w ha hw) (fun h => hf h m a w ha hw)
theorem CI_skip (h : Q .normal E H) : WpCI P n w0 r .skip Q E H := fun m a w ha hw => wpIn_skip ⟨E, H, ⟨ha.defers, fun _ => ha⟩, hw, h⟩
theorem CI_ret (h : Q .ret E H) : WpCI P n w0 r .ret Q E H := fun m a w ha hw => wpIn_ret ⟨E, H, ⟨ha.defers, fun _ => ha⟩, hw, h⟩
theorem CI_exit {id : Nat} (h : Q (.exit id) E H) : WpCI P n w0 r (.exit id) Q E H := fun m a w ha hw => wpIn_exit ⟨E, H, ⟨ha.defers, fun _ => ha⟩, hw, h⟩
theorem CI_loop {ι : Type} {c : Code} (Ei : ι → Env) (Hi : ι → Hp) (G : ι → Prop) (μ : ι → Nat) (i0 : ι) (h0 : G i0) (hE : SubEnv (Ei i0) E) (hH : HSub (Hi i0) H)
    (round : ∀ i, G i → WpCI P n w0 r c (thenQ (fun E' H' => ∃ j, G j ∧ μ j < μ i ∧ SubEnv (Ei j) E' ∧ HSub (Hi j) H') Q) (Ei i) (Hi i)) :
    WpCI P n w0 r (.loop c) Q E H := by
  intro m a w ha hw b k cs hro hb hr
  have key : ∀ (x : Nat) (i : ι), G i → μ i = x → ∀ a w, FrOk n (Ei i) a → St w0 w (Hi i) →
      ∃ e a' w', lift n w0 Q e a' w' ∧ ArrivesIn (Machine.fenced P (Fr r)) P (lone (b.atR a (.code c :: .inLoop c :: k)) cs w) b k cs e a' w' := by
    intro x
    induction x using Nat.strongRecOn with
    | _ x ih =>
      intro i gi hm a w ha hw
      obtain ⟨e, a₁, w₁, hq, harr⟩ := round i gi m a w ha hw b (.inLoop c :: k) cs hro hb hr
      obtain ⟨E₁, H₁, f1, s1, q⟩ := hq
      cases e with
      | normal =>
        obtain ⟨j, gj, hlt, hE, hH⟩ := q
        obtain ⟨e₂, a₂, w₂, hq₂, harr₂⟩ := ih (μ j) (hm ▸ hlt) j gj rfl a₁ w₁ ((f1.2 rfl).weaken hE) (hH w0 w₁ s1)
        exact ⟨e₂, a₂, w₂, hq₂, .of_steps (StepsIn.trans harr (.one (fenced_calm hb hr rfl) stepR_inLoop)) harr₂⟩
      | exit id => exact ⟨_, a₁, w₁, ⟨E₁, H₁, f1, s1, q⟩, .pass (x := .inLoop c) rfl (fun _ _ => .inl (by simp)) harr⟩
      | goto l => exact ⟨_, a₁, w₁, ⟨E₁, H₁, f1, s1, q⟩, .pass (x := .inLoop c) rfl (fun _ _ => .inl (by simp)) harr⟩
      | ret => exact ⟨_, a₁, w₁, ⟨E₁, H₁, f1, s1, q⟩, .pass (x := .inLoop c) rfl (fun _ _ => .inl (by simp)) harr⟩
      | panic ch => exact ⟨_, a₁, w₁, ⟨E₁, H₁, f1, s1, q⟩, .pass (x := .inLoop c) rfl (fun _ _ => .inl (by simp)) harr⟩
      | outgrown => exact ⟨_, a₁, w₁, ⟨E₁, H₁, f1, s1, q⟩, .pass (x := .inLoop c) rfl (fun _ _ => .inl (by simp)) harr⟩
  obtain ⟨e, a', w', hq, harr⟩ := key (μ i0) i0 h0 rfl a w (ha.weaken hE) (hH w0 w hw)
  exact ⟨e, a', w', hq, .of_steps (.one (fenced_calm hb hr rfl) stepR_loop) harr⟩
theorem CI_region {id : Nat} {l : List Oper} (h : WpLI P n w0 r l Q l E H) : WpCI P n w0 r (.region id l.toArray false) Q E H := fun m a w ha hw => wpIn_region_lit (h m a w ha hw)
theorem LI_nil {ops : List Oper} (h : Q .normal E H) : WpLI P n w0 r ops Q [] E H := fun m a w ha hw => wpListIn_nil ⟨E, H, ⟨ha.defers, fun _ => ha⟩, hw, h⟩
/-- A contract within the fence. -/
theorem callsIn_fr {m : Nat} {f : FuncId} {args : Array Value} {w : World} {R : Ending → World → Prop} (h : Calls P f args w R) : CallsIn (Fr r) m P f args w R := by
  have h2 : CallsIn Fence.wide m P f args w R := callsIn_wide.2 h
  exact h2
def notDefer : Op → Bool
  | .defer _ => false
  | _ => true
theorem opIn {o : Oper} {a : Act} {w : World} {m : Nat} {next : Act → World → Prop} {Q : Exit → Act → World → Prop} (hd : notDefer o.op = true) (h : o.wp P a w next Q) : o.wpIn (Fr r) m P a w next Q := by
  refine ⟨fun _ _ => trivial, ?_⟩
  have hd' : ∀ c, o.op ≠ .defer c := fun c e => by rw [e] at hd; cases hd
  rw [Oper.semAt_eq _ _ _ hd']
  unfold Oper.wp at h
  generalize (execOp a.eval o).run P w = res at h ⊢
  match res, h with
  | .ok (.value v) w', h => exact h
  | .ok .skip w', h => exact h
  | .ok (.defer d) w', h => exact h
  | .ok (.enter f args) w', h =>
    refine ⟨fun h => Bool.noConfusion (show false = true from h), callsIn_fr (Calls.mono h ?_)⟩
    intro e w'' q
    cases e <;> exact q
  | .ok (.row row args) w', h =>
    refine ⟨fun h => Bool.noConfusion (show false = true from h), fun c cs _ => ?_⟩
    obtain ⟨v, w'', q, s⟩ := h c cs
    refine ⟨v, w'', q, ?_⟩
    cases r with
    | none => exact stepsIn_wide.2 s
    | some l => exact stepsIn_wide.2 s
  | .halt (.panic v) w', h => exact h
theorem LI_op {ops l : List Oper} {o : Oper} (hg : o.guard = none) (hd : notDefer o.op = true) (h : OpW P n w0 Q o E H (fun E' H' => WpLI P n w0 r ops Q l E' H')) : WpLI P n w0 r ops Q (o :: l) E H := fun m a w ha hw =>
  wpListIn_plain hg fun K hK => opIn hd (h a w ha hw K fun E' H' a' w' ha' hw' k => hK a' w' (k m a' w' ha' hw'))
theorem LI_y {ops l : List Oper} {d : Option Nat} {op : Op} {ty : Nat} {ps : String} {af : Array Edge} {v : Value} (hd : notDefer op = true) (hy : YV P n E (fun w => St w0 w H) op ty v) (hk : dok d n = true)
    (k : WpLI P n w0 r ops Q l (put E d v) H) : WpLI P n w0 r ops Q (⟨d, op, ty, ps, af, none⟩ :: l) E H := LI_op rfl hd (op_y hy hk k)
/-- What a call of yield does. -/
def YS (P : Program) (w0 : World) (l : Nat) (args : Array Value) (H : Hp) (R : Ending → Hp → Prop) : Prop :=
  ∀ m w, St w0 w H → YieldAt (Fr none) m P l args w fun e w' => ∃ H', St w0 w' H' ∧ R e H'
theorem LI_yield {ops l : List Oper} {d : Option Nat} {ce : Operand} {args : List Operand} {tys : Array TypeId} {ty : Nat} {ps : String} {af : Array Edge} {y : Nat} {vs : List Value} (hce : ev E ce = some (.func (.yield y) #[] #[])) (hargs : args.mapM (ev E) = some vs) (hk : dok d n = true)
    (h : YS P w0 y vs.toArray H fun e H' => ∃ v, e = .returned v ∧ WpLI P n w0 none ops Q l (put E d v) H') :
    WpLI P n w0 none ops Q (⟨d, .call { callee := .value ce, args := args.toArray, argTypes := tys }, ty, ps, af, none⟩ :: l) E H := fun m a w ha hw => by
  refine wpListIn_plain rfl fun K hK => ⟨fun _ _ => trivial, ?_⟩
  have e1 := evals ha hargs
  have e2 := ha.eval hce
  obtain ⟨fn, tmps, assign, body, hr, hround⟩ := h (m - 1) w hw
  have hrun : (Oper.semAt (Fr none).round a.eval (⟨d, .call { callee := .value ce, args := args.toArray, argTypes := tys }, ty, ps, af, none⟩ : Oper)).run P w = .ok (.round y fn tmps assign body) w := by
    rw [show (Fr none).round = none from rfl, Oper.semAt_none]
    simp only [execOp, resolve, Sem.run_bind, e2, Deferred.ofValue, Sem.run_pure, Result.andThen_ok, invoke, List.map_toArray, e1]
    simpa using hr
  rw [hrun]
  refine ⟨fun h => Bool.noConfusion (show false = true from h), hround.mono ?_⟩
  rintro e w' ⟨H', s, v, rfl, k⟩
  exact hK _ _ (k m _ _ (ha.put hk v) s)
theorem FnSI_intro {k f : Nat} {fn : Func} {c : Code} {vs : List Value} {rs : List ResultVar} {R : Ending → Hp → Prop} (hf : P.funcs[f]? = some fn) (hb : fn.body = some c) (hn : fn.ntmps = k) (hr : fn.results.toList = rs)
    (hlen : Nat.ble vs.length k = true) (h : WpCI P ⟨k, []⟩ w0 none c (BodyQ P w0 rs R) (args0 vs 0) H) : FnS P w0 f vs.toArray H R := FnS_intro hf hb hn hr hlen (C_of h)
/-! ### One round -/
def roundQ (l : Nat) (rc : Loop) (RT : Bool → Hp → Prop) : Post := fun e E H => match e with
  | .normal => ∃ Hr, HSub ([(l, .loop { rc with state := .busy })] :: Hr) H ∧ RT true Hr
  | .ret => ∃ Hr, HSub ([(l, .loop { rc with state := .busy })] :: Hr) H ∧ RT false Hr
  | _ => False
def assignQ (P : Program) (n : FN) (w0 : World) (l : Nat) (rc : Loop) (RT : Bool → Hp → Prop) : Post := fun e E H => match e with
  | .normal => ∃ Hr, HSub ([(l, .loop rc)] :: Hr) H ∧ WpCI P n w0 (some l) rc.body (roundQ l rc RT) E ([(l, .loop { rc with state := .busy })] :: Hr)
  | _ => False
theorem round_s {l : Nat} {rc : Loop} {vs : List Value} {Hr : Hp} {RT : Bool → Hp → Prop} {k : Nat} (hst : rc.state = .ready) (hpe : rc.pending = none) (hlen : vs.length = rc.params.size)
    (hfr : FrOk ⟨k, []⟩ E' { tmps := (rc.params.zip vs.toArray).foldl (fun tmps (t, a) => tmps.setIfInBounds t a) rc.tmps, defers := [] })
    (h : WpCI P ⟨k, []⟩ w0 (some l) rc.assign (assignQ P ⟨k, []⟩ w0 l rc RT) E' ([(l, .loop rc)] :: Hr)) :
    YS P w0 l vs.toArray ([(l, .loop rc)] :: Hr) fun e H' =>
      (e = .returned (.bool true) ∧ ∃ Hx, H' = [(l, .loop rc)] :: Hx ∧ RT true Hx) ∨ (e = .returned (.bool false) ∧ ∃ Hx, H' = [(l, .loop { rc with state := .done, pending := some .ret })] :: Hx ∧ RT false Hx) := by
  intro m w hw
  have hl : w.heap[l]? = some (.loop rc) := hw.has (l, .loop rc) (by simp)
  refine ⟨_, _, _, _, run_yield hl (by simpa using hlen), roundIn_of_wpIn trivial ?_⟩
  refine wpIn_mono (h m _ w hfr hw) ?_
  rintro e a1 w1 ⟨E1, H1, x, s, q⟩
  cases e with
  | normal =>
    obtain ⟨Hx, hs, hbody⟩ := q
    have s1 := hs w0 w1 s
    have hl1 : w1.heap[l]? = some (.loop rc) := s1.has (l, .loop rc) (by simp)
    refine ⟨_, run_beginRound hl1 hst, ?_⟩
    have s2 : St w0 (w1.putObj l (.loop { rc with state := .busy })) ([(l, .loop { rc with state := .busy })] :: Hx) := s1.putB (s := 0) (k := 0) rfl _
    refine wpIn_mono (hbody m a1 _ (x.2 rfl) s2) ?_
    rintro e a2 w2 ⟨E2, H2, x2, s3, q2⟩
    cases e with
    | normal =>
      obtain ⟨Hy, hs2, rt⟩ := q2
      have s4 := hs2 w0 w2 s3
      have hl2 : w2.heap[l]? = some (.loop { rc with state := .busy }) := s4.has (l, .loop { rc with state := .busy }) (by simp)
      refine ⟨_, _, run_endRound none hl2, ?_⟩
      have s5 := s4.putB (s := 0) (k := 0) rfl (.loop rc)
      refine ⟨_, ?_, .inl ⟨rfl, Hy, rfl, rt⟩⟩
      have e : ({ { rc with state := .busy } with state := if (none : Option Code).isNone then .ready else .done, pending := none } : Loop) = rc := by
        cases rc; simp only at hst hpe; subst hst; subst hpe; rfl
      rw [e]; exact s5
    | ret =>
      obtain ⟨Hy, hs2, rt⟩ := q2
      have s4 := hs2 w0 w2 s3
      have hl2 : w2.heap[l]? = some (.loop { rc with state := .busy }) := s4.has (l, .loop { rc with state := .busy }) (by simp)
      refine ⟨_, _, run_endRound (some .ret) hl2, ?_⟩
      have s5 := s4.putB (s := 0) (k := 0) rfl (.loop { rc with state := .done, pending := some .ret })
      exact ⟨_, s5, .inr ⟨rfl, Hy, rfl, rt⟩⟩
    | _ => exact q2.elim
  | _ => exact q.elim
/-! ### The statement, and the function that holds it -/
def WpT (P : Program) (n : FN) (w0 : World) (c : Code) (Q0 : Exit → Act → World → Prop) (E : Env) (H : Hp) : Prop := ∀ a w, FrOk n E a → St w0 w H → c.wp P Q0 a w
@[reducible] def thruQ (n : FN) (w0 : World) (K : Env → Hp → Prop) (Q0 : Exit → Act → World → Prop) : Post := fun e E H => match e with
  | .normal => K E H
  | .panic _ => False
  | .outgrown => False
  | e => ∀ a w, FrOk n E a → St w0 w H → Q0 e a w
variable {Q0 : Exit → Act → World → Prop}
theorem T_seq {x y : Code} (h : WpC P n w0 x (thruQ n w0 (WpT P n w0 y Q0) Q0) E H) : WpT P n w0 (.seq x y) Q0 E H := fun a w ha hw => by
  refine wp_seq (wp_mono (h a w ha hw) ?_)
  rintro e a' w' ⟨E', H', x, s, q⟩
  cases e with
  | normal => exact q a' w' (x.2 rfl) s
  | panic _ => exact q.elim
  | outgrown => exact q.elim
  | exit id => exact q a' w' (x.2 rfl) s
  | goto id => exact q a' w' (x.2 rfl) s
  | ret => exact q a' w' (x.2 rfl) s
theorem T_seqT {x y : Code} (h : WpT P n w0 x (Exit.then (fun a w => y.wp P Q0 a w) Q0) E H) : WpT P n w0 (.seq x y) Q0 E H := fun a w ha hw => wp_seq (h a w ha hw)
theorem T_of {c : Code} (h : WpC P n w0 c (thruQ n w0 (fun E H => ∀ a w, FrOk n E a → St w0 w H → Q0 .normal a w) Q0) E H) : WpT P n w0 c Q0 E H := fun a w ha hw => by
  refine wp_mono (h a w ha hw) ?_
  rintro e a' w' ⟨E', H', x, s, q⟩
  cases e with
  | normal => exact q a' w' (x.2 rfl) s
  | panic _ => exact q.elim
  | outgrown => exact q.elim
  | exit id => exact q a' w' (x.2 rfl) s
  | goto id => exact q a' w' (x.2 rfl) s
  | ret => exact q a' w' (x.2 rfl) s
def mark (db : Nat) : List Deferred := [{ target := .collected db, args := #[] }]
def RR (w0 : World) (R : Ending → Hp → Prop) : Ending → World → Prop := fun e w' => ∃ H', St w0 w' H' ∧ R e H'
theorem T_range {k b0 f : Nat} {g : Operand} {ps : Array Tmp} {assign body : Code} {cap : List Value} {KN KX : Hp → Prop} (hg : ev E g = some (.func (.func f) #[] cap.toArray)) (hc : ∀ args w, (callFunc f args).run P w = .ok (.enter f args) w)
    (call : ∀ l db fn tmps (rc : Loop), rc = { state := .ready, pending := none, fn, tmps, params := ps, assign, body, defers := db } → FrOk ⟨k, []⟩ E { tmps := tmps, defers := [] } → FnS P w0 f (#[.func (.yield l) #[] #[]] ++ cap.toArray)
      ([(l, .loop rc)] :: [(db, .deferred (some []))] :: H)
      fun e H' => (∃ v, e = .returned v) ∧ ((∃ Hr, H' = [(l, .loop rc)] :: [(db, .deferred (some []))] :: Hr ∧ KN Hr) ∨
        (∃ Hr, H' = [(l, .loop { rc with state := .done, pending := some .ret })] :: [(db, .deferred (some []))] :: Hr ∧ KX Hr)))
    (normal : ∀ db Hr a w, KN Hr → FrOk ⟨k, mark db⟩ E a → St w0 w ([(db, .deferred (some []))] :: Hr) → Q0 .normal a w)
    (ret : ∀ db Hr a w, KX Hr → FrOk ⟨k, mark db⟩ E a → St w0 w ([(db, .deferred (some []))] :: Hr) → Q0 .ret a w) :
    WpT P ⟨k, []⟩ w0 (.block b0 (.rangeFunc g ps assign body)) Q0 E H := fun a w ha hw => by
  refine wp_block ((wpIn_wide (n := 0)).1 (wpIn_rangeFunc fun fn _ => ?_))
  have hd : a.defers = [] := ha.defers
  have hinv : ∀ y w1, (invoke (.fn (.func f) cap.toArray) #[y]).run P w1 = .ok (.enter f (#[y] ++ cap.toArray)) w1 := fun y w1 => by
    simp only [invoke]; exact hc _ _
  have hfr : FrOk ⟨k, []⟩ E { tmps := a.tmps, defers := [] } := ⟨rfl, ha.size, ha.known⟩
  refine ⟨w.heap.size + 1, mark w.heap.size, ((w.alloc (.deferred (some []))).alloc (.loop { state := .ready, pending := none, fn, tmps := a.tmps, params := ps, assign, body, defers := w.heap.size })), ⟨.fn (.func f) cap.toArray, #[.func (.yield (w.heap.size + 1)) #[] #[]]⟩, ((w.alloc (.deferred (some []))).alloc (.loop { state := .ready, pending := none, fn, tmps := a.tmps, params := ps, assign, body, defers := w.heap.size })), f, #[.func (.yield (w.heap.size + 1)) #[] #[]] ++ cap.toArray, ((w.alloc (.deferred (some []))).alloc (.loop { state := .ready, pending := none, fn, tmps := a.tmps, params := ps, assign, body, defers := w.heap.size })), run_enterLoop_outer fn a.tmps ps assign body, ?_, fun _ _ => trivial, hinv _ _, fun h => Bool.noConfusion (show false = true from h), ?_⟩
  · have e2 := ha.eval hg
    simp only [resolve, rangeCall, e2, Deferred.ofValue]
    simp [Act.eval]
  · refine callsIn_wide.2 ((call (w.heap.size + 1) w.heap.size fn a.tmps _ rfl hfr _ ?_).mono ?_)
    · have s1 := hw.alloc (.deferred (some []))
      have s2 := s1.alloc (.loop { state := .ready, pending := none, fn, tmps := a.tmps, params := ps, assign, body, defers := w.heap.size })
      rw [World.size_alloc] at s2
      exact s2
    · rintro e w' ⟨H', s, ⟨v, rfl⟩, hor⟩
      rcases hor with ⟨Hr, rfl, kn⟩ | ⟨Hr, rfl, kx⟩
      · have hl := s.has (w.heap.size + 1, _) (by simp; exact .inl rfl)
        refine ⟨_, _, run_endLoop hl (by simp), ?_⟩
        have s2 := s.putB (s := 0) (k := 0) rfl (.loop { state := .exhausted, pending := none, fn, tmps := a.tmps, params := ps, assign, body, defers := w.heap.size })
        exact normal _ Hr _ _ kn ⟨by simp [hd], ha.size, ha.known⟩ ((HSub.drop _ _) w0 _ s2)
      · have hl := s.has (w.heap.size + 1, _) (by simp; exact .inl rfl)
        refine ⟨_, _, run_endLoop hl (by simp), ?_⟩
        have s2 := s.putB (s := 0) (k := 0) rfl (.loop { state := .exhausted, pending := some .ret, fn, tmps := a.tmps, params := ps, assign, body, defers := w.heap.size })
        exact (wpIn_wide (n := 0)).2 (wp_ret (ret _ Hr _ _ kx ⟨by simp [hd], ha.size, ha.known⟩ ((HSub.drop _ _) w0 _ s2)))
/-- The way out, nothing deferred. -/
theorem M_out {k : Nat} {fn : Func} {rs : List ResultVar} {vs : List Value} {R : Ending → Hp → Prop} {m : Nat} {a : Act} {w : World} (hr : fn.results.toList = rs) (ha : FrOk ⟨k, []⟩ E a) (hw : St w0 w H) (hrv : RV P w0 E H rs vs) (hs : HSub H' H) (hR : R (.returned (pack vs)) H') :
    LeavesInM Fence.wide m P fn a.tmps (RR w0 R) a.defers .returning w := by
  rw [ha.defers]
  exact ⟨_, run_results ha hw (hr ▸ hrv), H', hs w0 w hw, hR⟩
/-- The way out, behind such a loop. -/
theorem M_mark {k db : Nat} {fn : Func} {rs : List ResultVar} {vs : List Value} {R : Ending → Hp → Prop} {m : Nat} {a : Act} {w : World} (hr : fn.results.toList = rs) (ha : FrOk ⟨k, mark db⟩ E a) (hw : St w0 w ([(db, .deferred (some []))] :: H)) (hrv : RV P w0 E H rs vs) (hs : HSub H' H) (hR : R (.returned (pack vs)) H') :
    LeavesInM Fence.wide m P fn a.tmps (RR w0 R) a.defers .returning w := by
  rw [ha.defers]
  have hl : w.heap[db]? = some (.deferred (some [])) := hw.has (db, .deferred (some [])) (by simp)
  have s2 := (HSub.drop _ _) w0 _ (hw.putB (s := 0) (k := 0) rfl (.deferred none))
  have ha' : FrOk ⟨k, []⟩ E { tmps := a.tmps, defers := [] } := ⟨rfl, ha.size, ha.known⟩
  exact ⟨by simp, .inl ⟨db, _, rfl, run_takeDeferred hl, _, run_results (a := { tmps := a.tmps, defers := [] }) ha' s2 (hr ▸ hrv), H', hs w0 _ s2, hR⟩⟩
theorem FnSM_intro {k f : Nat} {fn : Func} {c : Code} {vs : List Value} {R : Ending → Hp → Prop} (hf : P.funcs[f]? = some fn) (hb : fn.body = some c) (hn : fn.ntmps = k)
    (hlen : Nat.ble vs.length k = true) (h : WpT P ⟨k, []⟩ w0 c (bodyPostM Fence.wide 0 P fn (RR w0 R)) (args0 vs 0) H) : FnS P w0 f vs.toArray H R := fun w hw => by
  refine callsIn_wide.1 (callsIn_of_wp_marks (n := 0) hf hb trivial ((wpIn_wide).2 (h _ w (args_ok hn (Nat.le_of_ble_eq_true hlen)) hw)))
theorem YS.mono {l : Nat} {args : Array Value} {R R' : Ending → Hp → Prop} (h : YS P w0 l args H R) (hr : ∀ e H', R e H' → R' e H') : YS P w0 l args H R' := fun m w hw => by
  obtain ⟨fn, tmps, assign, body, h1, h2⟩ := h m w hw
  exact ⟨fn, tmps, assign, body, h1, h2.mono fun e w' ⟨H', s, r⟩ => ⟨H', s, hr e H' r⟩⟩
theorem YS.sub {l : Nat} {args : Array Value} {R : Ending → Hp → Prop} (hs : HSub H' H) (h : YS P w0 l args H' R) : YS P w0 l args H R := fun m w hw => h m w (hs w0 w hw)
theorem frOk_two {k p q : Nat} {u v : Value} {tmps : Array Value} (h : FrOk ⟨k, []⟩ E { tmps := tmps, defers := [] }) (hp : p < k) (hq : q < k) :
    FrOk ⟨k, []⟩ ((q, u) :: (p, v) :: E) { tmps := ((#[p, q] : Array Nat).zip [v, u].toArray).foldl (fun tmps (t, a) => tmps.setIfInBounds t a) tmps, defers := [] } := by
  have h1 := h.put (d := some p) (by simp [dok, Nat.blt]; exact hp) v
  have h2 := h1.put (d := some q) (by simp [dok, Nat.blt]; exact hq) u
  have e : ((#[p, q] : Array Nat).zip [v, u].toArray).foldl (fun tmps (t, a) => tmps.setIfInBounds t a) tmps = (tmps.setIfInBounds p v).setIfInBounds q u := by simp
  rw [e]
  exact h2
end Go.Sl

/- walks (own work; the walks' lines by a program of this repo). -/
set_option linter.unusedVariables false
set_option linter.unusedSimpArgs false
set_option maxRecDepth 20000
namespace Go.Proofs.Ytjjiclgbdenkkaa
open Go.Sl
attribute [local irreducible] BodyQ WpC WpL WpS WpH OpW FnS


theorem read_nil {w0 : World} {H : Hp} (n : Int) : FnS Try.prog w0 60 #[.pointer none, .int .i64 n] H (fun e H' => e = .returned (.tuple #[.agg (bs (secOf 0)).toArray, .int .i64 1]) ∧ H' = H) := by
  refine FnS_intro (n := 42) (rs := [.cell 4 32, .cell 5 29]) (vs := [.pointer none, .int .i64 n]) Try.func60 rfl Try.ntmps60 rfl rfl ?_
  refine C_seq ?_
  refine C_region ?_
  refine L_op rfl (op_box rfl rfl rfl (fun B1 => ?_))
  refine L_op rfl (op_alloc zl_32 rfl (fun B2 => ?_))
  refine L_op rfl (op_alloc zl_29 rfl (fun B3 => ?_))
  refine L_nil ?_
  refine C_seq ?_
  refine C_block ?_
  refine C_seq ?_
  refine C_region ?_
  refine L_y rfl (y_move rfl) rfl ?_
  refine L_y rfl (y_eqp rfl rfl Try.underlying24) rfl ?_
  refine L_y rfl (y_assign rfl) rfl ?_
  refine L_nil ?_
  refine C_cond_t rfl ?_
  refine C_seq ?_
  refine C_region ?_
  refine L_y rfl (y_buildA0 Try.underlying32 sz_5 zl_32) rfl ?_
  refine L_op rfl (op_storeA 1 0 rfl rfl rfl sz_32 (by simp) rfl (by rw [zsec]; exact bs_one _) (by simp) ?_)
  rw [zsec]
  refine L_op rfl (op_store1 0 0 rfl rfl rfl sz_29 rfl (Nat.le_of_ble_eq_true rfl) ?_)
  refine L_nil ?_
  refine C_ret ?_
  refine B_ret (rv_cellA rfl ag_32 sz_32 (sees 1 0 rfl) (by rw [bs_length, secOf_len]; decide) (bs_whole0 _ (secOf_len 0)) (rv_cell1 rfl ag_29 (sees 0 0 rfl) rfl rv_nil)) (hsub (.cons _ (.cons _ (.cons _ (.refl _))))) ?_
  exact ⟨rfl, rfl⟩

theorem read_down {w0 : World} {H : Hp} {d : Dv} {p : Pw} (hD : Sees (fun w => St w0 w H) d.b (.cells d.cells.toArray dt.dev)) (hP : Sees (fun w => St w0 w H) d.pw (.cells p.cells.toArray dt.pow)) (n : Int) (hdn : (d.a.out || p.a.off) = true) : FnS Try.prog w0 60 #[ptr d.b, .int .i64 n] H (fun e H' => e = .returned (.tuple #[.agg (bs (secOf 0)).toArray, .int .i64 13]) ∧ H' = H) := by
  refine FnS_intro (n := 42) (rs := [.cell 4 32, .cell 5 29]) (vs := [ptr d.b, .int .i64 n]) Try.func60 rfl Try.ntmps60 rfl rfl ?_
  refine C_seq ?_
  refine C_region ?_
  refine L_op rfl (op_box rfl rfl rfl (fun B1 => ?_))
  refine L_op rfl (op_alloc zl_32 rfl (fun B2 => ?_))
  refine L_op rfl (op_alloc zl_29 rfl (fun B3 => ?_))
  refine L_nil ?_
  refine C_seq ?_
  refine C_block ?_
  refine C_seq ?_
  refine C_region ?_
  refine L_y rfl (y_move rfl) rfl ?_
  refine L_y rfl (y_eqp rfl rfl Try.underlying24) rfl ?_
  refine L_y rfl (y_assign rfl) rfl ?_
  refine L_nil ?_
  refine C_cond_f rfl ?_
  refine C_seq ?_
  refine C_region ?_
  refine L_y rfl (y_move rfl) rfl ?_
  refine L_op rfl (op_call rfl rfl (fun a w => Try.call87 a w) rfl ?_)
  refine (down_s d p (hD.up.up.up) (hP.up.up.up)).mono ?_
  rintro _ _ ⟨rfl, rfl⟩
  rw [hdn]
  refine ⟨_, rfl, ?_⟩
  refine L_y rfl (y_assign rfl) rfl ?_
  refine L_nil ?_
  refine C_cond_t rfl ?_
  refine C_seq ?_
  refine C_region ?_
  refine L_y rfl (y_buildA0 Try.underlying32 sz_5 zl_32) rfl ?_
  refine L_op rfl (op_storeA 1 0 rfl rfl rfl sz_32 (by simp) rfl (by rw [zsec]; exact bs_one _) (by simp) ?_)
  rw [zsec]
  refine L_op rfl (op_store1 0 0 rfl rfl rfl sz_29 rfl (Nat.le_of_ble_eq_true rfl) ?_)
  refine L_nil ?_
  refine C_ret ?_
  refine B_ret (rv_cellA rfl ag_32 sz_32 (sees 1 0 rfl) (by rw [bs_length, secOf_len]; decide) (bs_whole0 _ (secOf_len 0)) (rv_cell1 rfl ag_29 (sees 0 0 rfl) rfl rv_nil)) (hsub (.cons _ (.cons _ (.cons _ (.refl _))))) ?_
  exact ⟨rfl, rfl⟩

theorem read_out {w0 : World} {H : Hp} {d : Dv} {p : Pw} (hD : Sees (fun w => St w0 w H) d.b (.cells d.cells.toArray dt.dev)) (hP : Sees (fun w => St w0 w H) d.pw (.cells p.cells.toArray dt.pow)) (n : Int) (hdn : (d.a.out || p.a.off) = false) (hth : (decide (0 ≤ n) && decide (n < d.a.S.length)) = false) : FnS Try.prog w0 60 #[ptr d.b, .int .i64 n] H (fun e H' => e = .returned (.tuple #[.agg (bs (secOf 0)).toArray, .int .i64 2]) ∧ H' = H) := by
  refine FnS_intro (n := 42) (rs := [.cell 4 32, .cell 5 29]) (vs := [ptr d.b, .int .i64 n]) Try.func60 rfl Try.ntmps60 rfl rfl ?_
  refine C_seq ?_
  refine C_region ?_
  refine L_op rfl (op_box rfl rfl rfl (fun B1 => ?_))
  refine L_op rfl (op_alloc zl_32 rfl (fun B2 => ?_))
  refine L_op rfl (op_alloc zl_29 rfl (fun B3 => ?_))
  refine L_nil ?_
  refine C_seq ?_
  refine C_block ?_
  refine C_seq ?_
  refine C_region ?_
  refine L_y rfl (y_move rfl) rfl ?_
  refine L_y rfl (y_eqp rfl rfl Try.underlying24) rfl ?_
  refine L_y rfl (y_assign rfl) rfl ?_
  refine L_nil ?_
  refine C_cond_f rfl ?_
  refine C_seq ?_
  refine C_region ?_
  refine L_y rfl (y_move rfl) rfl ?_
  refine L_op rfl (op_call rfl rfl (fun a w => Try.call87 a w) rfl ?_)
  refine (down_s d p (hD.up.up.up) (hP.up.up.up)).mono ?_
  rintro _ _ ⟨rfl, rfl⟩
  rw [hdn]
  refine ⟨_, rfl, ?_⟩
  refine L_y rfl (y_assign rfl) rfl ?_
  refine L_nil ?_
  refine C_cond_f rfl ?_
  refine C_seq ?_
  refine C_region ?_
  refine L_y rfl (y_move rfl) rfl ?_
  refine L_y rfl (y_load rfl ag_3 (sees 2 0 rfl) rfl) rfl ?_
  refine L_op rfl (op_call rfl rfl (fun a w => Try.call65 a w) rfl ?_)
  refine (there_s d _ (hD.up.up.up)).mono ?_
  rintro _ _ ⟨rfl, rfl⟩
  rw [hth]
  refine ⟨_, rfl, ?_⟩
  refine L_y rfl (y_not rfl) rfl ?_
  refine L_y rfl (y_assign rfl) rfl ?_
  refine L_nil ?_
  refine C_cond_t rfl ?_
  refine C_seq ?_
  refine C_region ?_
  refine L_y rfl (y_buildA0 Try.underlying32 sz_5 zl_32) rfl ?_
  refine L_op rfl (op_storeA 1 0 rfl rfl rfl sz_32 (by simp) rfl (by rw [zsec]; exact bs_one _) (by simp) ?_)
  rw [zsec]
  refine L_op rfl (op_store1 0 0 rfl rfl rfl sz_29 rfl (Nat.le_of_ble_eq_true rfl) ?_)
  refine L_nil ?_
  refine C_ret ?_
  refine B_ret (rv_cellA rfl ag_32 sz_32 (sees 1 0 rfl) (by rw [bs_length, secOf_len]; decide) (bs_whole0 _ (secOf_len 0)) (rv_cell1 rfl ag_29 (sees 0 0 rfl) rfl rv_nil)) (hsub (.cons _ (.cons _ (.cons _ (.refl _))))) ?_
  exact ⟨rfl, rfl⟩

theorem backward_s {w0 : World} {H : Hp} {g : Option SlG} {m : Nat} : FnS Try.prog w0 88 #[slV g m] H (fun e H' => ∃ B, e = .returned (.func (.func 95) #[] #[ptr B]) ∧ H' = [(B, .cells [slV g m].toArray 99)] :: H) := by
  refine FnS_intro (n := 4) (rs := [.tmp 2]) (vs := [slV g m]) Try.func88 rfl Try.ntmps88 rfl rfl ?_
  refine C_seq ?_
  refine C_region ?_
  refine L_op rfl (op_box (l := [slV g m]) rfl (by cases g <;> rfl) rfl (fun B1 => ?_))
  refine L_y rfl (y_assign rfl) rfl ?_
  refine L_nil ?_
  refine C_seq ?_
  refine C_region ?_
  refine L_y rfl (y_makeFunc rfl rfl) rfl ?_
  refine L_y rfl (y_assign rfl) rfl ?_
  refine L_nil ?_
  refine C_ret ?_
  refine B_ret (rv_tmp rfl rv_nil) (HSub.refl _) ?_
  exact ⟨B1, rfl, rfl⟩

theorem iter_s {w0 : World} {y B : Nat} {g : Option SlG} {Q : List (Nat × Sec)} (HR : Nat → Hp) (I : Nat → Prop) (X : Hp → Prop) (hq : slOk 129 g Q.length (wcs Q)) (hl : Q.length ≤ 100000) (hQ128 : ∀ x ∈ Q, x.2.length = 128) (hI : I Q.length) (hB : ∀ i, Sees (fun w => St w0 w (HR i)) B (.cells [slV g Q.length].toArray 99)) (hQ : ∀ gg i, g = some gg → Sees (fun w => St w0 w (HR i)) gg.b (.cells (wcs Q ++ gg.sp).toArray 150)) (hround : ∀ i x, Q[i]? = some x → I (i + 1) → YS Try.prog w0 y #[.int .i64 (i : Int), .agg (.int .i64 (x.1 : Int) :: bs x.2).toArray] (HR (i + 1)) (fun e H' => ∃ b, e = .returned (.bool b) ∧ (b = true → H' = HR i ∧ I i) ∧ (b = false → X H'))) : FnS Try.prog w0 95 #[.func (.yield y) #[] #[], ptr B] (HR Q.length) (fun e H' => e = .returned (.tuple #[]) ∧ ((H' = HR 0 ∧ I 0) ∨ X H')) := by
  refine FnSI_intro (k := 19) (rs := []) (vs := [.func (.yield y) #[] #[], ptr B]) Try.func95 rfl Try.ntmps95 rfl rfl ?_
  refine CI_seq ?_
  refine CI_region ?_
  refine LI_y rfl (y_load rfl ag_99 (hB _) rfl) rfl ?_
  refine LI_y rfl (y_lenV hq rfl rfl Try.underlying99) rfl ?_
  refine LI_y rfl (y_sub rfl rfl (wi64 (by omega) (by omega))) rfl ?_
  refine LI_y rfl (y_assign rfl) rfl ?_
  refine LI_nil ?_
  refine CI_block ?_
  refine CI_loop (ι := Nat) (fun i => [(0, .func (.yield y) #[] #[]), (1, ptr B), (3, .int .i64 ((i : Int) - 1))]) (fun i => HR i) (fun i => i ≤ Q.length ∧ I i) (fun i => i) Q.length ⟨Nat.le_refl _, hI⟩ ⟨rfl, rfl, rfl, trivial⟩ (HSub.refl _) (fun i hi => ?_)
  skip
  refine CI_seq ?_
  refine CI_seq ?_
  refine CI_region ?_
  refine LI_y rfl (y_move rfl) rfl ?_
  refine LI_y rfl (y_geq rfl rfl) rfl ?_
  refine LI_nil ?_
  refine CI_cond rfl (fun hc0 => ?_) (fun hc0 => ?_)
  · replace hc0 := of_decide_eq_true hc0
    refine CI_skip ?_
    refine CI_seq ?_
    refine CI_block ?_
    refine CI_seq ?_
    obtain ⟨j, rfl⟩ : ∃ j, i = j + 1 := ⟨i - 1, by omega⟩
    rw [show (((j + 1 : Nat) : Int) - 1) = (j : Int) from by omega]
    obtain ⟨x, hx⟩ : ∃ x, Q[j]? = some x := ⟨_, List.getElem?_eq_getElem (by omega)⟩
    have hwl := wcs_len hQ128
    cases g with
    | none => exact absurd hq.2 (by omega)
    | some g => ?_
    refine CI_region ?_
    refine LI_y rfl (y_move rfl) rfl ?_
    refine LI_y rfl (y_move rfl) rfl ?_
    refine LI_y rfl (y_load rfl ag_99 (hB _) rfl) rfl ?_
    refine LI_y rfl (y_move rfl) rfl ?_
    refine LI_y rfl (y_indexS rfl rfl Try.underlying99 sz_150 (by omega) (by omega) (show _ = j * 129 from by simp)) rfl ?_
    refine LI_y rfl (y_loadA rfl ag_150 sz_150 (hQ g _ rfl) (by rw [List.length_append, hwl]; omega) (wcs_get _ hQ128 hx)) rfl ?_
    refine LI_yield rfl rfl rfl ((hround j x hx hi.2).mono ?_)
    rintro e H2 ⟨b, rfl, hT, hX⟩
    refine ⟨_, rfl, ?_⟩
    refine LI_y rfl (y_not rfl) rfl ?_
    refine LI_nil ?_
    refine CI_cond rfl (fun hc1 => ?_) (fun hc1 => ?_)
    · have hb : b = false := by simpa using hc1
      refine CI_ret ?_
      refine B_ret rv_nil (HSub.refl _) ?_
      first
      | exact ⟨rfl, .inr (hX hb)⟩
      | (obtain rfl : i = 0 := by omega
         exact ⟨rfl, .inl ⟨rfl, hi.2⟩⟩)
    · have hb : b = true := by simpa using hc1
      refine CI_skip ?_
      refine CI_region ?_
      refine LI_y rfl (y_move rfl) rfl ?_
      refine LI_y rfl (y_sub rfl rfl (wi64 (by omega) (by omega))) rfl ?_
      refine LI_y rfl (y_assign rfl) rfl ?_
      refine LI_nil ?_
      exact ⟨j, ⟨by omega, (hT hb).2⟩, by omega, ⟨rfl, rfl, rfl, trivial⟩, by rw [(hT hb).1]; exact HSub.refl _⟩
  · replace hc0 := of_decide_eq_false hc0
    refine CI_exit ?_
    refine B_end rv_nil (HSub.refl _) ?_
    first
    | exact ⟨rfl, .inr (hX hb)⟩
    | (obtain rfl : i = 0 := by omega
       exact ⟨rfl, .inl ⟨rfl, hi.2⟩⟩)

theorem read_go {w0 : World} {H : Hp} {d : Dv} {p : Pw} (hd : d.ok) (hD : Sees (fun w => St w0 w H) d.b (.cells d.cells.toArray dt.dev)) (hP : Sees (fun w => St w0 w H) d.pw (.cells p.cells.toArray dt.pow)) (hT : Sees (fun w => St w0 w H) d.st (.cells (bs d.a.S.flatten).toArray dt.sec)) (hQs : ∀ gg, d.g = some gg → Sees (fun w => St w0 w H) gg.b (.cells (wcs d.a.Q ++ gg.sp).toArray dt.wr)) (n : Nat) (hn : n < d.a.S.length) (hdn : (d.a.out || p.a.off) = false) :
    FnS Try.prog w0 60 #[ptr d.b, .int .i64 (n : Int)] H (fun e H' => e = .returned (.tuple #[.agg (bs (d.a.read n)).toArray, .int .i64 0]) ∧ H' = H) := by
  have hth : (decide ((0 : Int) ≤ (n : Int)) && decide ((n : Int) < d.a.S.length)) = true := by simp; omega
  obtain ⟨s, hs⟩ : ∃ s, d.a.S[n]? = some s := ⟨_, List.getElem?_eq_getElem hn⟩
  have hs1 := hd.1.1 s (List.mem_of_getElem? hs)
  have hfl := flat_len hd.1.1
  have hQ128 : ∀ x ∈ d.a.Q, x.2.length = 128 := fun x hx => (hd.1.2.2.1 x hx).2
  refine FnSM_intro (k := 42) (vs := [ptr d.b, .int .i64 (n : Int)]) Try.func60 rfl Try.ntmps60 rfl ?_
  refine T_seq ?_
  refine C_region ?_
  refine L_op rfl (op_box rfl rfl rfl (fun B1 => ?_))
  refine L_op rfl (op_alloc zl_32 rfl (fun B2 => ?_))
  refine L_op rfl (op_alloc zl_29 rfl (fun B3 => ?_))
  refine L_nil ?_
  refine T_seq ?_
  refine C_block ?_
  refine C_seq ?_
  refine C_region ?_
  refine L_y rfl (y_move rfl) rfl ?_
  refine L_y rfl (y_eqp rfl rfl Try.underlying24) rfl ?_
  refine L_y rfl (y_assign rfl) rfl ?_
  refine L_nil ?_
  refine C_cond_f rfl ?_
  refine C_seq ?_
  refine C_region ?_
  refine L_y rfl (y_move rfl) rfl ?_
  refine L_op rfl (op_call rfl rfl (fun a w => Try.call87 a w) rfl ?_)
  refine (down_s d p (hD.up.up.up) (hP.up.up.up)).mono ?_
  rintro _ _ ⟨rfl, rfl⟩
  rw [hdn]
  refine ⟨_, rfl, ?_⟩
  refine L_y rfl (y_assign rfl) rfl ?_
  refine L_nil ?_
  refine C_cond_f rfl ?_
  refine C_seq ?_
  refine C_region ?_
  refine L_y rfl (y_move rfl) rfl ?_
  refine L_y rfl (y_load rfl ag_3 (sees 2 0 rfl) rfl) rfl ?_
  refine L_op rfl (op_call rfl rfl (fun a w => Try.call65 a w) rfl ?_)
  refine (there_s d _ (hD.up.up.up)).mono ?_
  rintro _ _ ⟨rfl, rfl⟩
  rw [hth]
  refine ⟨_, rfl, ?_⟩
  refine L_y rfl (y_not rfl) rfl ?_
  refine L_y rfl (y_assign rfl) rfl ?_
  refine L_nil ?_
  refine C_cond_f rfl ?_
  refine C_skip ?_
  refine T_seqT ?_
  refine T_seq ?_
  refine C_region ?_
  refine L_y rfl (y_move rfl) rfl ?_
  refine L_y rfl (y_nilCheck rfl) rfl ?_
  refine L_y rfl (y_fieldAddr rfl fl_101_2) rfl ?_
  refine L_y rfl (y_load rfl ag_99 (hD.up.up.up) rfl) rfl ?_
  refine L_op rfl (op_call rfl rfl (fun a w => Try.call88 a w) rfl ?_)
  refine backward_s.mono ?_
  rintro _ _ ⟨B4, rfl, rfl⟩
  refine ⟨_, rfl, ?_⟩
  refine L_nil ?_
  refine T_range (f := 95) (cap := [ptr B4]) (KN := fun Hr => Hr = ([(B4, .cells [slV d.g d.a.Q.length].toArray 99)] :: [(B3, .cells [Value.int .i64 0].toArray 29)] :: [(B2, .cells (List.replicate 128 (Value.int .u8 0)).toArray 32)] :: [(B1, .cells [Value.int .i64 (n : Int)].toArray 3)] :: H) ∧ noneFrom d.a.Q n 0) (KX := fun Hr => ∃ (i : Nat) (x : Nat × Sec), d.a.Q[i]? = some x ∧ x.1 = n ∧ noneFrom d.a.Q n (i + 1) ∧ Hr = ([(B4, .cells [slV d.g d.a.Q.length].toArray 99)] :: [(B3, .cells [Value.int .i64 0].toArray 29)] :: [(B2, .cells (bs x.2).toArray 32)] :: [(B1, .cells [Value.int .i64 (n : Int)].toArray 3)] :: H)) rfl (fun a w => Try.call95 a w) (fun l db fn tmps rc hrc hfr => ?_) (fun db Hr a w hk ha hw => ?_) (fun db Hr a w hk ha hw => ?_)
  · refine (iter_s (g := d.g) (Q := d.a.Q) (fun _ => [(l, .loop rc)] :: [(db, .deferred (some []))] :: ([(B4, .cells [slV d.g d.a.Q.length].toArray 99)] :: [(B3, .cells [Value.int .i64 0].toArray 29)] :: [(B2, .cells (List.replicate 128 (Value.int .u8 0)).toArray 32)] :: [(B1, .cells [Value.int .i64 (n : Int)].toArray 3)] :: H)) (noneFrom d.a.Q n) (fun H' => ∃ (i : Nat) (x : Nat × Sec), d.a.Q[i]? = some x ∧ x.1 = n ∧ noneFrom d.a.Q n (i + 1) ∧ H' = [(l, .loop { rc with state := .done, pending := some .ret })] :: [(db, .deferred (some []))] :: ([(B4, .cells [slV d.g d.a.Q.length].toArray 99)] :: [(B3, .cells [Value.int .i64 0].toArray 29)] :: [(B2, .cells (bs x.2).toArray 32)] :: [(B1, .cells [Value.int .i64 (n : Int)].toArray 3)] :: H)) hd.2.1 hd.2.2 hQ128 (noneFrom_len _ _) (fun i => sees 2 0 rfl) (fun gg i hg => (hQs gg hg).up.up.up.up.up.up) (fun i x hx hI => ?_)).mono ?_
    · subst hrc
      have hx128 := hQ128 x (List.mem_of_getElem? hx)
      refine (round_s (k := 42) (RT := fun b Hx => if b then Hx = [(db, .deferred (some []))] :: ([(B4, .cells [slV d.g d.a.Q.length].toArray 99)] :: [(B3, .cells [Value.int .i64 0].toArray 29)] :: [(B2, .cells (List.replicate 128 (Value.int .u8 0)).toArray 32)] :: [(B1, .cells [Value.int .i64 (n : Int)].toArray 3)] :: H) ∧ x.1 ≠ n else Hx = [(db, .deferred (some []))] :: ([(B4, .cells [slV d.g d.a.Q.length].toArray 99)] :: [(B3, .cells [Value.int .i64 0].toArray 29)] :: [(B2, .cells (bs x.2).toArray 32)] :: [(B1, .cells [Value.int .i64 (n : Int)].toArray 3)] :: H) ∧ x.1 = n) rfl rfl rfl (frOk_two hfr (by decide) (by decide)) ?_).mono ?_
      · refine CI_region ?_
        refine LI_op rfl rfl (op_alloc zl_150 rfl (fun B5 => ?_))
        refine LI_op rfl rfl (op_storeA 0 0 rfl rfl rfl sz_150 (by simp [bs_length, hx128]) rfl (one_wr _ _) rfl ?_)
        refine LI_nil ?_
        refine ⟨_, hsub_pick [1] rfl, ?_⟩
        refine CI_block ?_
        refine CI_seq ?_
        refine CI_region ?_
        refine LI_y rfl (y_fieldAddr rfl fl_150_0) rfl ?_
        refine LI_y rfl (y_load rfl ag_3 (sees 1 0 rfl) rfl) rfl ?_
        refine LI_y rfl (y_load rfl ag_3 (sees 6 0 rfl) rfl) rfl ?_
        refine LI_y rfl (y_eqi rfl rfl) rfl ?_
        refine LI_nil ?_
        refine CI_cond rfl (fun hc3 => ?_) (fun hc3 => ?_)
        · replace hc3 : x.1 = n := by have := of_decide_eq_true hc3; omega
          refine CI_seq ?_
          refine CI_region ?_
          refine LI_y rfl (y_fieldAddr rfl fl_150_1) rfl ?_
          refine LI_y rfl (y_loadA rfl ag_32 sz_32 (sees 1 0 rfl) (by simp [bs_length, hx128]) (bs_whole x.2 hx128)) rfl ?_
          refine LI_op rfl rfl (op_storeA 5 0 rfl rfl rfl sz_32 (by rw [bs_length, hx128]) rfl (bs_one _) (by simp) ?_)
          refine LI_op rfl rfl (op_store1 4 0 rfl rfl rfl sz_29 rfl (Nat.le_of_ble_eq_true rfl) ?_)
          refine LI_nil ?_
          refine CI_ret ?_
          exact ⟨[(db, .deferred (some []))] :: ([(B4, .cells [slV d.g d.a.Q.length].toArray 99)] :: [(B3, .cells [Value.int .i64 0].toArray 29)] :: [(B2, .cells (bs x.2).toArray 32)] :: [(B1, .cells [Value.int .i64 (n : Int)].toArray 3)] :: H), hsub (.cons_cons _ (.cons _ (.refl _))), rfl, hc3⟩
        · replace hc3 : x.1 ≠ n := by have := of_decide_eq_false hc3; omega
          refine CI_skip ?_
          exact ⟨[(db, .deferred (some []))] :: ([(B4, .cells [slV d.g d.a.Q.length].toArray 99)] :: [(B3, .cells [Value.int .i64 0].toArray 29)] :: [(B2, .cells (List.replicate 128 (Value.int .u8 0)).toArray 32)] :: [(B1, .cells [Value.int .i64 (n : Int)].toArray 3)] :: H), hsub (.cons_cons _ (.cons _ (.refl _))), rfl, hc3⟩
      · rintro e H' (⟨rfl, Hx, rfl, rt⟩ | ⟨rfl, Hx, rfl, rt⟩)
        · obtain ⟨rfl, hne⟩ := rt
          exact ⟨true, rfl, fun _ => ⟨rfl, noneFrom_step hI hx hne⟩, fun h => Bool.noConfusion h⟩
        · obtain ⟨rfl, he⟩ := rt
          exact ⟨false, rfl, fun h => Bool.noConfusion h, fun _ => ⟨i, x, hx, he, hI, rfl⟩⟩
    · rintro e H' ⟨rfl, (⟨rfl, hI⟩ | ⟨i, x, hx, he, hI, rfl⟩)⟩
      · exact ⟨⟨_, rfl⟩, .inl ⟨_, rfl, rfl, hI⟩⟩
      · exact ⟨⟨_, rfl⟩, .inr ⟨_, rfl, i, x, hx, he, hI, rfl⟩⟩
  · obtain ⟨rfl, hk⟩ := hk
    refine (?_ : WpT _ ⟨42, Go.Sl.mark db⟩ w0 _ _ _ _) a w ha hw
    clear ha hw
    refine T_seq ?_
    refine C_regionT 7 (by kernel_rfl) (by kernel_rfl) ?_
    refine S_y rfl (y_move rfl) rfl ?_
    refine S_y rfl (y_nilCheck rfl) rfl ?_
    refine S_y rfl (y_fieldAddr rfl fl_101_1) rfl ?_
    refine S_y rfl (y_load rfl ag_40 (hD.up.up.up.up.up) rfl) rfl ?_
    refine S_y rfl (y_load rfl ag_3 (sees 4 0 rfl) rfl) rfl ?_
    refine S_y rfl (y_indexS rfl rfl Try.underlying40 sz_32 (by omega) (by omega) (show _ = n * 128 from by simp)) rfl ?_
    refine S_y rfl (y_loadA rfl ag_32 sz_32 (hT.up.up.up.up.up) (by rw [bs_length, hfl]; omega) (show _ = bs s from by rw [bs_drop, bs_take, flat_sec hd.1.1 hs])) rfl ?_
    refine S_nil ?_
    refine L_op rfl (op_storeA 3 0 rfl rfl rfl sz_32 (by rw [bs_length, hs1]) rfl (bs_one _) (by simp) ?_)
    refine L_op rfl (op_store1 2 0 rfl rfl rfl sz_29 rfl (Nat.le_of_ble_eq_true rfl) ?_)
    refine L_nil ?_
    refine T_of ?_
    refine C_ret ?_
    intro a w ha hw
    exact M_mark rfl ha hw (rv_cellA rfl ag_32 sz_32 (sees 2 0 rfl) (by rw [bs_length, hs1]; decide) (bs_whole0 s hs1) (rv_cell1 rfl ag_29 (sees 1 0 rfl) rfl rv_nil)) (hsub (.cons _ (.cons _ (.cons _ (.cons _ (.refl _)))))) ⟨by rw [show d.a.read n = s from by simp [Ab.read, lastW_none hk, List.getD, hs]]; rfl, rfl⟩
  · obtain ⟨i, x, hx, he, hI, rfl⟩ := hk
    have hx128 := hQ128 x (List.mem_of_getElem? hx)
    exact M_mark rfl ha hw (rv_cellA rfl ag_32 sz_32 (sees 2 0 rfl) (by rw [bs_length, hx128]; decide) (bs_whole0 x.2 hx128) (rv_cell1 rfl ag_29 (sees 1 0 rfl) rfl rv_nil)) (hsub (.cons _ (.cons _ (.cons _ (.cons _ (.refl _)))))) ⟨by rw [show d.a.read n = x.2 from by simp [Ab.read, lastW_found hI hx he]]; rfl, rfl⟩

end Go.Proofs.Ytjjiclgbdenkkaa

/- walks (own work; the walks' lines by a program of this repo). -/
set_option linter.unusedVariables false
set_option linter.unusedSimpArgs false
set_option maxRecDepth 20000
namespace Go.Proofs.Ytjjiclgbdenkkaa
open Go.Sl
attribute [local irreducible] BodyQ WpC WpL WpS WpH OpW FnS


theorem write_l {w0 : World} {H : Hp} {L R : List Dv} {d : Dv} {p : Pw} {b : Nat} (hG : GOk dt p L d R) (hb : d.b = b) (n : Int) (s : Sec) (hs : s.length = 128) (hQ : d.a.Q.length < 100000) :
    FnS Try.prog w0 62 #[ptr b, .int .i64 n, .agg (bs s).toArray] (opn dt d p (L ++ R) H) (fun e H' => e = .returned (.int .i64 (writeE d.a p.a n)) ∧ ∃ d' p' L' R', GOk dt p' L' d' R' ∧ d'.b = b ∧ d'.a = writeA d.a p.a n s ∧ p'.b = p.b ∧ p'.a = writeP d.a p.a n ∧ Mv (wgo d.a p.a n) p.a L L' ∧ Mv (wgo d.a p.a n) p.a R R' ∧ H' = opn dt d' p' (L' ++ R') H) := by
  subst hb
  cases hdn : d.a.down p.a with
  | true =>
    refine (write_down (sees 0 0 rfl) (hG.hb ▸ sees 3 0 rfl) n s hdn).mono ?_
    rintro _ _ ⟨rfl, rfl⟩
    refine ⟨ret_int (by simp [writeE, hdn]), d, p, L, R, hG, rfl, by simp [writeA, wgo, hdn], rfl, by simp [writeP, wgo, hdn], ?_, ?_, rfl⟩ <;> simp [wgo, hdn, Mv.same]
  | false =>
    cases hth : d.a.has n with
    | false =>
      refine (write_out (sees 0 0 rfl) (hG.hb ▸ sees 3 0 rfl) n s hdn hth).mono ?_
      rintro _ _ ⟨rfl, rfl⟩
      refine ⟨ret_int (by simp [writeE, hdn, hth]), d, p, L, R, hG, rfl, by simp [writeA, wgo, hth], rfl, by simp [writeP, wgo, hth], ?_, ?_, rfl⟩ <;> simp [wgo, hth, Mv.same]
    | true =>
      have hn : 0 ≤ n ∧ n < d.a.S.length := by simpa [Ab.has] using hth
      obtain ⟨m, rfl⟩ : ∃ m : Nat, n = m := ⟨n.toNat, by omega⟩
      refine (write_go hG m s (by omega) hs hQ hdn).mono ?_
      rintro _ _ ⟨g', hok, rfl, rfl⟩
      have hw : wgo d.a p.a (m : Int) = true := by simp [wgo, hdn, hth]
      refine ⟨ret_int (by simp [writeE, hdn, hth]), _, _, _, _, (((hG.set rfl rfl hok : GOk dt p L (d.wr m s g') R).step p.a).stepp), (Dv.step_b _ _), ?_, rfl, ?_, ?_, ?_, ?_⟩
      · rw [Dv.step_a]; simp [writeA, hw, Dv.wr, Ab.push]
      · simp [writeP, hw, Pw.step]
      · rw [hw]; exact Mv.step _ _
      · rw [hw]; exact Mv.step _ _
      · rw [List.map_append]

theorem flush_l {w0 : World} {H : Hp} {L R : List Dv} {d : Dv} {p : Pw} {b : Nat} (hG : GOk dt p L d R) (hb : d.b = b) :
    FnS Try.prog w0 86 #[ptr b] (opn dt d p (L ++ R) H) (fun e H' => e = .returned (.int .i64 (flushE d.a p.a)) ∧ ∃ d' p' L' R', GOk dt p' L' d' R' ∧ d'.b = b ∧ d'.a = flushA d.a p.a ∧ p'.b = p.b ∧ p'.a = flushP d.a p.a ∧ Mv (!d.a.down p.a) p.a L L' ∧ Mv (!d.a.down p.a) p.a R R' ∧ H' = opn dt d' p' (L' ++ R') H) := by
  subst hb
  cases hdn : d.a.down p.a with
  | true =>
    refine (flush_down (sees 0 0 rfl) (hG.hb ▸ sees 3 0 rfl) hdn).mono ?_
    rintro _ _ ⟨rfl, rfl⟩
    exact ⟨ret_int (by simp [flushE, hdn]), d, p, L, R, hG, rfl, by simp [flushA, hdn], rfl, by simp [flushP, hdn], Mv.same _ _, Mv.same _ _, rfl⟩
  | false =>
    cases hfa : p.a.falls with
    | true =>
      refine (flush_falls hG hdn hfa).mono ?_
      rintro _ _ ⟨rfl, rfl⟩
      refine ⟨ret_int (by simp [flushE, hdn, hfa]), _, _, _, _, (hG.step p.a).stepp, (Dv.step_b _ _), ?_, rfl, ?_, Mv.step _ _, Mv.step _ _, by rw [List.map_append]⟩
      · rw [Dv.step_a]; simp [flushA, hdn, hfa, Ab.step]
      · simp [flushP, hdn, Pw.step]
    | false =>
      have hm0 : ∀ L : List Dv, Mv (!false) p.a L L := fun L => by
        have := Mv.step p.a L
        rwa [step_map0 hfa] at this
      cases hl : d.a.lies with
      | true =>
        refine (flush_lies hG hdn hfa hl).mono ?_
        rintro _ _ ⟨rfl, rfl⟩
        exact ⟨ret_int (by simp [flushE, hdn, hfa]), d, _, L, R, hG.stepp, rfl, by simp [flushA, hdn, hfa, Ab.flush, hl], rfl, by simp [flushP, hdn, Pw.step], hm0 _, hm0 _, rfl⟩
      | false =>
        refine (flush_go hG hdn hfa hl).mono ?_
        rintro _ _ ⟨rfl, rfl⟩
        exact ⟨ret_int (by simp [flushE, hdn, hfa]), d.fl, _, L, R, (hG.set rfl rfl (Dv.fl_ok hG.dok) : GOk dt p L d.fl R).stepp, rfl, by rw [Dv.fl_a hl]; simp [flushA, hdn, hfa], rfl, by simp [flushP, hdn, Pw.step], hm0 _, hm0 _, rfl⟩

theorem write_1 {w0 : World} {H : Hp} {d : Dv} {p : Pw} {b : Nat} (hG : GOk dt p [] d []) (hb : d.b = b) (n : Int) (s : Sec) (hs : s.length = 128) (hQ : d.a.Q.length < 100000) : FnS Try.prog w0 62 #[ptr b, .int .i64 n, .agg (bs s).toArray] (d.o dt :: d.t dt :: d.q dt :: p.o dt :: p.q dt :: H) (fun e H' => e = .returned (.int .i64 (writeE d.a p.a n)) ∧ ∃ d' p', GOk dt p' [] d' [] ∧ d'.b = b ∧ d'.a = writeA d.a p.a n s ∧ p'.b = p.b ∧ p'.a = writeP d.a p.a n ∧ H' = d'.o dt :: d'.t dt :: d'.q dt :: p'.o dt :: p'.q dt :: H) := by
  refine (write_l hG hb n s hs hQ).mono ?_
  rintro _ _ ⟨rfl, d', p', L', R', h1, h2, h3, h4, h5, h6, h7, rfl⟩
  obtain rfl := h6.nil
  obtain rfl := h7.nil
  exact ⟨rfl, d', p', h1, h2, h3, h4, h5, rfl⟩

theorem write_2a {w0 : World} {H : Hp} {d y : Dv} {p : Pw} {b : Nat} (hG : GOk dt p [] d [y]) (hb : d.b = b) (n : Int) (s : Sec) (hs : s.length = 128) (hQ : d.a.Q.length < 100000) : FnS Try.prog w0 62 #[ptr b, .int .i64 n, .agg (bs s).toArray] (d.o dt :: d.t dt :: d.q dt :: p.o dt :: p.q dt :: y.o dt :: y.t dt :: y.q dt :: H) (fun e H' => e = .returned (.int .i64 (writeE d.a p.a n)) ∧ ∃ d' p' y', GOk dt p' [] d' [y'] ∧ d'.b = b ∧ d'.a = writeA d.a p.a n s ∧ p'.b = p.b ∧ p'.a = writeP d.a p.a n ∧ y'.b = y.b ∧ y'.a = (if wgo d.a p.a n then y.a.step p.a else y.a) ∧ H' = d'.o dt :: d'.t dt :: d'.q dt :: p'.o dt :: p'.q dt :: y'.o dt :: y'.t dt :: y'.q dt :: H) := by
  refine (write_l hG hb n s hs hQ).mono ?_
  rintro _ _ ⟨rfl, d', p', L', R', h1, h2, h3, h4, h5, h6, h7, rfl⟩
  obtain rfl := h6.nil
  obtain ⟨y', rfl, g1, g2, g3⟩ := h7.one
  exact ⟨rfl, d', p', y', h1, h2, h3, h4, h5, g1, g3, rfl⟩

theorem write_2b {w0 : World} {H : Hp} {d y : Dv} {p : Pw} {b : Nat} (hG : GOk dt p [y] d []) (hb : d.b = b) (n : Int) (s : Sec) (hs : s.length = 128) (hQ : d.a.Q.length < 100000) : FnS Try.prog w0 62 #[ptr b, .int .i64 n, .agg (bs s).toArray] (d.o dt :: d.t dt :: d.q dt :: p.o dt :: p.q dt :: y.o dt :: y.t dt :: y.q dt :: H) (fun e H' => e = .returned (.int .i64 (writeE d.a p.a n)) ∧ ∃ d' p' y', GOk dt p' [y'] d' [] ∧ d'.b = b ∧ d'.a = writeA d.a p.a n s ∧ p'.b = p.b ∧ p'.a = writeP d.a p.a n ∧ y'.b = y.b ∧ y'.a = (if wgo d.a p.a n then y.a.step p.a else y.a) ∧ H' = d'.o dt :: d'.t dt :: d'.q dt :: p'.o dt :: p'.q dt :: y'.o dt :: y'.t dt :: y'.q dt :: H) := by
  refine (write_l hG hb n s hs hQ).mono ?_
  rintro _ _ ⟨rfl, d', p', L', R', h1, h2, h3, h4, h5, h6, h7, rfl⟩
  obtain rfl := h7.nil
  obtain ⟨y', rfl, g1, g2, g3⟩ := h6.one
  exact ⟨rfl, d', p', y', h1, h2, h3, h4, h5, g1, g3, rfl⟩

theorem flush_1 {w0 : World} {H : Hp} {d : Dv} {p : Pw} {b : Nat} (hG : GOk dt p [] d []) (hb : d.b = b) : FnS Try.prog w0 86 #[ptr b] (d.o dt :: d.t dt :: d.q dt :: p.o dt :: p.q dt :: H) (fun e H' => e = .returned (.int .i64 (flushE d.a p.a)) ∧ ∃ d' p', GOk dt p' [] d' [] ∧ d'.b = b ∧ d'.a = flushA d.a p.a ∧ p'.b = p.b ∧ p'.a = flushP d.a p.a ∧ H' = d'.o dt :: d'.t dt :: d'.q dt :: p'.o dt :: p'.q dt :: H) := by
  refine (flush_l hG hb ).mono ?_
  rintro _ _ ⟨rfl, d', p', L', R', h1, h2, h3, h4, h5, h6, h7, rfl⟩
  obtain rfl := h6.nil
  obtain rfl := h7.nil
  exact ⟨rfl, d', p', h1, h2, h3, h4, h5, rfl⟩

theorem flush_2a {w0 : World} {H : Hp} {d y : Dv} {p : Pw} {b : Nat} (hG : GOk dt p [] d [y]) (hb : d.b = b) : FnS Try.prog w0 86 #[ptr b] (d.o dt :: d.t dt :: d.q dt :: p.o dt :: p.q dt :: y.o dt :: y.t dt :: y.q dt :: H) (fun e H' => e = .returned (.int .i64 (flushE d.a p.a)) ∧ ∃ d' p' y', GOk dt p' [] d' [y'] ∧ d'.b = b ∧ d'.a = flushA d.a p.a ∧ p'.b = p.b ∧ p'.a = flushP d.a p.a ∧ y'.b = y.b ∧ y'.a = (if !d.a.down p.a then y.a.step p.a else y.a) ∧ H' = d'.o dt :: d'.t dt :: d'.q dt :: p'.o dt :: p'.q dt :: y'.o dt :: y'.t dt :: y'.q dt :: H) := by
  refine (flush_l hG hb ).mono ?_
  rintro _ _ ⟨rfl, d', p', L', R', h1, h2, h3, h4, h5, h6, h7, rfl⟩
  obtain rfl := h6.nil
  obtain ⟨y', rfl, g1, g2, g3⟩ := h7.one
  exact ⟨rfl, d', p', y', h1, h2, h3, h4, h5, g1, g3, rfl⟩

theorem flush_2b {w0 : World} {H : Hp} {d y : Dv} {p : Pw} {b : Nat} (hG : GOk dt p [y] d []) (hb : d.b = b) : FnS Try.prog w0 86 #[ptr b] (d.o dt :: d.t dt :: d.q dt :: p.o dt :: p.q dt :: y.o dt :: y.t dt :: y.q dt :: H) (fun e H' => e = .returned (.int .i64 (flushE d.a p.a)) ∧ ∃ d' p' y', GOk dt p' [y'] d' [] ∧ d'.b = b ∧ d'.a = flushA d.a p.a ∧ p'.b = p.b ∧ p'.a = flushP d.a p.a ∧ y'.b = y.b ∧ y'.a = (if !d.a.down p.a then y.a.step p.a else y.a) ∧ H' = d'.o dt :: d'.t dt :: d'.q dt :: p'.o dt :: p'.q dt :: y'.o dt :: y'.t dt :: y'.q dt :: H) := by
  refine (flush_l hG hb ).mono ?_
  rintro _ _ ⟨rfl, d', p', L', R', h1, h2, h3, h4, h5, h6, h7, rfl⟩
  obtain rfl := h7.nil
  obtain ⟨y', rfl, g1, g2, g3⟩ := h6.one
  exact ⟨rfl, d', p', y', h1, h2, h3, h4, h5, g1, g3, rfl⟩

theorem read_l {w0 : World} {H : Hp} {L R : List Dv} {d : Dv} {p : Pw} {b : Nat} (hG : GOk dt p L d R) (hb : d.b = b) (n : Int) : FnS Try.prog w0 60 #[ptr b, .int .i64 n] (opn dt d p (L ++ R) H) (fun e H' => e = .returned (.tuple #[.agg (bs (readS d.a p.a n)).toArray, .int .i64 (readE d.a p.a n)]) ∧ H' = opn dt d p (L ++ R) H) := by
  subst hb
  cases hdn : d.a.down p.a with
  | true =>
    refine (read_down (sees 0 0 rfl) (hG.hb ▸ sees 3 0 rfl) n hdn).mono ?_
    rintro _ _ ⟨rfl, rfl⟩
    exact ⟨by simp [readS, readE, hdn], rfl⟩
  | false =>
    cases hth : d.a.has n with
    | false =>
      refine (read_out (sees 0 0 rfl) (hG.hb ▸ sees 3 0 rfl) n hdn hth).mono ?_
      rintro _ _ ⟨rfl, rfl⟩
      exact ⟨by simp [readS, readE, hdn, hth], rfl⟩
    | true =>
      have hn : 0 ≤ n ∧ n < d.a.S.length := by simpa [Ab.has] using hth
      obtain ⟨m, rfl⟩ : ∃ m : Nat, n = m := ⟨n.toNat, by omega⟩
      refine (read_go hG.dok (sees 0 0 rfl) (hG.hb ▸ sees 3 0 rfl) (sees 1 0 rfl) (fun gg hg => sees_mem ?_) m (by omega) hdn).mono ?_
      · simp [opn, Dv.q, hg, slSeg]
      · rintro _ _ ⟨rfl, rfl⟩
        exact ⟨by simp [readS, readE, hdn, hth], rfl⟩

theorem tear_l {w0 : World} {H : Hp} {L R : List Dv} {d : Dv} {p : Pw} {b : Nat} (hG : GOk dt p L d R) (hb : d.b = b) (k m : Int) : FnS Try.prog w0 28 #[ptr b, .int .i64 k, .int .i64 m] (opn dt d p (L ++ R) H) (fun e H' => e = .returned (.tuple #[]) ∧ ∃ d', GOk dt p L d' R ∧ d'.b = b ∧ d'.a = d.a.tear k m ∧ H' = opn dt d' p (L ++ R) H) := by
  subst hb
  refine (tear_s d k m).mono ?_
  rintro _ _ ⟨rfl, rfl⟩
  exact ⟨rfl, { d with a := d.a.tear k m }, hG.set rfl rfl ⟨Ab.tear_ok hG.dok.1, hG.dok.2⟩, rfl, rfl, rfl⟩

theorem out_l {w0 : World} {H : Hp} {L R : List Dv} {d : Dv} {p : Pw} {b : Nat} (hG : GOk dt p L d R) (hb : d.b = b) (on : Bool) : FnS Try.prog w0 33 #[ptr b, .bool on] (opn dt d p (L ++ R) H) (fun e H' => e = .returned (.tuple #[]) ∧ ∃ d', GOk dt p L d' R ∧ d'.b = b ∧ d'.a = d.a.outs on ∧ H' = opn dt d' p (L ++ R) H) := by
  subst hb
  cases on with
  | false =>
    refine (out_f d).mono ?_
    rintro _ _ ⟨rfl, rfl⟩
    exact ⟨rfl, { d with a := { d.a with out := false } }, hG.set rfl rfl ⟨hG.dok.1, hG.dok.2⟩, rfl, rfl, rfl⟩
  | true =>
    refine (out_t d).weak ?_
    rintro _ _ ⟨rfl, rfl⟩
    exact ⟨_, hsub_nil2.trans (hsub (.cons_cons _ (.cons_cons _ (.cons _ (.refl _))))), rfl, { d with g := none, a := { d.a with Q := [], out := true } }, hG.set rfl rfl (Ab.out_ok hG.dok), rfl, rfl, rfl⟩

theorem fail_l {w0 : World} {H : Hp} {L R : List Dv} {d : Dv} {p : Pw} {b : Nat} (hG : GOk dt p L d R) (hb : p.b = b) (n : Int) (hn : n ≤ 9223372036854775807) : FnS Try.prog w0 29 #[ptr b, .int .i64 n] (opn dt d p (L ++ R) H) (fun e H' => e = .returned (.tuple #[]) ∧ ∃ p', GOk dt p' L d R ∧ p'.b = b ∧ p'.a = p.a.fail n ∧ H' = opn dt d p' (L ++ R) H) := by
  subst hb
  refine ((fail_s p n).sub (hsub_pick [3] rfl)).weak ?_
  rintro _ _ ⟨rfl, rfl⟩
  exact ⟨_, hsub_pick [1, 1, 1] rfl, rfl, { p with a := p.a.fail n }, hG.setp _ hn, rfl, rfl, rfl⟩

theorem rot_l {w0 : World} {H : Hp} {L R : List Dv} {d : Dv} {p : Pw} {b : Nat} (hG : GOk dt p L d R) (hb : d.b = b) (n i : Int) (m : UInt8) : FnS Try.prog w0 34 #[ptr b, .int .i64 n, .int .i64 i, .int .u8 (m.toNat : Int)] (opn dt d p (L ++ R) H) (fun e H' => e = .returned (.bool (d.a.rotE n i)) ∧ ∃ d', GOk dt p L d' R ∧ d'.b = b ∧ d'.a = d.a.rots n i m ∧ H' = opn dt d' p (L ++ R) H) := by
  subst hb
  cases hth : d.a.has n with
  | false =>
    refine (rot_out d (sees 0 0 rfl) n i _ hth).mono ?_
    rintro _ _ ⟨rfl, rfl⟩
    exact ⟨ret_bool (by simp [Ab.rotE, hth]), d, hG, rfl, by simp [Ab.rots, Ab.rotE, hth], rfl⟩
  | true =>
    by_cases hi : 0 ≤ i ∧ i < 128
    · have hn : 0 ≤ n ∧ n < d.a.S.length := by simpa [Ab.has] using hth
      have hr : d.a.rotE n i = true := by simp [Ab.rotE, hth, hi]
      obtain ⟨k, rfl⟩ : ∃ m : Nat, n = m := ⟨n.toNat, by omega⟩
      obtain ⟨j, rfl⟩ : ∃ m : Nat, i = m := ⟨i.toNat, by omega⟩
      refine (rot_go d hG.dok.1 k j m (by omega) (by omega)).mono ?_
      rintro _ _ ⟨rfl, rfl⟩
      exact ⟨ret_bool hr.symm, { d with a := d.a.rot k j m }, hG.set rfl rfl ⟨Ab.rot_ok hG.dok.1 (by omega), hG.dok.2⟩, rfl, by simp [Ab.rots, hr], rfl⟩
    · refine (rot_at d (sees 0 0 rfl) n i _ hth hi).mono ?_
      rintro _ _ ⟨rfl, rfl⟩
      have hr : d.a.rotE n i = false := by simp only [Ab.rotE, hth, Bool.true_and]; simp; omega
      exact ⟨ret_bool hr.symm, d, hG, rfl, by simp [Ab.rots, hr], rfl⟩

theorem waiting_l {w0 : World} {H : Hp} {d : Dv} {b : Nat} (hb : d.b = b) (hd : d.ok) (hD : Sees (fun w => St w0 w H) d.b (.cells d.cells.toArray dt.dev)) : FnS Try.prog w0 44 #[ptr b] H (fun e H' => e = .returned (.int .i64 (d.a.Q.length : Int)) ∧ H' = H) := hb ▸ waiting_s d hd hD

theorem len_l {w0 : World} {H : Hp} {d : Dv} {b : Nat} (hb : d.b = b) (hD : Sees (fun w => St w0 w H) d.b (.cells d.cells.toArray dt.dev)) : FnS Try.prog w0 52 #[ptr b] H (fun e H' => e = .returned (.int .i64 (d.a.S.length : Int)) ∧ H' = H) := hb ▸ len_s d hD

theorem dump_l {w0 : World} {H : Hp} {d : Dv} {b : Nat} (hb : d.b = b) (hd : d.a.ok) (hD : Sees (fun w => St w0 w H) d.b (.cells d.cells.toArray dt.dev)) (hT : Sees (fun w => St w0 w H) d.st (.cells (bs d.a.S.flatten).toArray dt.sec)) : FnS Try.prog w0 30 #[ptr b] H (fun e H' => ∃ g, slOk 128 g d.a.S.length (bs d.a.S.flatten) ∧ e = .returned (slV g d.a.S.length) ∧ H' = slSeg 32 g (bs d.a.S.flatten) :: H) := hb ▸ dump_s d hd hD hT

theorem new_l {w0 : World} {H : Hp} {p : Pw} {b : Nat} (hb : p.b = b) (hp : p.ok dt) (hdv : p.devs = []) (n : Int) : FnS Try.prog w0 16 #[.int .i64 n, ptr b] (p.o dt :: p.q dt :: H) (fun e H' => ∃ d' p', GOk dt p' [] d' [] ∧ p'.b = b ∧ d'.a = Ab.new (szOf n) ∧ p'.a = p.a ∧ e = .returned (ptr d'.b) ∧ H' = d'.o dt :: d'.t dt :: d'.q dt :: p'.o dt :: p'.q dt :: H) := by
  subst hb
  refine (new_s n p hp (by simp [hdv])).mono ?_
  rintro _ _ ⟨b, st, g', hg, rfl, rfl⟩
  exact ⟨Dv.new b st p.b (szOf n), ⟨p.b, g', p.devs ++ [b], p.a⟩, ⟨fun x hx => by simp at hx; subst hx; rfl, by simp [hdv, Dv.new], fun x hx => by simp at hx; subst hx; exact Dv.new_ok (by unfold szOf; omega), ⟨hg, hp.2⟩, by simp⟩, rfl, rfl, rfl, rfl, rfl⟩

theorem new_ln {w0 : World} {H : Hp} (n : Int) : FnS Try.prog w0 16 #[.int .i64 n, .pointer none] H (fun e H' => ∃ d' p', GOk dt p' [] d' [] ∧ d'.a = Ab.new (szOf n) ∧ p'.a = ⟨false, 0, false⟩ ∧ e = .returned (ptr d'.b) ∧ H' = d'.o dt :: d'.t dt :: d'.q dt :: p'.o dt :: p'.q dt :: H) := by
  refine (new_nil n).mono ?_
  rintro _ _ ⟨pb, b, st, g', hg, rfl, rfl⟩
  exact ⟨Dv.new b st pb (szOf n), ⟨pb, g', [] ++ [b], ⟨false, 0, false⟩⟩, ⟨fun x hx => by simp at hx; subst hx; rfl, rfl, fun x hx => by simp at hx; subst hx; exact Dv.new_ok (by unfold szOf; omega), ⟨hg, by simp⟩, by simp⟩, rfl, rfl, rfl, rfl⟩

theorem newpower_l {w0 : World} {H : Hp} : FnS Try.prog w0 26 #[] H (fun e H' => ∃ p : Pw, p.ok dt ∧ p.devs = [] ∧ p.a = ⟨false, 0, false⟩ ∧ e = .returned (ptr p.b) ∧ H' = p.o dt :: p.q dt :: H) := by
  refine newpower_s.mono ?_
  rintro _ _ ⟨b, rfl, rfl⟩
  exact ⟨⟨b, none, [], ⟨false, 0, false⟩⟩, ⟨⟨rfl, rfl⟩, by simp⟩, rfl, rfl, rfl, rfl⟩

theorem new_l2 {w0 : World} {H : Hp} {d : Dv} {p : Pw} {b : Nat} (hG : GOk dt p [] d []) (hb : p.b = b) (n : Int) : FnS Try.prog w0 16 #[.int .i64 n, ptr b] (p.o dt :: p.q dt :: d.o dt :: d.t dt :: d.q dt :: H) (fun e H' => ∃ y p', GOk dt p' [] d [y] ∧ p'.b = b ∧ y.a = Ab.new (szOf n) ∧ p'.a = p.a ∧ e = .returned (ptr y.b) ∧ H' = y.o dt :: y.t dt :: y.q dt :: p'.o dt :: p'.q dt :: d.o dt :: d.t dt :: d.q dt :: H) := by
  subst hb
  have hdv := hG.devs
  refine (new_s n p hG.pok (by rw [hdv]; simp)).mono ?_
  rintro _ _ ⟨b, st, g', hg, rfl, rfl⟩
  refine ⟨Dv.new b st p.b (szOf n), ⟨p.b, g', p.devs ++ [b], p.a⟩, ⟨fun x hx => ?_, by simp [hdv, Dv.new], fun x hx => ?_, ⟨hg, hG.pok.2⟩, by simp⟩, rfl, rfl, rfl, rfl, rfl⟩
  · simp at hx
    rcases hx with rfl | rfl
    · exact hG.hb
    · rfl
  simp at hx
  rcases hx with rfl | rfl
  · exact hG.dok
  · exact Dv.new_ok (by unfold szOf; omega)

end Go.Proofs.Ytjjiclgbdenkkaa

/- Plain laws for the statements on devices (own work). -/
set_option linter.unusedVariables false
set_option linter.unusedSimpArgs false
namespace Go.Sl
theorem wrap_succ (i : Nat) : IntKind.u8.wrap ((i : Int) + 1) = ((UInt8.ofNat (i + 1)).toNat : Int) := by
  rw [IntKind.wrap_u8]; simp
theorem u8n (n : Nat) (h : n < 256) : ((UInt8.ofNat n).toNat : Int) = n := by simp; omega
/-! ### DeviceTears -/
def tq (m : Nat) : List (Nat × Sec) := (List.range m).map fun j => (j, secOf (UInt8.ofNat (j + 1)))
def tearA (K B m : Nat) : Ab := { (Ab.new 12).tear K B with Q := tq m }
theorem tq_get {m i : Nat} (h : i < m) : (tq m)[i]? = some (i, secOf (UInt8.ofNat (i + 1))) := by simp [tq, h]
theorem tq_len (m : Nat) : (tq m).length = m := by simp [tq]
theorem tearA_ok {K B m : Nat} (h : m ≤ 12) : (tearA K B m).ok := by
  refine ⟨(Ab.new_ok (by decide)).1, (Ab.new_ok (k := 12) (by decide)).2.1, fun x hx => ?_, by simp only [tearA, Ab.tear]; omega⟩
  simp only [tearA, tq, List.mem_map, List.mem_range] at hx
  obtain ⟨j, hj, rfl⟩ := hx
  exact ⟨by simp [tearA, Ab.tear, Ab.new]; omega, secOf_len _⟩
theorem tearA_push (K B m : Nat) : (tearA K B m).push m (secOf (UInt8.ofNat (m + 1))) = tearA K B (m + 1) := by
  simp [tearA, Ab.push, tq, List.range_succ]
theorem tearA_0 (K B : Nat) : (Ab.new 12).tear K B = tearA K B 0 := rfl
theorem tearA_len (K B m : Nat) : (tearA K B m).S.length = 12 := by simp [tearA, Ab.tear, Ab.new]
theorem tearA_has {K B m i : Nat} (h : i < 12) : (tearA K B m).has (i : Int) = true := by
  simp only [Ab.has, tearA_len]; simp; omega
theorem tearA_write {K B m : Nat} (h : m < 12) {q : Pa} (ho : q.off = false) (hf : q.falls = false) : writeE (tearA K B m) q (m : Int) = 0 ∧ writeA (tearA K B m) q (m : Int) (secOf (UInt8.ofNat (m + 1))) = tearA K B (m + 1) ∧ writeP (tearA K B m) q (m : Int) = q.step := by
  have hd : (tearA K B m).down q = false := by simp [Ab.down, ho, tearA, Ab.tear, Ab.new]
  have hh := tearA_has (K := K) (B := B) (m := m) h
  simp only [writeE, writeA, writeP, wgo, hd, hh, hf, Ab.step, Bool.not_false, Bool.true_and, if_true, Bool.false_eq_true, if_false, Int.toNat_natCast, tearA_push, true_and]
theorem tearA_fall {K B m : Nat} (h : m < 12) {q : Pa} (ho : q.off = false) (hf : q.falls = true) : writeE (tearA K B m) q (m : Int) = 13 ∧ writeA (tearA K B m) q (m : Int) (secOf (UInt8.ofNat (m + 1))) = (tearA K B (m + 1)).cut ∧ writeP (tearA K B m) q (m : Int) = q.step := by
  have hd : (tearA K B m).down q = false := by simp [Ab.down, ho, tearA, Ab.tear, Ab.new]
  have hh := tearA_has (K := K) (B := B) (m := m) h
  simp only [writeE, writeA, writeP, wgo, hd, hh, hf, Ab.step, Bool.not_false, Bool.true_and, if_true, Bool.false_eq_true, if_false, Int.toNat_natCast, tearA_push, true_and]
theorem tearA_flush {K B m : Nat} {q : Pa} (ho : q.off = false) (hf : q.falls = true) : flushE (tearA K B m) q = 13 ∧ flushA (tearA K B m) q = (tearA K B m).cut ∧ flushP (tearA K B m) q = q.step := by
  have hd : (tearA K B m).down q = false := by simp [Ab.down, ho, tearA, Ab.tear, Ab.new]
  simp [flushE, flushA, flushP, hd, hf]
def tearS (K B m : Nat) : List Sec := cutN (tearA K B m) m
theorem tearA_cut (K B m : Nat) : (tearA K B m).cut.S = tearS K B m ∧ (tearA K B m).cut.Q = [] := by
  have : (tearA K B m).Q.length = m := tq_len m
  have ho : (tearA K B m).out = false := rfl
  simp [Ab.cut, ho, tearS, this]
theorem tearS_ok {K B m : Nat} (h : m ≤ 12) : (∀ s ∈ tearS K B m, s.length = 128) ∧ (tearS K B m).length = 12 := by
  obtain ⟨h1, h2⟩ := cutN_ok (tearA_ok (K := K) (B := B) h) m
  exact ⟨h1, h2.trans (tearA_len K B m)⟩
def tsec (K B m i : Nat) : Sec := if i < m then (if i < K then secOf (UInt8.ofNat (i + 1)) else if i = K then (secOf (UInt8.ofNat (i + 1))).take (min B 128) ++ (secOf 0).drop (min B 128) else secOf 0) else secOf 0
theorem cutN_tear {K B M : Nat} (hM : M ≤ 12) : ∀ m, m ≤ M → ∀ i, i < 12 → (cutN (tearA K B M) m)[i]? = some (tsec K B m i)
  | 0, _, i, hi => by
    show ((Ab.new 12).tear K B).S[i]? = _
    simp only [Ab.tear, Ab.new, tsec, Nat.not_lt_zero, if_false]
    rw [List.getElem?_replicate, if_pos hi]
  | m + 1, hm, i, hi => by
    have ih := cutN_tear (K := K) (B := B) hM m (by omega)
    have hl : (cutN (tearA K B M) m).length = 12 := (cutN_ok (tearA_ok hM) m).2.trans (tearA_len K B M)
    have hq : (tearA K B M).Q[m]? = some (m, secOf (UInt8.ofNat (m + 1))) := tq_get (by omega)
    have hk : (tearA K B M).kept = K := by simp [tearA, Ab.tear]
    have hbt : (tearA K B M).bytes = min B 128 := by simp [tearA, Ab.tear]; omega
    show (match (tearA K B M).Q[m]? with | none => cutN (tearA K B M) m | some x => cut1 (tearA K B M) m x (cutN (tearA K B M) m))[i]? = _
    rw [hq]
    simp only [cut1, hk, hbt]
    by_cases hmi : m = i
    · subst hmi
      have h0 := ih m hi
      simp only [tsec, Nat.lt_irrefl, if_false, Nat.lt_succ_self, if_true]
      split
      · rw [List.getElem?_set_self (by omega)]
      · split
        · rw [List.getElem?_set_self (by omega), show (cutN (tearA K B M) m).getD m [] = secOf 0 from by simp [List.getD, h0, tsec]]
        · rw [h0]; simp [tsec]
    · have h0 := ih i hi
      have e : tsec K B (m + 1) i = tsec K B m i := by
        unfold tsec
        by_cases h1 : i < m
        · rw [if_pos h1, if_pos (by omega)]
        · rw [if_neg h1, if_neg (by omega)]
      rw [e]
      split
      · rw [List.getElem?_set_ne hmi, h0]
      · split
        · rw [List.getElem?_set_ne hmi, h0]
        · exact h0
def tbyte (K B m i j : Nat) : UInt8 := if i < m ∧ (i < K ∨ i = K ∧ j < B) then UInt8.ofNat (i + 1) else 0
theorem tb_pos {K B m i j : Nat} (h : i < m ∧ (i < K ∨ i = K ∧ j < B)) : tbyte K B m i j = UInt8.ofNat (i + 1) := if_pos h
theorem tb_neg {K B m i j : Nat} (h : ¬ (i < m ∧ (i < K ∨ i = K ∧ j < B))) : tbyte K B m i j = 0 := if_neg h
theorem sec_byte {c : UInt8} {j : Nat} (h : j < 128) : (secOf c)[j]? = some c := by rw [secOf, List.getElem?_replicate, if_pos h]
theorem tear_at {K B m i j : Nat} (hm : m ≤ 12) (hi : i < 12) (hj : j < 128) : (tearS K B m).flatten[i * 128 + j]? = some (tbyte K B m i j) := by
  rw [flat_at (tearS_ok hm).1 (cutN_tear hm m (Nat.le_refl _) i hi) hj]
  unfold tsec
  by_cases h1 : i < m
  · rw [if_pos h1]
    by_cases h2 : i < K
    · rw [if_pos h2, sec_byte hj, tb_pos ⟨h1, .inl h2⟩]
    · rw [if_neg h2]
      by_cases h3 : i = K
      · rw [if_pos h3]
        by_cases h4 : j < B
        · rw [List.getElem?_append_left (by rw [List.length_take, secOf_len]; omega), List.getElem?_take_of_lt (by omega), sec_byte hj, tb_pos ⟨h1, .inr ⟨h3, h4⟩⟩]
        · rw [List.getElem?_append_right (by rw [List.length_take, secOf_len]; omega), List.getElem?_drop, List.length_take, secOf_len, sec_byte (by omega), tb_neg (by omega)]
      · rw [if_neg h3, sec_byte hj, tb_neg (by omega)]
  · rw [if_neg h1, sec_byte hj, tb_neg (by omega)]
/-! ### DeviceRots -/
abbrev q0 : Pa := ⟨false, 0, false⟩
def rq (c : UInt8) (m : Nat) : List (Nat × Sec) := (List.range m).map fun j => (j, secOf c)
def rotA (c : UInt8) (m : Nat) : Ab := { Ab.new 6 with Q := rq c m }
theorem rotA_0 (c : UInt8) : Ab.new 6 = rotA c 0 := rfl
theorem rq_len (c : UInt8) (m : Nat) : (rq c m).length = m := by simp [rq]
theorem rotA_push (c : UInt8) (m : Nat) : (rotA c m).push m (secOf c) = rotA c (m + 1) := by simp [rotA, Ab.push, rq, List.range_succ]
theorem rotA_write {c : UInt8} {m : Nat} (h : m < 6) : writeA (rotA c m) q0 (m : Int) (secOf c) = rotA c (m + 1) ∧ writeP (rotA c m) q0 (m : Int) = q0 := by
  have hd : (rotA c m).down q0 = false := rfl
  have hh : (rotA c m).has (m : Int) = true := by simp [Ab.has, rotA, Ab.new]; omega
  have hf : q0.falls = false := rfl
  simp only [writeA, writeP, wgo, hd, hh, hf, Ab.step, Bool.not_false, Bool.true_and, if_true, Bool.false_eq_true, if_false, Int.toNat_natCast, rotA_push, true_and]
  rfl
def rotS (c : UInt8) : List Sec := List.replicate 6 (secOf c)
theorem rotS_ok (c : UInt8) : ∀ s ∈ rotS c, s.length = 128 := fun s hs => by
  rw [List.eq_of_mem_replicate hs, secOf_len]
theorem rotS_len (c : UInt8) : (rotS c).length = 6 := List.length_replicate
def rotF (c : UInt8) : Ab := { Ab.new 6 with S := rotS c }
theorem rot_flush (c : UInt8) : flushA (rotA c 6) q0 = rotF c ∧ flushP (rotA c 6) q0 = q0 := ⟨rfl, rfl⟩
def rotT (c : UInt8) (n k : Nat) (m : UInt8) : List Sec := (rotS c).set n ((secOf c).set k (c ^^^ m))
def rotG (c : UInt8) (n k : Nat) (m : UInt8) : Ab := { rotF c with S := rotT c n k m }
theorem rotT_ok (c : UInt8) (n k : Nat) (m : UInt8) : ∀ s ∈ rotT c n k m, s.length = 128 := set_ok (rotS_ok c) (by rw [List.length_set, secOf_len])
theorem rotT_len (c : UInt8) (n k : Nat) (m : UInt8) : (rotT c n k m).length = 6 := by rw [rotT, List.length_set, rotS_len]
theorem rotS_get {c : UInt8} {i : Nat} (h : i < 6) : (rotS c)[i]? = some (secOf c) := by rw [rotS, List.getElem?_replicate, if_pos h]
theorem rotE_in {c : UInt8} {n k : Nat} (hn : n < 6) (hk : k < 128) : (rotF c).rotE n k = true := by
  have : (rotF c).S.length = 6 := rotS_len c
  simp [Ab.rotE, Ab.has, this]; omega
theorem rotE_out {c : UInt8} {n k : Int} (h : ¬ (0 ≤ n ∧ n < 6 ∧ 0 ≤ k ∧ k < 128)) : (rotF c).rotE n k = false := by
  have : (rotF c).S.length = 6 := rotS_len c
  simp [Ab.rotE, Ab.has, this]; omega
theorem rots_out {c : UInt8} {n k : Int} {m : UInt8} (h : ¬ (0 ≤ n ∧ n < 6 ∧ 0 ≤ k ∧ k < 128)) : (rotF c).rots n k m = rotF c := by
  simp only [Ab.rots, rotE_out h, Bool.false_eq_true, if_false]
theorem rots_in {c : UInt8} {n k : Nat} {m : UInt8} (hn : n < 6) (hk : k < 128) : (rotF c).rots n k m = rotG c n k m := by
  have e : (rotF c).S.getD n [] = secOf c := by rw [show (rotF c).S = rotS c from rfl, List.getD, rotS_get hn]; rfl
  have e2 : (secOf c).getD k 0 = c := by rw [List.getD, sec_byte hk]; rfl
  simp only [Ab.rots, rotE_in hn hk, if_true, Int.toNat_natCast, Ab.rot, e, e2]
  rfl
theorem rotG_E {c : UInt8} {n k : Nat} {m : UInt8} (hn : n < 6) (hk : k < 128) : (rotG c n k m).rotE n k = true := by
  have : (rotG c n k m).S.length = 6 := rotT_len c n k m
  simp [Ab.rotE, Ab.has, this]; omega
theorem rotG_back {c : UInt8} {n k : Nat} {m : UInt8} (hn : n < 6) (hk : k < 128) : (rotG c n k m).rots n k m = rotF c := by
  have e : (rotG c n k m).S.getD n [] = (secOf c).set k (c ^^^ m) := by
    rw [show (rotG c n k m).S = rotT c n k m from rfl, List.getD, rotT, List.getElem?_set_self (by rw [rotS_len]; exact hn)]; rfl
  have e2 : ((secOf c).set k (c ^^^ m)).getD k 0 = c ^^^ m := by rw [List.getD, List.getElem?_set_self (by rw [secOf_len]; exact hk)]; rfl
  have e3 : c ^^^ m ^^^ m = c := by rw [UInt8.xor_assoc, UInt8.xor_self, UInt8.xor_zero]
  simp only [Ab.rots, rotG_E hn hk, if_true, Int.toNat_natCast, Ab.rot, e, e2, e3]
  have e4 : ((secOf c).set k (c ^^^ m)).set k c = secOf c := by
    rw [List.set_set]
    apply List.ext_getElem?
    intro j
    by_cases hj : k = j
    · subst hj; rw [List.getElem?_set_self (by rw [secOf_len]; exact hk), sec_byte hk]
    · rw [List.getElem?_set_ne hj]
  rw [e4]
  have e5 : (rotT c n k m).set n (secOf c) = rotS c := by
    rw [rotT, List.set_set]
    apply List.ext_getElem?
    intro j
    by_cases hj : n = j
    · subst hj; rw [List.getElem?_set_self (by rw [rotS_len]; exact hn), rotS_get hn]
    · rw [List.getElem?_set_ne hj]
  show ({ rotG c n k m with S := (rotT c n k m).set n (secOf c) } : Ab) = _
  rw [e5]; rfl
theorem rotS_at {c : UInt8} {i j : Nat} (hi : i < 6) (hj : j < 128) : (rotS c).flatten[i * 128 + j]? = some c := by
  rw [flat_at (rotS_ok c) (rotS_get hi) hj, sec_byte hj]
def rbyte (c : UInt8) (n k : Nat) (m : UInt8) (i j : Nat) : UInt8 := if i = n ∧ j = k then c ^^^ m else c
theorem rotT_at {c : UInt8} {n k : Nat} {m : UInt8} {i j : Nat} (hi : i < 6) (hj : j < 128) : (rotT c n k m).flatten[i * 128 + j]? = some (rbyte c n k m i j) := by
  unfold rbyte
  by_cases h1 : i = n
  · subst h1
    rw [flat_at (rotT_ok c i k m) (show (rotT c i k m)[i]? = some ((secOf c).set k (c ^^^ m)) from by rw [rotT, List.getElem?_set_self (by rw [rotS_len]; exact hi)]) hj]
    by_cases h2 : j = k
    · subst h2; rw [List.getElem?_set_self (by rw [secOf_len]; exact hj), if_pos ⟨rfl, rfl⟩]
    · rw [List.getElem?_set_ne (fun e => h2 e.symm), sec_byte hj, if_neg (fun e => h2 e.2)]
  · rw [flat_at (rotT_ok c n k m) (show (rotT c n k m)[i]? = some (secOf c) from by rw [rotT, List.getElem?_set_ne (fun e => h1 e.symm), rotS_get hi]) hj, sec_byte hj, if_neg (fun e => h1 e.1)]
/-! ### DeviceApart -/
theorem y_zsec {P : Program} {n : FN} {E : Env} {W : World → Prop} {t ty e m : Nat} (hu : P.underlying t = some (.array 128 e)) (hz : szT P e = some m) (hzl : zeroL P t = some (List.replicate 128 (Value.int .u8 0))) : YV P n E W (.build t #[]) ty (.agg (bs (secOf 0)).toArray) := by
  rw [← zsec]; exact y_buildA0 hu hz hzl
theorem ap_write {K : Nat} (h : 0 < K) (s : Sec) : writeA (Ab.new K) q0 0 s = (Ab.new K).push 0 s ∧ writeP (Ab.new K) q0 0 = q0 := by
  have hd : (Ab.new K).down q0 = false := rfl
  have hh : (Ab.new K).has 0 = true := by simp [Ab.has, Ab.new]; omega
  have hf : q0.falls = false := rfl
  simp only [writeA, writeP, wgo, hd, hh, hf, Ab.step, Bool.not_false, Bool.true_and, if_true, Bool.false_eq_true, if_false, true_and]
  exact ⟨rfl, rfl⟩
def apS (c : UInt8) (K : Nat) : List Sec := (List.replicate K (secOf 0)).set 0 (secOf c)
def apF (c : UInt8) (K : Nat) : Ab := { Ab.new K with S := apS c K }
theorem ap_flush (c : UInt8) (K : Nat) : flushA ((Ab.new K).push 0 (secOf c)) q0 = apF c K ∧ flushP ((Ab.new K).push 0 (secOf c)) q0 = q0 := ⟨rfl, rfl⟩
theorem apS_ok (c : UInt8) (K : Nat) : ∀ s ∈ apS c K, s.length = 128 := set_ok (fun s hs => by rw [List.eq_of_mem_replicate hs, secOf_len]) (secOf_len c)
theorem apS_len (c : UInt8) (K : Nat) : (apS c K).length = K := by simp [apS]
theorem ap_read {c : UInt8} {K : Nat} (h : 0 < K) : readS (apF c K) q0 0 = secOf c ∧ readE (apF c K) q0 0 = 0 := by
  have hd : (apF c K).down q0 = false := rfl
  have hh : (apF c K).has 0 = true := by simp [Ab.has, apF, apS_len]; omega
  have hr : (apF c K).read 0 = secOf c := by
    simp only [Ab.read, show lastW (apF c K).Q 0 = none from rfl, Option.getD_none]
    rw [show (apF c K).S = apS c K from rfl, apS, List.getD, List.getElem?_set_self (by simp; omega)]; rfl
  simp only [readS, readE, hd, hh, Bool.false_eq_true, if_false, if_true]
  exact ⟨hr, trivial⟩
theorem u8_add1 (c : UInt8) : IntKind.u8.wrap ((c.toNat : Int) + 1) = ((c + 1).toNat : Int) := by
  rw [IntKind.wrap_u8]; simp [UInt8.toNat_add]
/-! ### Deeds -/
structure DeedM where
  on : Int
  kind : Int
  n : Int
  m : Int
  c : UInt8
def dcells (x : DeedM) : List Value := [.int .i64 x.on, .int .i64 x.kind, .int .i64 x.n, .int .i64 x.m, .int .u8 (x.c.toNat : Int)]
def deeds (ds : List DeedM) : List Value := (ds.map dcells).flatten
theorem deeds_len (ds : List DeedM) : (deeds ds).length = ds.length * 5 := by
  induction ds with
  | nil => rfl
  | cons x ds ih => simp only [deeds, List.map_cons, List.flatten_cons, List.length_append, List.length_cons] at ih ⊢; rw [ih]; simp [dcells]; omega
theorem deeds_get : ∀ {ds : List DeedM} {i j : Nat} {x : DeedM}, ds[i]? = some x → j < 5 → (deeds ds)[i * 5 + j]? = (dcells x)[j]?
  | [], i, j, x, h, _ => by simp at h
  | y :: ds, 0, j, x, h, hj => by
    simp at h; subst h
    simp only [deeds, List.map_cons, List.flatten_cons, Nat.zero_mul, Nat.zero_add]
    rw [List.getElem?_append_left (by simp [dcells]; omega)]
  | y :: ds, i + 1, j, x, h, hj => by
    simp only [List.getElem?_cons_succ] at h
    have := deeds_get h hj
    simp only [deeds, List.map_cons, List.flatten_cons] at this ⊢
    rw [List.getElem?_append_right (by simp [dcells]; omega), ← this]
    congr 1
    simp [dcells]; omega
/-- A cell of a deed that came in. -/
theorem deed_at {l : List Value} {off i j : Nat} {ds : List DeedM} {x : DeedM} (hv : (l.drop off).take (deeds ds).length = deeds ds) (hi : ds[i]? = some x) (hj : j < 5) : l[off + i * 5 + j]? = (dcells x)[j]? := by
  have hlt := (List.getElem?_eq_some_iff.1 hi).1
  rw [← deeds_get hi hj, ← hv, List.getElem?_take_of_lt (by rw [deeds_len]; omega), List.getElem?_drop, Nat.add_assoc]
/-! ### What a flush makes stable is what was read -/
theorem lastW_snoc (Q : List (Nat × Sec)) (x : Nat × Sec) (k : Nat) : lastW (Q ++ [x]) k = if x.1 = k then some x.2 else lastW Q k := by
  unfold lastW
  rw [List.reverse_append, List.reverse_singleton, List.singleton_append, List.find?_cons]
  by_cases h : x.1 = k
  · simp [h]
  · have : (x.1 == k) = false := by simpa using h
    simp [h, this]
theorem flushN_get {a : Ab} (h : a.ok) {k : Nat} (hk : k < a.S.length) : ∀ m, m ≤ a.Q.length → (flushN a m)[k]? = some ((lastW (a.Q.take m) k).getD (a.S.getD k []))
  | 0, _ => by
    show a.S[k]? = _
    rw [List.take_zero, show lastW [] k = none from rfl, Option.getD_none]
    simp [List.getD, hk]
  | m + 1, hm => by
    have ih := flushN_get h hk m (by omega)
    obtain ⟨x, hx⟩ : ∃ x, a.Q[m]? = some x := ⟨_, List.getElem?_eq_getElem (by omega)⟩
    rw [flushN_s hx, show a.Q.take (m + 1) = a.Q.take m ++ [x] from by rw [List.take_add_one, hx]; rfl, lastW_snoc]
    by_cases e : x.1 = k
    · subst e
      rw [List.getElem?_set_self (by rw [(flushN_ok h m).2]; exact hk), if_pos rfl]; rfl
    · rw [List.getElem?_set_ne e, if_neg e, ih]
theorem flush_read {a : Ab} (h : a.ok) : flushN a a.Q.length = (List.range a.S.length).map a.read := by
  apply List.ext_getElem?
  intro k
  by_cases hk : k < a.S.length
  · rw [flushN_get h hk _ (Nat.le_refl _), List.take_length]
    simp [hk, Ab.read]
  · rw [List.getElem?_eq_none (by rw [(flushN_ok h _).2]; omega), List.getElem?_eq_none (by simp; omega)]
theorem hsub_nil0 {r : Hp} : HSub ([] :: r) r := hsub_flat rfl
/-! ### DeviceLies -/
def okN (x : DeedM) : Prop := 0 ≤ x.n ∧ x.n < 20
instance (x : DeedM) : Decidable (okN x) := inferInstanceAs (Decidable (0 ≤ x.n ∧ x.n < 20))
def wq1 (x : DeedM) : List (Nat × Sec) := if okN x then [(x.n.toNat, secOf x.c)] else []
def lq (ds : List DeedM) (i : Nat) : List (Nat × Sec) := (ds.take i).flatMap wq1
theorem lq_succ {ds : List DeedM} {i : Nat} {x : DeedM} (hx : ds[i]? = some x) : lq ds (i + 1) = lq ds i ++ wq1 x := by
  simp only [lq, List.take_add_one, hx, Option.toList_some, List.flatMap_append, List.flatMap_cons, List.flatMap_nil, List.append_nil]
theorem lq_t {ds : List DeedM} {i : Nat} {x : DeedM} (hx : ds[i]? = some x) (h : okN x) : lq ds (i + 1) = lq ds i ++ [(x.n.toNat, secOf x.c)] := by rw [lq_succ hx, wq1, if_pos h]
theorem lq_f {ds : List DeedM} {i : Nat} {x : DeedM} (hx : ds[i]? = some x) (h : ¬ okN x) : lq ds (i + 1) = lq ds i := by rw [lq_succ hx, wq1, if_neg h, List.append_nil]
theorem lq_len (ds : List DeedM) : ∀ i, (lq ds i).length ≤ i
  | 0 => by simp [lq]
  | i + 1 => by
    have ih := lq_len ds i
    cases hx : ds[i]? with
    | none =>
      have : lq ds (i + 1) = lq ds i := by simp [lq, List.take_add_one, hx]
      rw [this]; omega
    | some x =>
      rw [lq_succ hx, List.length_append]
      have : (wq1 x).length ≤ 1 := by unfold wq1; split <;> simp
      omega
def S20 : List Sec := List.replicate 20 (secOf 0)
theorem S20_ok : ∀ s ∈ S20, s.length = 128 := fun s hs => by rw [List.eq_of_mem_replicate hs, secOf_len]
theorem S20_len : S20.length = 20 := List.length_replicate
def lA (ds : List DeedM) (i : Nat) : Ab := ⟨S20, lq ds i, 0, 0, true, false⟩
theorem lA_0 (ds : List DeedM) : { Ab.new 20 with lies := true } = lA ds 0 := rfl
theorem lA_ok (ds : List DeedM) (i : Nat) : (lA ds i).ok := by
  refine ⟨S20_ok, by rw [show (lA ds i).S = S20 from rfl, S20_len]; decide, fun x hx => ?_, Nat.zero_le _⟩
  simp only [lA, lq, List.mem_flatMap] at hx
  obtain ⟨y, _, hy⟩ := hx
  unfold wq1 at hy
  split at hy
  · rename_i h
    simp at hy; subst hy
    exact ⟨by rw [show (lA ds i).S = S20 from rfl, S20_len]; have := h.1; have := h.2; simp only; omega, secOf_len _⟩
  · simp at hy
theorem lA_write {ds : List DeedM} {i : Nat} {x : DeedM} (hx : ds[i]? = some x) : writeE (lA ds i) q0 x.n = (if okN x then 0 else 2) ∧ writeA (lA ds i) q0 x.n (secOf x.c) = lA ds (i + 1) ∧ writeP (lA ds i) q0 x.n = q0 := by
  have hd : (lA ds i).down q0 = false := rfl
  have hf : q0.falls = false := rfl
  have hl : (lA ds i).S.length = 20 := S20_len
  by_cases h : okN x
  · have hh : (lA ds i).has x.n = true := by simp only [Ab.has, hl]; simp; exact h
    simp only [writeE, writeA, writeP, wgo, hd, hh, hf, Ab.step, Bool.not_false, Bool.true_and, if_true, Bool.false_eq_true, if_false, if_pos h, true_and]
    refine ⟨?_, rfl⟩
    simp only [Ab.push, lA, lq_t hx h]
  · have hh : (lA ds i).has x.n = false := by
      simp only [Ab.has, hl]; simp; intro h0; have : ¬ (0 ≤ x.n ∧ x.n < 20) := h; omega
    simp only [writeE, writeA, writeP, wgo, hd, hh, hf, Bool.and_false, Bool.false_eq_true, if_false, if_neg h, true_and]
    simp only [lA, lq_f hx h, and_self]
theorem lA_flush (ds : List DeedM) (i : Nat) : flushE (lA ds i) q0 = 0 ∧ flushA (lA ds i) q0 = lA ds i ∧ flushP (lA ds i) q0 = q0 := ⟨rfl, rfl, rfl⟩
def nowS (ds : List DeedM) (k : Nat) : List Sec := (List.range k).map (lA ds ds.length).read
theorem nowS_succ (ds : List DeedM) (k : Nat) : nowS ds (k + 1) = nowS ds k ++ [(lA ds ds.length).read k] := by simp [nowS, List.range_succ]
theorem nowS_len (ds : List DeedM) (k : Nat) : (nowS ds k).length = k := by simp [nowS]
theorem nowS_ok (ds : List DeedM) {k : Nat} (h : k ≤ 20) : ∀ s ∈ nowS ds k, s.length = 128 := fun s hs => by
  simp only [nowS, List.mem_map, List.mem_range] at hs
  obtain ⟨j, hj, rfl⟩ := hs
  exact Ab.read_len (lA_ok _ _) (by rw [show (lA ds ds.length).S = S20 from rfl, S20_len]; omega)
theorem lA_read (ds : List DeedM) {k : Nat} (h : k < 20) : readS (lA ds ds.length) q0 (k : Int) = (lA ds ds.length).read k ∧ readE (lA ds ds.length) q0 (k : Int) = 0 := by
  have hd : (lA ds ds.length).down q0 = false := rfl
  have hh : (lA ds ds.length).has (k : Int) = true := by
    simp only [Ab.has, show (lA ds ds.length).S = S20 from rfl, S20_len]; simp; omega
  simp only [readS, readE, hd, hh, Bool.false_eq_true, if_false, if_true, Int.toNat_natCast, and_self]
def lC (ds : List DeedM) : Ab := ⟨nowS ds 20, [], 0, 0, false, false⟩
theorem lB_flush (ds : List DeedM) : flushE { lA ds ds.length with lies := false } q0 = 0 ∧ flushA { lA ds ds.length with lies := false } q0 = lC ds ∧ flushP { lA ds ds.length with lies := false } q0 = q0 := by
  have e := flush_read (lA_ok ds ds.length)
  refine ⟨rfl, ?_, rfl⟩
  have e2 : flushA { lA ds ds.length with lies := false } q0 = ⟨flushN { lA ds ds.length with lies := false } (lq ds ds.length).length, [], 0, 0, false, false⟩ := rfl
  rw [e2, lC]
  have e3 : ∀ m, flushN { lA ds ds.length with lies := false } m = flushN (lA ds ds.length) m := fun m => by
    induction m with
    | zero => rfl
    | succ m ih => simp only [flushN, ih]
  rw [e3, show (lq ds ds.length).length = (lA ds ds.length).Q.length from rfl, e]
  rfl
/-! ### DeviceReads, DeviceFlushes: what is read behind a write, behind a flush -/
theorem read_push (a : Ab) (n : Nat) (s : Sec) (k : Nat) : (a.push n s).read k = if n = k then s else a.read k := by
  simp only [Ab.read, Ab.push, lastW_snoc]
  by_cases h : n = k
  · simp [h]
  · simp [h]
theorem read_flush {a : Ab} (h : a.ok) (hl : a.lies = false) {k : Nat} (hk : k < a.S.length) : a.flush.read k = a.read k := by
  have e := flushN_get h hk a.Q.length (Nat.le_refl _)
  rw [List.take_length] at e
  simp only [Ab.flush, hl, Bool.false_eq_true, if_false, Ab.read, show lastW [] k = none from rfl, Option.getD_none, List.getD, e, Option.getD_some]
theorem has_push (a : Ab) (n : Nat) (s : Sec) (m : Int) : (a.push n s).has m = a.has m := rfl
theorem has_flush {a : Ab} (h : a.ok) (hl : a.lies = false) : a.flush.S.length = a.S.length := by
  simp only [Ab.flush, hl, Bool.false_eq_true, if_false, (flushN_ok h _).2]
/-- A device that is whole and is read as W. -/
structure RdW (K : Nat) (W : List Sec) (a : Ab) (m : Nat) : Prop where
  ok : a.ok
  len : a.S.length = K
  out : a.out = false
  lies : a.lies = false
  many : a.Q.length ≤ m
  wlen : W.length = K
  read : ∀ k s, W[k]? = some s → a.read k = s
theorem RdW.new {K : Nat} (h : K ≤ 4096) : RdW K (List.replicate K (secOf 0)) (Ab.new K) 0 := ⟨Ab.new_ok h, by simp [Ab.new], rfl, rfl, Nat.le_refl _, by simp, fun k s hs => by
  have : k < K := by have := (List.getElem?_eq_some_iff.1 hs).1; simpa using this
  rw [List.getElem?_replicate, if_pos this] at hs; cases hs
  simp [Ab.read, Ab.new, lastW, List.getD, this]⟩
theorem RdW.write {K n m : Nat} {W : List Sec} {a : Ab} {s : Sec} (h : RdW K W a m) (hn : n < K) (hs : s.length = 128) : RdW K (W.set n s) (a.push n s) (m + 1) := by
  obtain ⟨h1, h2, h3, h4, h5, h6, h7⟩ := h
  refine ⟨⟨h1.1, h1.2.1, fun x hx => ?_, h1.2.2.2⟩, h2, h3, h4, by simp [Ab.push]; omega, by simpa using h6, fun k t ht => ?_⟩
  · rcases List.mem_append.1 hx with hx | hx
    · exact h1.2.2.1 x hx
    · simp at hx; subst hx; exact ⟨by simp only [Ab.push]; omega, hs⟩
  · rw [read_push]
    by_cases e : n = k
    · subst e
      rw [List.getElem?_set_self (by omega)] at ht; cases ht; simp
    · rw [List.getElem?_set_ne e] at ht
      rw [if_neg e]; exact h7 k t ht
theorem RdW.flush {K m : Nat} {W : List Sec} {a : Ab} (h : RdW K W a m) : RdW K W a.flush 0 := by
  obtain ⟨h1, h2, h3, h4, h5, h6, h7⟩ := h
  refine ⟨Ab.flush_ok h1, by rw [has_flush h1 h4, h2], by simp [Ab.flush, h4, h3], by simp [Ab.flush, h4], by simp [Ab.flush, h4], h6, fun k t ht => ?_⟩
  rw [read_flush h1 h4 (by have := (List.getElem?_eq_some_iff.1 ht).1; omega)]
  exact h7 k t ht
theorem RdW.has {K m : Nat} {W : List Sec} {a : Ab} (h : RdW K W a m) (n : Int) : a.has n = (decide (0 ≤ n) && decide (n < K)) := by simp only [Ab.has, h.len]
theorem RdW.writes {K m : Nat} {W : List Sec} {a : Ab} (h : RdW K W a m) (n : Int) (s : Sec) : writeE a q0 n = (if 0 ≤ n ∧ n < K then 0 else 2) ∧ writeA a q0 n s = (if 0 ≤ n ∧ n < K then a.push n.toNat s else a) ∧ writeP a q0 n = q0 := by
  have hd : a.down q0 = false := by simp [Ab.down, h.out]
  have hf : q0.falls = false := rfl
  simp only [writeE, writeA, writeP, wgo, hd, h.has, hf, Ab.step, Bool.not_false, Bool.true_and, Bool.false_eq_true, if_false]
  by_cases hn : 0 ≤ n ∧ n < K
  · simp [hn]; rfl
  · have : (decide (0 ≤ n) && decide (n < (K : Int))) = false := by simp; omega
    simp [this, hn]
theorem RdW.flushes {K m : Nat} {W : List Sec} {a : Ab} (h : RdW K W a m) : flushE a q0 = 0 ∧ flushA a q0 = a.flush ∧ flushP a q0 = q0 := by
  have hd : a.down q0 = false := by simp [Ab.down, h.out]
  have hf : q0.falls = false := rfl
  simp only [flushE, flushA, flushP, hd, hf, Bool.false_eq_true, if_false, true_and]
  rfl
theorem RdW.reads {K m k : Nat} {W : List Sec} {a : Ab} {s : Sec} (h : RdW K W a m) (hk : W[k]? = some s) : readS a q0 (k : Int) = s ∧ readE a q0 (k : Int) = 0 := by
  have hd : a.down q0 = false := by simp [Ab.down, h.out]
  have hlt : k < K := by have := (List.getElem?_eq_some_iff.1 hk).1; have := h.wlen; omega
  have hh : a.has (k : Int) = true := by rw [h.has]; simp; omega
  simp only [readS, readE, hd, hh, Bool.false_eq_true, if_false, if_true, Int.toNat_natCast, and_true]
  exact h.read k s hk
theorem RdW.mono {K m m' : Nat} {W : List Sec} {a : Ab} (h : RdW K W a m) (hm : m ≤ m') : RdW K W a m' := ⟨h.ok, h.len, h.out, h.lies, Nat.le_trans h.many hm, h.wlen, h.read⟩
theorem szOf_max {n : Int} (h : n ≤ 20) : (max n 0).toNat = szOf n := by unfold szOf; omega
theorem szOf_le {n : Int} (h : n ≤ 20) : szOf n ≤ 20 := by unfold szOf; omega
/-! ### DeviceFlushes -/
theorem RdW.stable {K : Nat} {W : List Sec} {a : Ab} (h : RdW K W a 0) : a.Q = [] ∧ a.S = W := by
  have hq : a.Q = [] := List.eq_nil_of_length_eq_zero (Nat.le_zero.1 h.many)
  refine ⟨hq, ?_⟩
  apply List.ext_getElem?
  intro k
  by_cases hk : k < K
  · have h1 : a.read k = W[k]'(by rw [h.wlen]; exact hk) := h.read k _ (List.getElem?_eq_getElem _)
    rw [List.getElem?_eq_getElem (show k < W.length from by rw [h.wlen]; exact hk), ← h1]
    simp only [Ab.read, hq, show lastW [] k = none from rfl, Option.getD_none, List.getD]
    rw [List.getElem?_eq_getElem (by rw [h.len]; exact hk)]; rfl
  · rw [List.getElem?_eq_none (by rw [h.len]; omega), List.getElem?_eq_none (by rw [h.wlen]; omega)]
abbrev qF : Pa := ⟨false, 0, true⟩
abbrev qX : Pa := ⟨true, 0, false⟩
/-- Power fails at a flush of what is flushed: nothing changes. -/
theorem RdW.fails {K : Nat} {W : List Sec} {a : Ab} (h : RdW K W a 0) (k m : Int) : flushE (a.tear k m) qF = 13 ∧ flushA (a.tear k m) qF = a.tear k m ∧ flushP (a.tear k m) qF = qX := by
  obtain ⟨hq, hs⟩ := h.stable
  have hd : (a.tear k m).down qF = false := by simp [Ab.down, Ab.tear, h.out]
  have hf : qF.falls = true := rfl
  have hc : (a.tear k m).cut = a.tear k m := by
    have ho : (a.tear k m).out = false := h.out
    have hq2 : (a.tear k m).Q = [] := hq
    generalize a.tear k m = y at ho hq2
    cases y
    simp only at ho hq2
    subst ho; subst hq2
    rfl
  simp only [flushE, flushA, flushP, hd, hf, hc, Bool.false_eq_true, if_false, if_true, true_and]
  rfl
theorem RdW.tear {K m : Nat} {W : List Sec} {a : Ab} (h : RdW K W a m) (k b : Int) : RdW K W (a.tear k b) m := ⟨Ab.tear_ok h.ok, h.len, h.out, h.lies, h.many, h.wlen, h.read⟩
end Go.Sl

/- Two devices, of one power or each of its own: one segment in memory, one abstract state (own work). -/
set_option linter.unusedVariables false
set_option linter.unusedSimpArgs false
namespace Go.Sl
structure Duo where
  x : Dv
  y : Dv
  p : Pw
  q : Option Pw
/-- The abstract state: two devices, a power, and the second one's own power. -/
structure Da where
  a : Ab
  b : Ab
  p : Pa
  q : Option Pa
def Duo.qs (t : DT) : Option Pw → Hp
  | none => []
  | some q => [q.o t, q.q t]
def Duo.hp (t : DT) (D : Duo) : Hp := [D.x.o t, D.x.t t, D.x.q t, D.p.o t, D.p.q t, D.y.o t, D.y.t t, D.y.q t] ++ Duo.qs t D.q
def Duo.seg (t : DT) (D : Duo) : List (Nat × Obj) := (D.hp t).flatten
def Duo.dev (D : Duo) : Bool → Dv
  | false => D.x
  | true => D.y
def Duo.pow (D : Duo) : Bool → Pw
  | false => D.p
  | true => D.q.getD D.p
def Duo.da (D : Duo) : Da := ⟨D.x.a, D.y.a, D.p.a, D.q.map (·.a)⟩
def Duo.ok (t : DT) (D : Duo) : Prop := match D.q with
  | none => GOk t D.p [] D.x [D.y]
  | some q => GOk t D.p [] D.x [] ∧ GOk t q [] D.y []
def Da.dev (A : Da) : Bool → Ab
  | false => A.a
  | true => A.b
def Da.pow (A : Da) : Bool → Pa
  | false => A.p
  | true => A.q.getD A.p
def Da.setd (A : Da) (i : Bool) (x : Ab) : Da := match i with
  | false => { A with a := x }
  | true => { A with b := x }
def Da.setp (A : Da) (i : Bool) (x : Pa) : Da := match i, A.q with
  | true, some _ => { A with q := some x }
  | _, _ => { A with p := x }
/-- The other device of the same power, behind an operation that was counted (c) or not. -/
def Da.oth (A : Da) (i c : Bool) : Da := if c && A.q.isNone then A.setd (!i) ((A.dev (!i)).step (A.pow i)) else A
def Da.write (A : Da) (i : Bool) (n : Int) (s : Sec) : Da := ((A.oth i (wgo (A.dev i) (A.pow i) n)).setd i (writeA (A.dev i) (A.pow i) n s)).setp i (writeP (A.dev i) (A.pow i) n)
def Da.flush (A : Da) (i : Bool) : Da := ((A.oth i (!(A.dev i).down (A.pow i))).setd i (flushA (A.dev i) (A.pow i))).setp i (flushP (A.dev i) (A.pow i))
def Da.wE (A : Da) (i : Bool) (n : Int) : Int := writeE (A.dev i) (A.pow i) n
def Da.fE (A : Da) (i : Bool) : Int := flushE (A.dev i) (A.pow i)
def Da.rS (A : Da) (i : Bool) (n : Int) : Sec := readS (A.dev i) (A.pow i) n
def Da.rE (A : Da) (i : Bool) (n : Int) : Int := readE (A.dev i) (A.pow i) n
theorem Da.setd_self (A : Da) (i : Bool) : A.setd i (A.dev i) = A := by cases i <;> rfl
theorem Da.setp_self (A : Da) (i : Bool) : A.setp i (A.pow i) = A := by
  obtain ⟨a, b, p, q⟩ := A
  cases i <;> cases q <;> rfl
theorem Duo.da_dev (D : Duo) (i : Bool) : (D.dev i).a = D.da.dev i := by cases i <;> rfl
theorem Duo.da_pow (D : Duo) (i : Bool) : (D.pow i).a = D.da.pow i := by
  obtain ⟨x, y, p, q⟩ := D
  cases i <;> cases q <;> rfl
theorem Duo.hsub1 (t : DT) (D : Duo) (H : Hp) : HSub (D.hp t ++ H) (D.seg t :: H) := hsub_flat (by rw [List.flatten_append]; rfl)
theorem Duo.hsub2 (t : DT) (D : Duo) (H : Hp) : HSub (D.seg t :: H) (D.hp t ++ H) := hsub_flat (by rw [List.flatten_append]; rfl)
theorem Duo.flat (t : DT) (D : Duo) (H : Hp) : (D.hp t ++ H).flatten = (D.seg t :: H).flatten := by rw [List.flatten_append]; rfl
theorem Duo.pick (t : DT) (D : Duo) {H Y : Hp} (is : List Nat) (e : pick is (D.hp t ++ H) = Y) : Y.flatten.Perm (D.seg t :: H).flatten := by
  subst e
  rw [← Duo.flat]
  exact (pick_perm is _).flatten.symm
theorem HSub.under {A B : Hp} (S : List (Nat × Obj)) (h : B.flatten.Perm A.flatten) : HSub (S :: A) (S :: B) := .of_perm (by simpa using h.append_left S)
theorem Duo.view (t : DT) {D : Duo} (h : D.ok t) (i : Bool) (H : Hp) : ∃ L R X, GOk t (D.pow i) L (D.dev i) R ∧ (opn t (D.dev i) (D.pow i) (L ++ R) X).flatten.Perm (D.seg t :: H).flatten ∧
    ∀ c d' p' L' R', GOk t p' L' d' R' → d'.b = (D.dev i).b → p'.b = (D.pow i).b → Mv c (D.pow i).a L L' → Mv c (D.pow i).a R R' →
      ∃ D' : Duo, D'.ok t ∧ D'.x.b = D.x.b ∧ D'.y.b = D.y.b ∧ D'.p.b = D.p.b ∧ D'.da = ((D.da.oth i c).setd i d'.a).setp i p'.a ∧ HSub (D'.seg t :: H) (opn t d' p' (L' ++ R') X) := by
  obtain ⟨x, y, p, q⟩ := D
  cases q with
  | none =>
    have hG : GOk t p [] x [y] := h
    cases i with
    | false =>
      refine ⟨[], [y], H, hG, Duo.pick t _ [] rfl, ?_⟩
      intro c d' p' L' R' g1 g2 g3 g4 g5
      obtain rfl := g4.nil
      obtain ⟨y', rfl, e1, e2, e3⟩ := g5.one
      refine ⟨⟨d', y', p', none⟩, g1, g2, e1, g3, ?_, (Duo.hsub2 t _ H).trans (hsub_pick [] rfl)⟩
      cases c <;> simp_all [Duo.da, Da.oth, Da.setd, Da.setp, Da.dev, Da.pow, Duo.pow]
    | true =>
      refine ⟨[x], [], H, hG.next, Duo.pick t _ [5, 5, 5, 3, 3] rfl, ?_⟩
      intro c d' p' L' R' g1 g2 g3 g4 g5
      obtain rfl := g5.nil
      obtain ⟨y', rfl, e1, e2, e3⟩ := g4.one
      refine ⟨⟨y', d', p', none⟩, g1.back, e1, g2, g3, ?_, (Duo.hsub2 t _ H).trans (hsub_pick [5, 5, 5, 3, 3] rfl)⟩
      cases c <;> simp_all [Duo.da, Da.oth, Da.setd, Da.setp, Da.dev, Da.pow, Duo.pow]
  | some q =>
    obtain ⟨h1, h2⟩ := h
    simp only at h1 h2
    cases i with
    | false =>
      refine ⟨[], [], y.o t :: y.t t :: y.q t :: q.o t :: q.q t :: H, h1, Duo.pick t _ [] rfl, ?_⟩
      intro c d' p' L' R' g1 g2 g3 g4 g5
      obtain rfl := g4.nil
      obtain rfl := g5.nil
      exact ⟨⟨d', y, p', some q⟩, ⟨g1, h2⟩, g2, rfl, g3, by cases c <;> rfl, (Duo.hsub2 t _ H).trans (hsub_pick [] rfl)⟩
    | true =>
      refine ⟨[], [], x.o t :: x.t t :: x.q t :: p.o t :: p.q t :: H, h2, Duo.pick t _ [5, 5, 5, 5, 5] rfl, ?_⟩
      intro c d' p' L' R' g1 g2 g3 g4 g5
      obtain rfl := g4.nil
      obtain rfl := g5.nil
      exact ⟨⟨x, d', p, some p'⟩, ⟨h1, g1⟩, rfl, g2, rfl, by cases c <;> rfl, (Duo.hsub2 t _ H).trans (hsub_pick [5, 5, 5, 5, 5] rfl)⟩
/-- Two devices, at such blocks, of such an abstract state. -/
structure Two (t : DT) (D : Duo) (A : Da) (bx bys bp : Nat) : Prop where
  ok : D.ok t
  da : D.da = A
  x : D.x.b = bx
  y : D.y.b = bys
  p : D.p.b = bp
abbrev sel (bx bys : Nat) (i : Bool) : Nat := if i then bys else bx
theorem Two.b {t : DT} {D : Duo} {A : Da} {bx bys bp : Nat} (h : Two t D A bx bys bp) (i : Bool) : (D.dev i).b = sel bx bys i := by
  cases i
  · exact h.x
  · exact h.y
theorem Two.dev {t : DT} {D : Duo} {A : Da} {bx bys bp : Nat} (h : Two t D A bx bys bp) (i : Bool) : (D.dev i).a = A.dev i := by rw [D.da_dev, h.da]
theorem Two.pow {t : DT} {D : Duo} {A : Da} {bx bys bp : Nat} (h : Two t D A bx bys bp) (i : Bool) : (D.pow i).a = A.pow i := by rw [D.da_pow, h.da]
theorem Two.aok {t : DT} {D : Duo} {A : Da} {bx bys bp : Nat} (h : Two t D A bx bys bp) (i : Bool) : (A.dev i).ok ∧ (A.dev i).Q.length ≤ 100000 := by
  obtain ⟨L, R, X, hG, _⟩ := Duo.view t h.ok i []
  rw [← h.dev i]
  exact ⟨hG.dok.1, hG.dok.2.2⟩
/-- One view for all calls: what a call does to a device in hand it does to the two. -/
theorem Two.view {t : DT} {D : Duo} {A : Da} {bx bys bp : Nat} (h : Two t D A bx bys bp) (i : Bool) (H : Hp) : ∃ d p L R X, GOk t p L d R ∧ d.b = sel bx bys i ∧ d.a = A.dev i ∧ p.a = A.pow i ∧ (i = false → p.b = bp) ∧ (opn t d p (L ++ R) X).flatten.Perm (D.seg t :: H).flatten ∧
    ∀ c d' p' L' R', GOk t p' L' d' R' → d'.b = sel bx bys i → p'.b = p.b → Mv c (A.pow i) L L' → Mv c (A.pow i) R R' →
      ∃ D' : Duo, Two t D' (((A.oth i c).setd i d'.a).setp i p'.a) bx bys bp ∧ HSub (D'.seg t :: H) (opn t d' p' (L' ++ R') X) := by
  obtain ⟨L, R, X, hG, h1, h3⟩ := Duo.view t h.ok i H
  refine ⟨D.dev i, D.pow i, L, R, X, hG, h.b i, h.dev i, h.pow i, fun e => by subst e; exact h.p, h1, ?_⟩
  intro c d' p' L' R' g1 g2 g3 g4 g5
  obtain ⟨D', k1, k2, k3, k4, k5, k6⟩ := h3 c d' p' L' R' g1 (g2.trans (h.b i).symm) g3 (h.pow i ▸ g4) (h.pow i ▸ g5)
  exact ⟨D', ⟨k1, by rw [k5, h.da], k2.trans h.x, k3.trans h.y, k4.trans h.p⟩, k6⟩
theorem Two.to {t : DT} {D : Duo} {A B : Da} {bx bys bp : Nat} (h : Two t D A bx bys bp) (e : A = B) : Two t D B bx bys bp := e ▸ h
theorem Da.oth_f (A : Da) (i : Bool) : A.oth i false = A := rfl
theorem Da.setd_pow (A : Da) (i j : Bool) (x : Ab) : (A.setd i x).pow j = A.pow j := by cases i <;> cases j <;> rfl
theorem Da.setd_setp (A : Da) (i : Bool) (x : Ab) : (A.setd i x).setp i (A.pow i) = A.setd i x := by
  have := Da.setp_self (A.setd i x) i
  rwa [Da.setd_pow] at this
theorem Ab.cut_many (a : Ab) : a.cut.Q.length ≤ a.Q.length := by unfold Ab.cut; split <;> simp
theorem Ab.step_many (a : Ab) (q : Pa) : (a.step q).Q.length ≤ a.Q.length := by unfold Ab.step; split; exact a.cut_many; exact Nat.le_refl _
theorem Ab.flush_many (a : Ab) : a.flush.Q.length ≤ a.Q.length := by unfold Ab.flush; split <;> simp
theorem writeA_many (a : Ab) (q : Pa) (n : Int) (s : Sec) : (writeA a q n s).Q.length ≤ a.Q.length + 1 := by
  unfold writeA; split
  · refine Nat.le_trans (Ab.step_many _ _) ?_; simp [Ab.push]
  · omega
theorem flushA_many (a : Ab) (q : Pa) : (flushA a q).Q.length ≤ a.Q.length := by
  unfold flushA; split
  · exact Nat.le_refl _
  · split
    · exact a.cut_many
    · exact a.flush_many
theorem Da.setp_dev (A : Da) (i j : Bool) (x : Pa) : (A.setp i x).dev j = A.dev j := by obtain ⟨a, b, p, q⟩ := A; cases i <;> cases j <;> cases q <;> rfl
theorem Da.setd_same (A : Da) (i : Bool) (x : Ab) : (A.setd i x).dev i = x := by cases i <;> rfl
theorem Da.setd_other (A : Da) {i j : Bool} (x : Ab) (h : j ≠ i) : (A.setd i x).dev j = A.dev j := by cases i <;> cases j <;> first | rfl | exact absurd rfl h
theorem Da.oth_many (A : Da) (i c j : Bool) : ((A.oth i c).dev j).Q.length ≤ (A.dev j).Q.length := by
  unfold Da.oth; split
  · by_cases h : j = !i
    · subst h; rw [Da.setd_same]; exact Ab.step_many _ _
    · rw [Da.setd_other _ _ h]; exact Nat.le_refl _
  · exact Nat.le_refl _
theorem Da.write_many (A : Da) (i : Bool) (n : Int) (s : Sec) (j : Bool) : ((A.write i n s).dev j).Q.length ≤ (A.dev j).Q.length + 1 := by
  unfold Da.write
  rw [Da.setp_dev]
  by_cases h : j = i
  · subst h; rw [Da.setd_same]; exact writeA_many _ _ _ _
  · rw [Da.setd_other _ _ h]; exact Nat.le_succ_of_le (Da.oth_many _ _ _ _)
theorem Da.flush_many (A : Da) (i j : Bool) : ((A.flush i).dev j).Q.length ≤ (A.dev j).Q.length := by
  unfold Da.flush
  rw [Da.setp_dev]
  by_cases h : j = i
  · subst h; rw [Da.setd_same]; exact flushA_many _ _
  · rw [Da.setd_other _ _ h]; exact Da.oth_many _ _ _ _
/-- Power that doesn't fail. -/
def Da.calm (A : Da) : Prop := A.p.off = false ∧ A.p.fails = false ∧ ∀ q, A.q = some q → q.off = false ∧ q.fails = false
theorem Da.calm_pow {A : Da} (h : A.calm) (i : Bool) : (A.pow i).off = false ∧ (A.pow i).fails = false := by
  obtain ⟨a, b, p, q⟩ := A
  obtain ⟨h1, h2, h3⟩ := h
  cases i
  · exact ⟨h1, h2⟩
  · cases q
    · exact ⟨h1, h2⟩
    · exact h3 _ rfl
theorem Pa.calm_step {q : Pa} (h : q.fails = false) : q.step = q ∧ q.falls = false := by simp [Pa.step, Pa.falls, h]
theorem Da.calm_setd {A : Da} (h : A.calm) (i : Bool) (x : Ab) : (A.setd i x).calm := by cases i <;> exact h
theorem Da.oth_calm {A : Da} (h : A.calm) (i c : Bool) : A.oth i c = A := by
  unfold Da.oth
  split
  · rw [show ((A.dev (!i)).step (A.pow i)) = A.dev (!i) from by simp [Ab.step, (Pa.calm_step (Da.calm_pow h i).2).2], Da.setd_self]
  · rfl
theorem Da.setp_eq {A B : Da} {i : Bool} {x : Pa} (h : B.pow i = x) (hq : B = A) : A.setp i x = A := by subst hq; subst h; exact Da.setp_self _ _
theorem Da.write_calm {A : Da} (h : A.calm) (i : Bool) (n : Int) (s : Sec) : A.write i n s = (if !(A.dev i).out && (A.dev i).has n then A.setd i ((A.dev i).push n.toNat s) else A) ∧ A.wE i n = (if (A.dev i).out then 13 else if (A.dev i).has n then 0 else 2) := by
  obtain ⟨h1, h2⟩ := Da.calm_pow h i
  obtain ⟨h3, h4⟩ := Pa.calm_step h2
  constructor
  · unfold Da.write
    rw [Da.oth_calm h]
    have e : writeP (A.dev i) (A.pow i) n = A.pow i := by unfold writeP; split <;> simp [h3]
    rw [e, Da.setd_setp]
    unfold writeA wgo Ab.down
    rw [h1, Bool.or_false]
    split
    · simp [Ab.step, h4]
    · exact Da.setd_self _ _
  · unfold Da.wE writeE Ab.down
    rw [h1, Bool.or_false, h4]
    simp
theorem Da.flush_calm {A : Da} (h : A.calm) (i : Bool) : A.flush i = (if (A.dev i).out then A else A.setd i (A.dev i).flush) ∧ A.fE i = (if (A.dev i).out then 13 else 0) := by
  obtain ⟨h1, h2⟩ := Da.calm_pow h i
  obtain ⟨h3, h4⟩ := Pa.calm_step h2
  constructor
  · unfold Da.flush
    rw [Da.oth_calm h]
    have e : flushP (A.dev i) (A.pow i) = A.pow i := by unfold flushP; split <;> simp [h3]
    rw [e, Da.setd_setp]
    unfold flushA Ab.down
    rw [h1, Bool.or_false, h4]
    split
    · exact Da.setd_self _ _
    · simp
  · unfold Da.fE flushE Ab.down
    rw [h1, Bool.or_false, h4]
    simp
theorem Da.read_calm {A : Da} (h : A.calm) (i : Bool) (n : Int) : A.rS i n = (if (A.dev i).out then secOf 0 else if (A.dev i).has n then (A.dev i).read n.toNat else secOf 0) ∧ A.rE i n = (if (A.dev i).out then 13 else if (A.dev i).has n then 0 else 2) := by
  obtain ⟨h1, h2⟩ := Da.calm_pow h i
  unfold Da.rS Da.rE readS readE Ab.down
  rw [h1, Bool.or_false]
  exact ⟨rfl, rfl⟩
end Go.Sl

/- walks (own work; the walks' lines by a program of this repo). -/
set_option linter.unusedVariables false
set_option linter.unusedSimpArgs false
set_option maxRecDepth 20000
namespace Go.Proofs.Ytjjiclgbdenkkaa
open Go.Sl
attribute [local irreducible] BodyQ WpC WpL WpS WpH OpW FnS


theorem write_d {w0 : World} {H : Hp} {D : Duo} {A : Da} {bx bys bp : Nat} (h : Two dt D A bx bys bp) (i : Bool) (n : Int) (s : Sec) (hs : s.length = 128) (hQ : (A.dev i).Q.length < 100000) : FnS Try.prog w0 62 #[ptr (sel bx bys i), .int .i64 n, .agg (bs s).toArray] (D.seg dt :: H) (fun e H' => e = .returned (.int .i64 (A.wE i n)) ∧ ∃ D', Two dt D' (A.write i n s) bx bys bp ∧ H' = D'.seg dt :: H) := by
  obtain ⟨d, p, L, R, X, hG, hb, hd, hp, hpb, pm, s3⟩ := h.view i H
  have s1 := HSub.of_perm pm.symm
  have s2 := HSub.of_perm pm
  refine ((write_l hG hb n s hs (by rw [hd]; exact hQ)).sub s1).weak ?_
  rintro _ _ ⟨rfl, d', p', L', R', h1, h2, h3, h4, h5, h6, h7, rfl⟩
  rw [hd, hp] at h3 h5 h6 h7
  obtain ⟨D', k1, k2⟩ := s3 _ d' p' L' R' h1 h2 h4 h6 h7
  rw [h3, h5] at k1
  exact ⟨_, k2, by rw [hd, hp]; rfl, D', k1, rfl⟩

theorem flush_d {w0 : World} {H : Hp} {D : Duo} {A : Da} {bx bys bp : Nat} (h : Two dt D A bx bys bp) (i : Bool) : FnS Try.prog w0 86 #[ptr (sel bx bys i)] (D.seg dt :: H) (fun e H' => e = .returned (.int .i64 (A.fE i)) ∧ ∃ D', Two dt D' (A.flush i) bx bys bp ∧ H' = D'.seg dt :: H) := by
  obtain ⟨d, p, L, R, X, hG, hb, hd, hp, hpb, pm, s3⟩ := h.view i H
  have s1 := HSub.of_perm pm.symm
  have s2 := HSub.of_perm pm
  refine ((flush_l hG hb).sub s1).weak ?_
  rintro _ _ ⟨rfl, d', p', L', R', h1, h2, h3, h4, h5, h6, h7, rfl⟩
  rw [hd, hp] at h3 h5 h6 h7
  obtain ⟨D', k1, k2⟩ := s3 _ d' p' L' R' h1 h2 h4 h6 h7
  rw [h3, h5] at k1
  exact ⟨_, k2, by rw [hd, hp]; rfl, D', k1, rfl⟩

theorem read_d {w0 : World} {H : Hp} {D : Duo} {A : Da} {bx bys bp : Nat} (h : Two dt D A bx bys bp) (i : Bool) (n : Int) : FnS Try.prog w0 60 #[ptr (sel bx bys i), .int .i64 n] (D.seg dt :: H) (fun e H' => e = .returned (.tuple #[.agg (bs (A.rS i n)).toArray, .int .i64 (A.rE i n)]) ∧ H' = D.seg dt :: H) := by
  obtain ⟨d, p, L, R, X, hG, hb, hd, hp, hpb, pm, s3⟩ := h.view i H
  have s1 := HSub.of_perm pm.symm
  have s2 := HSub.of_perm pm
  refine ((read_l hG hb n).sub s1).weak ?_
  rintro _ _ ⟨rfl, rfl⟩
  exact ⟨_, s2, by rw [hd, hp]; rfl, rfl⟩

theorem tear_d {w0 : World} {H : Hp} {D : Duo} {A : Da} {bx bys bp : Nat} (h : Two dt D A bx bys bp) (i : Bool) (k m : Int) : FnS Try.prog w0 28 #[ptr (sel bx bys i), .int .i64 k, .int .i64 m] (D.seg dt :: H) (fun e H' => e = .returned (.tuple #[]) ∧ ∃ D', Two dt D' (A.setd i ((A.dev i).tear k m)) bx bys bp ∧ H' = D'.seg dt :: H) := by
  obtain ⟨d, p, L, R, X, hG, hb, hd, hp, hpb, pm, s3⟩ := h.view i H
  have s1 := HSub.of_perm pm.symm
  have s2 := HSub.of_perm pm
  refine ((tear_l hG hb k m).sub s1).weak ?_
  rintro _ _ ⟨rfl, d', h1, h2, h3, rfl⟩
  obtain ⟨D', k1, k2⟩ := s3 false d' p L R h1 h2 rfl (Mv.same _ _) (Mv.same _ _)
  rw [h3, hd, hp, Da.oth_f, Da.setd_setp] at k1
  exact ⟨_, k2, rfl, D', k1, rfl⟩

theorem out_d {w0 : World} {H : Hp} {D : Duo} {A : Da} {bx bys bp : Nat} (h : Two dt D A bx bys bp) (i : Bool) (on : Bool) : FnS Try.prog w0 33 #[ptr (sel bx bys i), .bool on] (D.seg dt :: H) (fun e H' => e = .returned (.tuple #[]) ∧ ∃ D', Two dt D' (A.setd i ((A.dev i).outs on)) bx bys bp ∧ H' = D'.seg dt :: H) := by
  obtain ⟨d, p, L, R, X, hG, hb, hd, hp, hpb, pm, s3⟩ := h.view i H
  have s1 := HSub.of_perm pm.symm
  have s2 := HSub.of_perm pm
  refine ((out_l hG hb on).sub s1).weak ?_
  rintro _ _ ⟨rfl, d', h1, h2, h3, rfl⟩
  obtain ⟨D', k1, k2⟩ := s3 false d' p L R h1 h2 rfl (Mv.same _ _) (Mv.same _ _)
  rw [h3, hd, hp, Da.oth_f, Da.setd_setp] at k1
  exact ⟨_, k2, rfl, D', k1, rfl⟩

theorem rot_d {w0 : World} {H : Hp} {D : Duo} {A : Da} {bx bys bp : Nat} (h : Two dt D A bx bys bp) (i : Bool) (n j : Int) (m : UInt8) : FnS Try.prog w0 34 #[ptr (sel bx bys i), .int .i64 n, .int .i64 j, .int .u8 (m.toNat : Int)] (D.seg dt :: H) (fun e H' => e = .returned (.bool ((A.dev i).rotE n j)) ∧ ∃ D', Two dt D' (A.setd i ((A.dev i).rots n j m)) bx bys bp ∧ H' = D'.seg dt :: H) := by
  obtain ⟨d, p, L, R, X, hG, hb, hd, hp, hpb, pm, s3⟩ := h.view i H
  have s1 := HSub.of_perm pm.symm
  have s2 := HSub.of_perm pm
  refine ((rot_l hG hb n j m).sub s1).weak ?_
  rintro _ _ ⟨rfl, d', h1, h2, h3, rfl⟩
  obtain ⟨D', k1, k2⟩ := s3 false d' p L R h1 h2 rfl (Mv.same _ _) (Mv.same _ _)
  rw [h3, hd, hp, Da.oth_f, Da.setd_setp] at k1
  exact ⟨_, k2, by rw [hd], D', k1, rfl⟩

theorem fail_d {w0 : World} {H : Hp} {D : Duo} {A : Da} {bx bys bp : Nat} (h : Two dt D A bx bys bp) (n : Int) (hn : n ≤ 9223372036854775807) : FnS Try.prog w0 29 #[ptr bp, .int .i64 n] (D.seg dt :: H) (fun e H' => e = .returned (.tuple #[]) ∧ ∃ D', Two dt D' ({ A with p := A.p.fail n }) bx bys bp ∧ H' = D'.seg dt :: H) := by
  obtain ⟨d, p, L, R, X, hG, hb, hd, hp, hpb, pm, s3⟩ := h.view false H
  have s1 := HSub.of_perm pm.symm
  have s2 := HSub.of_perm pm
  refine ((fail_l hG (hpb rfl) n hn).sub s1).weak ?_
  rintro _ _ ⟨rfl, p', h1, h2, h3, rfl⟩
  obtain ⟨D', k1, k2⟩ := s3 false d p' L R h1 hb (h2.trans (hpb rfl).symm) (Mv.same _ _) (Mv.same _ _)
  rw [h3, hd, hp, Da.oth_f, Da.setd_self] at k1
  exact ⟨_, k2, rfl, D', k1, rfl⟩

theorem waiting_d {w0 : World} {H : Hp} {D : Duo} {A : Da} {bx bys bp : Nat} (h : Two dt D A bx bys bp) (i : Bool) : FnS Try.prog w0 44 #[ptr (sel bx bys i)] (D.seg dt :: H) (fun e H' => e = .returned (.int .i64 ((A.dev i).Q.length : Int)) ∧ H' = D.seg dt :: H) := by
  obtain ⟨d, p, L, R, X, hG, hb, hd, hp, hpb, pm, s3⟩ := h.view i H
  have s1 := HSub.of_perm pm.symm
  have s2 := HSub.of_perm pm
  refine ((waiting_l hb hG.dok (sees 0 0 rfl)).sub s1).weak ?_
  rintro _ _ ⟨rfl, rfl⟩
  exact ⟨_, s2, by rw [hd], rfl⟩

theorem len_d {w0 : World} {H : Hp} {D : Duo} {A : Da} {bx bys bp : Nat} (h : Two dt D A bx bys bp) (i : Bool) : FnS Try.prog w0 52 #[ptr (sel bx bys i)] (D.seg dt :: H) (fun e H' => e = .returned (.int .i64 ((A.dev i).S.length : Int)) ∧ H' = D.seg dt :: H) := by
  obtain ⟨d, p, L, R, X, hG, hb, hd, hp, hpb, pm, s3⟩ := h.view i H
  have s1 := HSub.of_perm pm.symm
  have s2 := HSub.of_perm pm
  refine ((len_l hb (sees 0 0 rfl)).sub s1).weak ?_
  rintro _ _ ⟨rfl, rfl⟩
  exact ⟨_, s2, by rw [hd], rfl⟩

theorem dump_d {w0 : World} {H : Hp} {D : Duo} {A : Da} {bx bys bp : Nat} (h : Two dt D A bx bys bp) (i : Bool) : FnS Try.prog w0 30 #[ptr (sel bx bys i)] (D.seg dt :: H) (fun e H' => ∃ g, slOk 128 g (A.dev i).S.length (bs (A.dev i).S.flatten) ∧ e = .returned (slV g (A.dev i).S.length) ∧ H' = slSeg 32 g (bs (A.dev i).S.flatten) :: D.seg dt :: H) := by
  obtain ⟨d, p, L, R, X, hG, hb, hd, hp, hpb, pm, s3⟩ := h.view i H
  have s1 := HSub.of_perm pm.symm
  have s2 := HSub.of_perm pm
  refine ((dump_l hb hG.dok.1 (sees 0 0 rfl) (sees 1 0 rfl)).sub s1).weak ?_
  rintro _ _ ⟨g, h1, rfl, rfl⟩
  rw [hd] at h1 ⊢
  exact ⟨_, HSub.under _ pm, g, h1, rfl, rfl⟩

theorem newtwo_d {w0 : World} {H : Hp} {d : Dv} {p : Pw} {b bx : Nat} (hG : GOk dt p [] d []) (hb : p.b = b) (hx : d.b = bx) (n : Int) : FnS Try.prog w0 16 #[.int .i64 n, ptr b] (d.o dt :: d.t dt :: d.q dt :: p.o dt :: p.q dt :: H) (fun e H' => ∃ bys D', Two dt D' ⟨d.a, Ab.new (szOf n), p.a, none⟩ bx bys b ∧ e = .returned (ptr bys) ∧ H' = D'.seg dt :: H) := by
  refine ((new_l2 hG hb n).sub (hsub_pick [3, 3] rfl)).weak ?_
  rintro _ _ ⟨y, p', h1, h2, h3, h4, rfl, rfl⟩
  exact ⟨_, (Duo.hsub2 dt ⟨d, y, p', none⟩ H).trans (hsub_pick [5, 5, 5, 3, 3] rfl), y.b, ⟨d, y, p', none⟩, ⟨h1, by simp only [Duo.da, h3, h4, Option.map_none], hx, rfl, h2⟩, rfl, rfl⟩

theorem newnil_d {w0 : World} {H : Hp} {d : Dv} {p : Pw} {bx : Nat} (hG : GOk dt p [] d []) (hx : d.b = bx) (n : Int) : FnS Try.prog w0 16 #[.int .i64 n, .pointer none] (d.o dt :: d.t dt :: d.q dt :: p.o dt :: p.q dt :: H) (fun e H' => ∃ bys D', Two dt D' ⟨d.a, Ab.new (szOf n), p.a, some ⟨false, 0, false⟩⟩ bx bys p.b ∧ e = .returned (ptr bys) ∧ H' = D'.seg dt :: H) := by
  refine (new_ln n).weak ?_
  rintro _ _ ⟨y, q, h1, h2, h3, rfl, rfl⟩
  exact ⟨_, (Duo.hsub2 dt ⟨d, y, p, some q⟩ H).trans (hsub_pick [5, 5, 5, 5, 5] rfl), y.b, ⟨d, y, p, some q⟩, ⟨⟨hG, h1⟩, by simp only [Duo.da, h2, h3, Option.map_some], hx, rfl, rfl⟩, rfl, rfl⟩

end Go.Proofs.Ytjjiclgbdenkkaa

/- Loops round by round (own work). -/
set_option linter.unusedVariables false
namespace Go.Sl
variable {P : Program} {n : FN} {w0 : World} {Q : Post} {E : Env} {H : Hp}
/-- Within a loop, ahead of a round. -/
def WpIn (P : Program) (n : FN) (w0 : World) (c : Code) (Q : Post) (E : Env) (H : Hp) : Prop := ∀ a w, FrOk n E a → St w0 w H → ∀ b k cs,
  ∃ e a' w', lift n w0 Q e a' w' ∧ Arrives P (lone (b.at a (.code c :: .inLoop c :: k)) cs w) b k cs e a' w'
theorem C_loopIn {c : Code} (h : WpIn P n w0 c Q E H) : WpC P n w0 (.loop c) Q E H := by
  intro a w ha hw b k cs
  obtain ⟨e, a', w', hq, harr⟩ := h a w ha hw b k cs
  exact ⟨e, a', w', hq, .of_steps (.one step_loop) harr⟩
theorem In_round {c : Code} (h : WpC P n w0 c (thenQ (fun E' H' => WpIn P n w0 c Q E' H') Q) E H) : WpIn P n w0 c Q E H := by
  intro a w ha hw b k cs
  obtain ⟨e, a₁, w₁, hq, harr⟩ := h a w ha hw b (.inLoop c :: k) cs
  obtain ⟨E₁, H₁, f1, s1, q⟩ := hq
  cases e with
  | normal =>
    obtain ⟨e₂, a₂, w₂, hq₂, harr₂⟩ := q a₁ w₁ (f1.2 rfl) s1 b k cs
    exact ⟨e₂, a₂, w₂, hq₂, .of_steps (Steps.trans harr (.one step_inLoop)) harr₂⟩
  | exit id => exact ⟨_, a₁, w₁, ⟨E₁, H₁, f1, s1, q⟩, .pass (x := .inLoop c) rfl (fun _ _ => .inl (by simp)) harr⟩
  | goto l => exact ⟨_, a₁, w₁, ⟨E₁, H₁, f1, s1, q⟩, .pass (x := .inLoop c) rfl (fun _ _ => .inl (by simp)) harr⟩
  | ret => exact ⟨_, a₁, w₁, ⟨E₁, H₁, f1, s1, q⟩, .pass (x := .inLoop c) rfl (fun _ _ => .inl (by simp)) harr⟩
  | panic ch => exact ⟨_, a₁, w₁, ⟨E₁, H₁, f1, s1, q⟩, .pass (x := .inLoop c) rfl (fun _ _ => .inl (by simp)) harr⟩
  | outgrown => exact ⟨_, a₁, w₁, ⟨E₁, H₁, f1, s1, q⟩, .pass (x := .inLoop c) rfl (fun _ _ => .inl (by simp)) harr⟩
/-- Any of these loud operations may come up. -/
def HAll (P : Program) (n : FN) (w0 : World) (ops : List Oper) (Q : Post) (HS : Hp) (fuel : Nat) (listed : List Bool) (E : Env) (H : Hp) : List Nat → Prop
  | [] => True
  | k :: ks => (∃ o, ops[k]? = some o ∧ wE ops E o.guard = some true ∧ OpW P n w0 Q o E H (fun E' H' => HSub HS H' ∧ WpH P n w0 ops Q HS fuel (listed.set k true) E' H')) ∧ HAll P n w0 ops Q HS fuel listed E H ks
theorem HAll.mem {HS : Hp} {ops : List Oper} {fuel : Nat} {listed : List Bool} : ∀ {is : List Nat} {k : Nat}, HAll P n w0 ops Q HS fuel listed E H is → k ∈ is →
    ∃ o, ops[k]? = some o ∧ wE ops E o.guard = some true ∧ OpW P n w0 Q o E H (fun E' H' => HSub HS H' ∧ WpH P n w0 ops Q HS fuel (listed.set k true) E' H')
  | [], _, _, h => by simp at h
  | j :: is, k, h, hk => by
    rcases List.mem_cons.1 hk with rfl | h2
    · exact h.1
    · exact HAll.mem h.2 h2
theorem H_many {HS : Hp} {ops : List Oper} {fuel : Nat} {listed : List Bool} (is : List Nat) (hr : Region.ready .any ops.toArray listed.toArray = is) (hne : is ≠ []) (h : HAll P n w0 ops Q HS fuel listed E H is) :
    WpH P n w0 ops Q HS (fuel + 1) listed E H := fun a w ha hw =>
  wpAnyH_all hr hne fun k hk => by
    obtain ⟨o, hi, hg, h1⟩ := h.mem hk
    exact wpOp_of_OpW hi hg h1 ha hw
end Go.Sl

/- A mirror: what lies in memory, and the plain model (own work). -/
set_option linter.unusedVariables false
set_option linter.unusedSimpArgs false
namespace Go.Sl
section
variable {P : Program} {n : FN} {w0 : World} {Q : Post} {E E' : Env} {H H' HS : Hp} {K : Env → Hp → Prop}
variable {d : Option Nat} {ty t t2 : Nat} {ps : String} {af : Array Edge} {g : Option (Nat × Bool)} {x y c : Operand}
theorem op_weaken {o : Oper} (hs : HSub H' H) (h : OpW P n w0 Q o E H' K) : OpW P n w0 Q o E H K := fun a w ha hw next hn => h a w ha (hs w0 w hw) next hn
/-- An append to nothing. -/
theorem op_append0 {m e sz bt : Nat} {vs zl : List Value} {xv : Value} {t0 t1 : TypeId} (hx : ev E x = some (.slice none 0 0)) (hy : ev E y = some xv)
    (hsrc : Src P w0 H sz xv m vs) (hm : vs.length = m * sz) (hone : ∀ v ∈ vs, one v = true)
    (hu : P.underlying t0 = some (.slice e)) (hnx : notIntT P t1 = true) (hz : szT P e = some sz) (hb : byT P e = some bt) (hbp : 0 < bt)
    (hzl : zeroL P e = some zl) (hlz : zl.length = sz) (hbound : m * bt ≤ 140737488355328) (hd : dok d n = true)
    (k : ∀ g' : Option SlG, slOk sz g' m vs → K (put E d (slV g' m)) (slSeg e g' vs :: H)) :
    OpW P n w0 Q ⟨d, .call { callee := .builtin .append, args := [x, y].toArray, argTypes := #[t0, t1] }, ty, ps, af, g⟩ E H K := by
  refine op_weaken (H' := [] :: H) (hsub_flat rfl) ?_
  refine op_append (gs := none) (len := 0) (m := m) (xs := []) (vs := vs) 0 hx hy rfl ⟨by simp, rfl⟩ (hsrc.sub (HSub.drop _ _)) hm hone hu hnx hz hb hbp hzl hlz (by simpa using hbound) hd (fun g' hg' => ?_)
  rw [Nat.zero_add, List.nil_append] at hg' ⊢
  exact k g' hg'
end
structure Mi where
  b : Nat
  r0 : Nat
  r1 : Nat
  bx : Nat
  bys : Nat
  n : Nat
  gv : Value
  k0 : List (Int × Nat)
  c0 : Nat
  k1 : List (Int × Nat)
  c1 : Nat
abbrev Mi.cells (m : Mi) : List Value := [ptr m.bx, .map (some m.r0), ptr m.bys, .map (some m.r1), .int .i64 (m.n : Int), m.gv]
abbrev Mi.seg (t : Nat) (m : Mi) : List (Nat × Obj) := [(m.b, .cells m.cells.toArray t), (m.r0, mapO m.k0 m.c0), (m.r1, mapO m.k1 m.c1)]
def Mi.has (m : Mi) (n : Int) : Bool := decide (0 ≤ n) && decide (n < m.n)
/-- Is a device there? -/
def thr (A : Da) (i : Bool) : Bool := !(A.dev i).down (A.pow i)
theorem rE_thr (A : Da) (i : Bool) (n : Int) : decide (A.rE i n = 13) = !thr A i := by
  unfold Da.rE readE thr
  cases h : (A.dev i).down (A.pow i)
  · simp only [Bool.false_eq_true, if_false]
    split <;> simp
  · simp
theorem rE_neq (A : Da) (i : Bool) (n : Int) : (!decide (A.rE i n = 13)) = thr A i := by rw [rE_thr, Bool.not_not]
def pres (p q : Bool) : List Int := (if p then [0] else []) ++ (if q then [1] else [])
def intl (l : List Int) : List Value := l.map (Value.int .i64)
/-- A function that tells which sectors may stand where. -/
def GoodAt (P : Program) (w0 : World) (H : Hp) (gv : Value) (p : Int → Sec → Bool) : Prop :=
  (gv = .nilFunc ∧ p = fun _ _ => false) ∨ ∃ f cap, gv = .func (.func f) #[] (List.toArray cap) ∧ (∀ args w, (callFunc f args).run P w = .ok (.enter f args) w) ∧
    ∀ H' n s, HSub H H' → s.length = 128 → FnS P w0 f ([Value.int .i64 n, Value.agg (bs s).toArray] ++ cap).toArray H' (fun e H2 => e = .returned (.bool (p n s)) ∧ H2 = H')
theorem GoodAt.sub {P : Program} {w0 : World} {H H' : Hp} {gv : Value} {p : Int → Sec → Bool} (h : GoodAt P w0 H gv p) (hs : HSub H H') : GoodAt P w0 H' gv p := by
  rcases h with h | ⟨f, cap, h1, h2, h3⟩
  · exact .inl h
  · exact .inr ⟨f, cap, h1, h2, fun H2 n s hs2 hl => h3 H2 n s (hs.trans hs2) hl⟩
/-- Does the side i tell what stands at n? -/
def okAt (A : Da) (i : Bool) (ks : List (Int × Nat)) (p : Int → Sec → Bool) (n : Int) : Bool := decide (A.rE i n = 0) && !kHas ks n && p n (A.rS i n)
def mrE (m : Mi) (A : Da) (p : Int → Sec → Bool) (n : Int) : Int :=
  if m.has n then (if thr A false || thr A true then (if thr A false && okAt A false m.k0 p n then 0 else if thr A true && okAt A true m.k1 p n then 0 else 9) else 13) else 2
def mrS (m : Mi) (A : Da) (p : Int → Sec → Bool) (n : Int) : Sec :=
  if m.has n then (if thr A false && okAt A false m.k0 p n then A.rS false n else if thr A true && okAt A true m.k1 p n then A.rS true n else secOf 0) else secOf 0
theorem rS_len {A : Da} (i : Bool) {n : Int} (h : ∀ i, (A.dev i).ok) : (A.rS i n).length = 128 := readS_len (h i)
theorem Two.oks {t : DT} {D : Duo} {A : Da} {bx bys bp : Nat} (h : Two t D A bx bys bp) (i : Bool) : (A.dev i).ok := (h.aok i).1
/-! ### Writes to both -/
def pd (A : Da) (i : Bool) (ask : Da → Bool → Bool) (n : Int) : Bool := thr A i && (!ask A i || decide (A.wE i n = 0))
def pA (A : Da) (i : Bool) (ask : Da → Bool → Bool) (n : Int) (s : Sec) : Da := if thr A i && ask A i then A.write i n s else A
def putA (A : Da) (ask : Da → Bool → Bool) (n : Int) (s : Sec) : Da := pA (pA A false ask n s) true ask n s
def putD (A : Da) (ask : Da → Bool → Bool) (n : Int) (s : Sec) : Bool → Bool
  | false => pd A false ask n
  | true => pd (pA A false ask n s) true ask n
def Mi.mark (m : Mi) (n : Int) (x y : Bool) : Mi := { m with
  k0 := if x then kDel m.k0 n else kPut m.k0 m.c0 n, c0 := if x then m.c0 else kClk m.k0 m.c0 n
  k1 := if y then kDel m.k1 n else kPut m.k1 m.c1 n, c1 := if y then m.c1 else kClk m.k1 m.c1 n }
def putm (m : Mi) (A : Da) (ask : Da → Bool → Bool) (n : Int) (s : Sec) : Mi := if m.has n && (putD A ask n s false || putD A ask n s true) then m.mark n (putD A ask n s false) (putD A ask n s true) else m
def putE (m : Mi) (A : Da) (ask : Da → Bool → Bool) (n : Int) (s : Sec) : Int := if m.has n then (if putD A ask n s false || putD A ask n s true then 0 else 13) else 2
def putDa (m : Mi) (A : Da) (ask : Da → Bool → Bool) (n : Int) (s : Sec) : Da := if m.has n then putA A ask n s else A
/-- A function that tells whether a side is asked for it. -/
def AskAt (P : Program) (t : DT) (tm : Nat) (w0 : World) (H : Hp) (m : Mi) (bp : Nat) (fa : Nat) (cap : List Value) (ask : Da → Bool → Bool) : Prop :=
  (∀ args w, (callFunc fa args).run P w = .ok (.enter fa args) w) ∧ ∀ (i : Bool) D A X, Two t D A m.bx m.bys bp → HSub H X →
    FnS P w0 fa ([Value.pointer (some ⟨m.b, if i then 2 else 0, none⟩)] ++ cap).toArray (m.seg tm :: D.seg t :: X) (fun e H2 => e = .returned (.bool (ask A i)) ∧ H2 = m.seg tm :: D.seg t :: X)
theorem AskAt.sub {P : Program} {t : DT} {tm : Nat} {w0 : World} {H H' : Hp} {m : Mi} {bp fa : Nat} {cap : List Value} {ask : Da → Bool → Bool} (h : AskAt P t tm w0 H m bp fa cap ask) (hs : HSub H H') : AskAt P t tm w0 H' m bp fa cap ask :=
  ⟨h.1, fun i D A X h1 h2 => h.2 i D A X h1 (hs.trans h2)⟩
def askAll : Da → Bool → Bool := fun _ _ => true
def askNew (n : Int) (s : Sec) : Da → Bool → Bool := fun A i => !decide (A.rE i n = 0) || !decide (A.rS i n = s)
/-! ### A flush of both -/
def fl1 (q : Da × Int) (i : Bool) : Da × Int := (q.1.flush i, if q.1.fE i = 0 then q.2 else 13)
def mfl (A : Da) : Da × Int :=
  if thr A false then (if thr A true then fl1 (fl1 (A, 0) false) true else fl1 (A, 0) false) else (if thr A true then fl1 (A, 0) true else (A, 13))
theorem spl_lo {x y s : List UInt8} (hx : x.length = s.length) : spl (bs (x ++ y)) 0 (bs s) = bs (s ++ y) := by
  rw [spl_bs (by simp; omega)]
  congr 1
  simp [hx]
theorem spl_hi {x y s : List UInt8} {k : Nat} (hx : x.length = k) (hy : y.length = s.length) : spl (bs (x ++ y)) k (bs s) = bs (x ++ s) := by
  rw [spl_bs (by simp; omega)]
  congr 1
  rw [List.take_left' hx, ← List.drop_drop, List.drop_left' hx, ← hy, List.drop_length]
  simp
theorem two_lo {x y : List UInt8} {k : Nat} (hx : x.length = k) : ((bs (x ++ y)).drop 0).take k = bs x := by rw [List.drop_zero, bs_take, List.take_left' hx]
theorem two_hi {x y : List UInt8} {k : Nat} (hx : x.length = k) (hy : y.length = k) : ((bs (x ++ y)).drop k).take k = bs y := by rw [bs_drop, List.drop_left' hx, bs_take, List.take_of_length_le (by omega)]
theorem z256 : (List.replicate 2 (List.replicate 128 (Value.int .u8 0))).flatten = bs (secOf 0 ++ secOf 0) := by rw [bs_append, ← zsec]; rfl
/-! ### Heal -/
def hg0 (m : Mi) (A : Da) (p : Int → Sec → Bool) (n : Int) : Bool := !kHas m.k0 n && p n (A.rS false n)
def hg1 (m : Mi) (A : Da) (p : Int → Sec → Bool) (n : Int) : Bool := !kHas m.k1 n && p n (A.rS true n)
/-- What is done: none, or a write to a side. -/
def healTo (m : Mi) (A : Da) (p : Int → Sec → Bool) (n : Int) : Option Bool :=
  if m.has n && (thr A false && thr A true) then
    (if hg0 m A p n then (if hg1 m A p n && decide (A.rS false n = A.rS true n) then none else some true) else if hg1 m A p n then some false else none)
  else none
def healR (m : Mi) (A : Da) (p : Int → Sec → Bool) (n : Int) : Int × Int :=
  if m.has n then (if thr A false && thr A true then
    (if hg0 m A p n then (if hg1 m A p n && decide (A.rS false n = A.rS true n) then (0, 0) else (1, 0)) else if hg1 m A p n then (1, 0) else (2, 0))
  else (0, 13)) else (0, 2)
def healA (m : Mi) (A : Da) (p : Int → Sec → Bool) (n : Int) : Da := match healTo m A p n with
  | none => A
  | some i => A.write i n (A.rS (!i) n)
def healM (m : Mi) (A : Da) (p : Int → Sec → Bool) (n : Int) : Mi := match healTo m A p n with
  | none => m
  | some i => if A.wE i n = 0 then (if i then { m with k1 := kDel m.k1 n } else { m with k0 := kDel m.k0 n }) else m
/-! ### Both -/
def bothS (m : Mi) (A : Da) (p : Int → Sec → Bool) (n : Int) : List Sec :=
  if m.has n then (if thr A false && (decide (A.rE false n = 0) && p n (A.rS false n)) then [A.rS false n] else []) ++ (if thr A true && (decide (A.rE true n = 0) && p n (A.rS true n)) then [A.rS true n] else []) else []
/-! ### A new mirror -/
theorem y_minN {P : Program} {n : FN} {E : Env} {W : World → Prop} {x y : Operand} {ty : Nat} {a b : Nat} {tys : Array TypeId} (hx : ev E x = some (.int .i64 (a : Int))) (hy : ev E y = some (.int .i64 (b : Int))) :
    YV P n E W (.call { callee := .builtin .min, args := [x, y].toArray, argTypes := tys }) ty (.int .i64 ((min a b : Nat) : Int)) := by
  have h := y_min (P := P) (n := n) (W := W) (ty := ty) (tys := tys) hx hy
  rwa [show min (a : Int) (b : Int) = ((min a b : Nat) : Int) from by omega] at h
/-- What is stale of a side of which so many places were looked at. -/
def stN (j : Nat) : List (Int × Nat) := (List.range j).map fun (i : Nat) => ((i : Int), i)
theorem stN_has (j : Nat) (k : Int) : kHas (stN j) k = (decide (0 ≤ k) && decide (k < j)) := by
  unfold kHas stN
  rw [List.any_map]
  by_cases h : 0 ≤ k ∧ k < j
  · have : ((List.range j).any ((fun x : Int × Nat => x.1 == k) ∘ fun i : Nat => ((i : Int), i))) = true := by
      rw [List.any_eq_true]
      exact ⟨k.toNat, List.mem_range.2 (by omega), by simp; omega⟩
    rw [this]; simp; omega
  · have : ((List.range j).any ((fun x : Int × Nat => x.1 == k) ∘ fun i : Nat => ((i : Int), i))) = false := by
      rw [List.any_eq_false]
      intro x hx
      have := List.mem_range.1 hx
      simp; omega
    rw [this]; simp; omega
theorem stN_put (j : Nat) : kPut (stN j) j (j : Int) = stN (j + 1) ∧ kClk (stN j) j (j : Int) = j + 1 := by
  have h : kHas (stN j) (j : Int) = false := by rw [stN_has]; simp
  exact ⟨by rw [kPut, h]; simp [stN, List.range_succ], by rw [kClk, h]; simp⟩
def stale0 (t : Bool) (n : Nat) : List (Int × Nat) := if t then [] else stN n
def mnew (A : Da) (bx bys : Nat) (gv : Value) (b r0 r1 : Nat) : Mi :=
  ⟨b, r0, r1, bx, bys, min A.a.S.length A.b.S.length, gv, stale0 (thr A false) (min A.a.S.length A.b.S.length), (if thr A false then 0 else min A.a.S.length A.b.S.length), stale0 (thr A true) (min A.a.S.length A.b.S.length), (if thr A true then 0 else min A.a.S.length A.b.S.length)⟩
end Go.Sl

/- Facts of the translation's types, for the kernel (own work, by a program of this repo). -/
namespace Go.Proofs.Ytjjiclgbdenkkaa
open Go.Sl
theorem ag_105 : isAggT Try.prog 105 = some false := by kernel_rfl
theorem ag_107 : isAggT Try.prog 107 = some true := by kernel_rfl
theorem ag_24 : isAggT Try.prog 24 = some false := by kernel_rfl
theorem ag_28 : isAggT Try.prog 28 = some false := by kernel_rfl
theorem by_3 : byT Try.prog 3 = some 8 := by kernel_rfl
theorem eg_32 : Try.prog.eqGuardType Try.prog.depth 32 = false := by kernel_rfl
theorem fl_107_0 : fldT Try.prog 107 0 = some 0 := by kernel_rfl
theorem fl_107_1 : fldT Try.prog 107 1 = some 1 := by kernel_rfl
theorem fl_110_0 : fldT Try.prog 110 0 = some 0 := by kernel_rfl
theorem fl_110_1 : fldT Try.prog 110 1 = some 4 := by kernel_rfl
theorem fl_110_2 : fldT Try.prog 110 2 = some 5 := by kernel_rfl
theorem ni_118 : notIntT Try.prog 118 = true := by kernel_rfl
theorem pl_107 : placesT Try.prog 107 = some [(0, 1), (1, 1)] := by kernel_rfl
theorem pl_110 : placesT Try.prog 110 = some [(0, 4), (4, 1), (5, 1)] := by kernel_rfl
theorem sz_107 : szT Try.prog 107 = some 2 := by kernel_rfl
theorem sz_24 : szT Try.prog 24 = some 1 := by kernel_rfl
theorem zl_107 : zeroL Try.prog 107 = some ([.pointer none, .map none]) := by kernel_rfl
theorem zl_110 : zeroL Try.prog 110 = some (((List.replicate 2 (([.pointer none, .map none]))).flatten) ++ [.int .i64 0, .nilFunc]) := by kernel_rfl
theorem zl_120 : zeroL Try.prog 120 = some ((List.replicate 2 ((List.replicate 128 (.int .u8 0)))).flatten) := by kernel_rfl
theorem zl_24 : zeroL Try.prog 24 = some ([.pointer none]) := by kernel_rfl
theorem zl_3 : zeroL Try.prog 3 = some ([.int .i64 0]) := by kernel_rfl
theorem zl_62 : zeroL Try.prog 62 = some (List.replicate 2 (.bool false)) := by kernel_rfl
theorem zt_4 : zeroT Try.prog 4 = some (.bool false) := by kernel_rfl
end Go.Proofs.Ytjjiclgbdenkkaa

/- walks (own work; the walks' lines by a program of this repo). -/
set_option linter.unusedVariables false
set_option linter.unusedSimpArgs false
set_option maxRecDepth 20000
namespace Go.Proofs.Ytjjiclgbdenkkaa
open Go.Sl
attribute [local irreducible] BodyQ WpC WpL WpS WpH OpW FnS


theorem len_m {w0 : World} {H : Hp} {m : Mi} (hM : Sees (fun w => St w0 w H) m.b (.cells m.cells.toArray 110)) : FnS Try.prog w0 36 #[ptr m.b] H (fun e H' => e = .returned (.int .i64 (m.n : Int)) ∧ H' = H) := by
  refine FnS_intro (n := 9) (rs := [.tmp 2]) (vs := [ptr m.b]) Try.func36 rfl Try.ntmps36 rfl rfl ?_
  refine C_seq ?_
  refine C_region ?_
  refine L_y rfl (y_assign rfl) rfl ?_
  refine L_nil ?_
  refine C_seq ?_
  refine C_seq ?_
  refine C_region ?_
  refine L_y rfl (y_move rfl) rfl ?_
  refine L_y rfl (y_eqp rfl rfl Try.underlying26) rfl ?_
  refine L_nil ?_
  refine C_cond_f rfl ?_
  refine C_skip ?_
  refine C_seq ?_
  refine C_region ?_
  refine L_y rfl (y_move rfl) rfl ?_
  refine L_y rfl (y_nilCheck rfl) rfl ?_
  refine L_y rfl (y_fieldAddr rfl fl_110_1) rfl ?_
  refine L_y rfl (y_load rfl ag_3 (hM) rfl) rfl ?_
  refine L_y rfl (y_assign rfl) rfl ?_
  refine L_nil ?_
  refine C_ret ?_
  refine B_ret (rv_tmp rfl rv_nil) (HSub.refl _) ?_
  exact ⟨rfl, rfl⟩

theorem mlen_nil {w0 : World} {H : Hp}  : FnS Try.prog w0 36 #[.pointer none] H (fun e H' => e = .returned (.int .i64 0) ∧ H' = H) := by
  refine FnS_intro (n := 9) (rs := [.tmp 2]) (vs := [.pointer none]) Try.func36 rfl Try.ntmps36 rfl rfl ?_
  refine C_seq ?_
  refine C_region ?_
  refine L_y rfl (y_assign rfl) rfl ?_
  refine L_nil ?_
  refine C_seq ?_
  refine C_seq ?_
  refine C_region ?_
  refine L_y rfl (y_move rfl) rfl ?_
  refine L_y rfl (y_eqp rfl rfl Try.underlying26) rfl ?_
  refine L_nil ?_
  refine C_cond_t rfl ?_
  refine C_seq ?_
  refine C_region ?_
  refine L_y rfl (y_assign rfl) rfl ?_
  refine L_nil ?_
  refine C_ret ?_
  refine B_ret (rv_tmp rfl rv_nil) (HSub.refl _) ?_
  exact ⟨rfl, rfl⟩

theorem has_m {w0 : World} {H : Hp} {m : Mi} (n : Int) (hM : Sees (fun w => St w0 w H) m.b (.cells m.cells.toArray 110)) : FnS Try.prog w0 58 #[ptr m.b, .int .i64 n] H (fun e H' => e = .returned (.bool (m.has n)) ∧ H' = H) := by
  refine FnS_intro (n := 13) (rs := [.tmp 4]) (vs := [ptr m.b, .int .i64 n]) Try.func58 rfl Try.ntmps58 rfl rfl ?_
  refine C_seq ?_
  refine C_region ?_
  refine L_y rfl (y_assign rfl) rfl ?_
  refine L_nil ?_
  refine C_seq ?_
  refine C_region ?_
  refine L_y rfl (y_move rfl) rfl ?_
  refine L_y rfl (y_geq rfl rfl) rfl ?_
  refine L_y rfl (y_move rfl) rfl ?_
  refine L_case 7 rfl (fun hg1_3 => ?_) (fun hg1_3 => ?_)
  · skip
    refine L_y rfl (y_move rfl) rfl ?_
    refine L_y rfl (y_move rfl) rfl ?_
    refine L_op rfl (op_call rfl rfl (fun a w => Try.call36 a w) rfl ?_)
    refine (len_m hM).mono ?_
    rintro _ _ ⟨rfl, rfl⟩
    refine ⟨_, rfl, ?_⟩
    refine L_y rfl (y_lss rfl rfl) rfl ?_
    refine L_y rfl (y_pick_t rfl rfl) rfl ?_
    refine L_y rfl (y_assign rfl) rfl ?_
    refine L_nil ?_
    refine C_ret ?_
    refine B_ret (rv_tmp rfl rv_nil) (HSub.refl _) ?_
    refine ⟨ret_bool ?_, rfl⟩
    unfold Mi.has
    simp_all <;> omega
  · skip
    refine L_skip rfl rfl ?_
    refine L_skip rfl rfl ?_
    refine L_skip rfl rfl ?_
    refine L_skip rfl rfl ?_
    refine L_y rfl (y_pick_f rfl rfl) rfl ?_
    refine L_y rfl (y_assign rfl) rfl ?_
    refine L_nil ?_
    refine C_ret ?_
    refine B_ret (rv_tmp rfl rv_nil) (HSub.refl _) ?_
    refine ⟨ret_bool ?_, rfl⟩
    unfold Mi.has
    simp_all <;> omega

theorem has_nil {w0 : World} {H : Hp} (n : Int) : FnS Try.prog w0 58 #[.pointer none, .int .i64 n] H (fun e H' => e = .returned (.bool false) ∧ H' = H) := by
  refine FnS_intro (n := 13) (rs := [.tmp 4]) (vs := [.pointer none, .int .i64 n]) Try.func58 rfl Try.ntmps58 rfl rfl ?_
  refine C_seq ?_
  refine C_region ?_
  refine L_y rfl (y_assign rfl) rfl ?_
  refine L_nil ?_
  refine C_seq ?_
  refine C_region ?_
  refine L_y rfl (y_move rfl) rfl ?_
  refine L_y rfl (y_geq rfl rfl) rfl ?_
  refine L_y rfl (y_move rfl) rfl ?_
  refine L_case 7 rfl (fun hg1_3 => ?_) (fun hg1_3 => ?_)
  · skip
    refine L_y rfl (y_move rfl) rfl ?_
    refine L_y rfl (y_move rfl) rfl ?_
    refine L_op rfl (op_call rfl rfl (fun a w => Try.call36 a w) rfl ?_)
    refine mlen_nil.mono ?_
    rintro _ _ ⟨rfl, rfl⟩
    refine ⟨_, rfl, ?_⟩
    refine L_y rfl (y_lss rfl rfl) rfl ?_
    refine L_y rfl (y_pick_t rfl rfl) rfl ?_
    refine L_y rfl (y_assign rfl) rfl ?_
    refine L_nil ?_
    refine C_ret ?_
    refine B_ret (rv_tmp rfl rv_nil) (HSub.refl _) ?_
    refine ⟨ret_bool ?_, rfl⟩
    simp_all
  · skip
    refine L_skip rfl rfl ?_
    refine L_skip rfl rfl ?_
    refine L_skip rfl rfl ?_
    refine L_skip rfl rfl ?_
    refine L_y rfl (y_pick_f rfl rfl) rfl ?_
    refine L_y rfl (y_assign rfl) rfl ?_
    refine L_nil ?_
    refine C_ret ?_
    refine B_ret (rv_tmp rfl rv_nil) (HSub.refl _) ?_
    refine ⟨ret_bool ?_, rfl⟩
    simp_all

theorem there_d {w0 : World} {H : Hp} {D : Duo} {A : Da} {bx bys bp : Nat} {mv : Value} (h : Two dt D A bx bys bp) (i : Bool) : FnS Try.prog w0 53 #[.agg [ptr (sel bx bys i), mv].toArray] (D.seg dt :: H) (fun e H' => e = .returned (.bool (thr A i)) ∧ H' = D.seg dt :: H) := by
  refine FnS_intro (n := 16) (rs := [.tmp 2]) (vs := [.agg [ptr (sel bx bys i), mv].toArray]) Try.func53 rfl Try.ntmps53 rfl rfl ?_
  refine C_seq ?_
  refine C_region ?_
  refine L_op rfl (op_box rfl rfl rfl (fun B1 => ?_))
  refine L_y rfl (y_assign rfl) rfl ?_
  refine L_nil ?_
  refine C_seq ?_
  refine C_seq ?_
  refine C_region ?_
  refine L_y rfl (y_fieldAddr rfl fl_107_0) rfl ?_
  refine L_y rfl (y_load rfl ag_24 (sees 0 0 rfl) rfl) rfl ?_
  refine L_y rfl (y_eqp rfl rfl Try.underlying24) rfl ?_
  refine L_nil ?_
  refine C_cond_f rfl ?_
  refine C_skip ?_
  refine C_seq ?_
  refine C_region ?_
  refine L_y rfl (y_fieldAddr rfl fl_107_0) rfl ?_
  refine L_y rfl (y_load rfl ag_24 (sees 0 0 rfl) rfl) rfl ?_
  refine L_op rfl (op_call rfl rfl (fun a w => Try.call60 a w) rfl ?_)
  refine ((read_d h i 0).sub (hsub_pick [1] rfl)).mono ?_
  rintro _ _ ⟨rfl, rfl⟩
  refine ⟨_, rfl, ?_⟩
  refine L_y rfl (y_move rfl) rfl ?_
  refine L_y rfl (y_extract rfl rfl) rfl ?_
  refine L_y rfl (y_extract rfl rfl) rfl ?_
  refine L_op rfl (op_alloc zl_32 rfl (fun B2 => ?_))
  refine L_op rfl (op_storeA 0 0 rfl rfl rfl sz_32 (by rw [bs_length, rS_len i h.oks]) rfl (bs_one _) (by simp) ?_)
  refine L_y rfl (y_assign rfl) rfl ?_
  refine L_nil ?_
  refine C_seq ?_
  refine C_region ?_
  refine L_y rfl (y_move rfl) rfl ?_
  refine L_y rfl (y_nei rfl rfl) rfl ?_
  refine L_y rfl (y_assign rfl) rfl ?_
  refine L_nil ?_
  refine C_ret ?_
  refine B_ret (rv_tmp rfl rv_nil) (hsub (.cons _ (.cons_cons _ (.cons _ (.refl _))))) ?_
  exact ⟨ret_bool (rE_neq A i 0), rfl⟩

theorem there_nil {w0 : World} {H : Hp} {mv : Value} : FnS Try.prog w0 53 #[.agg [.pointer none, mv].toArray] H (fun e H' => e = .returned (.bool false) ∧ H' = H) := by
  refine FnS_intro (n := 16) (rs := [.tmp 2]) (vs := [.agg [.pointer none, mv].toArray]) Try.func53 rfl Try.ntmps53 rfl rfl ?_
  refine C_seq ?_
  refine C_region ?_
  refine L_op rfl (op_box rfl rfl rfl (fun B1 => ?_))
  refine L_y rfl (y_assign rfl) rfl ?_
  refine L_nil ?_
  refine C_seq ?_
  refine C_seq ?_
  refine C_region ?_
  refine L_y rfl (y_fieldAddr rfl fl_107_0) rfl ?_
  refine L_y rfl (y_load rfl ag_24 (sees 0 0 rfl) rfl) rfl ?_
  refine L_y rfl (y_eqp rfl rfl Try.underlying24) rfl ?_
  refine L_nil ?_
  refine C_cond_t rfl ?_
  refine C_seq ?_
  refine C_region ?_
  refine L_y rfl (y_assign rfl) rfl ?_
  refine L_nil ?_
  refine C_ret ?_
  refine B_ret (rv_tmp rfl rv_nil) (hsub (.cons _ (.refl _))) ?_
  exact ⟨rfl, rfl⟩

theorem present_tt {w0 : World} {H : Hp} {D : Duo} {A : Da} {bp : Nat} {m : Mi} (h : Two dt D A m.bx m.bys bp) (hp : thr A false = true) (hq : thr A true = true) : FnS Try.prog w0 59 #[ptr m.b] (m.seg 110 :: D.seg dt :: H) (fun e H' => ∃ g, slOk 1 g 2 (intl (pres true true)) ∧ e = .returned (slV g 2) ∧ H' = slSeg 3 g (intl (pres true true)) :: m.seg 110 :: D.seg dt :: H) := by
  refine FnS_intro (n := 21) (rs := [.tmp 2]) (vs := [ptr m.b]) Try.func59 rfl Try.ntmps59 rfl rfl ?_
  refine C_seq ?_
  refine C_region ?_
  refine L_y rfl (y_assign rfl) rfl ?_
  refine L_nil ?_
  refine C_seq ?_
  refine C_region ?_
  refine L_y rfl (y_assign rfl) rfl ?_
  refine L_nil ?_
  refine C_seq ?_
  refine C_seq ?_
  refine C_region ?_
  refine L_y rfl (y_move rfl) rfl ?_
  refine L_nil ?_
  refine C_block ?_
  refine C_loopIn (In_round ?_)
  refine C_seq ?_
  refine C_region ?_
  refine L_y rfl (y_lss rfl rfl) rfl ?_
  refine L_nil ?_
  refine C_seq ?_
  refine C_cond_t rfl ?_
  refine C_skip ?_
  refine C_seq ?_
  refine C_block ?_
  refine C_seq ?_
  refine C_region ?_
  refine L_y rfl (y_move rfl) rfl ?_
  refine L_y rfl (y_assign rfl) rfl ?_
  refine L_nil ?_
  refine C_seq ?_
  refine C_region ?_
  refine L_y rfl (y_move rfl) rfl ?_
  refine L_y rfl (y_move rfl) rfl ?_
  refine L_y rfl (y_nilCheck rfl) rfl ?_
  refine L_y rfl (y_fieldAddr rfl fl_110_0) rfl ?_
  refine L_y rfl (y_indexA rfl rfl Try.underlying108 sz_107 (by omega) (by omega) (show _ = 0 from rfl)) rfl ?_
  refine L_y rfl (y_loadA rfl ag_107 sz_107 (sees 0 0 rfl) (Nat.le_of_ble_eq_true rfl) rfl) rfl ?_
  refine L_op rfl (op_call rfl rfl (fun a w => Try.call53 a w) rfl ?_)
  refine ((there_d h false).sub (hsub_pick [1] rfl)).mono ?_
  rintro _ _ ⟨rfl, rfl⟩
  rw [hp]
  refine ⟨_, rfl, ?_⟩
  refine L_nil ?_
  refine C_cond_t rfl ?_
  refine C_region ?_
  refine L_y rfl (y_move rfl) rfl ?_
  refine L_y rfl (y_move rfl) rfl ?_
  refine L_op rfl (op_buildSlice (vs := [(0, _)]) rfl Try.underlying118 sz_3 zl_3 rfl (by decide) rfl rfl (fun B1 => ?_))
  refine L_op rfl (op_append0 (m := 1) (vs := [.int .i64 0]) rfl rfl (src_slice (sees 0 0 rfl) (Nat.le_of_ble_eq_true rfl) rfl) rfl (by simp [one, Value.oneCell']) Try.underlying118 ni_118 sz_3 by_3 (by decide) zl_3 rfl (by decide) rfl (fun g1 hg1 => ?_))
  refine L_y rfl (y_assign rfl) rfl ?_
  refine L_nil ?_
  refine C_region ?_
  refine L_y rfl (y_add rfl rfl (show _ = (1 : Int) from rfl)) rfl ?_
  refine L_y rfl (y_move rfl) rfl ?_
  refine L_nil ?_
  refine In_round ?_
  refine C_seq ?_
  refine C_region ?_
  refine L_y rfl (y_lss rfl rfl) rfl ?_
  refine L_nil ?_
  refine C_seq ?_
  refine C_cond_t rfl ?_
  refine C_skip ?_
  refine C_seq ?_
  refine C_block ?_
  refine C_seq ?_
  refine C_region ?_
  refine L_y rfl (y_move rfl) rfl ?_
  refine L_y rfl (y_assign rfl) rfl ?_
  refine L_nil ?_
  refine C_seq ?_
  refine C_region ?_
  refine L_y rfl (y_move rfl) rfl ?_
  refine L_y rfl (y_move rfl) rfl ?_
  refine L_y rfl (y_nilCheck rfl) rfl ?_
  refine L_y rfl (y_fieldAddr rfl fl_110_0) rfl ?_
  refine L_y rfl (y_indexA rfl rfl Try.underlying108 sz_107 (by omega) (by omega) (show _ = 2 from rfl)) rfl ?_
  refine L_y rfl (y_loadA rfl ag_107 sz_107 (sees 3 0 rfl) (Nat.le_of_ble_eq_true rfl) rfl) rfl ?_
  refine L_op rfl (op_call rfl rfl (fun a w => Try.call53 a w) rfl ?_)
  refine ((there_d h true).sub (hsub_pick [2] rfl)).mono ?_
  rintro _ _ ⟨rfl, rfl⟩
  rw [hq]
  refine ⟨_, rfl, ?_⟩
  refine L_nil ?_
  refine C_cond_t rfl ?_
  refine C_region ?_
  refine L_y rfl (y_move rfl) rfl ?_
  refine L_y rfl (y_move rfl) rfl ?_
  refine L_op rfl (op_buildSlice (vs := [(0, _)]) rfl Try.underlying118 sz_3 zl_3 rfl (by decide) rfl rfl (fun B2 => ?_))
  refine L_op rfl (op_append (gs := g1) (len := 1) (m := 1) (xs := [.int .i64 0]) (vs := [.int .i64 1]) 2 rfl rfl rfl hg1 (src_slice (sees 0 0 rfl) (Nat.le_of_ble_eq_true rfl) rfl) rfl (by simp [one, Value.oneCell']) Try.underlying118 ni_118 sz_3 by_3 (by decide) zl_3 rfl (by decide) rfl (fun g2 hg2 => ?_))
  refine L_y rfl (y_assign rfl) rfl ?_
  refine L_nil ?_
  refine C_region ?_
  refine L_y rfl (y_add rfl rfl (show _ = (2 : Int) from rfl)) rfl ?_
  refine L_y rfl (y_move rfl) rfl ?_
  refine L_nil ?_
  refine In_round ?_
  refine C_seq ?_
  refine C_region ?_
  refine L_y rfl (y_lss rfl rfl) rfl ?_
  refine L_nil ?_
  refine C_seq ?_
  refine C_cond_f rfl ?_
  refine C_exit ?_
  refine C_seq ?_
  refine C_region ?_
  refine L_y rfl (y_move rfl) rfl ?_
  refine L_y rfl (y_assign rfl) rfl ?_
  refine L_nil ?_
  refine C_ret ?_
  refine B_ret (rv_tmp rfl rv_nil) ((hsub (.cons_cons _ (.cons_cons _ (.cons_cons _ (.cons _ (.cons _ (.refl _))))))).trans (hsub_pick [2, 3, 1] rfl)) ?_
  exact ⟨g2, hg2, rfl, rfl⟩

theorem present_tf {w0 : World} {H : Hp} {D : Duo} {A : Da} {bp : Nat} {m : Mi} (h : Two dt D A m.bx m.bys bp) (hp : thr A false = true) (hq : thr A true = false) : FnS Try.prog w0 59 #[ptr m.b] (m.seg 110 :: D.seg dt :: H) (fun e H' => ∃ g, slOk 1 g 1 (intl (pres true false)) ∧ e = .returned (slV g 1) ∧ H' = slSeg 3 g (intl (pres true false)) :: m.seg 110 :: D.seg dt :: H) := by
  refine FnS_intro (n := 21) (rs := [.tmp 2]) (vs := [ptr m.b]) Try.func59 rfl Try.ntmps59 rfl rfl ?_
  refine C_seq ?_
  refine C_region ?_
  refine L_y rfl (y_assign rfl) rfl ?_
  refine L_nil ?_
  refine C_seq ?_
  refine C_region ?_
  refine L_y rfl (y_assign rfl) rfl ?_
  refine L_nil ?_
  refine C_seq ?_
  refine C_seq ?_
  refine C_region ?_
  refine L_y rfl (y_move rfl) rfl ?_
  refine L_nil ?_
  refine C_block ?_
  refine C_loopIn (In_round ?_)
  refine C_seq ?_
  refine C_region ?_
  refine L_y rfl (y_lss rfl rfl) rfl ?_
  refine L_nil ?_
  refine C_seq ?_
  refine C_cond_t rfl ?_
  refine C_skip ?_
  refine C_seq ?_
  refine C_block ?_
  refine C_seq ?_
  refine C_region ?_
  refine L_y rfl (y_move rfl) rfl ?_
  refine L_y rfl (y_assign rfl) rfl ?_
  refine L_nil ?_
  refine C_seq ?_
  refine C_region ?_
  refine L_y rfl (y_move rfl) rfl ?_
  refine L_y rfl (y_move rfl) rfl ?_
  refine L_y rfl (y_nilCheck rfl) rfl ?_
  refine L_y rfl (y_fieldAddr rfl fl_110_0) rfl ?_
  refine L_y rfl (y_indexA rfl rfl Try.underlying108 sz_107 (by omega) (by omega) (show _ = 0 from rfl)) rfl ?_
  refine L_y rfl (y_loadA rfl ag_107 sz_107 (sees 0 0 rfl) (Nat.le_of_ble_eq_true rfl) rfl) rfl ?_
  refine L_op rfl (op_call rfl rfl (fun a w => Try.call53 a w) rfl ?_)
  refine ((there_d h false).sub (hsub_pick [1] rfl)).mono ?_
  rintro _ _ ⟨rfl, rfl⟩
  rw [hp]
  refine ⟨_, rfl, ?_⟩
  refine L_nil ?_
  refine C_cond_t rfl ?_
  refine C_region ?_
  refine L_y rfl (y_move rfl) rfl ?_
  refine L_y rfl (y_move rfl) rfl ?_
  refine L_op rfl (op_buildSlice (vs := [(0, _)]) rfl Try.underlying118 sz_3 zl_3 rfl (by decide) rfl rfl (fun B1 => ?_))
  refine L_op rfl (op_append0 (m := 1) (vs := [.int .i64 0]) rfl rfl (src_slice (sees 0 0 rfl) (Nat.le_of_ble_eq_true rfl) rfl) rfl (by simp [one, Value.oneCell']) Try.underlying118 ni_118 sz_3 by_3 (by decide) zl_3 rfl (by decide) rfl (fun g1 hg1 => ?_))
  refine L_y rfl (y_assign rfl) rfl ?_
  refine L_nil ?_
  refine C_region ?_
  refine L_y rfl (y_add rfl rfl (show _ = (1 : Int) from rfl)) rfl ?_
  refine L_y rfl (y_move rfl) rfl ?_
  refine L_nil ?_
  refine In_round ?_
  refine C_seq ?_
  refine C_region ?_
  refine L_y rfl (y_lss rfl rfl) rfl ?_
  refine L_nil ?_
  refine C_seq ?_
  refine C_cond_t rfl ?_
  refine C_skip ?_
  refine C_seq ?_
  refine C_block ?_
  refine C_seq ?_
  refine C_region ?_
  refine L_y rfl (y_move rfl) rfl ?_
  refine L_y rfl (y_assign rfl) rfl ?_
  refine L_nil ?_
  refine C_seq ?_
  refine C_region ?_
  refine L_y rfl (y_move rfl) rfl ?_
  refine L_y rfl (y_move rfl) rfl ?_
  refine L_y rfl (y_nilCheck rfl) rfl ?_
  refine L_y rfl (y_fieldAddr rfl fl_110_0) rfl ?_
  refine L_y rfl (y_indexA rfl rfl Try.underlying108 sz_107 (by omega) (by omega) (show _ = 2 from rfl)) rfl ?_
  refine L_y rfl (y_loadA rfl ag_107 sz_107 (sees 3 0 rfl) (Nat.le_of_ble_eq_true rfl) rfl) rfl ?_
  refine L_op rfl (op_call rfl rfl (fun a w => Try.call53 a w) rfl ?_)
  refine ((there_d h true).sub (hsub_pick [2] rfl)).mono ?_
  rintro _ _ ⟨rfl, rfl⟩
  rw [hq]
  refine ⟨_, rfl, ?_⟩
  refine L_nil ?_
  refine C_cond_f rfl ?_
  refine C_skip ?_
  refine C_region ?_
  refine L_y rfl (y_add rfl rfl (show _ = (2 : Int) from rfl)) rfl ?_
  refine L_y rfl (y_move rfl) rfl ?_
  refine L_nil ?_
  refine In_round ?_
  refine C_seq ?_
  refine C_region ?_
  refine L_y rfl (y_lss rfl rfl) rfl ?_
  refine L_nil ?_
  refine C_seq ?_
  refine C_cond_f rfl ?_
  refine C_exit ?_
  refine C_seq ?_
  refine C_region ?_
  refine L_y rfl (y_move rfl) rfl ?_
  refine L_y rfl (y_assign rfl) rfl ?_
  refine L_nil ?_
  refine C_ret ?_
  refine B_ret (rv_tmp rfl rv_nil) ((hsub (.cons_cons _ (.cons_cons _ (.cons_cons _ (.cons _ (.refl _)))))).trans (hsub_pick [1, 2, 0] rfl)) ?_
  exact ⟨g1, hg1, rfl, rfl⟩

theorem present_ft {w0 : World} {H : Hp} {D : Duo} {A : Da} {bp : Nat} {m : Mi} (h : Two dt D A m.bx m.bys bp) (hp : thr A false = false) (hq : thr A true = true) : FnS Try.prog w0 59 #[ptr m.b] (m.seg 110 :: D.seg dt :: H) (fun e H' => ∃ g, slOk 1 g 1 (intl (pres false true)) ∧ e = .returned (slV g 1) ∧ H' = slSeg 3 g (intl (pres false true)) :: m.seg 110 :: D.seg dt :: H) := by
  refine FnS_intro (n := 21) (rs := [.tmp 2]) (vs := [ptr m.b]) Try.func59 rfl Try.ntmps59 rfl rfl ?_
  refine C_seq ?_
  refine C_region ?_
  refine L_y rfl (y_assign rfl) rfl ?_
  refine L_nil ?_
  refine C_seq ?_
  refine C_region ?_
  refine L_y rfl (y_assign rfl) rfl ?_
  refine L_nil ?_
  refine C_seq ?_
  refine C_seq ?_
  refine C_region ?_
  refine L_y rfl (y_move rfl) rfl ?_
  refine L_nil ?_
  refine C_block ?_
  refine C_loopIn (In_round ?_)
  refine C_seq ?_
  refine C_region ?_
  refine L_y rfl (y_lss rfl rfl) rfl ?_
  refine L_nil ?_
  refine C_seq ?_
  refine C_cond_t rfl ?_
  refine C_skip ?_
  refine C_seq ?_
  refine C_block ?_
  refine C_seq ?_
  refine C_region ?_
  refine L_y rfl (y_move rfl) rfl ?_
  refine L_y rfl (y_assign rfl) rfl ?_
  refine L_nil ?_
  refine C_seq ?_
  refine C_region ?_
  refine L_y rfl (y_move rfl) rfl ?_
  refine L_y rfl (y_move rfl) rfl ?_
  refine L_y rfl (y_nilCheck rfl) rfl ?_
  refine L_y rfl (y_fieldAddr rfl fl_110_0) rfl ?_
  refine L_y rfl (y_indexA rfl rfl Try.underlying108 sz_107 (by omega) (by omega) (show _ = 0 from rfl)) rfl ?_
  refine L_y rfl (y_loadA rfl ag_107 sz_107 (sees 0 0 rfl) (Nat.le_of_ble_eq_true rfl) rfl) rfl ?_
  refine L_op rfl (op_call rfl rfl (fun a w => Try.call53 a w) rfl ?_)
  refine ((there_d h false).sub (hsub_pick [1] rfl)).mono ?_
  rintro _ _ ⟨rfl, rfl⟩
  rw [hp]
  refine ⟨_, rfl, ?_⟩
  refine L_nil ?_
  refine C_cond_f rfl ?_
  refine C_skip ?_
  refine C_region ?_
  refine L_y rfl (y_add rfl rfl (show _ = (1 : Int) from rfl)) rfl ?_
  refine L_y rfl (y_move rfl) rfl ?_
  refine L_nil ?_
  refine In_round ?_
  refine C_seq ?_
  refine C_region ?_
  refine L_y rfl (y_lss rfl rfl) rfl ?_
  refine L_nil ?_
  refine C_seq ?_
  refine C_cond_t rfl ?_
  refine C_skip ?_
  refine C_seq ?_
  refine C_block ?_
  refine C_seq ?_
  refine C_region ?_
  refine L_y rfl (y_move rfl) rfl ?_
  refine L_y rfl (y_assign rfl) rfl ?_
  refine L_nil ?_
  refine C_seq ?_
  refine C_region ?_
  refine L_y rfl (y_move rfl) rfl ?_
  refine L_y rfl (y_move rfl) rfl ?_
  refine L_y rfl (y_nilCheck rfl) rfl ?_
  refine L_y rfl (y_fieldAddr rfl fl_110_0) rfl ?_
  refine L_y rfl (y_indexA rfl rfl Try.underlying108 sz_107 (by omega) (by omega) (show _ = 2 from rfl)) rfl ?_
  refine L_y rfl (y_loadA rfl ag_107 sz_107 (sees 1 0 rfl) (Nat.le_of_ble_eq_true rfl) rfl) rfl ?_
  refine L_op rfl (op_call rfl rfl (fun a w => Try.call53 a w) rfl ?_)
  refine ((there_d h true).sub (hsub_pick [0] rfl)).mono ?_
  rintro _ _ ⟨rfl, rfl⟩
  rw [hq]
  refine ⟨_, rfl, ?_⟩
  refine L_nil ?_
  refine C_cond_t rfl ?_
  refine C_region ?_
  refine L_y rfl (y_move rfl) rfl ?_
  refine L_y rfl (y_move rfl) rfl ?_
  refine L_op rfl (op_buildSlice (vs := [(0, _)]) rfl Try.underlying118 sz_3 zl_3 rfl (by decide) rfl rfl (fun B1 => ?_))
  refine L_op rfl (op_append0 (m := 1) (vs := [.int .i64 1]) rfl rfl (src_slice (sees 0 0 rfl) (Nat.le_of_ble_eq_true rfl) rfl) rfl (by simp [one, Value.oneCell']) Try.underlying118 ni_118 sz_3 by_3 (by decide) zl_3 rfl (by decide) rfl (fun g1 hg1 => ?_))
  refine L_y rfl (y_assign rfl) rfl ?_
  refine L_nil ?_
  refine C_region ?_
  refine L_y rfl (y_add rfl rfl (show _ = (2 : Int) from rfl)) rfl ?_
  refine L_y rfl (y_move rfl) rfl ?_
  refine L_nil ?_
  refine In_round ?_
  refine C_seq ?_
  refine C_region ?_
  refine L_y rfl (y_lss rfl rfl) rfl ?_
  refine L_nil ?_
  refine C_seq ?_
  refine C_cond_f rfl ?_
  refine C_exit ?_
  refine C_seq ?_
  refine C_region ?_
  refine L_y rfl (y_move rfl) rfl ?_
  refine L_y rfl (y_assign rfl) rfl ?_
  refine L_nil ?_
  refine C_ret ?_
  refine B_ret (rv_tmp rfl rv_nil) ((hsub (.cons_cons _ (.cons_cons _ (.cons_cons _ (.cons _ (.refl _)))))).trans (hsub_pick [0, 2, 1] rfl)) ?_
  exact ⟨g1, hg1, rfl, rfl⟩

theorem present_ff {w0 : World} {H : Hp} {D : Duo} {A : Da} {bp : Nat} {m : Mi} (h : Two dt D A m.bx m.bys bp) (hp : thr A false = false) (hq : thr A true = false) : FnS Try.prog w0 59 #[ptr m.b] (m.seg 110 :: D.seg dt :: H) (fun e H' => e = .returned (.slice none 0 0) ∧ H' = m.seg 110 :: D.seg dt :: H) := by
  refine FnS_intro (n := 21) (rs := [.tmp 2]) (vs := [ptr m.b]) Try.func59 rfl Try.ntmps59 rfl rfl ?_
  refine C_seq ?_
  refine C_region ?_
  refine L_y rfl (y_assign rfl) rfl ?_
  refine L_nil ?_
  refine C_seq ?_
  refine C_region ?_
  refine L_y rfl (y_assign rfl) rfl ?_
  refine L_nil ?_
  refine C_seq ?_
  refine C_seq ?_
  refine C_region ?_
  refine L_y rfl (y_move rfl) rfl ?_
  refine L_nil ?_
  refine C_block ?_
  refine C_loopIn (In_round ?_)
  refine C_seq ?_
  refine C_region ?_
  refine L_y rfl (y_lss rfl rfl) rfl ?_
  refine L_nil ?_
  refine C_seq ?_
  refine C_cond_t rfl ?_
  refine C_skip ?_
  refine C_seq ?_
  refine C_block ?_
  refine C_seq ?_
  refine C_region ?_
  refine L_y rfl (y_move rfl) rfl ?_
  refine L_y rfl (y_assign rfl) rfl ?_
  refine L_nil ?_
  refine C_seq ?_
  refine C_region ?_
  refine L_y rfl (y_move rfl) rfl ?_
  refine L_y rfl (y_move rfl) rfl ?_
  refine L_y rfl (y_nilCheck rfl) rfl ?_
  refine L_y rfl (y_fieldAddr rfl fl_110_0) rfl ?_
  refine L_y rfl (y_indexA rfl rfl Try.underlying108 sz_107 (by omega) (by omega) (show _ = 0 from rfl)) rfl ?_
  refine L_y rfl (y_loadA rfl ag_107 sz_107 (sees 0 0 rfl) (Nat.le_of_ble_eq_true rfl) rfl) rfl ?_
  refine L_op rfl (op_call rfl rfl (fun a w => Try.call53 a w) rfl ?_)
  refine ((there_d h false).sub (hsub_pick [1] rfl)).mono ?_
  rintro _ _ ⟨rfl, rfl⟩
  rw [hp]
  refine ⟨_, rfl, ?_⟩
  refine L_nil ?_
  refine C_cond_f rfl ?_
  refine C_skip ?_
  refine C_region ?_
  refine L_y rfl (y_add rfl rfl (show _ = (1 : Int) from rfl)) rfl ?_
  refine L_y rfl (y_move rfl) rfl ?_
  refine L_nil ?_
  refine In_round ?_
  refine C_seq ?_
  refine C_region ?_
  refine L_y rfl (y_lss rfl rfl) rfl ?_
  refine L_nil ?_
  refine C_seq ?_
  refine C_cond_t rfl ?_
  refine C_skip ?_
  refine C_seq ?_
  refine C_block ?_
  refine C_seq ?_
  refine C_region ?_
  refine L_y rfl (y_move rfl) rfl ?_
  refine L_y rfl (y_assign rfl) rfl ?_
  refine L_nil ?_
  refine C_seq ?_
  refine C_region ?_
  refine L_y rfl (y_move rfl) rfl ?_
  refine L_y rfl (y_move rfl) rfl ?_
  refine L_y rfl (y_nilCheck rfl) rfl ?_
  refine L_y rfl (y_fieldAddr rfl fl_110_0) rfl ?_
  refine L_y rfl (y_indexA rfl rfl Try.underlying108 sz_107 (by omega) (by omega) (show _ = 2 from rfl)) rfl ?_
  refine L_y rfl (y_loadA rfl ag_107 sz_107 (sees 1 0 rfl) (Nat.le_of_ble_eq_true rfl) rfl) rfl ?_
  refine L_op rfl (op_call rfl rfl (fun a w => Try.call53 a w) rfl ?_)
  refine ((there_d h true).sub (hsub_pick [0] rfl)).mono ?_
  rintro _ _ ⟨rfl, rfl⟩
  rw [hq]
  refine ⟨_, rfl, ?_⟩
  refine L_nil ?_
  refine C_cond_f rfl ?_
  refine C_skip ?_
  refine C_region ?_
  refine L_y rfl (y_add rfl rfl (show _ = (2 : Int) from rfl)) rfl ?_
  refine L_y rfl (y_move rfl) rfl ?_
  refine L_nil ?_
  refine In_round ?_
  refine C_seq ?_
  refine C_region ?_
  refine L_y rfl (y_lss rfl rfl) rfl ?_
  refine L_nil ?_
  refine C_seq ?_
  refine C_cond_f rfl ?_
  refine C_exit ?_
  refine C_seq ?_
  refine C_region ?_
  refine L_y rfl (y_move rfl) rfl ?_
  refine L_y rfl (y_assign rfl) rfl ?_
  refine L_nil ?_
  refine C_ret ?_
  refine B_ret (rv_tmp rfl rv_nil) ((hsub (.cons_cons _ (.cons_cons _ (.refl _)))).trans (hsub_pick [1, 0] rfl)) ?_
  exact ⟨rfl, rfl⟩

end Go.Proofs.Ytjjiclgbdenkkaa

/- walks (own work; the walks' lines by a program of this repo). -/
set_option linter.unusedVariables false
set_option linter.unusedSimpArgs false
set_option maxRecDepth 20000
namespace Go.Proofs.Ytjjiclgbdenkkaa
open Go.Sl
attribute [local irreducible] BodyQ WpC WpL WpS WpH OpW FnS


theorem right_nil {w0 : World} {H : Hp} {m : Mi} {n : Int} {s : Sec} (hs : s.length = 128) (hM : Sees (fun w => St w0 w H) m.b (.cells m.cells.toArray 110)) (h1 : m.gv = .nilFunc) : FnS Try.prog w0 61 #[ptr m.b, .int .i64 n, .agg (bs s).toArray] H (fun e H' => e = .returned (.bool false) ∧ H' = H) := by
  refine FnS_intro (n := 21) (rs := [.tmp 6]) (vs := [ptr m.b, .int .i64 n, .agg (bs s).toArray]) Try.func61 rfl Try.ntmps61 rfl rfl ?_
  refine C_seq ?_
  refine C_region ?_
  refine L_op rfl (op_box rfl rfl rfl (fun B1 => ?_))
  refine L_y rfl (y_assign rfl) rfl ?_
  refine L_nil ?_
  refine C_seq ?_
  refine C_regionH0 (by kernel_rfl) ?_
  refine H_y 0 rfl (by kernel_rfl) (by kernel_rfl) (by kernel_rfl) (HSub.refl _) rfl (y_move rfl) rfl ?_
  refine H_y 1 rfl (by kernel_rfl) (by kernel_rfl) (by kernel_rfl) (HSub.refl _) rfl (y_nilCheck rfl) rfl ?_
  refine H_y 2 rfl (by kernel_rfl) (by kernel_rfl) (by kernel_rfl) (HSub.refl _) rfl (y_fieldAddr rfl fl_110_2) rfl ?_
  refine H_y 3 rfl (by kernel_rfl) (by kernel_rfl) (by kernel_rfl) (HSub.refl _) rfl (y_load rfl ag_28 (hM.up) (show _ = some (Value.nilFunc) from by rw [← h1]; rfl)) rfl ?_
  refine H_y 4 rfl (by kernel_rfl) (by kernel_rfl) (by kernel_rfl) (HSub.refl _) rfl (y_nefn0 rfl rfl Try.underlying28) rfl ?_
  refine H_y 5 rfl (by kernel_rfl) (by kernel_rfl) (by kernel_rfl) (HSub.refl _) rfl (y_move rfl) rfl ?_
  refine H_skip 6 rfl (by kernel_rfl) (by kernel_rfl) (by kernel_rfl) (HSub.refl _) rfl rfl ?_
  refine H_skip 7 rfl (by kernel_rfl) (by kernel_rfl) (by kernel_rfl) (HSub.refl _) rfl rfl ?_
  refine H_skip 8 rfl (by kernel_rfl) (by kernel_rfl) (by kernel_rfl) (HSub.refl _) rfl rfl ?_
  refine H_skip 9 rfl (by kernel_rfl) (by kernel_rfl) (by kernel_rfl) (HSub.refl _) rfl rfl ?_
  refine H_skip 10 rfl (by kernel_rfl) (by kernel_rfl) (by kernel_rfl) (HSub.refl _) rfl rfl ?_
  refine H_skip 11 rfl (by kernel_rfl) (by kernel_rfl) (by kernel_rfl) (HSub.refl _) rfl rfl ?_
  refine H_skip 12 rfl (by kernel_rfl) (by kernel_rfl) (by kernel_rfl) (HSub.refl _) rfl rfl ?_
  refine H_y 13 rfl (by kernel_rfl) (by kernel_rfl) (by kernel_rfl) (HSub.refl _) rfl (y_pick_f rfl rfl) rfl ?_
  refine H_y 14 rfl (by kernel_rfl) (by kernel_rfl) (by kernel_rfl) (HSub.refl _) rfl (y_assign rfl) rfl ?_
  refine H_done (by kernel_rfl) ?_
  refine C_ret ?_
  refine B_ret (rv_tmp rfl rv_nil) (hsub (.cons _ (.refl _))) ?_
  exact ⟨rfl, rfl⟩

theorem right_fn {w0 : World} {H : Hp} {m : Mi} {n : Int} {s : Sec} (hs : s.length = 128) (hM : Sees (fun w => St w0 w H) m.b (.cells m.cells.toArray 110)) {f : Nat} {cap : List Value} (h1 : m.gv = .func (.func f) #[] cap.toArray) (hcf : ∀ args w, (callFunc f args).run Try.prog w = .ok (.enter f args) w) (b : Bool) (h2 : ∀ H', HSub H H' → FnS Try.prog w0 f ([Value.int .i64 n, Value.agg (bs s).toArray] ++ cap).toArray H' (fun e H2 => e = .returned (.bool b) ∧ H2 = H')) : FnS Try.prog w0 61 #[ptr m.b, .int .i64 n, .agg (bs s).toArray] H (fun e H' => e = .returned (.bool b) ∧ H' = H) := by
  refine FnS_intro (n := 21) (rs := [.tmp 6]) (vs := [ptr m.b, .int .i64 n, .agg (bs s).toArray]) Try.func61 rfl Try.ntmps61 rfl rfl ?_
  refine C_seq ?_
  refine C_region ?_
  refine L_op rfl (op_box rfl rfl rfl (fun B1 => ?_))
  refine L_y rfl (y_assign rfl) rfl ?_
  refine L_nil ?_
  refine C_seq ?_
  refine C_regionH0 (by kernel_rfl) ?_
  refine H_y 0 rfl (by kernel_rfl) (by kernel_rfl) (by kernel_rfl) (HSub.refl _) rfl (y_move rfl) rfl ?_
  refine H_y 1 rfl (by kernel_rfl) (by kernel_rfl) (by kernel_rfl) (HSub.refl _) rfl (y_nilCheck rfl) rfl ?_
  refine H_y 2 rfl (by kernel_rfl) (by kernel_rfl) (by kernel_rfl) (HSub.refl _) rfl (y_fieldAddr rfl fl_110_2) rfl ?_
  refine H_y 3 rfl (by kernel_rfl) (by kernel_rfl) (by kernel_rfl) (HSub.refl _) rfl (y_load rfl ag_28 (hM.up) (show _ = some (Value.func (.func f) #[] cap.toArray) from by rw [← h1]; rfl)) rfl ?_
  refine H_y 4 rfl (by kernel_rfl) (by kernel_rfl) (by kernel_rfl) (HSub.refl _) rfl (y_nefn rfl rfl Try.underlying28) rfl ?_
  refine H_y 5 rfl (by kernel_rfl) (by kernel_rfl) (by kernel_rfl) (HSub.refl _) rfl (y_move rfl) rfl ?_
  refine H_y 6 rfl (by kernel_rfl) (by kernel_rfl) (by kernel_rfl) (HSub.refl _) rfl (y_move rfl) rfl ?_
  refine H_y 7 rfl (by kernel_rfl) (by kernel_rfl) (by kernel_rfl) (HSub.refl _) rfl (y_nilCheck rfl) rfl ?_
  refine H_y 8 rfl (by kernel_rfl) (by kernel_rfl) (by kernel_rfl) (HSub.refl _) rfl (y_fieldAddr rfl fl_110_2) rfl ?_
  refine H_y 9 rfl (by kernel_rfl) (by kernel_rfl) (by kernel_rfl) (HSub.refl _) rfl (y_load rfl ag_28 (hM.up) (show _ = some (Value.func (.func f) #[] cap.toArray) from by rw [← h1]; rfl)) rfl ?_
  refine H_y 10 rfl (by kernel_rfl) (by kernel_rfl) (by kernel_rfl) (HSub.refl _) rfl (y_move rfl) rfl ?_
  refine H_y 11 rfl (by kernel_rfl) (by kernel_rfl) (by kernel_rfl) (HSub.refl _) rfl (y_loadA rfl ag_32 sz_32 (sees 0 0 rfl) (by rw [bs_length, hs]; decide) (bs_whole0 _ hs)) rfl ?_
  refine H_one 12 rfl (by kernel_rfl) rfl (op_call (f := f) (first := []) (cap := cap) rfl rfl hcf rfl ?_)
  refine FnS.mono (h2 _ (HSub.drop _ _)) ?_
  rintro _ _ ⟨rfl, e⟩
  obtain rfl := e.symm
  refine ⟨_, rfl, ?_⟩
  refine ⟨HSub.refl _, ?_⟩
  refine H_y 13 rfl (by kernel_rfl) (by kernel_rfl) (by kernel_rfl) (HSub.refl _) rfl (y_pick_t rfl rfl) rfl ?_
  refine H_y 14 rfl (by kernel_rfl) (by kernel_rfl) (by kernel_rfl) (HSub.refl _) rfl (y_assign rfl) rfl ?_
  refine H_done (by kernel_rfl) ?_
  refine C_ret ?_
  refine B_ret (rv_tmp rfl rv_nil) (hsub (.cons _ (.refl _))) ?_
  exact ⟨rfl, rfl⟩

theorem right_m {w0 : World} {H : Hp} {m : Mi} {p : Int → Sec → Bool} (hM : Sees (fun w => St w0 w H) m.b (.cells m.cells.toArray 110)) (hG : GoodAt Try.prog w0 H m.gv p) (n : Int) (s : Sec) (hs : s.length = 128) : FnS Try.prog w0 61 #[ptr m.b, .int .i64 n, .agg (bs s).toArray] H (fun e H' => e = .returned (.bool (p n s)) ∧ H' = H) := by
  rcases hG with ⟨h1, rfl⟩ | ⟨f, cap, h1, hcf, h3⟩
  · exact right_nil hs hM h1
  · exact right_fn hs hM h1 hcf (p n s) (fun H' hs' => h3 H' n s hs' hs)

theorem stale_m {w0 : World} {H : Hp} {m : Mi} : FnS Try.prog w0 35 #[ptr m.b] (m.seg 110 :: H) (fun e H' => e = .returned (.tuple #[.int .i64 (m.k0.length : Int), .int .i64 (m.k1.length : Int)]) ∧ H' = m.seg 110 :: H) := by
  refine FnS_intro (n := 20) (rs := [.tmp 2, .tmp 3]) (vs := [ptr m.b]) Try.func35 rfl Try.ntmps35 rfl rfl ?_
  refine C_seq ?_
  refine C_region ?_
  refine L_y rfl (y_assign rfl) rfl ?_
  refine L_y rfl (y_assign rfl) rfl ?_
  refine L_nil ?_
  refine C_seq ?_
  refine C_seq ?_
  refine C_region ?_
  refine L_y rfl (y_move rfl) rfl ?_
  refine L_y rfl (y_eqp rfl rfl Try.underlying26) rfl ?_
  refine L_nil ?_
  refine C_cond_f rfl ?_
  refine C_skip ?_
  refine C_seq ?_
  refine C_regionH0 (by kernel_rfl) ?_
  refine H_y 0 rfl (by kernel_rfl) (by kernel_rfl) (by kernel_rfl) (HSub.refl _) rfl (y_move rfl) rfl ?_
  refine H_y 1 rfl (by kernel_rfl) (by kernel_rfl) (by kernel_rfl) (HSub.refl _) rfl (y_nilCheck rfl) rfl ?_
  refine H_y 2 rfl (by kernel_rfl) (by kernel_rfl) (by kernel_rfl) (HSub.refl _) rfl (y_fieldAddr rfl fl_110_0) rfl ?_
  refine H_y 3 rfl (by kernel_rfl) (by kernel_rfl) (by kernel_rfl) (HSub.refl _) rfl (y_indexA rfl rfl Try.underlying108 sz_107 (by omega) (by omega) (show _ = 0 from rfl)) rfl ?_
  refine H_y 4 rfl (by kernel_rfl) (by kernel_rfl) (by kernel_rfl) (HSub.refl _) rfl (y_fieldAddr rfl fl_107_1) rfl ?_
  refine H_y 5 rfl (by kernel_rfl) (by kernel_rfl) (by kernel_rfl) (HSub.refl _) rfl (y_load rfl ag_105 (sees 0 0 rfl) rfl) rfl ?_
  refine H_y 6 rfl (by kernel_rfl) (by kernel_rfl) (by kernel_rfl) (HSub.refl _) rfl (y_lenM rfl rfl Try.underlying105 (sees 0 1 rfl)) rfl ?_
  refine H_y 7 rfl (by kernel_rfl) (by kernel_rfl) (by kernel_rfl) (HSub.refl _) rfl (y_move rfl) rfl ?_
  refine H_y 8 rfl (by kernel_rfl) (by kernel_rfl) (by kernel_rfl) (HSub.refl _) rfl (y_nilCheck rfl) rfl ?_
  refine H_y 9 rfl (by kernel_rfl) (by kernel_rfl) (by kernel_rfl) (HSub.refl _) rfl (y_fieldAddr rfl fl_110_0) rfl ?_
  refine H_y 10 rfl (by kernel_rfl) (by kernel_rfl) (by kernel_rfl) (HSub.refl _) rfl (y_indexA rfl rfl Try.underlying108 sz_107 (by omega) (by omega) (show _ = 2 from rfl)) rfl ?_
  refine H_y 11 rfl (by kernel_rfl) (by kernel_rfl) (by kernel_rfl) (HSub.refl _) rfl (y_fieldAddr rfl fl_107_1) rfl ?_
  refine H_y 12 rfl (by kernel_rfl) (by kernel_rfl) (by kernel_rfl) (HSub.refl _) rfl (y_load rfl ag_105 (sees 0 0 rfl) rfl) rfl ?_
  refine H_y 13 rfl (by kernel_rfl) (by kernel_rfl) (by kernel_rfl) (HSub.refl _) rfl (y_lenM rfl rfl Try.underlying105 (sees 0 2 rfl)) rfl ?_
  refine H_y 14 rfl (by kernel_rfl) (by kernel_rfl) (by kernel_rfl) (HSub.refl _) rfl (y_assign rfl) rfl ?_
  refine H_y 15 rfl (by kernel_rfl) (by kernel_rfl) (by kernel_rfl) (HSub.refl _) rfl (y_assign rfl) rfl ?_
  refine H_done (by kernel_rfl) ?_
  refine C_ret ?_
  refine B_ret (rv_tmp rfl (rv_tmp rfl rv_nil)) (HSub.refl _) ?_
  exact ⟨by simp; rfl, rfl⟩

theorem stale_nil {w0 : World} {H : Hp}  : FnS Try.prog w0 35 #[.pointer none] H (fun e H' => e = .returned (.tuple #[.int .i64 0, .int .i64 0]) ∧ H' = H) := by
  refine FnS_intro (n := 20) (rs := [.tmp 2, .tmp 3]) (vs := [.pointer none]) Try.func35 rfl Try.ntmps35 rfl rfl ?_
  refine C_seq ?_
  refine C_region ?_
  refine L_y rfl (y_assign rfl) rfl ?_
  refine L_y rfl (y_assign rfl) rfl ?_
  refine L_nil ?_
  refine C_seq ?_
  refine C_seq ?_
  refine C_region ?_
  refine L_y rfl (y_move rfl) rfl ?_
  refine L_y rfl (y_eqp rfl rfl Try.underlying26) rfl ?_
  refine L_nil ?_
  refine C_cond_t rfl ?_
  refine C_seq ?_
  refine C_region ?_
  refine L_y rfl (y_assign rfl) rfl ?_
  refine L_y rfl (y_assign rfl) rfl ?_
  refine L_nil ?_
  refine C_ret ?_
  refine B_ret (rv_tmp rfl (rv_tmp rfl rv_nil)) (HSub.refl _) ?_
  exact ⟨rfl, rfl⟩

end Go.Proofs.Ytjjiclgbdenkkaa

/- Scrubbing a mirror: the plain model (own work). -/
set_option linter.unusedVariables false
set_option linter.unusedSimpArgs false
namespace Go.Sl
/-- The little rule of the laws. -/
def goodP (n : Int) (s : Sec) : Bool := !decide ((IntKind.i64.wrap (((s.getD 0 0).toNat : Int) + ((s.getD 1 0).toNat : Int) + n)).tmod 4 = 3)
abbrev Rp := Int × Int × Int
def cnt (r : Rp) (h : Int × Int) : Rp := if h.2 = 0 then (if h.1 = 0 then (r.1 + 1, r.2.1, r.2.2) else if h.1 = 1 then (r.1, r.2.1 + 1, r.2.2) else if h.1 = 2 then (r.1, r.2.1, r.2.2 + 1) else r) else r
abbrev wcells (mb : Nat) (nx : Int) (r : Rp) : List Value := [ptr mb, .int .i64 nx, .int .i64 r.1, .int .i64 r.2.1, .int .i64 r.2.2]
/-- What is there behind so many steps. -/
def scr (m : Mi) (A : Da) (p : Int → Sec → Bool) : Nat → Da × Mi × Rp
  | 0 => (A, m, (0, 0, 0))
  | k + 1 => let q := scr m A p k
    (healA q.2.1 q.1 p k, healM q.2.1 q.1 p k, cnt q.2.2 (healR q.2.1 q.1 p k))
theorem healM_same (m : Mi) (A : Da) (p : Int → Sec → Bool) (n : Int) : (healM m A p n).b = m.b ∧ (healM m A p n).bx = m.bx ∧ (healM m A p n).bys = m.bys ∧ (healM m A p n).n = m.n ∧ (healM m A p n).gv = m.gv := by
  unfold healM
  split
  · exact ⟨rfl, rfl, rfl, rfl, rfl⟩
  · split
    · split <;> exact ⟨rfl, rfl, rfl, rfl, rfl⟩
    · exact ⟨rfl, rfl, rfl, rfl, rfl⟩
theorem healA_many (m : Mi) (A : Da) (p : Int → Sec → Bool) (n : Int) (i : Bool) : ((healA m A p n).dev i).Q.length ≤ (A.dev i).Q.length + 1 := by
  unfold healA
  split
  · omega
  · exact Da.write_many _ _ _ _ _
theorem scr_same (m : Mi) (A : Da) (p : Int → Sec → Bool) : ∀ k, (scr m A p k).2.1.b = m.b ∧ (scr m A p k).2.1.bx = m.bx ∧ (scr m A p k).2.1.bys = m.bys ∧ (scr m A p k).2.1.n = m.n ∧ (scr m A p k).2.1.gv = m.gv
  | 0 => ⟨rfl, rfl, rfl, rfl, rfl⟩
  | k + 1 => by
    obtain ⟨h1, h2, h3, h4, h5⟩ := scr_same m A p k
    obtain ⟨g1, g2, g3, g4, g5⟩ := healM_same (scr m A p k).2.1 (scr m A p k).1 p k
    exact ⟨g1.trans h1, g2.trans h2, g3.trans h3, g4.trans h4, g5.trans h5⟩
theorem scr_many (m : Mi) (A : Da) (p : Int → Sec → Bool) (i : Bool) : ∀ k, ((scr m A p k).1.dev i).Q.length ≤ (A.dev i).Q.length + k
  | 0 => Nat.le_refl _
  | k + 1 => by
    have h := scr_many m A p i k
    have g := healA_many (scr m A p k).2.1 (scr m A p k).1 p k i
    show ((healA (scr m A p k).2.1 (scr m A p k).1 p k).dev i).Q.length ≤ _
    omega
theorem cnt_le (r : Rp) (h : Int × Int) : (cnt r h).1 ≤ r.1 + 1 ∧ (cnt r h).2.1 ≤ r.2.1 + 1 ∧ (cnt r h).2.2 ≤ r.2.2 + 1 ∧ r.1 ≤ (cnt r h).1 ∧ r.2.1 ≤ (cnt r h).2.1 ∧ r.2.2 ≤ (cnt r h).2.2 := by
  unfold cnt
  split
  · split
    · dsimp only; omega
    · split
      · dsimp only; omega
      · split <;> (try dsimp only) <;> omega
  · omega
theorem scr_cnt (m : Mi) (A : Da) (p : Int → Sec → Bool) : ∀ k : Nat, 0 ≤ (scr m A p k).2.2.1 ∧ (scr m A p k).2.2.1 ≤ k ∧ 0 ≤ (scr m A p k).2.2.2.1 ∧ (scr m A p k).2.2.2.1 ≤ k ∧ 0 ≤ (scr m A p k).2.2.2.2 ∧ (scr m A p k).2.2.2.2 ≤ k
  | 0 => ⟨Int.le_refl 0, Int.le_refl 0, Int.le_refl 0, Int.le_refl 0, Int.le_refl 0, Int.le_refl 0⟩
  | k + 1 => by
    have h := scr_cnt m A p k
    have g := cnt_le (scr m A p k).2.2 (healR (scr m A p k).2.1 (scr m A p k).1 p k)
    show 0 ≤ (cnt _ _).1 ∧ (cnt _ _).1 ≤ _ ∧ 0 ≤ (cnt _ _).2.1 ∧ (cnt _ _).2.1 ≤ _ ∧ 0 ≤ (cnt _ _).2.2 ∧ (cnt _ _).2.2 ≤ _
    omega
theorem healR_is (m : Mi) (A : Da) (p : Int → Sec → Bool) (n : Int) (hn : m.has n = true) : healR m A p n = (0, 0) ∨ healR m A p n = (1, 0) ∨ healR m A p n = (2, 0) ∨ healR m A p n = (0, 13) := by
  unfold healR
  rw [hn]
  simp only [if_true]
  split
  · split
    · split
      · exact .inl rfl
      · exact .inr (.inl rfl)
    · split
      · exact .inr (.inl rfl)
      · exact .inr (.inr (.inl rfl))
  · exact .inr (.inr (.inr rfl))
/-! ### Two devices that are there, and don't lie, while power doesn't fail: what is read of each -/
structure Vw (A : Da) (K : Nat) (X Y : List Sec) (k0 k1 : Nat) : Prop where
  calm : A.calm
  a : RdW K X A.a k0
  b : RdW K Y A.b k1
abbrev pick2 {α : Type} (i : Bool) (x y : α) : α := if i then y else x
theorem Vw.dev {A : Da} {K : Nat} {X Y : List Sec} {k0 k1 : Nat} (h : Vw A K X Y k0 k1) (i : Bool) : RdW K (pick2 i X Y) (A.dev i) (pick2 i k0 k1) := by
  cases i
  · exact h.a
  · exact h.b
theorem Vw.new {K : Nat} (h : K ≤ 4096) (q : Option Pa) (hq : q = none ∨ q = some q0) : Vw ⟨Ab.new K, Ab.new K, q0, q⟩ K (List.replicate K (secOf 0)) (List.replicate K (secOf 0)) 0 0 :=
  ⟨⟨rfl, rfl, fun x hx => by rcases hq with rfl | rfl <;> simp at hx; subst hx; exact ⟨rfl, rfl⟩⟩, RdW.new h, RdW.new h⟩
theorem Vw.thr {A : Da} {K : Nat} {X Y : List Sec} {k0 k1 : Nat} (h : Vw A K X Y k0 k1) (i : Bool) : thr A i = true := by
  unfold Sl.thr Ab.down
  rw [(h.dev i).out, (Da.calm_pow h.calm i).1]
  rfl
theorem Vw.reads {A : Da} {K : Nat} {X Y : List Sec} {k0 k1 n : Nat} {s : Sec} (h : Vw A K X Y k0 k1) (i : Bool) (hs : (pick2 i X Y)[n]? = some s) : A.rS i (n : Int) = s ∧ A.rE i (n : Int) = 0 := by
  have hd := h.dev i
  have hk : n < K := by rw [← hd.wlen]; exact (List.getElem?_eq_some_iff.1 hs).1
  obtain ⟨h1, h2⟩ := Da.read_calm h.calm i (n : Int)
  have hh : (A.dev i).has (n : Int) = true := by rw [hd.has]; simp; omega
  rw [h1, h2, hd.out, hh]
  exact ⟨by simpa using hd.read n s hs, rfl⟩
theorem Da.write_calm2 {A : Da} (h : A.calm) (i : Bool) (n : Int) (s : Sec) : (A.write i n s).calm := by
  rw [(Da.write_calm h i n s).1]
  split
  · exact Da.calm_setd h i _
  · exact h
theorem Vw.write {A : Da} {K : Nat} {X Y : List Sec} {k0 k1 n : Nat} {s : Sec} (h : Vw A K X Y k0 k1) (i : Bool) (hn : n < K) (hs : s.length = 128) :
    A.wE i (n : Int) = 0 ∧ Vw (A.write i (n : Int) s) K (if i then X else X.set n s) (if i then Y.set n s else Y) (if i then k0 else k0 + 1) (if i then k1 + 1 else k1) := by
  have hd := h.dev i
  obtain ⟨h1, h2⟩ := Da.write_calm h.calm i (n : Int) s
  have hh : (A.dev i).has (n : Int) = true := by rw [hd.has]; simp; omega
  rw [hd.out, hh] at h1 h2
  refine ⟨by simpa using h2, ?_⟩
  have hw : A.write i (n : Int) s = A.setd i ((A.dev i).push n s) := by simpa using h1
  have hc := Da.write_calm2 h.calm i (n : Int) s
  rw [hw] at hc ⊢
  cases i
  · exact ⟨hc, h.a.write hn hs, h.b⟩
  · exact ⟨hc, h.a, h.b.write hn hs⟩
theorem Vw.flush {A : Da} {K : Nat} {X Y : List Sec} {k0 k1 : Nat} (h : Vw A K X Y k0 k1) (i : Bool) : A.fE i = 0 ∧ Vw (A.flush i) K X Y (if i then k0 else 0) (if i then 0 else k1) := by
  have hd := h.dev i
  obtain ⟨h1, h2⟩ := Da.flush_calm h.calm i
  rw [hd.out] at h1 h2
  refine ⟨by simpa using h2, ?_⟩
  have hw : A.flush i = A.setd i (A.dev i).flush := by simpa using h1
  have hc := Da.calm_setd h.calm i (A.dev i).flush
  rw [hw]
  cases i
  · exact ⟨hc, h.a.flush, h.b⟩
  · exact ⟨hc, h.a, h.b.flush⟩
theorem Vw.mono {A : Da} {K : Nat} {X Y : List Sec} {k0 k1 j0 j1 : Nat} (h : Vw A K X Y k0 k1) (h0 : k0 ≤ j0) (h1 : k1 ≤ j1) : Vw A K X Y j0 j1 := ⟨h.calm, h.a.mono h0, h.b.mono h1⟩
/-! ### What a scrub makes of them -/
def hX (p : Int → Sec → Bool) (n : Nat) (a b : Sec) : Sec := if p n a then a else if p n b then b else a
def hY (p : Int → Sec → Bool) (n : Nat) (a b : Sec) : Sec := if p n a then a else b
def hC (p : Int → Sec → Bool) (n : Nat) (a b : Sec) : Int := if p n a then (if p n b && decide (a = b) then 0 else 1) else if p n b then 1 else 2
def gt (X : List Sec) (j : Nat) : Sec := X.getD j []
def XK (p : Int → Sec → Bool) (X Y : List Sec) (K k : Nat) : List Sec := (List.range K).map fun j => if j < k then hX p j (gt X j) (gt Y j) else gt X j
def YK (p : Int → Sec → Bool) (X Y : List Sec) (K k : Nat) : List Sec := (List.range K).map fun j => if j < k then hY p j (gt X j) (gt Y j) else gt Y j
def rK (p : Int → Sec → Bool) (X Y : List Sec) : Nat → Rp
  | 0 => (0, 0, 0)
  | k + 1 => cnt (rK p X Y k) (hC p k (gt X k) (gt Y k), 0)
theorem XK_get {p : Int → Sec → Bool} {X Y : List Sec} {K k j : Nat} (h : j < K) : (XK p X Y K k)[j]? = some (if j < k then hX p j (gt X j) (gt Y j) else gt X j) := by simp [XK, h]
theorem YK_get {p : Int → Sec → Bool} {X Y : List Sec} {K k j : Nat} (h : j < K) : (YK p X Y K k)[j]? = some (if j < k then hY p j (gt X j) (gt Y j) else gt Y j) := by simp [YK, h]
theorem XK_0 {p : Int → Sec → Bool} {X Y : List Sec} {K : Nat} (h : X.length = K) : XK p X Y K 0 = X := by
  apply List.ext_getElem?
  intro j
  by_cases hj : j < K
  · rw [XK_get hj]; simp [gt, List.getD, show j < X.length by omega]
  · rw [List.getElem?_eq_none (by simp [XK]; omega), List.getElem?_eq_none (by omega)]
theorem YK_0 {p : Int → Sec → Bool} {X Y : List Sec} {K : Nat} (h : Y.length = K) : YK p X Y K 0 = Y := by
  apply List.ext_getElem?
  intro j
  by_cases hj : j < K
  · rw [YK_get hj]; simp [gt, List.getD, show j < Y.length by omega]
  · rw [List.getElem?_eq_none (by simp [YK]; omega), List.getElem?_eq_none (by omega)]
theorem map_range_set {α : Type} (f f' : Nat → α) (n i : Nat) (h : ∀ j, j ≠ i → f j = f' j) : ((List.range n).map f).set i (f' i) = (List.range n).map f' := by
  apply List.ext_getElem?
  intro j
  rw [List.getElem?_set]
  by_cases hj : i = j
  · subst hj
    by_cases hi : i < n <;> simp [hi]
  · simp only [hj, if_false, List.getElem?_map]
    by_cases hi : j < n
    · simp [hi, h j (Ne.symm hj)]
    · simp [List.getElem?_eq_none (show (List.range n).length ≤ j by simp; omega)]
theorem XK_set (p : Int → Sec → Bool) (X Y : List Sec) (K k : Nat) : (XK p X Y K k).set k (hX p k (gt X k) (gt Y k)) = XK p X Y K (k + 1) := by
  have := map_range_set (fun j => if j < k then hX p j (gt X j) (gt Y j) else gt X j) (fun j => if j < k + 1 then hX p j (gt X j) (gt Y j) else gt X j) K k (fun j hj => by
    by_cases h1 : j < k
    · simp [h1, show j < k + 1 by omega]
    · simp [h1, show ¬ j < k + 1 by omega])
  simp only [Nat.lt_succ_self, if_true] at this
  exact this
theorem YK_set (p : Int → Sec → Bool) (X Y : List Sec) (K k : Nat) : (YK p X Y K k).set k (hY p k (gt X k) (gt Y k)) = YK p X Y K (k + 1) := by
  have := map_range_set (fun j => if j < k then hY p j (gt X j) (gt Y j) else gt Y j) (fun j => if j < k + 1 then hY p j (gt X j) (gt Y j) else gt Y j) K k (fun j hj => by
    by_cases h1 : j < k
    · simp [h1, show j < k + 1 by omega]
    · simp [h1, show ¬ j < k + 1 by omega])
  simp only [Nat.lt_succ_self, if_true] at this
  exact this
theorem set_self {α : Type} {l : List α} {k : Nat} {x : α} (h : l[k]? = some x) : l.set k x = l := by
  obtain ⟨hk, rfl⟩ := List.getElem?_eq_some_iff.1 h
  simp
/-- A step of a scrub of two that are there, nothing stale. -/
theorem Vw.heal {A : Da} {K : Nat} {X Y : List Sec} {k0 k1 n : Nat} {m : Mi} {p : Int → Sec → Bool} {a b : Sec} (h : Vw A K X Y k0 k1) (hm : m.n = K) (hk0 : m.k0 = []) (hk1 : m.k1 = []) (ha : X[n]? = some a) (hb : Y[n]? = some b) (hla : a.length = 128) (hlb : b.length = 128) :
    healR m A p n = (hC p n a b, 0) ∧ (healM m A p n).k0 = [] ∧ (healM m A p n).k1 = [] ∧ Vw (healA m A p n) K (X.set n (hX p n a b)) (Y.set n (hY p n a b)) (k0 + 1) (k1 + 1) := by
  have hn : n < K := by rw [← h.a.wlen]; exact (List.getElem?_eq_some_iff.1 ha).1
  obtain ⟨ra, ea⟩ := h.reads false ha
  obtain ⟨rb, eb⟩ := h.reads true hb
  have hh : m.has (n : Int) = true := by simp [Mi.has, hm, hn]
  have t0 := h.thr false
  have t1 := h.thr true
  have g0 : hg0 m A p n = p n a := by simp [Sl.hg0, hk0, kHas, ra]
  have g1 : hg1 m A p n = p n b := by simp [Sl.hg1, hk1, kHas, rb]
  have w0 := h.write (n := n) (s := b) false hn hlb
  have w1 := h.write (n := n) (s := a) true hn hla
  have sa := set_self ha
  have sb := set_self hb
  unfold healR healM healA healTo
  rw [hh, t0, t1, g0, g1, ra, rb]
  cases hp : p n a
  · cases hq : p n b
    · refine ⟨by simp [hC, hp, hq], by simp [hk0], by simp [hk1], ?_⟩
      simp only [Bool.false_eq_true, if_false, Bool.and_self, if_true, hX, hY, hp, hq, sa, sb]
      exact h.mono (Nat.le_succ _) (Nat.le_succ _)
    · refine ⟨by simp [hC, hp, hq], ?_, ?_, ?_⟩
      · simp [w0.1, hk0, kDel]
      · simp [w0.1, hk1]
      · simp only [Bool.false_eq_true, if_false, Bool.and_self, if_true, hX, hY, hp, hq, sb, Bool.not_false, rb]
        exact w0.2.mono (Nat.le_refl _) (Nat.le_succ _)
  · by_cases hq : (p n b && decide (a = b)) = true
    · have hab : a = b := by simp at hq; exact hq.2
      refine ⟨by simp [hC, hp, hq], by simp [hq, hk0], by simp [hq, hk1], ?_⟩
      simp only [hq, if_true, Bool.and_self, hX, hY, hp, sa]
      rw [hab, sb]
      exact h.mono (Nat.le_succ _) (Nat.le_succ _)
    · refine ⟨by simp [hC, hp, hq], ?_, ?_, ?_⟩
      · simp [hq, w1.1, hk0]
      · simp [hq, w1.1, hk1, kDel]
      · simp only [hq, Bool.false_eq_true, if_false, if_true, Bool.and_self, hX, hY, hp, sa, Bool.not_true, ra]
        exact (show Vw _ K X (Y.set n a) k0 (k1 + 1) from w1.2).mono (Nat.le_succ _) (Nat.le_refl _)
theorem gt_get {X : List Sec} {j K : Nat} (h : X.length = K) (hj : j < K) : X[j]? = some (gt X j) := by simp [gt, List.getD, show j < X.length by omega]
theorem scr_view {A : Da} {K : Nat} {X Y : List Sec} {k0 k1 : Nat} {m : Mi} {p : Int → Sec → Bool} (h : Vw A K X Y k0 k1) (hm : m.n = K) (hk0 : m.k0 = []) (hk1 : m.k1 = []) (hX : ∀ s ∈ X, s.length = 128) (hY : ∀ s ∈ Y, s.length = 128) :
    ∀ k, k ≤ K → Vw (scr m A p k).1 K (XK p X Y K k) (YK p X Y K k) (k0 + k) (k1 + k) ∧ (scr m A p k).2.1.k0 = [] ∧ (scr m A p k).2.1.k1 = [] ∧ (scr m A p k).2.2 = rK p X Y k
  | 0, _ => ⟨by rw [XK_0 h.a.wlen, YK_0 h.b.wlen]; exact h, hk0, hk1, rfl⟩
  | k + 1, hk => by
    obtain ⟨v, e0, e1, e2⟩ := scr_view h hm hk0 hk1 hX hY k (by omega)
    have ga := gt_get h.a.wlen (show k < K by omega)
    have gb := gt_get h.b.wlen (show k < K by omega)
    have xa : (XK p X Y K k)[k]? = some (gt X k) := by rw [XK_get (by omega)]; simp
    have xb : (YK p X Y K k)[k]? = some (gt Y k) := by rw [YK_get (by omega)]; simp
    obtain ⟨s1, s2, s3, s4, s5⟩ := scr_same m A p k
    obtain ⟨r1, r2, r3, r4⟩ := v.heal (p := p) (s4.trans hm) e0 e1 xa xb (hX _ (List.mem_of_getElem? ga)) (hY _ (List.mem_of_getElem? gb))
    refine ⟨?_, r2, r3, ?_⟩
    · rw [XK_set, YK_set] at r4; exact r4
    · show cnt (scr m A p k).2.2 (healR (scr m A p k).2.1 (scr m A p k).1 p k) = _
      rw [r1, e2]; rfl
/-! ### What the laws write -/
def sec2 (x : UInt8 × UInt8) : Sec := x.1 :: x.2 :: List.replicate 126 0
theorem sec2_len (x : UInt8 × UInt8) : (sec2 x).length = 128 := by simp [sec2]
/-- Pairs of bytes, as they lie. -/
def pb (l : List (UInt8 × UInt8)) : List UInt8 := l.flatMap fun x => [x.1, x.2]
theorem pb_len (l : List (UInt8 × UInt8)) : (pb l).length = 2 * l.length := by
  induction l with
  | nil => rfl
  | cons x l ih => simp only [pb, List.flatMap_cons, List.length_append, List.length_cons, List.length_nil] at ih ⊢; omega
theorem pb_get : ∀ {l : List (UInt8 × UInt8)} {i : Nat} {x : UInt8 × UInt8}, l[i]? = some x → (pb l)[i * 2]? = some x.1 ∧ (pb l)[i * 2 + 1]? = some x.2
  | [], i, x, h => by simp at h
  | y :: l, 0, x, h => by simp at h; subst h; exact ⟨rfl, rfl⟩
  | y :: l, i + 1, x, h => by
    simp only [List.getElem?_cons_succ] at h
    have := pb_get h
    simp only [pb, List.flatMap_cons] at this ⊢
    rw [show (i + 1) * 2 = i * 2 + 2 by omega, show i * 2 + 2 + 1 = (i * 2 + 1) + 2 by omega]
    simpa using this
theorem pair_at {l : List Value} {off i j : Nat} {la : List (UInt8 × UInt8)} {x : UInt8 × UInt8} {v : UInt8} (hv : (l.drop off).take (2 * la.length) = bs (pb la)) (hi : la[i]? = some x) (hj : j = 0 ∧ v = x.1 ∨ j = 1 ∧ v = x.2) : l[off + i * 2 + j]? = some (u8 v) := by
  obtain ⟨h1, h2⟩ := pb_get hi
  have hlt := (List.getElem?_eq_some_iff.1 hi).1
  have key : ((l.drop off).take (2 * la.length))[i * 2 + j]? = some (u8 v) := by
    rw [hv, bs_get]
    rcases hj with ⟨rfl, rfl⟩ | ⟨rfl, rfl⟩
    · rw [Nat.add_zero, h1]; rfl
    · rw [h2]; rfl
  rw [List.getElem?_take_of_lt (by omega), List.getElem?_drop] at key
  rw [Nat.add_assoc]
  exact key
def prX (la : List (UInt8 × UInt8)) (n : Nat) : List Sec := (la.take n).map sec2
theorem prX_ok (la : List (UInt8 × UInt8)) (n : Nat) : ∀ s ∈ prX la n, s.length = 128 := fun s hs => by
  obtain ⟨x, _, rfl⟩ := List.mem_map.1 hs
  exact sec2_len x
theorem prX_len {la : List (UInt8 × UInt8)} {n : Nat} (h : n ≤ la.length) : (prX la n).length = n := by simp [prX]; omega
theorem prX_succ {la : List (UInt8 × UInt8)} {n : Nat} {x : UInt8 × UInt8} (h : la[n]? = some x) : prX la (n + 1) = prX la n ++ [sec2 x] := by simp [prX, List.take_add_one, h]
/-- The places that were written, and the others. -/
def wX (la : List (UInt8 × UInt8)) (n i : Nat) : List Sec := prX la i ++ List.replicate (n - i) (secOf 0)
theorem wX_set {la : List (UInt8 × UInt8)} {n i : Nat} {x : UInt8 × UInt8} (h : la[i]? = some x) (hn : i < n) : (wX la n i).set i (sec2 x) = wX la n (i + 1) := by
  have hi := (List.getElem?_eq_some_iff.1 h).1
  have hl := prX_len (la := la) (n := i) (by omega)
  rw [wX, wX, List.set_append_right _ _ (by omega), hl, Nat.sub_self, show n - i = (n - (i + 1)) + 1 by omega, List.replicate_succ, List.set_cons_zero, prX_succ h]
  simp
theorem wX_all (la : List (UInt8 × UInt8)) (n : Nat) : wX la n n = prX la n := by simp [wX]
theorem wX_0 (la : List (UInt8 × UInt8)) (n : Nat) : wX la n 0 = List.replicate n (secOf 0) := by simp [wX, prX]
theorem sec2_fill (x : UInt8 × UInt8) : bs (sec2 x) = Value.int .u8 (x.1.toNat : Int) :: Value.int .u8 (x.2.toNat : Int) :: List.replicate 126 (Value.int .u8 0) := by simp [sec2, bs, u8]
theorem rK_le (p : Int → Sec → Bool) (X Y : List Sec) : ∀ k : Nat, 0 ≤ (rK p X Y k).1 ∧ (rK p X Y k).1 ≤ k ∧ 0 ≤ (rK p X Y k).2.1 ∧ (rK p X Y k).2.1 ≤ k ∧ 0 ≤ (rK p X Y k).2.2 ∧ (rK p X Y k).2.2 ≤ k
  | 0 => ⟨Int.le_refl 0, Int.le_refl 0, Int.le_refl 0, Int.le_refl 0, Int.le_refl 0, Int.le_refl 0⟩
  | k + 1 => by
    have h := rK_le p X Y k
    have g := cnt_le (rK p X Y k) (hC p k (gt X k) (gt Y k), 0)
    show 0 ≤ (cnt _ _).1 ∧ (cnt _ _).1 ≤ _ ∧ 0 ≤ (cnt _ _).2.1 ∧ (cnt _ _).2.1 ≤ _ ∧ 0 ≤ (cnt _ _).2.2 ∧ (cnt _ _).2.2 ≤ _
    omega
def rsel (r : Rp) (j : Nat) : Int := if j = 0 then r.1 else if j = 1 then r.2.1 else r.2.2
theorem hC_nat (p : Int → Sec → Bool) (n : Nat) (a b : Sec) : ∃ j : Nat, j < 3 ∧ hC p n a b = (j : Int) := by
  unfold hC
  split
  · split
    · exact ⟨0, by decide, rfl⟩
    · exact ⟨1, by decide, rfl⟩
  · split
    · exact ⟨1, by decide, rfl⟩
    · exact ⟨2, by decide, rfl⟩
theorem rsel_get (r : Rp) {j : Nat} (hj : j < 3) : [Value.int .i64 r.1, .int .i64 r.2.1, .int .i64 r.2.2][j]? = some (.int .i64 (rsel r j)) := by
  match j, hj with
  | 0, _ => rfl
  | 1, _ => rfl
  | 2, _ => rfl
theorem rK_set {p : Int → Sec → Bool} {X Y : List Sec} {i j : Nat} {s t : Sec} (hs : gt X i = s) (ht : gt Y i = t) (hj : j < 3) (hc : hC p i s t = (j : Int)) :
    [Value.int .i64 (rK p X Y i).1, .int .i64 (rK p X Y i).2.1, .int .i64 (rK p X Y i).2.2].set j (.int .i64 (rsel (rK p X Y i) j + 1)) = [Value.int .i64 (rK p X Y (i + 1)).1, .int .i64 (rK p X Y (i + 1)).2.1, .int .i64 (rK p X Y (i + 1)).2.2] := by
  have e : rK p X Y (i + 1) = cnt (rK p X Y i) ((j : Int), 0) := by show cnt _ _ = _; rw [hs, ht, hc]
  rw [e]
  match j, hj with
  | 0, _ => simp [cnt, rsel]
  | 1, _ => simp [cnt, rsel]
  | 2, _ => simp [cnt, rsel]
theorem rsel_le {p : Int → Sec → Bool} {X Y : List Sec} {i j : Nat} : 0 ≤ rsel (rK p X Y i) j ∧ rsel (rK p X Y i) j ≤ i := by
  have := rK_le p X Y i
  unfold rsel
  split
  · omega
  · split <;> omega
theorem XK_ok {p : Int → Sec → Bool} {X Y : List Sec} {K k : Nat} (hX : ∀ s ∈ X, s.length = 128) (hY : ∀ s ∈ Y, s.length = 128) (lX : X.length = K) (lY : Y.length = K) : ∀ s ∈ XK p X Y K k, s.length = 128 := fun s hs => by
  obtain ⟨j, hj, rfl⟩ := List.mem_map.1 hs
  have hj := List.mem_range.1 hj
  have a := hX _ (List.mem_of_getElem? (gt_get lX hj))
  have b := hY _ (List.mem_of_getElem? (gt_get lY hj))
  split
  · unfold Sl.hX; split
    · exact a
    · split
      · exact b
      · exact a
  · exact a
theorem YK_ok {p : Int → Sec → Bool} {X Y : List Sec} {K k : Nat} (hX : ∀ s ∈ X, s.length = 128) (hY : ∀ s ∈ Y, s.length = 128) (lX : X.length = K) (lY : Y.length = K) : ∀ s ∈ YK p X Y K k, s.length = 128 := fun s hs => by
  obtain ⟨j, hj, rfl⟩ := List.mem_map.1 hs
  have hj := List.mem_range.1 hj
  have a := hX _ (List.mem_of_getElem? (gt_get lX hj))
  have b := hY _ (List.mem_of_getElem? (gt_get lY hj))
  split
  · unfold Sl.hY; split
    · exact a
    · exact b
  · exact b
/-- A mirror of two that are there, nothing stale. -/
structure Ms (t : DT) (gv : Value) (D : Duo) (A : Da) (m : Mi) (K : Nat) (X Y : List Sec) (k0 k1 : Nat) (mb bx bys bp : Nat) : Prop where
  two : Two t D A bx bys bp
  vw : Vw A K X Y k0 k1
  mb : m.b = mb
  bx : m.bx = bx
  bys : m.bys = bys
  n : m.n = K
  s0 : m.k0 = []
  s1 : m.k1 = []
  gv : m.gv = gv
  okX : ∀ s ∈ X, s.length = 128
  okY : ∀ s ∈ Y, s.length = 128
theorem Ms.scr {t : DT} {gv : Value} {D D' : Duo} {A : Da} {m : Mi} {K : Nat} {X Y : List Sec} {k0 k1 mb bx bys bp : Nat} {p : Int → Sec → Bool} (h : Ms t gv D A m K X Y k0 k1 mb bx bys bp) (hT : Two t D' (Sl.scr m A p m.n).1 m.bx m.bys bp) :
    (Sl.scr m A p m.n).2.2 = rK p X Y K ∧ Ms t gv D' (Sl.scr m A p m.n).1 (Sl.scr m A p m.n).2.1 K (XK p X Y K K) (YK p X Y K K) (k0 + K) (k1 + K) mb bx bys bp := by
  have hn := h.n
  rw [hn] at hT ⊢
  obtain ⟨v, e0, e1, e2⟩ := scr_view (p := p) h.vw h.n h.s0 h.s1 h.okX h.okY K (Nat.le_refl _)
  obtain ⟨s1, s2, s3, s4, s5⟩ := scr_same m A p K
  rw [h.bx, h.bys] at hT
  exact ⟨e2, hT, v, s1.trans h.mb, s2.trans h.bx, s3.trans h.bys, s4.trans h.n, e0, e1, s5.trans h.gv, XK_ok h.okX h.okY h.vw.a.wlen h.vw.b.wlen, YK_ok h.okX h.okY h.vw.a.wlen h.vw.b.wlen⟩
theorem Ms.many {t : DT} {gv : Value} {D : Duo} {A : Da} {m : Mi} {K : Nat} {X Y : List Sec} {k0 k1 mb bx bys bp k : Nat} (h : Ms t gv D A m K X Y k0 k1 mb bx bys bp) (h0 : k0 ≤ k) (h1 : k1 ≤ k) (i : Bool) : (A.dev i).Q.length ≤ k := by
  have := (h.vw.dev i).many
  cases i
  · exact Nat.le_trans this h0
  · exact Nat.le_trans this h1
theorem XK_at {p : Int → Sec → Bool} {X Y : List Sec} {K j : Nat} {s t : Sec} (h : j < K) (hs : X[j]? = some s) (ht : Y[j]? = some t) : (XK p X Y K K)[j]? = some (hX p j s t) := by
  rw [XK_get h, if_pos h]; simp [gt, List.getD, hs, ht]
theorem YK_at {p : Int → Sec → Bool} {X Y : List Sec} {K j : Nat} {s t : Sec} (h : j < K) (hs : X[j]? = some s) (ht : Y[j]? = some t) : (YK p X Y K K)[j]? = some (hY p j s t) := by
  rw [YK_get h, if_pos h]; simp [gt, List.getD, hs, ht]
theorem hX_len {p : Int → Sec → Bool} {n : Nat} {a b : Sec} (ha : a.length = 128) (hb : b.length = 128) : (hX p n a b).length = 128 := by
  unfold hX; split
  · exact ha
  · split
    · exact hb
    · exact ha
theorem hY_len {p : Int → Sec → Bool} {n : Nat} {a b : Sec} (ha : a.length = 128) (hb : b.length = 128) : (hY p n a b).length = 128 := by
  unfold hY; split
  · exact ha
  · exact hb
theorem rK_take {p : Int → Sec → Bool} {X Y : List Sec} {k : Nat} : ∀ j, j ≤ k → rK p (X.take k) (Y.take k) j = rK p X Y j
  | 0, _ => rfl
  | j + 1, h => by
    show cnt _ _ = cnt _ _
    rw [rK_take j (by omega)]
    have e1 : gt (X.take k) j = gt X j := by simp [gt, List.getD, List.getElem?_take_of_lt (show j < k by omega)]
    have e2 : gt (Y.take k) j = gt Y j := by simp [gt, List.getD, List.getElem?_take_of_lt (show j < k by omega)]
    rw [e1, e2]
theorem take_ok {X : List Sec} {k : Nat} (h : ∀ s ∈ X, s.length = 128) : ∀ s ∈ X.take k, s.length = 128 := fun s hs => h s (List.mem_of_mem_take hs)
/-- With a device out nothing is scrubbed. -/
theorem scr_down {m : Mi} {A : Da} {p : Int → Sec → Bool} (h : (thr A false && thr A true) = false) : ∀ k : Nat, k ≤ m.n → scr m A p k = (A, m, (0, 0, 0))
  | 0, _ => rfl
  | k + 1, hk => by
    have hh : m.has (k : Int) = true := by simp [Mi.has]; omega
    have e := scr_down (m := m) (p := p) h k (by omega)
    have e0 : healTo m A p k = none := by simp [healTo, hh, h]
    have e1 : healR m A p k = (0, 13) := by simp [healR, hh, h]
    show (healA (scr m A p k).2.1 (scr m A p k).1 p k, healM (scr m A p k).2.1 (scr m A p k).1 p k, cnt (scr m A p k).2.2 (healR (scr m A p k).2.1 (scr m A p k).1 p k)) = _
    rw [e]
    simp only [healA, healM, e0, e1]
    rfl
theorem out_thr (A : Da) (i : Bool) : (thr (A.setd i ((A.dev i).outs true)) false && thr (A.setd i ((A.dev i).outs true)) true) = false := by
  cases i <;> simp [thr, Da.setd, Da.dev, Ab.outs, Ab.down]
/-! ### Scrubbed again -/
theorem hC_again {p : Int → Sec → Bool} {n : Nat} {a b : Sec} : hC p n (hX p n a b) (hY p n a b) = (if hC p n a b = 2 then 2 else 0) := by
  unfold hC hX hY
  cases ha : p n a
  · cases hb : p n b
    · simp [ha, hb]
    · simp [hb]
  · by_cases h : (p n b && decide (a = b)) = true
    · simp [ha, h]
    · simp [ha, h]
theorem rK_again {p : Int → Sec → Bool} {X Y : List Sec} {K : Nat} : ∀ k, k ≤ K → rK p (XK p X Y K K) (YK p X Y K K) k = ((rK p X Y k).1 + (rK p X Y k).2.1, 0, (rK p X Y k).2.2) ∧ (rK p X Y k).1 + (rK p X Y k).2.1 + (rK p X Y k).2.2 = k
  | 0, _ => ⟨rfl, rfl⟩
  | k + 1, h => by
    obtain ⟨e, e2⟩ := rK_again (p := p) (X := X) (Y := Y) (K := K) k (by omega)
    have g1 : gt (XK p X Y K K) k = hX p k (gt X k) (gt Y k) := by
      have := XK_get (p := p) (X := X) (Y := Y) (k := K) (show k < K by omega)
      rw [if_pos (by omega)] at this
      simp [gt, List.getD] at this ⊢
      rw [this]; rfl
    have g2 : gt (YK p X Y K K) k = hY p k (gt X k) (gt Y k) := by
      have := YK_get (p := p) (X := X) (Y := Y) (k := K) (show k < K by omega)
      rw [if_pos (by omega)] at this
      simp [gt, List.getD] at this ⊢
      rw [this]; rfl
    have s1 : rK p (XK p X Y K K) (YK p X Y K K) (k + 1) = cnt (rK p (XK p X Y K K) (YK p X Y K K) k) (hC p k (gt (XK p X Y K K) k) (gt (YK p X Y K K) k), 0) := rfl
    have s2 : rK p X Y (k + 1) = cnt (rK p X Y k) (hC p k (gt X k) (gt Y k), 0) := rfl
    rw [s1, s2, e, g1, g2, hC_again]
    obtain ⟨j, hj, hc⟩ := hC_nat p k (gt X k) (gt Y k)
    rw [hc]
    match j, hj with
    | 0, _ => simp [cnt]; omega
    | 1, _ => simp [cnt]; omega
    | 2, _ => simp [cnt]; omega
theorem hC_turn {p : Int → Sec → Bool} {n : Nat} {a b : Sec} : hC p n a b = hC p n b a := by
  unfold hC
  cases ha : p n a <;> cases hb : p n b
  · rfl
  · simp
  · simp
  · by_cases h : a = b
    · subst h; rfl
    · simp [h, Ne.symm h]
theorem rK_turn {p : Int → Sec → Bool} {X Y : List Sec} : ∀ k, rK p X Y k = rK p Y X k
  | 0 => rfl
  | k + 1 => by
    show cnt _ _ = cnt _ _
    rw [rK_turn k, hC_turn]
end Go.Sl

/- Numbers as bytes, the highest first (own work): plain facts. -/
set_option linter.unusedVariables false
namespace Go.Sl
/-- The bytes of a number, so many. -/
def be (n k : Nat) : List UInt8 := (List.range k).map fun i => UInt8.ofNat (n / 256 ^ (k - 1 - i) % 256)
def val (l : List UInt8) : Nat := l.foldl (fun a b => a * 256 + b.toNat) 0
theorem be_length (n k : Nat) : (be n k).length = k := by simp [be]
theorem val_snoc (l : List UInt8) (b : UInt8) : val (l ++ [b]) = val l * 256 + b.toNat := by simp [val]
theorem val_lt (l : List UInt8) : val l < 256 ^ l.length := by
  suffices h : ∀ (l : List UInt8) (a : Nat), l.foldl (fun a b => a * 256 + b.toNat) a < (a + 1) * 256 ^ l.length by simpa [val] using h l 0
  intro l
  induction l with
  | nil => intro a; simp
  | cons b l ih =>
    intro a
    simp only [List.foldl_cons, List.length_cons]
    have h1 := ih (a * 256 + b.toNat)
    have hb := b.toNat_lt
    have h2 : (a * 256 + b.toNat + 1) * 256 ^ l.length ≤ ((a + 1) * 256) * 256 ^ l.length := Nat.mul_le_mul_right _ (by omega)
    calc _ < _ := h1
      _ ≤ _ := h2
      _ = (a + 1) * 256 ^ (l.length + 1) := by rw [Nat.pow_succ, Nat.mul_assoc, Nat.mul_comm 256]
theorem be_get {n k i : Nat} (h : i < k) : (be n k)[i]? = some (UInt8.ofNat (n / 256 ^ (k - 1 - i) % 256)) := by simp [be, h]
theorem be_zero (n : Nat) : be n 0 = [] := rfl
theorem be_succ (n k : Nat) : be n (k + 1) = be (n / 256) k ++ [UInt8.ofNat (n % 256)] := by
  apply List.ext_getElem?
  intro i
  by_cases h : i < k
  · rw [be_get (by omega), List.getElem?_append_left (by simp [be_length, h]), be_get h]
    congr 3
    rw [Nat.div_div_eq_div_mul]
    congr 1
    rw [show k + 1 - 1 - i = (k - 1 - i) + 1 by omega, Nat.pow_succ, Nat.mul_comm]
  · by_cases h2 : i = k
    · subst h2
      rw [be_get (by omega), List.getElem?_append_right (by simp [be_length])]
      simp [be_length]
    · rw [List.getElem?_eq_none (by simp [be_length]; omega), List.getElem?_eq_none (by simp [be_length]; omega)]
theorem val_be (k : Nat) : ∀ n, val (be n k) = n % 256 ^ k := by
  induction k with
  | zero => intro n; simp [be_zero, val, Nat.mod_one]
  | succ k ih =>
    intro n
    rw [be_succ, val_snoc, ih]
    have h1 : (UInt8.ofNat (n % 256)).toNat = n % 256 := by simp
    rw [h1, Nat.pow_succ, Nat.mul_comm (256 ^ k) 256, Nat.mod_mul]
    omega
theorem be_val (l : List UInt8) : be (val l) l.length = l := by
  suffices h : ∀ (m : Nat) (l : List UInt8), l.length = m → be (val l) m = l from h _ l rfl
  intro m
  induction m with
  | zero => intro l h; have := List.eq_nil_of_length_eq_zero h; subst this; rfl
  | succ m ih =>
    intro l h
    have hne : l ≠ [] := by intro e; subst e; simp at h
    have e := List.dropLast_concat_getLast hne
    have hl : l.dropLast.length = m := by simp [h]
    rw [← e, be_succ, val_snoc]
    have hb := (l.getLast hne).toNat_lt
    rw [show (val l.dropLast * 256 + (l.getLast hne).toNat) / 256 = val l.dropLast by omega, ih _ hl]
    rw [show (val l.dropLast * 256 + (l.getLast hne).toNat) % 256 = (l.getLast hne).toNat by omega]
    simp
theorem put_byte {n k i : Nat} (h : i < k) (hk : k ≤ 8) :
    IntKind.u8.wrap (((n : Nat) : Int).fdiv (2 ^ (min ((8 * ((k : Int) - 1 - i)).toNat) IntKind.u64.bits))) = ((UInt8.ofNat (n / 256 ^ (k - 1 - i) % 256)).toNat : Int) := by
  have e1 : (8 * ((k : Int) - 1 - i)).toNat = 8 * (k - 1 - i) := by omega
  have e2 : min (8 * (k - 1 - i)) IntKind.u64.bits = 8 * (k - 1 - i) := by simp [IntKind.bits]; omega
  rw [e1, e2, IntKind.wrap_u8]
  have e3 : ((n : Nat) : Int).fdiv (2 ^ (8 * (k - 1 - i))) = ((n / 256 ^ (k - 1 - i) : Nat) : Int) := by
    rw [Int.fdiv_eq_ediv_of_nonneg _ (Int.pow_nonneg (by decide))]
    rw [show (256 : Nat) ^ (k - 1 - i) = 2 ^ (8 * (k - 1 - i)) by rw [Nat.pow_mul]]
    norm_cast
  rw [e3]
  simp
theorem put_step {l : List UInt8} {k i : Nat} {b : UInt8} (hl : l.length = k) (hi : i < k) (hb : l[i]? = some b) :
    (bs (l.take i ++ List.replicate (k - i) 0)).set i (u8 b) = bs (l.take (i + 1) ++ List.replicate (k - (i + 1)) 0) := by
  rw [bs_set]
  congr 1
  apply List.ext_getElem?
  intro j
  rw [List.getElem?_set]
  by_cases h1 : i = j
  · subst h1
    rw [if_pos rfl, if_pos (by simp; omega), List.getElem?_append_left (by simp; omega), List.getElem?_take_of_lt (by omega), hb]
  · rw [if_neg h1]
    by_cases h2 : j < i
    · rw [List.getElem?_append_left (by simp; omega), List.getElem?_append_left (by simp; omega), List.getElem?_take_of_lt h2, List.getElem?_take_of_lt (by omega)]
    · rw [List.getElem?_append_right (by simp; omega), List.getElem?_append_right (by simp; omega)]
      simp only [List.getElem?_replicate, List.length_take]
      congr 1
      simp
      omega
theorem zc8 (k : Nat) : zcells [.int .u8 0] k = bs (List.replicate k 0) := by
  unfold zcells
  induction k with
  | zero => rfl
  | succ k ih => rw [List.replicate_succ, List.flatten_cons, ih, List.replicate_succ]; rfl
theorem get_step {a : Nat} {b : UInt8} (h : a < 256 ^ 7) : bits .or .u64 (IntKind.u64.wrap ((a : Int) * 2 ^ (min (8 : Int).toNat IntKind.u64.bits))) (b.toNat : Int) = ((a * 256 + b.toNat : Nat) : Int) := by
  have hb := b.toNat_lt
  have e1 : (min (8 : Int).toNat IntKind.u64.bits) = 8 := by decide
  rw [e1]
  have e2 : IntKind.u64.wrap ((a : Int) * 2 ^ 8) = ((a * 256 : Nat) : Int) := by
    rw [wu64 (by omega) (by omega)]
    omega
  rw [e2]
  have e3 : (BitVec.ofInt 64 ((a * 256 : Nat) : Int) ||| BitVec.ofInt 64 ((b.toNat : Nat) : Int)).toNat = a * 256 + b.toNat := by
    simp only [BitVec.ofInt_natCast, BitVec.toNat_or, BitVec.toNat_ofNat]
    rw [Nat.mod_eq_of_lt (by omega), Nat.mod_eq_of_lt (by omega)]
    rw [show a * 256 = a <<< 8 by simp [Nat.shiftLeft_eq], Nat.shiftLeft_add_eq_or_of_lt (by omega)]
  show IntKind.u64.wrap ((BitVec.ofInt 64 ((a * 256 : Nat) : Int) ||| BitVec.ofInt 64 ((b.toNat : Nat) : Int)).toNat : Int) = _
  rw [e3]
  exact wu64 (by omega) (by omega)
theorem be_cons (n k : Nat) : be n (k + 1) = UInt8.ofNat (n / 256 ^ k % 256) :: be n k := by
  apply List.ext_getElem?
  intro i
  cases i with
  | zero => rw [be_get (by omega)]; simp
  | succ i =>
    simp only [List.getElem?_cons_succ]
    by_cases h : i < k
    · rw [be_get (by omega), be_get h, show k + 1 - 1 - (i + 1) = k - 1 - i by omega]
    · rw [List.getElem?_eq_none (by simp [be_length]; omega), List.getElem?_eq_none (by simp [be_length]; omega)]
theorem rem_byte (n : Nat) : IntKind.u8.wrap (((n : Nat) : Int).tmod 256) = ((UInt8.ofNat (n % 256)).toNat : Int) := by
  rw [IntKind.wrap_u8, Int.tmod_eq_emod_of_nonneg (by omega)]
  simp
theorem quo_256 {n : Nat} (h : n < 18446744073709551616) : IntKind.u64.wrap (((n : Nat) : Int).tdiv 256) = ((n / 256 : Nat) : Int) := by
  rw [Int.tdiv_eq_ediv_of_nonneg (by omega)]
  rw [wu64 (by omega) (by omega)]
  omega
theorem mul_add_256 {a : Nat} {b : UInt8} (h : a < 256 ^ 7) : IntKind.u64.wrap (IntKind.u64.wrap ((a : Int) * 256) + (b.toNat : Int)) = ((a * 256 + b.toNat : Nat) : Int) := by
  have hb := b.toNat_lt
  rw [wu64 (m := (a : Int) * 256) (by omega) (by omega), wu64 (by omega) (by omega)]
  omega
theorem getb {l : List Value} {off m i : Nat} {u : List UInt8} (h : (l.drop off).take m = bs u) (hi : i < m) (hu : u.length = m) : l[off + ((i : Nat) : Int).toNat * 1]? = some (u8 (u.getD i 0)) := by
  have h1 : ((l.drop off).take m)[i]? = some (u8 (u.getD i 0)) := by
    rw [h, bs_get]
    simp [List.getD, List.getElem?_eq_getElem (show i < u.length by omega)]
  rw [List.getElem?_take_of_lt hi, List.getElem?_drop] at h1
  simpa using h1
theorem val_take {u : List UInt8} {i : Nat} (h : i < u.length) : val (u.take (i + 1)) = val (u.take i) * 256 + (u.getD i 0).toNat := by
  rw [List.take_succ_eq_append_getElem h, val_snoc]
  simp [List.getD, List.getElem?_eq_getElem h]
theorem val_take_lt {u : List UInt8} {i : Nat} (h : i ≤ 7) : val (u.take i) < 256 ^ 7 := by
  have h1 := val_lt (u.take i)
  have h2 : (256 : Nat) ^ (u.take i).length ≤ 256 ^ 7 := Nat.pow_le_pow_right (by decide) (by simp; omega)
  omega
theorem src_sl {P : Program} {w0 : World} {H : Hp} {e sz len s : Nat} {gs : Option SlG} {xs : List Value} (hs : H[s]? = some (slSeg e gs xs)) (hok : slOk sz gs len xs) : Src P w0 H sz (slV gs len) len xs := by
  cases gs with
  | none =>
    obtain ⟨h1, rfl⟩ := hok
    have : xs = [] := List.eq_nil_of_length_eq_zero (by simpa using h1)
    subst this
    exact src_nil
  | some g =>
    obtain ⟨h1, h2, h3⟩ := hok
    refine src_slice (sees_mem (List.mem_flatten.2 ⟨_, List.mem_of_getElem? hs, List.mem_singleton.2 rfl⟩)) ?_ ?_
    · simp; omega
    · rw [List.drop_zero, ← h1, List.take_left' rfl]
theorem HSub.of_eq {H H' : Hp} (h : H' = H) : HSub H' H := by rw [h]; exact HSub.refl _
end Go.Sl

/- Sealed sectors (own work): the little sum, the packed sector, what it is sealed of; plain laws. -/
set_option linter.unusedVariables false
set_option linter.unusedSimpArgs false
namespace Go.Sl
abbrev M64 : Nat := 18446744073709551616
theorem wu64_mod (n : Nat) : IntKind.u64.wrap (n : Int) = ((n % M64 : Nat) : Int) := by
  simp only [IntKind.wrap, IntKind.bits, IntKind.signed]; simp
theorem wu64_add (a b : Nat) : IntKind.u64.wrap ((a : Int) + (b : Int)) = (((a + b) % M64 : Nat) : Int) := by rw [← Int.natCast_add, wu64_mod]
theorem wu64_mul (a b : Nat) : IntKind.u64.wrap ((a : Int) * (b : Int)) = (((a * b) % M64 : Nat) : Int) := by rw [← Int.natCast_mul, wu64_mod]
def l1s (x : Nat) (b : UInt8) : Nat := ((x + b.toNat) % M64) * 1099511628211 % M64
def l2s (x : Nat) (b : UInt8) : Nat := (((x + b.toNat) % M64 + 1) % M64) * 1099511628211 % M64
def lsX (x : Nat) : Nat → Nat
  | 0 => x
  | i + 1 => (lsX x i * 6364136223846793005 % M64 + 1442695040888963407) % M64
def litO (x : Nat) : List UInt8 := (List.range 16).map fun i => UInt8.ofNat (lsX x (i + 1) / 72057594037927936)
def ls1 (x : Nat) (k : List UInt8) : Nat := k.foldl l1s x
def ls2 (x : Nat) (u : List UInt8) : Nat := u.foldl l2s x
/-- The little cipher's sum. -/
def litSum (k u : List UInt8) : List UInt8 := litO (ls2 (ls1 (u.length % M64) k) u)
theorem litO_len (x : Nat) : (litO x).length = 16 := by simp [litO]
theorem litSum_len (k u : List UInt8) : (litSum k u).length = 16 := litO_len _
theorem foldl_take {α : Type} (f : α → UInt8 → α) (x : α) {k : List UInt8} {i : Nat} (h : i < k.length) : (k.take (i + 1)).foldl f x = f ((k.take i).foldl f x) (k.getD i 0) := by
  rw [List.take_succ_eq_append_getElem h, List.foldl_append]
  simp [List.getD, h]
theorem ls1_step {x : Nat} {k : List UInt8} {i : Nat} (h : i < k.length) : IntKind.u64.wrap (IntKind.u64.wrap (((ls1 x (k.take i) : Nat) : Int) + ((k.getD i 0).toNat : Int)) * 1099511628211) = ((ls1 x (k.take (i + 1)) : Nat) : Int) := by
  rw [wu64_add, show (1099511628211 : Int) = ((1099511628211 : Nat) : Int) from rfl, wu64_mul, ls1, ls1, foldl_take _ _ h]; rfl
theorem ls2_step {x : Nat} {k : List UInt8} {i : Nat} (h : i < k.length) : IntKind.u64.wrap (IntKind.u64.wrap (IntKind.u64.wrap (((ls2 x (k.take i) : Nat) : Int) + ((k.getD i 0).toNat : Int)) + 1) * 1099511628211) = ((ls2 x (k.take (i + 1)) : Nat) : Int) := by
  rw [wu64_add, show (1 : Int) = ((1 : Nat) : Int) from rfl, wu64_add, show (1099511628211 : Int) = ((1099511628211 : Nat) : Int) from rfl, wu64_mul, ls2, ls2, foldl_take _ _ h]; rfl
theorem lsX_step (x i : Nat) : IntKind.u64.wrap (IntKind.u64.wrap (((lsX x i : Nat) : Int) * 6364136223846793005) + 1442695040888963407) = ((lsX x (i + 1) : Nat) : Int) := by
  rw [show (6364136223846793005 : Int) = ((6364136223846793005 : Nat) : Int) from rfl, wu64_mul, show (1442695040888963407 : Int) = ((1442695040888963407 : Nat) : Int) from rfl, wu64_add]; rfl
theorem lsX_lt (x i : Nat) : lsX x (i + 1) < M64 := Nat.mod_lt _ (by decide)
theorem ls1_len {x : Nat} {k : List UInt8} (h : x < M64) : ls1 x k < M64 := by
  unfold ls1
  induction k generalizing x with
  | nil => exact h
  | cons b k ih => exact ih (Nat.mod_lt _ (by decide))
theorem lit_byte (x i : Nat) : IntKind.u8.wrap (((lsX x (i + 1) : Nat) : Int).fdiv (2 ^ (min (56 : Int).toNat IntKind.u64.bits))) = ((UInt8.ofNat (lsX x (i + 1) / 72057594037927936)).toNat : Int) := by
  have h : lsX x (i + 1) < 18446744073709551616 := lsX_lt x i
  have e1 : (min (56 : Int).toNat IntKind.u64.bits) = 56 := by decide
  rw [e1, Int.fdiv_eq_ediv_of_nonneg _ (by decide), show ((2 : Int) ^ 56) = ((72057594037927936 : Nat) : Int) from by decide, ← Int.natCast_ediv]
  have h2 : lsX x (i + 1) / 72057594037927936 < 256 := by omega
  rw [wu8 (by omega) (by omega)]
  simp
  omega
theorem litO_get {x i : Nat} (h : i < 16) : (litO x)[i]? = some (UInt8.ofNat (lsX x (i + 1) / 72057594037927936)) := by simp [litO, h]
/-! ### The sealed sector -/
def K0 : List UInt8 := List.replicate 32 0
theorem K0_len : K0.length = 32 := rfl
/-- What stands behind the sum. -/
def restS (gen : Nat) (body : List UInt8) : List UInt8 := be gen 8 ++ (UInt8.ofNat body.length :: (body ++ List.replicate (103 - body.length) 0))
def sumS (a : Nat) (s : List UInt8) : List UInt8 := litSum K0 (be a 4 ++ s.drop 16)
def packS (a gen : Nat) (body : List UInt8) : Sec := sumS a (List.replicate 16 0 ++ restS gen body) ++ restS gen body
abbrev packOk (a : Int) (body : List UInt8) : Prop := 0 ≤ a ∧ a < 4096 ∧ body.length ≤ 103
def genS (s : Sec) : Nat := val ((s.drop 16).take 8)
def lenS (s : Sec) : Nat := (s.getD 24 0).toNat
def bodyS (s : Sec) : List UInt8 := (s.drop 25).take (lenS s)
/-- Is it sealed at the place? -/
abbrev isS (a : Int) (s : Sec) : Prop := lenS s ≤ 103 ∧ 0 ≤ a ∧ a < 4096 ∧ packS a.toNat (genS s) (bodyS s) = s
theorem sumS_len (a : Nat) (s : List UInt8) : (sumS a s).length = 16 := litSum_len _ _
theorem restS_len {gen : Nat} {body : List UInt8} (h : body.length ≤ 103) : (restS gen body).length = 112 := by simp [restS, be_length]; omega
theorem packS_len {a gen : Nat} {body : List UInt8} (h : body.length ≤ 103) : (packS a gen body).length = 128 := by rw [packS, List.length_append, sumS_len, restS_len h]
theorem packS_drop (a gen : Nat) (body : List UInt8) : (packS a gen body).drop 16 = restS gen body := by rw [packS, List.drop_left' (sumS_len _ _)]
theorem packS_gen {a gen : Nat} {body : List UInt8} (h : gen < M64) : genS (packS a gen body) = gen := by
  rw [genS, packS_drop, restS, List.take_left' (be_length _ _), val_be]
  exact Nat.mod_eq_of_lt h
theorem rest_getD {gen : Nat} {body : List UInt8} (s : List UInt8) (hs : s.length = 16) : (s ++ restS gen body).getD 24 0 = UInt8.ofNat body.length := by
  have : (s ++ restS gen body)[24]? = some (UInt8.ofNat body.length) := by
    rw [List.getElem?_append_right (by omega), restS, List.getElem?_append_right (by rw [be_length]; omega), be_length, hs]
    rfl
  simp [List.getD, this]
theorem packS_lenS {a gen : Nat} {body : List UInt8} (h : body.length ≤ 103) : lenS (packS a gen body) = body.length := by
  rw [lenS, packS, rest_getD _ (sumS_len _ _)]
  simp; omega
theorem packS_body {a gen : Nat} {body : List UInt8} (h : body.length ≤ 103) : bodyS (packS a gen body) = body := by
  rw [bodyS, packS_lenS h, show 25 = 16 + 9 by omega, ← List.drop_drop, packS_drop, restS]
  rw [show be gen 8 ++ (UInt8.ofNat body.length :: (body ++ List.replicate (103 - body.length) 0)) = (be gen 8 ++ [UInt8.ofNat body.length]) ++ (body ++ List.replicate (103 - body.length) 0) by simp]
  rw [List.drop_left' (by simp [be_length]), List.take_left' rfl]
theorem packS_isS {a : Int} {gen : Nat} {body : List UInt8} (h : packOk a body) (hg : gen < M64) : isS a (packS a.toNat gen body) := by
  obtain ⟨h1, h2, h3⟩ := h
  refine ⟨by rw [packS_lenS h3]; exact h3, h1, h2, ?_⟩
  rw [packS_gen hg, packS_body h3]
theorem packS_inj {a b g1 g2 : Nat} {x y : List UInt8} (hx : x.length ≤ 103) (hy : y.length ≤ 103) (h1 : g1 < M64) (h2 : g2 < M64) (h : packS a g1 x = packS b g2 y) : g1 = g2 ∧ x = y := by
  have e1 := packS_gen (a := a) (body := x) h1
  have e2 := packS_body (a := a) (gen := g1) hx
  rw [h, packS_gen h2] at e1
  rw [h, packS_body hy] at e2
  exact ⟨e1.symm, e2.symm⟩
theorem genS_lt {s : Sec} : genS s < M64 := by
  have h1 := val_lt ((s.drop 16).take 8)
  have h2 : (256 : Nat) ^ ((s.drop 16).take 8).length ≤ 256 ^ 8 := Nat.pow_le_pow_right (by decide) (by simp; omega)
  exact Nat.lt_of_lt_of_le h1 h2
theorem bodyS_len {s : Sec} (hs : s.length = 128) (h : lenS s ≤ 103) : (bodyS s).length = lenS s := by simp [bodyS]; omega
theorem w8n {n : Nat} (h : n < 256) : IntKind.u8.wrap (n : Int) = ((UInt8.ofNat n).toNat : Int) := by rw [wu8 (by omega) (by omega)]; simp; omega
/-! ### A sector while it is packed -/
def pS1 (gen : Nat) : List UInt8 := List.replicate 16 0 ++ (be gen 8 ++ List.replicate 104 0)
def pS2 (gen n : Nat) : List UInt8 := List.replicate 16 0 ++ (be gen 8 ++ (UInt8.ofNat n :: List.replicate 103 0))
def pS3 (gen : Nat) (body : List UInt8) : List UInt8 := List.replicate 16 0 ++ restS gen body
theorem pS1_len (gen : Nat) : (pS1 gen).length = 128 := by simp [pS1, be_length]
theorem pS2_len (gen n : Nat) : (pS2 gen n).length = 128 := by simp [pS2, be_length]
theorem pS3_len {gen : Nat} {body : List UInt8} (h : body.length ≤ 103) : (pS3 gen body).length = 128 := by rw [pS3, List.length_append, restS_len h]; rfl
theorem pk1 (gen : Nat) : spl (bs (secOf 0)) 16 (bs (be gen 8)) = bs (pS1 gen) := by
  rw [spl_bs (by simp [be_length, secOf]), be_length]
  simp [secOf, pS1]
theorem pk2 {gen n : Nat} : (bs (pS1 gen)).set 24 (.int .u8 ((UInt8.ofNat n).toNat : Int)) = bs (pS2 gen n) := by
  rw [show (Value.int .u8 ((UInt8.ofNat n).toNat : Int)) = u8 (UInt8.ofNat n) from rfl, bs_set, pS1, pS2, List.set_append_right _ _ (by simp), List.set_append_right _ _ (by simp [be_length])]
  simp [be_length, List.replicate_succ]
theorem pk3 {gen : Nat} {body : List UInt8} (h : body.length ≤ 103) : spl (bs (pS2 gen body.length)) 25 (bs body) = bs (pS3 gen body) := by
  have e : pS2 gen body.length = (List.replicate 16 0 ++ (be gen 8 ++ [UInt8.ofNat body.length])) ++ List.replicate 103 0 := by simp [pS2]
  have hl : (List.replicate 16 (0 : UInt8) ++ (be gen 8 ++ [UInt8.ofNat body.length])).length = 25 := by simp [be_length]
  rw [spl_bs (by rw [pS2_len]; omega)]
  congr 1
  rw [e, List.take_left' hl, ← List.drop_drop, List.drop_left' hl, List.drop_replicate]
  simp [pS3, restS]
theorem pk4 {gen : Nat} {body x : List UInt8} (hx : x.length = 16) : spl (bs (pS3 gen body)) 0 (bs x) = bs (x ++ restS gen body) := by
  rw [spl_bs (by simp [pS3, hx])]
  congr 1
  rw [pS3, hx, Nat.zero_add, List.drop_left' (by simp)]
  simp
theorem pS3_sum {a gen : Nat} {body : List UInt8} : sumS a (pS3 gen body) ++ restS gen body = packS a gen body := rfl
/-! ### What both tell -/
def packR (a : Int) (gen : Nat) (body : List UInt8) : Sec := if packOk a body then packS a.toNat gen body else secOf 0
def unpG (a : Int) (s : Sec) : Nat := if isS a s then genS s else 0
def unpB (a : Int) (s : Sec) : List UInt8 := if isS a s then bodyS s else []
theorem packR_len (a : Int) (gen : Nat) (body : List UInt8) : (packR a gen body).length = 128 := by
  unfold packR; split
  · rename_i h; exact packS_len h.2.2
  · exact secOf_len 0
theorem unpG_lt (a : Int) (s : Sec) : unpG a s < M64 := by
  unfold unpG; split
  · exact genS_lt
  · decide
theorem unpB_len {a : Int} {s : Sec} (hs : s.length = 128) : (unpB a s).length ≤ 103 := by
  unfold unpB; split
  · rename_i h; rw [bodyS_len hs h.1]; exact h.1
  · simp
theorem unp_back {a : Int} {s : Sec} (h : isS a s) : packR a (unpG a s) (unpB a s) = s := by
  rw [unpG, unpB, if_pos h, if_pos h, packR]
  split
  · exact h.2.2.2
  · rename_i hn
    exact absurd ⟨h.2.1, h.2.2.1, by have := h.1; simp [bodyS]; omega⟩ hn
theorem unp_packR {a : Int} {gen : Nat} {body : List UInt8} (h : packOk a body) (hg : gen < M64) : isS a (packR a gen body) ∧ unpG a (packR a gen body) = gen ∧ unpB a (packR a gen body) = body := by
  have e : packR a gen body = packS a.toNat gen body := if_pos h
  have h1 := packS_isS h hg
  rw [e]
  exact ⟨h1, by rw [unpG, if_pos h1, packS_gen hg], by rw [unpB, if_pos h1, packS_body h.2.2]⟩
/-! ### The document's packing -/
theorem map_set {α : Type} (f f' : Nat → α) (n i : Nat) (h : ∀ j, j ≠ i → f j = f' j) : ((List.range n).map f).set i (f' i) = (List.range n).map f' := by
  apply List.ext_getElem?
  intro j
  rw [List.getElem?_set]
  by_cases hj : i = j
  · subst hj
    by_cases hi : i < n <;> simp [hi]
  · simp only [hj, if_false, List.getElem?_map]
    by_cases hi : j < n
    · simp [hi, h j (Ne.symm hj)]
    · simp [List.getElem?_eq_none (show (List.range n).length ≤ j by simp; omega)]
theorem set_mid {A X B : List UInt8} {r j : Nat} {v : UInt8} (hr : A.length + j = r) (hj : j < X.length) : (bs (A ++ (X ++ B))).set r (.int .u8 (v.toNat : Int)) = bs (A ++ (X.set j v ++ B)) := by
  rw [show (Value.int .u8 (v.toNat : Int)) = u8 v from rfl, bs_set, ← hr, List.set_append_right _ _ (by omega), Nat.add_sub_cancel_left, List.set_append_left _ _ hj]
def rB (gen k : Nat) : List UInt8 := (List.range 8).map fun j => if 8 ≤ j + k then UInt8.ofNat (gen / 256 ^ (7 - j) % 256) else 0
def rP0 (gen k : Nat) : List UInt8 := List.replicate 16 0 ++ (rB gen k ++ List.replicate 104 0)
theorem rP0_0 (gen : Nat) : rP0 gen 0 = secOf 0 := by
  have : rB gen 0 = List.replicate 8 0 := by
    rw [show List.replicate 8 (0 : UInt8) = (List.range 8).map fun _ => 0 from rfl, rB]
    apply List.map_congr_left
    intro j hj
    rw [if_neg (by have := List.mem_range.1 hj; omega)]
  rw [rP0, this, secOf]
  rfl
theorem rP0_8 (gen : Nat) : rP0 gen 8 = pS1 gen := by
  have : rB gen 8 = be gen 8 := by
    rw [rB, be]
    apply List.map_congr_left
    intro j hj
    rw [if_pos (by omega)]
  rw [rP0, this, pS1]
theorem rP0_len (gen k : Nat) : (rP0 gen k).length = 128 := by simp [rP0, rB]
theorem rP0_step {gen k : Nat} (h : k < 8) : (bs (rP0 gen k)).set (16 + (7 - k)) (.int .u8 ((UInt8.ofNat (gen / 256 ^ k % 256)).toNat : Int)) = bs (rP0 gen (k + 1)) := by
  rw [rP0, set_mid (j := 7 - k) (by simp) (by simp [rB]; omega), rP0]
  congr 3
  rw [rB, rB]
  have := map_set (fun j => if 8 ≤ j + k then UInt8.ofNat (gen / 256 ^ (7 - j) % 256) else 0) (fun j => if 8 ≤ j + (k + 1) then UInt8.ofNat (gen / 256 ^ (7 - j) % 256) else 0) 8 (7 - k) (fun j hj => by
    by_cases h1 : 8 ≤ j + k
    · simp [h1, show 8 ≤ j + (k + 1) by omega]
    · simp [h1, show ¬ 8 ≤ j + (k + 1) by omega])
  simp only [show 8 ≤ 7 - k + (k + 1) by omega, if_true, show 7 - (7 - k) = k by omega] at this
  exact this
def rP2 (gen : Nat) (body : List UInt8) (i : Nat) : List UInt8 := (List.replicate 16 0 ++ (be gen 8 ++ [UInt8.ofNat body.length])) ++ ((body.take i ++ List.replicate (103 - i) 0) ++ [])
theorem rP2_0 (gen : Nat) (body : List UInt8) : rP2 gen body 0 = pS2 gen body.length := by simp [rP2, pS2]
theorem rP2_len {gen : Nat} {body : List UInt8} {i : Nat} (h : body.length ≤ 103) (hi : i ≤ body.length) : (rP2 gen body i).length = 128 := by simp [rP2, be_length]; omega
theorem rP2_step {gen : Nat} {body : List UInt8} {i : Nat} (h : body.length ≤ 103) (hi : i < body.length) : (bs (rP2 gen body i)).set (25 + i) (.int .u8 ((body.getD i 0).toNat : Int)) = bs (rP2 gen body (i + 1)) := by
  have h0 : i - (body.take i).length = 0 := by simp; omega
  have e : body.getD i 0 = body[i] := by simp [List.getD, hi]
  rw [rP2, set_mid (j := i) (by simp [be_length]) (by simp; omega), rP2]
  congr 3
  rw [List.take_succ_eq_append_getElem hi, List.set_append_right _ _ (by simp; omega), h0, show 103 - i = (103 - (i + 1)) + 1 by omega, List.replicate_succ, List.set_cons_zero, e, List.append_assoc]
  rfl
theorem rP2_all {gen : Nat} {body : List UInt8} : rP2 gen body body.length = pS3 gen body := by simp [rP2, pS3, restS]
def rP4 (gen : Nat) (body x : List UInt8) (i : Nat) : List UInt8 := [] ++ ((x.take i ++ List.replicate (16 - i) 0) ++ restS gen body)
theorem rP4_0 (gen : Nat) (body x : List UInt8) : rP4 gen body x 0 = pS3 gen body := by simp [rP4, pS3]
theorem rP4_len {gen : Nat} {body x : List UInt8} {i : Nat} (h : body.length ≤ 103) (hx : x.length = 16) (hi : i ≤ 16) : (rP4 gen body x i).length = 128 := by simp [rP4, restS_len h]; omega
theorem rP4_step {gen : Nat} {body x : List UInt8} {i : Nat} (hx : x.length = 16) (hi : i < 16) : (bs (rP4 gen body x i)).set i (.int .u8 ((x.getD i 0).toNat : Int)) = bs (rP4 gen body x (i + 1)) := by
  have hl : i < x.length := by omega
  have h0 : i - (x.take i).length = 0 := by simp; omega
  have e : x.getD i 0 = x[i] := by simp [List.getD, hl]
  rw [rP4, set_mid (j := i) (by simp) (by simp; omega), rP4]
  congr 3
  rw [List.take_succ_eq_append_getElem hl, List.set_append_right _ _ (by simp; omega), h0, show 16 - i = (16 - (i + 1)) + 1 by omega, List.replicate_succ, List.set_cons_zero, e, List.append_assoc]
  rfl
theorem rP4_all {gen : Nat} {body x : List UInt8} (hx : x.length = 16) : rP4 gen body x 16 = x ++ restS gen body := by simp [rP4, List.take_of_length_le (show x.length ≤ 16 by omega)]
theorem be4 {a : Nat} (h : a < 4096) : be a 4 = [0, 0, UInt8.ofNat (a / 256), UInt8.ofNat (a % 256)] := by
  have h1 : a / 16777216 = 0 := by omega
  have h2 : a / 65536 = 0 := by omega
  have h3 : a / 256 % 256 = a / 256 := by omega
  simp [be, List.range_succ, h1, h2, h3]
theorem su_get {s : Sec} {i : Nat} (hs : s.length = 128) (hi : i < 8) : (bs s)[16 + i]? = some (u8 (((s.drop 16).take 8).getD i 0)) := by
  rw [bs_get]
  simp [List.getD, List.getElem?_take_of_lt hi, show 16 + i < s.length by omega]
/-! ### Laws -/
theorem getD_set_self {s : Sec} {i : Nat} {v : UInt8} (hi : i < s.length) (h : v = 0) : s.set i (s.getD i 0 ^^^ v) = s := by
  subst h
  apply List.ext_getElem?
  intro j
  rw [List.getElem?_set]
  by_cases e : i = j
  · subst e
    simp [hi, List.getD]
  · simp [e]
theorem bs_getD {s : List UInt8} {i : Nat} (h : i < s.length) : (bs s)[i]? = some (u8 (s.getD i 0)) := by
  rw [bs_get, List.getElem?_eq_getElem h]
  simp [List.getD, h]
theorem mod4096 (m : Nat) : (0 : Int) ≤ ((m % 4096 : Nat) : Int) ∧ ((m % 4096 : Nat) : Int) < 4096 := by omega
theorem packOk_mod (m : Nat) {body : List UInt8} (h : body.length ≤ 103) : packOk ((m % 4096 : Nat) : Int) body := ⟨(mod4096 m).1, (mod4096 m).2, h⟩
theorem unpB_no {a : Int} {s : Sec} (h : ¬ isS a s) : unpB a s = [] := if_neg h
theorem unp_ok {a : Int} {s : Sec} (hs : s.length = 128) (h : isS a s) : packOk a (unpB a s) := ⟨h.2.1, h.2.2.1, unpB_len hs⟩
theorem packR_apart {m k g1 g2 : Nat} {x y : List UInt8} (hx : x.length ≤ 103) (hy : y.length ≤ 103) (h1 : g1 < M64) (h2 : g2 < M64) (h : packR ((m % 4096 : Nat) : Int) g1 x = packR ((k % 4096 : Nat) : Int) g2 y) : g1 = g2 ∧ x = y := by
  rw [packR, if_pos (packOk_mod m hx), packR, if_pos (packOk_mod k hy)] at h
  exact packS_inj hx hy h1 h2 h
theorem packR_eq {m k g1 g2 : Nat} {x y : List UInt8} (hm : ((m % 4096 : Nat) : Int) = ((k % 4096 : Nat) : Int)) (h1 : g1 = g2) (h2 : x = y) : packR ((m % 4096 : Nat) : Int) g1 x = packR ((k % 4096 : Nat) : Int) g2 y := by rw [hm, h1, h2]
theorem ap_t {m k g1 g2 : Nat} {x y : List UInt8} (hx : x.length ≤ 103) (hy : y.length ≤ 103) (h1 : g1 < M64) (h2 : g2 < M64) (hm : ((m % 4096 : Nat) : Int) = ((k % 4096 : Nat) : Int)) (hg : g1 = g2) : (decide (packR ((m % 4096 : Nat) : Int) g1 x = packR ((k % 4096 : Nat) : Int) g2 y) == decide (x = y)) = true := by
  by_cases h : x = y
  · rw [decide_eq_true (packR_eq hm hg h), decide_eq_true h]; rfl
  · rw [decide_eq_false (fun e => h (packR_apart hx hy h1 h2 e).2), decide_eq_false h]; rfl
theorem ap_f {m k g1 g2 : Nat} {x y : List UInt8} (hx : x.length ≤ 103) (hy : y.length ≤ 103) (h1 : g1 < M64) (h2 : g2 < M64) (hg : ¬ g1 = g2) : (decide (packR ((m % 4096 : Nat) : Int) g1 x = packR ((k % 4096 : Nat) : Int) g2 y) == false) = true := by
  rw [decide_eq_false (fun e => hg (packR_apart hx hy h1 h2 e).1)]; rfl
theorem ap_n {m k g1 g2 : Nat} {x y : List UInt8} (hx : x.length ≤ 103) (hy : y.length ≤ 103) (h1 : g1 < M64) (h2 : g2 < M64) (h : ¬ (g1 = g2 ∧ x = y)) : (!decide (packR ((m % 4096 : Nat) : Int) g1 x = packR ((k % 4096 : Nat) : Int) g2 y)) = true := by
  rw [decide_eq_false (fun e => h (packR_apart hx hy h1 h2 e))]; rfl
theorem good_ok {a : Int} {gen : Nat} {x : List UInt8} (hg : gen < M64) (hx : x.length ≤ 103) : decide (isS a (packR a gen x)) = decide (packOk a x) := by
  by_cases h : packOk a x
  · rw [decide_eq_true h, decide_eq_true (unp_packR h hg).1]
  · rw [decide_eq_false h, decide_eq_false (fun hi => h ⟨hi.2.1, hi.2.2.1, hx⟩)]
/-- The document's example. -/
abbrev abc : List UInt8 := [97, 98, 99]
def abcS : Sec := packS 5 7 abc
theorem abc_other : ¬ isS 6 abcS := fun h => by
  have h1 : packS 6 7 abc = packS 5 7 abc := by
    have := h.2.2.2
    rwa [abcS, packS_gen (by decide), packS_body (by decide)] at this
  revert h1
  decide +kernel
theorem abc_R : packR 5 7 abc = abcS := if_pos ⟨by decide, by decide, by decide⟩
theorem abc_len : abcS.length = 128 := packS_len (by decide)
theorem abc_unp : unpG 5 abcS = 7 ∧ unpB 5 abcS = abc ∧ isS 5 abcS := by
  have h := unp_packR (a := 5) (gen := 7) (body := abc) ⟨by decide, by decide, by decide⟩ (by decide)
  rw [abc_R] at h
  exact ⟨h.2.1, h.2.2, h.1⟩
theorem abc_3 : (bs abcS)[24]? = some (.int .u8 3) := by
  rw [bs_get, abcS, packS, List.getElem?_append_right (by rw [sumS_len]; decide), sumS_len]
  rfl
theorem abc_is : isS 5 abcS := packS_isS (a := 5) ⟨by decide, by decide, by decide⟩ (by decide)
end Go.Sl

/- Facts of the translation's types, for the kernel (own work, by a program of this repo). -/
namespace Go.Proofs.Ytjjiclgbdenkkaa
open Go.Sl
theorem us_3 : (Try.prog.underlying 3).isSome = true := by kernel_rfl
theorem us_5 : (Try.prog.underlying 5).isSome = true := by kernel_rfl
end Go.Proofs.Ytjjiclgbdenkkaa

/- walks (own work; the walks' lines by a program of this repo). -/
set_option linter.unusedVariables false
set_option linter.unusedSimpArgs false
set_option maxRecDepth 20000
namespace Go.Proofs.Ytjjiclgbdenkkaa
open Go.Sl
attribute [local irreducible] BodyQ WpC WpL WpS WpH OpW FnS


theorem good09_s {w0 : World} {H : Hp} (n : Int) (s : Sec) (hs : s.length = 128) : FnS Try.prog w0 18 #[.int .i64 n, .agg (bs s).toArray] H (fun e H' => e = .returned (.bool (goodP n s)) ∧ H' = H) := by
  have b0 := (s.getD 0 0).toNat_lt
  have b1 := (s.getD 1 0).toNat_lt
  refine FnS_intro (n := 16) (rs := [.tmp 4]) (vs := [.int .i64 n, .agg (bs s).toArray]) Try.func18 rfl Try.ntmps18 rfl rfl ?_
  refine C_seq ?_
  refine C_region ?_
  refine L_op rfl (op_box rfl rfl rfl (fun B1 => ?_))
  refine L_y rfl (y_assign rfl) rfl ?_
  refine L_nil ?_
  refine C_seq ?_
  refine C_region ?_
  refine L_y rfl (y_indexA rfl rfl Try.underlying32 sz_5 (by omega) (by omega) (show _ = 0 from rfl)) rfl ?_
  refine L_y rfl (y_load rfl ag_5 (sees 0 0 rfl) (bs_getD (by omega))) rfl ?_
  refine L_y rfl (y_conv rfl us_5 Try.underlying3 (wi64 (by omega) (by omega))) rfl ?_
  refine L_y rfl (y_indexA rfl rfl Try.underlying32 sz_5 (by omega) (by omega) (show _ = 1 from rfl)) rfl ?_
  refine L_y rfl (y_load rfl ag_5 (sees 0 0 rfl) (bs_getD (by omega))) rfl ?_
  refine L_y rfl (y_conv rfl us_5 Try.underlying3 (wi64 (by omega) (by omega))) rfl ?_
  refine L_y rfl (y_add rfl rfl (wi64 (by omega) (by omega))) rfl ?_
  refine L_y rfl (y_move rfl) rfl ?_
  refine L_y rfl (y_add rfl rfl rfl) rfl ?_
  refine L_y rfl (y_rem rfl rfl (by decide) rfl) rfl ?_
  refine L_y rfl (y_nei rfl rfl) rfl ?_
  refine L_y rfl (y_assign rfl) rfl ?_
  refine L_nil ?_
  refine C_ret ?_
  refine B_ret (rv_tmp rfl rv_nil) (hsub (.cons _ (.refl _))) ?_
  exact ⟨rfl, rfl⟩

theorem good_at {w0 : World} {H : Hp} : GoodAt Try.prog w0 H (.func (.func 18) #[] ([] : List Value).toArray) goodP := .inr ⟨18, [], rfl, fun a w => Try.call18 a w, fun H' n s _ hs => good09_s n s hs⟩

end Go.Proofs.Ytjjiclgbdenkkaa

/- A mirror of two that are there: what is written, flushed, spoilt, and new (own work). -/
set_option linter.unusedVariables false
set_option linter.unusedSimpArgs false
namespace Go.Sl
section
variable {A : Da} {K : Nat} {X Y : List Sec} {k0 k1 n : Nat} {s : Sec} {ask : Da → Bool → Bool}
theorem Vw.side (h : Vw A K X Y k0 k1) (i : Bool) (hn : n < K) (hs : s.length = 128) (ha : ask A i = false → (pick2 i X Y)[n]? = some s) :
    pd A i ask n = true ∧ Vw (pA A i ask n s) K (if i then X else X.set n s) (if i then Y.set n s else Y) (if i then k0 else k0 + 1) (if i then k1 + 1 else k1) := by
  obtain ⟨w1, w2⟩ := h.write (n := n) (s := s) i hn hs
  unfold pd pA
  rw [h.thr i]
  cases hk : ask A i
  · have hX := ha hk
    refine ⟨by simp, ?_⟩
    simp only [Bool.and_false, Bool.false_eq_true, if_false]
    cases i
    · simp only [pick2, Bool.false_eq_true, if_false] at hX ⊢
      rw [set_self hX]
      exact h.mono (Nat.le_succ _) (Nat.le_refl _)
    · simp only [pick2, if_true] at hX ⊢
      rw [set_self hX]
      exact h.mono (Nat.le_refl _) (Nat.le_succ _)
  · refine ⟨by simp [w1], ?_⟩
    simp only [Bool.and_self, if_true]
    exact w2
/-- Is it asked for only where something else stands? -/
def AskOk (K : Nat) (n : Nat) (s : Sec) (ask : Da → Bool → Bool) : Prop := ∀ A X Y k0 k1, Vw A K X Y k0 k1 → ∀ i, ask A i = false → (pick2 i X Y)[n]? = some s
theorem askok_all (K n : Nat) (s : Sec) : AskOk K n s askAll := fun A X Y k0 k1 h i hi => by cases hi
theorem askok_new {K n : Nat} (hn : n < K) (s : Sec) : AskOk K n s (askNew n s) := fun A X Y k0 k1 h i hi => by
  have hl := (h.dev i).wlen
  obtain ⟨u, hu⟩ : ∃ u, (pick2 i X Y)[n]? = some u := ⟨_, gt_get hl hn⟩
  obtain ⟨r, e⟩ := h.reads i hu
  unfold askNew at hi
  rw [r, e] at hi
  have : u = s := by simpa using hi
  rw [← this]; exact hu
theorem Vw.put (h : Vw A K X Y k0 k1) {m : Mi} (hm : m.n = K) (z0 : m.k0 = []) (z1 : m.k1 = []) (hn : n < K) (hs : s.length = 128) (ha : AskOk K n s ask) :
    putE m A ask n s = 0 ∧ putm m A ask n s = m ∧ Vw (putDa m A ask n s) K (X.set n s) (Y.set n s) (k0 + 1) (k1 + 1) := by
  obtain ⟨d0, v0⟩ := h.side (n := n) (s := s) (ask := ask) false hn hs (ha _ _ _ _ _ h false)
  simp only [Bool.false_eq_true, if_false] at v0
  obtain ⟨d1, v1⟩ := v0.side (n := n) (s := s) (ask := ask) true hn hs (ha _ _ _ _ _ v0 true)
  simp only [if_true] at v1
  have hh : m.has (n : Int) = true := by simp [Mi.has]; omega
  refine ⟨?_, ?_, ?_⟩
  · unfold putE putD; rw [hh, d0]; rfl
  · unfold putm putD; rw [hh, d0, d1]
    obtain ⟨b, r0, r1, bx, bys, n', gv, l0, c0, l1, c1⟩ := m
    simp only at z0 z1
    subst z0 z1
    rfl
  · unfold putDa putA; rw [hh]; exact v1
theorem Vw.mfl (h : Vw A K X Y k0 k1) : (Sl.mfl A).2 = 0 ∧ Vw (Sl.mfl A).1 K X Y 0 0 := by
  obtain ⟨e0, v0⟩ := h.flush false
  simp only [Bool.false_eq_true, if_false] at v0
  obtain ⟨e1, v1⟩ := v0.flush true
  simp only [if_true] at v1
  unfold Sl.mfl fl1
  rw [h.thr false, h.thr true]
  simp only [if_true, e0, e1]
  exact ⟨trivial, v1⟩
/-- A byte of a sector is spoilt. -/
def rotB (s : Sec) (j : Nat) (c : UInt8) : Sec := s.set j (s.getD j 0 ^^^ c)
theorem rotB_len {s : Sec} {j : Nat} {c : UInt8} : (rotB s j c).length = s.length := by simp [rotB]
theorem RdW.rot {a : Ab} {W : List Sec} {j : Nat} {c : UInt8} (h : RdW K W a 0) (hn : W[n]? = some s) : RdW K (W.set n (rotB s j c)) (a.rot n j c) 0 := by
  obtain ⟨hq, hS⟩ := h.stable
  have hlt : n < K := by have := (List.getElem?_eq_some_iff.1 hn).1; have := h.wlen; omega
  have hg : a.S.getD n [] = s := by rw [hS]; simp [List.getD, hn]
  refine ⟨Ab.rot_ok h.ok (by rw [h.len]; exact hlt), by simp [Ab.rot, h.len], h.out, h.lies, by simp [Ab.rot, hq], by simpa using h.wlen, fun k u hk => ?_⟩
  have : (a.rot n j c).read k = (W.set n (rotB s j c)).getD k [] := by
    simp only [Ab.read, Ab.rot, hq, lastW, List.reverse_nil, List.find?_nil, Option.map_none, Option.getD_none, hg]
    rw [hS]; rfl
  rw [this]; simp [List.getD, hk]
theorem Vw.rot {i : Bool} {j : Nat} {c : UInt8} (h : Vw A K X Y 0 0) (hn : (pick2 i X Y)[n]? = some s) (hj : j < 128) :
    (A.dev i).rotE (n : Int) (j : Int) = true ∧ Vw (A.setd i ((A.dev i).rots (n : Int) (j : Int) c)) K (if i then X else X.set n (rotB s j c)) (if i then Y.set n (rotB s j c) else Y) 0 0 := by
  have hd := h.dev i
  have hlt : n < K := by have := (List.getElem?_eq_some_iff.1 hn).1; have := hd.wlen; omega
  have e : (A.dev i).rotE (n : Int) (j : Int) = true := by unfold Ab.rotE; rw [hd.has]; simp; omega
  refine ⟨e, ?_⟩
  unfold Ab.rots
  rw [e]
  simp only [if_true, Int.toNat_natCast]
  have hc := Da.calm_setd h.calm i ((A.dev i).rot n j c)
  cases i
  · exact ⟨hc, h.a.rot hn, h.b⟩
  · exact ⟨hc, h.a, h.b.rot hn⟩
end
section
variable {t : DT} {gv : Value} {D D' : Duo} {A A' : Da} {m : Mi} {K : Nat} {X Y X' Y' : List Sec} {k0 k1 j0 j1 mb bx bys bp : Nat} {p : Int → Sec → Bool} {n : Nat} {u v s : Sec}
theorem Ms.with {bq : Nat} (h : Ms t gv D A m K X Y k0 k1 mb bx bys bp) (hT : Two t D' A' bx bys bq) (hv : Vw A' K X' Y' j0 j1) (hx : ∀ s ∈ X', s.length = 128) (hy : ∀ s ∈ Y', s.length = 128) : Ms t gv D' A' m K X' Y' j0 j1 mb bx bys bq :=
  ⟨hT, hv, h.mb, h.bx, h.bys, h.n, h.s0, h.s1, h.gv, hx, hy⟩
theorem set_ok2 {X : List Sec} (h : ∀ s ∈ X, s.length = 128) (hs : s.length = 128) : ∀ u ∈ X.set n s, u.length = 128 := fun u hu => by
  rcases List.mem_or_eq_of_mem_set hu with h1 | rfl
  · exact h u h1
  · exact hs
/-- A mirror that has just been made of two. -/
theorem Ms.new (hT : Two t D A bx bys bp) (hv : Vw A K X Y k0 k1) (b r0 r1 : Nat) (hX : ∀ s ∈ X, s.length = 128) (hY : ∀ s ∈ Y, s.length = 128) : Ms t gv D A (mnew A bx bys gv b r0 r1) K X Y k0 k1 b bx bys bp := by
  have ht0 := hv.thr false
  have ht1 := hv.thr true
  have hl0 := hv.a.len
  have hl1 := hv.b.len
  refine ⟨hT, hv, rfl, rfl, rfl, ?_, ?_, ?_, rfl, hX, hY⟩
  · show min _ _ = _; rw [hl0, hl1]; omega
  · show stale0 _ _ = []; rw [ht0]; rfl
  · show stale0 _ _ = []; rw [ht1]; rfl
end
end Go.Sl

