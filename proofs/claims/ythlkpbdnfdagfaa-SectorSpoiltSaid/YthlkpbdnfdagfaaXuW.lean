/- walks (own work; the walks' lines by a program of this repo). -/
import Derived.Test.YthlkpbdnfdagfaaXpW
set_option linter.unusedVariables false
set_option linter.unusedSimpArgs false
set_option maxRecDepth 20000
namespace Go.Proofs.Ythlkpbdnfdagfaa
open Go.Sl
attribute [local irreducible] BodyQ WpC WpL WpS WpH OpW FnS


theorem pack_r {w0 : World} {H : Hp} {zc : List Value} {pa : Option Addr} {cap : Nat} (gen : Nat) (hg : gen < M64) (body : List UInt8) (hB : Holds w0 H pa (bs body)) (a : Int) : FnS Try.prog w0 11 #[.iface 33 (.agg zc.toArray), .int .i64 a, .int .u64 (gen : Int), .slice pa body.length cap] H (fun e H' => e = .returned (.tuple #[.agg (bs (packR a gen body)).toArray, .bool (decide (packOk a body))]) ∧ H' = H) := by
  by_cases h : packOk a body
  · obtain ⟨m, rfl⟩ : ∃ m : Nat, a = m := ⟨a.toNat, by omega⟩
    refine (pack_ok gen hg body hB m (by have := h.2.1; omega) h.2.2).mono ?_
    rintro _ _ ⟨rfl, rfl⟩
    exact ⟨by rw [show packR ((m : Nat) : Int) gen body = packS m gen body from if_pos h, decide_eq_true h], rfl⟩
  · refine (pack_no gen hg body hB a h).mono ?_
    rintro _ _ ⟨rfl, rfl⟩
    exact ⟨by rw [show packR a gen body = secOf 0 from if_neg h, decide_eq_false h], rfl⟩
theorem pack_v {zc : List Value} {w0 : World} {H : Hp} {v : Value} (gen : Nat) (hg : gen < M64) (body : List UInt8) (hv : SlH w0 H v body) (a : Int) : FnS Try.prog w0 11 #[.iface 33 (.agg zc.toArray), .int .i64 a, .int .u64 (gen : Int), v] H (fun e H' => e = .returned (.tuple #[.agg (bs (packR a gen body)).toArray, .bool (decide (packOk a body))]) ∧ H' = H) := by
  obtain ⟨pa, cap, rfl, hB⟩ := hv
  exact pack_r gen hg body hB a
theorem packn_v {w0 : World} {H : Hp} {v : Value} (gen : Nat) (hg : gen < M64) (body : List UInt8) (hv : SlH w0 H v body) (a : Int) : FnS Try.prog w0 11 #[.nilIface, .int .i64 a, .int .u64 (gen : Int), v] H (fun e H' => e = .returned (.tuple #[.agg (bs (secOf 0)).toArray, .bool false]) ∧ H' = H) := by
  obtain ⟨pa, cap, rfl, hB⟩ := hv
  exact pack_nil (zc := []) gen hg body hB a

theorem cloneb_s {w0 : World} {H : Hp} {x : Addr} {m cap : Nat} (vs : List Value) (hs : Src Try.prog w0 H 1 (.slice (some x) m cap) m vs) (hv : vs.length = m * 1) (ho : ∀ v ∈ vs, one v = true) (hm : m ≤ 100000) : FnS Try.prog w0 30 #[.slice (some x) m cap] H (fun e H' => ∃ g, slOk 1 g m vs ∧ e = .returned (slV g m) ∧ H' = slSeg 5 g vs :: H) := by
  refine FnS_intro (n := 8) (rs := [.tmp 2]) (vs := [.slice (some x) m cap]) Try.func30 rfl Try.ntmps30 rfl rfl ?_
  refine C_seq ?_
  refine C_region ?_
  refine L_y rfl (y_assign rfl) rfl ?_
  refine L_nil ?_
  refine C_seq ?_
  refine C_seq ?_
  refine C_region ?_
  refine L_y rfl (y_move rfl) rfl ?_
  refine L_y rfl (y_eqs rfl rfl Try.underlying23) rfl ?_
  refine L_nil ?_
  refine C_cond_f rfl ?_
  refine C_skip ?_
  refine C_seq ?_
  refine C_region ?_
  refine L_op rfl (op_buildSlice (vs := []) rfl Try.underlying23 sz_5 zl_5 rfl (by decide) rfl rfl (fun B1 => ?_))
  refine L_y rfl (y_move rfl) rfl ?_
  refine L_op rfl (op_append (gs := some ⟨B1, 0, []⟩) (len := 0) (m := m) (xs := []) (vs := vs) 0 rfl rfl rfl ⟨rfl, rfl, Nat.le_refl _⟩ hs.up hv ho Try.underlying23 ni_23 sz_5 by_5 (by decide) zl_5 rfl (by omega) rfl (fun g hg => ?_))
  rw [Nat.zero_add, List.nil_append] at hg ⊢
  refine L_y rfl (y_assign rfl) rfl ?_
  refine L_nil ?_
  refine C_ret ?_
  refine B_ret (rv_tmp rfl rv_nil) (HSub.refl _) ?_
  exact ⟨g, hg, rfl, rfl⟩

theorem unp_l {w0 : World} {H : Hp} {zc : List Value} (a : Int) (s : Sec) (hs : s.length = 128) (hl : ¬ lenS s ≤ 103) : FnS Try.prog w0 14 #[.iface 33 (.agg zc.toArray), .int .i64 a, .agg (bs s).toArray] H (fun e H' => e = .returned (.tuple #[.int .u64 0, .slice none 0 0, .bool false]) ∧ H' = H) := by
  refine FnS_intro (n := 47) (rs := [.tmp 6, .tmp 7, .tmp 8]) (vs := [.iface 33 (.agg zc.toArray), .int .i64 a, .agg (bs s).toArray]) Try.func14 rfl Try.ntmps14 rfl rfl ?_
  refine C_seq ?_
  refine C_region ?_
  refine L_op rfl (op_box rfl rfl rfl (fun B1 => ?_))
  refine L_y rfl (y_assign rfl) rfl ?_
  refine L_y rfl (y_assign rfl) rfl ?_
  refine L_y rfl (y_assign rfl) rfl ?_
  refine L_nil ?_
  refine C_seq ?_
  have hb := (s.getD 24 0).toNat_lt
  have h24 : (bs s)[24]? = some (u8 (s.getD 24 0)) := by rw [bs_get]; simp [List.getD, show 24 < s.length by omega]
  refine C_region ?_
  refine L_y rfl (y_indexA rfl rfl Try.underlying26 sz_5 (by omega) (by omega) rfl) rfl ?_
  refine L_y rfl (y_load rfl ag_5 (sees 0 0 rfl) h24) rfl ?_
  refine L_y rfl (y_conv rfl us_5 Try.underlying3 (show _ = ((lenS s : Nat) : Int) from wi64 (by omega) (by omega))) rfl ?_
  refine L_y rfl (y_assign rfl) rfl ?_
  refine L_nil ?_
  refine C_seq ?_
  refine C_seq ?_
  have hl0 : lenS s < 256 := hb
  refine C_region ?_
  refine L_y rfl (y_move rfl) rfl ?_
  refine L_y rfl (y_eqIf rfl rfl if_66) rfl ?_
  refine L_y rfl (y_move rfl) rfl ?_
  refine L_y rfl (y_move rfl) rfl ?_
  refine L_y rfl (y_gtr rfl rfl) rfl ?_
  refine L_y rfl (y_pick_f rfl rfl) rfl ?_
  refine L_nil ?_
  refine C_cond rfl (fun hc0 => ?_) (fun hc0 => absurd hc0 (by simp <;> omega))
  refine C_seq ?_
  refine C_region ?_
  refine L_y rfl (y_assign rfl) rfl ?_
  refine L_y rfl (y_assign rfl) rfl ?_
  refine L_y rfl (y_assign rfl) rfl ?_
  refine L_nil ?_
  refine C_ret ?_
  refine B_ret (rv_tmp rfl (rv_tmp rfl (rv_tmp rfl rv_nil))) (hsub (.cons _ (.refl _))) ?_
  exact ⟨rfl, rfl⟩

theorem unp_n1 {w0 : World} {H : Hp} {zc : List Value} (a : Int) (s : Sec) (hs : s.length = 128) (hl : lenS s ≤ 103) (hp : ¬ packOk a (bodyS s)) : FnS Try.prog w0 14 #[.iface 33 (.agg zc.toArray), .int .i64 a, .agg (bs s).toArray] H (fun e H' => e = .returned (.tuple #[.int .u64 0, .slice none 0 0, .bool false]) ∧ H' = H) := by
  refine FnS_intro (n := 47) (rs := [.tmp 6, .tmp 7, .tmp 8]) (vs := [.iface 33 (.agg zc.toArray), .int .i64 a, .agg (bs s).toArray]) Try.func14 rfl Try.ntmps14 rfl rfl ?_
  refine C_seq ?_
  refine C_region ?_
  refine L_op rfl (op_box rfl rfl rfl (fun B1 => ?_))
  refine L_y rfl (y_assign rfl) rfl ?_
  refine L_y rfl (y_assign rfl) rfl ?_
  refine L_y rfl (y_assign rfl) rfl ?_
  refine L_nil ?_
  refine C_seq ?_
  have hb := (s.getD 24 0).toNat_lt
  have h24 : (bs s)[24]? = some (u8 (s.getD 24 0)) := by rw [bs_get]; simp [List.getD, show 24 < s.length by omega]
  refine C_region ?_
  refine L_y rfl (y_indexA rfl rfl Try.underlying26 sz_5 (by omega) (by omega) rfl) rfl ?_
  refine L_y rfl (y_load rfl ag_5 (sees 0 0 rfl) h24) rfl ?_
  refine L_y rfl (y_conv rfl us_5 Try.underlying3 (show _ = ((lenS s : Nat) : Int) from wi64 (by omega) (by omega))) rfl ?_
  refine L_y rfl (y_assign rfl) rfl ?_
  refine L_nil ?_
  refine C_seq ?_
  refine C_seq ?_
  have hl0 : lenS s < 256 := hb
  refine C_region ?_
  refine L_y rfl (y_move rfl) rfl ?_
  refine L_y rfl (y_eqIf rfl rfl if_66) rfl ?_
  refine L_y rfl (y_move rfl) rfl ?_
  refine L_y rfl (y_move rfl) rfl ?_
  refine L_y rfl (y_gtr rfl rfl) rfl ?_
  refine L_y rfl (y_pick_f rfl rfl) rfl ?_
  refine L_nil ?_
  refine C_cond rfl (fun hc0 => absurd hc0 (by simp <;> omega)) (fun hc0 => ?_)
  refine C_skip ?_
  refine C_seq ?_
  refine C_region ?_
  refine L_y rfl (y_sliceA2 (r := 16) (q := 8) (q' := 112) rfl rfl rfl Try.underlying26 sz_5 (by decide) (by decide) (by decide) rfl rfl rfl) rfl ?_
  refine L_op rfl (op_call rfl rfl (fun a w => Try.call29 a w) rfl ?_)
  refine FnS.mono (get_s ((s.drop 16).take 8) (sees 0 0 rfl) (by rw [bs_drop, bs_take]) (by simp [hs]) (by decide) (by decide)) ?_
  rintro _ _ ⟨rfl, rfl⟩
  refine ⟨_, rfl, ?_⟩
  refine L_y rfl (y_move rfl) rfl ?_
  refine L_y rfl (y_extract rfl rfl) rfl ?_
  refine L_y rfl (y_extract rfl rfl) rfl ?_
  refine L_y rfl (y_assign rfl) rfl ?_
  refine L_nil ?_
  refine C_seq ?_
  refine C_region ?_
  refine L_y rfl (y_move rfl) rfl ?_
  refine L_y rfl (y_add rfl rfl (show _ = ((25 + lenS s : Nat) : Int) from by rw [wi64 (by omega) (by omega)]; omega)) rfl ?_
  refine L_y rfl (y_sliceA2 (r := 25) (q := lenS s) (q' := 103) rfl rfl rfl Try.underlying26 sz_5 (by decide) (by omega) (by omega) rfl (by omega) rfl) rfl ?_
  refine L_op rfl (op_call rfl rfl (fun a w => Try.call30 a w) rfl ?_)
  refine (cloneb_s (bs (bodyS s)) (src_slice (sees 0 0 rfl) (by rw [bs_length, hs]; omega) (by rw [Nat.mul_one, bs_drop, bs_take]; rfl)) (by rw [bs_length, bodyS_len hs hl, Nat.mul_one]) (bs_one _) (by omega)).mono ?_
  rintro _ _ ⟨g, hgo, rfl, rfl⟩
  refine ⟨_, rfl, ?_⟩
  refine L_y rfl (y_assign rfl) rfl ?_
  refine L_nil ?_
  refine C_seq ?_
  refine C_seq ?_
  refine C_region ?_
  refine L_y rfl (y_move rfl) rfl ?_
  refine L_y rfl (y_move rfl) rfl ?_
  refine L_y rfl (y_move rfl) rfl ?_
  refine L_y rfl (y_move rfl) rfl ?_
  refine L_op rfl (op_call rfl rfl (fun a w => Try.call11 a w) rfl ?_)
  refine FnS.mono (pack_v (genS s) genS_lt (bodyS s) (slh_v 0 rfl hgo (bodyS_len hs hl)) a) ?_
  rintro _ _ ⟨rfl, rfl⟩
  rw [show decide (packOk a (bodyS s)) = false from by simp [hp]]
  refine ⟨_, rfl, ?_⟩
  refine L_y rfl (y_move rfl) rfl ?_
  refine L_y rfl (y_extract rfl rfl) rfl ?_
  refine L_y rfl (y_extract rfl rfl) rfl ?_
  refine L_op rfl (op_alloc zl_26 rfl (fun B2 => ?_))
  refine L_op rfl (op_storeA 0 0 rfl rfl rfl sz_26 (by rw [bs_length, packR_len]) rfl (bs_one _) (by simp) ?_)
  refine L_y rfl (y_assign rfl) rfl ?_
  refine L_nil ?_
  refine C_seq ?_
  refine C_region ?_
  refine L_y rfl (y_move rfl) rfl ?_
  refine L_y rfl (y_not rfl) rfl ?_
  refine L_y rfl (y_move rfl) rfl ?_
  refine L_skip rfl rfl ?_
  refine L_skip rfl rfl ?_
  refine L_skip rfl rfl ?_
  refine L_y rfl (y_pick_t rfl rfl) rfl ?_
  refine L_nil ?_
  refine C_cond_t rfl ?_
  refine C_seq ?_
  refine C_region ?_
  refine L_y rfl (y_assign rfl) rfl ?_
  refine L_y rfl (y_assign rfl) rfl ?_
  refine L_y rfl (y_assign rfl) rfl ?_
  refine L_nil ?_
  refine C_ret ?_
  refine B_ret (rv_tmp rfl (rv_tmp rfl (rv_tmp rfl rv_nil))) (hsub (.cons _ (.cons _ (.cons _ (.refl _))))) ?_
  exact ⟨rfl, rfl⟩

theorem unp_n2 {w0 : World} {H : Hp} {zc : List Value} (a : Int) (s : Sec) (hs : s.length = 128) (hl : lenS s ≤ 103) (hp : packOk a (bodyS s)) (hne : ¬ packR a (genS s) (bodyS s) = s) : FnS Try.prog w0 14 #[.iface 33 (.agg zc.toArray), .int .i64 a, .agg (bs s).toArray] H (fun e H' => e = .returned (.tuple #[.int .u64 0, .slice none 0 0, .bool false]) ∧ H' = H) := by
  refine FnS_intro (n := 47) (rs := [.tmp 6, .tmp 7, .tmp 8]) (vs := [.iface 33 (.agg zc.toArray), .int .i64 a, .agg (bs s).toArray]) Try.func14 rfl Try.ntmps14 rfl rfl ?_
  refine C_seq ?_
  refine C_region ?_
  refine L_op rfl (op_box rfl rfl rfl (fun B1 => ?_))
  refine L_y rfl (y_assign rfl) rfl ?_
  refine L_y rfl (y_assign rfl) rfl ?_
  refine L_y rfl (y_assign rfl) rfl ?_
  refine L_nil ?_
  refine C_seq ?_
  have hb := (s.getD 24 0).toNat_lt
  have h24 : (bs s)[24]? = some (u8 (s.getD 24 0)) := by rw [bs_get]; simp [List.getD, show 24 < s.length by omega]
  refine C_region ?_
  refine L_y rfl (y_indexA rfl rfl Try.underlying26 sz_5 (by omega) (by omega) rfl) rfl ?_
  refine L_y rfl (y_load rfl ag_5 (sees 0 0 rfl) h24) rfl ?_
  refine L_y rfl (y_conv rfl us_5 Try.underlying3 (show _ = ((lenS s : Nat) : Int) from wi64 (by omega) (by omega))) rfl ?_
  refine L_y rfl (y_assign rfl) rfl ?_
  refine L_nil ?_
  refine C_seq ?_
  refine C_seq ?_
  have hl0 : lenS s < 256 := hb
  refine C_region ?_
  refine L_y rfl (y_move rfl) rfl ?_
  refine L_y rfl (y_eqIf rfl rfl if_66) rfl ?_
  refine L_y rfl (y_move rfl) rfl ?_
  refine L_y rfl (y_move rfl) rfl ?_
  refine L_y rfl (y_gtr rfl rfl) rfl ?_
  refine L_y rfl (y_pick_f rfl rfl) rfl ?_
  refine L_nil ?_
  refine C_cond rfl (fun hc0 => absurd hc0 (by simp <;> omega)) (fun hc0 => ?_)
  refine C_skip ?_
  refine C_seq ?_
  refine C_region ?_
  refine L_y rfl (y_sliceA2 (r := 16) (q := 8) (q' := 112) rfl rfl rfl Try.underlying26 sz_5 (by decide) (by decide) (by decide) rfl rfl rfl) rfl ?_
  refine L_op rfl (op_call rfl rfl (fun a w => Try.call29 a w) rfl ?_)
  refine FnS.mono (get_s ((s.drop 16).take 8) (sees 0 0 rfl) (by rw [bs_drop, bs_take]) (by simp [hs]) (by decide) (by decide)) ?_
  rintro _ _ ⟨rfl, rfl⟩
  refine ⟨_, rfl, ?_⟩
  refine L_y rfl (y_move rfl) rfl ?_
  refine L_y rfl (y_extract rfl rfl) rfl ?_
  refine L_y rfl (y_extract rfl rfl) rfl ?_
  refine L_y rfl (y_assign rfl) rfl ?_
  refine L_nil ?_
  refine C_seq ?_
  refine C_region ?_
  refine L_y rfl (y_move rfl) rfl ?_
  refine L_y rfl (y_add rfl rfl (show _ = ((25 + lenS s : Nat) : Int) from by rw [wi64 (by omega) (by omega)]; omega)) rfl ?_
  refine L_y rfl (y_sliceA2 (r := 25) (q := lenS s) (q' := 103) rfl rfl rfl Try.underlying26 sz_5 (by decide) (by omega) (by omega) rfl (by omega) rfl) rfl ?_
  refine L_op rfl (op_call rfl rfl (fun a w => Try.call30 a w) rfl ?_)
  refine (cloneb_s (bs (bodyS s)) (src_slice (sees 0 0 rfl) (by rw [bs_length, hs]; omega) (by rw [Nat.mul_one, bs_drop, bs_take]; rfl)) (by rw [bs_length, bodyS_len hs hl, Nat.mul_one]) (bs_one _) (by omega)).mono ?_
  rintro _ _ ⟨g, hgo, rfl, rfl⟩
  refine ⟨_, rfl, ?_⟩
  refine L_y rfl (y_assign rfl) rfl ?_
  refine L_nil ?_
  refine C_seq ?_
  refine C_seq ?_
  refine C_region ?_
  refine L_y rfl (y_move rfl) rfl ?_
  refine L_y rfl (y_move rfl) rfl ?_
  refine L_y rfl (y_move rfl) rfl ?_
  refine L_y rfl (y_move rfl) rfl ?_
  refine L_op rfl (op_call rfl rfl (fun a w => Try.call11 a w) rfl ?_)
  refine FnS.mono (pack_v (genS s) genS_lt (bodyS s) (slh_v 0 rfl hgo (bodyS_len hs hl)) a) ?_
  rintro _ _ ⟨rfl, rfl⟩
  rw [show decide (packOk a (bodyS s)) = true from by simp [hp]]
  refine ⟨_, rfl, ?_⟩
  refine L_y rfl (y_move rfl) rfl ?_
  refine L_y rfl (y_extract rfl rfl) rfl ?_
  refine L_y rfl (y_extract rfl rfl) rfl ?_
  refine L_op rfl (op_alloc zl_26 rfl (fun B2 => ?_))
  refine L_op rfl (op_storeA 0 0 rfl rfl rfl sz_26 (by rw [bs_length, packR_len]) rfl (bs_one _) (by simp) ?_)
  refine L_y rfl (y_assign rfl) rfl ?_
  refine L_nil ?_
  refine C_seq ?_
  refine C_region ?_
  refine L_y rfl (y_move rfl) rfl ?_
  refine L_y rfl (y_not rfl) rfl ?_
  refine L_y rfl (y_move rfl) rfl ?_
  refine L_y rfl (y_loadA rfl ag_26 sz_26 (sees 0 0 rfl) (by rw [bs_length, packR_len]; decide) (bs_whole0 _ (packR_len _ _ _))) rfl ?_
  refine L_y rfl (y_loadA rfl ag_26 sz_26 (sees 2 0 rfl) (by rw [bs_length, hs]; decide) (bs_whole0 _ hs)) rfl ?_
  refine L_y rfl (y_nea rfl rfl Try.underlying26 Try.underlying5 sz_5 eg_26 (packR_len _ _ _) hs) rfl ?_
  refine L_y rfl (y_pick_f rfl rfl) rfl ?_
  refine L_nil ?_
  refine C_cond rfl (fun hc1 => ?_) (fun hc1 => absurd hc1 (by simp [hne]))
  refine C_seq ?_
  refine C_region ?_
  refine L_y rfl (y_assign rfl) rfl ?_
  refine L_y rfl (y_assign rfl) rfl ?_
  refine L_y rfl (y_assign rfl) rfl ?_
  refine L_nil ?_
  refine C_ret ?_
  refine B_ret (rv_tmp rfl (rv_tmp rfl (rv_tmp rfl rv_nil))) (hsub (.cons _ (.cons _ (.cons _ (.refl _))))) ?_
  exact ⟨rfl, rfl⟩

theorem unp_y {w0 : World} {H : Hp} {zc : List Value} (a : Int) (s : Sec) (hs : s.length = 128) (hl : lenS s ≤ 103) (hp : packOk a (bodyS s)) (he : packR a (genS s) (bodyS s) = s) : FnS Try.prog w0 14 #[.iface 33 (.agg zc.toArray), .int .i64 a, .agg (bs s).toArray] H (fun e H' => ∃ g, slOk 1 g (lenS s) (bs (bodyS s)) ∧ e = .returned (.tuple #[.int .u64 ((genS s : Nat) : Int), slV g (lenS s), .bool true]) ∧ H' = slSeg 5 g (bs (bodyS s)) :: H) := by
  refine FnS_intro (n := 47) (rs := [.tmp 6, .tmp 7, .tmp 8]) (vs := [.iface 33 (.agg zc.toArray), .int .i64 a, .agg (bs s).toArray]) Try.func14 rfl Try.ntmps14 rfl rfl ?_
  refine C_seq ?_
  refine C_region ?_
  refine L_op rfl (op_box rfl rfl rfl (fun B1 => ?_))
  refine L_y rfl (y_assign rfl) rfl ?_
  refine L_y rfl (y_assign rfl) rfl ?_
  refine L_y rfl (y_assign rfl) rfl ?_
  refine L_nil ?_
  refine C_seq ?_
  have hb := (s.getD 24 0).toNat_lt
  have h24 : (bs s)[24]? = some (u8 (s.getD 24 0)) := by rw [bs_get]; simp [List.getD, show 24 < s.length by omega]
  refine C_region ?_
  refine L_y rfl (y_indexA rfl rfl Try.underlying26 sz_5 (by omega) (by omega) rfl) rfl ?_
  refine L_y rfl (y_load rfl ag_5 (sees 0 0 rfl) h24) rfl ?_
  refine L_y rfl (y_conv rfl us_5 Try.underlying3 (show _ = ((lenS s : Nat) : Int) from wi64 (by omega) (by omega))) rfl ?_
  refine L_y rfl (y_assign rfl) rfl ?_
  refine L_nil ?_
  refine C_seq ?_
  refine C_seq ?_
  have hl0 : lenS s < 256 := hb
  refine C_region ?_
  refine L_y rfl (y_move rfl) rfl ?_
  refine L_y rfl (y_eqIf rfl rfl if_66) rfl ?_
  refine L_y rfl (y_move rfl) rfl ?_
  refine L_y rfl (y_move rfl) rfl ?_
  refine L_y rfl (y_gtr rfl rfl) rfl ?_
  refine L_y rfl (y_pick_f rfl rfl) rfl ?_
  refine L_nil ?_
  refine C_cond rfl (fun hc0 => absurd hc0 (by simp <;> omega)) (fun hc0 => ?_)
  refine C_skip ?_
  refine C_seq ?_
  refine C_region ?_
  refine L_y rfl (y_sliceA2 (r := 16) (q := 8) (q' := 112) rfl rfl rfl Try.underlying26 sz_5 (by decide) (by decide) (by decide) rfl rfl rfl) rfl ?_
  refine L_op rfl (op_call rfl rfl (fun a w => Try.call29 a w) rfl ?_)
  refine FnS.mono (get_s ((s.drop 16).take 8) (sees 0 0 rfl) (by rw [bs_drop, bs_take]) (by simp [hs]) (by decide) (by decide)) ?_
  rintro _ _ ⟨rfl, rfl⟩
  refine ⟨_, rfl, ?_⟩
  refine L_y rfl (y_move rfl) rfl ?_
  refine L_y rfl (y_extract rfl rfl) rfl ?_
  refine L_y rfl (y_extract rfl rfl) rfl ?_
  refine L_y rfl (y_assign rfl) rfl ?_
  refine L_nil ?_
  refine C_seq ?_
  refine C_region ?_
  refine L_y rfl (y_move rfl) rfl ?_
  refine L_y rfl (y_add rfl rfl (show _ = ((25 + lenS s : Nat) : Int) from by rw [wi64 (by omega) (by omega)]; omega)) rfl ?_
  refine L_y rfl (y_sliceA2 (r := 25) (q := lenS s) (q' := 103) rfl rfl rfl Try.underlying26 sz_5 (by decide) (by omega) (by omega) rfl (by omega) rfl) rfl ?_
  refine L_op rfl (op_call rfl rfl (fun a w => Try.call30 a w) rfl ?_)
  refine (cloneb_s (bs (bodyS s)) (src_slice (sees 0 0 rfl) (by rw [bs_length, hs]; omega) (by rw [Nat.mul_one, bs_drop, bs_take]; rfl)) (by rw [bs_length, bodyS_len hs hl, Nat.mul_one]) (bs_one _) (by omega)).mono ?_
  rintro _ _ ⟨g, hgo, rfl, rfl⟩
  refine ⟨_, rfl, ?_⟩
  refine L_y rfl (y_assign rfl) rfl ?_
  refine L_nil ?_
  refine C_seq ?_
  refine C_seq ?_
  refine C_region ?_
  refine L_y rfl (y_move rfl) rfl ?_
  refine L_y rfl (y_move rfl) rfl ?_
  refine L_y rfl (y_move rfl) rfl ?_
  refine L_y rfl (y_move rfl) rfl ?_
  refine L_op rfl (op_call rfl rfl (fun a w => Try.call11 a w) rfl ?_)
  refine FnS.mono (pack_v (genS s) genS_lt (bodyS s) (slh_v 0 rfl hgo (bodyS_len hs hl)) a) ?_
  rintro _ _ ⟨rfl, rfl⟩
  rw [show decide (packOk a (bodyS s)) = true from by simp [hp]]
  refine ⟨_, rfl, ?_⟩
  refine L_y rfl (y_move rfl) rfl ?_
  refine L_y rfl (y_extract rfl rfl) rfl ?_
  refine L_y rfl (y_extract rfl rfl) rfl ?_
  refine L_op rfl (op_alloc zl_26 rfl (fun B2 => ?_))
  refine L_op rfl (op_storeA 0 0 rfl rfl rfl sz_26 (by rw [bs_length, packR_len]) rfl (bs_one _) (by simp) ?_)
  refine L_y rfl (y_assign rfl) rfl ?_
  refine L_nil ?_
  refine C_seq ?_
  refine C_region ?_
  refine L_y rfl (y_move rfl) rfl ?_
  refine L_y rfl (y_not rfl) rfl ?_
  refine L_y rfl (y_move rfl) rfl ?_
  refine L_y rfl (y_loadA rfl ag_26 sz_26 (sees 0 0 rfl) (by rw [bs_length, packR_len]; decide) (bs_whole0 _ (packR_len _ _ _))) rfl ?_
  refine L_y rfl (y_loadA rfl ag_26 sz_26 (sees 2 0 rfl) (by rw [bs_length, hs]; decide) (bs_whole0 _ hs)) rfl ?_
  refine L_y rfl (y_nea rfl rfl Try.underlying26 Try.underlying5 sz_5 eg_26 (packR_len _ _ _) hs) rfl ?_
  refine L_y rfl (y_pick_f rfl rfl) rfl ?_
  refine L_nil ?_
  refine C_cond rfl (fun hc1 => absurd hc1 (by simp [he])) (fun hc1 => ?_)
  refine C_skip ?_
  refine C_seq ?_
  refine C_region ?_
  refine L_y rfl (y_move rfl) rfl ?_
  refine L_y rfl (y_move rfl) rfl ?_
  refine L_y rfl (y_assign rfl) rfl ?_
  refine L_y rfl (y_assign rfl) rfl ?_
  refine L_y rfl (y_assign rfl) rfl ?_
  refine L_nil ?_
  refine C_ret ?_
  refine B_ret (rv_tmp rfl (rv_tmp rfl (rv_tmp rfl rv_nil))) (hsub (.cons _ (.cons_cons _ (.cons _ (.refl _))))) ?_
  exact ⟨g, hgo, rfl, rfl⟩

theorem unp_nil {w0 : World} {H : Hp} (a : Int) (s : Sec) (hs : s.length = 128) : FnS Try.prog w0 14 #[.nilIface, .int .i64 a, .agg (bs s).toArray] H (fun e H' => e = .returned (.tuple #[.int .u64 0, .slice none 0 0, .bool false]) ∧ H' = H) := by
  refine FnS_intro (n := 47) (rs := [.tmp 6, .tmp 7, .tmp 8]) (vs := [.nilIface, .int .i64 a, .agg (bs s).toArray]) Try.func14 rfl Try.ntmps14 rfl rfl ?_
  refine C_seq ?_
  refine C_region ?_
  refine L_op rfl (op_box rfl rfl rfl (fun B1 => ?_))
  refine L_y rfl (y_assign rfl) rfl ?_
  refine L_y rfl (y_assign rfl) rfl ?_
  refine L_y rfl (y_assign rfl) rfl ?_
  refine L_nil ?_
  refine C_seq ?_
  have hb := (s.getD 24 0).toNat_lt
  have h24 : (bs s)[24]? = some (u8 (s.getD 24 0)) := by rw [bs_get]; simp [List.getD, show 24 < s.length by omega]
  refine C_region ?_
  refine L_y rfl (y_indexA rfl rfl Try.underlying26 sz_5 (by omega) (by omega) rfl) rfl ?_
  refine L_y rfl (y_load rfl ag_5 (sees 0 0 rfl) h24) rfl ?_
  refine L_y rfl (y_conv rfl us_5 Try.underlying3 (show _ = ((lenS s : Nat) : Int) from wi64 (by omega) (by omega))) rfl ?_
  refine L_y rfl (y_assign rfl) rfl ?_
  refine L_nil ?_
  refine C_seq ?_
  refine C_seq ?_
  refine C_region ?_
  refine L_y rfl (y_move rfl) rfl ?_
  refine L_y rfl (y_eqIf0 rfl rfl if_66) rfl ?_
  refine L_y rfl (y_move rfl) rfl ?_
  refine L_skip rfl rfl ?_
  refine L_skip rfl rfl ?_
  refine L_y rfl (y_pick_t rfl rfl) rfl ?_
  refine L_nil ?_
  refine C_cond_t rfl ?_
  refine C_seq ?_
  refine C_region ?_
  refine L_y rfl (y_assign rfl) rfl ?_
  refine L_y rfl (y_assign rfl) rfl ?_
  refine L_y rfl (y_assign rfl) rfl ?_
  refine L_nil ?_
  refine C_ret ?_
  refine B_ret (rv_tmp rfl (rv_tmp rfl (rv_tmp rfl rv_nil))) (hsub (.cons _ (.refl _))) ?_
  exact ⟨rfl, rfl⟩

theorem unpack_u {w0 : World} {H : Hp} {zc : List Value} (a : Int) (s : Sec) (hs : s.length = 128) : FnS Try.prog w0 14 #[.iface 33 (.agg zc.toArray), .int .i64 a, .agg (bs s).toArray] H (fun e H' => ∃ g, slOk 1 g (unpB a s).length (bs (unpB a s)) ∧ e = .returned (.tuple #[.int .u64 ((unpG a s : Nat) : Int), slV g (unpB a s).length, .bool (decide (isS a s))]) ∧ H' = slSeg 5 g (bs (unpB a s)) :: H) := by
  by_cases hi : isS a s
  · have hp : packOk a (bodyS s) := ⟨hi.2.1, hi.2.2.1, by rw [bodyS_len hs hi.1]; exact hi.1⟩
    refine (unp_y a s hs hi.1 hp (by rw [packR, if_pos hp]; exact hi.2.2.2)).mono ?_
    rintro _ _ ⟨g, h1, rfl, rfl⟩
    rw [unpB, unpG, if_pos hi, if_pos hi, bodyS_len hs hi.1]
    exact ⟨g, h1, by simp [hi], rfl⟩
  · have key : FnS Try.prog w0 14 #[.iface 33 (.agg zc.toArray), .int .i64 a, .agg (bs s).toArray] H (fun e H' => e = .returned (.tuple #[.int .u64 0, .slice none 0 0, .bool false]) ∧ H' = H) := by
      by_cases hl : lenS s ≤ 103
      · by_cases hp : packOk a (bodyS s)
        · exact unp_n2 a s hs hl hp fun he => hi ⟨hl, hp.1, hp.2.1, by rw [packR, if_pos hp] at he; exact he⟩
        · exact unp_n1 a s hs hl hp
      · exact unp_l a s hs hl
    refine key.weak ?_
    rintro _ _ ⟨rfl, e⟩
    obtain rfl := e.symm
    rw [unpB, unpG, if_neg hi, if_neg hi]
    exact ⟨[] :: H, hsub_flat rfl, none, ⟨rfl, rfl⟩, by simp [hi, slV], rfl⟩

theorem rpack_no {w0 : World} {H : Hp} {pa : Option Addr} {cap : Nat} (gen : Nat) (hg : gen < M64) (body : List UInt8) (hB : Holds w0 H pa (bs body)) (a : Int) (h : ¬ packOk a body) : FnS Try.prog w0 12 #[.int .i64 a, .int .u64 (gen : Int), .slice pa body.length cap] H (fun e H' => e = .returned (.tuple #[.agg (bs (secOf 0)).toArray, .bool false]) ∧ H' = H) := by
  refine FnS_intro (n := 78) (rs := [.cell 6 26, .tmp 7]) (vs := [.int .i64 a, .int .u64 (gen : Int), .slice pa body.length cap]) Try.func12 rfl Try.ntmps12 rfl rfl ?_
  refine C_seq ?_
  refine C_region ?_
  refine L_op rfl (op_alloc zl_26 rfl (fun B1 => ?_))
  refine L_y rfl (y_assign rfl) rfl ?_
  refine L_nil ?_
  rw [zsec]
  refine C_seq ?_
  refine C_region ?_
  refine L_y rfl (y_buildA0 Try.underlying26 sz_5 zl_26) rfl ?_
  refine L_op rfl (op_alloc zl_26 rfl (fun B2 => ?_))
  rw [zsec]
  refine L_op rfl (op_storeA 0 0 rfl rfl rfl sz_26 (by rw [bs_length, secOf_len]) rfl (bs_one _) (by rw [bs_length, secOf_len]) ?_)
  refine L_nil ?_
  refine C_seq ?_
  refine C_seq ?_
  refine C_region ?_
  refine L_y rfl (y_move rfl) rfl ?_
  refine L_y rfl (y_lss rfl rfl) rfl ?_
  refine L_y rfl (y_move rfl) rfl ?_
  refine L_case 17 rfl (fun hg2_3 => ?_) (fun hg2_3 => ?_)
  · skip
    refine L_skip rfl rfl ?_
    refine L_skip rfl rfl ?_
    refine L_y rfl (y_pick_t rfl rfl) rfl ?_
    refine L_y rfl (y_move rfl) rfl ?_
    refine L_skip rfl rfl ?_
    refine L_skip rfl rfl ?_
    refine L_skip rfl rfl ?_
    refine L_y rfl (y_pick_t rfl rfl) rfl ?_
    refine L_nil ?_
    refine C_cond_t rfl ?_
    refine C_seq ?_
    refine C_region ?_
    refine L_y rfl (y_loadA rfl ag_26 sz_26 (sees 0 0 rfl) (by rw [bs_length, secOf_len]; decide) (bs_whole0 _ (secOf_len 0))) rfl ?_
    refine L_op rfl (op_storeA 1 0 rfl rfl rfl sz_26 (by rw [bs_length, secOf_len]) rfl (bs_one _) (by rw [bs_length, secOf_len]) ?_)
    refine L_y rfl (y_assign rfl) rfl ?_
    refine L_nil ?_
    refine C_ret ?_
    refine B_ret (rv_cellA rfl ag_26 sz_26 (sees 1 0 rfl) (by rw [bs_length, secOf_len]; decide) (bs_whole0 _ (secOf_len 0)) (rv_tmp rfl rv_nil)) (hsub (.cons _ (.cons _ (.refl _)))) ?_
    exact ⟨rfl, rfl⟩
  · skip
    refine L_y rfl (y_move rfl) rfl ?_
    refine L_y rfl (y_gtr rfl rfl) rfl ?_
    refine L_y rfl (y_pick_f rfl rfl) rfl ?_
    refine L_y rfl (y_move rfl) rfl ?_
    refine L_case 21 rfl (fun hg2_7 => ?_) (fun hg2_7 => ?_)
    · skip
      refine L_skip rfl rfl ?_
      refine L_skip rfl rfl ?_
      refine L_skip rfl rfl ?_
      refine L_y rfl (y_pick_t rfl rfl) rfl ?_
      refine L_nil ?_
      refine C_cond_t rfl ?_
      refine C_seq ?_
      refine C_region ?_
      refine L_y rfl (y_loadA rfl ag_26 sz_26 (sees 0 0 rfl) (by rw [bs_length, secOf_len]; decide) (bs_whole0 _ (secOf_len 0))) rfl ?_
      refine L_op rfl (op_storeA 1 0 rfl rfl rfl sz_26 (by rw [bs_length, secOf_len]) rfl (bs_one _) (by rw [bs_length, secOf_len]) ?_)
      refine L_y rfl (y_assign rfl) rfl ?_
      refine L_nil ?_
      refine C_ret ?_
      refine B_ret (rv_cellA rfl ag_26 sz_26 (sees 1 0 rfl) (by rw [bs_length, secOf_len]; decide) (bs_whole0 _ (secOf_len 0)) (rv_tmp rfl rv_nil)) (hsub (.cons _ (.cons _ (.refl _)))) ?_
      exact ⟨rfl, rfl⟩
    · skip
      refine L_y rfl (y_move rfl) rfl ?_
      refine L_y rfl (y_lenS rfl rfl Try.underlying23) rfl ?_
      refine L_y rfl (y_gtr rfl rfl) rfl ?_
      refine L_y rfl (y_pick_f rfl rfl) rfl ?_
      refine L_nil ?_
      refine C_cond rfl (fun hc0 => ?_) (fun hc0 => absurd (⟨by have := of_decide_eq_false hg2_3; omega, by have := of_decide_eq_false hg2_7; omega, by have := of_decide_eq_false hc0; omega⟩ : packOk a body) h)
      refine C_seq ?_
      refine C_region ?_
      refine L_y rfl (y_loadA rfl ag_26 sz_26 (sees 0 0 rfl) (by rw [bs_length, secOf_len]; decide) (bs_whole0 _ (secOf_len 0))) rfl ?_
      refine L_op rfl (op_storeA 1 0 rfl rfl rfl sz_26 (by rw [bs_length, secOf_len]) rfl (bs_one _) (by rw [bs_length, secOf_len]) ?_)
      refine L_y rfl (y_assign rfl) rfl ?_
      refine L_nil ?_
      refine C_ret ?_
      refine B_ret (rv_cellA rfl ag_26 sz_26 (sees 1 0 rfl) (by rw [bs_length, secOf_len]; decide) (bs_whole0 _ (secOf_len 0)) (rv_tmp rfl rv_nil)) (hsub (.cons _ (.cons _ (.refl _)))) ?_
      exact ⟨rfl, rfl⟩

theorem rpack_ok {w0 : World} {H : Hp} {pa : Option Addr} {cap : Nat} (gen : Nat) (hg : gen < M64) (body : List UInt8) (hB : Holds w0 H pa (bs body)) (a : Nat) (ha : a < 4096) (hl : body.length ≤ 103) : FnS Try.prog w0 12 #[.int .i64 (a : Int), .int .u64 (gen : Int), .slice pa body.length cap] H (fun e H' => e = .returned (.tuple #[.agg (bs (packS a gen body)).toArray, .bool true]) ∧ H' = H) := by
  simp only [M64] at hg
  refine FnS_intro (n := 78) (rs := [.cell 6 26, .tmp 7]) (vs := [.int .i64 (a : Int), .int .u64 (gen : Int), .slice pa body.length cap]) Try.func12 rfl Try.ntmps12 rfl rfl ?_
  refine C_seq ?_
  refine C_region ?_
  refine L_op rfl (op_alloc zl_26 rfl (fun B1 => ?_))
  refine L_y rfl (y_assign rfl) rfl ?_
  refine L_nil ?_
  rw [zsec]
  refine C_seq ?_
  refine C_region ?_
  refine L_y rfl (y_buildA0 Try.underlying26 sz_5 zl_26) rfl ?_
  refine L_op rfl (op_alloc zl_26 rfl (fun B2 => ?_))
  rw [zsec]
  refine L_op rfl (op_storeA 0 0 rfl rfl rfl sz_26 (by rw [bs_length, secOf_len]) rfl (bs_one _) (by rw [bs_length, secOf_len]) ?_)
  refine L_nil ?_
  refine C_seq ?_
  refine C_seq ?_
  refine C_region ?_
  refine L_y rfl (y_move rfl) rfl ?_
  refine L_y rfl (y_lss rfl rfl) rfl ?_
  refine L_y rfl (y_move rfl) rfl ?_
  refine L_case 17 rfl (fun hg2_3 => ?_) (fun hg2_3 => ?_)
  · exact absurd (of_decide_eq_true hg2_3) (by omega)
  · skip
    refine L_y rfl (y_move rfl) rfl ?_
    refine L_y rfl (y_gtr rfl rfl) rfl ?_
    refine L_y rfl (y_pick_f rfl rfl) rfl ?_
    refine L_y rfl (y_move rfl) rfl ?_
    refine L_case 21 rfl (fun hg2_7 => ?_) (fun hg2_7 => ?_)
    · exact absurd (of_decide_eq_true hg2_7) (by omega)
    · skip
      refine L_y rfl (y_move rfl) rfl ?_
      refine L_y rfl (y_lenS rfl rfl Try.underlying23) rfl ?_
      refine L_y rfl (y_gtr rfl rfl) rfl ?_
      refine L_y rfl (y_pick_f rfl rfl) rfl ?_
      refine L_nil ?_
      refine C_cond rfl (fun hc0 => absurd hc0 (by simp <;> omega)) (fun hc0 => ?_)
      refine C_skip ?_
      refine C_seq ?_
      refine C_region ?_
      refine L_y rfl (y_move rfl) rfl ?_
      refine L_y rfl (y_assign rfl) rfl ?_
      refine L_nil ?_
      refine C_seq ?_
      refine C_seq ?_
      refine C_region ?_
      refine L_y rfl (y_assign rfl) rfl ?_
      refine L_nil ?_
      refine C_block ?_
      refine C_loop (ι := Nat) (fun k => [(9, .int .u64 ((gen / 256 ^ k : Nat) : Int)), (10, .int .i64 (7 - (k : Int))), (0, .int .i64 (a : Int)), (2, .slice pa body.length cap), (6, .pointer (some ⟨B1, 0, none⟩)), (8, .pointer (some ⟨B2, 0, none⟩))]) (fun k => [(B2, .cells (bs (rP0 gen k)).toArray 26)] :: [(B1, .cells (bs (secOf 0)).toArray 26)] :: H) (fun k => k ≤ 8) (fun k => 8 - k) 0 (Nat.zero_le _) ⟨by rw [Nat.pow_zero, Nat.div_one]; rfl, rfl, rfl, rfl, rfl, rfl, trivial⟩ (HSub.of_eq (by rw [rP0_0]; rfl)) (fun k hk => ?_)
      have hlt : gen / 256 ^ k < 18446744073709551616 := Nat.lt_of_le_of_lt (Nat.div_le_self _ _) hg
      refine C_seq ?_
      refine C_seq ?_
      refine C_region ?_
      refine L_y rfl (y_move rfl) rfl ?_
      refine L_y rfl (y_geq rfl rfl) rfl ?_
      refine L_nil ?_
      refine C_cond rfl (fun hc1 => ?_) (fun hc1 => ?_)
      · replace hc1 := of_decide_eq_true hc1
        refine C_skip ?_
        refine C_seq ?_
        refine C_block ?_
        refine C_seq ?_
        refine C_region ?_
        refine L_y rfl (y_move rfl) rfl ?_
        refine L_y rfl (y_add rfl rfl (show _ = ((16 + (7 - k) : Nat) : Int) from by rw [wi64 (by omega) (by omega)]; omega)) rfl ?_
        refine L_y rfl (y_move rfl) rfl ?_
        refine L_y rfl (y_rem rfl rfl (by decide) rfl) rfl ?_
        refine L_y rfl (y_conv rfl us_22 Try.underlying5 (rem_byte _)) rfl ?_
        refine L_y rfl (y_indexA rfl rfl Try.underlying26 sz_5 (by omega) (by omega) (show _ = 16 + (7 - k) from by simp; omega)) rfl ?_
        refine L_op rfl (op_store1 0 0 rfl rfl rfl sz_5 rfl (by rw [bs_length, rP0_len]; omega) ?_)
        refine L_nil ?_
        refine C_region ?_
        refine L_y rfl (y_move rfl) rfl ?_
        refine L_y rfl (y_quo rfl rfl (by decide) (quo_256 hlt)) rfl ?_
        refine L_y rfl (y_assign rfl) rfl ?_
        refine L_nil ?_
        refine C_region ?_
        refine L_y rfl (y_move rfl) rfl ?_
        refine L_y rfl (y_sub rfl rfl (show _ = (7 - ((k + 1 : Nat) : Int)) from by rw [wi64 (by omega) (by omega)]; omega)) rfl ?_
        refine L_y rfl (y_assign rfl) rfl ?_
        refine L_nil ?_
        refine ⟨k + 1, by omega, by omega, ⟨?_, rfl, rfl, rfl, rfl, rfl, trivial⟩, HSub.of_eq (by rw [← rP0_step (by omega)]; rfl)⟩
        rw [Nat.pow_succ, ← Nat.div_div_eq_div_mul]; rfl
      · replace hc1 := of_decide_eq_false hc1
        refine C_exit ?_
        refine C_seq ?_
        obtain rfl : k = 8 := by omega
        rw [rP0_8]
        refine C_region ?_
        refine L_y rfl (y_move rfl) rfl ?_
        refine L_y rfl (y_lenS rfl rfl Try.underlying23) rfl ?_
        refine L_y rfl (y_conv rfl us_3 Try.underlying5 (w8n (by omega))) rfl ?_
        refine L_y rfl (y_indexA rfl rfl Try.underlying26 sz_5 (by omega) (by omega) (show _ = 24 from rfl)) rfl ?_
        refine L_op rfl (op_store1 0 0 rfl rfl rfl sz_5 rfl (by rw [bs_length, pS1_len]; decide) ?_)
        refine L_nil ?_
        rw [pk2]
        refine C_seq ?_
        refine C_seq ?_
        refine C_region ?_
        refine L_y rfl (y_assign rfl) rfl ?_
        refine L_nil ?_
        refine C_block ?_
        refine C_loop (ι := Nat) (fun i => [(11, .int .i64 (i : Int)), (0, .int .i64 (a : Int)), (2, .slice pa body.length cap), (6, .pointer (some ⟨B1, 0, none⟩)), (8, .pointer (some ⟨B2, 0, none⟩))]) (fun i => [(B2, .cells (bs (rP2 gen body i)).toArray 26)] :: [(B1, .cells (bs (secOf 0)).toArray 26)] :: H) (fun i => i ≤ body.length) (fun i => body.length - i) 0 (Nat.zero_le _) ⟨rfl, rfl, rfl, rfl, rfl, trivial⟩ (HSub.of_eq (by rw [rP2_0]; rfl)) (fun i hi => ?_)
        skip
        refine C_seq ?_
        refine C_seq ?_
        refine C_region ?_
        refine L_y rfl (y_move rfl) rfl ?_
        refine L_y rfl (y_move rfl) rfl ?_
        refine L_y rfl (y_lenS rfl rfl Try.underlying23) rfl ?_
        refine L_y rfl (y_lss rfl rfl) rfl ?_
        refine L_nil ?_
        refine C_cond rfl (fun hc2 => ?_) (fun hc2 => ?_)
        · replace hc2 := of_decide_eq_true hc2
          refine C_skip ?_
          refine C_seq ?_
          refine C_block ?_
          obtain ⟨b1, o1, l1, T1, fr1, rfl, hs1, hle1, hv1⟩ := hB (by rw [bs_length]; omega)
          rw [bs_length] at hle1 hv1
          refine C_region ?_
          refine L_y rfl (y_move rfl) rfl ?_
          refine L_y rfl (y_add rfl rfl (show _ = ((25 + i : Nat) : Int) from by rw [wi64 (by omega) (by omega)]; omega)) rfl ?_
          refine L_y rfl (y_move rfl) rfl ?_
          refine L_y rfl (y_move rfl) rfl ?_
          refine L_y rfl (y_indexS rfl rfl Try.underlying23 sz_5 (by omega) (by omega) rfl) rfl ?_
          refine L_y rfl (y_load rfl ag_5 (hs1.up.up) (getb hv1 (by omega) rfl)) rfl ?_
          refine L_y rfl (y_indexA rfl rfl Try.underlying26 sz_5 (by omega) (by omega) (show _ = 25 + i from by simp; omega)) rfl ?_
          refine L_op rfl (op_store1 0 0 rfl rfl rfl sz_5 rfl (by rw [bs_length, rP2_len hl (by omega)]; omega) ?_)
          refine L_nil ?_
          refine C_region ?_
          refine L_y rfl (y_move rfl) rfl ?_
          refine L_y rfl (y_add rfl rfl (wi64 (by omega) (by omega))) rfl ?_
          refine L_y rfl (y_assign rfl) rfl ?_
          refine L_nil ?_
          exact ⟨i + 1, by omega, by omega, ⟨rfl, rfl, rfl, rfl, rfl, trivial⟩, HSub.of_eq (by rw [← rP2_step hl (by omega)]; rfl)⟩
        · replace hc2 := of_decide_eq_false hc2
          refine C_exit ?_
          refine C_seq ?_
          obtain rfl : i = body.length := by omega
          rw [rP2_all]
          refine C_region ?_
          refine L_y rfl (y_buildA0 Try.underlying30 sz_5 zl_30) rfl ?_
          refine L_y rfl (y_move rfl) rfl ?_
          refine L_y rfl (y_quo rfl rfl (by decide) (show _ = ((a / 256 : Nat) : Int) from by rw [Int.tdiv_eq_ediv_of_nonneg (by omega), wi64 (by omega) (by omega)]; omega)) rfl ?_
          refine L_y rfl (y_conv rfl us_3 Try.underlying5 (w8n (by omega))) rfl ?_
          refine L_y rfl (y_move rfl) rfl ?_
          refine L_y rfl (y_rem rfl rfl (by decide) (show _ = ((a % 256 : Nat) : Int) from by rw [Int.tmod_eq_emod_of_nonneg (by omega)]; omega)) rfl ?_
          refine L_y rfl (y_conv rfl us_3 Try.underlying5 (w8n (by omega))) rfl ?_
          refine L_op rfl (op_buildSlice (vs := [(0, _), (1, _), (2, _), (3, _)]) rfl Try.underlying23 sz_5 zl_5 rfl (by decide) (fill_cons (off := 0) (m := 1) (vs := [_]) rfl rfl rfl (Nat.le_of_ble_eq_true rfl) (fill_cons (off := 1) (m := 1) (vs := [_]) rfl rfl rfl (Nat.le_of_ble_eq_true rfl) (fill_cons (off := 2) (m := 1) (vs := [_]) rfl rfl rfl (Nat.le_of_ble_eq_true rfl) (fill_cons (off := 3) (m := 1) (vs := [_]) rfl rfl rfl (Nat.le_of_ble_eq_true rfl) rfl)))) rfl (fun B3 => ?_))
          refine L_y rfl (y_sliceA_lo rfl rfl Try.underlying26 sz_5 (by omega) (by omega) (show _ = 16 from rfl)) rfl ?_
          refine L_op rfl (op_append (gs := some ⟨B3, 4, []⟩) (len := 4) (m := 112) (xs := bs (be a 4)) (vs := bs ((pS3 gen body).drop 16)) 0 rfl rfl (by rw [be4 ha]; rfl) ⟨by simp [bs_length, be_length], by simp [bs_length, be_length]⟩ (src_slice (sees 1 0 rfl) (by rw [bs_length, pS3_len hl]; decide) (by rw [bs_drop, bs_take, List.take_of_length_le (by simp [pS3_len hl])])) (by simp [bs_length, pS3_len hl]) (bs_one _) Try.underlying23 ni_23 sz_5 by_5 (by decide) zl_5 rfl (by decide) rfl (fun g hgo => ?_))
          rw [← bs_append] at hgo ⊢
          rw [show 4 + 112 = (be a 4 ++ (pS3 gen body).drop 16).length from by simp [be_length, pS3_len hl]]
          cases g with
          | none => exact slOk_none hgo (by decide)
          | some g => ?_
          refine L_op rfl (op_call rfl rfl (fun a w => Try.call28 a w) rfl ?_)
          refine FnS.mono (litsum_s (l := bs (be a 4 ++ (pS3 gen body).drop 16) ++ g.sp) (off := 0) (be a 4 ++ (pS3 gen body).drop 16) (by exact sees 0 0 rfl) (by rw [List.drop_zero, List.take_left' (bs_length _)]) (by simp [be_length, pS3_len hl]) K0 K0_len) ?_
          rintro _ _ ⟨rfl, rfl⟩
          refine ⟨_, rfl, ?_⟩
          refine L_op rfl (op_alloc zl_70 rfl (fun B4 => ?_))
          refine L_op rfl (op_storeA 0 0 rfl rfl rfl sz_70 (by rw [bs_length, litSum_len]) rfl (bs_one _) rfl ?_)
          refine L_nil ?_
          refine C_seq ?_
          refine C_seq ?_
          refine C_region ?_
          refine L_y rfl (y_assign rfl) rfl ?_
          refine L_nil ?_
          refine C_block ?_
          refine C_loop (ι := Nat) (fun i => [(13, .int .i64 (i : Int)), (12, .pointer (some ⟨B4, 0, none⟩)), (6, .pointer (some ⟨B1, 0, none⟩)), (8, .pointer (some ⟨B2, 0, none⟩))]) (fun i => [(B4, .cells (bs (litSum K0 (be a 4 ++ (pS3 gen body).drop 16))).toArray 70)] :: [(B2, .cells (bs (rP4 gen body (litSum K0 (be a 4 ++ (pS3 gen body).drop 16)) i)).toArray 26)] :: [(B1, .cells (bs (secOf 0)).toArray 26)] :: H) (fun i => i ≤ 16) (fun i => 16 - i) 0 (Nat.zero_le _) ⟨rfl, rfl, rfl, rfl, trivial⟩ ((HSub.of_eq (by rw [rP4_0]; rfl)).trans (hsub (.cons_cons _ (.cons _ (.refl _))))) (fun i hi => ?_)
          skip
          refine C_seq ?_
          refine C_seq ?_
          refine C_region ?_
          refine L_y rfl (y_move rfl) rfl ?_
          refine L_y rfl (y_lss rfl rfl) rfl ?_
          refine L_nil ?_
          refine C_cond rfl (fun hc3 => ?_) (fun hc3 => ?_)
          · replace hc3 := of_decide_eq_true hc3
            refine C_skip ?_
            refine C_seq ?_
            refine C_block ?_
            refine C_region ?_
            refine L_y rfl (y_move rfl) rfl ?_
            refine L_y rfl (y_move rfl) rfl ?_
            refine L_y rfl (y_indexA rfl rfl Try.underlying70 sz_5 (by omega) (by omega) rfl) rfl ?_
            refine L_y rfl (y_load rfl ag_5 (sees 0 0 rfl) (getb (bs_whole0 _ (litSum_len _ _)) (by omega) (litSum_len _ _))) rfl ?_
            refine L_y rfl (y_indexA rfl rfl Try.underlying26 sz_5 (by omega) (by omega) (show _ = i from by simp)) rfl ?_
            refine L_op rfl (op_store1 1 0 rfl rfl rfl sz_5 rfl (by rw [bs_length, rP4_len hl (litSum_len _ _) (by omega)]; omega) ?_)
            refine L_nil ?_
            refine C_region ?_
            refine L_y rfl (y_move rfl) rfl ?_
            refine L_y rfl (y_add rfl rfl (wi64 (by omega) (by omega))) rfl ?_
            refine L_y rfl (y_assign rfl) rfl ?_
            refine L_nil ?_
            exact ⟨i + 1, by omega, by omega, ⟨rfl, rfl, rfl, rfl, trivial⟩, HSub.of_eq (by rw [← rP4_step (litSum_len _ _) (by omega)]; rfl)⟩
          · replace hc3 := of_decide_eq_false hc3
            refine C_exit ?_
            refine C_seq ?_
            obtain rfl : i = 16 := by omega
            rw [rP4_all (litSum_len _ _), show (litSum K0 (be a 4 ++ (pS3 gen body).drop 16)) ++ restS gen body = packS a gen body from rfl]
            refine C_region ?_
            refine L_y rfl (y_loadA rfl ag_26 sz_26 (sees 1 0 rfl) (by rw [bs_length, packS_len hl]; decide) (bs_whole0 _ (packS_len hl))) rfl ?_
            refine L_op rfl (op_storeA 2 0 rfl rfl rfl sz_26 (by rw [bs_length, packS_len hl]) rfl (bs_one _) (by rw [bs_length, secOf_len]) ?_)
            refine L_y rfl (y_assign rfl) rfl ?_
            refine L_nil ?_
            refine C_ret ?_
            refine B_ret (rv_cellA rfl ag_26 sz_26 (sees 2 0 rfl) (by rw [bs_length, packS_len hl]; decide) (bs_whole0 _ (packS_len hl)) (rv_tmp rfl rv_nil)) (hsub (.cons _ (.cons _ (.cons _ (.refl _))))) ?_
            exact ⟨rfl, rfl⟩

theorem rpack_v {w0 : World} {H : Hp} {v : Value} (gen : Nat) (hg : gen < M64) (body : List UInt8) (hv : SlH w0 H v body) (a : Int) : FnS Try.prog w0 12 #[.int .i64 a, .int .u64 (gen : Int), v] H (fun e H' => e = .returned (.tuple #[.agg (bs (packR a gen body)).toArray, .bool (decide (packOk a body))]) ∧ H' = H) := by
  obtain ⟨pa, cap, rfl, hB⟩ := hv
  by_cases h : packOk a body
  · obtain ⟨m, rfl⟩ : ∃ m : Nat, a = m := ⟨a.toNat, by omega⟩
    refine (rpack_ok gen hg body hB m (by have := h.2.1; omega) h.2.2).mono ?_
    rintro _ _ ⟨rfl, rfl⟩
    exact ⟨by rw [show packR ((m : Nat) : Int) gen body = packS m gen body from if_pos h, decide_eq_true h], rfl⟩
  · refine (rpack_no gen hg body hB a h).mono ?_
    rintro _ _ ⟨rfl, rfl⟩
    exact ⟨by rw [show packR a gen body = secOf 0 from if_neg h, decide_eq_false h], rfl⟩

theorem runp_l {w0 : World} {H : Hp} (a : Int) (s : Sec) (hs : s.length = 128) (hl : ¬ lenS s ≤ 103) : FnS Try.prog w0 15 #[.int .i64 a, .agg (bs s).toArray] H (fun e H' => e = .returned (.tuple #[.int .u64 0, .slice none 0 0, .bool false]) ∧ H' = H) := by
  refine FnS_intro (n := 50) (rs := [.tmp 4, .tmp 5, .tmp 6]) (vs := [.int .i64 a, .agg (bs s).toArray]) Try.func15 rfl Try.ntmps15 rfl rfl ?_
  refine C_seq ?_
  refine C_region ?_
  refine L_op rfl (op_box rfl rfl rfl (fun B1 => ?_))
  refine L_y rfl (y_assign rfl) rfl ?_
  refine L_y rfl (y_assign rfl) rfl ?_
  refine L_y rfl (y_assign rfl) rfl ?_
  refine L_nil ?_
  refine C_seq ?_
  have hb := (s.getD 24 0).toNat_lt
  have h24 : (bs s)[24]? = some (u8 (s.getD 24 0)) := by rw [bs_get]; simp [List.getD, show 24 < s.length by omega]
  refine C_region ?_
  refine L_y rfl (y_indexA rfl rfl Try.underlying26 sz_5 (by omega) (by omega) rfl) rfl ?_
  refine L_y rfl (y_load rfl ag_5 (sees 0 0 rfl) h24) rfl ?_
  refine L_y rfl (y_conv rfl us_5 Try.underlying3 (show _ = ((lenS s : Nat) : Int) from wi64 (by omega) (by omega))) rfl ?_
  refine L_y rfl (y_assign rfl) rfl ?_
  refine L_nil ?_
  refine C_seq ?_
  refine C_seq ?_
  have hl0 : lenS s < 256 := hb
  refine C_region ?_
  refine L_y rfl (y_move rfl) rfl ?_
  refine L_y rfl (y_gtr rfl rfl) rfl ?_
  refine L_nil ?_
  refine C_cond rfl (fun hc0 => ?_) (fun hc0 => absurd hc0 (by simp <;> omega))
  refine C_seq ?_
  refine C_region ?_
  refine L_y rfl (y_assign rfl) rfl ?_
  refine L_y rfl (y_assign rfl) rfl ?_
  refine L_y rfl (y_assign rfl) rfl ?_
  refine L_nil ?_
  refine C_ret ?_
  refine B_ret (rv_tmp rfl (rv_tmp rfl (rv_tmp rfl rv_nil))) (hsub (.cons _ (.refl _))) ?_
  exact ⟨rfl, rfl⟩

theorem runp_n1 {w0 : World} {H : Hp} (a : Int) (s : Sec) (hs : s.length = 128) (hl : lenS s ≤ 103) (hp : ¬ packOk a (bodyS s)) : FnS Try.prog w0 15 #[.int .i64 a, .agg (bs s).toArray] H (fun e H' => e = .returned (.tuple #[.int .u64 0, .slice none 0 0, .bool false]) ∧ H' = H) := by
  refine FnS_intro (n := 50) (rs := [.tmp 4, .tmp 5, .tmp 6]) (vs := [.int .i64 a, .agg (bs s).toArray]) Try.func15 rfl Try.ntmps15 rfl rfl ?_
  refine C_seq ?_
  refine C_region ?_
  refine L_op rfl (op_box rfl rfl rfl (fun B1 => ?_))
  refine L_y rfl (y_assign rfl) rfl ?_
  refine L_y rfl (y_assign rfl) rfl ?_
  refine L_y rfl (y_assign rfl) rfl ?_
  refine L_nil ?_
  refine C_seq ?_
  have hb := (s.getD 24 0).toNat_lt
  have h24 : (bs s)[24]? = some (u8 (s.getD 24 0)) := by rw [bs_get]; simp [List.getD, show 24 < s.length by omega]
  refine C_region ?_
  refine L_y rfl (y_indexA rfl rfl Try.underlying26 sz_5 (by omega) (by omega) rfl) rfl ?_
  refine L_y rfl (y_load rfl ag_5 (sees 0 0 rfl) h24) rfl ?_
  refine L_y rfl (y_conv rfl us_5 Try.underlying3 (show _ = ((lenS s : Nat) : Int) from wi64 (by omega) (by omega))) rfl ?_
  refine L_y rfl (y_assign rfl) rfl ?_
  refine L_nil ?_
  refine C_seq ?_
  refine C_seq ?_
  have hl0 : lenS s < 256 := hb
  refine C_region ?_
  refine L_y rfl (y_move rfl) rfl ?_
  refine L_y rfl (y_gtr rfl rfl) rfl ?_
  refine L_nil ?_
  refine C_cond rfl (fun hc0 => absurd hc0 (by simp <;> omega)) (fun hc0 => ?_)
  refine C_skip ?_
  refine C_seq ?_
  refine C_region ?_
  refine L_y rfl (y_assign rfl) rfl ?_
  refine L_nil ?_
  refine C_seq ?_
  refine C_seq ?_
  refine C_region ?_
  refine L_y rfl (y_assign rfl) rfl ?_
  refine L_nil ?_
  refine C_block ?_
  refine C_loop (ι := Nat) (fun i => [(8, .int .u64 ((val (((s.drop 16).take 8).take i) : Nat) : Int)), (9, .int .i64 ((16 + i : Nat) : Int)), (0, .int .i64 a), (3, .pointer (some ⟨B1, 0, none⟩)), (7, .int .i64 ((lenS s : Nat) : Int))]) (fun i => [(B1, .cells (bs s).toArray 26)] :: H) (fun i => i ≤ 8) (fun i => 8 - i) 0 (Nat.zero_le _) ⟨rfl, rfl, rfl, rfl, rfl, trivial⟩ (HSub.refl _) (fun i hi => ?_)
  skip
  refine C_seq ?_
  refine C_seq ?_
  refine C_region ?_
  refine L_y rfl (y_move rfl) rfl ?_
  refine L_y rfl (y_lss rfl rfl) rfl ?_
  refine L_nil ?_
  refine C_cond rfl (fun hc1 => ?_) (fun hc1 => ?_)
  · replace hc1 := of_decide_eq_true hc1
    refine C_skip ?_
    refine C_seq ?_
    refine C_block ?_
    refine C_region ?_
    refine L_y rfl (y_move rfl) rfl ?_
    refine L_y rfl (y_mul rfl rfl rfl) rfl ?_
    refine L_y rfl (y_move rfl) rfl ?_
    refine L_y rfl (y_indexA rfl rfl Try.underlying26 sz_5 (by omega) (by omega) (show _ = 16 + i from by simp; omega)) rfl ?_
    refine L_y rfl (y_load rfl ag_5 (sees 0 0 rfl) (su_get hs (by omega))) rfl ?_
    have hb2 := (((s.drop 16).take 8).getD i 0).toNat_lt
    refine L_y rfl (y_conv rfl us_5 Try.underlying22 (wu64 (by omega) (by omega))) rfl ?_
    refine L_y rfl (y_add rfl rfl (mul_add_256 (val_take_lt (by omega)))) rfl ?_
    refine L_y rfl (y_assign rfl) rfl ?_
    refine L_nil ?_
    refine C_region ?_
    refine L_y rfl (y_move rfl) rfl ?_
    refine L_y rfl (y_add rfl rfl (show _ = ((16 + (i + 1) : Nat) : Int) from by rw [wi64 (by omega) (by omega)]; omega)) rfl ?_
    refine L_y rfl (y_assign rfl) rfl ?_
    refine L_nil ?_
    refine ⟨i + 1, by omega, by omega, ⟨?_, rfl, rfl, rfl, rfl, trivial⟩, HSub.refl _⟩
    rw [val_take (by simp; omega)]
    rfl
  · replace hc1 := of_decide_eq_false hc1
    refine C_exit ?_
    refine C_seq ?_
    obtain rfl : i = 8 := by omega
    rw [show ((s.drop 16).take 8).take 8 = ((s.drop 16).take 8) from List.take_of_length_le (by simp; omega), show val ((s.drop 16).take 8) = genS s from rfl]
    refine C_region ?_
    refine L_op rfl (op_buildSlice (vs := []) rfl Try.underlying23 sz_5 zl_5 rfl (by decide) rfl rfl (fun B2 => ?_))
    refine L_y rfl (y_move rfl) rfl ?_
    refine L_y rfl (y_add rfl rfl (show _ = ((25 + lenS s : Nat) : Int) from by rw [wi64 (by omega) (by omega)]; omega)) rfl ?_
    refine L_y rfl (y_sliceA2 (r := 25) (q := lenS s) (q' := 103) rfl rfl rfl Try.underlying26 sz_5 (by decide) (by omega) (by omega) rfl (by omega) rfl) rfl ?_
    refine L_op rfl (op_append (gs := some ⟨B2, 0, []⟩) (len := 0) (m := lenS s) (xs := []) (vs := bs (bodyS s)) 0 rfl rfl rfl ⟨rfl, rfl, Nat.le_refl _⟩ (src_slice (sees 1 0 rfl) (by rw [bs_length, hs]; omega) (by rw [Nat.mul_one, bs_drop, bs_take]; rfl)) (by rw [bs_length, bodyS_len hs hl, Nat.mul_one]) (bs_one _) Try.underlying23 ni_23 sz_5 by_5 (by decide) zl_5 rfl (by omega) rfl (fun g hgo => ?_))
    rw [Nat.zero_add, List.nil_append] at hgo ⊢
    refine L_y rfl (y_assign rfl) rfl ?_
    refine L_nil ?_
    refine C_seq ?_
    refine C_region ?_
    refine L_y rfl (y_move rfl) rfl ?_
    refine L_y rfl (y_move rfl) rfl ?_
    refine L_y rfl (y_move rfl) rfl ?_
    refine L_op rfl (op_call rfl rfl (fun a w => Try.call12 a w) rfl ?_)
    refine FnS.mono (rpack_v (genS s) genS_lt (bodyS s) (slh_v 0 rfl hgo (bodyS_len hs hl)) a) ?_
    rintro _ _ ⟨rfl, rfl⟩
    rw [show decide (packOk a (bodyS s)) = false from by simp [hp]]
    refine ⟨_, rfl, ?_⟩
    refine L_y rfl (y_move rfl) rfl ?_
    refine L_y rfl (y_extract rfl rfl) rfl ?_
    refine L_y rfl (y_extract rfl rfl) rfl ?_
    refine L_op rfl (op_alloc zl_26 rfl (fun B3 => ?_))
    refine L_op rfl (op_storeA 0 0 rfl rfl rfl sz_26 (by rw [bs_length, packR_len]) rfl (bs_one _) (by simp) ?_)
    refine L_y rfl (y_assign rfl) rfl ?_
    refine L_nil ?_
    refine C_seq ?_
    refine C_seq ?_
    refine C_region ?_
    refine L_y rfl (y_move rfl) rfl ?_
    refine L_y rfl (y_not rfl) rfl ?_
    refine L_y rfl (y_move rfl) rfl ?_
    refine L_skip rfl rfl ?_
    refine L_skip rfl rfl ?_
    refine L_skip rfl rfl ?_
    refine L_y rfl (y_pick_t rfl rfl) rfl ?_
    refine L_nil ?_
    refine C_cond_t rfl ?_
    refine C_seq ?_
    refine C_region ?_
    refine L_y rfl (y_assign rfl) rfl ?_
    refine L_y rfl (y_assign rfl) rfl ?_
    refine L_y rfl (y_assign rfl) rfl ?_
    refine L_nil ?_
    refine C_ret ?_
    refine B_ret (rv_tmp rfl (rv_tmp rfl (rv_tmp rfl rv_nil))) (hsub (.cons _ (.cons _ (.cons _ (.refl _))))) ?_
    exact ⟨rfl, rfl⟩

theorem runp_n2 {w0 : World} {H : Hp} (a : Int) (s : Sec) (hs : s.length = 128) (hl : lenS s ≤ 103) (hp : packOk a (bodyS s)) (hne : ¬ packR a (genS s) (bodyS s) = s) : FnS Try.prog w0 15 #[.int .i64 a, .agg (bs s).toArray] H (fun e H' => e = .returned (.tuple #[.int .u64 0, .slice none 0 0, .bool false]) ∧ H' = H) := by
  refine FnS_intro (n := 50) (rs := [.tmp 4, .tmp 5, .tmp 6]) (vs := [.int .i64 a, .agg (bs s).toArray]) Try.func15 rfl Try.ntmps15 rfl rfl ?_
  refine C_seq ?_
  refine C_region ?_
  refine L_op rfl (op_box rfl rfl rfl (fun B1 => ?_))
  refine L_y rfl (y_assign rfl) rfl ?_
  refine L_y rfl (y_assign rfl) rfl ?_
  refine L_y rfl (y_assign rfl) rfl ?_
  refine L_nil ?_
  refine C_seq ?_
  have hb := (s.getD 24 0).toNat_lt
  have h24 : (bs s)[24]? = some (u8 (s.getD 24 0)) := by rw [bs_get]; simp [List.getD, show 24 < s.length by omega]
  refine C_region ?_
  refine L_y rfl (y_indexA rfl rfl Try.underlying26 sz_5 (by omega) (by omega) rfl) rfl ?_
  refine L_y rfl (y_load rfl ag_5 (sees 0 0 rfl) h24) rfl ?_
  refine L_y rfl (y_conv rfl us_5 Try.underlying3 (show _ = ((lenS s : Nat) : Int) from wi64 (by omega) (by omega))) rfl ?_
  refine L_y rfl (y_assign rfl) rfl ?_
  refine L_nil ?_
  refine C_seq ?_
  refine C_seq ?_
  have hl0 : lenS s < 256 := hb
  refine C_region ?_
  refine L_y rfl (y_move rfl) rfl ?_
  refine L_y rfl (y_gtr rfl rfl) rfl ?_
  refine L_nil ?_
  refine C_cond rfl (fun hc0 => absurd hc0 (by simp <;> omega)) (fun hc0 => ?_)
  refine C_skip ?_
  refine C_seq ?_
  refine C_region ?_
  refine L_y rfl (y_assign rfl) rfl ?_
  refine L_nil ?_
  refine C_seq ?_
  refine C_seq ?_
  refine C_region ?_
  refine L_y rfl (y_assign rfl) rfl ?_
  refine L_nil ?_
  refine C_block ?_
  refine C_loop (ι := Nat) (fun i => [(8, .int .u64 ((val (((s.drop 16).take 8).take i) : Nat) : Int)), (9, .int .i64 ((16 + i : Nat) : Int)), (0, .int .i64 a), (3, .pointer (some ⟨B1, 0, none⟩)), (7, .int .i64 ((lenS s : Nat) : Int))]) (fun i => [(B1, .cells (bs s).toArray 26)] :: H) (fun i => i ≤ 8) (fun i => 8 - i) 0 (Nat.zero_le _) ⟨rfl, rfl, rfl, rfl, rfl, trivial⟩ (HSub.refl _) (fun i hi => ?_)
  skip
  refine C_seq ?_
  refine C_seq ?_
  refine C_region ?_
  refine L_y rfl (y_move rfl) rfl ?_
  refine L_y rfl (y_lss rfl rfl) rfl ?_
  refine L_nil ?_
  refine C_cond rfl (fun hc1 => ?_) (fun hc1 => ?_)
  · replace hc1 := of_decide_eq_true hc1
    refine C_skip ?_
    refine C_seq ?_
    refine C_block ?_
    refine C_region ?_
    refine L_y rfl (y_move rfl) rfl ?_
    refine L_y rfl (y_mul rfl rfl rfl) rfl ?_
    refine L_y rfl (y_move rfl) rfl ?_
    refine L_y rfl (y_indexA rfl rfl Try.underlying26 sz_5 (by omega) (by omega) (show _ = 16 + i from by simp; omega)) rfl ?_
    refine L_y rfl (y_load rfl ag_5 (sees 0 0 rfl) (su_get hs (by omega))) rfl ?_
    have hb2 := (((s.drop 16).take 8).getD i 0).toNat_lt
    refine L_y rfl (y_conv rfl us_5 Try.underlying22 (wu64 (by omega) (by omega))) rfl ?_
    refine L_y rfl (y_add rfl rfl (mul_add_256 (val_take_lt (by omega)))) rfl ?_
    refine L_y rfl (y_assign rfl) rfl ?_
    refine L_nil ?_
    refine C_region ?_
    refine L_y rfl (y_move rfl) rfl ?_
    refine L_y rfl (y_add rfl rfl (show _ = ((16 + (i + 1) : Nat) : Int) from by rw [wi64 (by omega) (by omega)]; omega)) rfl ?_
    refine L_y rfl (y_assign rfl) rfl ?_
    refine L_nil ?_
    refine ⟨i + 1, by omega, by omega, ⟨?_, rfl, rfl, rfl, rfl, trivial⟩, HSub.refl _⟩
    rw [val_take (by simp; omega)]
    rfl
  · replace hc1 := of_decide_eq_false hc1
    refine C_exit ?_
    refine C_seq ?_
    obtain rfl : i = 8 := by omega
    rw [show ((s.drop 16).take 8).take 8 = ((s.drop 16).take 8) from List.take_of_length_le (by simp; omega), show val ((s.drop 16).take 8) = genS s from rfl]
    refine C_region ?_
    refine L_op rfl (op_buildSlice (vs := []) rfl Try.underlying23 sz_5 zl_5 rfl (by decide) rfl rfl (fun B2 => ?_))
    refine L_y rfl (y_move rfl) rfl ?_
    refine L_y rfl (y_add rfl rfl (show _ = ((25 + lenS s : Nat) : Int) from by rw [wi64 (by omega) (by omega)]; omega)) rfl ?_
    refine L_y rfl (y_sliceA2 (r := 25) (q := lenS s) (q' := 103) rfl rfl rfl Try.underlying26 sz_5 (by decide) (by omega) (by omega) rfl (by omega) rfl) rfl ?_
    refine L_op rfl (op_append (gs := some ⟨B2, 0, []⟩) (len := 0) (m := lenS s) (xs := []) (vs := bs (bodyS s)) 0 rfl rfl rfl ⟨rfl, rfl, Nat.le_refl _⟩ (src_slice (sees 1 0 rfl) (by rw [bs_length, hs]; omega) (by rw [Nat.mul_one, bs_drop, bs_take]; rfl)) (by rw [bs_length, bodyS_len hs hl, Nat.mul_one]) (bs_one _) Try.underlying23 ni_23 sz_5 by_5 (by decide) zl_5 rfl (by omega) rfl (fun g hgo => ?_))
    rw [Nat.zero_add, List.nil_append] at hgo ⊢
    refine L_y rfl (y_assign rfl) rfl ?_
    refine L_nil ?_
    refine C_seq ?_
    refine C_region ?_
    refine L_y rfl (y_move rfl) rfl ?_
    refine L_y rfl (y_move rfl) rfl ?_
    refine L_y rfl (y_move rfl) rfl ?_
    refine L_op rfl (op_call rfl rfl (fun a w => Try.call12 a w) rfl ?_)
    refine FnS.mono (rpack_v (genS s) genS_lt (bodyS s) (slh_v 0 rfl hgo (bodyS_len hs hl)) a) ?_
    rintro _ _ ⟨rfl, rfl⟩
    rw [show decide (packOk a (bodyS s)) = true from by simp [hp]]
    refine ⟨_, rfl, ?_⟩
    refine L_y rfl (y_move rfl) rfl ?_
    refine L_y rfl (y_extract rfl rfl) rfl ?_
    refine L_y rfl (y_extract rfl rfl) rfl ?_
    refine L_op rfl (op_alloc zl_26 rfl (fun B3 => ?_))
    refine L_op rfl (op_storeA 0 0 rfl rfl rfl sz_26 (by rw [bs_length, packR_len]) rfl (bs_one _) (by simp) ?_)
    refine L_y rfl (y_assign rfl) rfl ?_
    refine L_nil ?_
    refine C_seq ?_
    refine C_seq ?_
    refine C_region ?_
    refine L_y rfl (y_move rfl) rfl ?_
    refine L_y rfl (y_not rfl) rfl ?_
    refine L_y rfl (y_move rfl) rfl ?_
    refine L_y rfl (y_loadA rfl ag_26 sz_26 (sees 0 0 rfl) (by rw [bs_length, packR_len]; decide) (bs_whole0 _ (packR_len _ _ _))) rfl ?_
    refine L_y rfl (y_loadA rfl ag_26 sz_26 (sees 2 0 rfl) (by rw [bs_length, hs]; decide) (bs_whole0 _ hs)) rfl ?_
    refine L_y rfl (y_nea rfl rfl Try.underlying26 Try.underlying5 sz_5 eg_26 (packR_len _ _ _) hs) rfl ?_
    refine L_y rfl (y_pick_f rfl rfl) rfl ?_
    refine L_nil ?_
    refine C_cond rfl (fun hc2 => ?_) (fun hc2 => absurd hc2 (by simp [hne]))
    refine C_seq ?_
    refine C_region ?_
    refine L_y rfl (y_assign rfl) rfl ?_
    refine L_y rfl (y_assign rfl) rfl ?_
    refine L_y rfl (y_assign rfl) rfl ?_
    refine L_nil ?_
    refine C_ret ?_
    refine B_ret (rv_tmp rfl (rv_tmp rfl (rv_tmp rfl rv_nil))) (hsub (.cons _ (.cons _ (.cons _ (.refl _))))) ?_
    exact ⟨rfl, rfl⟩

theorem runp_y {w0 : World} {H : Hp} (a : Int) (s : Sec) (hs : s.length = 128) (hl : lenS s ≤ 103) (hp : packOk a (bodyS s)) (he : packR a (genS s) (bodyS s) = s) : FnS Try.prog w0 15 #[.int .i64 a, .agg (bs s).toArray] H (fun e H' => ∃ g, slOk 1 g (lenS s) (bs (bodyS s)) ∧ e = .returned (.tuple #[.int .u64 ((genS s : Nat) : Int), slV g (lenS s), .bool true]) ∧ H' = slSeg 5 g (bs (bodyS s)) :: H) := by
  refine FnS_intro (n := 50) (rs := [.tmp 4, .tmp 5, .tmp 6]) (vs := [.int .i64 a, .agg (bs s).toArray]) Try.func15 rfl Try.ntmps15 rfl rfl ?_
  refine C_seq ?_
  refine C_region ?_
  refine L_op rfl (op_box rfl rfl rfl (fun B1 => ?_))
  refine L_y rfl (y_assign rfl) rfl ?_
  refine L_y rfl (y_assign rfl) rfl ?_
  refine L_y rfl (y_assign rfl) rfl ?_
  refine L_nil ?_
  refine C_seq ?_
  have hb := (s.getD 24 0).toNat_lt
  have h24 : (bs s)[24]? = some (u8 (s.getD 24 0)) := by rw [bs_get]; simp [List.getD, show 24 < s.length by omega]
  refine C_region ?_
  refine L_y rfl (y_indexA rfl rfl Try.underlying26 sz_5 (by omega) (by omega) rfl) rfl ?_
  refine L_y rfl (y_load rfl ag_5 (sees 0 0 rfl) h24) rfl ?_
  refine L_y rfl (y_conv rfl us_5 Try.underlying3 (show _ = ((lenS s : Nat) : Int) from wi64 (by omega) (by omega))) rfl ?_
  refine L_y rfl (y_assign rfl) rfl ?_
  refine L_nil ?_
  refine C_seq ?_
  refine C_seq ?_
  have hl0 : lenS s < 256 := hb
  refine C_region ?_
  refine L_y rfl (y_move rfl) rfl ?_
  refine L_y rfl (y_gtr rfl rfl) rfl ?_
  refine L_nil ?_
  refine C_cond rfl (fun hc0 => absurd hc0 (by simp <;> omega)) (fun hc0 => ?_)
  refine C_skip ?_
  refine C_seq ?_
  refine C_region ?_
  refine L_y rfl (y_assign rfl) rfl ?_
  refine L_nil ?_
  refine C_seq ?_
  refine C_seq ?_
  refine C_region ?_
  refine L_y rfl (y_assign rfl) rfl ?_
  refine L_nil ?_
  refine C_block ?_
  refine C_loop (ι := Nat) (fun i => [(8, .int .u64 ((val (((s.drop 16).take 8).take i) : Nat) : Int)), (9, .int .i64 ((16 + i : Nat) : Int)), (0, .int .i64 a), (3, .pointer (some ⟨B1, 0, none⟩)), (7, .int .i64 ((lenS s : Nat) : Int))]) (fun i => [(B1, .cells (bs s).toArray 26)] :: H) (fun i => i ≤ 8) (fun i => 8 - i) 0 (Nat.zero_le _) ⟨rfl, rfl, rfl, rfl, rfl, trivial⟩ (HSub.refl _) (fun i hi => ?_)
  skip
  refine C_seq ?_
  refine C_seq ?_
  refine C_region ?_
  refine L_y rfl (y_move rfl) rfl ?_
  refine L_y rfl (y_lss rfl rfl) rfl ?_
  refine L_nil ?_
  refine C_cond rfl (fun hc1 => ?_) (fun hc1 => ?_)
  · replace hc1 := of_decide_eq_true hc1
    refine C_skip ?_
    refine C_seq ?_
    refine C_block ?_
    refine C_region ?_
    refine L_y rfl (y_move rfl) rfl ?_
    refine L_y rfl (y_mul rfl rfl rfl) rfl ?_
    refine L_y rfl (y_move rfl) rfl ?_
    refine L_y rfl (y_indexA rfl rfl Try.underlying26 sz_5 (by omega) (by omega) (show _ = 16 + i from by simp; omega)) rfl ?_
    refine L_y rfl (y_load rfl ag_5 (sees 0 0 rfl) (su_get hs (by omega))) rfl ?_
    have hb2 := (((s.drop 16).take 8).getD i 0).toNat_lt
    refine L_y rfl (y_conv rfl us_5 Try.underlying22 (wu64 (by omega) (by omega))) rfl ?_
    refine L_y rfl (y_add rfl rfl (mul_add_256 (val_take_lt (by omega)))) rfl ?_
    refine L_y rfl (y_assign rfl) rfl ?_
    refine L_nil ?_
    refine C_region ?_
    refine L_y rfl (y_move rfl) rfl ?_
    refine L_y rfl (y_add rfl rfl (show _ = ((16 + (i + 1) : Nat) : Int) from by rw [wi64 (by omega) (by omega)]; omega)) rfl ?_
    refine L_y rfl (y_assign rfl) rfl ?_
    refine L_nil ?_
    refine ⟨i + 1, by omega, by omega, ⟨?_, rfl, rfl, rfl, rfl, trivial⟩, HSub.refl _⟩
    rw [val_take (by simp; omega)]
    rfl
  · replace hc1 := of_decide_eq_false hc1
    refine C_exit ?_
    refine C_seq ?_
    obtain rfl : i = 8 := by omega
    rw [show ((s.drop 16).take 8).take 8 = ((s.drop 16).take 8) from List.take_of_length_le (by simp; omega), show val ((s.drop 16).take 8) = genS s from rfl]
    refine C_region ?_
    refine L_op rfl (op_buildSlice (vs := []) rfl Try.underlying23 sz_5 zl_5 rfl (by decide) rfl rfl (fun B2 => ?_))
    refine L_y rfl (y_move rfl) rfl ?_
    refine L_y rfl (y_add rfl rfl (show _ = ((25 + lenS s : Nat) : Int) from by rw [wi64 (by omega) (by omega)]; omega)) rfl ?_
    refine L_y rfl (y_sliceA2 (r := 25) (q := lenS s) (q' := 103) rfl rfl rfl Try.underlying26 sz_5 (by decide) (by omega) (by omega) rfl (by omega) rfl) rfl ?_
    refine L_op rfl (op_append (gs := some ⟨B2, 0, []⟩) (len := 0) (m := lenS s) (xs := []) (vs := bs (bodyS s)) 0 rfl rfl rfl ⟨rfl, rfl, Nat.le_refl _⟩ (src_slice (sees 1 0 rfl) (by rw [bs_length, hs]; omega) (by rw [Nat.mul_one, bs_drop, bs_take]; rfl)) (by rw [bs_length, bodyS_len hs hl, Nat.mul_one]) (bs_one _) Try.underlying23 ni_23 sz_5 by_5 (by decide) zl_5 rfl (by omega) rfl (fun g hgo => ?_))
    rw [Nat.zero_add, List.nil_append] at hgo ⊢
    refine L_y rfl (y_assign rfl) rfl ?_
    refine L_nil ?_
    refine C_seq ?_
    refine C_region ?_
    refine L_y rfl (y_move rfl) rfl ?_
    refine L_y rfl (y_move rfl) rfl ?_
    refine L_y rfl (y_move rfl) rfl ?_
    refine L_op rfl (op_call rfl rfl (fun a w => Try.call12 a w) rfl ?_)
    refine FnS.mono (rpack_v (genS s) genS_lt (bodyS s) (slh_v 0 rfl hgo (bodyS_len hs hl)) a) ?_
    rintro _ _ ⟨rfl, rfl⟩
    rw [show decide (packOk a (bodyS s)) = true from by simp [hp]]
    refine ⟨_, rfl, ?_⟩
    refine L_y rfl (y_move rfl) rfl ?_
    refine L_y rfl (y_extract rfl rfl) rfl ?_
    refine L_y rfl (y_extract rfl rfl) rfl ?_
    refine L_op rfl (op_alloc zl_26 rfl (fun B3 => ?_))
    refine L_op rfl (op_storeA 0 0 rfl rfl rfl sz_26 (by rw [bs_length, packR_len]) rfl (bs_one _) (by simp) ?_)
    refine L_y rfl (y_assign rfl) rfl ?_
    refine L_nil ?_
    refine C_seq ?_
    refine C_seq ?_
    refine C_region ?_
    refine L_y rfl (y_move rfl) rfl ?_
    refine L_y rfl (y_not rfl) rfl ?_
    refine L_y rfl (y_move rfl) rfl ?_
    refine L_y rfl (y_loadA rfl ag_26 sz_26 (sees 0 0 rfl) (by rw [bs_length, packR_len]; decide) (bs_whole0 _ (packR_len _ _ _))) rfl ?_
    refine L_y rfl (y_loadA rfl ag_26 sz_26 (sees 2 0 rfl) (by rw [bs_length, hs]; decide) (bs_whole0 _ hs)) rfl ?_
    refine L_y rfl (y_nea rfl rfl Try.underlying26 Try.underlying5 sz_5 eg_26 (packR_len _ _ _) hs) rfl ?_
    refine L_y rfl (y_pick_f rfl rfl) rfl ?_
    refine L_nil ?_
    refine C_cond rfl (fun hc2 => absurd hc2 (by simp [he])) (fun hc2 => ?_)
    refine C_skip ?_
    refine C_seq ?_
    refine C_region ?_
    refine L_y rfl (y_move rfl) rfl ?_
    refine L_y rfl (y_move rfl) rfl ?_
    refine L_y rfl (y_assign rfl) rfl ?_
    refine L_y rfl (y_assign rfl) rfl ?_
    refine L_y rfl (y_assign rfl) rfl ?_
    refine L_nil ?_
    refine C_ret ?_
    refine B_ret (rv_tmp rfl (rv_tmp rfl (rv_tmp rfl rv_nil))) (hsub (.cons _ (.cons_cons _ (.cons _ (.refl _))))) ?_
    exact ⟨g, hgo, rfl, rfl⟩

theorem runpack_u {w0 : World} {H : Hp} (a : Int) (s : Sec) (hs : s.length = 128) : FnS Try.prog w0 15 #[.int .i64 a, .agg (bs s).toArray] H (fun e H' => ∃ g, slOk 1 g (unpB a s).length (bs (unpB a s)) ∧ e = .returned (.tuple #[.int .u64 ((unpG a s : Nat) : Int), slV g (unpB a s).length, .bool (decide (isS a s))]) ∧ H' = slSeg 5 g (bs (unpB a s)) :: H) := by
  by_cases hi : isS a s
  · have hp : packOk a (bodyS s) := ⟨hi.2.1, hi.2.2.1, by rw [bodyS_len hs hi.1]; exact hi.1⟩
    refine (runp_y a s hs hi.1 hp (by rw [packR, if_pos hp]; exact hi.2.2.2)).mono ?_
    rintro _ _ ⟨g, h1, rfl, rfl⟩
    rw [unpB, unpG, if_pos hi, if_pos hi, bodyS_len hs hi.1]
    exact ⟨g, h1, by simp [hi], rfl⟩
  · have key : FnS Try.prog w0 15 #[.int .i64 a, .agg (bs s).toArray] H (fun e H' => e = .returned (.tuple #[.int .u64 0, .slice none 0 0, .bool false]) ∧ H' = H) := by
      by_cases hl : lenS s ≤ 103
      · by_cases hp : packOk a (bodyS s)
        · exact runp_n2 a s hs hl hp fun he => hi ⟨hl, hp.1, hp.2.1, by rw [packR, if_pos hp] at he; exact he⟩
        · exact runp_n1 a s hs hl hp
      · exact runp_l a s hs hl
    refine key.weak ?_
    rintro _ _ ⟨rfl, e⟩
    obtain rfl := e.symm
    rw [unpB, unpG, if_neg hi, if_neg hi]
    exact ⟨[] :: H, hsub_flat rfl, none, ⟨rfl, rfl⟩, by simp [hi, slV], rfl⟩

theorem bsame_s {w0 : World} {H : Hp} {a b : Option Addr} {ca cb : Nat} (u v : List UInt8) (ha : Holds w0 H a (bs u)) (hb : Holds w0 H b (bs v)) : FnS Try.prog w0 13 #[.slice a u.length ca, .slice b v.length cb] H (fun e H' => e = .returned (.bool (decide (u = v))) ∧ H' = H) := by
  refine FnS_intro (n := 10) (rs := [.tmp 4]) (vs := [.slice a u.length ca, .slice b v.length cb]) Try.func13 rfl Try.ntmps13 rfl rfl ?_
  refine C_seq ?_
  refine C_region ?_
  refine L_y rfl (y_assign rfl) rfl ?_
  refine L_nil ?_
  refine C_seq ?_
  refine C_region ?_
  refine L_y rfl (y_move rfl) rfl ?_
  refine L_y rfl (y_strH rfl Try.underlying23 Try.underlying5 Try.underlying9 ha rfl) rfl ?_
  refine L_y rfl (y_move rfl) rfl ?_
  refine L_y rfl (y_strH rfl Try.underlying23 Try.underlying5 Try.underlying9 hb rfl) rfl ?_
  refine L_y rfl (y_eqstr rfl rfl) rfl ?_
  refine L_y rfl (y_assign rfl) rfl ?_
  refine L_nil ?_
  refine C_ret ?_
  refine B_ret (rv_tmp rfl rv_nil) (HSub.refl _) ?_
  refine ⟨ret_bool ?_, rfl⟩
  simp

theorem bsame_v {w0 : World} {H : Hp} {x y : Value} (u v : List UInt8) (hx : SlH w0 H x u) (hy : SlH w0 H y v) : FnS Try.prog w0 13 #[x, y] H (fun e H' => e = .returned (.bool (decide (u = v))) ∧ H' = H) := by
  obtain ⟨a, ca, rfl, ha⟩ := hx
  obtain ⟨b, cb, rfl, hb⟩ := hy
  exact bsame_s u v ha hb

end Go.Proofs.Ythlkpbdnfdagfaa
