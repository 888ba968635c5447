/- walks (own work; the walks' lines by a program of this repo). -/
import Derived.Test.YtjiojffakejgjaaDtW
set_option linter.unusedVariables false
set_option linter.unusedSimpArgs false
set_option maxRecDepth 20000
namespace Go.Proofs.Ytjiojffakejgjaa
open Go.Sl
attribute [local irreducible] BodyQ WpC WpL WpS WpH OpW FnS


theorem newpower_s {w0 : World} {H : Hp}  : FnS Try.prog w0 21 #[] H (fun e H' => ∃ b, e = .returned (ptr b) ∧ H' = (⟨b, none, [], ⟨false, 0, false⟩⟩ : Pw).o dt :: [] :: H) := by
  refine FnS_intro (n := 3) (rs := [.tmp 0]) (vs := []) Try.func21 rfl Try.ntmps21 rfl rfl ?_
  refine C_seq ?_
  refine C_region ?_
  refine L_y rfl (y_assign rfl) rfl ?_
  refine L_nil ?_
  refine C_seq ?_
  refine C_region ?_
  refine L_y rfl (y_build0 pl_88 zl_88) rfl ?_
  refine L_op rfl (op_box rfl rfl rfl (fun B1 => ?_))
  refine L_y rfl (y_assign rfl) rfl ?_
  refine L_nil ?_
  refine C_ret ?_
  refine B_ret (rv_tmp rfl rv_nil) hsub_nil1 ?_
  exact ⟨_, rfl, rfl⟩

theorem new_s {w0 : World} {H : Hp} (n : Int) (p : Pw) (hp : p.ok dt) (hk : p.devs.length ≤ 1000) : FnS Try.prog w0 22 #[.int .i64 n, ptr p.b] (p.o dt :: p.q dt :: H) (fun e H' => ∃ b st g', slOk 1 g' (p.devs ++ [b]).length ((p.devs ++ [b]).map (clos dt)) ∧ e = .returned (ptr b) ∧ H' = opn dt (Dv.new b st p.b (szOf n)) ⟨p.b, g', p.devs ++ [b], p.a⟩ [] H) := by
  refine FnS_intro (n := 28) (rs := [.tmp 4]) (vs := [.int .i64 n, ptr p.b]) Try.func22 rfl Try.ntmps22 rfl rfl ?_
  refine C_seq ?_
  refine C_region ?_
  refine L_y rfl (y_assign rfl) rfl ?_
  refine L_nil ?_
  refine C_seq ?_
  refine C_seq ?_
  refine C_region ?_
  refine L_y rfl (y_move rfl) rfl ?_
  refine L_y rfl (y_eqp rfl rfl Try.underlying36) rfl ?_
  refine L_nil ?_
  refine C_cond_f rfl ?_
  refine C_skip ?_
  refine C_seq ?_
  refine C_region ?_
  refine L_y rfl (y_move rfl) rfl ?_
  refine L_y rfl (y_move rfl) rfl ?_
  refine L_y rfl (y_max rfl rfl) rfl ?_
  refine L_y rfl (y_min rfl rfl) rfl ?_
  refine L_op rfl (op_makeSlice rfl Try.underlying48 by_44 sz_44 zl_44 rfl (by omega) (by omega) (by omega) rfl (fun B1 => ?_))
  refine L_y rfl (y_build (vs := [(0, _), (1, _)]) rfl pl_91 zl_91 (fill_cons (off := 0) (m := 1) (vs := [_]) rfl rfl rfl (Nat.le_of_ble_eq_true rfl) (fill_cons (off := 1) (m := 1) (vs := [_]) rfl rfl rfl (Nat.le_of_ble_eq_true rfl) rfl))) rfl ?_
  refine L_op rfl (op_box rfl rfl rfl (fun B2 => ?_))
  refine L_y rfl (y_assign rfl) rfl ?_
  refine L_nil ?_
  refine C_seq ?_
  refine C_region ?_
  refine L_y rfl (y_move rfl) rfl ?_
  refine L_y rfl (y_move rfl) rfl ?_
  refine L_y rfl (y_nilCheck rfl) rfl ?_
  refine L_y rfl (y_fieldAddr rfl fl_88_3) rfl ?_
  refine L_y rfl (y_load rfl ag_86 (sees 2 0 rfl) rfl) rfl ?_
  refine L_y rfl (y_move rfl) rfl ?_
  refine L_y rfl (y_makeFunc rfl rfl) rfl ?_
  refine L_op rfl (op_buildSlice (vs := [(0, _)]) rfl Try.underlying86 sz_1 zl_1 rfl (by decide) (fill_one rfl rfl rfl) rfl (fun B3 => ?_))
  refine L_op rfl (op_append (gs := p.g) (len := p.devs.length) (m := 1) (xs := p.devs.map (clos dt)) (vs := [clos dt B2]) 4 rfl rfl rfl hp.1 (src_slice (sees 0 0 rfl) (Nat.le_of_ble_eq_true rfl) rfl) rfl (fun v hv => by simp at hv; subst hv; rfl) Try.underlying86 ni_86 sz_1 by_1 (by decide) zl_1 rfl (by omega) rfl (fun g' hg' => ?_))
  rw [show p.devs.map (clos dt) ++ [clos dt B2] = (p.devs ++ [B2]).map (clos dt) from by simp, show p.devs.length + 1 = (p.devs ++ [B2]).length from by simp] at hg' ⊢
  refine L_y rfl (y_nilCheck rfl) rfl ?_
  refine L_y rfl (y_fieldAddr rfl fl_88_3) rfl ?_
  refine L_op rfl (op_store1 3 0 rfl rfl (one_slV _ _) sz_86 rfl (Nat.le_of_ble_eq_true rfl) ?_)
  refine L_nil ?_
  refine C_seq ?_
  refine C_region ?_
  refine L_y rfl (y_move rfl) rfl ?_
  refine L_y rfl (y_assign rfl) rfl ?_
  refine L_nil ?_
  refine C_ret ?_
  refine B_ret (rv_tmp rfl rv_nil) (hsub_nil2.trans (hsub (.cons _ (.refl _)))) ?_
  refine ⟨B2, B1, g', hg', rfl, ?_⟩
  rw [zsecs]
  unfold opn Dv.o Dv.t Dv.q Dv.cells Dv.new Ab.new szOf
  simp only [List.length_replicate]
  have e0 : (((min (max n 0) 4096).toNat : Nat) : Int) = min (max n 0) 4096 := by omega
  rfl

theorem new_nil {w0 : World} {H : Hp} (n : Int) : FnS Try.prog w0 22 #[.int .i64 n, .pointer none] H (fun e H' => ∃ pb b st g', slOk 1 g' ([] ++ [b]).length (([] ++ [b]).map (clos dt)) ∧ e = .returned (ptr b) ∧ H' = opn dt (Dv.new b st pb (szOf n)) ⟨pb, g', [] ++ [b], ⟨false, 0, false⟩⟩ [] H) := by
  have hk : (0 : Nat) ≤ 0 := Nat.le_refl 0
  refine FnS_intro (n := 28) (rs := [.tmp 4]) (vs := [.int .i64 n, .pointer none]) Try.func22 rfl Try.ntmps22 rfl rfl ?_
  refine C_seq ?_
  refine C_region ?_
  refine L_y rfl (y_assign rfl) rfl ?_
  refine L_nil ?_
  refine C_seq ?_
  refine C_seq ?_
  refine C_region ?_
  refine L_y rfl (y_move rfl) rfl ?_
  refine L_y rfl (y_eqp rfl rfl Try.underlying36) rfl ?_
  refine L_nil ?_
  refine C_cond_t rfl ?_
  refine C_region ?_
  refine L_op rfl (op_call rfl rfl (fun a w => Try.call21 a w) rfl ?_)
  refine newpower_s.mono ?_
  rintro _ _ ⟨pb, rfl, rfl⟩
  refine ⟨_, rfl, ?_⟩
  refine L_y rfl (y_assign rfl) rfl ?_
  refine L_nil ?_
  refine C_seq ?_
  refine C_region ?_
  refine L_y rfl (y_move rfl) rfl ?_
  refine L_y rfl (y_move rfl) rfl ?_
  refine L_y rfl (y_max rfl rfl) rfl ?_
  refine L_y rfl (y_min rfl rfl) rfl ?_
  refine L_op rfl (op_makeSlice rfl Try.underlying48 by_44 sz_44 zl_44 rfl (by omega) (by omega) (by omega) rfl (fun B1 => ?_))
  refine L_y rfl (y_build (vs := [(0, _), (1, _)]) rfl pl_91 zl_91 (fill_cons (off := 0) (m := 1) (vs := [_]) rfl rfl rfl (Nat.le_of_ble_eq_true rfl) (fill_cons (off := 1) (m := 1) (vs := [_]) rfl rfl rfl (Nat.le_of_ble_eq_true rfl) rfl))) rfl ?_
  refine L_op rfl (op_box rfl rfl rfl (fun B2 => ?_))
  refine L_y rfl (y_assign rfl) rfl ?_
  refine L_nil ?_
  refine C_seq ?_
  refine C_region ?_
  refine L_y rfl (y_move rfl) rfl ?_
  refine L_y rfl (y_move rfl) rfl ?_
  refine L_y rfl (y_nilCheck rfl) rfl ?_
  refine L_y rfl (y_fieldAddr rfl fl_88_3) rfl ?_
  refine L_y rfl (y_load rfl ag_86 (sees 2 0 rfl) rfl) rfl ?_
  refine L_y rfl (y_move rfl) rfl ?_
  refine L_y rfl (y_makeFunc rfl rfl) rfl ?_
  refine L_op rfl (op_buildSlice (vs := [(0, _)]) rfl Try.underlying86 sz_1 zl_1 rfl (by decide) (fill_one rfl rfl rfl) rfl (fun B3 => ?_))
  refine L_op rfl (op_append (gs := none) (len := [].length) (m := 1) (xs := [].map (clos dt)) (vs := [clos dt B2]) 4 rfl rfl rfl ⟨rfl, rfl⟩ (src_slice (sees 0 0 rfl) (Nat.le_of_ble_eq_true rfl) rfl) rfl (fun v hv => by simp at hv; subst hv; rfl) Try.underlying86 ni_86 sz_1 by_1 (by decide) zl_1 rfl (by decide) rfl (fun g' hg' => ?_))
  rw [show [].map (clos dt) ++ [clos dt B2] = ([] ++ [B2]).map (clos dt) from by simp, show [].length + 1 = ([] ++ [B2]).length from by simp] at hg' ⊢
  refine L_y rfl (y_nilCheck rfl) rfl ?_
  refine L_y rfl (y_fieldAddr rfl fl_88_3) rfl ?_
  refine L_op rfl (op_store1 3 0 rfl rfl (one_slV _ _) sz_86 rfl (Nat.le_of_ble_eq_true rfl) ?_)
  refine L_nil ?_
  refine C_seq ?_
  refine C_region ?_
  refine L_y rfl (y_move rfl) rfl ?_
  refine L_y rfl (y_assign rfl) rfl ?_
  refine L_nil ?_
  refine C_ret ?_
  refine B_ret (rv_tmp rfl rv_nil) (hsub_nil2.trans (hsub (.cons _ (.refl _)))) ?_
  refine ⟨pb, B2, B1, g', hg', rfl, ?_⟩
  rw [zsecs]
  unfold opn Dv.o Dv.t Dv.q Dv.cells Dv.new Ab.new szOf
  simp only [List.length_replicate]
  have e0 : (((min (max n 0) 4096).toNat : Nat) : Int) = min (max n 0) 4096 := by omega
  rfl

theorem sector_s {w0 : World} {H : Hp} (c : UInt8) : FnS Try.prog w0 25 #[.int .u8 (c.toNat : Int)] H (fun e H' => e = .returned (.agg (bs (secOf c)).toArray) ∧ H' = H) := by
  refine FnS_intro (n := 13) (rs := [.cell 2 44]) (vs := [.int .u8 (c.toNat : Int)]) Try.func25 rfl Try.ntmps25 rfl rfl ?_
  refine C_seq ?_
  refine C_region ?_
  refine L_op rfl (op_alloc zl_44 rfl (fun B1 => ?_))
  refine L_nil ?_
  refine C_seq ?_
  refine C_region ?_
  refine L_op rfl (op_alloc zl_44 rfl (fun B2 => ?_))
  refine L_nil ?_
  refine C_seq ?_
  refine C_seq ?_
  refine C_region ?_
  refine L_y rfl (y_assign rfl) rfl ?_
  refine L_nil ?_
  refine C_block ?_
  refine C_loop (ι := Nat) (fun i => [(0, .int .u8 (c.toNat : Int)), (2, ptr B1), (3, ptr B2), (4, .int .i64 (i : Int))]) (fun i => [(B2, .cells (bs (fillTo c i)).toArray 44)] :: [(B1, .cells (List.replicate 128 (Value.int .u8 0)).toArray 44)] :: H) (fun i => i ≤ 128) (fun i => 128 - i) 0 (Nat.zero_le _) ⟨rfl, rfl, rfl, rfl, trivial⟩ (HSub.same (by rw [show bs (fillTo c 0) = List.replicate 128 (Value.int .u8 0) from by simp [fillTo, bs, u8]])) (fun i hi => ?_)
  skip
  refine C_seq ?_
  refine C_seq ?_
  refine C_region ?_
  refine L_y rfl (y_move rfl) rfl ?_
  refine L_y rfl (y_lss rfl rfl) rfl ?_
  refine L_nil ?_
  refine C_cond rfl (fun hc0 => ?_) (fun hc0 => ?_)
  · replace hc0 := of_decide_eq_true hc0
    refine C_skip ?_
    refine C_seq ?_
    refine C_block ?_
    refine C_region ?_
    refine L_y rfl (y_move rfl) rfl ?_
    refine L_y rfl (y_move rfl) rfl ?_
    refine L_y rfl (y_indexA rfl rfl Try.underlying44 sz_5 (by omega) (by omega) (show _ = i from by simp)) rfl ?_
    refine L_op rfl (op_store1 0 0 rfl rfl rfl sz_5 rfl (by rw [bs_length, fillTo_len (by omega)]; omega) ?_)
    refine L_nil ?_
    refine C_region ?_
    refine L_y rfl (y_move rfl) rfl ?_
    refine L_y rfl (y_add rfl rfl (wi64 (by omega) (by omega))) rfl ?_
    refine L_y rfl (y_assign rfl) rfl ?_
    refine L_nil ?_
    exact ⟨i + 1, by omega, by omega, ⟨rfl, rfl, rfl, rfl, trivial⟩, HSub.same (by rw [← fillTo_step (by omega), ← bs_set]; rfl)⟩
  · replace hc0 := of_decide_eq_false hc0
    refine C_exit ?_
    refine C_seq ?_
    obtain rfl : i = 128 := by omega
    rw [fillTo_all]
    refine C_region ?_
    refine L_y rfl (y_loadA rfl ag_44 sz_44 (sees 0 0 rfl) (by rw [bs_length, secOf_len]; decide) (bs_whole0 _ (secOf_len c))) rfl ?_
    refine L_op rfl (op_storeA 1 0 rfl rfl rfl sz_44 (by rw [bs_length, secOf_len]) rfl (bs_one _) rfl ?_)
    refine L_nil ?_
    refine C_ret ?_
    refine B_ret (rv_cellA rfl ag_44 sz_44 (sees 1 0 rfl) (by rw [bs_length, secOf_len]; decide) (bs_whole0 _ (secOf_len c)) rv_nil) (hsub (.cons _ (.cons _ (.refl _)))) ?_
    exact ⟨rfl, rfl⟩

theorem clonesec_s {w0 : World} {H : Hp} {x : Addr} {m cap : Nat} (vs : List Value) (hs : Src Try.prog w0 H 128 (.slice (some x) m cap) m vs) (hv : vs.length = m * 128) (ho : ∀ v ∈ vs, one v = true) (hm : m ≤ 100000) : FnS Try.prog w0 51 #[.slice (some x) m cap] H (fun e H' => ∃ g, slOk 128 g m vs ∧ e = .returned (slV g m) ∧ H' = slSeg 44 g vs :: H) := by
  refine FnS_intro (n := 8) (rs := [.tmp 2]) (vs := [.slice (some x) m cap]) Try.func51 rfl Try.ntmps51 rfl rfl ?_
  refine C_seq ?_
  refine C_region ?_
  refine L_y rfl (y_assign rfl) rfl ?_
  refine L_nil ?_
  refine C_seq ?_
  refine C_seq ?_
  refine C_region ?_
  refine L_y rfl (y_move rfl) rfl ?_
  refine L_y rfl (y_eqs rfl rfl Try.underlying48) rfl ?_
  refine L_nil ?_
  refine C_cond_f rfl ?_
  refine C_skip ?_
  refine C_seq ?_
  refine C_region ?_
  refine L_op rfl (op_buildSlice (vs := []) rfl Try.underlying48 sz_44 zl_44 rfl (by decide) rfl rfl (fun B1 => ?_))
  refine L_y rfl (y_move rfl) rfl ?_
  refine L_op rfl (op_append (gs := some ⟨B1, 0, []⟩) (len := 0) (m := m) (xs := []) (vs := vs) 0 rfl rfl rfl ⟨rfl, rfl, Nat.le_refl _⟩ hs.up hv ho Try.underlying48 ni_48 sz_44 by_44 (by decide) zl_44 rfl (by omega) rfl (fun g hg => ?_))
  rw [Nat.zero_add, List.nil_append] at hg ⊢
  refine L_y rfl (y_assign rfl) rfl ?_
  refine L_nil ?_
  refine C_ret ?_
  refine B_ret (rv_tmp rfl rv_nil) (HSub.refl _) ?_
  exact ⟨g, hg, rfl, rfl⟩

theorem clonesec_nil {w0 : World} {H : Hp}  : FnS Try.prog w0 51 #[.slice none 0 0] H (fun e H' => e = .returned (.slice none 0 0) ∧ H' = H) := by
  refine FnS_intro (n := 8) (rs := [.tmp 2]) (vs := [.slice none 0 0]) Try.func51 rfl Try.ntmps51 rfl rfl ?_
  refine C_seq ?_
  refine C_region ?_
  refine L_y rfl (y_assign rfl) rfl ?_
  refine L_nil ?_
  refine C_seq ?_
  refine C_seq ?_
  refine C_region ?_
  refine L_y rfl (y_move rfl) rfl ?_
  refine L_y rfl (y_eqs rfl rfl Try.underlying48) rfl ?_
  refine L_nil ?_
  refine C_cond_t rfl ?_
  refine C_seq ?_
  refine C_region ?_
  refine L_y rfl (y_assign rfl) rfl ?_
  refine L_nil ?_
  refine C_ret ?_
  refine B_ret (rv_tmp rfl rv_nil) (HSub.refl _) ?_
  exact ⟨rfl, rfl⟩

theorem dump_s {w0 : World} {H : Hp} (d : Dv) (hd : d.a.ok) (hD : Sees (fun w => St w0 w H) d.b (.cells d.cells.toArray dt.dev)) (hT : Sees (fun w => St w0 w H) d.st (.cells (bs d.a.S.flatten).toArray dt.sec)) : FnS Try.prog w0 28 #[ptr d.b] H (fun e H' => ∃ g, slOk 128 g d.a.S.length (bs d.a.S.flatten) ∧ e = .returned (slV g d.a.S.length) ∧ H' = slSeg 44 g (bs d.a.S.flatten) :: H) := by
  have hfl := flat_len hd.1
  refine FnS_intro (n := 10) (rs := [.tmp 2]) (vs := [ptr d.b]) Try.func28 rfl Try.ntmps28 rfl rfl ?_
  refine C_seq ?_
  refine C_region ?_
  refine L_y rfl (y_assign rfl) rfl ?_
  refine L_nil ?_
  refine C_seq ?_
  refine C_seq ?_
  refine C_region ?_
  refine L_y rfl (y_move rfl) rfl ?_
  refine L_y rfl (y_eqp rfl rfl Try.underlying38) rfl ?_
  refine L_nil ?_
  refine C_cond_f rfl ?_
  refine C_skip ?_
  refine C_seq ?_
  refine C_region ?_
  refine L_y rfl (y_move rfl) rfl ?_
  refine L_y rfl (y_nilCheck rfl) rfl ?_
  refine L_y rfl (y_fieldAddr rfl fl_91_1) rfl ?_
  refine L_y rfl (y_load rfl ag_48 (hD) rfl) rfl ?_
  refine L_op rfl (op_call rfl rfl (fun a w => Try.call51 a w) rfl ?_)
  refine (clonesec_s (bs d.a.S.flatten) (src_slice (hT) (Nat.le_of_eq (by rw [bs_length, hfl, Nat.zero_add])) (by rw [List.drop_zero, List.take_of_length_le (Nat.le_of_eq (by rw [bs_length, hfl]))])) (by rw [bs_length, hfl]) (bs_one _) (by have := hd.2.1; omega)).mono ?_
  rintro _ _ ⟨g, hg, rfl, rfl⟩
  refine ⟨_, rfl, ?_⟩
  refine L_y rfl (y_assign rfl) rfl ?_
  refine L_nil ?_
  refine C_ret ?_
  refine B_ret (rv_tmp rfl rv_nil) (HSub.refl _) ?_
  exact ⟨g, hg, rfl, rfl⟩

theorem dump_nil {w0 : World} {H : Hp}  : FnS Try.prog w0 28 #[.pointer none] H (fun e H' => e = .returned (.slice none 0 0) ∧ H' = H) := by
  refine FnS_intro (n := 10) (rs := [.tmp 2]) (vs := [.pointer none]) Try.func28 rfl Try.ntmps28 rfl rfl ?_
  refine C_seq ?_
  refine C_region ?_
  refine L_y rfl (y_assign rfl) rfl ?_
  refine L_nil ?_
  refine C_seq ?_
  refine C_seq ?_
  refine C_region ?_
  refine L_y rfl (y_move rfl) rfl ?_
  refine L_y rfl (y_eqp rfl rfl Try.underlying38) rfl ?_
  refine L_nil ?_
  refine C_cond_t rfl ?_
  refine C_seq ?_
  refine C_region ?_
  refine L_y rfl (y_assign rfl) rfl ?_
  refine L_nil ?_
  refine C_ret ?_
  refine B_ret (rv_tmp rfl rv_nil) (HSub.refl _) ?_
  exact ⟨rfl, rfl⟩

theorem same_s {w0 : World} {H : Hp} {a b : Option Addr} {ca cb : Nat} {A B : List Sec} (hA : ∀ s ∈ A, s.length = 128) (hB : ∀ s ∈ B, s.length = 128) (ha : Holds w0 H a (bs A.flatten)) (hb : Holds w0 H b (bs B.flatten)) (hm : A.length ≤ 100000) : FnS Try.prog w0 32 #[.slice a A.length ca, .slice b B.length cb] H (fun e H' => e = .returned (.int .i64 (if A = B then 1 else 0)) ∧ H' = H) := by
  refine FnS_intro (n := 26) (rs := [.tmp 4]) (vs := [.slice a A.length ca, .slice b B.length cb]) Try.func32 rfl Try.ntmps32 rfl rfl ?_
  refine C_seq ?_
  refine C_region ?_
  refine L_y rfl (y_assign rfl) rfl ?_
  refine L_nil ?_
  refine C_seq ?_
  refine C_seq ?_
  refine C_region ?_
  refine L_y rfl (y_move rfl) rfl ?_
  refine L_y rfl (y_lenS rfl rfl Try.underlying48) rfl ?_
  refine L_y rfl (y_move rfl) rfl ?_
  refine L_y rfl (y_lenS rfl rfl Try.underlying48) rfl ?_
  refine L_y rfl (y_nei rfl rfl) rfl ?_
  refine L_nil ?_
  refine C_cond rfl (fun hc0 => ?_) (fun hc0 => ?_)
  · replace hc0 : ¬ A.length = B.length := by simp at hc0; omega
    refine C_seq ?_
    refine C_region ?_
    refine L_y rfl (y_assign rfl) rfl ?_
    refine L_nil ?_
    refine C_ret ?_
    refine B_ret (rv_tmp rfl rv_nil) (HSub.refl _) ?_
    first
    | exact ⟨ret_int (by rw [if_neg (fun e => hc0 (by rw [e]))]), rfl⟩
    | exact ⟨ret_int (by rw [if_neg (fun e => hc2 (by rw [e] at hs; rw [hs] at ht; exact Option.some.inj ht))]), rfl⟩
    | exact ⟨ret_int (by rw [if_pos (by have e := hi.2; rw [List.take_of_length_le (by omega), List.take_of_length_le (by omega)] at e; exact e)]), rfl⟩
  · replace hc0 : A.length = B.length := by simp at hc0; omega
    refine C_skip ?_
    refine C_seq ?_
    refine C_seq ?_
    refine C_region ?_
    refine L_y rfl (y_assign rfl) rfl ?_
    refine L_nil ?_
    refine C_block ?_
    refine C_loop (ι := Nat) (fun i => [(0, .slice a A.length ca), (1, .slice b B.length cb), (4, .int .i64 0), (5, .int .i64 (i : Int))]) (fun i => H) (fun i => i ≤ A.length ∧ A.take i = B.take i) (fun i => A.length - i) 0 ⟨Nat.zero_le _, rfl⟩ ⟨rfl, rfl, rfl, rfl, trivial⟩ (HSub.refl _) (fun i hi => ?_)
    skip
    refine C_seq ?_
    refine C_seq ?_
    refine C_region ?_
    refine L_y rfl (y_move rfl) rfl ?_
    refine L_y rfl (y_move rfl) rfl ?_
    refine L_y rfl (y_lenS rfl rfl Try.underlying48) rfl ?_
    refine L_y rfl (y_lss rfl rfl) rfl ?_
    refine L_nil ?_
    refine C_cond rfl (fun hc1 => ?_) (fun hc1 => ?_)
    · replace hc1 := of_decide_eq_true hc1
      refine C_skip ?_
      refine C_seq ?_
      refine C_block ?_
      refine C_seq ?_
      obtain ⟨s, hs⟩ : ∃ s, A[i]? = some s := ⟨_, List.getElem?_eq_getElem (by omega)⟩
      obtain ⟨t, ht⟩ : ∃ t, B[i]? = some t := ⟨_, List.getElem?_eq_getElem (by omega)⟩
      have hla := flat_len hA
      have hlb := flat_len hB
      obtain ⟨b1, o1, l1, T1, fr1, rfl, hs1, hle1, hv1⟩ := ha (by rw [bs_length, hla]; omega)
      obtain ⟨b2, o2, l2, T2, fr2, rfl, hs2, hle2, hv2⟩ := hb (by rw [bs_length, hlb]; omega)
      rw [bs_length] at hle1 hle2
      refine C_regionH0 (by kernel_rfl) ?_
      refine H_y 0 rfl (by kernel_rfl) (by kernel_rfl) (by kernel_rfl) (HSub.refl _) rfl (y_move rfl) rfl ?_
      refine H_y 1 rfl (by kernel_rfl) (by kernel_rfl) (by kernel_rfl) (HSub.refl _) rfl (y_move rfl) rfl ?_
      refine H_y 2 rfl (by kernel_rfl) (by kernel_rfl) (by kernel_rfl) (HSub.refl _) rfl (y_indexS rfl rfl Try.underlying48 sz_44 (by omega) (by omega) (show _ = o1 + i * 128 from by simp)) rfl ?_
      refine H_y 3 rfl (by kernel_rfl) (by kernel_rfl) (by kernel_rfl) (HSub.refl _) rfl (y_loadA rfl ag_44 sz_44 (hs1) (by omega) (sec_at (n := 0) hA hv1 hs)) rfl ?_
      refine H_y 4 rfl (by kernel_rfl) (by kernel_rfl) (by kernel_rfl) (HSub.refl _) rfl (y_move rfl) rfl ?_
      refine H_y 5 rfl (by kernel_rfl) (by kernel_rfl) (by kernel_rfl) (HSub.refl _) rfl (y_move rfl) rfl ?_
      refine H_y 6 rfl (by kernel_rfl) (by kernel_rfl) (by kernel_rfl) (HSub.refl _) rfl (y_indexS rfl rfl Try.underlying48 sz_44 (by omega) (by omega) (show _ = o2 + i * 128 from by simp)) rfl ?_
      refine H_one 7 rfl (by kernel_rfl) rfl (op_y (y_loadA rfl ag_44 sz_44 (hs2) (by omega) (sec_at (n := 0) hB hv2 ht)) rfl ?_)
      refine ⟨HSub.refl _, ?_⟩
      refine H_y 8 rfl (by kernel_rfl) (by kernel_rfl) (by kernel_rfl) (HSub.refl _) rfl (y_nea rfl rfl Try.underlying44 Try.underlying5 sz_5 eg_44 (hA s (List.mem_of_getElem? hs)) (hB t (List.mem_of_getElem? ht))) rfl ?_
      refine H_done (by kernel_rfl) ?_
      refine C_cond rfl (fun hc2 => ?_) (fun hc2 => ?_)
      · replace hc2 : ¬ s = t := by simpa using hc2
        refine C_seq ?_
        refine C_region ?_
        refine L_y rfl (y_assign rfl) rfl ?_
        refine L_nil ?_
        refine C_ret ?_
        refine B_ret (rv_tmp rfl rv_nil) (HSub.refl _) ?_
        first
        | exact ⟨ret_int (by rw [if_neg (fun e => hc0 (by rw [e]))]), rfl⟩
        | exact ⟨ret_int (by rw [if_neg (fun e => hc2 (by rw [e] at hs; rw [hs] at ht; exact Option.some.inj ht))]), rfl⟩
        | exact ⟨ret_int (by rw [if_pos (by have e := hi.2; rw [List.take_of_length_le (by omega), List.take_of_length_le (by omega)] at e; exact e)]), rfl⟩
      · replace hc2 : s = t := by simpa using hc2
        refine C_skip ?_
        refine C_region ?_
        refine L_y rfl (y_move rfl) rfl ?_
        refine L_y rfl (y_add rfl rfl (wi64 (by omega) (by omega))) rfl ?_
        refine L_y rfl (y_assign rfl) rfl ?_
        refine L_nil ?_
        exact ⟨i + 1, ⟨by omega, same_step hi.2 hs ht hc2⟩, by omega, ⟨rfl, rfl, rfl, rfl, trivial⟩, HSub.refl _⟩
    · replace hc1 := of_decide_eq_false hc1
      refine C_exit ?_
      refine C_seq ?_
      refine C_region ?_
      refine L_y rfl (y_assign rfl) rfl ?_
      refine L_nil ?_
      refine C_ret ?_
      refine B_ret (rv_tmp rfl rv_nil) (HSub.refl _) ?_
      first
      | exact ⟨ret_int (by rw [if_neg (fun e => hc0 (by rw [e]))]), rfl⟩
      | exact ⟨ret_int (by rw [if_neg (fun e => hc2 (by rw [e] at hs; rw [hs] at ht; exact Option.some.inj ht))]), rfl⟩
      | exact ⟨ret_int (by rw [if_pos (by have e := hi.2; rw [List.take_of_length_le (by omega), List.take_of_length_le (by omega)] at e; exact e)]), rfl⟩

end Go.Proofs.Ytjiojffakejgjaa
