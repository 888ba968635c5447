/- walks (own work; the walks' lines by a program of this repo). -/
import Derived.Test.YthlkpbdnfdagfaaXaW
set_option linter.unusedVariables false
set_option linter.unusedSimpArgs false
set_option maxRecDepth 20000
namespace Go.Proofs.Ythlkpbdnfdagfaa
open Go.Sl
attribute [local irreducible] BodyQ WpC WpL WpS WpH OpW FnS


theorem spoilt_over {w0 : World} {H : Hp} {pa : Option Addr} {cap : Nat} (gen : Nat) (hg : gen < M64) (body : List UInt8) (hB : Holds w0 H pa (bs body)) (m k i : Nat) (hm : m < 65536) (hk : k < 65536) (hi0 : i < 256) (c : UInt8) (hl : 103 < body.length) : FnS Try.prog w0 6 #[.int .u16 (m : Int), .int .u16 (k : Int), .int .u64 (gen : Int), .slice pa body.length cap, .int .u8 (i : Int), .int .u8 (c.toNat : Int)] H (fun e H' => e = .returned (.bool true)) := by
  refine FnS_intro (n := 96) (rs := [.tmp 12]) (vs := [.int .u16 (m : Int), .int .u16 (k : Int), .int .u64 (gen : Int), .slice pa body.length cap, .int .u8 (i : Int), .int .u8 (c.toNat : Int)]) Try.func6 rfl Try.ntmps6 rfl rfl ?_
  refine C_seq ?_
  refine C_region ?_
  refine L_y rfl (y_assign rfl) rfl ?_
  refine L_nil ?_
  refine C_seq ?_
  refine C_seq ?_
  refine C_region ?_
  refine L_op rfl (op_call rfl rfl (fun a w => Try.call10 a w) rfl ?_)
  refine awake11_s.mono ?_
  rintro _ _ ⟨rfl, e⟩
  obtain rfl := e.symm
  refine ⟨_, rfl, ?_⟩
  refine L_y rfl (y_not rfl) rfl ?_
  refine L_nil ?_
  refine C_cond_f rfl ?_
  refine C_skip ?_
  refine C_seq ?_
  refine C_seq ?_
  refine C_region ?_
  refine L_y rfl (y_move rfl) rfl ?_
  refine L_y rfl (y_lenS rfl rfl Try.underlying23) rfl ?_
  refine L_y rfl (y_gtr rfl rfl) rfl ?_
  refine L_nil ?_
  refine C_cond rfl (fun hc1 => ?_) (fun hc1 => absurd hc1 (by simp <;> omega))
  refine C_seq ?_
  refine C_region ?_
  refine L_y rfl (y_assign rfl) rfl ?_
  refine L_nil ?_
  refine C_ret ?_
  refine B_ret (rv_tmp rfl rv_nil) (HSub.refl _) ?_
  rfl

theorem spoilt_s {w0 : World} {H : Hp} {pa : Option Addr} {cap : Nat} (gen : Nat) (hg : gen < M64) (body : List UInt8) (hB : Holds w0 H pa (bs body)) (m k i : Nat) (hm : m < 65536) (hk : k < 65536) (hi0 : i < 256) (c : UInt8) (hl0 : ¬ 103 < body.length) : FnS Try.prog w0 6 #[.int .u16 (m : Int), .int .u16 (k : Int), .int .u64 (gen : Int), .slice pa body.length cap, .int .u8 (i : Int), .int .u8 (c.toNat : Int)] H (fun e H' => e = .returned (.bool true)) := by
  refine FnS_intro (n := 96) (rs := [.tmp 12]) (vs := [.int .u16 (m : Int), .int .u16 (k : Int), .int .u64 (gen : Int), .slice pa body.length cap, .int .u8 (i : Int), .int .u8 (c.toNat : Int)]) Try.func6 rfl Try.ntmps6 rfl rfl ?_
  refine C_seq ?_
  refine C_region ?_
  refine L_y rfl (y_assign rfl) rfl ?_
  refine L_nil ?_
  refine C_seq ?_
  refine C_seq ?_
  refine C_region ?_
  refine L_op rfl (op_call rfl rfl (fun a w => Try.call10 a w) rfl ?_)
  refine awake11_s.mono ?_
  rintro _ _ ⟨rfl, e⟩
  obtain rfl := e.symm
  refine ⟨_, rfl, ?_⟩
  refine L_y rfl (y_not rfl) rfl ?_
  refine L_nil ?_
  refine C_cond_f rfl ?_
  refine C_skip ?_
  refine C_seq ?_
  refine C_seq ?_
  refine C_region ?_
  refine L_y rfl (y_move rfl) rfl ?_
  refine L_y rfl (y_lenS rfl rfl Try.underlying23) rfl ?_
  refine L_y rfl (y_gtr rfl rfl) rfl ?_
  refine L_nil ?_
  refine C_cond rfl (fun hc1 => absurd hc1 (by simp <;> omega)) (fun hc1 => ?_)
  refine C_skip ?_
  refine C_seq ?_
  refine C_region ?_
  refine L_y rfl (y_move rfl) rfl ?_
  refine L_y rfl (y_conv rfl us_41 Try.underlying3 (wi64 (by omega) (by omega))) rfl ?_
  refine L_y rfl (y_rem rfl rfl (by decide) (show _ = ((m % 4096 : Nat) : Int) from rfl)) rfl ?_
  refine L_y rfl (y_move rfl) rfl ?_
  refine L_y rfl (y_conv rfl us_41 Try.underlying3 (wi64 (by omega) (by omega))) rfl ?_
  refine L_y rfl (y_rem rfl rfl (by decide) (show _ = ((k % 4096 : Nat) : Int) from rfl)) rfl ?_
  refine L_y rfl (y_assign rfl) rfl ?_
  refine L_y rfl (y_assign rfl) rfl ?_
  refine L_nil ?_
  refine C_seq ?_
  have hp := packOk_mod m (body := body) (by omega)
  have hu := unp_packR hp hg
  refine C_region ?_
  refine L_y rfl (y_build0 pl_33 zl_33) rfl ?_
  refine L_y rfl (y_makeIface rfl Try.underlying33 rfl) rfl ?_
  refine L_y rfl (y_move rfl) rfl ?_
  refine L_y rfl (y_move rfl) rfl ?_
  refine L_y rfl (y_move rfl) rfl ?_
  refine L_op rfl (op_call rfl rfl (fun a w => Try.call11 a w) rfl ?_)
  refine FnS.mono (pack_v gen hg body (slh_raw (hB) rfl) ((m % 4096 : Nat) : Int)) ?_
  rintro _ _ ⟨rfl, e⟩
  obtain rfl := e.symm
  rw [decide_eq_true hp]
  refine ⟨_, rfl, ?_⟩
  refine L_y rfl (y_move rfl) rfl ?_
  refine L_y rfl (y_extract rfl rfl) rfl ?_
  refine L_y rfl (y_extract rfl rfl) rfl ?_
  refine L_op rfl (op_alloc zl_26 rfl (fun B1 => ?_))
  refine L_op rfl (op_storeA 0 0 rfl rfl rfl sz_26 (by rw [bs_length, packR_len _ _ _]) rfl (bs_one _) (by simp) ?_)
  refine L_y rfl (y_assign rfl) rfl ?_
  refine L_nil ?_
  refine C_seq ?_
  refine C_region ?_
  refine L_y rfl (y_loadA rfl ag_26 sz_26 (sees 0 0 rfl) (by rw [bs_length, packR_len _ _ _]; decide) (bs_whole0 _ (packR_len _ _ _))) rfl ?_
  refine L_op rfl (op_alloc zl_26 rfl (fun B2 => ?_))
  refine L_op rfl (op_storeA 0 0 rfl rfl rfl sz_26 (by rw [bs_length, packR_len _ _ _]) rfl (bs_one _) (by simp) ?_)
  refine L_nil ?_
  refine C_seq ?_
  obtain ⟨ts, hts⟩ : ∃ ts, ts = (packR ((m % 4096 : Nat) : Int) gen body).set (i % 128) ((packR ((m % 4096 : Nat) : Int) gen body).getD (i % 128) 0 ^^^ c) := ⟨_, rfl⟩
  have hl : ts.length = 128 := by rw [hts, List.length_set, packR_len]
  refine C_region ?_
  refine L_y rfl (y_move rfl) rfl ?_
  refine L_y rfl (y_conv rfl us_5 Try.underlying3 (wi64 (by omega) (by omega))) rfl ?_
  refine L_y rfl (y_rem rfl rfl (by decide) (show _ = ((i % 128 : Nat) : Int) from rfl)) rfl ?_
  refine L_y rfl (y_indexA rfl rfl Try.underlying26 sz_5 (by omega) (by omega) (show _ = i % 128 from by simp; omega)) rfl ?_
  refine L_y rfl (y_load rfl ag_5 (sees 0 0 rfl) (bs_getD (by rw [packR_len]; omega))) rfl ?_
  refine L_y rfl (y_move rfl) rfl ?_
  refine L_y rfl (y_xor rfl rfl (bits_xor8 _ _)) rfl ?_
  refine L_y rfl (y_indexA rfl rfl Try.underlying26 sz_5 (by omega) (by omega) (show _ = i % 128 from by simp; omega)) rfl ?_
  refine L_op rfl (op_store1 0 0 rfl rfl rfl sz_5 rfl (by rw [bs_length, packR_len]; omega) ?_)
  refine L_nil ?_
  rw [show (bs (packR ((m % 4096 : Nat) : Int) gen body)).set (i % 128) (.int .u8 (((packR ((m % 4096 : Nat) : Int) gen body).getD (i % 128) 0 ^^^ c).toNat : Int)) = bs ts from by rw [hts]; exact bs_set _ _ _]
  refine C_seq ?_
  refine C_region ?_
  refine L_y rfl (y_build0 pl_33 zl_33) rfl ?_
  refine L_y rfl (y_makeIface rfl Try.underlying33 rfl) rfl ?_
  refine L_y rfl (y_move rfl) rfl ?_
  refine L_y rfl (y_loadA rfl ag_26 sz_26 (sees 0 0 rfl) (by rw [bs_length, hl]; decide) (bs_whole0 _ (hl))) rfl ?_
  refine L_op rfl (op_call rfl rfl (fun a w => Try.call14 a w) rfl ?_)
  refine FnS.mono (unpack_u ((k % 4096 : Nat) : Int) ts hl) ?_
  rintro _ _ ⟨g1, hg1, rfl, rfl⟩
  refine ⟨_, rfl, ?_⟩
  refine L_y rfl (y_move rfl) rfl ?_
  refine L_y rfl (y_extract rfl rfl) rfl ?_
  refine L_y rfl (y_extract rfl rfl) rfl ?_
  refine L_y rfl (y_extract rfl rfl) rfl ?_
  refine L_y rfl (y_assign rfl) rfl ?_
  refine L_y rfl (y_assign rfl) rfl ?_
  refine L_y rfl (y_assign rfl) rfl ?_
  refine L_nil ?_
  refine C_seq ?_
  refine C_seq ?_
  refine C_region ?_
  refine L_y rfl (y_move rfl) rfl ?_
  refine L_y rfl (y_move rfl) rfl ?_
  refine L_y rfl (y_eqi rfl rfl) rfl ?_
  refine L_y rfl (y_move rfl) rfl ?_
  refine L_case 64 rfl (fun hg10_4 => ?_) (fun hg10_4 => ?_)
  · have hn : ((m % 4096 : Nat) : Int) = ((k % 4096 : Nat) : Int) := of_decide_eq_true hg10_4
    refine L_y rfl (y_move rfl) rfl ?_
    refine L_y rfl (y_eqi rfl rfl) rfl ?_
    refine L_y rfl (y_pick_t rfl rfl) rfl ?_
    refine L_nil ?_
    refine C_cond rfl (fun hc2 => ?_) (fun hc2 => ?_)
    · replace hc2 := of_decide_eq_true hc2
      have hc : c = 0 := UInt8.toNat_inj.1 (by simp; omega)
      have e : ts = (packR ((m % 4096 : Nat) : Int) gen body) := by rw [hts, hc]; exact getD_set_self (by rw [packR_len]; omega) rfl
      rw [e, ← hn] at hg1 ⊢
      rw [hu.2.2] at hg1
      rw [hu.2.1, hu.2.2, decide_eq_true hu.1]
      refine C_seq ?_
      refine C_region ?_
      refine L_y rfl (y_move rfl) rfl ?_
      refine L_y rfl (y_move rfl) rfl ?_
      refine L_case 69 rfl (fun hg11_2 => ?_) (fun hg11_2 => ?_)
      · skip
        refine L_y rfl (y_move rfl) rfl ?_
        refine L_y rfl (y_move rfl) rfl ?_
        refine L_y rfl (y_eqi rfl rfl) rfl ?_
        refine L_y rfl (y_pick_t rfl rfl) rfl ?_
        refine L_y rfl (y_move rfl) rfl ?_
        refine L_case 74 rfl (fun hg11_7 => ?_) (fun hg11_7 => ?_)
        · skip
          refine L_y rfl (y_move rfl) rfl ?_
          refine L_y rfl (y_move rfl) rfl ?_
          refine L_op rfl (op_call rfl rfl (fun a w => Try.call13 a w) rfl ?_)
          refine FnS.mono (bsame_v body body (slh_v 0 rfl hg1 rfl) (slh_raw (hB.up.up.up) rfl)) ?_
          rintro _ _ ⟨rfl, e⟩
          obtain rfl := e.symm
          rw [show decide (body = body) = true from by simp]
          refine ⟨_, rfl, ?_⟩
          refine L_y rfl (y_pick_t rfl rfl) rfl ?_
          refine L_y rfl (y_assign rfl) rfl ?_
          refine L_nil ?_
          refine C_ret ?_
          refine B_ret (rv_tmp rfl rv_nil) (HSub.refl _) ?_
          first
          | rfl
          | exact ret_bool (by rw [unp_back hi]; simp)
        · exact absurd hg11_7 (by simp)
      · exact absurd hg11_2 (by decide)
    · replace hc2 := of_decide_eq_false hc2
      refine C_skip ?_
      refine C_seq ?_
      refine C_region ?_
      refine L_y rfl (y_move rfl) rfl ?_
      refine L_y rfl (y_move rfl) rfl ?_
      refine L_y rfl (y_move rfl) rfl ?_
      refine L_op rfl (op_call rfl rfl (fun a w => Try.call12 a w) rfl ?_)
      refine FnS.mono (rpack_v (unpG ((k % 4096 : Nat) : Int) ts) (unpG_lt _ _) (unpB ((k % 4096 : Nat) : Int) ts) (slh_v 0 rfl hg1 rfl) ((k % 4096 : Nat) : Int)) ?_
      rintro _ _ ⟨rfl, e⟩
      obtain rfl := e.symm
      refine ⟨_, rfl, ?_⟩
      refine L_y rfl (y_move rfl) rfl ?_
      refine L_y rfl (y_extract rfl rfl) rfl ?_
      refine L_y rfl (y_extract rfl rfl) rfl ?_
      refine L_op rfl (op_alloc zl_26 rfl (fun B3 => ?_))
      refine L_op rfl (op_storeA 0 0 rfl rfl rfl sz_26 (by rw [bs_length, packR_len _ _ _]) rfl (bs_one _) (by simp) ?_)
      refine L_y rfl (y_assign rfl) rfl ?_
      refine L_nil ?_
      refine C_seq ?_
      refine C_region ?_
      refine L_y rfl (y_move rfl) rfl ?_
      refine L_y rfl (y_not rfl) rfl ?_
      refine L_y rfl (y_move rfl) rfl ?_
      refine L_case 88 rfl (fun hg13_3 => ?_) (fun hg13_3 => ?_)
      · skip
        refine L_skip rfl rfl ?_
        refine L_skip rfl rfl ?_
        refine L_skip rfl rfl ?_
        refine L_skip rfl rfl ?_
        refine L_skip rfl rfl ?_
        refine L_skip rfl rfl ?_
        refine L_y rfl (y_pick_t rfl rfl) rfl ?_
        refine L_y rfl (y_assign rfl) rfl ?_
        refine L_nil ?_
        refine C_ret ?_
        refine B_ret (rv_tmp rfl rv_nil) (HSub.refl _) ?_
        first
        | rfl
        | exact ret_bool (by rw [unp_back hi]; simp)
      · have hi : isS ((k % 4096 : Nat) : Int) ts := by
          by_cases h : isS ((k % 4096 : Nat) : Int) ts
          · exact h
          · rw [decide_eq_false h] at hg13_3; exact absurd hg13_3 (by decide)
        refine L_y rfl (y_move rfl) rfl ?_
        refine L_y rfl (y_move rfl) rfl ?_
        refine L_case 90 rfl (fun hg13_5 => ?_) (fun hg13_5 => ?_)
        · skip
          refine L_y rfl (y_loadA rfl ag_26 sz_26 (sees 0 0 rfl) (by rw [bs_length, packR_len _ _ _]; decide) (bs_whole0 _ (packR_len _ _ _))) rfl ?_
          refine L_y rfl (y_loadA rfl ag_26 sz_26 (sees 2 0 rfl) (by rw [bs_length, hl]; decide) (bs_whole0 _ (hl))) rfl ?_
          refine L_y rfl (y_eqa rfl rfl Try.underlying26 Try.underlying5 sz_5 eg_26 (packR_len _ _ _) hl) rfl ?_
          refine L_y rfl (y_pick_t rfl rfl) rfl ?_
          refine L_y rfl (y_pick_f rfl rfl) rfl ?_
          refine L_y rfl (y_assign rfl) rfl ?_
          refine L_nil ?_
          refine C_ret ?_
          refine B_ret (rv_tmp rfl rv_nil) (HSub.refl _) ?_
          first
          | rfl
          | exact ret_bool (by rw [unp_back hi]; simp)
        · exact absurd hg13_5 (by rw [decide_eq_true (unp_ok hl hi)]; decide)
  · skip
    refine L_skip rfl rfl ?_
    refine L_skip rfl rfl ?_
    refine L_y rfl (y_pick_f rfl rfl) rfl ?_
    refine L_nil ?_
    refine C_cond_f rfl ?_
    refine C_skip ?_
    refine C_seq ?_
    refine C_region ?_
    refine L_y rfl (y_move rfl) rfl ?_
    refine L_y rfl (y_move rfl) rfl ?_
    refine L_y rfl (y_move rfl) rfl ?_
    refine L_op rfl (op_call rfl rfl (fun a w => Try.call12 a w) rfl ?_)
    refine FnS.mono (rpack_v (unpG ((k % 4096 : Nat) : Int) ts) (unpG_lt _ _) (unpB ((k % 4096 : Nat) : Int) ts) (slh_v 0 rfl hg1 rfl) ((k % 4096 : Nat) : Int)) ?_
    rintro _ _ ⟨rfl, e⟩
    obtain rfl := e.symm
    refine ⟨_, rfl, ?_⟩
    refine L_y rfl (y_move rfl) rfl ?_
    refine L_y rfl (y_extract rfl rfl) rfl ?_
    refine L_y rfl (y_extract rfl rfl) rfl ?_
    refine L_op rfl (op_alloc zl_26 rfl (fun B4 => ?_))
    refine L_op rfl (op_storeA 0 0 rfl rfl rfl sz_26 (by rw [bs_length, packR_len _ _ _]) rfl (bs_one _) (by simp) ?_)
    refine L_y rfl (y_assign rfl) rfl ?_
    refine L_nil ?_
    refine C_seq ?_
    refine C_region ?_
    refine L_y rfl (y_move rfl) rfl ?_
    refine L_y rfl (y_not rfl) rfl ?_
    refine L_y rfl (y_move rfl) rfl ?_
    refine L_case 88 rfl (fun hg13_3 => ?_) (fun hg13_3 => ?_)
    · skip
      refine L_skip rfl rfl ?_
      refine L_skip rfl rfl ?_
      refine L_skip rfl rfl ?_
      refine L_skip rfl rfl ?_
      refine L_skip rfl rfl ?_
      refine L_skip rfl rfl ?_
      refine L_y rfl (y_pick_t rfl rfl) rfl ?_
      refine L_y rfl (y_assign rfl) rfl ?_
      refine L_nil ?_
      refine C_ret ?_
      refine B_ret (rv_tmp rfl rv_nil) (HSub.refl _) ?_
      first
      | rfl
      | exact ret_bool (by rw [unp_back hi]; simp)
    · have hi : isS ((k % 4096 : Nat) : Int) ts := by
        by_cases h : isS ((k % 4096 : Nat) : Int) ts
        · exact h
        · rw [decide_eq_false h] at hg13_3; exact absurd hg13_3 (by decide)
      refine L_y rfl (y_move rfl) rfl ?_
      refine L_y rfl (y_move rfl) rfl ?_
      refine L_case 90 rfl (fun hg13_5 => ?_) (fun hg13_5 => ?_)
      · skip
        refine L_y rfl (y_loadA rfl ag_26 sz_26 (sees 0 0 rfl) (by rw [bs_length, packR_len _ _ _]; decide) (bs_whole0 _ (packR_len _ _ _))) rfl ?_
        refine L_y rfl (y_loadA rfl ag_26 sz_26 (sees 2 0 rfl) (by rw [bs_length, hl]; decide) (bs_whole0 _ (hl))) rfl ?_
        refine L_y rfl (y_eqa rfl rfl Try.underlying26 Try.underlying5 sz_5 eg_26 (packR_len _ _ _) hl) rfl ?_
        refine L_y rfl (y_pick_t rfl rfl) rfl ?_
        refine L_y rfl (y_pick_f rfl rfl) rfl ?_
        refine L_y rfl (y_assign rfl) rfl ?_
        refine L_nil ?_
        refine C_ret ?_
        refine B_ret (rv_tmp rfl rv_nil) (HSub.refl _) ?_
        first
        | rfl
        | exact ret_bool (by rw [unp_back hi]; simp)
      · exact absurd hg13_5 (by rw [decide_eq_true (unp_ok hl hi)]; decide)

theorem apart11_s {w0 : World} {H : Hp} {pa pb : Option Addr} {ca cb : Nat} (m0 m1 g0 g1 : Nat) (h0 : g0 < M64) (h1 : g1 < M64) (k0 : m0 < 65536) (k1 : m1 < 65536) (u v : List UInt8) (hU : Holds w0 H pa (bs u)) (hV : Holds w0 H pb (bs v)) : FnS Try.prog w0 7 #[.agg [.int .u16 (m0 : Int), .int .u16 (m1 : Int)].toArray, .agg [.int .u64 (g0 : Int), .int .u64 (g1 : Int)].toArray, .slice pa u.length ca, .slice pb v.length cb] H (fun e H' => e = .returned (.bool true)) := by
  refine FnS_intro (n := 78) (rs := [.tmp 8]) (vs := [.agg [.int .u16 (m0 : Int), .int .u16 (m1 : Int)].toArray, .agg [.int .u64 (g0 : Int), .int .u64 (g1 : Int)].toArray, .slice pa u.length ca, .slice pb v.length cb]) Try.func7 rfl Try.ntmps7 rfl rfl ?_
  refine C_seq ?_
  refine C_region ?_
  refine L_op rfl (op_box rfl rfl rfl (fun B1 => ?_))
  refine L_op rfl (op_box rfl rfl rfl (fun B2 => ?_))
  refine L_y rfl (y_assign rfl) rfl ?_
  refine L_nil ?_
  refine C_seq ?_
  refine C_seq ?_
  refine C_region ?_
  refine L_op rfl (op_call rfl rfl (fun a w => Try.call10 a w) rfl ?_)
  refine awake11_s.mono ?_
  rintro _ _ ⟨rfl, e⟩
  obtain rfl := e.symm
  refine ⟨_, rfl, ?_⟩
  refine L_y rfl (y_not rfl) rfl ?_
  refine L_nil ?_
  refine C_cond_f rfl ?_
  refine C_skip ?_
  refine C_seq ?_
  refine C_seq ?_
  refine C_region ?_
  refine L_y rfl (y_move rfl) rfl ?_
  refine L_y rfl (y_lenS rfl rfl Try.underlying23) rfl ?_
  refine L_y rfl (y_gtr rfl rfl) rfl ?_
  refine L_y rfl (y_move rfl) rfl ?_
  refine L_case 19 rfl (fun hg3_4 => ?_) (fun hg3_4 => ?_)
  · skip
    refine L_skip rfl rfl ?_
    refine L_skip rfl rfl ?_
    refine L_skip rfl rfl ?_
    refine L_y rfl (y_pick_t rfl rfl) rfl ?_
    refine L_nil ?_
    refine C_cond_t rfl ?_
    refine C_seq ?_
    refine C_region ?_
    refine L_y rfl (y_assign rfl) rfl ?_
    refine L_nil ?_
    refine C_ret ?_
    refine B_ret (rv_tmp rfl rv_nil) (HSub.refl _) ?_
    rfl
  · have q1 := of_decide_eq_false hg3_4
    refine L_y rfl (y_move rfl) rfl ?_
    refine L_y rfl (y_lenS rfl rfl Try.underlying23) rfl ?_
    refine L_y rfl (y_gtr rfl rfl) rfl ?_
    refine L_y rfl (y_pick_f rfl rfl) rfl ?_
    refine L_nil ?_
    refine C_cond rfl (fun hc1 => ?_) (fun hc1 => ?_)
    · replace hc1 := of_decide_eq_true hc1
      refine C_seq ?_
      refine C_region ?_
      refine L_y rfl (y_assign rfl) rfl ?_
      refine L_nil ?_
      refine C_ret ?_
      refine B_ret (rv_tmp rfl rv_nil) (HSub.refl _) ?_
      rfl
    · replace hc1 := of_decide_eq_false hc1
      refine C_skip ?_
      refine C_seq ?_
      have hp0 := packOk_mod m0 (body := u) (by omega)
      have hp1 := packOk_mod m1 (body := v) (by omega)
      have hu3 : u.length ≤ 103 := hp0.2.2
      have hv3 : v.length ≤ 103 := hp1.2.2
      refine C_region ?_
      refine L_y rfl (y_build0 pl_33 zl_33) rfl ?_
      refine L_y rfl (y_makeIface rfl Try.underlying33 rfl) rfl ?_
      refine L_y rfl (y_indexA rfl rfl Try.underlying44 sz_41 (by omega) (by omega) rfl) rfl ?_
      refine L_y rfl (y_load rfl ag_41 (sees 1 0 rfl) rfl) rfl ?_
      refine L_y rfl (y_conv rfl us_41 Try.underlying3 (wi64 (by omega) (by omega))) rfl ?_
      refine L_y rfl (y_rem rfl rfl (by decide) (show _ = ((m0 % 4096 : Nat) : Int) from rfl)) rfl ?_
      refine L_y rfl (y_indexA rfl rfl Try.underlying45 sz_22 (by omega) (by omega) rfl) rfl ?_
      refine L_y rfl (y_load rfl ag_22 (sees 0 0 rfl) rfl) rfl ?_
      refine L_y rfl (y_move rfl) rfl ?_
      refine L_op rfl (op_call rfl rfl (fun a w => Try.call11 a w) rfl ?_)
      refine FnS.mono (pack_v g0 h0 u (slh_raw (hU.up.up) rfl) ((m0 % 4096 : Nat) : Int)) ?_
      rintro _ _ ⟨rfl, e⟩
      obtain rfl := e.symm
      refine ⟨_, rfl, ?_⟩
      refine L_y rfl (y_move rfl) rfl ?_
      refine L_y rfl (y_extract rfl rfl) rfl ?_
      refine L_y rfl (y_extract rfl rfl) rfl ?_
      refine L_op rfl (op_alloc zl_26 rfl (fun B3 => ?_))
      refine L_op rfl (op_storeA 0 0 rfl rfl rfl sz_26 (by rw [bs_length, packR_len _ _ _]) rfl (bs_one _) (by simp) ?_)
      refine L_y rfl (y_assign rfl) rfl ?_
      refine L_nil ?_
      refine C_seq ?_
      refine C_region ?_
      refine L_y rfl (y_build0 pl_33 zl_33) rfl ?_
      refine L_y rfl (y_makeIface rfl Try.underlying33 rfl) rfl ?_
      refine L_y rfl (y_indexA rfl rfl Try.underlying44 sz_41 (by omega) (by omega) rfl) rfl ?_
      refine L_y rfl (y_load rfl ag_41 (sees 2 0 rfl) rfl) rfl ?_
      refine L_y rfl (y_conv rfl us_41 Try.underlying3 (wi64 (by omega) (by omega))) rfl ?_
      refine L_y rfl (y_rem rfl rfl (by decide) (show _ = ((m1 % 4096 : Nat) : Int) from rfl)) rfl ?_
      refine L_y rfl (y_indexA rfl rfl Try.underlying45 sz_22 (by omega) (by omega) rfl) rfl ?_
      refine L_y rfl (y_load rfl ag_22 (sees 1 0 rfl) rfl) rfl ?_
      refine L_y rfl (y_move rfl) rfl ?_
      refine L_op rfl (op_call rfl rfl (fun a w => Try.call11 a w) rfl ?_)
      refine FnS.mono (pack_v g1 h1 v (slh_raw (hV.up.up.up) rfl) ((m1 % 4096 : Nat) : Int)) ?_
      rintro _ _ ⟨rfl, e⟩
      obtain rfl := e.symm
      refine ⟨_, rfl, ?_⟩
      refine L_y rfl (y_move rfl) rfl ?_
      refine L_y rfl (y_extract rfl rfl) rfl ?_
      refine L_y rfl (y_extract rfl rfl) rfl ?_
      refine L_op rfl (op_alloc zl_26 rfl (fun B4 => ?_))
      refine L_op rfl (op_storeA 0 0 rfl rfl rfl sz_26 (by rw [bs_length, packR_len _ _ _]) rfl (bs_one _) (by simp) ?_)
      refine L_y rfl (y_assign rfl) rfl ?_
      refine L_nil ?_
      refine C_seq ?_
      refine C_region ?_
      refine L_y rfl (y_indexA rfl rfl Try.underlying45 sz_22 (by omega) (by omega) rfl) rfl ?_
      refine L_y rfl (y_load rfl ag_22 (sees 2 0 rfl) rfl) rfl ?_
      refine L_y rfl (y_indexA rfl rfl Try.underlying45 sz_22 (by omega) (by omega) rfl) rfl ?_
      refine L_y rfl (y_load rfl ag_22 (sees 2 0 rfl) rfl) rfl ?_
      refine L_y rfl (y_eqi rfl rfl) rfl ?_
      refine L_y rfl (y_move rfl) rfl ?_
      refine L_case 55 rfl (fun hg7_6 => ?_) (fun hg7_6 => ?_)
      · have hgg : g0 = g1 := by have := of_decide_eq_true hg7_6; omega
        refine L_y rfl (y_move rfl) rfl ?_
        refine L_y rfl (y_move rfl) rfl ?_
        refine L_op rfl (op_call rfl rfl (fun a w => Try.call13 a w) rfl ?_)
        refine FnS.mono (bsame_v u v (slh_raw (hU.up.up.up.up) rfl) (slh_raw (hV.up.up.up.up) rfl)) ?_
        rintro _ _ ⟨rfl, e⟩
        obtain rfl := e.symm
        refine ⟨_, rfl, ?_⟩
        refine L_y rfl (y_pick_t rfl rfl) rfl ?_
        refine L_y rfl (y_assign rfl) rfl ?_
        refine L_nil ?_
        refine C_seq ?_
        refine C_seq ?_
        refine C_region ?_
        refine L_y rfl (y_indexA rfl rfl Try.underlying44 sz_41 (by omega) (by omega) rfl) rfl ?_
        refine L_y rfl (y_load rfl ag_41 (sees 3 0 rfl) rfl) rfl ?_
        refine L_y rfl (y_rem rfl rfl (by decide) (show _ = ((m0 % 4096 : Nat) : Int) from rfl)) rfl ?_
        refine L_y rfl (y_indexA rfl rfl Try.underlying44 sz_41 (by omega) (by omega) rfl) rfl ?_
        refine L_y rfl (y_load rfl ag_41 (sees 3 0 rfl) rfl) rfl ?_
        refine L_y rfl (y_rem rfl rfl (by decide) (show _ = ((m1 % 4096 : Nat) : Int) from rfl)) rfl ?_
        refine L_y rfl (y_eqi rfl rfl) rfl ?_
        refine L_nil ?_
        refine C_cond rfl (fun hc2 => ?_) (fun hc2 => ?_)
        · replace hc2 := of_decide_eq_true hc2
          refine C_seq ?_
          refine C_region ?_
          refine L_y rfl (y_loadA rfl ag_26 sz_26 (sees 1 0 rfl) (by rw [bs_length, packR_len _ _ _]; decide) (bs_whole0 _ (packR_len _ _ _))) rfl ?_
          refine L_y rfl (y_loadA rfl ag_26 sz_26 (sees 0 0 rfl) (by rw [bs_length, packR_len _ _ _]; decide) (bs_whole0 _ (packR_len _ _ _))) rfl ?_
          refine L_y rfl (y_eqa rfl rfl Try.underlying26 Try.underlying5 sz_5 eg_26 (packR_len _ _ _) (packR_len _ _ _)) rfl ?_
          refine L_y rfl (y_move rfl) rfl ?_
          refine L_y rfl (y_eqb rfl rfl Try.underlying4) rfl ?_
          refine L_y rfl (y_assign rfl) rfl ?_
          refine L_nil ?_
          refine C_ret ?_
          refine B_ret (rv_tmp rfl rv_nil) (HSub.refl _) ?_
          exact ret_bool (ap_t hu3 hv3 h0 h1 hc2 hgg)
        · replace hc2 := of_decide_eq_false hc2
          refine C_skip ?_
          refine C_seq ?_
          refine C_region ?_
          refine L_y rfl (y_move rfl) rfl ?_
          refine L_y rfl (y_move rfl) rfl ?_
          refine L_case 73 rfl (fun hg10_2 => ?_) (fun hg10_2 => ?_)
          · skip
            refine L_skip rfl rfl ?_
            refine L_skip rfl rfl ?_
            refine L_skip rfl rfl ?_
            refine L_y rfl (y_pick_t rfl rfl) rfl ?_
            refine L_y rfl (y_assign rfl) rfl ?_
            refine L_nil ?_
            refine C_ret ?_
            refine B_ret (rv_tmp rfl rv_nil) (HSub.refl _) ?_
            rfl
          · have huv : ¬ u = v := of_decide_eq_false hg10_2
            refine L_y rfl (y_loadA rfl ag_26 sz_26 (sees 1 0 rfl) (by rw [bs_length, packR_len _ _ _]; decide) (bs_whole0 _ (packR_len _ _ _))) rfl ?_
            refine L_y rfl (y_loadA rfl ag_26 sz_26 (sees 0 0 rfl) (by rw [bs_length, packR_len _ _ _]; decide) (bs_whole0 _ (packR_len _ _ _))) rfl ?_
            refine L_y rfl (y_nea rfl rfl Try.underlying26 Try.underlying5 sz_5 eg_26 (packR_len _ _ _) (packR_len _ _ _)) rfl ?_
            refine L_y rfl (y_pick_f rfl rfl) rfl ?_
            refine L_y rfl (y_assign rfl) rfl ?_
            refine L_nil ?_
            refine C_ret ?_
            refine B_ret (rv_tmp rfl rv_nil) (HSub.refl _) ?_
            exact ret_bool (ap_n hu3 hv3 h0 h1 (fun h => huv h.2))
      · have hgg : ¬ g0 = g1 := by have := of_decide_eq_false hg7_6; omega
        refine L_skip rfl rfl ?_
        refine L_skip rfl rfl ?_
        refine L_skip rfl rfl ?_
        refine L_y rfl (y_pick_f rfl rfl) rfl ?_
        refine L_y rfl (y_assign rfl) rfl ?_
        refine L_nil ?_
        refine C_seq ?_
        refine C_seq ?_
        refine C_region ?_
        refine L_y rfl (y_indexA rfl rfl Try.underlying44 sz_41 (by omega) (by omega) rfl) rfl ?_
        refine L_y rfl (y_load rfl ag_41 (sees 3 0 rfl) rfl) rfl ?_
        refine L_y rfl (y_rem rfl rfl (by decide) (show _ = ((m0 % 4096 : Nat) : Int) from rfl)) rfl ?_
        refine L_y rfl (y_indexA rfl rfl Try.underlying44 sz_41 (by omega) (by omega) rfl) rfl ?_
        refine L_y rfl (y_load rfl ag_41 (sees 3 0 rfl) rfl) rfl ?_
        refine L_y rfl (y_rem rfl rfl (by decide) (show _ = ((m1 % 4096 : Nat) : Int) from rfl)) rfl ?_
        refine L_y rfl (y_eqi rfl rfl) rfl ?_
        refine L_nil ?_
        refine C_cond rfl (fun hc2 => ?_) (fun hc2 => ?_)
        · replace hc2 := of_decide_eq_true hc2
          refine C_seq ?_
          refine C_region ?_
          refine L_y rfl (y_loadA rfl ag_26 sz_26 (sees 1 0 rfl) (by rw [bs_length, packR_len _ _ _]; decide) (bs_whole0 _ (packR_len _ _ _))) rfl ?_
          refine L_y rfl (y_loadA rfl ag_26 sz_26 (sees 0 0 rfl) (by rw [bs_length, packR_len _ _ _]; decide) (bs_whole0 _ (packR_len _ _ _))) rfl ?_
          refine L_y rfl (y_eqa rfl rfl Try.underlying26 Try.underlying5 sz_5 eg_26 (packR_len _ _ _) (packR_len _ _ _)) rfl ?_
          refine L_y rfl (y_move rfl) rfl ?_
          refine L_y rfl (y_eqb rfl rfl Try.underlying4) rfl ?_
          refine L_y rfl (y_assign rfl) rfl ?_
          refine L_nil ?_
          refine C_ret ?_
          refine B_ret (rv_tmp rfl rv_nil) (HSub.refl _) ?_
          exact ret_bool (ap_f hu3 hv3 h0 h1 hgg)
        · replace hc2 := of_decide_eq_false hc2
          refine C_skip ?_
          refine C_seq ?_
          refine C_region ?_
          refine L_y rfl (y_move rfl) rfl ?_
          refine L_y rfl (y_move rfl) rfl ?_
          refine L_y rfl (y_loadA rfl ag_26 sz_26 (sees 1 0 rfl) (by rw [bs_length, packR_len _ _ _]; decide) (bs_whole0 _ (packR_len _ _ _))) rfl ?_
          refine L_y rfl (y_loadA rfl ag_26 sz_26 (sees 0 0 rfl) (by rw [bs_length, packR_len _ _ _]; decide) (bs_whole0 _ (packR_len _ _ _))) rfl ?_
          refine L_y rfl (y_nea rfl rfl Try.underlying26 Try.underlying5 sz_5 eg_26 (packR_len _ _ _) (packR_len _ _ _)) rfl ?_
          refine L_y rfl (y_pick_f rfl rfl) rfl ?_
          refine L_y rfl (y_assign rfl) rfl ?_
          refine L_nil ?_
          refine C_ret ?_
          refine B_ret (rv_tmp rfl rv_nil) (HSub.refl _) ?_
          exact ret_bool (ap_n hu3 hv3 h0 h1 (fun h => hgg h.1))

theorem good_s {w0 : World} {H : Hp} (c : Value) (hc : c.cells = #[c]) : FnS Try.prog w0 16 #[c] H (fun e H' => ∃ b, e = .returned (.func (.func 31) #[] #[ptr b]) ∧ H' = [(b, .cells [c].toArray 66)] :: H) := by
  refine FnS_intro (n := 4) (rs := [.tmp 2]) (vs := [c]) Try.func16 rfl Try.ntmps16 rfl rfl ?_
  refine C_seq ?_
  refine C_region ?_
  refine L_op rfl (op_box rfl hc rfl (fun B1 => ?_))
  refine L_y rfl (y_assign rfl) rfl ?_
  refine L_nil ?_
  refine C_seq ?_
  refine C_region ?_
  refine L_y rfl (y_makeFunc rfl rfl) rfl ?_
  refine L_y rfl (y_assign rfl) rfl ?_
  refine L_nil ?_
  refine C_ret ?_
  refine B_ret (rv_tmp rfl rv_nil) (HSub.refl _) ?_
  exact ⟨B1, rfl, rfl⟩

theorem good1_s {w0 : World} {H : Hp} {zc : List Value} {b : Nat} (hC : Sees (fun w => St w0 w H) b (.cells [.iface 33 (.agg zc.toArray)].toArray 66)) (a : Int) (s : List UInt8) (hs : s.length = 128) : FnS Try.prog w0 31 #[.int .i64 a, .agg (bs s).toArray, ptr b] H (fun e H' => e = .returned (.bool (decide (isS a s))) ∧ H' = H) := by
  refine FnS_intro (n := 18) (rs := [.tmp 5]) (vs := [.int .i64 a, .agg (bs s).toArray, ptr b]) Try.func31 rfl Try.ntmps31 rfl rfl ?_
  refine C_seq ?_
  refine C_region ?_
  refine L_op rfl (op_box rfl rfl rfl (fun B1 => ?_))
  refine L_y rfl (y_assign rfl) rfl ?_
  refine L_nil ?_
  refine C_seq ?_
  refine C_region ?_
  refine L_y rfl (y_load rfl ag_66 (hC.up) rfl) rfl ?_
  refine L_y rfl (y_move rfl) rfl ?_
  refine L_y rfl (y_loadA rfl ag_26 sz_26 (sees 0 0 rfl) (by rw [bs_length, hs]; decide) (bs_whole0 _ (hs))) rfl ?_
  refine L_op rfl (op_call rfl rfl (fun a w => Try.call14 a w) rfl ?_)
  refine FnS.mono (unpack_u a s hs) ?_
  rintro _ _ ⟨g1, hg1, rfl, rfl⟩
  refine ⟨_, rfl, ?_⟩
  refine L_y rfl (y_move rfl) rfl ?_
  refine L_y rfl (y_extract rfl rfl) rfl ?_
  refine L_y rfl (y_extract rfl rfl) rfl ?_
  refine L_y rfl (y_extract rfl rfl) rfl ?_
  refine L_y rfl (y_assign rfl) rfl ?_
  refine L_y rfl (y_assign rfl) rfl ?_
  refine L_y rfl (y_assign rfl) rfl ?_
  refine L_nil ?_
  refine C_seq ?_
  refine C_region ?_
  refine L_y rfl (y_move rfl) rfl ?_
  refine L_y rfl (y_assign rfl) rfl ?_
  refine L_nil ?_
  refine C_ret ?_
  refine B_ret (rv_tmp rfl rv_nil) (hsub (.cons _ (.cons _ (.refl _)))) ?_
  exact ⟨rfl, rfl⟩

theorem good1_nil {w0 : World} {H : Hp} {b : Nat} (hC : Sees (fun w => St w0 w H) b (.cells [.nilIface].toArray 66)) (a : Int) (s : List UInt8) (hs : s.length = 128) : FnS Try.prog w0 31 #[.int .i64 a, .agg (bs s).toArray, ptr b] H (fun e H' => e = .returned (.bool (false)) ∧ H' = H) := by
  refine FnS_intro (n := 18) (rs := [.tmp 5]) (vs := [.int .i64 a, .agg (bs s).toArray, ptr b]) Try.func31 rfl Try.ntmps31 rfl rfl ?_
  refine C_seq ?_
  refine C_region ?_
  refine L_op rfl (op_box rfl rfl rfl (fun B1 => ?_))
  refine L_y rfl (y_assign rfl) rfl ?_
  refine L_nil ?_
  refine C_seq ?_
  refine C_region ?_
  refine L_y rfl (y_load rfl ag_66 (hC.up) rfl) rfl ?_
  refine L_y rfl (y_move rfl) rfl ?_
  refine L_y rfl (y_loadA rfl ag_26 sz_26 (sees 0 0 rfl) (by rw [bs_length, hs]; decide) (bs_whole0 _ (hs))) rfl ?_
  refine L_op rfl (op_call rfl rfl (fun a w => Try.call14 a w) rfl ?_)
  refine FnS.mono (unp_nil a s hs) ?_
  rintro _ _ ⟨rfl, rfl⟩
  refine ⟨_, rfl, ?_⟩
  refine L_y rfl (y_move rfl) rfl ?_
  refine L_y rfl (y_extract rfl rfl) rfl ?_
  refine L_y rfl (y_extract rfl rfl) rfl ?_
  refine L_y rfl (y_extract rfl rfl) rfl ?_
  refine L_y rfl (y_assign rfl) rfl ?_
  refine L_y rfl (y_assign rfl) rfl ?_
  refine L_y rfl (y_assign rfl) rfl ?_
  refine L_nil ?_
  refine C_seq ?_
  refine C_region ?_
  refine L_y rfl (y_move rfl) rfl ?_
  refine L_y rfl (y_assign rfl) rfl ?_
  refine L_nil ?_
  refine C_ret ?_
  refine B_ret (rv_tmp rfl rv_nil) (hsub (.cons _ (.refl _))) ?_
  exact ⟨rfl, rfl⟩

theorem good_law {w0 : World} {H : Hp} (a : Int) (s : List UInt8) (hs : s.length = 128) (gen : Nat) (hg : gen < M64) : FnS Try.prog w0 8 #[.int .i64 a, .agg (bs s).toArray, .int .u64 (gen : Int)] H (fun e H' => e = .returned (.bool true)) := by
  refine FnS_intro (n := 69) (rs := [.tmp 6]) (vs := [.int .i64 a, .agg (bs s).toArray, .int .u64 (gen : Int)]) Try.func8 rfl Try.ntmps8 rfl rfl ?_
  refine C_seq ?_
  refine C_region ?_
  refine L_op rfl (op_box rfl rfl rfl (fun B1 => ?_))
  refine L_y rfl (y_assign rfl) rfl ?_
  refine L_nil ?_
  refine C_seq ?_
  refine C_seq ?_
  refine C_region ?_
  refine L_op rfl (op_call rfl rfl (fun a w => Try.call10 a w) rfl ?_)
  refine awake11_s.mono ?_
  rintro _ _ ⟨rfl, e⟩
  obtain rfl := e.symm
  refine ⟨_, rfl, ?_⟩
  refine L_y rfl (y_not rfl) rfl ?_
  refine L_nil ?_
  refine C_cond_f rfl ?_
  refine C_skip ?_
  refine C_seq ?_
  refine C_region ?_
  refine L_y rfl (y_build0 pl_33 zl_33) rfl ?_
  refine L_y rfl (y_makeIface rfl Try.underlying33 rfl) rfl ?_
  refine L_op rfl (op_call rfl rfl (fun a w => Try.call16 a w) rfl ?_)
  refine FnS.mono (good_s (_) rfl) ?_
  rintro _ _ ⟨C1, rfl, rfl⟩
  refine ⟨_, rfl, ?_⟩
  refine L_op rfl (op_call rfl rfl (fun a w => Try.call16 a w) rfl ?_)
  refine FnS.mono (good_s (_) rfl) ?_
  rintro _ _ ⟨C2, rfl, rfl⟩
  refine ⟨_, rfl, ?_⟩
  refine L_y rfl (y_assign rfl) rfl ?_
  refine L_y rfl (y_assign rfl) rfl ?_
  refine L_nil ?_
  refine C_seq ?_
  refine C_seq ?_
  refine C_region ?_
  refine L_y rfl (y_move rfl) rfl ?_
  refine L_y rfl (y_eqfn rfl rfl Try.underlying40) rfl ?_
  refine L_y rfl (y_move rfl) rfl ?_
  refine L_y rfl (y_move rfl) rfl ?_
  refine L_y rfl (y_eqfn rfl rfl Try.underlying40) rfl ?_
  refine L_y rfl (y_pick_f rfl rfl) rfl ?_
  refine L_nil ?_
  refine C_cond_f rfl ?_
  refine C_skip ?_
  refine C_seq ?_
  refine C_region ?_
  refine L_y rfl (y_move rfl) rfl ?_
  refine L_y rfl (y_loadA rfl ag_26 sz_26 (sees 2 0 rfl) (by rw [bs_length, hs]; decide) (bs_whole0 _ (hs))) rfl ?_
  refine L_op rfl (op_call rfl rfl (fun a w => Try.call15 a w) rfl ?_)
  refine FnS.mono (runpack_u a s hs) ?_
  rintro _ _ ⟨g1, hg1, rfl, rfl⟩
  refine ⟨_, rfl, ?_⟩
  refine L_y rfl (y_move rfl) rfl ?_
  refine L_y rfl (y_extract rfl rfl) rfl ?_
  refine L_y rfl (y_extract rfl rfl) rfl ?_
  refine L_y rfl (y_extract rfl rfl) rfl ?_
  refine L_y rfl (y_assign rfl) rfl ?_
  refine L_y rfl (y_assign rfl) rfl ?_
  refine L_y rfl (y_assign rfl) rfl ?_
  refine L_nil ?_
  refine C_seq ?_
  refine C_region ?_
  refine L_y rfl (y_move rfl) rfl ?_
  refine L_y rfl (y_move rfl) rfl ?_
  refine L_y rfl (y_sliceA_hi rfl rfl Try.underlying26 sz_5 (by omega) (by omega)) rfl ?_
  refine L_op rfl (op_call rfl rfl (fun a w => Try.call12 a w) rfl ?_)
  refine FnS.mono (rpack_v gen hg (s.take 9) (slh_raw (holds_bytes (sees 3 0 rfl) (by rw [List.drop_zero, bs_take]; congr 1; simp [hs])) (by simp [hs])) a) ?_
  rintro _ _ ⟨rfl, e⟩
  obtain rfl := e.symm
  refine ⟨_, rfl, ?_⟩
  refine L_y rfl (y_move rfl) rfl ?_
  refine L_y rfl (y_extract rfl rfl) rfl ?_
  refine L_y rfl (y_extract rfl rfl) rfl ?_
  refine L_op rfl (op_alloc zl_26 rfl (fun B2 => ?_))
  refine L_op rfl (op_storeA 0 0 rfl rfl rfl sz_26 (by rw [bs_length, packR_len _ _ _]) rfl (bs_one _) (by simp) ?_)
  refine L_y rfl (y_assign rfl) rfl ?_
  refine L_nil ?_
  refine C_seq ?_
  refine C_region ?_
  refine L_y rfl (y_move rfl) rfl ?_
  refine L_y rfl (y_move rfl) rfl ?_
  refine L_y rfl (y_loadA rfl ag_26 sz_26 (sees 4 0 rfl) (by rw [bs_length, hs]; decide) (bs_whole0 _ (hs))) rfl ?_
  refine L_op rfl (op_call rfl rfl (fun a w => Try.call31 a w) rfl ?_)
  refine FnS.mono (good1_s (sees 3 0 rfl) a s hs) ?_
  rintro _ _ ⟨rfl, e⟩
  obtain rfl := e.symm
  refine ⟨_, rfl, ?_⟩
  refine L_y rfl (y_move rfl) rfl ?_
  refine L_y rfl (y_eqb rfl rfl Try.underlying4) rfl ?_
  refine L_y rfl (y_move rfl) rfl ?_
  refine L_case 46 rfl (fun hg8_7 => ?_) (fun hg8_7 => ?_)
  · skip
    refine L_y rfl (y_move rfl) rfl ?_
    refine L_y rfl (y_move rfl) rfl ?_
    refine L_y rfl (y_loadA rfl ag_26 sz_26 (sees 4 0 rfl) (by rw [bs_length, hs]; decide) (bs_whole0 _ (hs))) rfl ?_
    refine L_op rfl (op_call rfl rfl (fun a w => Try.call31 a w) rfl ?_)
    refine FnS.mono (good1_nil (sees 2 0 rfl) a s hs) ?_
    rintro _ _ ⟨rfl, e⟩
    obtain rfl := e.symm
    refine ⟨_, rfl, ?_⟩
    refine L_y rfl (y_not rfl) rfl ?_
    refine L_y rfl (y_pick_t rfl rfl) rfl ?_
    refine L_y rfl (y_move rfl) rfl ?_
    refine L_y rfl (y_move rfl) rfl ?_
    refine L_y rfl (y_move rfl) rfl ?_
    refine L_y rfl (y_loadA rfl ag_26 sz_26 (sees 0 0 rfl) (by rw [bs_length, packR_len _ _ _]; decide) (bs_whole0 _ (packR_len _ _ _))) rfl ?_
    refine L_op rfl (op_call rfl rfl (fun a w => Try.call31 a w) rfl ?_)
    refine FnS.mono (good1_s (sees 3 0 rfl) a (packR a gen (s.take 9)) (packR_len _ _ _)) ?_
    rintro _ _ ⟨rfl, e⟩
    obtain rfl := e.symm
    refine ⟨_, rfl, ?_⟩
    refine L_y rfl (y_move rfl) rfl ?_
    refine L_y rfl (y_eqb rfl rfl Try.underlying4) rfl ?_
    refine L_y rfl (y_pick_t rfl rfl) rfl ?_
    refine L_y rfl (y_move rfl) rfl ?_
    refine L_case 61 rfl (fun hg8_22 => ?_) (fun hg8_22 => ?_)
    · skip
      refine L_y rfl (y_move rfl) rfl ?_
      refine L_y rfl (y_move rfl) rfl ?_
      refine L_y rfl (y_loadA rfl ag_26 sz_26 (sees 4 0 rfl) (by rw [bs_length, hs]; decide) (bs_whole0 _ (hs))) rfl ?_
      refine L_op rfl (op_call rfl rfl (fun a w => Try.call31 a w) rfl ?_)
      refine FnS.mono (good1_s (sees 3 0 rfl) a s hs) ?_
      rintro _ _ ⟨rfl, e⟩
      obtain rfl := e.symm
      refine ⟨_, rfl, ?_⟩
      refine L_y rfl (y_move rfl) rfl ?_
      refine L_y rfl (y_eqb rfl rfl Try.underlying4) rfl ?_
      refine L_y rfl (y_pick_t rfl rfl) rfl ?_
      refine L_y rfl (y_assign rfl) rfl ?_
      refine L_nil ?_
      refine C_ret ?_
      refine B_ret (rv_tmp rfl rv_nil) (HSub.refl _) ?_
      exact ret_bool (by simp)
    · exact absurd hg8_22 (by rw [good_ok hg (by simp; omega)]; simp)
  · exact absurd hg8_7 (by simp)

end Go.Proofs.Ythlkpbdnfdagfaa
