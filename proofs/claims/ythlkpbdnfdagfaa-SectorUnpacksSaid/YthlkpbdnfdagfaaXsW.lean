/- walks (own work; the walks' lines by a program of this repo). -/
import Derived.Test.YthlkpbdnfdagfaaXaW
set_option linter.unusedVariables false
set_option linter.unusedSimpArgs false
set_option maxRecDepth 20000
namespace Go.Proofs.Ythlkpbdnfdagfaa
open Go.Sl
attribute [local irreducible] BodyQ WpC WpL WpS WpH OpW FnS


theorem packs_over {w0 : World} {H : Hp} {pa : Option Addr} {cap : Nat} (gen : Nat) (hg : gen < M64) (body : List UInt8) (hB : Holds w0 H pa (bs body)) (a : Int) (hl : 200 < body.length) : FnS Try.prog w0 3 #[.int .i64 a, .int .u64 (gen : Int), .slice pa body.length cap] H (fun e H' => e = .returned (.bool true)) := by
  refine FnS_intro (n := 67) (rs := [.tmp 6]) (vs := [.int .i64 a, .int .u64 (gen : Int), .slice pa body.length cap]) Try.func3 rfl Try.ntmps3 rfl rfl ?_
  refine C_seq ?_
  refine C_region ?_
  refine L_y rfl (y_assign rfl) rfl ?_
  refine L_nil ?_
  refine C_seq ?_
  refine C_seq ?_
  refine C_region ?_
  refine L_op rfl (op_call rfl rfl (fun a w => Try.call10 a w) rfl ?_)
  refine awake11_s.mono ?_
  rintro _ _ ⟨rfl, e⟩
  obtain rfl := e.symm
  refine ⟨_, rfl, ?_⟩
  refine L_y rfl (y_not rfl) rfl ?_
  refine L_nil ?_
  refine C_cond_f rfl ?_
  refine C_skip ?_
  refine C_seq ?_
  refine C_seq ?_
  refine C_region ?_
  refine L_y rfl (y_move rfl) rfl ?_
  refine L_y rfl (y_lenS rfl rfl Try.underlying23) rfl ?_
  refine L_y rfl (y_gtr rfl rfl) rfl ?_
  refine L_nil ?_
  refine C_cond rfl (fun hc1 => ?_) (fun hc1 => absurd hc1 (by simp <;> omega))
  refine C_seq ?_
  refine C_region ?_
  refine L_y rfl (y_assign rfl) rfl ?_
  refine L_nil ?_
  refine C_ret ?_
  refine B_ret (rv_tmp rfl rv_nil) (HSub.refl _) ?_
  rfl

theorem packs_s {w0 : World} {H : Hp} {pa : Option Addr} {cap : Nat} (gen : Nat) (hg : gen < M64) (body : List UInt8) (hB : Holds w0 H pa (bs body)) (a : Int) (hl : ¬ 200 < body.length) : FnS Try.prog w0 3 #[.int .i64 a, .int .u64 (gen : Int), .slice pa body.length cap] H (fun e H' => e = .returned (.bool true)) := by
  refine FnS_intro (n := 67) (rs := [.tmp 6]) (vs := [.int .i64 a, .int .u64 (gen : Int), .slice pa body.length cap]) Try.func3 rfl Try.ntmps3 rfl rfl ?_
  refine C_seq ?_
  refine C_region ?_
  refine L_y rfl (y_assign rfl) rfl ?_
  refine L_nil ?_
  refine C_seq ?_
  refine C_seq ?_
  refine C_region ?_
  refine L_op rfl (op_call rfl rfl (fun a w => Try.call10 a w) rfl ?_)
  refine awake11_s.mono ?_
  rintro _ _ ⟨rfl, e⟩
  obtain rfl := e.symm
  refine ⟨_, rfl, ?_⟩
  refine L_y rfl (y_not rfl) rfl ?_
  refine L_nil ?_
  refine C_cond_f rfl ?_
  refine C_skip ?_
  refine C_seq ?_
  refine C_seq ?_
  refine C_region ?_
  refine L_y rfl (y_move rfl) rfl ?_
  refine L_y rfl (y_lenS rfl rfl Try.underlying23) rfl ?_
  refine L_y rfl (y_gtr rfl rfl) rfl ?_
  refine L_nil ?_
  refine C_cond rfl (fun hc1 => absurd hc1 (by simp <;> omega)) (fun hc1 => ?_)
  refine C_skip ?_
  refine C_seq ?_
  refine C_region ?_
  refine L_op rfl (op_buildSlice (vs := []) rfl Try.underlying23 sz_5 zl_5 rfl (by decide) rfl rfl (fun B1 => ?_))
  refine L_y rfl (y_move rfl) rfl ?_
  refine L_op rfl (op_append (gs := some ⟨B1, 0, []⟩) (len := 0) (m := body.length) (xs := []) (vs := bs body) 0 rfl rfl rfl ⟨rfl, rfl, Nat.le_refl _⟩ (src_bytes hB.up rfl) (by rw [bs_length, Nat.mul_one]) (bs_one _) Try.underlying23 ni_23 sz_5 by_5 (by decide) zl_5 rfl (by omega) rfl (fun g0 hg0 => ?_))
  rw [Nat.zero_add, List.nil_append] at hg0 ⊢
  refine L_y rfl (y_assign rfl) rfl ?_
  refine L_nil ?_
  refine C_seq ?_
  refine C_region ?_
  refine L_y rfl (y_build0 pl_33 zl_33) rfl ?_
  refine L_y rfl (y_makeIface rfl Try.underlying33 rfl) rfl ?_
  refine L_y rfl (y_move rfl) rfl ?_
  refine L_y rfl (y_move rfl) rfl ?_
  refine L_y rfl (y_move rfl) rfl ?_
  refine L_op rfl (op_call rfl rfl (fun a w => Try.call11 a w) rfl ?_)
  refine FnS.mono (pack_v gen hg body (slh_raw (hB.up) rfl) a) ?_
  rintro _ _ ⟨rfl, e⟩
  obtain rfl := e.symm
  refine ⟨_, rfl, ?_⟩
  refine L_y rfl (y_move rfl) rfl ?_
  refine L_y rfl (y_extract rfl rfl) rfl ?_
  refine L_y rfl (y_extract rfl rfl) rfl ?_
  refine L_op rfl (op_alloc zl_26 rfl (fun B2 => ?_))
  refine L_op rfl (op_storeA 0 0 rfl rfl rfl sz_26 (by rw [bs_length, packR_len _ _ _]) rfl (bs_one _) (by simp) ?_)
  refine L_y rfl (y_assign rfl) rfl ?_
  refine L_nil ?_
  refine C_seq ?_
  refine C_region ?_
  refine L_y rfl (y_move rfl) rfl ?_
  refine L_y rfl (y_move rfl) rfl ?_
  refine L_y rfl (y_move rfl) rfl ?_
  refine L_op rfl (op_call rfl rfl (fun a w => Try.call12 a w) rfl ?_)
  refine FnS.mono (rpack_v gen hg body (slh_v 1 rfl hg0 rfl) a) ?_
  rintro _ _ ⟨rfl, e⟩
  obtain rfl := e.symm
  refine ⟨_, rfl, ?_⟩
  refine L_y rfl (y_move rfl) rfl ?_
  refine L_y rfl (y_extract rfl rfl) rfl ?_
  refine L_y rfl (y_extract rfl rfl) rfl ?_
  refine L_op rfl (op_alloc zl_26 rfl (fun B3 => ?_))
  refine L_op rfl (op_storeA 0 0 rfl rfl rfl sz_26 (by rw [bs_length, packR_len _ _ _]) rfl (bs_one _) (by simp) ?_)
  refine L_y rfl (y_assign rfl) rfl ?_
  refine L_nil ?_
  refine C_seq ?_
  refine C_region ?_
  refine L_y rfl (y_move rfl) rfl ?_
  refine L_y rfl (y_move rfl) rfl ?_
  refine L_y rfl (y_move rfl) rfl ?_
  refine L_op rfl (op_call rfl rfl (fun a w => Try.call11 a w) rfl ?_)
  refine FnS.mono (packn_v gen hg body (slh_raw (hB.up.up.up) rfl) a) ?_
  rintro _ _ ⟨rfl, e⟩
  obtain rfl := e.symm
  refine ⟨_, rfl, ?_⟩
  refine L_y rfl (y_move rfl) rfl ?_
  refine L_y rfl (y_extract rfl rfl) rfl ?_
  refine L_y rfl (y_extract rfl rfl) rfl ?_
  refine L_op rfl (op_alloc zl_26 rfl (fun B4 => ?_))
  refine L_op rfl (op_storeA 0 0 rfl rfl rfl sz_26 (by rw [bs_length, secOf_len]) rfl (bs_one _) (by simp) ?_)
  refine L_y rfl (y_assign rfl) rfl ?_
  refine L_nil ?_
  refine C_seq ?_
  refine C_region ?_
  refine L_y rfl (y_loadA rfl ag_26 sz_26 (sees 2 0 rfl) (by rw [bs_length, packR_len _ _ _]; decide) (bs_whole0 _ (packR_len _ _ _))) rfl ?_
  refine L_y rfl (y_loadA rfl ag_26 sz_26 (sees 1 0 rfl) (by rw [bs_length, packR_len _ _ _]; decide) (bs_whole0 _ (packR_len _ _ _))) rfl ?_
  refine L_y rfl (y_eqa rfl rfl Try.underlying26 Try.underlying5 sz_5 eg_26 (packR_len _ _ _) (packR_len _ _ _)) rfl ?_
  refine L_y rfl (y_move rfl) rfl ?_
  refine L_case 48 rfl (fun hg9_4 => ?_) (fun hg9_4 => ?_)
  · skip
    refine L_y rfl (y_move rfl) rfl ?_
    refine L_y rfl (y_move rfl) rfl ?_
    refine L_y rfl (y_eqb rfl rfl Try.underlying4) rfl ?_
    refine L_y rfl (y_pick_t rfl rfl) rfl ?_
    refine L_y rfl (y_move rfl) rfl ?_
    refine L_case 53 rfl (fun hg9_9 => ?_) (fun hg9_9 => ?_)
    · skip
      refine L_y rfl (y_move rfl) rfl ?_
      refine L_y rfl (y_move rfl) rfl ?_
      refine L_op rfl (op_call rfl rfl (fun a w => Try.call13 a w) rfl ?_)
      refine FnS.mono (bsame_v body body (slh_raw (hB.up.up.up.up) rfl) (slh_v 3 rfl hg0 rfl)) ?_
      rintro _ _ ⟨rfl, e⟩
      obtain rfl := e.symm
      rw [show decide (body = body) = true from by simp]
      refine ⟨_, rfl, ?_⟩
      refine L_y rfl (y_pick_t rfl rfl) rfl ?_
      refine L_y rfl (y_move rfl) rfl ?_
      refine L_y rfl (y_loadA rfl ag_26 sz_26 (sees 0 0 rfl) (by rw [bs_length, secOf_len 0]; decide) (bs_whole0 _ (secOf_len 0))) rfl ?_
      refine L_y rfl (y_buildA0 Try.underlying26 sz_5 zl_26) rfl ?_
      refine L_y rfl (y_eqa rfl rfl Try.underlying26 Try.underlying5 sz_5 eg_26 (secOf_len 0) (secOf_len 0)) rfl ?_
      refine L_y rfl (y_pick_t rfl rfl) rfl ?_
      refine L_y rfl (y_move rfl) rfl ?_
      refine L_case 63 rfl (fun hg9_19 => ?_) (fun hg9_19 => ?_)
      · skip
        refine L_y rfl (y_move rfl) rfl ?_
        refine L_y rfl (y_not rfl) rfl ?_
        refine L_y rfl (y_pick_t rfl rfl) rfl ?_
        refine L_y rfl (y_assign rfl) rfl ?_
        refine L_nil ?_
        refine C_ret ?_
        refine B_ret (rv_tmp rfl rv_nil) (HSub.refl _) ?_
        exact ret_bool (by simp)
      · exact absurd hg9_19 (by simp)
    · exact absurd hg9_9 (by simp)
  · exact absurd hg9_4 (by simp)

theorem unpacks_s {w0 : World} {H : Hp} (a : Int) (s : List UInt8) (hs : s.length = 128) : FnS Try.prog w0 4 #[.int .i64 a, .agg (bs s).toArray] H (fun e H' => e = .returned (.bool true)) := by
  refine FnS_intro (n := 78) (rs := [.tmp 4]) (vs := [.int .i64 a, .agg (bs s).toArray]) Try.func4 rfl Try.ntmps4 rfl rfl ?_
  refine C_seq ?_
  refine C_region ?_
  refine L_op rfl (op_box rfl rfl rfl (fun B1 => ?_))
  refine L_y rfl (y_assign rfl) rfl ?_
  refine L_nil ?_
  refine C_seq ?_
  refine C_seq ?_
  refine C_region ?_
  refine L_op rfl (op_call rfl rfl (fun a w => Try.call10 a w) rfl ?_)
  refine awake11_s.mono ?_
  rintro _ _ ⟨rfl, e⟩
  obtain rfl := e.symm
  refine ⟨_, rfl, ?_⟩
  refine L_y rfl (y_not rfl) rfl ?_
  refine L_nil ?_
  refine C_cond_f rfl ?_
  refine C_skip ?_
  refine C_seq ?_
  refine C_region ?_
  refine L_y rfl (y_build0 pl_33 zl_33) rfl ?_
  refine L_y rfl (y_makeIface rfl Try.underlying33 rfl) rfl ?_
  refine L_y rfl (y_move rfl) rfl ?_
  refine L_y rfl (y_loadA rfl ag_26 sz_26 (sees 0 0 rfl) (by rw [bs_length, hs]; decide) (bs_whole0 _ (hs))) rfl ?_
  refine L_op rfl (op_call rfl rfl (fun a w => Try.call14 a w) rfl ?_)
  refine FnS.mono (unpack_u a s hs) ?_
  rintro _ _ ⟨g1, hg1, rfl, rfl⟩
  refine ⟨_, rfl, ?_⟩
  refine L_y rfl (y_move rfl) rfl ?_
  refine L_y rfl (y_extract rfl rfl) rfl ?_
  refine L_y rfl (y_extract rfl rfl) rfl ?_
  refine L_y rfl (y_extract rfl rfl) rfl ?_
  refine L_y rfl (y_assign rfl) rfl ?_
  refine L_y rfl (y_assign rfl) rfl ?_
  refine L_y rfl (y_assign rfl) rfl ?_
  refine L_nil ?_
  refine C_seq ?_
  refine C_region ?_
  refine L_y rfl (y_move rfl) rfl ?_
  refine L_y rfl (y_loadA rfl ag_26 sz_26 (sees 1 0 rfl) (by rw [bs_length, hs]; decide) (bs_whole0 _ (hs))) rfl ?_
  refine L_op rfl (op_call rfl rfl (fun a w => Try.call15 a w) rfl ?_)
  refine FnS.mono (runpack_u a s hs) ?_
  rintro _ _ ⟨g2, hg2, rfl, rfl⟩
  refine ⟨_, rfl, ?_⟩
  refine L_y rfl (y_move rfl) rfl ?_
  refine L_y rfl (y_extract rfl rfl) rfl ?_
  refine L_y rfl (y_extract rfl rfl) rfl ?_
  refine L_y rfl (y_extract rfl rfl) rfl ?_
  refine L_y rfl (y_assign rfl) rfl ?_
  refine L_y rfl (y_assign rfl) rfl ?_
  refine L_y rfl (y_assign rfl) rfl ?_
  refine L_nil ?_
  refine C_seq ?_
  refine C_region ?_
  refine L_y rfl (y_move rfl) rfl ?_
  refine L_y rfl (y_loadA rfl ag_26 sz_26 (sees 2 0 rfl) (by rw [bs_length, hs]; decide) (bs_whole0 _ (hs))) rfl ?_
  refine L_op rfl (op_call rfl rfl (fun a w => Try.call14 a w) rfl ?_)
  refine FnS.mono (unp_nil a s hs) ?_
  rintro _ _ ⟨rfl, rfl⟩
  refine ⟨_, rfl, ?_⟩
  refine L_y rfl (y_move rfl) rfl ?_
  refine L_y rfl (y_extract rfl rfl) rfl ?_
  refine L_y rfl (y_extract rfl rfl) rfl ?_
  refine L_y rfl (y_extract rfl rfl) rfl ?_
  refine L_y rfl (y_assign rfl) rfl ?_
  refine L_y rfl (y_assign rfl) rfl ?_
  refine L_y rfl (y_assign rfl) rfl ?_
  refine L_nil ?_
  refine C_seq ?_
  refine C_seq ?_
  refine C_region ?_
  refine L_y rfl (y_move rfl) rfl ?_
  refine L_y rfl (y_move rfl) rfl ?_
  refine L_y rfl (y_nei rfl rfl) rfl ?_
  refine L_y rfl (y_move rfl) rfl ?_
  refine L_case 44 rfl (fun hg6_4 => ?_) (fun hg6_4 => ?_)
  · exact absurd hg6_4 (by simp)
  · skip
    refine L_y rfl (y_move rfl) rfl ?_
    refine L_y rfl (y_move rfl) rfl ?_
    refine L_op rfl (op_call rfl rfl (fun a w => Try.call13 a w) rfl ?_)
    refine FnS.mono (bsame_v (unpB a s) (unpB a s) (slh_v 1 rfl hg1 rfl) (slh_v 0 rfl hg2 rfl)) ?_
    rintro _ _ ⟨rfl, e⟩
    obtain rfl := e.symm
    rw [show decide ((unpB a s) = (unpB a s)) = true from by simp]
    refine ⟨_, rfl, ?_⟩
    refine L_y rfl (y_not rfl) rfl ?_
    refine L_y rfl (y_pick_f rfl rfl) rfl ?_
    refine L_y rfl (y_move rfl) rfl ?_
    refine L_y rfl (y_move rfl) rfl ?_
    refine L_y rfl (y_move rfl) rfl ?_
    refine L_y rfl (y_neb rfl rfl Try.underlying4) rfl ?_
    refine L_y rfl (y_pick_f rfl rfl) rfl ?_
    refine L_y rfl (y_move rfl) rfl ?_
    refine L_case 55 rfl (fun hg6_15 => ?_) (fun hg6_15 => ?_)
    · exact absurd hg6_15 (by simp)
    · skip
      refine L_y rfl (y_move rfl) rfl ?_
      refine L_y rfl (y_pick_f rfl rfl) rfl ?_
      refine L_nil ?_
      refine C_cond_f rfl ?_
      refine C_skip ?_
      refine C_seq ?_
      refine C_seq ?_
      refine C_region ?_
      refine L_y rfl (y_move rfl) rfl ?_
      refine L_y rfl (y_not rfl) rfl ?_
      refine L_nil ?_
      refine C_cond rfl (fun hc2 => ?_) (fun hc2 => ?_)
      · have hi : ¬ isS a s := fun h => by rw [decide_eq_true h] at hc2; exact absurd hc2 (by decide)
        refine C_seq ?_
        refine C_region ?_
        refine L_y rfl (y_move rfl) rfl ?_
        refine L_y rfl (y_lenV hg1 rfl rfl Try.underlying23) rfl ?_
        refine L_y rfl (y_eqi rfl rfl) rfl ?_
        refine L_y rfl (y_assign rfl) rfl ?_
        refine L_nil ?_
        refine C_ret ?_
        refine B_ret (rv_tmp rfl rv_nil) (HSub.refl _) ?_
        first
        | exact ret_bool (by rw [unpB_no hi]; rfl)
        | exact ret_bool (by simp)
      · have hi : isS a s := by
          by_cases h : isS a s
          · exact h
          · rw [decide_eq_false h] at hc2; exact absurd hc2 (by decide)
        refine C_skip ?_
        refine C_seq ?_
        refine C_region ?_
        refine L_y rfl (y_build0 pl_33 zl_33) rfl ?_
        refine L_y rfl (y_makeIface rfl Try.underlying33 rfl) rfl ?_
        refine L_y rfl (y_move rfl) rfl ?_
        refine L_y rfl (y_move rfl) rfl ?_
        refine L_y rfl (y_move rfl) rfl ?_
        refine L_op rfl (op_call rfl rfl (fun a w => Try.call11 a w) rfl ?_)
        refine FnS.mono (pack_v (unpG a s) (unpG_lt _ _) (unpB a s) (slh_v 1 rfl hg1 rfl) a) ?_
        rintro _ _ ⟨rfl, e⟩
        obtain rfl := e.symm
        rw [show decide (packOk a (unpB a s)) = true from decide_eq_true (unp_ok hs hi), unp_back hi]
        refine ⟨_, rfl, ?_⟩
        refine L_y rfl (y_move rfl) rfl ?_
        refine L_y rfl (y_extract rfl rfl) rfl ?_
        refine L_y rfl (y_extract rfl rfl) rfl ?_
        refine L_op rfl (op_alloc zl_26 rfl (fun B2 => ?_))
        refine L_op rfl (op_storeA 0 0 rfl rfl rfl sz_26 (by rw [bs_length, hs]) rfl (bs_one _) (by simp) ?_)
        refine L_y rfl (y_assign rfl) rfl ?_
        refine L_nil ?_
        refine C_seq ?_
        refine C_region ?_
        refine L_y rfl (y_move rfl) rfl ?_
        refine L_y rfl (y_move rfl) rfl ?_
        refine L_y rfl (y_loadA rfl ag_26 sz_26 (sees 0 0 rfl) (by rw [bs_length, hs]; decide) (bs_whole0 _ (hs))) rfl ?_
        refine L_y rfl (y_loadA rfl ag_26 sz_26 (sees 3 0 rfl) (by rw [bs_length, hs]; decide) (bs_whole0 _ (hs))) rfl ?_
        refine L_y rfl (y_eqa rfl rfl Try.underlying26 Try.underlying5 sz_5 eg_26 hs hs) rfl ?_
        refine L_y rfl (y_pick_t rfl rfl) rfl ?_
        refine L_y rfl (y_assign rfl) rfl ?_
        refine L_nil ?_
        refine C_ret ?_
        refine B_ret (rv_tmp rfl rv_nil) (HSub.refl _) ?_
        first
        | exact ret_bool (by rw [unpB_no hi]; rfl)
        | exact ret_bool (by simp)

theorem back_over {w0 : World} {H : Hp} {pa : Option Addr} {cap : Nat} (gen : Nat) (hg : gen < M64) (body : List UInt8) (hB : Holds w0 H pa (bs body)) (m : Nat) (hm : m < 65536) (hl : 103 < body.length) : FnS Try.prog w0 5 #[.int .u16 (m : Int), .int .u64 (gen : Int), .slice pa body.length cap] H (fun e H' => e = .returned (.bool true)) := by
  refine FnS_intro (n := 84) (rs := [.tmp 6]) (vs := [.int .u16 (m : Int), .int .u64 (gen : Int), .slice pa body.length cap]) Try.func5 rfl Try.ntmps5 rfl rfl ?_
  refine C_seq ?_
  refine C_region ?_
  refine L_y rfl (y_assign rfl) rfl ?_
  refine L_nil ?_
  refine C_seq ?_
  refine C_seq ?_
  refine C_region ?_
  refine L_op rfl (op_call rfl rfl (fun a w => Try.call10 a w) rfl ?_)
  refine awake11_s.mono ?_
  rintro _ _ ⟨rfl, e⟩
  obtain rfl := e.symm
  refine ⟨_, rfl, ?_⟩
  refine L_y rfl (y_not rfl) rfl ?_
  refine L_nil ?_
  refine C_cond_f rfl ?_
  refine C_skip ?_
  refine C_seq ?_
  refine C_seq ?_
  refine C_region ?_
  refine L_y rfl (y_move rfl) rfl ?_
  refine L_y rfl (y_lenS rfl rfl Try.underlying23) rfl ?_
  refine L_y rfl (y_gtr rfl rfl) rfl ?_
  refine L_nil ?_
  refine C_cond rfl (fun hc1 => ?_) (fun hc1 => absurd hc1 (by simp <;> omega))
  refine C_seq ?_
  refine C_region ?_
  refine L_y rfl (y_assign rfl) rfl ?_
  refine L_nil ?_
  refine C_ret ?_
  refine B_ret (rv_tmp rfl rv_nil) (HSub.refl _) ?_
  rfl

theorem back_s {w0 : World} {H : Hp} {pa : Option Addr} {cap : Nat} (gen : Nat) (hg : gen < M64) (body : List UInt8) (hB : Holds w0 H pa (bs body)) (m : Nat) (hm : m < 65536) (hl : ¬ 103 < body.length) : FnS Try.prog w0 5 #[.int .u16 (m : Int), .int .u64 (gen : Int), .slice pa body.length cap] H (fun e H' => e = .returned (.bool true)) := by
  refine FnS_intro (n := 84) (rs := [.tmp 6]) (vs := [.int .u16 (m : Int), .int .u64 (gen : Int), .slice pa body.length cap]) Try.func5 rfl Try.ntmps5 rfl rfl ?_
  refine C_seq ?_
  refine C_region ?_
  refine L_y rfl (y_assign rfl) rfl ?_
  refine L_nil ?_
  refine C_seq ?_
  refine C_seq ?_
  refine C_region ?_
  refine L_op rfl (op_call rfl rfl (fun a w => Try.call10 a w) rfl ?_)
  refine awake11_s.mono ?_
  rintro _ _ ⟨rfl, e⟩
  obtain rfl := e.symm
  refine ⟨_, rfl, ?_⟩
  refine L_y rfl (y_not rfl) rfl ?_
  refine L_nil ?_
  refine C_cond_f rfl ?_
  refine C_skip ?_
  refine C_seq ?_
  refine C_seq ?_
  refine C_region ?_
  refine L_y rfl (y_move rfl) rfl ?_
  refine L_y rfl (y_lenS rfl rfl Try.underlying23) rfl ?_
  refine L_y rfl (y_gtr rfl rfl) rfl ?_
  refine L_nil ?_
  refine C_cond rfl (fun hc1 => absurd hc1 (by simp <;> omega)) (fun hc1 => ?_)
  refine C_skip ?_
  refine C_seq ?_
  refine C_region ?_
  refine L_y rfl (y_move rfl) rfl ?_
  refine L_y rfl (y_conv rfl us_41 Try.underlying3 (wi64 (by omega) (by omega))) rfl ?_
  refine L_y rfl (y_rem rfl rfl (by decide) (show _ = ((m % 4096 : Nat) : Int) from rfl)) rfl ?_
  refine L_y rfl (y_assign rfl) rfl ?_
  refine L_nil ?_
  refine C_seq ?_
  have hp := packOk_mod m (body := body) (by omega)
  have hu := unp_packR hp hg
  refine C_region ?_
  refine L_y rfl (y_build0 pl_33 zl_33) rfl ?_
  refine L_y rfl (y_makeIface rfl Try.underlying33 rfl) rfl ?_
  refine L_y rfl (y_move rfl) rfl ?_
  refine L_y rfl (y_move rfl) rfl ?_
  refine L_y rfl (y_move rfl) rfl ?_
  refine L_op rfl (op_call rfl rfl (fun a w => Try.call11 a w) rfl ?_)
  refine FnS.mono (pack_v gen hg body (slh_raw (hB) rfl) ((m % 4096 : Nat) : Int)) ?_
  rintro _ _ ⟨rfl, e⟩
  obtain rfl := e.symm
  rw [decide_eq_true hp]
  refine ⟨_, rfl, ?_⟩
  refine L_y rfl (y_move rfl) rfl ?_
  refine L_y rfl (y_extract rfl rfl) rfl ?_
  refine L_y rfl (y_extract rfl rfl) rfl ?_
  refine L_op rfl (op_alloc zl_26 rfl (fun B1 => ?_))
  refine L_op rfl (op_storeA 0 0 rfl rfl rfl sz_26 (by rw [bs_length, packR_len _ _ _]) rfl (bs_one _) (by simp) ?_)
  refine L_y rfl (y_assign rfl) rfl ?_
  refine L_nil ?_
  refine C_seq ?_
  refine C_region ?_
  refine L_y rfl (y_build0 pl_33 zl_33) rfl ?_
  refine L_y rfl (y_makeIface rfl Try.underlying33 rfl) rfl ?_
  refine L_y rfl (y_move rfl) rfl ?_
  refine L_y rfl (y_loadA rfl ag_26 sz_26 (sees 0 0 rfl) (by rw [bs_length, packR_len _ _ _]; decide) (bs_whole0 _ (packR_len _ _ _))) rfl ?_
  refine L_op rfl (op_call rfl rfl (fun a w => Try.call14 a w) rfl ?_)
  refine FnS.mono (unpack_u ((m % 4096 : Nat) : Int) (packR ((m % 4096 : Nat) : Int) gen body) (packR_len _ _ _)) ?_
  rintro _ _ ⟨g1, hg1, rfl, rfl⟩
  rw [hu.2.1, hu.2.2, decide_eq_true hu.1]
  rw [hu.2.2] at hg1
  refine ⟨_, rfl, ?_⟩
  refine L_y rfl (y_move rfl) rfl ?_
  refine L_y rfl (y_extract rfl rfl) rfl ?_
  refine L_y rfl (y_extract rfl rfl) rfl ?_
  refine L_y rfl (y_extract rfl rfl) rfl ?_
  refine L_y rfl (y_assign rfl) rfl ?_
  refine L_y rfl (y_assign rfl) rfl ?_
  refine L_y rfl (y_assign rfl) rfl ?_
  refine L_nil ?_
  refine C_seq ?_
  refine C_seq ?_
  refine C_region ?_
  refine L_y rfl (y_move rfl) rfl ?_
  refine L_y rfl (y_not rfl) rfl ?_
  refine L_y rfl (y_move rfl) rfl ?_
  refine L_y rfl (y_move rfl) rfl ?_
  refine L_y rfl (y_not rfl) rfl ?_
  refine L_y rfl (y_pick_f rfl rfl) rfl ?_
  refine L_y rfl (y_move rfl) rfl ?_
  refine L_y rfl (y_move rfl) rfl ?_
  refine L_y rfl (y_move rfl) rfl ?_
  refine L_y rfl (y_nei rfl rfl) rfl ?_
  refine L_y rfl (y_pick_f rfl rfl) rfl ?_
  refine L_y rfl (y_move rfl) rfl ?_
  refine L_case 54 rfl (fun hg8_12 => ?_) (fun hg8_12 => ?_)
  · exact absurd hg8_12 (by simp)
  · skip
    refine L_y rfl (y_move rfl) rfl ?_
    refine L_y rfl (y_move rfl) rfl ?_
    refine L_op rfl (op_call rfl rfl (fun a w => Try.call13 a w) rfl ?_)
    refine FnS.mono (bsame_v body body (slh_v 0 rfl hg1 rfl) (slh_raw (hB.up.up) rfl)) ?_
    rintro _ _ ⟨rfl, e⟩
    obtain rfl := e.symm
    rw [show decide (body = body) = true from by simp]
    refine ⟨_, rfl, ?_⟩
    refine L_y rfl (y_not rfl) rfl ?_
    refine L_y rfl (y_pick_f rfl rfl) rfl ?_
    refine L_nil ?_
    refine C_cond_f rfl ?_
    refine C_skip ?_
    refine C_seq ?_
    refine C_seq ?_
    refine C_region ?_
    refine L_y rfl (y_move rfl) rfl ?_
    refine L_y rfl (y_lenV hg1 rfl rfl Try.underlying23) rfl ?_
    refine L_y rfl (y_move rfl) rfl ?_
    refine L_nil ?_
    refine C_block ?_
    refine C_loop (ι := Nat × List UInt8) (fun i => [(61, .int .i64 (body.length : Int)), (62, .int .i64 (i.1 : Int)), (11, slV g1 body.length), (7, .int .i64 ((m % 4096 : Nat) : Int)), (8, .pointer (some ⟨B1, 0, none⟩)), (2, .slice pa body.length cap)]) (fun i => slSeg 5 g1 (bs i.2) :: [(B1, .cells (bs (packR ((m % 4096 : Nat) : Int) gen body)).toArray 26)] :: H) (fun i => i.1 ≤ body.length ∧ i.2.length = body.length) (fun i => body.length - i.1) (0, body) ⟨Nat.zero_le _, rfl⟩ ⟨rfl, rfl, rfl, rfl, rfl, rfl, trivial⟩ (HSub.refl _) (fun i hi => ?_)
    obtain ⟨i, l⟩ := i
    obtain ⟨hi, hl2⟩ := hi
    simp only at hi hl2
    have hgl : slOk 1 g1 body.length (bs l) := ⟨by rw [bs_length, hl2, Nat.mul_one], by have := hg1.2; rw [bs_length] at this ⊢; rw [hl2]; exact this⟩
    dsimp only
    refine C_seq ?_
    refine C_region ?_
    refine L_y rfl (y_lss rfl rfl) rfl ?_
    refine L_nil ?_
    refine C_seq ?_
    refine C_cond rfl (fun hc3 => ?_) (fun hc3 => ?_)
    · replace hc3 := of_decide_eq_true hc3
      refine C_skip ?_
      refine C_seq ?_
      refine C_block ?_
      refine C_seq ?_
      refine C_region ?_
      refine L_y rfl (y_move rfl) rfl ?_
      refine L_y rfl (y_assign rfl) rfl ?_
      refine L_nil ?_
      cases g1 with
      | none => exact slOk_none hgl (by omega)
      | some g1 => ?_
      refine C_region ?_
      refine L_y rfl (y_move rfl) rfl ?_
      refine L_y rfl (y_move rfl) rfl ?_
      refine L_y rfl (y_indexS rfl rfl Try.underlying23 sz_5 (by omega) (by omega) (show _ = i from by simp)) rfl ?_
      refine L_y rfl (y_load rfl ag_5 (sees 0 0 rfl) (show _ = some (u8 (l.getD i 0)) from by rw [List.getElem?_append_left (by rw [bs_length]; omega), bs_get]; simp [List.getD, show i < l.length by omega])) rfl ?_
      refine L_y rfl (y_add rfl rfl (u8_add1 _)) rfl ?_
      refine L_y rfl (y_indexS rfl rfl Try.underlying23 sz_5 (by omega) (by omega) (show _ = i from by simp)) rfl ?_
      refine L_op rfl (op_store1 0 0 rfl rfl rfl sz_5 rfl (by rw [List.length_append, bs_length]; omega) ?_)
      refine L_nil ?_
      refine C_region ?_
      refine L_y rfl (y_add rfl rfl (wi64 (by omega) (by omega))) rfl ?_
      refine L_y rfl (y_move rfl) rfl ?_
      refine L_nil ?_
      exact ⟨(i + 1, l.set i (l.getD i 0 + 1)), ⟨by simp only; omega, by simpa using hl2⟩, by simp only; omega, ⟨rfl, rfl, rfl, rfl, rfl, rfl, trivial⟩, HSub.of_eq (by simp only [slSeg, setH, List.modify]; rw [← bs_set, List.set_append_left _ _ (by rw [bs_length]; omega)]; rfl)⟩
    · replace hc3 := of_decide_eq_false hc3
      refine C_exit ?_
      refine C_seq ?_
      refine C_region ?_
      refine L_y rfl (y_build0 pl_33 zl_33) rfl ?_
      refine L_y rfl (y_makeIface rfl Try.underlying33 rfl) rfl ?_
      refine L_y rfl (y_move rfl) rfl ?_
      refine L_y rfl (y_loadA rfl ag_26 sz_26 (sees 1 0 rfl) (by rw [bs_length, packR_len _ _ _]; decide) (bs_whole0 _ (packR_len _ _ _))) rfl ?_
      refine L_op rfl (op_call rfl rfl (fun a w => Try.call14 a w) rfl ?_)
      refine FnS.mono (unpack_u ((m % 4096 : Nat) : Int) (packR ((m % 4096 : Nat) : Int) gen body) (packR_len _ _ _)) ?_
      rintro _ _ ⟨g2, hg2, rfl, rfl⟩
      rw [hu.2.1, hu.2.2, decide_eq_true hu.1]
      rw [hu.2.2] at hg2
      refine ⟨_, rfl, ?_⟩
      refine L_y rfl (y_move rfl) rfl ?_
      refine L_y rfl (y_extract rfl rfl) rfl ?_
      refine L_y rfl (y_extract rfl rfl) rfl ?_
      refine L_y rfl (y_extract rfl rfl) rfl ?_
      refine L_y rfl (y_assign rfl) rfl ?_
      refine L_y rfl (y_assign rfl) rfl ?_
      refine L_y rfl (y_assign rfl) rfl ?_
      refine L_nil ?_
      refine C_seq ?_
      refine C_region ?_
      refine L_y rfl (y_move rfl) rfl ?_
      refine L_y rfl (y_move rfl) rfl ?_
      refine L_op rfl (op_call rfl rfl (fun a w => Try.call13 a w) rfl ?_)
      refine FnS.mono (bsame_v body body (slh_v 0 rfl hg2 rfl) (slh_raw (hB.up.up.up) rfl)) ?_
      rintro _ _ ⟨rfl, e⟩
      obtain rfl := e.symm
      rw [show decide (body = body) = true from by simp]
      refine ⟨_, rfl, ?_⟩
      refine L_y rfl (y_assign rfl) rfl ?_
      refine L_nil ?_
      refine C_ret ?_
      refine B_ret (rv_tmp rfl rv_nil) (HSub.refl _) ?_
      rfl

end Go.Proofs.Ythlkpbdnfdagfaa
