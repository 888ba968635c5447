/- walks (own work; the walks' lines by a program of this repo). -/
import Derived.Test.YthlkpbdnfdagfaaFa
import Derived.Test.YthlkpbdnfdagfaaXc
set_option linter.unusedVariables false
set_option linter.unusedSimpArgs false
set_option maxRecDepth 20000
namespace Go.Proofs.Ythlkpbdnfdagfaa
open Go.Sl
attribute [local irreducible] BodyQ WpC WpL WpS WpH OpW FnS


theorem litsum_s {w0 : World} {H : Hp} {b off cap T : Nat} {fr : Nat × Nat} {l : List Value} (u : List UInt8) (hs : Sees (fun w => St w0 w H) b (.cells l.toArray T fr)) (hv : (l.drop off).take u.length = bs u) (hu : u.length ≤ 100000) (k : List UInt8) (hk : k.length = 32) : FnS Try.prog w0 28 #[.agg (bs k).toArray, .slice (some ⟨b, off, none⟩) u.length cap] H (fun e H' => e = .returned (.agg (bs (litSum k u)).toArray) ∧ H' = H) := by
  refine FnS_intro (n := 52) (rs := [.cell 4 70]) (vs := [.agg (bs k).toArray, .slice (some ⟨b, off, none⟩) u.length cap]) Try.func28 rfl Try.ntmps28 rfl rfl ?_
  refine C_seq ?_
  refine C_region ?_
  refine L_op rfl (op_box rfl rfl rfl (fun B1 => ?_))
  refine L_op rfl (op_alloc zl_70 rfl (fun B2 => ?_))
  refine L_nil ?_
  refine C_seq ?_
  refine C_region ?_
  refine L_y rfl (y_move rfl) rfl ?_
  refine L_y rfl (y_lenS rfl rfl Try.underlying23) rfl ?_
  refine L_y rfl (y_conv rfl us_3 Try.underlying22 (wu64_mod _)) rfl ?_
  refine L_y rfl (y_assign rfl) rfl ?_
  refine L_nil ?_
  refine C_seq ?_
  refine C_seq ?_
  refine C_region ?_
  refine L_y rfl (y_assign rfl) rfl ?_
  refine L_nil ?_
  refine C_block ?_
  refine C_loop (ι := Nat) (fun i => [(5, .int .u64 ((ls1 (u.length % M64) (k.take i) : Nat) : Int)), (6, .int .i64 (i : Int)), (1, .slice (some ⟨b, off, none⟩) u.length cap), (2, .pointer (some ⟨B1, 0, none⟩)), (4, .pointer (some ⟨B2, 0, none⟩))]) (fun i => [(B2, .cells (List.replicate 16 (Value.int .u8 0)).toArray 70)] :: [(B1, .cells (bs k).toArray 30)] :: H) (fun i => i ≤ 32) (fun i => 32 - i) 0 (Nat.zero_le _) ⟨rfl, rfl, rfl, rfl, rfl, trivial⟩ (HSub.refl _) (fun i hi => ?_)
  skip
  refine C_seq ?_
  refine C_seq ?_
  refine C_region ?_
  refine L_y rfl (y_move rfl) rfl ?_
  refine L_y rfl (y_lss rfl rfl) rfl ?_
  refine L_nil ?_
  refine C_cond rfl (fun hc0 => ?_) (fun hc0 => ?_)
  · replace hc0 := of_decide_eq_true hc0
    refine C_skip ?_
    refine C_seq ?_
    refine C_block ?_
    refine C_region ?_
    refine L_y rfl (y_move rfl) rfl ?_
    refine L_y rfl (y_move rfl) rfl ?_
    refine L_y rfl (y_indexA rfl rfl Try.underlying30 sz_5 (by omega) (by omega) rfl) rfl ?_
    refine L_y rfl (y_load rfl ag_5 (sees 1 0 rfl) (getb (bs_whole0 k hk) (by omega) hk)) rfl ?_
    have hb := (k.getD i 0).toNat_lt
    refine L_y rfl (y_conv rfl us_5 Try.underlying22 (wu64 (by omega) (by omega))) rfl ?_
    refine L_y rfl (y_add rfl rfl rfl) rfl ?_
    refine L_y rfl (y_mul rfl rfl (ls1_step (by omega))) rfl ?_
    refine L_y rfl (y_assign rfl) rfl ?_
    refine L_nil ?_
    refine C_region ?_
    refine L_y rfl (y_move rfl) rfl ?_
    refine L_y rfl (y_add rfl rfl (wi64 (by omega) (by omega))) rfl ?_
    refine L_y rfl (y_assign rfl) rfl ?_
    refine L_nil ?_
    exact ⟨i + 1, by omega, by omega, ⟨rfl, rfl, rfl, rfl, rfl, trivial⟩, HSub.refl _⟩
  · replace hc0 := of_decide_eq_false hc0
    refine C_exit ?_
    refine C_seq ?_
    refine C_seq ?_
    obtain rfl : i = 32 := by omega
    rw [show k.take 32 = k from List.take_of_length_le (by omega)]
    refine C_region ?_
    refine L_y rfl (y_assign rfl) rfl ?_
    refine L_nil ?_
    refine C_block ?_
    refine C_loop (ι := Nat) (fun i => [(5, .int .u64 ((ls2 (ls1 (u.length % M64) k) (u.take i) : Nat) : Int)), (7, .int .i64 (i : Int)), (1, .slice (some ⟨b, off, none⟩) u.length cap), (4, .pointer (some ⟨B2, 0, none⟩))]) (fun i => [(B2, .cells (List.replicate 16 (Value.int .u8 0)).toArray 70)] :: H) (fun i => i ≤ u.length) (fun i => u.length - i) 0 (Nat.zero_le _) ⟨by rw [show ls2 (ls1 (u.length % M64) k) (u.take 0) = (ls1 (u.length % M64) k) from by rw [List.take_zero]; exact List.foldl_nil]; rfl, rfl, rfl, rfl, trivial⟩ (hsub (.cons_cons _ (.cons _ (.refl _)))) (fun i hi => ?_)
    skip
    refine C_seq ?_
    refine C_seq ?_
    refine C_region ?_
    refine L_y rfl (y_move rfl) rfl ?_
    refine L_y rfl (y_move rfl) rfl ?_
    refine L_y rfl (y_lenS rfl rfl Try.underlying23) rfl ?_
    refine L_y rfl (y_lss rfl rfl) rfl ?_
    refine L_nil ?_
    refine C_cond rfl (fun hc1 => ?_) (fun hc1 => ?_)
    · replace hc1 := of_decide_eq_true hc1
      refine C_skip ?_
      refine C_seq ?_
      refine C_block ?_
      refine C_region ?_
      refine L_y rfl (y_move rfl) rfl ?_
      refine L_y rfl (y_move rfl) rfl ?_
      refine L_y rfl (y_move rfl) rfl ?_
      refine L_y rfl (y_indexS rfl rfl Try.underlying23 sz_5 (by omega) (by omega) rfl) rfl ?_
      refine L_y rfl (y_load rfl ag_5 (hs.up) (getb hv (by omega) rfl)) rfl ?_
      have hb := (u.getD i 0).toNat_lt
      refine L_y rfl (y_conv rfl us_5 Try.underlying22 (wu64 (by omega) (by omega))) rfl ?_
      refine L_y rfl (y_add rfl rfl rfl) rfl ?_
      refine L_y rfl (y_add rfl rfl rfl) rfl ?_
      refine L_y rfl (y_mul rfl rfl (ls2_step (by omega))) rfl ?_
      refine L_y rfl (y_assign rfl) rfl ?_
      refine L_nil ?_
      refine C_region ?_
      refine L_y rfl (y_move rfl) rfl ?_
      refine L_y rfl (y_add rfl rfl (wi64 (by omega) (by omega))) rfl ?_
      refine L_y rfl (y_assign rfl) rfl ?_
      refine L_nil ?_
      exact ⟨i + 1, by omega, by omega, ⟨rfl, rfl, rfl, rfl, trivial⟩, HSub.refl _⟩
    · replace hc1 := of_decide_eq_false hc1
      refine C_exit ?_
      refine C_seq ?_
      obtain rfl : i = u.length := by omega
      rw [List.take_length]
      refine C_region ?_
      refine L_op rfl (op_alloc zl_70 rfl (fun B3 => ?_))
      refine L_nil ?_
      refine C_seq ?_
      refine C_seq ?_
      refine C_region ?_
      refine L_y rfl (y_assign rfl) rfl ?_
      refine L_nil ?_
      refine C_block ?_
      refine C_loop (ι := Nat) (fun i => [(5, .int .u64 ((lsX (ls2 (ls1 (u.length % M64) k) u) i : Nat) : Int)), (9, .int .i64 (i : Int)), (8, .pointer (some ⟨B3, 0, none⟩)), (4, .pointer (some ⟨B2, 0, none⟩))]) (fun i => [(B3, .cells (bs ((litO (ls2 (ls1 (u.length % M64) k) u)).take i ++ List.replicate (16 - i) 0)).toArray 70)] :: [(B2, .cells (List.replicate 16 (Value.int .u8 0)).toArray 70)] :: H) (fun i => i ≤ 16) (fun i => 16 - i) 0 (Nat.zero_le _) ⟨by rw [show lsX (ls2 (ls1 (u.length % M64) k) u) 0 = (ls2 (ls1 (u.length % M64) k) u) from lsX.eq_1 _]; rfl, rfl, rfl, rfl, trivial⟩ (HSub.of_eq rfl) (fun i hi => ?_)
      skip
      refine C_seq ?_
      refine C_seq ?_
      refine C_region ?_
      refine L_y rfl (y_move rfl) rfl ?_
      refine L_y rfl (y_lss rfl rfl) rfl ?_
      refine L_nil ?_
      refine C_cond rfl (fun hc2 => ?_) (fun hc2 => ?_)
      · replace hc2 := of_decide_eq_true hc2
        refine C_skip ?_
        refine C_seq ?_
        refine C_block ?_
        refine C_seq ?_
        refine C_region ?_
        refine L_y rfl (y_move rfl) rfl ?_
        refine L_y rfl (y_mul rfl rfl rfl) rfl ?_
        refine L_y rfl (y_add rfl rfl (lsX_step _ _)) rfl ?_
        refine L_y rfl (y_assign rfl) rfl ?_
        refine L_nil ?_
        refine C_region ?_
        refine L_y rfl (y_move rfl) rfl ?_
        refine L_y rfl (y_move rfl) rfl ?_
        refine L_y rfl (y_shr rfl rfl (by decide) rfl) rfl ?_
        refine L_y rfl (y_conv rfl us_22 Try.underlying5 (lit_byte _ _)) rfl ?_
        refine L_y rfl (y_indexA rfl rfl Try.underlying70 sz_5 (by omega) (by omega) (show _ = i from by simp)) rfl ?_
        refine L_op rfl (op_store1 0 0 rfl rfl rfl sz_5 rfl (by simp [bs_length, litO_len]; omega) ?_)
        refine L_nil ?_
        refine C_region ?_
        refine L_y rfl (y_move rfl) rfl ?_
        refine L_y rfl (y_add rfl rfl (wi64 (by omega) (by omega))) rfl ?_
        refine L_y rfl (y_assign rfl) rfl ?_
        refine L_nil ?_
        exact ⟨i + 1, by omega, by omega, ⟨rfl, rfl, rfl, rfl, trivial⟩, HSub.of_eq (by rw [← put_step (litO_len _) (by omega) (litO_get (by omega))]; rfl)⟩
      · replace hc2 := of_decide_eq_false hc2
        refine C_exit ?_
        refine C_seq ?_
        obtain rfl : i = 16 := by omega
        rw [show (litO (ls2 (ls1 (u.length % M64) k) u)).take 16 ++ List.replicate (16 - 16) 0 = litSum k u from by rw [List.take_of_length_le (by rw [litO_len]; exact Nat.le_refl _)]; simp [litSum]]
        refine C_region ?_
        refine L_y rfl (y_loadA rfl ag_70 sz_70 (sees 0 0 rfl) (by rw [bs_length, litSum_len]; decide) (bs_whole0 _ (litSum_len _ _))) rfl ?_
        refine L_op rfl (op_storeA 1 0 rfl rfl rfl sz_70 (by rw [bs_length, litSum_len]) rfl (bs_one _) rfl ?_)
        refine L_nil ?_
        refine C_ret ?_
        refine B_ret (rv_cellA rfl ag_70 sz_70 (sees 1 0 rfl) (by rw [bs_length, litSum_len]; decide) (bs_whole0 _ (litSum_len _ _)) rv_nil) (hsub (.cons _ (.cons _ (.refl _)))) ?_
        exact ⟨rfl, rfl⟩

theorem litm_s {w0 : World} {H : Hp} (zc : List Value) {b off cap T : Nat} {fr : Nat × Nat} {l : List Value} (u : List UInt8) (hs : Sees (fun w => St w0 w H) b (.cells l.toArray T fr)) (hv : (l.drop off).take u.length = bs u) (hu : u.length ≤ 100000) (k : List UInt8) (hk : k.length = 32) : FnS Try.prog w0 73 #[.agg zc.toArray, .agg (bs k).toArray, .slice (some ⟨b, off, none⟩) u.length cap] H (fun e H' => e = .returned (.agg (bs (litSum k u)).toArray) ∧ H' = H) := by
  refine FnS_intro (n := 10) (rs := [.cell 6 70]) (vs := [.agg zc.toArray, .agg (bs k).toArray, .slice (some ⟨b, off, none⟩) u.length cap]) Try.func73 rfl Try.ntmps73 rfl rfl ?_
  refine C_seq ?_
  refine C_region ?_
  refine L_op rfl (op_box rfl rfl rfl (fun B1 => ?_))
  refine L_op rfl (op_box rfl rfl rfl (fun B2 => ?_))
  refine L_op rfl (op_alloc zl_70 rfl (fun B3 => ?_))
  refine L_nil ?_
  refine C_seq ?_
  refine C_region ?_
  refine L_y rfl (y_loadA rfl ag_30 sz_30 (sees 1 0 rfl) (by rw [bs_length, hk]; decide) (bs_whole0 _ hk)) rfl ?_
  refine L_y rfl (y_move rfl) rfl ?_
  refine L_op rfl (op_call rfl rfl (fun a w => Try.call28 a w) rfl ?_)
  refine (litsum_s u (hs.up.up.up) hv hu k hk).mono ?_
  rintro _ _ ⟨rfl, rfl⟩
  refine ⟨_, rfl, ?_⟩
  refine L_op rfl (op_storeA 0 0 rfl rfl rfl sz_70 (by rw [bs_length, litSum_len]) rfl (bs_one _) rfl ?_)
  refine L_nil ?_
  refine C_ret ?_
  refine B_ret (rv_cellA rfl ag_70 sz_70 (sees 0 0 rfl) (by rw [bs_length, litSum_len]; decide) (bs_whole0 _ (litSum_len _ _)) rv_nil) (hsub (.cons _ (.cons _ (.cons _ (.refl _))))) ?_
  exact ⟨rfl, rfl⟩

end Go.Proofs.Ythlkpbdnfdagfaa
