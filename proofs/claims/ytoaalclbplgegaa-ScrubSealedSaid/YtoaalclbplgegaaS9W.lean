/- walks (own work; the walks' lines by a program of this repo). -/
import Derived.Test.YtoaalclbplgegaaSkW
import Derived.Test.YtoaalclbplgegaaSe
import Derived.Test.YtoaalclbplgegaaVwW
import Derived.Test.YtoaalclbplgegaaVaW
import Derived.Test.YtoaalclbplgegaaVdW
import Derived.Test.YtoaalclbplgegaaVnW
set_option linter.unusedVariables false
set_option linter.unusedSimpArgs false
set_option maxRecDepth 20000
namespace Go.Proofs.Ytoaalclbplgegaa
open Go.Sl
attribute [local irreducible] BodyQ WpC WpL WpS WpH OpW FnS


theorem seal_s {w0 : World} {H : Hp} (n : Int) (x : UInt8) : FnS Try.prog w0 33 #[.int .i64 n, .int .u8 (x.toNat : Int)] H (fun e H' => e = .returned (.agg (bs (sealL n x)).toArray) ∧ H' = H) := by
  refine FnS_intro (n := 20) (rs := [.cell 4 37]) (vs := [.int .i64 n, .int .u8 (x.toNat : Int)]) Try.func33 rfl Try.ntmps33 rfl rfl ?_
  refine C_seq ?_
  refine C_region ?_
  refine L_op rfl (op_alloc zl_37 rfl (fun B1 => ?_))
  refine L_nil ?_
  refine C_seq ?_
  refine C_region ?_
  refine L_op rfl (op_alloc zl_37 rfl (fun B2 => ?_))
  refine L_nil ?_
  refine C_seq ?_
  refine C_seq ?_
  refine C_region ?_
  refine L_y rfl (y_move rfl) rfl ?_
  refine L_nil ?_
  refine C_block ?_
  refine C_loop (ι := Nat) (fun i => [(0, .int .i64 n), (1, .int .u8 (x.toNat : Int)), (4, ptr B1), (5, ptr B2), (7, .int .i64 (i : Int))]) (fun i => [(B2, .cells (bs (fillTo x i)).toArray 37)] :: [(B1, .cells (List.replicate 128 (Value.int .u8 0)).toArray 37)] :: H) (fun i => i ≤ 128) (fun i => 128 - i) 0 (Nat.zero_le _) ⟨rfl, rfl, rfl, rfl, rfl, trivial⟩ (HSub.same (by rw [show bs (fillTo x 0) = List.replicate 128 (Value.int .u8 0) from by simp [fillTo, bs, u8]])) (fun i hi => ?_)
  skip
  refine C_seq ?_
  refine C_region ?_
  refine L_y rfl (y_lss rfl rfl) rfl ?_
  refine L_nil ?_
  refine C_seq ?_
  refine C_cond rfl (fun hc0 => ?_) (fun hc0 => ?_)
  · replace hc0 := of_decide_eq_true hc0
    refine C_skip ?_
    refine C_seq ?_
    refine C_block ?_
    refine C_seq ?_
    refine C_region ?_
    refine L_y rfl (y_move rfl) rfl ?_
    refine L_y rfl (y_assign rfl) rfl ?_
    refine L_nil ?_
    refine C_region ?_
    refine L_y rfl (y_move rfl) rfl ?_
    refine L_y rfl (y_move rfl) rfl ?_
    refine L_y rfl (y_indexA rfl rfl Try.underlying37 sz_5 (by omega) (by omega) (show _ = i from by simp)) rfl ?_
    refine L_op rfl (op_store1 0 0 rfl rfl rfl sz_5 rfl (by rw [bs_length, fillTo_len (by omega)]; omega) ?_)
    refine L_nil ?_
    refine C_region ?_
    refine L_y rfl (y_add rfl rfl (wi64 (by omega) (by omega))) rfl ?_
    refine L_y rfl (y_move rfl) rfl ?_
    refine L_nil ?_
    exact ⟨i + 1, by omega, by omega, ⟨rfl, rfl, rfl, rfl, rfl, trivial⟩, HSub.same (by rw [← fillTo_step (by omega), ← bs_set]; rfl)⟩
  · replace hc0 := of_decide_eq_false hc0
    refine C_exit ?_
    refine C_cutG (ι := Unit) (fun _ => True) (fun _ => [(4, ptr B1), (5, ptr B2)]) (fun _ => [(B2, .cells (bs (sealL n x)).toArray 37)] :: [(B1, .cells (List.replicate 128 (Value.int .u8 0)).toArray 37)] :: H) ?_ (fun i hi => ?_)
    · obtain rfl : i = 128 := by omega
      rw [fillTo_all]
      refine C_region ?_
      refine L_y rfl (y_move rfl) rfl ?_
      refine L_y rfl (y_conv rfl us_3 Try.underlying5 (wrap_b8 n)) rfl ?_
      refine L_y rfl (y_move rfl) rfl ?_
      refine L_y rfl (y_indexA rfl rfl Try.underlying37 sz_5 (by omega) (by omega) (show _ = 0 from rfl)) rfl ?_
      refine L_op rfl (op_store1 0 0 rfl rfl rfl sz_5 rfl (by rw [bs_length, secOf_len]; decide) ?_)
      refine L_y rfl (y_indexA rfl rfl Try.underlying37 sz_5 (by omega) (by omega) (show _ = 1 from rfl)) rfl ?_
      refine L_op rfl (op_store1 0 0 rfl rfl rfl sz_5 rfl (by rw [List.length_set, bs_length, secOf_len]; decide) ?_)
      refine L_nil ?_
      exact ⟨(), trivial, ⟨rfl, rfl, trivial⟩, (HSub.same (by rw [← seal_fill n x]; rfl))⟩
    · skip
      refine C_seq ?_
      refine C_region ?_
      refine L_y rfl (y_loadA rfl ag_37 sz_37 (sees 0 0 rfl) (by rw [bs_length, sealL_len n x]; decide) (bs_whole0 _ (sealL_len n x))) rfl ?_
      refine L_op rfl (op_storeA 1 0 rfl rfl rfl sz_37 (by rw [bs_length, sealL_len]) rfl (bs_one _) rfl ?_)
      refine L_nil ?_
      refine C_ret ?_
      refine B_ret (rv_cellA rfl ag_37 sz_37 (sees 1 0 rfl) (by rw [bs_length, sealL_len]; decide) (bs_whole0 _ (sealL_len n x)) rv_nil) (hsub (.cons _ (.cons _ (.refl _)))) ?_
      exact ⟨rfl, rfl⟩

theorem healthy_s {w0 : World} {H : Hp} (n : Int) (s : Sec) (hs : s.length = 128) : FnS Try.prog w0 32 #[.int .i64 n, .agg (bs s).toArray] H (fun e H' => e = .returned (.bool (healP n s)) ∧ H' = H) := by
  refine FnS_intro (n := 25) (rs := [.tmp 4]) (vs := [.int .i64 n, .agg (bs s).toArray]) Try.func32 rfl Try.ntmps32 rfl rfl ?_
  refine C_seq ?_
  refine C_region ?_
  refine L_op rfl (op_box rfl rfl rfl (fun B1 => ?_))
  refine L_y rfl (y_assign rfl) rfl ?_
  refine L_nil ?_
  refine C_seq ?_
  refine C_regionH0 (by kernel_rfl) ?_
  refine H_y 0 rfl (by kernel_rfl) (by kernel_rfl) (by kernel_rfl) (HSub.refl _) rfl (y_loadA rfl ag_37 sz_37 (sees 0 0 rfl) (by rw [bs_length, hs]; decide) (bs_whole0 _ (hs))) rfl ?_
  refine H_y 1 rfl (by kernel_rfl) (by kernel_rfl) (by kernel_rfl) (HSub.refl _) rfl (y_move rfl) rfl ?_
  refine H_y 2 rfl (by kernel_rfl) (by kernel_rfl) (by kernel_rfl) (HSub.refl _) rfl (y_indexA rfl rfl Try.underlying37 sz_5 (by omega) (by omega) (show _ = 1 from rfl)) rfl ?_
  refine H_y 3 rfl (by kernel_rfl) (by kernel_rfl) (by kernel_rfl) (HSub.refl _) rfl (y_load rfl ag_5 (sees 0 0 rfl) (show ((bs s))[1]? = some (Value.int .u8 ((s.getD 1 0).toNat : Int)) from bs_getD (by omega))) rfl ?_
  refine H_one 4 rfl (by kernel_rfl) rfl (op_call rfl rfl (fun a w => Try.call33 a w) rfl ?_)
  refine (seal_s (n) (s.getD 1 0)).mono ?_
  rintro _ _ ⟨rfl, e⟩
  obtain rfl := e.symm
  clear e
  refine ⟨_, rfl, ?_⟩
  refine ⟨HSub.refl _, ?_⟩
  refine H_y 5 rfl (by kernel_rfl) (by kernel_rfl) (by kernel_rfl) (HSub.refl _) rfl (y_eqa rfl rfl Try.underlying37 Try.underlying5 sz_5 eg_37 hs (sealL_len _ _)) rfl ?_
  refine H_y 6 rfl (by kernel_rfl) (by kernel_rfl) (by kernel_rfl) (HSub.refl _) rfl (y_move rfl) rfl ?_
  refine H_case 11 rfl (fun hg1_7 => ?_) (fun hg1_7 => ?_)
  · skip
    refine H_y 7 rfl (by kernel_rfl) (by kernel_rfl) (by kernel_rfl) (HSub.refl _) rfl (y_indexA rfl rfl Try.underlying37 sz_5 (by omega) (by omega) (show _ = 1 from rfl)) rfl ?_
    refine H_y 8 rfl (by kernel_rfl) (by kernel_rfl) (by kernel_rfl) (HSub.refl _) rfl (y_load rfl ag_5 (sees 0 0 rfl) (show ((bs s))[1]? = some (Value.int .u8 ((s.getD 1 0).toNat : Int)) from bs_getD (by omega))) rfl ?_
    refine H_y 9 rfl (by kernel_rfl) (by kernel_rfl) (by kernel_rfl) (HSub.refl _) rfl (y_indexA rfl rfl Try.underlying37 sz_5 (by omega) (by omega) (show _ = 2 from rfl)) rfl ?_
    refine H_y 10 rfl (by kernel_rfl) (by kernel_rfl) (by kernel_rfl) (HSub.refl _) rfl (y_load rfl ag_5 (sees 0 0 rfl) (show ((bs s))[2]? = some (Value.int .u8 ((s.getD 2 0).toNat : Int)) from bs_getD (by omega))) rfl ?_
    refine H_y 11 rfl (by kernel_rfl) (by kernel_rfl) (by kernel_rfl) (HSub.refl _) rfl (y_eqi rfl rfl) rfl ?_
    refine H_y 12 rfl (by kernel_rfl) (by kernel_rfl) (by kernel_rfl) (HSub.refl _) rfl (y_pick_t rfl rfl) rfl ?_
    refine H_y 13 rfl (by kernel_rfl) (by kernel_rfl) (by kernel_rfl) (HSub.refl _) rfl (y_move rfl) rfl ?_
    refine H_case 18 rfl (fun hg1_14 => ?_) (fun hg1_14 => ?_)
    · skip
      refine H_y 14 rfl (by kernel_rfl) (by kernel_rfl) (by kernel_rfl) (HSub.refl _) rfl (y_indexA rfl rfl Try.underlying37 sz_5 (by omega) (by omega) (show _ = 2 from rfl)) rfl ?_
      refine H_y 15 rfl (by kernel_rfl) (by kernel_rfl) (by kernel_rfl) (HSub.refl _) rfl (y_load rfl ag_5 (sees 0 0 rfl) (show ((bs s))[2]? = some (Value.int .u8 ((s.getD 2 0).toNat : Int)) from bs_getD (by omega))) rfl ?_
      refine H_y 16 rfl (by kernel_rfl) (by kernel_rfl) (by kernel_rfl) (HSub.refl _) rfl (y_indexA rfl rfl Try.underlying37 sz_5 (by omega) (by omega) (show _ = 3 from rfl)) rfl ?_
      refine H_y 17 rfl (by kernel_rfl) (by kernel_rfl) (by kernel_rfl) (HSub.refl _) rfl (y_load rfl ag_5 (sees 0 0 rfl) (show ((bs s))[3]? = some (Value.int .u8 ((s.getD 3 0).toNat : Int)) from bs_getD (by omega))) rfl ?_
      refine H_y 18 rfl (by kernel_rfl) (by kernel_rfl) (by kernel_rfl) (HSub.refl _) rfl (y_eqi rfl rfl) rfl ?_
      refine H_y 19 rfl (by kernel_rfl) (by kernel_rfl) (by kernel_rfl) (HSub.refl _) rfl (y_pick_t rfl rfl) rfl ?_
      refine H_y 20 rfl (by kernel_rfl) (by kernel_rfl) (by kernel_rfl) (HSub.refl _) rfl (y_assign rfl) rfl ?_
      refine H_done (by kernel_rfl) ?_
      refine C_ret ?_
      refine B_ret (rv_tmp rfl rv_nil) (hsub (.cons _ (.refl _))) ?_
      exact ⟨ret_bool (by unfold healP; rw [dec_u8 (s.getD 1 0) (s.getD 2 0), dec_u8 (s.getD 2 0) (s.getD 3 0), hg1_7]; first | rfl | (rw [hg1_14]; rfl)), rfl⟩
    · skip
      refine H_skip 14 rfl (by kernel_rfl) (by kernel_rfl) (by kernel_rfl) (HSub.refl _) rfl rfl ?_
      refine H_skip 15 rfl (by kernel_rfl) (by kernel_rfl) (by kernel_rfl) (HSub.refl _) rfl rfl ?_
      refine H_skip 16 rfl (by kernel_rfl) (by kernel_rfl) (by kernel_rfl) (HSub.refl _) rfl rfl ?_
      refine H_skip 17 rfl (by kernel_rfl) (by kernel_rfl) (by kernel_rfl) (HSub.refl _) rfl rfl ?_
      refine H_skip 18 rfl (by kernel_rfl) (by kernel_rfl) (by kernel_rfl) (HSub.refl _) rfl rfl ?_
      refine H_y 19 rfl (by kernel_rfl) (by kernel_rfl) (by kernel_rfl) (HSub.refl _) rfl (y_pick_f rfl rfl) rfl ?_
      refine H_y 20 rfl (by kernel_rfl) (by kernel_rfl) (by kernel_rfl) (HSub.refl _) rfl (y_assign rfl) rfl ?_
      refine H_done (by kernel_rfl) ?_
      refine C_ret ?_
      refine B_ret (rv_tmp rfl rv_nil) (hsub (.cons _ (.refl _))) ?_
      exact ⟨ret_bool (by unfold healP; rw [dec_u8 (s.getD 1 0) (s.getD 2 0), dec_u8 (s.getD 2 0) (s.getD 3 0), hg1_7]; first | rfl | (rw [hg1_14]; rfl)), rfl⟩
  · skip
    refine H_skip 7 rfl (by kernel_rfl) (by kernel_rfl) (by kernel_rfl) (HSub.refl _) rfl rfl ?_
    refine H_skip 8 rfl (by kernel_rfl) (by kernel_rfl) (by kernel_rfl) (HSub.refl _) rfl rfl ?_
    refine H_skip 9 rfl (by kernel_rfl) (by kernel_rfl) (by kernel_rfl) (HSub.refl _) rfl rfl ?_
    refine H_skip 10 rfl (by kernel_rfl) (by kernel_rfl) (by kernel_rfl) (HSub.refl _) rfl rfl ?_
    refine H_skip 11 rfl (by kernel_rfl) (by kernel_rfl) (by kernel_rfl) (HSub.refl _) rfl rfl ?_
    refine H_y 12 rfl (by kernel_rfl) (by kernel_rfl) (by kernel_rfl) (HSub.refl _) rfl (y_pick_f rfl rfl) rfl ?_
    refine H_y 13 rfl (by kernel_rfl) (by kernel_rfl) (by kernel_rfl) (HSub.refl _) rfl (y_move rfl) rfl ?_
    refine H_skip 14 rfl (by kernel_rfl) (by kernel_rfl) (by kernel_rfl) (HSub.refl _) rfl rfl ?_
    refine H_skip 15 rfl (by kernel_rfl) (by kernel_rfl) (by kernel_rfl) (HSub.refl _) rfl rfl ?_
    refine H_skip 16 rfl (by kernel_rfl) (by kernel_rfl) (by kernel_rfl) (HSub.refl _) rfl rfl ?_
    refine H_skip 17 rfl (by kernel_rfl) (by kernel_rfl) (by kernel_rfl) (HSub.refl _) rfl rfl ?_
    refine H_skip 18 rfl (by kernel_rfl) (by kernel_rfl) (by kernel_rfl) (HSub.refl _) rfl rfl ?_
    refine H_y 19 rfl (by kernel_rfl) (by kernel_rfl) (by kernel_rfl) (HSub.refl _) rfl (y_pick_f rfl rfl) rfl ?_
    refine H_y 20 rfl (by kernel_rfl) (by kernel_rfl) (by kernel_rfl) (HSub.refl _) rfl (y_assign rfl) rfl ?_
    refine H_done (by kernel_rfl) ?_
    refine C_ret ?_
    refine B_ret (rv_tmp rfl rv_nil) (hsub (.cons _ (.refl _))) ?_
    exact ⟨ret_bool (by unfold healP; rw [dec_u8 (s.getD 1 0) (s.getD 2 0), dec_u8 (s.getD 2 0) (s.getD 3 0), hg1_7]; first | rfl | (rw [hg1_14]; rfl)), rfl⟩

theorem healthy_at {w0 : World} {H : Hp} : GoodAt Try.prog w0 H (.func (.func 32) #[] ([] : List Value).toArray) healP := .inr ⟨32, [], rfl, fun a w => Try.call32 a w, fun H' n s _ hs => healthy_s n s hs⟩

set_option maxHeartbeats 4000000 in

theorem scrubsealed_t {w0 : World} {H : Hp} {pa pb : Option Addr} {ca cb : Nat} {dd ats : List UInt8} (hA : Holds w0 H pa (bs dd)) (hB : Holds w0 H pb (bs ats)) (c : UInt8) : FnS Try.prog w0 11 #[.slice pa dd.length ca, .slice pb ats.length cb, .int .u8 (c.toNat : Int), .bool true] H (fun e H' => e = .returned (.bool true)) := by
  refine FnS_intro (n := 150) (rs := [.tmp 8]) (vs := [.slice pa dd.length ca, .slice pb ats.length cb, .int .u8 (c.toNat : Int), .bool true]) Try.func11 rfl Try.ntmps11 rfl rfl ?_
  refine C_seq ?_
  refine C_region ?_
  refine L_y rfl (y_assign rfl) rfl ?_
  refine L_nil ?_
  refine C_seq ?_
  refine C_seq ?_
  refine C_region ?_
  refine L_op rfl (op_call rfl rfl (fun a w => Try.call13 a w) rfl ?_)
  refine awake10_s.mono ?_
  rintro _ _ ⟨rfl, e⟩
  obtain rfl := e.symm
  clear e
  refine ⟨_, rfl, ?_⟩
  refine L_y rfl (y_not rfl) rfl ?_
  refine L_y rfl (y_move rfl) rfl ?_
  refine L_y rfl (y_move rfl) rfl ?_
  refine L_y rfl (y_lenS rfl rfl Try.underlying63) rfl ?_
  refine L_y rfl (y_gtr rfl rfl) rfl ?_
  refine L_y rfl (y_pick_f rfl rfl) rfl ?_
  refine L_y rfl (y_move rfl) rfl ?_
  refine L_case 29 rfl (fun hg1_8 => ?_) (fun hg1_8 => ?_)
  · skip
    refine L_skip rfl rfl ?_
    refine L_skip rfl rfl ?_
    refine L_skip rfl rfl ?_
    refine L_y rfl (y_pick_t rfl rfl) rfl ?_
    refine L_nil ?_
    refine C_cond_t rfl ?_
    refine C_seq ?_
    refine C_region ?_
    refine L_op rfl (op_call rfl rfl (fun a w => Try.call13 a w) rfl ?_)
    refine awake10_s.mono ?_
    rintro _ _ ⟨rfl, e⟩
    obtain rfl := e.symm
    clear e
    refine ⟨_, rfl, ?_⟩
    refine L_y rfl (y_assign rfl) rfl ?_
    refine L_nil ?_
    refine C_ret ?_
    refine B_ret (rv_tmp rfl rv_nil) (HSub.refl _) ?_
    rfl
  · have qq := of_decide_eq_false hg1_8
    refine L_y rfl (y_move rfl) rfl ?_
    refine L_y rfl (y_lenS rfl rfl Try.underlying63) rfl ?_
    refine L_y rfl (y_gtr rfl rfl) rfl ?_
    refine L_y rfl (y_pick_f rfl rfl) rfl ?_
    refine L_nil ?_
    refine C_cond rfl (fun hc0 => ?_) (fun hc0 => ?_)
    · replace hc0 := of_decide_eq_true hc0
      refine C_seq ?_
      refine C_region ?_
      refine L_op rfl (op_call rfl rfl (fun a w => Try.call13 a w) rfl ?_)
      refine awake10_s.mono ?_
      rintro _ _ ⟨rfl, e⟩
      obtain rfl := e.symm
      clear e
      refine ⟨_, rfl, ?_⟩
      refine L_y rfl (y_assign rfl) rfl ?_
      refine L_nil ?_
      refine C_ret ?_
      refine B_ret (rv_tmp rfl rv_nil) (HSub.refl _) ?_
      rfl
    · replace hc0 := of_decide_eq_false hc0
      refine C_skip ?_
      refine C_seq ?_
      refine C_region ?_
      refine L_op rfl (op_call rfl rfl (fun a w => Try.call29 a w) rfl ?_)
      refine newpower_l.mono ?_
      rintro _ _ ⟨p1, hpk1, hdv1, hP1, rfl, rfl⟩
      refine ⟨_, rfl, ?_⟩
      refine L_y rfl (y_assign rfl) rfl ?_
      refine L_nil ?_
      refine C_seq ?_
      refine C_region ?_
      refine L_y rfl (y_move rfl) rfl ?_
      refine L_y rfl (y_lenS rfl rfl Try.underlying63) rfl ?_
      refine L_y rfl (y_move rfl) rfl ?_
      refine L_op rfl (op_call rfl rfl (fun a w => Try.call30 a w) rfl ?_)
      refine ((new_l (H := (H)) (rfl : p1.b = _) hpk1 hdv1 ((dd.length : Nat) : Int)).sub (hsub_pick [0, 0] rfl)).mono ?_
      rintro _ _ ⟨d91, p91, hG91, pb91, ha91, hq91, rfl, rfl⟩
      have hA91 : d91.a = Ab.new dd.length := by rw [ha91] <;> (rw [show szOf ((dd.length : Nat) : Int) = dd.length from by unfold szOf; omega])
      have hP91 : p91.a = _ := hq91.trans hP1
      have hb91 : d91.b = d91.b := rfl
      refine ⟨_, rfl, ?_⟩
      refine L_y rfl (y_move rfl) rfl ?_
      refine L_y rfl (y_lenS rfl rfl Try.underlying63) rfl ?_
      refine L_y rfl (y_move rfl) rfl ?_
      refine L_op rfl (op_call rfl rfl (fun a w => Try.call30 a w) rfl ?_)
      refine ((newtwo_d hG91 pb91 rfl ((dd.length : Nat) : Int)).sub (hsub_pick [0, 0, 0, 0, 0] rfl)).mono ?_
      rintro _ _ ⟨by81, D81, h81, rfl, rfl⟩
      replace h81 := h81.to (B := ⟨Ab.new dd.length, Ab.new dd.length, q0, none⟩) (by rw [hA91, hP91] <;> (rw [show szOf ((dd.length : Nat) : Int) = dd.length from by unfold szOf; omega]))
      have hv1 : Vw ⟨Ab.new dd.length, Ab.new dd.length, q0, none⟩ dd.length (List.replicate dd.length (secOf 0)) (List.replicate dd.length (secOf 0)) 0 0 := Vw.new (by omega) none (.inl rfl)
      refine ⟨_, rfl, ?_⟩
      refine L_y rfl (y_assign rfl) rfl ?_
      refine L_y rfl (y_assign rfl) rfl ?_
      refine L_nil ?_
      refine C_seq ?_
      refine C_region ?_
      refine L_y rfl (y_move rfl) rfl ?_
      refine L_y rfl (y_move rfl) rfl ?_
      refine L_op rfl (op_call rfl rfl (fun a w => Try.call31 a w) rfl ?_)
      refine (FnS.sub (hsub_pick [0] rfl) (new_v (f := 32) (cap := []) h81 hv1 (fun s hs => by rw [List.eq_of_mem_replicate hs]; exact secOf_len _) (fun s hs => by rw [List.eq_of_mem_replicate hs]; exact secOf_len _))).mono ?_
      rintro _ _ ⟨mb2, m2, hS2, rfl, rfl⟩
      refine ⟨_, rfl, ?_⟩
      refine L_y rfl (y_assign rfl) rfl ?_
      refine L_nil ?_
      refine C_seq ?_
      refine C_seq ?_
      refine C_region ?_
      refine L_y rfl (y_move rfl) rfl ?_
      refine L_y rfl (y_lenS rfl rfl Try.underlying63) rfl ?_
      refine L_y rfl (y_move rfl) rfl ?_
      refine L_nil ?_
      refine C_block ?_
      refine C_loop (ι := Duo × Da × Nat) (fun i => [(0, .slice pa dd.length ca), (1, .slice pb ats.length cb), (2, .int .u8 (c.toNat : Int)), (3, .bool true), (10, ptr d91.b), (11, ptr by81), (12, ptr mb2), (48, .int .i64 ((dd.length : Nat) : Int)), (49, .int .i64 (i.2.2 : Int))]) (fun i => m2.seg 109 :: i.1.seg dt :: H) (fun i => Ms dt (.func (.func 32) #[] ([] : List Value).toArray) i.1 i.2.1 m2 dd.length (wS dd i.2.2) (wS dd i.2.2) i.2.2 i.2.2 mb2 d91.b by81 p1.b ∧ i.2.2 ≤ dd.length) (fun i => dd.length - i.2.2) (_, _, 0) ⟨by rw [wS_0]; exact hS2, Nat.zero_le _⟩ ⟨rfl, rfl, rfl, rfl, rfl, rfl, rfl, rfl, rfl, trivial⟩ ((hsub (.cons_cons _ (.cons_cons _ (.refl _)))).trans (hsub_pick [0, 0] rfl)) (fun i hi => ?_)
      obtain ⟨D, A, k⟩ := i
      obtain ⟨hS, hk⟩ := hi
      simp only at hS hk
      dsimp only
      refine C_seq ?_
      refine C_region ?_
      refine L_y rfl (y_lss rfl rfl) rfl ?_
      refine L_nil ?_
      refine C_seq ?_
      refine C_cond rfl (fun hc1 => ?_) (fun hc1 => ?_)
      · replace hc1 : k < dd.length := by have := of_decide_eq_true hc1; omega
        obtain ⟨b1, o1, l1, T1, fr1, rfl, hs1, hle1, hv1⟩ := hA (by rw [bs_length]; omega)
        rw [bs_length] at hle1 hv1
        refine C_skip ?_
        refine C_seq ?_
        refine C_block ?_
        refine C_seq ?_
        refine C_region ?_
        refine L_y rfl (y_move rfl) rfl ?_
        refine L_y rfl (y_assign rfl) rfl ?_
        refine L_nil ?_
        refine C_seq ?_
        refine C_region ?_
        refine L_y rfl (y_move rfl) rfl ?_
        refine L_y rfl (y_move rfl) rfl ?_
        refine L_y rfl (y_move rfl) rfl ?_
        refine L_y rfl (y_move rfl) rfl ?_
        refine L_y rfl (y_move rfl) rfl ?_
        refine L_y rfl (y_indexS rfl rfl Try.underlying63 sz_5 (by omega) (by omega) (show _ = o1 + k * 1 from by simp)) rfl ?_
        refine L_y rfl (y_load rfl ag_5 (hs1.up.up) (byte_at hv1 hc1)) rfl ?_
        refine L_op rfl (op_call rfl rfl (fun a w => Try.call33 a w) rfl ?_)
        refine (seal_s (k : Int) (dd.getD k 0)).mono ?_
        rintro _ _ ⟨rfl, e⟩
        obtain rfl := e.symm
        clear e
        refine ⟨_, rfl, ?_⟩
        refine L_op rfl (op_call rfl rfl (fun a w => Try.call27 a w) rfl ?_)
        refine (FnS.sub (hsub_pick [0, 0] rfl) (write_v hS (n := k) (s := (sealL (k : Int) (dd.getD k 0))) hc1 (sealL_len _ _) (by omega) (by omega))).mono ?_
        rintro _ _ ⟨rfl, D3, A3, hS3, rfl⟩
        refine ⟨_, rfl, ?_⟩
        refine L_y rfl (y_nei rfl rfl) rfl ?_
        refine L_nil ?_
        refine C_cond rfl (fun hc2 => absurd hc2 (by simp)) (fun hc2 => ?_)
        refine C_skip ?_
        refine C_region ?_
        refine L_y rfl (y_add rfl rfl (wi64 (by omega) (by omega))) rfl ?_
        refine L_y rfl (y_move rfl) rfl ?_
        refine L_nil ?_
        exact ⟨(D3, A3, k + 1), ⟨by have := hS3; rw [wS_set (by omega)] at this; exact this, by simp only; omega⟩, by simp only; omega, ⟨rfl, rfl, rfl, rfl, rfl, rfl, rfl, rfl, rfl, trivial⟩, ((hsub (.cons_cons _ (.cons_cons _ (.refl _)))).trans (hsub_pick [0, 0] rfl))⟩
      · replace hc1 := of_decide_eq_false hc1
        refine C_exit ?_
        refine C_seq ?_
        obtain rfl : k = dd.length := by omega
        refine C_region ?_
        refine L_y rfl (y_move rfl) rfl ?_
        refine L_op rfl (op_call rfl rfl (fun a w => Try.call34 a w) rfl ?_)
        refine (FnS.sub (hsub_pick [0, 0] rfl) (flush_v hS)).mono ?_
        rintro _ _ ⟨rfl, D4, A4, hS4, rfl⟩
        refine ⟨_, rfl, ?_⟩
        refine L_nil ?_
        refine C_seq ?_
        refine C_region ?_
        refine L_y rfl (y_move rfl) rfl ?_
        refine L_y rfl (y_assign rfl) rfl ?_
        refine L_nil ?_
        refine C_seq ?_
        refine C_seq ?_
        refine C_region ?_
        refine L_y rfl (y_move rfl) rfl ?_
        refine L_nil ?_
        refine C_cond_t rfl ?_
        refine C_region ?_
        refine L_y rfl (y_move rfl) rfl ?_
        refine L_y rfl (y_assign rfl) rfl ?_
        refine L_nil ?_
        refine C_seq ?_
        refine C_region ?_
        refine L_op rfl (op_makeMap rfl (fun B1 => ?_))
        refine L_y rfl (y_assign rfl) rfl ?_
        refine L_nil ?_
        refine C_seq ?_
        refine C_seq ?_
        refine C_region ?_
        refine L_y rfl (y_assign rfl) rfl ?_
        refine L_nil ?_
        refine C_block ?_
        refine C_loop (ι := Duo × Da × List Sec × List (Int × Nat) × Nat × Nat) (fun i => [(0, .slice pa dd.length ca), (1, .slice pb ats.length cb), (2, .int .u8 (c.toNat : Int)), (12, ptr mb2), (14, ptr d91.b), (15, .map (some B1)), (16, .int .i64 (i.2.2.2.2.2 : Int))]) (fun i => m2.seg 109 :: i.1.seg dt :: [(B1, mapO i.2.2.2.1 i.2.2.2.2.1)] :: H) (fun i => Ms dt (.func (.func 32) #[] ([] : List Value).toArray) i.1 i.2.1 m2 dd.length i.2.2.1 (allS dd) 0 0 mb2 d91.b by81 p1.b ∧ Rotten dd c i.2.2.2.1 i.2.2.1 ∧ i.2.2.2.2.2 ≤ ats.length) (fun i => ats.length - i.2.2.2.2.2) (_, _, allS dd, [], 0, 0) ⟨hS4, Rotten.nil dd c, Nat.zero_le _⟩ ⟨rfl, rfl, rfl, rfl, rfl, rfl, rfl, trivial⟩ ((hsub (.cons_cons _ (.cons_cons _ (.cons_cons _ (.refl _))))).trans (hsub_pick [1, 1, 0] rfl)) (fun i hi => ?_)
        obtain ⟨D, A, R, ks, ck, i⟩ := i
        obtain ⟨hS, hR, hi⟩ := hi
        simp only at hS hR hi
        dsimp only
        refine C_seq ?_
        refine C_seq ?_
        refine C_region ?_
        refine L_y rfl (y_move rfl) rfl ?_
        refine L_y rfl (y_move rfl) rfl ?_
        refine L_y rfl (y_lenS rfl rfl Try.underlying63) rfl ?_
        refine L_y rfl (y_lss rfl rfl) rfl ?_
        refine L_y rfl (y_move rfl) rfl ?_
        refine L_case 73 rfl (fun hg18_5 => ?_) (fun hg18_5 => ?_)
        · have hi2 : i < ats.length := by have := of_decide_eq_true hg18_5; omega
          obtain ⟨b2, o2, l2, T2, fr2, rfl, hs2, hle2, hv2⟩ := hB (by rw [bs_length]; omega)
          rw [bs_length] at hle2 hv2
          refine L_y rfl (y_move rfl) rfl ?_
          refine L_y rfl (y_lenS rfl rfl Try.underlying63) rfl ?_
          refine L_y rfl (y_gtr rfl rfl) rfl ?_
          refine L_y rfl (y_pick_t rfl rfl) rfl ?_
          refine L_nil ?_
          refine C_cond rfl (fun hc4 => ?_) (fun hc4 => ?_)
          · replace hc4 : 0 < dd.length := by have := of_decide_eq_true hc4; omega
            obtain ⟨n, hne⟩ : ∃ n, (ats.getD i 0).toNat % dd.length = n := ⟨_, rfl⟩
            have hn : n < dd.length := by rw [← hne]; exact Nat.mod_lt _ hc4
            have hb := (ats.getD i 0).toNat_lt
            refine C_skip ?_
            refine C_seq ?_
            refine C_block ?_
            refine C_seq ?_
            refine C_region ?_
            refine L_y rfl (y_move rfl) rfl ?_
            refine L_y rfl (y_move rfl) rfl ?_
            refine L_y rfl (y_indexS rfl rfl Try.underlying63 sz_5 (by omega) (by omega) (show _ = o2 + i * 1 from by simp)) rfl ?_
            refine L_y rfl (y_load rfl ag_5 (hs2.up.up.up) (byte_at hv2 hi2)) rfl ?_
            refine L_y rfl (y_conv rfl us_5 Try.underlying3 (wi64 (by omega) (by omega))) rfl ?_
            refine L_y rfl (y_move rfl) rfl ?_
            refine L_y rfl (y_lenS rfl rfl Try.underlying63) rfl ?_
            refine L_y rfl (y_rem rfl rfl (by omega) (show _ = ((n : Nat) : Int) from by rw [← hne]; rfl)) rfl ?_
            refine L_y rfl (y_assign rfl) rfl ?_
            refine L_nil ?_
            refine C_seq ?_
            refine C_region ?_
            refine L_y rfl (y_move rfl) rfl ?_
            refine L_y rfl (y_nei rfl rfl) rfl ?_
            refine L_y rfl (y_move rfl) rfl ?_
            refine L_case 90 rfl (fun hg21_3 => ?_) (fun hg21_3 => ?_)
            · have hc : c ≠ 0 := by intro e; subst e; simp at hg21_3
              refine L_y rfl (y_move rfl) rfl ?_
              refine L_y rfl (y_move rfl) rfl ?_
              refine L_y rfl (y_lookup rfl rfl Try.underlying70 Try.underlying3 zt_4 (sees 2 0 rfl)) rfl ?_
              refine L_y rfl (y_not rfl) rfl ?_
              refine L_y rfl (y_pick_t rfl rfl) rfl ?_
              refine L_nil ?_
              refine C_cond rfl (fun hc5 => ?_) (fun hc5 => ?_)
              · have hk' : kHas ks (n : Int) = false := by simpa using hc5
                refine C_seq ?_
                refine C_region ?_
                refine L_y rfl (y_move rfl) rfl ?_
                refine L_y rfl (y_move rfl) rfl ?_
                refine L_y rfl (y_move rfl) rfl ?_
                refine L_y rfl (y_rem rfl rfl (by decide) (show _ = ((i % 128 : Nat) : Int) from rfl)) rfl ?_
                refine L_y rfl (y_move rfl) rfl ?_
                refine L_op rfl (op_call rfl rfl (fun a w => Try.call35 a w) rfl ?_)
                refine (FnS.sub (hsub_pick [1] rfl) (rotg_v hS false (n := n) (j := (i % 128)) (c := c) (s := sealL (n : Int) (dd.getD n 0)) (hR.same n hn hk') (by omega))).mono ?_
                rintro _ _ ⟨rfl, D5, A5, hS5, rfl⟩
                simp only [Bool.false_eq_true, if_false, if_true] at hS5
                refine ⟨_, rfl, ?_⟩
                refine L_nil ?_
                refine C_region ?_
                refine L_y rfl (y_move rfl) rfl ?_
                refine L_y rfl (y_move rfl) rfl ?_
                refine L_op rfl (op_mapUpdate 2 0 rfl rfl rfl Try.underlying70 Try.underlying3 rfl rfl ?_)
                refine L_nil ?_
                refine C_region ?_
                refine L_y rfl (y_move rfl) rfl ?_
                refine L_y rfl (y_add rfl rfl (wi64 (by omega) (by omega))) rfl ?_
                refine L_y rfl (y_assign rfl) rfl ?_
                refine L_nil ?_
                exact ⟨(D5, A5, R.set n (rotB (sealL (n : Int) (dd.getD n 0)) (i % 128) c), kPut ks ck (n : Int), kClk ks ck (n : Int), i + 1), ⟨hS5, hR.put hn hk' (by omega) hc, by simp only; omega⟩, by simp only; omega, ⟨rfl, rfl, rfl, rfl, rfl, rfl, rfl, trivial⟩, ((hsub (.cons_cons _ (.cons_cons _ (.cons_cons _ (.refl _))))).trans (hsub_pick [1, 0, 0] rfl))⟩
              · skip
                refine C_skip ?_
                refine C_region ?_
                refine L_y rfl (y_move rfl) rfl ?_
                refine L_y rfl (y_add rfl rfl (wi64 (by omega) (by omega))) rfl ?_
                refine L_y rfl (y_assign rfl) rfl ?_
                refine L_nil ?_
                exact ⟨(D, A, R, ks, ck, i + 1), ⟨hS, hR, by simp only; omega⟩, by simp only; omega, ⟨rfl, rfl, rfl, rfl, rfl, rfl, rfl, trivial⟩, ((hsub (.cons_cons _ (.cons_cons _ (.cons_cons _ (.refl _))))).trans (hsub_pick [0, 0, 0] rfl))⟩
            · skip
              refine L_skip rfl rfl ?_
              refine L_skip rfl rfl ?_
              refine L_skip rfl rfl ?_
              refine L_skip rfl rfl ?_
              refine L_y rfl (y_pick_f rfl rfl) rfl ?_
              refine L_nil ?_
              refine C_cond_f rfl ?_
              refine C_skip ?_
              refine C_region ?_
              refine L_y rfl (y_move rfl) rfl ?_
              refine L_y rfl (y_add rfl rfl (wi64 (by omega) (by omega))) rfl ?_
              refine L_y rfl (y_assign rfl) rfl ?_
              refine L_nil ?_
              exact ⟨(D, A, R, ks, ck, i + 1), ⟨hS, hR, by simp only; omega⟩, by simp only; omega, ⟨rfl, rfl, rfl, rfl, rfl, rfl, rfl, trivial⟩, ((hsub (.cons_cons _ (.cons_cons _ (.cons_cons _ (.refl _))))).trans (hsub_pick [0, 0, 0] rfl))⟩
          · replace hc4 := of_decide_eq_false hc4
            refine C_exit ?_
            refine C_seq ?_
            refine C_region ?_
            refine L_y rfl (y_move rfl) rfl ?_
            refine L_op rfl (op_call rfl rfl (fun a w => Try.call16 a w) rfl ?_)
            have hle := hR.le
            refine (FnS.sub (hsub_pick [0, 0] rfl) (allg_v hS healthy_at (by omega) (by omega) (by omega) (r := ((dd.length : Int) - (ks.length : Int), (ks.length : Int), 0)) (hR.all true))).mono ?_
            rintro _ _ ⟨rfl, D6, A6, m6, hS6, rfl⟩
            refine ⟨_, rfl, ?_⟩
            refine L_op rfl (op_alloc zl_32 rfl (fun B2 => ?_))
            refine L_op rfl (op_store (vs := [.int .i64 ((dd.length : Int) - (ks.length : Int)), .int .i64 (ks.length : Int), .int .i64 0]) 0 0 rfl rfl rfl sz_32 rfl rfl (ones rfl) (Nat.le_of_ble_eq_true rfl) ?_)
            refine L_nil ?_
            refine C_seq ?_
            refine C_seq ?_
            refine C_region ?_
            refine L_y rfl (y_fieldAddr rfl fl_32_2) rfl ?_
            refine L_y rfl (y_load rfl ag_3 (sees 0 0 rfl) rfl) rfl ?_
            refine L_y rfl (y_nei rfl rfl) rfl ?_
            refine L_y rfl (y_move rfl) rfl ?_
            refine L_case 109 rfl (fun hg25_4 => ?_) (fun hg25_4 => ?_)
            · exact absurd hg25_4 (by simp)
            · skip
              refine L_y rfl (y_fieldAddr rfl fl_32_1) rfl ?_
              refine L_y rfl (y_load rfl ag_3 (sees 0 0 rfl) rfl) rfl ?_
              refine L_y rfl (y_move rfl) rfl ?_
              refine L_y rfl (y_lenM rfl rfl Try.underlying70 (sees 3 0 rfl)) rfl ?_
              refine L_y rfl (y_nei rfl rfl) rfl ?_
              refine L_y rfl (y_pick_f rfl rfl) rfl ?_
              refine L_y rfl (y_move rfl) rfl ?_
              refine L_case 116 rfl (fun hg25_11 => ?_) (fun hg25_11 => ?_)
              · exact absurd hg25_11 (by simp)
              · skip
                refine L_y rfl (y_fieldAddr rfl fl_32_0) rfl ?_
                refine L_y rfl (y_load rfl ag_3 (sees 0 0 rfl) rfl) rfl ?_
                refine L_y rfl (y_move rfl) rfl ?_
                refine L_y rfl (y_lenS rfl rfl Try.underlying63) rfl ?_
                refine L_y rfl (y_move rfl) rfl ?_
                refine L_y rfl (y_lenM rfl rfl Try.underlying70 (sees 3 0 rfl)) rfl ?_
                refine L_y rfl (y_sub rfl rfl (wi64 (by simp; omega) (by simp; omega))) rfl ?_
                refine L_y rfl (y_nei rfl rfl) rfl ?_
                refine L_y rfl (y_pick_f rfl rfl) rfl ?_
                refine L_nil ?_
                refine C_cond rfl (fun hc6 => absurd hc6 (by simp)) (fun hc6 => ?_)
                refine C_skip ?_
                refine C_seq ?_
                refine C_seq ?_
                refine C_region ?_
                refine L_y rfl (y_move rfl) rfl ?_
                refine L_y rfl (y_lenS rfl rfl Try.underlying63) rfl ?_
                refine L_y rfl (y_move rfl) rfl ?_
                refine L_nil ?_
                refine C_block ?_
                refine C_loop (ι := Nat) (fun k => [(0, .slice pa dd.length ca), (14, ptr d91.b), (127, .int .i64 ((dd.length : Nat) : Int)), (128, .int .i64 (k : Int))]) (fun k => D6.seg dt :: H) (fun k => k ≤ dd.length) (fun k => dd.length - k) 0 (Nat.zero_le _) ⟨rfl, rfl, rfl, rfl, trivial⟩ ((hsub (.cons_cons _ (.cons _ (.cons _ (.cons _ (.refl _)))))).trans (hsub_pick [2] rfl)) (fun k hk => ?_)
                skip
                refine C_seq ?_
                refine C_region ?_
                refine L_y rfl (y_lss rfl rfl) rfl ?_
                refine L_nil ?_
                refine C_seq ?_
                refine C_cond rfl (fun hc7 => ?_) (fun hc7 => ?_)
                · replace hc7 : k < dd.length := by have := of_decide_eq_true hc7; omega
                  obtain ⟨b1, o1, l1, T1, fr1, rfl, hs1, hle1, hv1⟩ := hA (by rw [bs_length]; omega)
                  rw [bs_length] at hle1 hv1
                  refine C_skip ?_
                  refine C_seq ?_
                  refine C_block ?_
                  refine C_seq ?_
                  refine C_region ?_
                  refine L_y rfl (y_move rfl) rfl ?_
                  refine L_y rfl (y_assign rfl) rfl ?_
                  refine L_nil ?_
                  refine C_seq ?_
                  refine C_region ?_
                  refine L_y rfl (y_move rfl) rfl ?_
                  refine L_y rfl (y_move rfl) rfl ?_
                  refine L_op rfl (op_call rfl rfl (fun a w => Try.call19 a w) rfl ?_)
                  refine (FnS.sub (hsub_pick [0] rfl) (dreadg_v hS6 false (n := k) (s := sealL (k : Int) (dd.getD k 0)) (hR.end true hc7))).mono ?_
                  rintro _ _ ⟨rfl, rfl⟩
                  refine ⟨_, rfl, ?_⟩
                  refine L_y rfl (y_move rfl) rfl ?_
                  refine L_y rfl (y_extract rfl rfl) rfl ?_
                  refine L_y rfl (y_extract rfl rfl) rfl ?_
                  refine L_op rfl (op_alloc zl_37 rfl (fun B3 => ?_))
                  refine L_op rfl (op_storeA 0 0 rfl rfl rfl sz_37 (by rw [bs_length, sealL_len _ _]) rfl (bs_one _) (by simp) ?_)
                  refine L_y rfl (y_assign rfl) rfl ?_
                  refine L_nil ?_
                  refine C_seq ?_
                  refine C_regionH0 (by kernel_rfl) ?_
                  refine H_y 0 rfl (by kernel_rfl) (by kernel_rfl) (by kernel_rfl) (HSub.refl _) rfl (y_move rfl) rfl ?_
                  refine H_y 1 rfl (by kernel_rfl) (by kernel_rfl) (by kernel_rfl) (HSub.refl _) rfl (y_nei rfl rfl) rfl ?_
                  refine H_y 2 rfl (by kernel_rfl) (by kernel_rfl) (by kernel_rfl) (HSub.refl _) rfl (y_move rfl) rfl ?_
                  refine H_case 139 rfl (fun hg31_3 => ?_) (fun hg31_3 => ?_)
                  · exact absurd hg31_3 (by simp)
                  · skip
                    refine H_y 3 rfl (by kernel_rfl) (by kernel_rfl) (by kernel_rfl) (HSub.refl _) rfl (y_loadA rfl ag_37 sz_37 (sees 0 0 rfl) (by rw [bs_length, sealL_len _ _]; decide) (bs_whole0 _ (sealL_len _ _))) rfl ?_
                    refine H_y 4 rfl (by kernel_rfl) (by kernel_rfl) (by kernel_rfl) (HSub.refl _) rfl (y_move rfl) rfl ?_
                    refine H_y 5 rfl (by kernel_rfl) (by kernel_rfl) (by kernel_rfl) (HSub.refl _) rfl (y_move rfl) rfl ?_
                    refine H_y 6 rfl (by kernel_rfl) (by kernel_rfl) (by kernel_rfl) (HSub.refl _) rfl (y_move rfl) rfl ?_
                    refine H_y 7 rfl (by kernel_rfl) (by kernel_rfl) (by kernel_rfl) (HSub.refl _) rfl (y_indexS rfl rfl Try.underlying63 sz_5 (by omega) (by omega) (show _ = o1 + k * 1 from by simp)) rfl ?_
                    refine H_y 8 rfl (by kernel_rfl) (by kernel_rfl) (by kernel_rfl) (HSub.refl _) rfl (y_load rfl ag_5 (hs1.up.up) (byte_at hv1 hc7)) rfl ?_
                    refine H_one 9 rfl (by kernel_rfl) rfl (op_call rfl rfl (fun a w => Try.call33 a w) rfl ?_)
                    refine (seal_s (k : Int) (dd.getD k 0)).mono ?_
                    rintro _ _ ⟨rfl, e⟩
                    obtain rfl := e.symm
                    clear e
                    refine ⟨_, rfl, ?_⟩
                    refine ⟨HSub.refl _, ?_⟩
                    refine H_y 10 rfl (by kernel_rfl) (by kernel_rfl) (by kernel_rfl) (HSub.refl _) rfl (y_nea rfl rfl Try.underlying37 Try.underlying5 sz_5 eg_37 (sealL_len _ _) (sealL_len _ _)) rfl ?_
                    refine H_y 11 rfl (by kernel_rfl) (by kernel_rfl) (by kernel_rfl) (HSub.refl _) rfl (y_pick_f rfl rfl) rfl ?_
                    refine H_done (by kernel_rfl) ?_
                    refine C_cond rfl (fun hc8 => absurd hc8 (by simp)) (fun hc8 => ?_)
                    refine C_skip ?_
                    refine C_region ?_
                    refine L_y rfl (y_add rfl rfl (wi64 (by omega) (by omega))) rfl ?_
                    refine L_y rfl (y_move rfl) rfl ?_
                    refine L_nil ?_
                    exact ⟨k + 1, by omega, by omega, ⟨rfl, rfl, rfl, rfl, trivial⟩, ((hsub (.cons_cons _ (.cons _ (.refl _)))).trans (hsub_pick [1] rfl))⟩
                · replace hc7 := of_decide_eq_false hc7
                  refine C_exit ?_
                  refine C_seq ?_
                  refine C_region ?_
                  refine L_y rfl (y_assign rfl) rfl ?_
                  refine L_nil ?_
                  refine C_ret ?_
                  refine B_ret (rv_tmp rfl rv_nil) (HSub.refl _) ?_
                  rfl
        · skip
          refine L_skip rfl rfl ?_
          refine L_skip rfl rfl ?_
          refine L_skip rfl rfl ?_
          refine L_y rfl (y_pick_f rfl rfl) rfl ?_
          refine L_nil ?_
          refine C_cond_f rfl ?_
          refine C_exit ?_
          refine C_seq ?_
          refine C_region ?_
          refine L_y rfl (y_move rfl) rfl ?_
          refine L_op rfl (op_call rfl rfl (fun a w => Try.call16 a w) rfl ?_)
          have hle := hR.le
          refine (FnS.sub (hsub_pick [0, 0] rfl) (allg_v hS healthy_at (by omega) (by omega) (by omega) (r := ((dd.length : Int) - (ks.length : Int), (ks.length : Int), 0)) (hR.all true))).mono ?_
          rintro _ _ ⟨rfl, D7, A7, m7, hS7, rfl⟩
          refine ⟨_, rfl, ?_⟩
          refine L_op rfl (op_alloc zl_32 rfl (fun B4 => ?_))
          refine L_op rfl (op_store (vs := [.int .i64 ((dd.length : Int) - (ks.length : Int)), .int .i64 (ks.length : Int), .int .i64 0]) 0 0 rfl rfl rfl sz_32 rfl rfl (ones rfl) (Nat.le_of_ble_eq_true rfl) ?_)
          refine L_nil ?_
          refine C_seq ?_
          refine C_seq ?_
          refine C_region ?_
          refine L_y rfl (y_fieldAddr rfl fl_32_2) rfl ?_
          refine L_y rfl (y_load rfl ag_3 (sees 0 0 rfl) rfl) rfl ?_
          refine L_y rfl (y_nei rfl rfl) rfl ?_
          refine L_y rfl (y_move rfl) rfl ?_
          refine L_case 109 rfl (fun hg25_4 => ?_) (fun hg25_4 => ?_)
          · exact absurd hg25_4 (by simp)
          · skip
            refine L_y rfl (y_fieldAddr rfl fl_32_1) rfl ?_
            refine L_y rfl (y_load rfl ag_3 (sees 0 0 rfl) rfl) rfl ?_
            refine L_y rfl (y_move rfl) rfl ?_
            refine L_y rfl (y_lenM rfl rfl Try.underlying70 (sees 3 0 rfl)) rfl ?_
            refine L_y rfl (y_nei rfl rfl) rfl ?_
            refine L_y rfl (y_pick_f rfl rfl) rfl ?_
            refine L_y rfl (y_move rfl) rfl ?_
            refine L_case 116 rfl (fun hg25_11 => ?_) (fun hg25_11 => ?_)
            · exact absurd hg25_11 (by simp)
            · skip
              refine L_y rfl (y_fieldAddr rfl fl_32_0) rfl ?_
              refine L_y rfl (y_load rfl ag_3 (sees 0 0 rfl) rfl) rfl ?_
              refine L_y rfl (y_move rfl) rfl ?_
              refine L_y rfl (y_lenS rfl rfl Try.underlying63) rfl ?_
              refine L_y rfl (y_move rfl) rfl ?_
              refine L_y rfl (y_lenM rfl rfl Try.underlying70 (sees 3 0 rfl)) rfl ?_
              refine L_y rfl (y_sub rfl rfl (wi64 (by simp; omega) (by simp; omega))) rfl ?_
              refine L_y rfl (y_nei rfl rfl) rfl ?_
              refine L_y rfl (y_pick_f rfl rfl) rfl ?_
              refine L_nil ?_
              refine C_cond rfl (fun hc6 => absurd hc6 (by simp)) (fun hc6 => ?_)
              refine C_skip ?_
              refine C_seq ?_
              refine C_seq ?_
              refine C_region ?_
              refine L_y rfl (y_move rfl) rfl ?_
              refine L_y rfl (y_lenS rfl rfl Try.underlying63) rfl ?_
              refine L_y rfl (y_move rfl) rfl ?_
              refine L_nil ?_
              refine C_block ?_
              refine C_loop (ι := Nat) (fun k => [(0, .slice pa dd.length ca), (14, ptr d91.b), (127, .int .i64 ((dd.length : Nat) : Int)), (128, .int .i64 (k : Int))]) (fun k => D7.seg dt :: H) (fun k => k ≤ dd.length) (fun k => dd.length - k) 0 (Nat.zero_le _) ⟨rfl, rfl, rfl, rfl, trivial⟩ ((hsub (.cons_cons _ (.cons _ (.cons _ (.cons _ (.refl _)))))).trans (hsub_pick [2] rfl)) (fun k hk => ?_)
              skip
              refine C_seq ?_
              refine C_region ?_
              refine L_y rfl (y_lss rfl rfl) rfl ?_
              refine L_nil ?_
              refine C_seq ?_
              refine C_cond rfl (fun hc7 => ?_) (fun hc7 => ?_)
              · replace hc7 : k < dd.length := by have := of_decide_eq_true hc7; omega
                obtain ⟨b1, o1, l1, T1, fr1, rfl, hs1, hle1, hv1⟩ := hA (by rw [bs_length]; omega)
                rw [bs_length] at hle1 hv1
                refine C_skip ?_
                refine C_seq ?_
                refine C_block ?_
                refine C_seq ?_
                refine C_region ?_
                refine L_y rfl (y_move rfl) rfl ?_
                refine L_y rfl (y_assign rfl) rfl ?_
                refine L_nil ?_
                refine C_seq ?_
                refine C_region ?_
                refine L_y rfl (y_move rfl) rfl ?_
                refine L_y rfl (y_move rfl) rfl ?_
                refine L_op rfl (op_call rfl rfl (fun a w => Try.call19 a w) rfl ?_)
                refine (FnS.sub (hsub_pick [0] rfl) (dreadg_v hS7 false (n := k) (s := sealL (k : Int) (dd.getD k 0)) (hR.end true hc7))).mono ?_
                rintro _ _ ⟨rfl, rfl⟩
                refine ⟨_, rfl, ?_⟩
                refine L_y rfl (y_move rfl) rfl ?_
                refine L_y rfl (y_extract rfl rfl) rfl ?_
                refine L_y rfl (y_extract rfl rfl) rfl ?_
                refine L_op rfl (op_alloc zl_37 rfl (fun B5 => ?_))
                refine L_op rfl (op_storeA 0 0 rfl rfl rfl sz_37 (by rw [bs_length, sealL_len _ _]) rfl (bs_one _) (by simp) ?_)
                refine L_y rfl (y_assign rfl) rfl ?_
                refine L_nil ?_
                refine C_seq ?_
                refine C_regionH0 (by kernel_rfl) ?_
                refine H_y 0 rfl (by kernel_rfl) (by kernel_rfl) (by kernel_rfl) (HSub.refl _) rfl (y_move rfl) rfl ?_
                refine H_y 1 rfl (by kernel_rfl) (by kernel_rfl) (by kernel_rfl) (HSub.refl _) rfl (y_nei rfl rfl) rfl ?_
                refine H_y 2 rfl (by kernel_rfl) (by kernel_rfl) (by kernel_rfl) (HSub.refl _) rfl (y_move rfl) rfl ?_
                refine H_case 139 rfl (fun hg31_3 => ?_) (fun hg31_3 => ?_)
                · exact absurd hg31_3 (by simp)
                · skip
                  refine H_y 3 rfl (by kernel_rfl) (by kernel_rfl) (by kernel_rfl) (HSub.refl _) rfl (y_loadA rfl ag_37 sz_37 (sees 0 0 rfl) (by rw [bs_length, sealL_len _ _]; decide) (bs_whole0 _ (sealL_len _ _))) rfl ?_
                  refine H_y 4 rfl (by kernel_rfl) (by kernel_rfl) (by kernel_rfl) (HSub.refl _) rfl (y_move rfl) rfl ?_
                  refine H_y 5 rfl (by kernel_rfl) (by kernel_rfl) (by kernel_rfl) (HSub.refl _) rfl (y_move rfl) rfl ?_
                  refine H_y 6 rfl (by kernel_rfl) (by kernel_rfl) (by kernel_rfl) (HSub.refl _) rfl (y_move rfl) rfl ?_
                  refine H_y 7 rfl (by kernel_rfl) (by kernel_rfl) (by kernel_rfl) (HSub.refl _) rfl (y_indexS rfl rfl Try.underlying63 sz_5 (by omega) (by omega) (show _ = o1 + k * 1 from by simp)) rfl ?_
                  refine H_y 8 rfl (by kernel_rfl) (by kernel_rfl) (by kernel_rfl) (HSub.refl _) rfl (y_load rfl ag_5 (hs1.up.up) (byte_at hv1 hc7)) rfl ?_
                  refine H_one 9 rfl (by kernel_rfl) rfl (op_call rfl rfl (fun a w => Try.call33 a w) rfl ?_)
                  refine (seal_s (k : Int) (dd.getD k 0)).mono ?_
                  rintro _ _ ⟨rfl, e⟩
                  obtain rfl := e.symm
                  clear e
                  refine ⟨_, rfl, ?_⟩
                  refine ⟨HSub.refl _, ?_⟩
                  refine H_y 10 rfl (by kernel_rfl) (by kernel_rfl) (by kernel_rfl) (HSub.refl _) rfl (y_nea rfl rfl Try.underlying37 Try.underlying5 sz_5 eg_37 (sealL_len _ _) (sealL_len _ _)) rfl ?_
                  refine H_y 11 rfl (by kernel_rfl) (by kernel_rfl) (by kernel_rfl) (HSub.refl _) rfl (y_pick_f rfl rfl) rfl ?_
                  refine H_done (by kernel_rfl) ?_
                  refine C_cond rfl (fun hc8 => absurd hc8 (by simp)) (fun hc8 => ?_)
                  refine C_skip ?_
                  refine C_region ?_
                  refine L_y rfl (y_add rfl rfl (wi64 (by omega) (by omega))) rfl ?_
                  refine L_y rfl (y_move rfl) rfl ?_
                  refine L_nil ?_
                  exact ⟨k + 1, by omega, by omega, ⟨rfl, rfl, rfl, rfl, trivial⟩, ((hsub (.cons_cons _ (.cons _ (.refl _)))).trans (hsub_pick [1] rfl))⟩
              · replace hc7 := of_decide_eq_false hc7
                refine C_exit ?_
                refine C_seq ?_
                refine C_region ?_
                refine L_y rfl (y_assign rfl) rfl ?_
                refine L_nil ?_
                refine C_ret ?_
                refine B_ret (rv_tmp rfl rv_nil) (HSub.refl _) ?_
                rfl

set_option maxHeartbeats 4000000 in

theorem scrubsealed_f {w0 : World} {H : Hp} {pa pb : Option Addr} {ca cb : Nat} {dd ats : List UInt8} (hA : Holds w0 H pa (bs dd)) (hB : Holds w0 H pb (bs ats)) (c : UInt8) : FnS Try.prog w0 11 #[.slice pa dd.length ca, .slice pb ats.length cb, .int .u8 (c.toNat : Int), .bool false] H (fun e H' => e = .returned (.bool true)) := by
  refine FnS_intro (n := 150) (rs := [.tmp 8]) (vs := [.slice pa dd.length ca, .slice pb ats.length cb, .int .u8 (c.toNat : Int), .bool false]) Try.func11 rfl Try.ntmps11 rfl rfl ?_
  refine C_seq ?_
  refine C_region ?_
  refine L_y rfl (y_assign rfl) rfl ?_
  refine L_nil ?_
  refine C_seq ?_
  refine C_seq ?_
  refine C_region ?_
  refine L_op rfl (op_call rfl rfl (fun a w => Try.call13 a w) rfl ?_)
  refine awake10_s.mono ?_
  rintro _ _ ⟨rfl, e⟩
  obtain rfl := e.symm
  clear e
  refine ⟨_, rfl, ?_⟩
  refine L_y rfl (y_not rfl) rfl ?_
  refine L_y rfl (y_move rfl) rfl ?_
  refine L_y rfl (y_move rfl) rfl ?_
  refine L_y rfl (y_lenS rfl rfl Try.underlying63) rfl ?_
  refine L_y rfl (y_gtr rfl rfl) rfl ?_
  refine L_y rfl (y_pick_f rfl rfl) rfl ?_
  refine L_y rfl (y_move rfl) rfl ?_
  refine L_case 29 rfl (fun hg1_8 => ?_) (fun hg1_8 => ?_)
  · skip
    refine L_skip rfl rfl ?_
    refine L_skip rfl rfl ?_
    refine L_skip rfl rfl ?_
    refine L_y rfl (y_pick_t rfl rfl) rfl ?_
    refine L_nil ?_
    refine C_cond_t rfl ?_
    refine C_seq ?_
    refine C_region ?_
    refine L_op rfl (op_call rfl rfl (fun a w => Try.call13 a w) rfl ?_)
    refine awake10_s.mono ?_
    rintro _ _ ⟨rfl, e⟩
    obtain rfl := e.symm
    clear e
    refine ⟨_, rfl, ?_⟩
    refine L_y rfl (y_assign rfl) rfl ?_
    refine L_nil ?_
    refine C_ret ?_
    refine B_ret (rv_tmp rfl rv_nil) (HSub.refl _) ?_
    rfl
  · have qq := of_decide_eq_false hg1_8
    refine L_y rfl (y_move rfl) rfl ?_
    refine L_y rfl (y_lenS rfl rfl Try.underlying63) rfl ?_
    refine L_y rfl (y_gtr rfl rfl) rfl ?_
    refine L_y rfl (y_pick_f rfl rfl) rfl ?_
    refine L_nil ?_
    refine C_cond rfl (fun hc0 => ?_) (fun hc0 => ?_)
    · replace hc0 := of_decide_eq_true hc0
      refine C_seq ?_
      refine C_region ?_
      refine L_op rfl (op_call rfl rfl (fun a w => Try.call13 a w) rfl ?_)
      refine awake10_s.mono ?_
      rintro _ _ ⟨rfl, e⟩
      obtain rfl := e.symm
      clear e
      refine ⟨_, rfl, ?_⟩
      refine L_y rfl (y_assign rfl) rfl ?_
      refine L_nil ?_
      refine C_ret ?_
      refine B_ret (rv_tmp rfl rv_nil) (HSub.refl _) ?_
      rfl
    · replace hc0 := of_decide_eq_false hc0
      refine C_skip ?_
      refine C_seq ?_
      refine C_region ?_
      refine L_op rfl (op_call rfl rfl (fun a w => Try.call29 a w) rfl ?_)
      refine newpower_l.mono ?_
      rintro _ _ ⟨p1, hpk1, hdv1, hP1, rfl, rfl⟩
      refine ⟨_, rfl, ?_⟩
      refine L_y rfl (y_assign rfl) rfl ?_
      refine L_nil ?_
      refine C_seq ?_
      refine C_region ?_
      refine L_y rfl (y_move rfl) rfl ?_
      refine L_y rfl (y_lenS rfl rfl Try.underlying63) rfl ?_
      refine L_y rfl (y_move rfl) rfl ?_
      refine L_op rfl (op_call rfl rfl (fun a w => Try.call30 a w) rfl ?_)
      refine ((new_l (H := (H)) (rfl : p1.b = _) hpk1 hdv1 ((dd.length : Nat) : Int)).sub (hsub_pick [0, 0] rfl)).mono ?_
      rintro _ _ ⟨d91, p91, hG91, pb91, ha91, hq91, rfl, rfl⟩
      have hA91 : d91.a = Ab.new dd.length := by rw [ha91] <;> (rw [show szOf ((dd.length : Nat) : Int) = dd.length from by unfold szOf; omega])
      have hP91 : p91.a = _ := hq91.trans hP1
      have hb91 : d91.b = d91.b := rfl
      refine ⟨_, rfl, ?_⟩
      refine L_y rfl (y_move rfl) rfl ?_
      refine L_y rfl (y_lenS rfl rfl Try.underlying63) rfl ?_
      refine L_y rfl (y_move rfl) rfl ?_
      refine L_op rfl (op_call rfl rfl (fun a w => Try.call30 a w) rfl ?_)
      refine ((newtwo_d hG91 pb91 rfl ((dd.length : Nat) : Int)).sub (hsub_pick [0, 0, 0, 0, 0] rfl)).mono ?_
      rintro _ _ ⟨by81, D81, h81, rfl, rfl⟩
      replace h81 := h81.to (B := ⟨Ab.new dd.length, Ab.new dd.length, q0, none⟩) (by rw [hA91, hP91] <;> (rw [show szOf ((dd.length : Nat) : Int) = dd.length from by unfold szOf; omega]))
      have hv1 : Vw ⟨Ab.new dd.length, Ab.new dd.length, q0, none⟩ dd.length (List.replicate dd.length (secOf 0)) (List.replicate dd.length (secOf 0)) 0 0 := Vw.new (by omega) none (.inl rfl)
      refine ⟨_, rfl, ?_⟩
      refine L_y rfl (y_assign rfl) rfl ?_
      refine L_y rfl (y_assign rfl) rfl ?_
      refine L_nil ?_
      refine C_seq ?_
      refine C_region ?_
      refine L_y rfl (y_move rfl) rfl ?_
      refine L_y rfl (y_move rfl) rfl ?_
      refine L_op rfl (op_call rfl rfl (fun a w => Try.call31 a w) rfl ?_)
      refine (FnS.sub (hsub_pick [0] rfl) (new_v (f := 32) (cap := []) h81 hv1 (fun s hs => by rw [List.eq_of_mem_replicate hs]; exact secOf_len _) (fun s hs => by rw [List.eq_of_mem_replicate hs]; exact secOf_len _))).mono ?_
      rintro _ _ ⟨mb2, m2, hS2, rfl, rfl⟩
      refine ⟨_, rfl, ?_⟩
      refine L_y rfl (y_assign rfl) rfl ?_
      refine L_nil ?_
      refine C_seq ?_
      refine C_seq ?_
      refine C_region ?_
      refine L_y rfl (y_move rfl) rfl ?_
      refine L_y rfl (y_lenS rfl rfl Try.underlying63) rfl ?_
      refine L_y rfl (y_move rfl) rfl ?_
      refine L_nil ?_
      refine C_block ?_
      refine C_loop (ι := Duo × Da × Nat) (fun i => [(0, .slice pa dd.length ca), (1, .slice pb ats.length cb), (2, .int .u8 (c.toNat : Int)), (3, .bool false), (10, ptr d91.b), (11, ptr by81), (12, ptr mb2), (48, .int .i64 ((dd.length : Nat) : Int)), (49, .int .i64 (i.2.2 : Int))]) (fun i => m2.seg 109 :: i.1.seg dt :: H) (fun i => Ms dt (.func (.func 32) #[] ([] : List Value).toArray) i.1 i.2.1 m2 dd.length (wS dd i.2.2) (wS dd i.2.2) i.2.2 i.2.2 mb2 d91.b by81 p1.b ∧ i.2.2 ≤ dd.length) (fun i => dd.length - i.2.2) (_, _, 0) ⟨by rw [wS_0]; exact hS2, Nat.zero_le _⟩ ⟨rfl, rfl, rfl, rfl, rfl, rfl, rfl, rfl, rfl, trivial⟩ ((hsub (.cons_cons _ (.cons_cons _ (.refl _)))).trans (hsub_pick [0, 0] rfl)) (fun i hi => ?_)
      obtain ⟨D, A, k⟩ := i
      obtain ⟨hS, hk⟩ := hi
      simp only at hS hk
      dsimp only
      refine C_seq ?_
      refine C_region ?_
      refine L_y rfl (y_lss rfl rfl) rfl ?_
      refine L_nil ?_
      refine C_seq ?_
      refine C_cond rfl (fun hc1 => ?_) (fun hc1 => ?_)
      · replace hc1 : k < dd.length := by have := of_decide_eq_true hc1; omega
        obtain ⟨b1, o1, l1, T1, fr1, rfl, hs1, hle1, hv1⟩ := hA (by rw [bs_length]; omega)
        rw [bs_length] at hle1 hv1
        refine C_skip ?_
        refine C_seq ?_
        refine C_block ?_
        refine C_seq ?_
        refine C_region ?_
        refine L_y rfl (y_move rfl) rfl ?_
        refine L_y rfl (y_assign rfl) rfl ?_
        refine L_nil ?_
        refine C_seq ?_
        refine C_region ?_
        refine L_y rfl (y_move rfl) rfl ?_
        refine L_y rfl (y_move rfl) rfl ?_
        refine L_y rfl (y_move rfl) rfl ?_
        refine L_y rfl (y_move rfl) rfl ?_
        refine L_y rfl (y_move rfl) rfl ?_
        refine L_y rfl (y_indexS rfl rfl Try.underlying63 sz_5 (by omega) (by omega) (show _ = o1 + k * 1 from by simp)) rfl ?_
        refine L_y rfl (y_load rfl ag_5 (hs1.up.up) (byte_at hv1 hc1)) rfl ?_
        refine L_op rfl (op_call rfl rfl (fun a w => Try.call33 a w) rfl ?_)
        refine (seal_s (k : Int) (dd.getD k 0)).mono ?_
        rintro _ _ ⟨rfl, e⟩
        obtain rfl := e.symm
        clear e
        refine ⟨_, rfl, ?_⟩
        refine L_op rfl (op_call rfl rfl (fun a w => Try.call27 a w) rfl ?_)
        refine (FnS.sub (hsub_pick [0, 0] rfl) (write_v hS (n := k) (s := (sealL (k : Int) (dd.getD k 0))) hc1 (sealL_len _ _) (by omega) (by omega))).mono ?_
        rintro _ _ ⟨rfl, D3, A3, hS3, rfl⟩
        refine ⟨_, rfl, ?_⟩
        refine L_y rfl (y_nei rfl rfl) rfl ?_
        refine L_nil ?_
        refine C_cond rfl (fun hc2 => absurd hc2 (by simp)) (fun hc2 => ?_)
        refine C_skip ?_
        refine C_region ?_
        refine L_y rfl (y_add rfl rfl (wi64 (by omega) (by omega))) rfl ?_
        refine L_y rfl (y_move rfl) rfl ?_
        refine L_nil ?_
        exact ⟨(D3, A3, k + 1), ⟨by have := hS3; rw [wS_set (by omega)] at this; exact this, by simp only; omega⟩, by simp only; omega, ⟨rfl, rfl, rfl, rfl, rfl, rfl, rfl, rfl, rfl, trivial⟩, ((hsub (.cons_cons _ (.cons_cons _ (.refl _)))).trans (hsub_pick [0, 0] rfl))⟩
      · replace hc1 := of_decide_eq_false hc1
        refine C_exit ?_
        refine C_seq ?_
        obtain rfl : k = dd.length := by omega
        refine C_region ?_
        refine L_y rfl (y_move rfl) rfl ?_
        refine L_op rfl (op_call rfl rfl (fun a w => Try.call34 a w) rfl ?_)
        refine (FnS.sub (hsub_pick [0, 0] rfl) (flush_v hS)).mono ?_
        rintro _ _ ⟨rfl, D4, A4, hS4, rfl⟩
        refine ⟨_, rfl, ?_⟩
        refine L_nil ?_
        refine C_seq ?_
        refine C_region ?_
        refine L_y rfl (y_move rfl) rfl ?_
        refine L_y rfl (y_assign rfl) rfl ?_
        refine L_nil ?_
        refine C_seq ?_
        refine C_seq ?_
        refine C_region ?_
        refine L_y rfl (y_move rfl) rfl ?_
        refine L_nil ?_
        refine C_cond_f rfl ?_
        refine C_skip ?_
        refine C_seq ?_
        refine C_region ?_
        refine L_op rfl (op_makeMap rfl (fun B1 => ?_))
        refine L_y rfl (y_assign rfl) rfl ?_
        refine L_nil ?_
        refine C_seq ?_
        refine C_seq ?_
        refine C_region ?_
        refine L_y rfl (y_assign rfl) rfl ?_
        refine L_nil ?_
        refine C_block ?_
        refine C_loop (ι := Duo × Da × List Sec × List (Int × Nat) × Nat × Nat) (fun i => [(0, .slice pa dd.length ca), (1, .slice pb ats.length cb), (2, .int .u8 (c.toNat : Int)), (12, ptr mb2), (14, ptr by81), (15, .map (some B1)), (16, .int .i64 (i.2.2.2.2.2 : Int))]) (fun i => m2.seg 109 :: i.1.seg dt :: [(B1, mapO i.2.2.2.1 i.2.2.2.2.1)] :: H) (fun i => Ms dt (.func (.func 32) #[] ([] : List Value).toArray) i.1 i.2.1 m2 dd.length (allS dd) i.2.2.1 0 0 mb2 d91.b by81 p1.b ∧ Rotten dd c i.2.2.2.1 i.2.2.1 ∧ i.2.2.2.2.2 ≤ ats.length) (fun i => ats.length - i.2.2.2.2.2) (_, _, allS dd, [], 0, 0) ⟨hS4, Rotten.nil dd c, Nat.zero_le _⟩ ⟨rfl, rfl, rfl, rfl, rfl, rfl, rfl, trivial⟩ ((hsub (.cons_cons _ (.cons_cons _ (.cons_cons _ (.refl _))))).trans (hsub_pick [1, 1, 0] rfl)) (fun i hi => ?_)
        obtain ⟨D, A, R, ks, ck, i⟩ := i
        obtain ⟨hS, hR, hi⟩ := hi
        simp only at hS hR hi
        dsimp only
        refine C_seq ?_
        refine C_seq ?_
        refine C_region ?_
        refine L_y rfl (y_move rfl) rfl ?_
        refine L_y rfl (y_move rfl) rfl ?_
        refine L_y rfl (y_lenS rfl rfl Try.underlying63) rfl ?_
        refine L_y rfl (y_lss rfl rfl) rfl ?_
        refine L_y rfl (y_move rfl) rfl ?_
        refine L_case 73 rfl (fun hg18_5 => ?_) (fun hg18_5 => ?_)
        · have hi2 : i < ats.length := by have := of_decide_eq_true hg18_5; omega
          obtain ⟨b2, o2, l2, T2, fr2, rfl, hs2, hle2, hv2⟩ := hB (by rw [bs_length]; omega)
          rw [bs_length] at hle2 hv2
          refine L_y rfl (y_move rfl) rfl ?_
          refine L_y rfl (y_lenS rfl rfl Try.underlying63) rfl ?_
          refine L_y rfl (y_gtr rfl rfl) rfl ?_
          refine L_y rfl (y_pick_t rfl rfl) rfl ?_
          refine L_nil ?_
          refine C_cond rfl (fun hc4 => ?_) (fun hc4 => ?_)
          · replace hc4 : 0 < dd.length := by have := of_decide_eq_true hc4; omega
            obtain ⟨n, hne⟩ : ∃ n, (ats.getD i 0).toNat % dd.length = n := ⟨_, rfl⟩
            have hn : n < dd.length := by rw [← hne]; exact Nat.mod_lt _ hc4
            have hb := (ats.getD i 0).toNat_lt
            refine C_skip ?_
            refine C_seq ?_
            refine C_block ?_
            refine C_seq ?_
            refine C_region ?_
            refine L_y rfl (y_move rfl) rfl ?_
            refine L_y rfl (y_move rfl) rfl ?_
            refine L_y rfl (y_indexS rfl rfl Try.underlying63 sz_5 (by omega) (by omega) (show _ = o2 + i * 1 from by simp)) rfl ?_
            refine L_y rfl (y_load rfl ag_5 (hs2.up.up.up) (byte_at hv2 hi2)) rfl ?_
            refine L_y rfl (y_conv rfl us_5 Try.underlying3 (wi64 (by omega) (by omega))) rfl ?_
            refine L_y rfl (y_move rfl) rfl ?_
            refine L_y rfl (y_lenS rfl rfl Try.underlying63) rfl ?_
            refine L_y rfl (y_rem rfl rfl (by omega) (show _ = ((n : Nat) : Int) from by rw [← hne]; rfl)) rfl ?_
            refine L_y rfl (y_assign rfl) rfl ?_
            refine L_nil ?_
            refine C_seq ?_
            refine C_region ?_
            refine L_y rfl (y_move rfl) rfl ?_
            refine L_y rfl (y_nei rfl rfl) rfl ?_
            refine L_y rfl (y_move rfl) rfl ?_
            refine L_case 90 rfl (fun hg21_3 => ?_) (fun hg21_3 => ?_)
            · have hc : c ≠ 0 := by intro e; subst e; simp at hg21_3
              refine L_y rfl (y_move rfl) rfl ?_
              refine L_y rfl (y_move rfl) rfl ?_
              refine L_y rfl (y_lookup rfl rfl Try.underlying70 Try.underlying3 zt_4 (sees 2 0 rfl)) rfl ?_
              refine L_y rfl (y_not rfl) rfl ?_
              refine L_y rfl (y_pick_t rfl rfl) rfl ?_
              refine L_nil ?_
              refine C_cond rfl (fun hc5 => ?_) (fun hc5 => ?_)
              · have hk' : kHas ks (n : Int) = false := by simpa using hc5
                refine C_seq ?_
                refine C_region ?_
                refine L_y rfl (y_move rfl) rfl ?_
                refine L_y rfl (y_move rfl) rfl ?_
                refine L_y rfl (y_move rfl) rfl ?_
                refine L_y rfl (y_rem rfl rfl (by decide) (show _ = ((i % 128 : Nat) : Int) from rfl)) rfl ?_
                refine L_y rfl (y_move rfl) rfl ?_
                refine L_op rfl (op_call rfl rfl (fun a w => Try.call35 a w) rfl ?_)
                refine (FnS.sub (hsub_pick [1] rfl) (rotg_v hS true (n := n) (j := (i % 128)) (c := c) (s := sealL (n : Int) (dd.getD n 0)) (hR.same n hn hk') (by omega))).mono ?_
                rintro _ _ ⟨rfl, D5, A5, hS5, rfl⟩
                simp only [Bool.false_eq_true, if_false, if_true] at hS5
                refine ⟨_, rfl, ?_⟩
                refine L_nil ?_
                refine C_region ?_
                refine L_y rfl (y_move rfl) rfl ?_
                refine L_y rfl (y_move rfl) rfl ?_
                refine L_op rfl (op_mapUpdate 2 0 rfl rfl rfl Try.underlying70 Try.underlying3 rfl rfl ?_)
                refine L_nil ?_
                refine C_region ?_
                refine L_y rfl (y_move rfl) rfl ?_
                refine L_y rfl (y_add rfl rfl (wi64 (by omega) (by omega))) rfl ?_
                refine L_y rfl (y_assign rfl) rfl ?_
                refine L_nil ?_
                exact ⟨(D5, A5, R.set n (rotB (sealL (n : Int) (dd.getD n 0)) (i % 128) c), kPut ks ck (n : Int), kClk ks ck (n : Int), i + 1), ⟨hS5, hR.put hn hk' (by omega) hc, by simp only; omega⟩, by simp only; omega, ⟨rfl, rfl, rfl, rfl, rfl, rfl, rfl, trivial⟩, ((hsub (.cons_cons _ (.cons_cons _ (.cons_cons _ (.refl _))))).trans (hsub_pick [1, 0, 0] rfl))⟩
              · skip
                refine C_skip ?_
                refine C_region ?_
                refine L_y rfl (y_move rfl) rfl ?_
                refine L_y rfl (y_add rfl rfl (wi64 (by omega) (by omega))) rfl ?_
                refine L_y rfl (y_assign rfl) rfl ?_
                refine L_nil ?_
                exact ⟨(D, A, R, ks, ck, i + 1), ⟨hS, hR, by simp only; omega⟩, by simp only; omega, ⟨rfl, rfl, rfl, rfl, rfl, rfl, rfl, trivial⟩, ((hsub (.cons_cons _ (.cons_cons _ (.cons_cons _ (.refl _))))).trans (hsub_pick [0, 0, 0] rfl))⟩
            · skip
              refine L_skip rfl rfl ?_
              refine L_skip rfl rfl ?_
              refine L_skip rfl rfl ?_
              refine L_skip rfl rfl ?_
              refine L_y rfl (y_pick_f rfl rfl) rfl ?_
              refine L_nil ?_
              refine C_cond_f rfl ?_
              refine C_skip ?_
              refine C_region ?_
              refine L_y rfl (y_move rfl) rfl ?_
              refine L_y rfl (y_add rfl rfl (wi64 (by omega) (by omega))) rfl ?_
              refine L_y rfl (y_assign rfl) rfl ?_
              refine L_nil ?_
              exact ⟨(D, A, R, ks, ck, i + 1), ⟨hS, hR, by simp only; omega⟩, by simp only; omega, ⟨rfl, rfl, rfl, rfl, rfl, rfl, rfl, trivial⟩, ((hsub (.cons_cons _ (.cons_cons _ (.cons_cons _ (.refl _))))).trans (hsub_pick [0, 0, 0] rfl))⟩
          · replace hc4 := of_decide_eq_false hc4
            refine C_exit ?_
            refine C_seq ?_
            refine C_region ?_
            refine L_y rfl (y_move rfl) rfl ?_
            refine L_op rfl (op_call rfl rfl (fun a w => Try.call16 a w) rfl ?_)
            have hle := hR.le
            refine (FnS.sub (hsub_pick [0, 0] rfl) (allg_v hS healthy_at (by omega) (by omega) (by omega) (r := ((dd.length : Int) - (ks.length : Int), (ks.length : Int), 0)) (hR.all false))).mono ?_
            rintro _ _ ⟨rfl, D6, A6, m6, hS6, rfl⟩
            refine ⟨_, rfl, ?_⟩
            refine L_op rfl (op_alloc zl_32 rfl (fun B2 => ?_))
            refine L_op rfl (op_store (vs := [.int .i64 ((dd.length : Int) - (ks.length : Int)), .int .i64 (ks.length : Int), .int .i64 0]) 0 0 rfl rfl rfl sz_32 rfl rfl (ones rfl) (Nat.le_of_ble_eq_true rfl) ?_)
            refine L_nil ?_
            refine C_seq ?_
            refine C_seq ?_
            refine C_region ?_
            refine L_y rfl (y_fieldAddr rfl fl_32_2) rfl ?_
            refine L_y rfl (y_load rfl ag_3 (sees 0 0 rfl) rfl) rfl ?_
            refine L_y rfl (y_nei rfl rfl) rfl ?_
            refine L_y rfl (y_move rfl) rfl ?_
            refine L_case 109 rfl (fun hg25_4 => ?_) (fun hg25_4 => ?_)
            · exact absurd hg25_4 (by simp)
            · skip
              refine L_y rfl (y_fieldAddr rfl fl_32_1) rfl ?_
              refine L_y rfl (y_load rfl ag_3 (sees 0 0 rfl) rfl) rfl ?_
              refine L_y rfl (y_move rfl) rfl ?_
              refine L_y rfl (y_lenM rfl rfl Try.underlying70 (sees 3 0 rfl)) rfl ?_
              refine L_y rfl (y_nei rfl rfl) rfl ?_
              refine L_y rfl (y_pick_f rfl rfl) rfl ?_
              refine L_y rfl (y_move rfl) rfl ?_
              refine L_case 116 rfl (fun hg25_11 => ?_) (fun hg25_11 => ?_)
              · exact absurd hg25_11 (by simp)
              · skip
                refine L_y rfl (y_fieldAddr rfl fl_32_0) rfl ?_
                refine L_y rfl (y_load rfl ag_3 (sees 0 0 rfl) rfl) rfl ?_
                refine L_y rfl (y_move rfl) rfl ?_
                refine L_y rfl (y_lenS rfl rfl Try.underlying63) rfl ?_
                refine L_y rfl (y_move rfl) rfl ?_
                refine L_y rfl (y_lenM rfl rfl Try.underlying70 (sees 3 0 rfl)) rfl ?_
                refine L_y rfl (y_sub rfl rfl (wi64 (by simp; omega) (by simp; omega))) rfl ?_
                refine L_y rfl (y_nei rfl rfl) rfl ?_
                refine L_y rfl (y_pick_f rfl rfl) rfl ?_
                refine L_nil ?_
                refine C_cond rfl (fun hc6 => absurd hc6 (by simp)) (fun hc6 => ?_)
                refine C_skip ?_
                refine C_seq ?_
                refine C_seq ?_
                refine C_region ?_
                refine L_y rfl (y_move rfl) rfl ?_
                refine L_y rfl (y_lenS rfl rfl Try.underlying63) rfl ?_
                refine L_y rfl (y_move rfl) rfl ?_
                refine L_nil ?_
                refine C_block ?_
                refine C_loop (ι := Nat) (fun k => [(0, .slice pa dd.length ca), (14, ptr by81), (127, .int .i64 ((dd.length : Nat) : Int)), (128, .int .i64 (k : Int))]) (fun k => D6.seg dt :: H) (fun k => k ≤ dd.length) (fun k => dd.length - k) 0 (Nat.zero_le _) ⟨rfl, rfl, rfl, rfl, trivial⟩ ((hsub (.cons_cons _ (.cons _ (.cons _ (.cons _ (.refl _)))))).trans (hsub_pick [2] rfl)) (fun k hk => ?_)
                skip
                refine C_seq ?_
                refine C_region ?_
                refine L_y rfl (y_lss rfl rfl) rfl ?_
                refine L_nil ?_
                refine C_seq ?_
                refine C_cond rfl (fun hc7 => ?_) (fun hc7 => ?_)
                · replace hc7 : k < dd.length := by have := of_decide_eq_true hc7; omega
                  obtain ⟨b1, o1, l1, T1, fr1, rfl, hs1, hle1, hv1⟩ := hA (by rw [bs_length]; omega)
                  rw [bs_length] at hle1 hv1
                  refine C_skip ?_
                  refine C_seq ?_
                  refine C_block ?_
                  refine C_seq ?_
                  refine C_region ?_
                  refine L_y rfl (y_move rfl) rfl ?_
                  refine L_y rfl (y_assign rfl) rfl ?_
                  refine L_nil ?_
                  refine C_seq ?_
                  refine C_region ?_
                  refine L_y rfl (y_move rfl) rfl ?_
                  refine L_y rfl (y_move rfl) rfl ?_
                  refine L_op rfl (op_call rfl rfl (fun a w => Try.call19 a w) rfl ?_)
                  refine (FnS.sub (hsub_pick [0] rfl) (dreadg_v hS6 true (n := k) (s := sealL (k : Int) (dd.getD k 0)) (hR.end false hc7))).mono ?_
                  rintro _ _ ⟨rfl, rfl⟩
                  refine ⟨_, rfl, ?_⟩
                  refine L_y rfl (y_move rfl) rfl ?_
                  refine L_y rfl (y_extract rfl rfl) rfl ?_
                  refine L_y rfl (y_extract rfl rfl) rfl ?_
                  refine L_op rfl (op_alloc zl_37 rfl (fun B3 => ?_))
                  refine L_op rfl (op_storeA 0 0 rfl rfl rfl sz_37 (by rw [bs_length, sealL_len _ _]) rfl (bs_one _) (by simp) ?_)
                  refine L_y rfl (y_assign rfl) rfl ?_
                  refine L_nil ?_
                  refine C_seq ?_
                  refine C_regionH0 (by kernel_rfl) ?_
                  refine H_y 0 rfl (by kernel_rfl) (by kernel_rfl) (by kernel_rfl) (HSub.refl _) rfl (y_move rfl) rfl ?_
                  refine H_y 1 rfl (by kernel_rfl) (by kernel_rfl) (by kernel_rfl) (HSub.refl _) rfl (y_nei rfl rfl) rfl ?_
                  refine H_y 2 rfl (by kernel_rfl) (by kernel_rfl) (by kernel_rfl) (HSub.refl _) rfl (y_move rfl) rfl ?_
                  refine H_case 139 rfl (fun hg31_3 => ?_) (fun hg31_3 => ?_)
                  · exact absurd hg31_3 (by simp)
                  · skip
                    refine H_y 3 rfl (by kernel_rfl) (by kernel_rfl) (by kernel_rfl) (HSub.refl _) rfl (y_loadA rfl ag_37 sz_37 (sees 0 0 rfl) (by rw [bs_length, sealL_len _ _]; decide) (bs_whole0 _ (sealL_len _ _))) rfl ?_
                    refine H_y 4 rfl (by kernel_rfl) (by kernel_rfl) (by kernel_rfl) (HSub.refl _) rfl (y_move rfl) rfl ?_
                    refine H_y 5 rfl (by kernel_rfl) (by kernel_rfl) (by kernel_rfl) (HSub.refl _) rfl (y_move rfl) rfl ?_
                    refine H_y 6 rfl (by kernel_rfl) (by kernel_rfl) (by kernel_rfl) (HSub.refl _) rfl (y_move rfl) rfl ?_
                    refine H_y 7 rfl (by kernel_rfl) (by kernel_rfl) (by kernel_rfl) (HSub.refl _) rfl (y_indexS rfl rfl Try.underlying63 sz_5 (by omega) (by omega) (show _ = o1 + k * 1 from by simp)) rfl ?_
                    refine H_y 8 rfl (by kernel_rfl) (by kernel_rfl) (by kernel_rfl) (HSub.refl _) rfl (y_load rfl ag_5 (hs1.up.up) (byte_at hv1 hc7)) rfl ?_
                    refine H_one 9 rfl (by kernel_rfl) rfl (op_call rfl rfl (fun a w => Try.call33 a w) rfl ?_)
                    refine (seal_s (k : Int) (dd.getD k 0)).mono ?_
                    rintro _ _ ⟨rfl, e⟩
                    obtain rfl := e.symm
                    clear e
                    refine ⟨_, rfl, ?_⟩
                    refine ⟨HSub.refl _, ?_⟩
                    refine H_y 10 rfl (by kernel_rfl) (by kernel_rfl) (by kernel_rfl) (HSub.refl _) rfl (y_nea rfl rfl Try.underlying37 Try.underlying5 sz_5 eg_37 (sealL_len _ _) (sealL_len _ _)) rfl ?_
                    refine H_y 11 rfl (by kernel_rfl) (by kernel_rfl) (by kernel_rfl) (HSub.refl _) rfl (y_pick_f rfl rfl) rfl ?_
                    refine H_done (by kernel_rfl) ?_
                    refine C_cond rfl (fun hc8 => absurd hc8 (by simp)) (fun hc8 => ?_)
                    refine C_skip ?_
                    refine C_region ?_
                    refine L_y rfl (y_add rfl rfl (wi64 (by omega) (by omega))) rfl ?_
                    refine L_y rfl (y_move rfl) rfl ?_
                    refine L_nil ?_
                    exact ⟨k + 1, by omega, by omega, ⟨rfl, rfl, rfl, rfl, trivial⟩, ((hsub (.cons_cons _ (.cons _ (.refl _)))).trans (hsub_pick [1] rfl))⟩
                · replace hc7 := of_decide_eq_false hc7
                  refine C_exit ?_
                  refine C_seq ?_
                  refine C_region ?_
                  refine L_y rfl (y_assign rfl) rfl ?_
                  refine L_nil ?_
                  refine C_ret ?_
                  refine B_ret (rv_tmp rfl rv_nil) (HSub.refl _) ?_
                  rfl
        · skip
          refine L_skip rfl rfl ?_
          refine L_skip rfl rfl ?_
          refine L_skip rfl rfl ?_
          refine L_y rfl (y_pick_f rfl rfl) rfl ?_
          refine L_nil ?_
          refine C_cond_f rfl ?_
          refine C_exit ?_
          refine C_seq ?_
          refine C_region ?_
          refine L_y rfl (y_move rfl) rfl ?_
          refine L_op rfl (op_call rfl rfl (fun a w => Try.call16 a w) rfl ?_)
          have hle := hR.le
          refine (FnS.sub (hsub_pick [0, 0] rfl) (allg_v hS healthy_at (by omega) (by omega) (by omega) (r := ((dd.length : Int) - (ks.length : Int), (ks.length : Int), 0)) (hR.all false))).mono ?_
          rintro _ _ ⟨rfl, D7, A7, m7, hS7, rfl⟩
          refine ⟨_, rfl, ?_⟩
          refine L_op rfl (op_alloc zl_32 rfl (fun B4 => ?_))
          refine L_op rfl (op_store (vs := [.int .i64 ((dd.length : Int) - (ks.length : Int)), .int .i64 (ks.length : Int), .int .i64 0]) 0 0 rfl rfl rfl sz_32 rfl rfl (ones rfl) (Nat.le_of_ble_eq_true rfl) ?_)
          refine L_nil ?_
          refine C_seq ?_
          refine C_seq ?_
          refine C_region ?_
          refine L_y rfl (y_fieldAddr rfl fl_32_2) rfl ?_
          refine L_y rfl (y_load rfl ag_3 (sees 0 0 rfl) rfl) rfl ?_
          refine L_y rfl (y_nei rfl rfl) rfl ?_
          refine L_y rfl (y_move rfl) rfl ?_
          refine L_case 109 rfl (fun hg25_4 => ?_) (fun hg25_4 => ?_)
          · exact absurd hg25_4 (by simp)
          · skip
            refine L_y rfl (y_fieldAddr rfl fl_32_1) rfl ?_
            refine L_y rfl (y_load rfl ag_3 (sees 0 0 rfl) rfl) rfl ?_
            refine L_y rfl (y_move rfl) rfl ?_
            refine L_y rfl (y_lenM rfl rfl Try.underlying70 (sees 3 0 rfl)) rfl ?_
            refine L_y rfl (y_nei rfl rfl) rfl ?_
            refine L_y rfl (y_pick_f rfl rfl) rfl ?_
            refine L_y rfl (y_move rfl) rfl ?_
            refine L_case 116 rfl (fun hg25_11 => ?_) (fun hg25_11 => ?_)
            · exact absurd hg25_11 (by simp)
            · skip
              refine L_y rfl (y_fieldAddr rfl fl_32_0) rfl ?_
              refine L_y rfl (y_load rfl ag_3 (sees 0 0 rfl) rfl) rfl ?_
              refine L_y rfl (y_move rfl) rfl ?_
              refine L_y rfl (y_lenS rfl rfl Try.underlying63) rfl ?_
              refine L_y rfl (y_move rfl) rfl ?_
              refine L_y rfl (y_lenM rfl rfl Try.underlying70 (sees 3 0 rfl)) rfl ?_
              refine L_y rfl (y_sub rfl rfl (wi64 (by simp; omega) (by simp; omega))) rfl ?_
              refine L_y rfl (y_nei rfl rfl) rfl ?_
              refine L_y rfl (y_pick_f rfl rfl) rfl ?_
              refine L_nil ?_
              refine C_cond rfl (fun hc6 => absurd hc6 (by simp)) (fun hc6 => ?_)
              refine C_skip ?_
              refine C_seq ?_
              refine C_seq ?_
              refine C_region ?_
              refine L_y rfl (y_move rfl) rfl ?_
              refine L_y rfl (y_lenS rfl rfl Try.underlying63) rfl ?_
              refine L_y rfl (y_move rfl) rfl ?_
              refine L_nil ?_
              refine C_block ?_
              refine C_loop (ι := Nat) (fun k => [(0, .slice pa dd.length ca), (14, ptr by81), (127, .int .i64 ((dd.length : Nat) : Int)), (128, .int .i64 (k : Int))]) (fun k => D7.seg dt :: H) (fun k => k ≤ dd.length) (fun k => dd.length - k) 0 (Nat.zero_le _) ⟨rfl, rfl, rfl, rfl, trivial⟩ ((hsub (.cons_cons _ (.cons _ (.cons _ (.cons _ (.refl _)))))).trans (hsub_pick [2] rfl)) (fun k hk => ?_)
              skip
              refine C_seq ?_
              refine C_region ?_
              refine L_y rfl (y_lss rfl rfl) rfl ?_
              refine L_nil ?_
              refine C_seq ?_
              refine C_cond rfl (fun hc7 => ?_) (fun hc7 => ?_)
              · replace hc7 : k < dd.length := by have := of_decide_eq_true hc7; omega
                obtain ⟨b1, o1, l1, T1, fr1, rfl, hs1, hle1, hv1⟩ := hA (by rw [bs_length]; omega)
                rw [bs_length] at hle1 hv1
                refine C_skip ?_
                refine C_seq ?_
                refine C_block ?_
                refine C_seq ?_
                refine C_region ?_
                refine L_y rfl (y_move rfl) rfl ?_
                refine L_y rfl (y_assign rfl) rfl ?_
                refine L_nil ?_
                refine C_seq ?_
                refine C_region ?_
                refine L_y rfl (y_move rfl) rfl ?_
                refine L_y rfl (y_move rfl) rfl ?_
                refine L_op rfl (op_call rfl rfl (fun a w => Try.call19 a w) rfl ?_)
                refine (FnS.sub (hsub_pick [0] rfl) (dreadg_v hS7 true (n := k) (s := sealL (k : Int) (dd.getD k 0)) (hR.end false hc7))).mono ?_
                rintro _ _ ⟨rfl, rfl⟩
                refine ⟨_, rfl, ?_⟩
                refine L_y rfl (y_move rfl) rfl ?_
                refine L_y rfl (y_extract rfl rfl) rfl ?_
                refine L_y rfl (y_extract rfl rfl) rfl ?_
                refine L_op rfl (op_alloc zl_37 rfl (fun B5 => ?_))
                refine L_op rfl (op_storeA 0 0 rfl rfl rfl sz_37 (by rw [bs_length, sealL_len _ _]) rfl (bs_one _) (by simp) ?_)
                refine L_y rfl (y_assign rfl) rfl ?_
                refine L_nil ?_
                refine C_seq ?_
                refine C_regionH0 (by kernel_rfl) ?_
                refine H_y 0 rfl (by kernel_rfl) (by kernel_rfl) (by kernel_rfl) (HSub.refl _) rfl (y_move rfl) rfl ?_
                refine H_y 1 rfl (by kernel_rfl) (by kernel_rfl) (by kernel_rfl) (HSub.refl _) rfl (y_nei rfl rfl) rfl ?_
                refine H_y 2 rfl (by kernel_rfl) (by kernel_rfl) (by kernel_rfl) (HSub.refl _) rfl (y_move rfl) rfl ?_
                refine H_case 139 rfl (fun hg31_3 => ?_) (fun hg31_3 => ?_)
                · exact absurd hg31_3 (by simp)
                · skip
                  refine H_y 3 rfl (by kernel_rfl) (by kernel_rfl) (by kernel_rfl) (HSub.refl _) rfl (y_loadA rfl ag_37 sz_37 (sees 0 0 rfl) (by rw [bs_length, sealL_len _ _]; decide) (bs_whole0 _ (sealL_len _ _))) rfl ?_
                  refine H_y 4 rfl (by kernel_rfl) (by kernel_rfl) (by kernel_rfl) (HSub.refl _) rfl (y_move rfl) rfl ?_
                  refine H_y 5 rfl (by kernel_rfl) (by kernel_rfl) (by kernel_rfl) (HSub.refl _) rfl (y_move rfl) rfl ?_
                  refine H_y 6 rfl (by kernel_rfl) (by kernel_rfl) (by kernel_rfl) (HSub.refl _) rfl (y_move rfl) rfl ?_
                  refine H_y 7 rfl (by kernel_rfl) (by kernel_rfl) (by kernel_rfl) (HSub.refl _) rfl (y_indexS rfl rfl Try.underlying63 sz_5 (by omega) (by omega) (show _ = o1 + k * 1 from by simp)) rfl ?_
                  refine H_y 8 rfl (by kernel_rfl) (by kernel_rfl) (by kernel_rfl) (HSub.refl _) rfl (y_load rfl ag_5 (hs1.up.up) (byte_at hv1 hc7)) rfl ?_
                  refine H_one 9 rfl (by kernel_rfl) rfl (op_call rfl rfl (fun a w => Try.call33 a w) rfl ?_)
                  refine (seal_s (k : Int) (dd.getD k 0)).mono ?_
                  rintro _ _ ⟨rfl, e⟩
                  obtain rfl := e.symm
                  clear e
                  refine ⟨_, rfl, ?_⟩
                  refine ⟨HSub.refl _, ?_⟩
                  refine H_y 10 rfl (by kernel_rfl) (by kernel_rfl) (by kernel_rfl) (HSub.refl _) rfl (y_nea rfl rfl Try.underlying37 Try.underlying5 sz_5 eg_37 (sealL_len _ _) (sealL_len _ _)) rfl ?_
                  refine H_y 11 rfl (by kernel_rfl) (by kernel_rfl) (by kernel_rfl) (HSub.refl _) rfl (y_pick_f rfl rfl) rfl ?_
                  refine H_done (by kernel_rfl) ?_
                  refine C_cond rfl (fun hc8 => absurd hc8 (by simp)) (fun hc8 => ?_)
                  refine C_skip ?_
                  refine C_region ?_
                  refine L_y rfl (y_add rfl rfl (wi64 (by omega) (by omega))) rfl ?_
                  refine L_y rfl (y_move rfl) rfl ?_
                  refine L_nil ?_
                  exact ⟨k + 1, by omega, by omega, ⟨rfl, rfl, rfl, rfl, trivial⟩, ((hsub (.cons_cons _ (.cons _ (.refl _)))).trans (hsub_pick [1] rfl))⟩
              · replace hc7 := of_decide_eq_false hc7
                refine C_exit ?_
                refine C_seq ?_
                refine C_region ?_
                refine L_y rfl (y_assign rfl) rfl ?_
                refine L_nil ?_
                refine C_ret ?_
                refine B_ret (rv_tmp rfl rv_nil) (HSub.refl _) ?_
                rfl

end Go.Proofs.Ytoaalclbplgegaa
