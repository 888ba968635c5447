/- walks (own work; the walks' lines by a program of this repo). -/
import Derived.Test.YtoaalclbplgegaaMrW
set_option linter.unusedVariables false
set_option linter.unusedSimpArgs false
set_option maxRecDepth 20000
namespace Go.Proofs.Ytoaalclbplgegaa
open Go.Sl
attribute [local irreducible] BodyQ WpC WpL WpS WpH OpW FnS



set_option maxHeartbeats 4000000 in

theorem new_fn_tt {w0 : World} {H : Hp} {f : Nat} {cap : List Value} {D : Duo} {A : Da} {bx bys bp : Nat} (h : Two dt D A bx bys bp) (hp : thr A false = true) (hq : thr A true = true) : FnS Try.prog w0 31 #[ptr bx, ptr bys, .func (.func f) #[] cap.toArray] (D.seg dt :: H) (fun e H' => ∃ b r0 r1, e = .returned (ptr b) ∧ H' = (mnew A bx bys (.func (.func f) #[] cap.toArray) b r0 r1).seg 109 :: D.seg dt :: H) := by
  have hlen : A.a.S.length ≤ 4096 := (h.oks false).2.1
  refine FnS_intro (n := 64) (rs := [.tmp 6]) (vs := [ptr bx, ptr bys, .func (.func f) #[] cap.toArray]) Try.func31 rfl Try.ntmps31 rfl rfl ?_
  refine C_seq ?_
  refine C_region ?_
  refine L_y rfl (y_assign rfl) rfl ?_
  refine L_nil ?_
  refine C_seq ?_
  refine C_region ?_
  refine L_y rfl (y_move rfl) rfl ?_
  refine L_op rfl (op_call rfl rfl (fun a w => Try.call55 a w) rfl ?_)
  refine ((len_d h false).sub (hsub_pick [0] rfl)).mono ?_
  rintro _ _ ⟨rfl, rfl⟩
  refine ⟨_, rfl, ?_⟩
  refine L_y rfl (y_move rfl) rfl ?_
  refine L_op rfl (op_call rfl rfl (fun a w => Try.call55 a w) rfl ?_)
  refine ((len_d h true).sub (hsub_pick [0] rfl)).mono ?_
  rintro _ _ ⟨rfl, rfl⟩
  refine ⟨_, rfl, ?_⟩
  refine L_y rfl (y_minN rfl rfl) rfl ?_
  refine L_y rfl (y_move rfl) rfl ?_
  refine L_y rfl (y_build (vs := [(1, _), (2, _)]) (l := [.pointer none, .map none, .pointer none, .map none, .int .i64 (((min A.a.S.length A.b.S.length) : Nat) : Int), .func (.func f) #[] cap.toArray]) rfl pl_109 zl_109 (fill_cons (off := 4) (m := 1) (vs := [_]) rfl rfl rfl (Nat.le_of_ble_eq_true rfl) (fill_cons (off := 5) (m := 1) (vs := [_]) rfl rfl rfl (Nat.le_of_ble_eq_true rfl) rfl))) rfl ?_
  refine L_op rfl (op_box rfl rfl rfl (fun B1 => ?_))
  refine L_y rfl (y_assign rfl) rfl ?_
  refine L_nil ?_
  refine C_seq ?_
  refine C_seq ?_
  refine C_region ?_
  refine L_y rfl (y_move rfl) rfl ?_
  refine L_y rfl (y_move rfl) rfl ?_
  refine L_op rfl (op_buildSlice (vs := [(0, _), (1, _)]) rfl Try.underlying116 sz_24 zl_24 rfl (by decide) rfl rfl (fun B2 => ?_))
  refine L_y rfl (y_lenS rfl rfl Try.underlying116) rfl ?_
  refine L_y rfl (y_move rfl) rfl ?_
  refine L_nil ?_
  refine C_block ?_
  refine C_loopIn (In_round ?_)
  refine C_seq ?_
  refine C_region ?_
  refine L_y rfl (y_lss rfl rfl) rfl ?_
  refine L_nil ?_
  refine C_seq ?_
  refine C_cond_t rfl ?_
  refine C_skip ?_
  refine C_seq ?_
  refine C_block ?_
  refine C_seq ?_
  refine C_region ?_
  refine L_y rfl (y_move rfl) rfl ?_
  refine L_y rfl (y_indexS rfl rfl Try.underlying116 sz_24 (by omega) (by omega) (show _ = 0 from rfl)) rfl ?_
  refine L_y rfl (y_load rfl ag_24 (sees 0 0 rfl) rfl) rfl ?_
  refine L_y rfl (y_assign rfl) rfl ?_
  refine L_y rfl (y_assign rfl) rfl ?_
  refine L_nil ?_
  refine C_seq ?_
  refine C_region ?_
  refine L_y rfl (y_move rfl) rfl ?_
  refine L_y rfl (y_move rfl) rfl ?_
  refine L_y rfl (y_move rfl) rfl ?_
  refine L_op rfl (op_makeMap rfl (fun B3 => ?_))
  refine L_y rfl (y_build (vs := [(0, _), (1, _)]) (l := [ptr bx, .map (some B3)]) rfl pl_106 zl_106 (fill_cons (off := 0) (m := 1) (vs := [_]) rfl rfl rfl (Nat.le_of_ble_eq_true rfl) (fill_cons (off := 1) (m := 1) (vs := [_]) rfl rfl rfl (Nat.le_of_ble_eq_true rfl) rfl))) rfl ?_
  refine L_y rfl (y_nilCheck rfl) rfl ?_
  refine L_y rfl (y_fieldAddr rfl fl_109_0) rfl ?_
  refine L_y rfl (y_indexA rfl rfl Try.underlying107 sz_106 (by omega) (by omega) (show _ = 0 from rfl)) rfl ?_
  refine L_op rfl (op_store (vs := [ptr bx, .map (some B3)]) 2 0 rfl rfl rfl sz_106 rfl rfl (ones rfl) (Nat.le_of_ble_eq_true rfl) ?_)
  rw [show spl [.pointer none, .map none, .pointer none, .map none, .int .i64 (((min A.a.S.length A.b.S.length) : Nat) : Int), .func (.func f) #[] cap.toArray] 0 [ptr bx, .map (some B3)] = [ptr bx, .map (some B3), .pointer none, .map none, .int .i64 (((min A.a.S.length A.b.S.length) : Nat) : Int), .func (.func f) #[] cap.toArray] from rfl]
  refine L_nil ?_
  refine C_seq ?_
  refine C_region ?_
  refine L_y rfl (y_assign rfl) rfl ?_
  refine L_nil ?_
  refine C_block ?_
  refine C_loopIn (In_round ?_)
  refine C_seq ?_
  refine C_seq ?_
  refine C_region ?_
  refine L_y rfl (y_move rfl) rfl ?_
  refine L_y rfl (y_move rfl) rfl ?_
  refine L_y rfl (y_nilCheck rfl) rfl ?_
  refine L_y rfl (y_fieldAddr rfl fl_109_1) rfl ?_
  refine L_y rfl (y_load rfl ag_3 (sees 2 0 rfl) rfl) rfl ?_
  refine L_y rfl (y_lss rfl rfl) rfl ?_
  refine L_y rfl (y_move rfl) rfl ?_
  refine L_case 42 rfl (fun hg7_7 => ?_) (fun hg7_7 => ?_)
  · have hj := of_decide_eq_true hg7_7
    refine L_y rfl (y_move rfl) rfl ?_
    refine L_y rfl (y_move rfl) rfl ?_
    refine L_y rfl (y_nilCheck rfl) rfl ?_
    refine L_y rfl (y_fieldAddr rfl fl_109_0) rfl ?_
    refine L_y rfl (y_indexA rfl rfl Try.underlying107 sz_106 (by omega) (by omega) (show _ = 0 from rfl)) rfl ?_
    refine L_y rfl (y_loadA rfl ag_106 sz_106 (sees 2 0 rfl) (Nat.le_of_ble_eq_true rfl) rfl) rfl ?_
    refine L_op rfl (op_call rfl rfl (fun a w => Try.call56 a w) rfl ?_)
    refine ((there_d h false).sub (hsub_pick [3] rfl)).mono ?_
    rintro _ _ ⟨rfl, rfl⟩
    rw [hp]
    refine ⟨_, rfl, ?_⟩
    refine L_y rfl (y_not rfl) rfl ?_
    refine L_y rfl (y_pick_t rfl rfl) rfl ?_
    refine L_nil ?_
    refine C_cond_f rfl ?_
    refine C_exit ?_
    refine C_region ?_
    refine L_y rfl (y_add rfl rfl (show _ = (1 : Int) from rfl)) rfl ?_
    refine L_y rfl (y_move rfl) rfl ?_
    refine L_nil ?_
    refine In_round ?_
    refine C_seq ?_
    refine C_region ?_
    refine L_y rfl (y_lss rfl rfl) rfl ?_
    refine L_nil ?_
    refine C_seq ?_
    refine C_cond_t rfl ?_
    refine C_skip ?_
    refine C_seq ?_
    refine C_block ?_
    refine C_seq ?_
    refine C_region ?_
    refine L_y rfl (y_move rfl) rfl ?_
    refine L_y rfl (y_indexS rfl rfl Try.underlying116 sz_24 (by omega) (by omega) (show _ = 1 from rfl)) rfl ?_
    refine L_y rfl (y_load rfl ag_24 (sees 2 0 rfl) rfl) rfl ?_
    refine L_y rfl (y_assign rfl) rfl ?_
    refine L_y rfl (y_assign rfl) rfl ?_
    refine L_nil ?_
    refine C_seq ?_
    refine C_region ?_
    refine L_y rfl (y_move rfl) rfl ?_
    refine L_y rfl (y_move rfl) rfl ?_
    refine L_y rfl (y_move rfl) rfl ?_
    refine L_op rfl (op_makeMap rfl (fun B4 => ?_))
    refine L_y rfl (y_build (vs := [(0, _), (1, _)]) (l := [ptr bys, .map (some B4)]) rfl pl_106 zl_106 (fill_cons (off := 0) (m := 1) (vs := [_]) rfl rfl rfl (Nat.le_of_ble_eq_true rfl) (fill_cons (off := 1) (m := 1) (vs := [_]) rfl rfl rfl (Nat.le_of_ble_eq_true rfl) rfl))) rfl ?_
    refine L_y rfl (y_nilCheck rfl) rfl ?_
    refine L_y rfl (y_fieldAddr rfl fl_109_0) rfl ?_
    refine L_y rfl (y_indexA rfl rfl Try.underlying107 sz_106 (by omega) (by omega) (show _ = 2 from rfl)) rfl ?_
    refine L_op rfl (op_store (vs := [ptr bys, .map (some B4)]) 4 0 rfl rfl rfl sz_106 rfl rfl (ones rfl) (Nat.le_of_ble_eq_true rfl) ?_)
    rw [show spl [ptr bx, .map (some B3), .pointer none, .map none, .int .i64 (((min A.a.S.length A.b.S.length) : Nat) : Int), .func (.func f) #[] cap.toArray] 2 [ptr bys, .map (some B4)] = [ptr bx, .map (some B3), ptr bys, .map (some B4), .int .i64 (((min A.a.S.length A.b.S.length) : Nat) : Int), .func (.func f) #[] cap.toArray] from rfl]
    refine L_nil ?_
    refine C_seq ?_
    refine C_region ?_
    refine L_y rfl (y_assign rfl) rfl ?_
    refine L_nil ?_
    refine C_block ?_
    refine C_loopIn (In_round ?_)
    refine C_seq ?_
    refine C_seq ?_
    refine C_region ?_
    refine L_y rfl (y_move rfl) rfl ?_
    refine L_y rfl (y_move rfl) rfl ?_
    refine L_y rfl (y_nilCheck rfl) rfl ?_
    refine L_y rfl (y_fieldAddr rfl fl_109_1) rfl ?_
    refine L_y rfl (y_load rfl ag_3 (sees 4 0 rfl) rfl) rfl ?_
    refine L_y rfl (y_lss rfl rfl) rfl ?_
    refine L_y rfl (y_move rfl) rfl ?_
    refine L_case 42 rfl (fun hg7_7 => ?_) (fun hg7_7 => ?_)
    · have hj := of_decide_eq_true hg7_7
      refine L_y rfl (y_move rfl) rfl ?_
      refine L_y rfl (y_move rfl) rfl ?_
      refine L_y rfl (y_nilCheck rfl) rfl ?_
      refine L_y rfl (y_fieldAddr rfl fl_109_0) rfl ?_
      refine L_y rfl (y_indexA rfl rfl Try.underlying107 sz_106 (by omega) (by omega) (show _ = 2 from rfl)) rfl ?_
      refine L_y rfl (y_loadA rfl ag_106 sz_106 (sees 4 0 rfl) (Nat.le_of_ble_eq_true rfl) rfl) rfl ?_
      refine L_op rfl (op_call rfl rfl (fun a w => Try.call56 a w) rfl ?_)
      refine ((there_d h true).sub (hsub_pick [1] rfl)).mono ?_
      rintro _ _ ⟨rfl, rfl⟩
      rw [hq]
      refine ⟨_, rfl, ?_⟩
      refine L_y rfl (y_not rfl) rfl ?_
      refine L_y rfl (y_pick_t rfl rfl) rfl ?_
      refine L_nil ?_
      refine C_cond_f rfl ?_
      refine C_exit ?_
      refine C_region ?_
      refine L_y rfl (y_add rfl rfl (show _ = (2 : Int) from rfl)) rfl ?_
      refine L_y rfl (y_move rfl) rfl ?_
      refine L_nil ?_
      refine In_round ?_
      refine C_seq ?_
      refine C_region ?_
      refine L_y rfl (y_lss rfl rfl) rfl ?_
      refine L_nil ?_
      refine C_seq ?_
      refine C_cond_f rfl ?_
      refine C_exit ?_
      refine C_seq ?_
      refine C_region ?_
      refine L_y rfl (y_move rfl) rfl ?_
      refine L_y rfl (y_assign rfl) rfl ?_
      refine L_nil ?_
      refine C_ret ?_
      refine B_ret (rv_tmp rfl rv_nil) ((hsub_flat (H := [_] :: [_] :: [_] :: D.seg dt :: H) (H' := Mi.seg 109 ⟨B1, B3, B4, bx, bys, (min A.a.S.length A.b.S.length), .func (.func f) #[] cap.toArray, stale0 true (min A.a.S.length A.b.S.length), (if true then 0 else (min A.a.S.length A.b.S.length)), stale0 true (min A.a.S.length A.b.S.length), (if true then 0 else (min A.a.S.length A.b.S.length))⟩ :: D.seg dt :: H) rfl).trans ((hsub (.cons_cons _ (.cons_cons _ (.cons_cons _ (.cons_cons _ (.cons _ (.refl _))))))).trans (hsub_pick [4, 2, 1, 0] rfl))) ?_
      exact ⟨B1, B3, B4, rfl, by simp only [mnew, stale0, hp, hq] <;> rfl⟩
    · have hj := of_decide_eq_false hg7_7
      refine L_skip rfl rfl ?_
      refine L_skip rfl rfl ?_
      refine L_skip rfl rfl ?_
      refine L_skip rfl rfl ?_
      refine L_skip rfl rfl ?_
      refine L_skip rfl rfl ?_
      refine L_skip rfl rfl ?_
      refine L_skip rfl rfl ?_
      refine L_y rfl (y_pick_f rfl rfl) rfl ?_
      refine L_nil ?_
      refine C_cond_f rfl ?_
      refine C_exit ?_
      refine C_region ?_
      refine L_y rfl (y_add rfl rfl (show _ = (2 : Int) from rfl)) rfl ?_
      refine L_y rfl (y_move rfl) rfl ?_
      refine L_nil ?_
      refine In_round ?_
      refine C_seq ?_
      refine C_region ?_
      refine L_y rfl (y_lss rfl rfl) rfl ?_
      refine L_nil ?_
      refine C_seq ?_
      refine C_cond_f rfl ?_
      refine C_exit ?_
      refine C_seq ?_
      refine C_region ?_
      refine L_y rfl (y_move rfl) rfl ?_
      refine L_y rfl (y_assign rfl) rfl ?_
      refine L_nil ?_
      refine C_ret ?_
      refine B_ret (rv_tmp rfl rv_nil) ((hsub_flat (H := [_] :: [_] :: [_] :: D.seg dt :: H) (H' := Mi.seg 109 ⟨B1, B3, B4, bx, bys, (min A.a.S.length A.b.S.length), .func (.func f) #[] cap.toArray, stale0 true (min A.a.S.length A.b.S.length), (if true then 0 else (min A.a.S.length A.b.S.length)), stale0 true (min A.a.S.length A.b.S.length), (if true then 0 else (min A.a.S.length A.b.S.length))⟩ :: D.seg dt :: H) rfl).trans ((hsub (.cons_cons _ (.cons_cons _ (.cons_cons _ (.cons_cons _ (.cons _ (.refl _))))))).trans (hsub_pick [4, 2, 0, 0] rfl))) ?_
      exact ⟨B1, B3, B4, rfl, by simp only [mnew, stale0, hp, hq] <;> rfl⟩
  · have hj := of_decide_eq_false hg7_7
    refine L_skip rfl rfl ?_
    refine L_skip rfl rfl ?_
    refine L_skip rfl rfl ?_
    refine L_skip rfl rfl ?_
    refine L_skip rfl rfl ?_
    refine L_skip rfl rfl ?_
    refine L_skip rfl rfl ?_
    refine L_skip rfl rfl ?_
    refine L_y rfl (y_pick_f rfl rfl) rfl ?_
    refine L_nil ?_
    refine C_cond_f rfl ?_
    refine C_exit ?_
    refine C_region ?_
    refine L_y rfl (y_add rfl rfl (show _ = (1 : Int) from rfl)) rfl ?_
    refine L_y rfl (y_move rfl) rfl ?_
    refine L_nil ?_
    refine In_round ?_
    refine C_seq ?_
    refine C_region ?_
    refine L_y rfl (y_lss rfl rfl) rfl ?_
    refine L_nil ?_
    refine C_seq ?_
    refine C_cond_t rfl ?_
    refine C_skip ?_
    refine C_seq ?_
    refine C_block ?_
    refine C_seq ?_
    refine C_region ?_
    refine L_y rfl (y_move rfl) rfl ?_
    refine L_y rfl (y_indexS rfl rfl Try.underlying116 sz_24 (by omega) (by omega) (show _ = 1 from rfl)) rfl ?_
    refine L_y rfl (y_load rfl ag_24 (sees 1 0 rfl) rfl) rfl ?_
    refine L_y rfl (y_assign rfl) rfl ?_
    refine L_y rfl (y_assign rfl) rfl ?_
    refine L_nil ?_
    refine C_seq ?_
    refine C_region ?_
    refine L_y rfl (y_move rfl) rfl ?_
    refine L_y rfl (y_move rfl) rfl ?_
    refine L_y rfl (y_move rfl) rfl ?_
    refine L_op rfl (op_makeMap rfl (fun B5 => ?_))
    refine L_y rfl (y_build (vs := [(0, _), (1, _)]) (l := [ptr bys, .map (some B5)]) rfl pl_106 zl_106 (fill_cons (off := 0) (m := 1) (vs := [_]) rfl rfl rfl (Nat.le_of_ble_eq_true rfl) (fill_cons (off := 1) (m := 1) (vs := [_]) rfl rfl rfl (Nat.le_of_ble_eq_true rfl) rfl))) rfl ?_
    refine L_y rfl (y_nilCheck rfl) rfl ?_
    refine L_y rfl (y_fieldAddr rfl fl_109_0) rfl ?_
    refine L_y rfl (y_indexA rfl rfl Try.underlying107 sz_106 (by omega) (by omega) (show _ = 2 from rfl)) rfl ?_
    refine L_op rfl (op_store (vs := [ptr bys, .map (some B5)]) 3 0 rfl rfl rfl sz_106 rfl rfl (ones rfl) (Nat.le_of_ble_eq_true rfl) ?_)
    rw [show spl [ptr bx, .map (some B3), .pointer none, .map none, .int .i64 (((min A.a.S.length A.b.S.length) : Nat) : Int), .func (.func f) #[] cap.toArray] 2 [ptr bys, .map (some B5)] = [ptr bx, .map (some B3), ptr bys, .map (some B5), .int .i64 (((min A.a.S.length A.b.S.length) : Nat) : Int), .func (.func f) #[] cap.toArray] from rfl]
    refine L_nil ?_
    refine C_seq ?_
    refine C_region ?_
    refine L_y rfl (y_assign rfl) rfl ?_
    refine L_nil ?_
    refine C_block ?_
    refine C_loopIn (In_round ?_)
    refine C_seq ?_
    refine C_seq ?_
    refine C_region ?_
    refine L_y rfl (y_move rfl) rfl ?_
    refine L_y rfl (y_move rfl) rfl ?_
    refine L_y rfl (y_nilCheck rfl) rfl ?_
    refine L_y rfl (y_fieldAddr rfl fl_109_1) rfl ?_
    refine L_y rfl (y_load rfl ag_3 (sees 3 0 rfl) rfl) rfl ?_
    refine L_y rfl (y_lss rfl rfl) rfl ?_
    refine L_y rfl (y_move rfl) rfl ?_
    refine L_case 42 rfl (fun hg7_7 => ?_) (fun hg7_7 => ?_)
    · have hj := of_decide_eq_true hg7_7
      refine L_y rfl (y_move rfl) rfl ?_
      refine L_y rfl (y_move rfl) rfl ?_
      refine L_y rfl (y_nilCheck rfl) rfl ?_
      refine L_y rfl (y_fieldAddr rfl fl_109_0) rfl ?_
      refine L_y rfl (y_indexA rfl rfl Try.underlying107 sz_106 (by omega) (by omega) (show _ = 2 from rfl)) rfl ?_
      refine L_y rfl (y_loadA rfl ag_106 sz_106 (sees 3 0 rfl) (Nat.le_of_ble_eq_true rfl) rfl) rfl ?_
      refine L_op rfl (op_call rfl rfl (fun a w => Try.call56 a w) rfl ?_)
      refine ((there_d h true).sub (hsub_pick [4] rfl)).mono ?_
      rintro _ _ ⟨rfl, rfl⟩
      rw [hq]
      refine ⟨_, rfl, ?_⟩
      refine L_y rfl (y_not rfl) rfl ?_
      refine L_y rfl (y_pick_t rfl rfl) rfl ?_
      refine L_nil ?_
      refine C_cond_f rfl ?_
      refine C_exit ?_
      refine C_region ?_
      refine L_y rfl (y_add rfl rfl (show _ = (2 : Int) from rfl)) rfl ?_
      refine L_y rfl (y_move rfl) rfl ?_
      refine L_nil ?_
      refine In_round ?_
      refine C_seq ?_
      refine C_region ?_
      refine L_y rfl (y_lss rfl rfl) rfl ?_
      refine L_nil ?_
      refine C_seq ?_
      refine C_cond_f rfl ?_
      refine C_exit ?_
      refine C_seq ?_
      refine C_region ?_
      refine L_y rfl (y_move rfl) rfl ?_
      refine L_y rfl (y_assign rfl) rfl ?_
      refine L_nil ?_
      refine C_ret ?_
      refine B_ret (rv_tmp rfl rv_nil) ((hsub_flat (H := [_] :: [_] :: [_] :: D.seg dt :: H) (H' := Mi.seg 109 ⟨B1, B3, B5, bx, bys, (min A.a.S.length A.b.S.length), .func (.func f) #[] cap.toArray, stale0 true (min A.a.S.length A.b.S.length), (if true then 0 else (min A.a.S.length A.b.S.length)), stale0 true (min A.a.S.length A.b.S.length), (if true then 0 else (min A.a.S.length A.b.S.length))⟩ :: D.seg dt :: H) rfl).trans ((hsub (.cons_cons _ (.cons_cons _ (.cons_cons _ (.cons_cons _ (.cons _ (.refl _))))))).trans (hsub_pick [4, 2, 1, 0] rfl))) ?_
      exact ⟨B1, B3, B5, rfl, by simp only [mnew, stale0, hp, hq] <;> rfl⟩
    · have hj := of_decide_eq_false hg7_7
      refine L_skip rfl rfl ?_
      refine L_skip rfl rfl ?_
      refine L_skip rfl rfl ?_
      refine L_skip rfl rfl ?_
      refine L_skip rfl rfl ?_
      refine L_skip rfl rfl ?_
      refine L_skip rfl rfl ?_
      refine L_skip rfl rfl ?_
      refine L_y rfl (y_pick_f rfl rfl) rfl ?_
      refine L_nil ?_
      refine C_cond_f rfl ?_
      refine C_exit ?_
      refine C_region ?_
      refine L_y rfl (y_add rfl rfl (show _ = (2 : Int) from rfl)) rfl ?_
      refine L_y rfl (y_move rfl) rfl ?_
      refine L_nil ?_
      refine In_round ?_
      refine C_seq ?_
      refine C_region ?_
      refine L_y rfl (y_lss rfl rfl) rfl ?_
      refine L_nil ?_
      refine C_seq ?_
      refine C_cond_f rfl ?_
      refine C_exit ?_
      refine C_seq ?_
      refine C_region ?_
      refine L_y rfl (y_move rfl) rfl ?_
      refine L_y rfl (y_assign rfl) rfl ?_
      refine L_nil ?_
      refine C_ret ?_
      refine B_ret (rv_tmp rfl rv_nil) ((hsub_flat (H := [_] :: [_] :: [_] :: D.seg dt :: H) (H' := Mi.seg 109 ⟨B1, B3, B5, bx, bys, (min A.a.S.length A.b.S.length), .func (.func f) #[] cap.toArray, stale0 true (min A.a.S.length A.b.S.length), (if true then 0 else (min A.a.S.length A.b.S.length)), stale0 true (min A.a.S.length A.b.S.length), (if true then 0 else (min A.a.S.length A.b.S.length))⟩ :: D.seg dt :: H) rfl).trans ((hsub (.cons_cons _ (.cons_cons _ (.cons_cons _ (.cons_cons _ (.cons _ (.refl _))))))).trans (hsub_pick [3, 1, 0, 1] rfl))) ?_
      exact ⟨B1, B3, B5, rfl, by simp only [mnew, stale0, hp, hq] <;> rfl⟩

set_option maxHeartbeats 4000000 in

theorem new_fn_tf {w0 : World} {H : Hp} {f : Nat} {cap : List Value} {D : Duo} {A : Da} {bx bys bp : Nat} (h : Two dt D A bx bys bp) (hp : thr A false = true) (hq : thr A true = false) : FnS Try.prog w0 31 #[ptr bx, ptr bys, .func (.func f) #[] cap.toArray] (D.seg dt :: H) (fun e H' => ∃ b r0 r1, e = .returned (ptr b) ∧ H' = (mnew A bx bys (.func (.func f) #[] cap.toArray) b r0 r1).seg 109 :: D.seg dt :: H) := by
  have hlen : A.a.S.length ≤ 4096 := (h.oks false).2.1
  refine FnS_intro (n := 64) (rs := [.tmp 6]) (vs := [ptr bx, ptr bys, .func (.func f) #[] cap.toArray]) Try.func31 rfl Try.ntmps31 rfl rfl ?_
  refine C_seq ?_
  refine C_region ?_
  refine L_y rfl (y_assign rfl) rfl ?_
  refine L_nil ?_
  refine C_seq ?_
  refine C_region ?_
  refine L_y rfl (y_move rfl) rfl ?_
  refine L_op rfl (op_call rfl rfl (fun a w => Try.call55 a w) rfl ?_)
  refine ((len_d h false).sub (hsub_pick [0] rfl)).mono ?_
  rintro _ _ ⟨rfl, rfl⟩
  refine ⟨_, rfl, ?_⟩
  refine L_y rfl (y_move rfl) rfl ?_
  refine L_op rfl (op_call rfl rfl (fun a w => Try.call55 a w) rfl ?_)
  refine ((len_d h true).sub (hsub_pick [0] rfl)).mono ?_
  rintro _ _ ⟨rfl, rfl⟩
  refine ⟨_, rfl, ?_⟩
  refine L_y rfl (y_minN rfl rfl) rfl ?_
  refine L_y rfl (y_move rfl) rfl ?_
  refine L_y rfl (y_build (vs := [(1, _), (2, _)]) (l := [.pointer none, .map none, .pointer none, .map none, .int .i64 (((min A.a.S.length A.b.S.length) : Nat) : Int), .func (.func f) #[] cap.toArray]) rfl pl_109 zl_109 (fill_cons (off := 4) (m := 1) (vs := [_]) rfl rfl rfl (Nat.le_of_ble_eq_true rfl) (fill_cons (off := 5) (m := 1) (vs := [_]) rfl rfl rfl (Nat.le_of_ble_eq_true rfl) rfl))) rfl ?_
  refine L_op rfl (op_box rfl rfl rfl (fun B1 => ?_))
  refine L_y rfl (y_assign rfl) rfl ?_
  refine L_nil ?_
  refine C_seq ?_
  refine C_seq ?_
  refine C_region ?_
  refine L_y rfl (y_move rfl) rfl ?_
  refine L_y rfl (y_move rfl) rfl ?_
  refine L_op rfl (op_buildSlice (vs := [(0, _), (1, _)]) rfl Try.underlying116 sz_24 zl_24 rfl (by decide) rfl rfl (fun B2 => ?_))
  refine L_y rfl (y_lenS rfl rfl Try.underlying116) rfl ?_
  refine L_y rfl (y_move rfl) rfl ?_
  refine L_nil ?_
  refine C_block ?_
  refine C_loopIn (In_round ?_)
  refine C_seq ?_
  refine C_region ?_
  refine L_y rfl (y_lss rfl rfl) rfl ?_
  refine L_nil ?_
  refine C_seq ?_
  refine C_cond_t rfl ?_
  refine C_skip ?_
  refine C_seq ?_
  refine C_block ?_
  refine C_seq ?_
  refine C_region ?_
  refine L_y rfl (y_move rfl) rfl ?_
  refine L_y rfl (y_indexS rfl rfl Try.underlying116 sz_24 (by omega) (by omega) (show _ = 0 from rfl)) rfl ?_
  refine L_y rfl (y_load rfl ag_24 (sees 0 0 rfl) rfl) rfl ?_
  refine L_y rfl (y_assign rfl) rfl ?_
  refine L_y rfl (y_assign rfl) rfl ?_
  refine L_nil ?_
  refine C_seq ?_
  refine C_region ?_
  refine L_y rfl (y_move rfl) rfl ?_
  refine L_y rfl (y_move rfl) rfl ?_
  refine L_y rfl (y_move rfl) rfl ?_
  refine L_op rfl (op_makeMap rfl (fun B3 => ?_))
  refine L_y rfl (y_build (vs := [(0, _), (1, _)]) (l := [ptr bx, .map (some B3)]) rfl pl_106 zl_106 (fill_cons (off := 0) (m := 1) (vs := [_]) rfl rfl rfl (Nat.le_of_ble_eq_true rfl) (fill_cons (off := 1) (m := 1) (vs := [_]) rfl rfl rfl (Nat.le_of_ble_eq_true rfl) rfl))) rfl ?_
  refine L_y rfl (y_nilCheck rfl) rfl ?_
  refine L_y rfl (y_fieldAddr rfl fl_109_0) rfl ?_
  refine L_y rfl (y_indexA rfl rfl Try.underlying107 sz_106 (by omega) (by omega) (show _ = 0 from rfl)) rfl ?_
  refine L_op rfl (op_store (vs := [ptr bx, .map (some B3)]) 2 0 rfl rfl rfl sz_106 rfl rfl (ones rfl) (Nat.le_of_ble_eq_true rfl) ?_)
  rw [show spl [.pointer none, .map none, .pointer none, .map none, .int .i64 (((min A.a.S.length A.b.S.length) : Nat) : Int), .func (.func f) #[] cap.toArray] 0 [ptr bx, .map (some B3)] = [ptr bx, .map (some B3), .pointer none, .map none, .int .i64 (((min A.a.S.length A.b.S.length) : Nat) : Int), .func (.func f) #[] cap.toArray] from rfl]
  refine L_nil ?_
  refine C_seq ?_
  refine C_region ?_
  refine L_y rfl (y_assign rfl) rfl ?_
  refine L_nil ?_
  refine C_block ?_
  refine C_loopIn (In_round ?_)
  refine C_seq ?_
  refine C_seq ?_
  refine C_region ?_
  refine L_y rfl (y_move rfl) rfl ?_
  refine L_y rfl (y_move rfl) rfl ?_
  refine L_y rfl (y_nilCheck rfl) rfl ?_
  refine L_y rfl (y_fieldAddr rfl fl_109_1) rfl ?_
  refine L_y rfl (y_load rfl ag_3 (sees 2 0 rfl) rfl) rfl ?_
  refine L_y rfl (y_lss rfl rfl) rfl ?_
  refine L_y rfl (y_move rfl) rfl ?_
  refine L_case 42 rfl (fun hg7_7 => ?_) (fun hg7_7 => ?_)
  · have hj := of_decide_eq_true hg7_7
    refine L_y rfl (y_move rfl) rfl ?_
    refine L_y rfl (y_move rfl) rfl ?_
    refine L_y rfl (y_nilCheck rfl) rfl ?_
    refine L_y rfl (y_fieldAddr rfl fl_109_0) rfl ?_
    refine L_y rfl (y_indexA rfl rfl Try.underlying107 sz_106 (by omega) (by omega) (show _ = 0 from rfl)) rfl ?_
    refine L_y rfl (y_loadA rfl ag_106 sz_106 (sees 2 0 rfl) (Nat.le_of_ble_eq_true rfl) rfl) rfl ?_
    refine L_op rfl (op_call rfl rfl (fun a w => Try.call56 a w) rfl ?_)
    refine ((there_d h false).sub (hsub_pick [3] rfl)).mono ?_
    rintro _ _ ⟨rfl, rfl⟩
    rw [hp]
    refine ⟨_, rfl, ?_⟩
    refine L_y rfl (y_not rfl) rfl ?_
    refine L_y rfl (y_pick_t rfl rfl) rfl ?_
    refine L_nil ?_
    refine C_cond_f rfl ?_
    refine C_exit ?_
    refine C_region ?_
    refine L_y rfl (y_add rfl rfl (show _ = (1 : Int) from rfl)) rfl ?_
    refine L_y rfl (y_move rfl) rfl ?_
    refine L_nil ?_
    refine In_round ?_
    refine C_seq ?_
    refine C_region ?_
    refine L_y rfl (y_lss rfl rfl) rfl ?_
    refine L_nil ?_
    refine C_seq ?_
    refine C_cond_t rfl ?_
    refine C_skip ?_
    refine C_seq ?_
    refine C_block ?_
    refine C_seq ?_
    refine C_region ?_
    refine L_y rfl (y_move rfl) rfl ?_
    refine L_y rfl (y_indexS rfl rfl Try.underlying116 sz_24 (by omega) (by omega) (show _ = 1 from rfl)) rfl ?_
    refine L_y rfl (y_load rfl ag_24 (sees 2 0 rfl) rfl) rfl ?_
    refine L_y rfl (y_assign rfl) rfl ?_
    refine L_y rfl (y_assign rfl) rfl ?_
    refine L_nil ?_
    refine C_seq ?_
    refine C_region ?_
    refine L_y rfl (y_move rfl) rfl ?_
    refine L_y rfl (y_move rfl) rfl ?_
    refine L_y rfl (y_move rfl) rfl ?_
    refine L_op rfl (op_makeMap rfl (fun B4 => ?_))
    refine L_y rfl (y_build (vs := [(0, _), (1, _)]) (l := [ptr bys, .map (some B4)]) rfl pl_106 zl_106 (fill_cons (off := 0) (m := 1) (vs := [_]) rfl rfl rfl (Nat.le_of_ble_eq_true rfl) (fill_cons (off := 1) (m := 1) (vs := [_]) rfl rfl rfl (Nat.le_of_ble_eq_true rfl) rfl))) rfl ?_
    refine L_y rfl (y_nilCheck rfl) rfl ?_
    refine L_y rfl (y_fieldAddr rfl fl_109_0) rfl ?_
    refine L_y rfl (y_indexA rfl rfl Try.underlying107 sz_106 (by omega) (by omega) (show _ = 2 from rfl)) rfl ?_
    refine L_op rfl (op_store (vs := [ptr bys, .map (some B4)]) 4 0 rfl rfl rfl sz_106 rfl rfl (ones rfl) (Nat.le_of_ble_eq_true rfl) ?_)
    rw [show spl [ptr bx, .map (some B3), .pointer none, .map none, .int .i64 (((min A.a.S.length A.b.S.length) : Nat) : Int), .func (.func f) #[] cap.toArray] 2 [ptr bys, .map (some B4)] = [ptr bx, .map (some B3), ptr bys, .map (some B4), .int .i64 (((min A.a.S.length A.b.S.length) : Nat) : Int), .func (.func f) #[] cap.toArray] from rfl]
    refine L_nil ?_
    refine C_seq ?_
    refine C_region ?_
    refine L_y rfl (y_assign rfl) rfl ?_
    refine L_nil ?_
    refine C_block ?_
    refine C_loop (ι := Nat) (fun j => [(7, ptr B1), (8, .int .i64 1), (10, .int .i64 (j : Int)), (21, .slice (some ⟨B2, 0, none⟩) 2 2), (22, .int .i64 2), (23, .int .i64 1)]) (fun j => [(B4, mapO (stN j) j)] :: [(B1, .cells [ptr bx, .map (some B3), ptr bys, .map (some B4), .int .i64 (((min A.a.S.length A.b.S.length) : Nat) : Int), .func (.func f) #[] cap.toArray].toArray 109)] :: [(B2, .cells [ptr bx, ptr bys].toArray 24)] :: D.seg dt :: [(B3, mapO (stale0 true (min A.a.S.length A.b.S.length)) (if true then 0 else (min A.a.S.length A.b.S.length)))] :: H) (fun j => j ≤ (min A.a.S.length A.b.S.length)) (fun j => (min A.a.S.length A.b.S.length) - j) 0 (Nat.zero_le _) ⟨rfl, rfl, rfl, rfl, rfl, rfl, trivial⟩ (hsub_pick [0, 3, 2, 0, 0] rfl) (fun j hj => ?_)
    skip
    refine C_seq ?_
    refine C_seq ?_
    refine C_region ?_
    refine L_y rfl (y_move rfl) rfl ?_
    refine L_y rfl (y_move rfl) rfl ?_
    refine L_y rfl (y_nilCheck rfl) rfl ?_
    refine L_y rfl (y_fieldAddr rfl fl_109_1) rfl ?_
    refine L_y rfl (y_load rfl ag_3 (sees 1 0 rfl) rfl) rfl ?_
    refine L_y rfl (y_lss rfl rfl) rfl ?_
    refine L_y rfl (y_move rfl) rfl ?_
    refine L_case 42 rfl (fun hg7_7 => ?_) (fun hg7_7 => ?_)
    · have hj := of_decide_eq_true hg7_7
      refine L_y rfl (y_move rfl) rfl ?_
      refine L_y rfl (y_move rfl) rfl ?_
      refine L_y rfl (y_nilCheck rfl) rfl ?_
      refine L_y rfl (y_fieldAddr rfl fl_109_0) rfl ?_
      refine L_y rfl (y_indexA rfl rfl Try.underlying107 sz_106 (by omega) (by omega) (show _ = 2 from rfl)) rfl ?_
      refine L_y rfl (y_loadA rfl ag_106 sz_106 (sees 1 0 rfl) (Nat.le_of_ble_eq_true rfl) rfl) rfl ?_
      refine L_op rfl (op_call rfl rfl (fun a w => Try.call56 a w) rfl ?_)
      refine ((there_d h true).sub (hsub_pick [3] rfl)).mono ?_
      rintro _ _ ⟨rfl, rfl⟩
      rw [hq]
      refine ⟨_, rfl, ?_⟩
      refine L_y rfl (y_not rfl) rfl ?_
      refine L_y rfl (y_pick_t rfl rfl) rfl ?_
      refine L_nil ?_
      refine C_cond_t rfl ?_
      refine C_skip ?_
      refine C_seq ?_
      refine C_block ?_
      refine C_region ?_
      refine L_y rfl (y_move rfl) rfl ?_
      refine L_y rfl (y_move rfl) rfl ?_
      refine L_y rfl (y_nilCheck rfl) rfl ?_
      refine L_y rfl (y_fieldAddr rfl fl_109_0) rfl ?_
      refine L_y rfl (y_indexA rfl rfl Try.underlying107 sz_106 (by omega) (by omega) (show _ = 2 from rfl)) rfl ?_
      refine L_y rfl (y_fieldAddr rfl fl_106_1) rfl ?_
      refine L_y rfl (y_load rfl ag_70 (sees 2 0 rfl) rfl) rfl ?_
      refine L_y rfl (y_move rfl) rfl ?_
      refine L_op rfl (op_mapUpdate 1 0 rfl rfl rfl Try.underlying70 Try.underlying3 rfl rfl ?_)
      refine L_nil ?_
      refine C_region ?_
      refine L_y rfl (y_move rfl) rfl ?_
      refine L_y rfl (y_add rfl rfl (wi64 (by omega) (by omega))) rfl ?_
      refine L_y rfl (y_assign rfl) rfl ?_
      refine L_nil ?_
      refine ⟨j + 1, by omega, by omega, ⟨rfl, rfl, rfl, rfl, rfl, rfl, trivial⟩, ?_⟩
      rw [← (stN_put j).1, show mapO (kPut (stN j) j (j : Int)) (j + 1) = mapO (kPut (stN j) j (j : Int)) (kClk (stN j) j (j : Int)) from by rw [(stN_put j).2]]
      exact ((hsub (.cons_cons _ (.cons_cons _ (.cons_cons _ (.cons_cons _ (.cons_cons _ (.refl _))))))).trans (hsub_pick [1, 1, 1, 0, 0] rfl))
    · have hj := of_decide_eq_false hg7_7
      refine L_skip rfl rfl ?_
      refine L_skip rfl rfl ?_
      refine L_skip rfl rfl ?_
      refine L_skip rfl rfl ?_
      refine L_skip rfl rfl ?_
      refine L_skip rfl rfl ?_
      refine L_skip rfl rfl ?_
      refine L_skip rfl rfl ?_
      refine L_y rfl (y_pick_f rfl rfl) rfl ?_
      refine L_nil ?_
      refine C_cond_f rfl ?_
      refine C_exit ?_
      obtain rfl : j = (min A.a.S.length A.b.S.length) := by omega
      refine C_region ?_
      refine L_y rfl (y_add rfl rfl (show _ = (2 : Int) from rfl)) rfl ?_
      refine L_y rfl (y_move rfl) rfl ?_
      refine L_nil ?_
      refine In_round ?_
      refine C_seq ?_
      refine C_region ?_
      refine L_y rfl (y_lss rfl rfl) rfl ?_
      refine L_nil ?_
      refine C_seq ?_
      refine C_cond_f rfl ?_
      refine C_exit ?_
      refine C_seq ?_
      refine C_region ?_
      refine L_y rfl (y_move rfl) rfl ?_
      refine L_y rfl (y_assign rfl) rfl ?_
      refine L_nil ?_
      refine C_ret ?_
      refine B_ret (rv_tmp rfl rv_nil) ((hsub_flat (H := [_] :: [_] :: [_] :: D.seg dt :: H) (H' := Mi.seg 109 ⟨B1, B3, B4, bx, bys, (min A.a.S.length A.b.S.length), .func (.func f) #[] cap.toArray, stale0 true (min A.a.S.length A.b.S.length), (if true then 0 else (min A.a.S.length A.b.S.length)), stale0 false (min A.a.S.length A.b.S.length), (if false then 0 else (min A.a.S.length A.b.S.length))⟩ :: D.seg dt :: H) rfl).trans ((hsub (.cons_cons _ (.cons_cons _ (.cons_cons _ (.cons_cons _ (.cons _ (.refl _))))))).trans (hsub_pick [1, 3, 0, 1] rfl))) ?_
      exact ⟨B1, B3, B4, rfl, by simp only [mnew, stale0, hp, hq] <;> rfl⟩
  · have hj := of_decide_eq_false hg7_7
    refine L_skip rfl rfl ?_
    refine L_skip rfl rfl ?_
    refine L_skip rfl rfl ?_
    refine L_skip rfl rfl ?_
    refine L_skip rfl rfl ?_
    refine L_skip rfl rfl ?_
    refine L_skip rfl rfl ?_
    refine L_skip rfl rfl ?_
    refine L_y rfl (y_pick_f rfl rfl) rfl ?_
    refine L_nil ?_
    refine C_cond_f rfl ?_
    refine C_exit ?_
    refine C_region ?_
    refine L_y rfl (y_add rfl rfl (show _ = (1 : Int) from rfl)) rfl ?_
    refine L_y rfl (y_move rfl) rfl ?_
    refine L_nil ?_
    refine In_round ?_
    refine C_seq ?_
    refine C_region ?_
    refine L_y rfl (y_lss rfl rfl) rfl ?_
    refine L_nil ?_
    refine C_seq ?_
    refine C_cond_t rfl ?_
    refine C_skip ?_
    refine C_seq ?_
    refine C_block ?_
    refine C_seq ?_
    refine C_region ?_
    refine L_y rfl (y_move rfl) rfl ?_
    refine L_y rfl (y_indexS rfl rfl Try.underlying116 sz_24 (by omega) (by omega) (show _ = 1 from rfl)) rfl ?_
    refine L_y rfl (y_load rfl ag_24 (sees 1 0 rfl) rfl) rfl ?_
    refine L_y rfl (y_assign rfl) rfl ?_
    refine L_y rfl (y_assign rfl) rfl ?_
    refine L_nil ?_
    refine C_seq ?_
    refine C_region ?_
    refine L_y rfl (y_move rfl) rfl ?_
    refine L_y rfl (y_move rfl) rfl ?_
    refine L_y rfl (y_move rfl) rfl ?_
    refine L_op rfl (op_makeMap rfl (fun B5 => ?_))
    refine L_y rfl (y_build (vs := [(0, _), (1, _)]) (l := [ptr bys, .map (some B5)]) rfl pl_106 zl_106 (fill_cons (off := 0) (m := 1) (vs := [_]) rfl rfl rfl (Nat.le_of_ble_eq_true rfl) (fill_cons (off := 1) (m := 1) (vs := [_]) rfl rfl rfl (Nat.le_of_ble_eq_true rfl) rfl))) rfl ?_
    refine L_y rfl (y_nilCheck rfl) rfl ?_
    refine L_y rfl (y_fieldAddr rfl fl_109_0) rfl ?_
    refine L_y rfl (y_indexA rfl rfl Try.underlying107 sz_106 (by omega) (by omega) (show _ = 2 from rfl)) rfl ?_
    refine L_op rfl (op_store (vs := [ptr bys, .map (some B5)]) 3 0 rfl rfl rfl sz_106 rfl rfl (ones rfl) (Nat.le_of_ble_eq_true rfl) ?_)
    rw [show spl [ptr bx, .map (some B3), .pointer none, .map none, .int .i64 (((min A.a.S.length A.b.S.length) : Nat) : Int), .func (.func f) #[] cap.toArray] 2 [ptr bys, .map (some B5)] = [ptr bx, .map (some B3), ptr bys, .map (some B5), .int .i64 (((min A.a.S.length A.b.S.length) : Nat) : Int), .func (.func f) #[] cap.toArray] from rfl]
    refine L_nil ?_
    refine C_seq ?_
    refine C_region ?_
    refine L_y rfl (y_assign rfl) rfl ?_
    refine L_nil ?_
    refine C_block ?_
    refine C_loop (ι := Nat) (fun j => [(7, ptr B1), (8, .int .i64 1), (10, .int .i64 (j : Int)), (21, .slice (some ⟨B2, 0, none⟩) 2 2), (22, .int .i64 2), (23, .int .i64 1)]) (fun j => [(B5, mapO (stN j) j)] :: [(B1, .cells [ptr bx, .map (some B3), ptr bys, .map (some B5), .int .i64 (((min A.a.S.length A.b.S.length) : Nat) : Int), .func (.func f) #[] cap.toArray].toArray 109)] :: [(B2, .cells [ptr bx, ptr bys].toArray 24)] :: D.seg dt :: [(B3, mapO (stale0 true (min A.a.S.length A.b.S.length)) (if true then 0 else (min A.a.S.length A.b.S.length)))] :: H) (fun j => j ≤ (min A.a.S.length A.b.S.length)) (fun j => (min A.a.S.length A.b.S.length) - j) 0 (Nat.zero_le _) ⟨rfl, rfl, rfl, rfl, rfl, rfl, trivial⟩ (hsub_pick [0, 2, 1, 1, 0] rfl) (fun j hj => ?_)
    skip
    refine C_seq ?_
    refine C_seq ?_
    refine C_region ?_
    refine L_y rfl (y_move rfl) rfl ?_
    refine L_y rfl (y_move rfl) rfl ?_
    refine L_y rfl (y_nilCheck rfl) rfl ?_
    refine L_y rfl (y_fieldAddr rfl fl_109_1) rfl ?_
    refine L_y rfl (y_load rfl ag_3 (sees 1 0 rfl) rfl) rfl ?_
    refine L_y rfl (y_lss rfl rfl) rfl ?_
    refine L_y rfl (y_move rfl) rfl ?_
    refine L_case 42 rfl (fun hg7_7 => ?_) (fun hg7_7 => ?_)
    · have hj := of_decide_eq_true hg7_7
      refine L_y rfl (y_move rfl) rfl ?_
      refine L_y rfl (y_move rfl) rfl ?_
      refine L_y rfl (y_nilCheck rfl) rfl ?_
      refine L_y rfl (y_fieldAddr rfl fl_109_0) rfl ?_
      refine L_y rfl (y_indexA rfl rfl Try.underlying107 sz_106 (by omega) (by omega) (show _ = 2 from rfl)) rfl ?_
      refine L_y rfl (y_loadA rfl ag_106 sz_106 (sees 1 0 rfl) (Nat.le_of_ble_eq_true rfl) rfl) rfl ?_
      refine L_op rfl (op_call rfl rfl (fun a w => Try.call56 a w) rfl ?_)
      refine ((there_d h true).sub (hsub_pick [3] rfl)).mono ?_
      rintro _ _ ⟨rfl, rfl⟩
      rw [hq]
      refine ⟨_, rfl, ?_⟩
      refine L_y rfl (y_not rfl) rfl ?_
      refine L_y rfl (y_pick_t rfl rfl) rfl ?_
      refine L_nil ?_
      refine C_cond_t rfl ?_
      refine C_skip ?_
      refine C_seq ?_
      refine C_block ?_
      refine C_region ?_
      refine L_y rfl (y_move rfl) rfl ?_
      refine L_y rfl (y_move rfl) rfl ?_
      refine L_y rfl (y_nilCheck rfl) rfl ?_
      refine L_y rfl (y_fieldAddr rfl fl_109_0) rfl ?_
      refine L_y rfl (y_indexA rfl rfl Try.underlying107 sz_106 (by omega) (by omega) (show _ = 2 from rfl)) rfl ?_
      refine L_y rfl (y_fieldAddr rfl fl_106_1) rfl ?_
      refine L_y rfl (y_load rfl ag_70 (sees 2 0 rfl) rfl) rfl ?_
      refine L_y rfl (y_move rfl) rfl ?_
      refine L_op rfl (op_mapUpdate 1 0 rfl rfl rfl Try.underlying70 Try.underlying3 rfl rfl ?_)
      refine L_nil ?_
      refine C_region ?_
      refine L_y rfl (y_move rfl) rfl ?_
      refine L_y rfl (y_add rfl rfl (wi64 (by omega) (by omega))) rfl ?_
      refine L_y rfl (y_assign rfl) rfl ?_
      refine L_nil ?_
      refine ⟨j + 1, by omega, by omega, ⟨rfl, rfl, rfl, rfl, rfl, rfl, trivial⟩, ?_⟩
      rw [← (stN_put j).1, show mapO (kPut (stN j) j (j : Int)) (j + 1) = mapO (kPut (stN j) j (j : Int)) (kClk (stN j) j (j : Int)) from by rw [(stN_put j).2]]
      exact ((hsub (.cons_cons _ (.cons_cons _ (.cons_cons _ (.cons_cons _ (.cons_cons _ (.refl _))))))).trans (hsub_pick [1, 1, 1, 0, 0] rfl))
    · have hj := of_decide_eq_false hg7_7
      refine L_skip rfl rfl ?_
      refine L_skip rfl rfl ?_
      refine L_skip rfl rfl ?_
      refine L_skip rfl rfl ?_
      refine L_skip rfl rfl ?_
      refine L_skip rfl rfl ?_
      refine L_skip rfl rfl ?_
      refine L_skip rfl rfl ?_
      refine L_y rfl (y_pick_f rfl rfl) rfl ?_
      refine L_nil ?_
      refine C_cond_f rfl ?_
      refine C_exit ?_
      obtain rfl : j = (min A.a.S.length A.b.S.length) := by omega
      refine C_region ?_
      refine L_y rfl (y_add rfl rfl (show _ = (2 : Int) from rfl)) rfl ?_
      refine L_y rfl (y_move rfl) rfl ?_
      refine L_nil ?_
      refine In_round ?_
      refine C_seq ?_
      refine C_region ?_
      refine L_y rfl (y_lss rfl rfl) rfl ?_
      refine L_nil ?_
      refine C_seq ?_
      refine C_cond_f rfl ?_
      refine C_exit ?_
      refine C_seq ?_
      refine C_region ?_
      refine L_y rfl (y_move rfl) rfl ?_
      refine L_y rfl (y_assign rfl) rfl ?_
      refine L_nil ?_
      refine C_ret ?_
      refine B_ret (rv_tmp rfl rv_nil) ((hsub_flat (H := [_] :: [_] :: [_] :: D.seg dt :: H) (H' := Mi.seg 109 ⟨B1, B3, B5, bx, bys, (min A.a.S.length A.b.S.length), .func (.func f) #[] cap.toArray, stale0 true (min A.a.S.length A.b.S.length), (if true then 0 else (min A.a.S.length A.b.S.length)), stale0 false (min A.a.S.length A.b.S.length), (if false then 0 else (min A.a.S.length A.b.S.length))⟩ :: D.seg dt :: H) rfl).trans ((hsub (.cons_cons _ (.cons_cons _ (.cons_cons _ (.cons_cons _ (.cons _ (.refl _))))))).trans (hsub_pick [1, 3, 0, 1] rfl))) ?_
      exact ⟨B1, B3, B5, rfl, by simp only [mnew, stale0, hp, hq] <;> rfl⟩

set_option maxHeartbeats 4000000 in

theorem new_fn_ft {w0 : World} {H : Hp} {f : Nat} {cap : List Value} {D : Duo} {A : Da} {bx bys bp : Nat} (h : Two dt D A bx bys bp) (hp : thr A false = false) (hq : thr A true = true) : FnS Try.prog w0 31 #[ptr bx, ptr bys, .func (.func f) #[] cap.toArray] (D.seg dt :: H) (fun e H' => ∃ b r0 r1, e = .returned (ptr b) ∧ H' = (mnew A bx bys (.func (.func f) #[] cap.toArray) b r0 r1).seg 109 :: D.seg dt :: H) := by
  have hlen : A.a.S.length ≤ 4096 := (h.oks false).2.1
  refine FnS_intro (n := 64) (rs := [.tmp 6]) (vs := [ptr bx, ptr bys, .func (.func f) #[] cap.toArray]) Try.func31 rfl Try.ntmps31 rfl rfl ?_
  refine C_seq ?_
  refine C_region ?_
  refine L_y rfl (y_assign rfl) rfl ?_
  refine L_nil ?_
  refine C_seq ?_
  refine C_region ?_
  refine L_y rfl (y_move rfl) rfl ?_
  refine L_op rfl (op_call rfl rfl (fun a w => Try.call55 a w) rfl ?_)
  refine ((len_d h false).sub (hsub_pick [0] rfl)).mono ?_
  rintro _ _ ⟨rfl, rfl⟩
  refine ⟨_, rfl, ?_⟩
  refine L_y rfl (y_move rfl) rfl ?_
  refine L_op rfl (op_call rfl rfl (fun a w => Try.call55 a w) rfl ?_)
  refine ((len_d h true).sub (hsub_pick [0] rfl)).mono ?_
  rintro _ _ ⟨rfl, rfl⟩
  refine ⟨_, rfl, ?_⟩
  refine L_y rfl (y_minN rfl rfl) rfl ?_
  refine L_y rfl (y_move rfl) rfl ?_
  refine L_y rfl (y_build (vs := [(1, _), (2, _)]) (l := [.pointer none, .map none, .pointer none, .map none, .int .i64 (((min A.a.S.length A.b.S.length) : Nat) : Int), .func (.func f) #[] cap.toArray]) rfl pl_109 zl_109 (fill_cons (off := 4) (m := 1) (vs := [_]) rfl rfl rfl (Nat.le_of_ble_eq_true rfl) (fill_cons (off := 5) (m := 1) (vs := [_]) rfl rfl rfl (Nat.le_of_ble_eq_true rfl) rfl))) rfl ?_
  refine L_op rfl (op_box rfl rfl rfl (fun B1 => ?_))
  refine L_y rfl (y_assign rfl) rfl ?_
  refine L_nil ?_
  refine C_seq ?_
  refine C_seq ?_
  refine C_region ?_
  refine L_y rfl (y_move rfl) rfl ?_
  refine L_y rfl (y_move rfl) rfl ?_
  refine L_op rfl (op_buildSlice (vs := [(0, _), (1, _)]) rfl Try.underlying116 sz_24 zl_24 rfl (by decide) rfl rfl (fun B2 => ?_))
  refine L_y rfl (y_lenS rfl rfl Try.underlying116) rfl ?_
  refine L_y rfl (y_move rfl) rfl ?_
  refine L_nil ?_
  refine C_block ?_
  refine C_loopIn (In_round ?_)
  refine C_seq ?_
  refine C_region ?_
  refine L_y rfl (y_lss rfl rfl) rfl ?_
  refine L_nil ?_
  refine C_seq ?_
  refine C_cond_t rfl ?_
  refine C_skip ?_
  refine C_seq ?_
  refine C_block ?_
  refine C_seq ?_
  refine C_region ?_
  refine L_y rfl (y_move rfl) rfl ?_
  refine L_y rfl (y_indexS rfl rfl Try.underlying116 sz_24 (by omega) (by omega) (show _ = 0 from rfl)) rfl ?_
  refine L_y rfl (y_load rfl ag_24 (sees 0 0 rfl) rfl) rfl ?_
  refine L_y rfl (y_assign rfl) rfl ?_
  refine L_y rfl (y_assign rfl) rfl ?_
  refine L_nil ?_
  refine C_seq ?_
  refine C_region ?_
  refine L_y rfl (y_move rfl) rfl ?_
  refine L_y rfl (y_move rfl) rfl ?_
  refine L_y rfl (y_move rfl) rfl ?_
  refine L_op rfl (op_makeMap rfl (fun B3 => ?_))
  refine L_y rfl (y_build (vs := [(0, _), (1, _)]) (l := [ptr bx, .map (some B3)]) rfl pl_106 zl_106 (fill_cons (off := 0) (m := 1) (vs := [_]) rfl rfl rfl (Nat.le_of_ble_eq_true rfl) (fill_cons (off := 1) (m := 1) (vs := [_]) rfl rfl rfl (Nat.le_of_ble_eq_true rfl) rfl))) rfl ?_
  refine L_y rfl (y_nilCheck rfl) rfl ?_
  refine L_y rfl (y_fieldAddr rfl fl_109_0) rfl ?_
  refine L_y rfl (y_indexA rfl rfl Try.underlying107 sz_106 (by omega) (by omega) (show _ = 0 from rfl)) rfl ?_
  refine L_op rfl (op_store (vs := [ptr bx, .map (some B3)]) 2 0 rfl rfl rfl sz_106 rfl rfl (ones rfl) (Nat.le_of_ble_eq_true rfl) ?_)
  rw [show spl [.pointer none, .map none, .pointer none, .map none, .int .i64 (((min A.a.S.length A.b.S.length) : Nat) : Int), .func (.func f) #[] cap.toArray] 0 [ptr bx, .map (some B3)] = [ptr bx, .map (some B3), .pointer none, .map none, .int .i64 (((min A.a.S.length A.b.S.length) : Nat) : Int), .func (.func f) #[] cap.toArray] from rfl]
  refine L_nil ?_
  refine C_seq ?_
  refine C_region ?_
  refine L_y rfl (y_assign rfl) rfl ?_
  refine L_nil ?_
  refine C_block ?_
  refine C_loop (ι := Nat) (fun j => [(7, ptr B1), (8, .int .i64 0), (10, .int .i64 (j : Int)), (21, .slice (some ⟨B2, 0, none⟩) 2 2), (22, .int .i64 2), (23, .int .i64 0)]) (fun j => [(B3, mapO (stN j) j)] :: [(B1, .cells [ptr bx, .map (some B3), .pointer none, .map none, .int .i64 (((min A.a.S.length A.b.S.length) : Nat) : Int), .func (.func f) #[] cap.toArray].toArray 109)] :: [(B2, .cells [ptr bx, ptr bys].toArray 24)] :: D.seg dt :: H) (fun j => j ≤ (min A.a.S.length A.b.S.length)) (fun j => (min A.a.S.length A.b.S.length) - j) 0 (Nat.zero_le _) ⟨rfl, rfl, rfl, rfl, rfl, rfl, trivial⟩ (hsub_pick [0, 1, 0, 0] rfl) (fun j hj => ?_)
  skip
  refine C_seq ?_
  refine C_seq ?_
  refine C_region ?_
  refine L_y rfl (y_move rfl) rfl ?_
  refine L_y rfl (y_move rfl) rfl ?_
  refine L_y rfl (y_nilCheck rfl) rfl ?_
  refine L_y rfl (y_fieldAddr rfl fl_109_1) rfl ?_
  refine L_y rfl (y_load rfl ag_3 (sees 1 0 rfl) rfl) rfl ?_
  refine L_y rfl (y_lss rfl rfl) rfl ?_
  refine L_y rfl (y_move rfl) rfl ?_
  refine L_case 42 rfl (fun hg7_7 => ?_) (fun hg7_7 => ?_)
  · have hj := of_decide_eq_true hg7_7
    refine L_y rfl (y_move rfl) rfl ?_
    refine L_y rfl (y_move rfl) rfl ?_
    refine L_y rfl (y_nilCheck rfl) rfl ?_
    refine L_y rfl (y_fieldAddr rfl fl_109_0) rfl ?_
    refine L_y rfl (y_indexA rfl rfl Try.underlying107 sz_106 (by omega) (by omega) (show _ = 0 from rfl)) rfl ?_
    refine L_y rfl (y_loadA rfl ag_106 sz_106 (sees 1 0 rfl) (Nat.le_of_ble_eq_true rfl) rfl) rfl ?_
    refine L_op rfl (op_call rfl rfl (fun a w => Try.call56 a w) rfl ?_)
    refine ((there_d h false).sub (hsub_pick [3] rfl)).mono ?_
    rintro _ _ ⟨rfl, rfl⟩
    rw [hp]
    refine ⟨_, rfl, ?_⟩
    refine L_y rfl (y_not rfl) rfl ?_
    refine L_y rfl (y_pick_t rfl rfl) rfl ?_
    refine L_nil ?_
    refine C_cond_t rfl ?_
    refine C_skip ?_
    refine C_seq ?_
    refine C_block ?_
    refine C_region ?_
    refine L_y rfl (y_move rfl) rfl ?_
    refine L_y rfl (y_move rfl) rfl ?_
    refine L_y rfl (y_nilCheck rfl) rfl ?_
    refine L_y rfl (y_fieldAddr rfl fl_109_0) rfl ?_
    refine L_y rfl (y_indexA rfl rfl Try.underlying107 sz_106 (by omega) (by omega) (show _ = 0 from rfl)) rfl ?_
    refine L_y rfl (y_fieldAddr rfl fl_106_1) rfl ?_
    refine L_y rfl (y_load rfl ag_70 (sees 2 0 rfl) rfl) rfl ?_
    refine L_y rfl (y_move rfl) rfl ?_
    refine L_op rfl (op_mapUpdate 1 0 rfl rfl rfl Try.underlying70 Try.underlying3 rfl rfl ?_)
    refine L_nil ?_
    refine C_region ?_
    refine L_y rfl (y_move rfl) rfl ?_
    refine L_y rfl (y_add rfl rfl (wi64 (by omega) (by omega))) rfl ?_
    refine L_y rfl (y_assign rfl) rfl ?_
    refine L_nil ?_
    refine ⟨j + 1, by omega, by omega, ⟨rfl, rfl, rfl, rfl, rfl, rfl, trivial⟩, ?_⟩
    rw [← (stN_put j).1, show mapO (kPut (stN j) j (j : Int)) (j + 1) = mapO (kPut (stN j) j (j : Int)) (kClk (stN j) j (j : Int)) from by rw [(stN_put j).2]]
    exact ((hsub (.cons_cons _ (.cons_cons _ (.cons_cons _ (.cons_cons _ (.refl _)))))).trans (hsub_pick [1, 1, 1, 0] rfl))
  · have hj := of_decide_eq_false hg7_7
    refine L_skip rfl rfl ?_
    refine L_skip rfl rfl ?_
    refine L_skip rfl rfl ?_
    refine L_skip rfl rfl ?_
    refine L_skip rfl rfl ?_
    refine L_skip rfl rfl ?_
    refine L_skip rfl rfl ?_
    refine L_skip rfl rfl ?_
    refine L_y rfl (y_pick_f rfl rfl) rfl ?_
    refine L_nil ?_
    refine C_cond_f rfl ?_
    refine C_exit ?_
    obtain rfl : j = (min A.a.S.length A.b.S.length) := by omega
    refine C_region ?_
    refine L_y rfl (y_add rfl rfl (show _ = (1 : Int) from rfl)) rfl ?_
    refine L_y rfl (y_move rfl) rfl ?_
    refine L_nil ?_
    refine In_round ?_
    refine C_seq ?_
    refine C_region ?_
    refine L_y rfl (y_lss rfl rfl) rfl ?_
    refine L_nil ?_
    refine C_seq ?_
    refine C_cond_t rfl ?_
    refine C_skip ?_
    refine C_seq ?_
    refine C_block ?_
    refine C_seq ?_
    refine C_region ?_
    refine L_y rfl (y_move rfl) rfl ?_
    refine L_y rfl (y_indexS rfl rfl Try.underlying116 sz_24 (by omega) (by omega) (show _ = 1 from rfl)) rfl ?_
    refine L_y rfl (y_load rfl ag_24 (sees 2 0 rfl) rfl) rfl ?_
    refine L_y rfl (y_assign rfl) rfl ?_
    refine L_y rfl (y_assign rfl) rfl ?_
    refine L_nil ?_
    refine C_seq ?_
    refine C_region ?_
    refine L_y rfl (y_move rfl) rfl ?_
    refine L_y rfl (y_move rfl) rfl ?_
    refine L_y rfl (y_move rfl) rfl ?_
    refine L_op rfl (op_makeMap rfl (fun B4 => ?_))
    refine L_y rfl (y_build (vs := [(0, _), (1, _)]) (l := [ptr bys, .map (some B4)]) rfl pl_106 zl_106 (fill_cons (off := 0) (m := 1) (vs := [_]) rfl rfl rfl (Nat.le_of_ble_eq_true rfl) (fill_cons (off := 1) (m := 1) (vs := [_]) rfl rfl rfl (Nat.le_of_ble_eq_true rfl) rfl))) rfl ?_
    refine L_y rfl (y_nilCheck rfl) rfl ?_
    refine L_y rfl (y_fieldAddr rfl fl_109_0) rfl ?_
    refine L_y rfl (y_indexA rfl rfl Try.underlying107 sz_106 (by omega) (by omega) (show _ = 2 from rfl)) rfl ?_
    refine L_op rfl (op_store (vs := [ptr bys, .map (some B4)]) 2 0 rfl rfl rfl sz_106 rfl rfl (ones rfl) (Nat.le_of_ble_eq_true rfl) ?_)
    rw [show spl [ptr bx, .map (some B3), .pointer none, .map none, .int .i64 (((min A.a.S.length A.b.S.length) : Nat) : Int), .func (.func f) #[] cap.toArray] 2 [ptr bys, .map (some B4)] = [ptr bx, .map (some B3), ptr bys, .map (some B4), .int .i64 (((min A.a.S.length A.b.S.length) : Nat) : Int), .func (.func f) #[] cap.toArray] from rfl]
    refine L_nil ?_
    refine C_seq ?_
    refine C_region ?_
    refine L_y rfl (y_assign rfl) rfl ?_
    refine L_nil ?_
    refine C_block ?_
    refine C_loopIn (In_round ?_)
    refine C_seq ?_
    refine C_seq ?_
    refine C_region ?_
    refine L_y rfl (y_move rfl) rfl ?_
    refine L_y rfl (y_move rfl) rfl ?_
    refine L_y rfl (y_nilCheck rfl) rfl ?_
    refine L_y rfl (y_fieldAddr rfl fl_109_1) rfl ?_
    refine L_y rfl (y_load rfl ag_3 (sees 2 0 rfl) rfl) rfl ?_
    refine L_y rfl (y_lss rfl rfl) rfl ?_
    refine L_y rfl (y_move rfl) rfl ?_
    refine L_case 42 rfl (fun hg7_7 => ?_) (fun hg7_7 => ?_)
    · have hj := of_decide_eq_true hg7_7
      refine L_y rfl (y_move rfl) rfl ?_
      refine L_y rfl (y_move rfl) rfl ?_
      refine L_y rfl (y_nilCheck rfl) rfl ?_
      refine L_y rfl (y_fieldAddr rfl fl_109_0) rfl ?_
      refine L_y rfl (y_indexA rfl rfl Try.underlying107 sz_106 (by omega) (by omega) (show _ = 2 from rfl)) rfl ?_
      refine L_y rfl (y_loadA rfl ag_106 sz_106 (sees 2 0 rfl) (Nat.le_of_ble_eq_true rfl) rfl) rfl ?_
      refine L_op rfl (op_call rfl rfl (fun a w => Try.call56 a w) rfl ?_)
      refine ((there_d h true).sub (hsub_pick [4] rfl)).mono ?_
      rintro _ _ ⟨rfl, rfl⟩
      rw [hq]
      refine ⟨_, rfl, ?_⟩
      refine L_y rfl (y_not rfl) rfl ?_
      refine L_y rfl (y_pick_t rfl rfl) rfl ?_
      refine L_nil ?_
      refine C_cond_f rfl ?_
      refine C_exit ?_
      refine C_region ?_
      refine L_y rfl (y_add rfl rfl (show _ = (2 : Int) from rfl)) rfl ?_
      refine L_y rfl (y_move rfl) rfl ?_
      refine L_nil ?_
      refine In_round ?_
      refine C_seq ?_
      refine C_region ?_
      refine L_y rfl (y_lss rfl rfl) rfl ?_
      refine L_nil ?_
      refine C_seq ?_
      refine C_cond_f rfl ?_
      refine C_exit ?_
      refine C_seq ?_
      refine C_region ?_
      refine L_y rfl (y_move rfl) rfl ?_
      refine L_y rfl (y_assign rfl) rfl ?_
      refine L_nil ?_
      refine C_ret ?_
      refine B_ret (rv_tmp rfl rv_nil) ((hsub_flat (H := [_] :: [_] :: [_] :: D.seg dt :: H) (H' := Mi.seg 109 ⟨B1, B3, B4, bx, bys, (min A.a.S.length A.b.S.length), .func (.func f) #[] cap.toArray, stale0 false (min A.a.S.length A.b.S.length), (if false then 0 else (min A.a.S.length A.b.S.length)), stale0 true (min A.a.S.length A.b.S.length), (if true then 0 else (min A.a.S.length A.b.S.length))⟩ :: D.seg dt :: H) rfl).trans ((hsub (.cons_cons _ (.cons_cons _ (.cons_cons _ (.cons_cons _ (.cons _ (.refl _))))))).trans (hsub_pick [3, 2, 1, 0] rfl))) ?_
      exact ⟨B1, B3, B4, rfl, by simp only [mnew, stale0, hp, hq] <;> rfl⟩
    · have hj := of_decide_eq_false hg7_7
      refine L_skip rfl rfl ?_
      refine L_skip rfl rfl ?_
      refine L_skip rfl rfl ?_
      refine L_skip rfl rfl ?_
      refine L_skip rfl rfl ?_
      refine L_skip rfl rfl ?_
      refine L_skip rfl rfl ?_
      refine L_skip rfl rfl ?_
      refine L_y rfl (y_pick_f rfl rfl) rfl ?_
      refine L_nil ?_
      refine C_cond_f rfl ?_
      refine C_exit ?_
      refine C_region ?_
      refine L_y rfl (y_add rfl rfl (show _ = (2 : Int) from rfl)) rfl ?_
      refine L_y rfl (y_move rfl) rfl ?_
      refine L_nil ?_
      refine In_round ?_
      refine C_seq ?_
      refine C_region ?_
      refine L_y rfl (y_lss rfl rfl) rfl ?_
      refine L_nil ?_
      refine C_seq ?_
      refine C_cond_f rfl ?_
      refine C_exit ?_
      refine C_seq ?_
      refine C_region ?_
      refine L_y rfl (y_move rfl) rfl ?_
      refine L_y rfl (y_assign rfl) rfl ?_
      refine L_nil ?_
      refine C_ret ?_
      refine B_ret (rv_tmp rfl rv_nil) ((hsub_flat (H := [_] :: [_] :: [_] :: D.seg dt :: H) (H' := Mi.seg 109 ⟨B1, B3, B4, bx, bys, (min A.a.S.length A.b.S.length), .func (.func f) #[] cap.toArray, stale0 false (min A.a.S.length A.b.S.length), (if false then 0 else (min A.a.S.length A.b.S.length)), stale0 true (min A.a.S.length A.b.S.length), (if true then 0 else (min A.a.S.length A.b.S.length))⟩ :: D.seg dt :: H) rfl).trans ((hsub (.cons_cons _ (.cons_cons _ (.cons_cons _ (.cons_cons _ (.cons _ (.refl _))))))).trans (hsub_pick [2, 1, 0, 1] rfl))) ?_
      exact ⟨B1, B3, B4, rfl, by simp only [mnew, stale0, hp, hq] <;> rfl⟩

set_option maxHeartbeats 4000000 in

theorem new_fn_ff {w0 : World} {H : Hp} {f : Nat} {cap : List Value} {D : Duo} {A : Da} {bx bys bp : Nat} (h : Two dt D A bx bys bp) (hp : thr A false = false) (hq : thr A true = false) : FnS Try.prog w0 31 #[ptr bx, ptr bys, .func (.func f) #[] cap.toArray] (D.seg dt :: H) (fun e H' => ∃ b r0 r1, e = .returned (ptr b) ∧ H' = (mnew A bx bys (.func (.func f) #[] cap.toArray) b r0 r1).seg 109 :: D.seg dt :: H) := by
  have hlen : A.a.S.length ≤ 4096 := (h.oks false).2.1
  refine FnS_intro (n := 64) (rs := [.tmp 6]) (vs := [ptr bx, ptr bys, .func (.func f) #[] cap.toArray]) Try.func31 rfl Try.ntmps31 rfl rfl ?_
  refine C_seq ?_
  refine C_region ?_
  refine L_y rfl (y_assign rfl) rfl ?_
  refine L_nil ?_
  refine C_seq ?_
  refine C_region ?_
  refine L_y rfl (y_move rfl) rfl ?_
  refine L_op rfl (op_call rfl rfl (fun a w => Try.call55 a w) rfl ?_)
  refine ((len_d h false).sub (hsub_pick [0] rfl)).mono ?_
  rintro _ _ ⟨rfl, rfl⟩
  refine ⟨_, rfl, ?_⟩
  refine L_y rfl (y_move rfl) rfl ?_
  refine L_op rfl (op_call rfl rfl (fun a w => Try.call55 a w) rfl ?_)
  refine ((len_d h true).sub (hsub_pick [0] rfl)).mono ?_
  rintro _ _ ⟨rfl, rfl⟩
  refine ⟨_, rfl, ?_⟩
  refine L_y rfl (y_minN rfl rfl) rfl ?_
  refine L_y rfl (y_move rfl) rfl ?_
  refine L_y rfl (y_build (vs := [(1, _), (2, _)]) (l := [.pointer none, .map none, .pointer none, .map none, .int .i64 (((min A.a.S.length A.b.S.length) : Nat) : Int), .func (.func f) #[] cap.toArray]) rfl pl_109 zl_109 (fill_cons (off := 4) (m := 1) (vs := [_]) rfl rfl rfl (Nat.le_of_ble_eq_true rfl) (fill_cons (off := 5) (m := 1) (vs := [_]) rfl rfl rfl (Nat.le_of_ble_eq_true rfl) rfl))) rfl ?_
  refine L_op rfl (op_box rfl rfl rfl (fun B1 => ?_))
  refine L_y rfl (y_assign rfl) rfl ?_
  refine L_nil ?_
  refine C_seq ?_
  refine C_seq ?_
  refine C_region ?_
  refine L_y rfl (y_move rfl) rfl ?_
  refine L_y rfl (y_move rfl) rfl ?_
  refine L_op rfl (op_buildSlice (vs := [(0, _), (1, _)]) rfl Try.underlying116 sz_24 zl_24 rfl (by decide) rfl rfl (fun B2 => ?_))
  refine L_y rfl (y_lenS rfl rfl Try.underlying116) rfl ?_
  refine L_y rfl (y_move rfl) rfl ?_
  refine L_nil ?_
  refine C_block ?_
  refine C_loopIn (In_round ?_)
  refine C_seq ?_
  refine C_region ?_
  refine L_y rfl (y_lss rfl rfl) rfl ?_
  refine L_nil ?_
  refine C_seq ?_
  refine C_cond_t rfl ?_
  refine C_skip ?_
  refine C_seq ?_
  refine C_block ?_
  refine C_seq ?_
  refine C_region ?_
  refine L_y rfl (y_move rfl) rfl ?_
  refine L_y rfl (y_indexS rfl rfl Try.underlying116 sz_24 (by omega) (by omega) (show _ = 0 from rfl)) rfl ?_
  refine L_y rfl (y_load rfl ag_24 (sees 0 0 rfl) rfl) rfl ?_
  refine L_y rfl (y_assign rfl) rfl ?_
  refine L_y rfl (y_assign rfl) rfl ?_
  refine L_nil ?_
  refine C_seq ?_
  refine C_region ?_
  refine L_y rfl (y_move rfl) rfl ?_
  refine L_y rfl (y_move rfl) rfl ?_
  refine L_y rfl (y_move rfl) rfl ?_
  refine L_op rfl (op_makeMap rfl (fun B3 => ?_))
  refine L_y rfl (y_build (vs := [(0, _), (1, _)]) (l := [ptr bx, .map (some B3)]) rfl pl_106 zl_106 (fill_cons (off := 0) (m := 1) (vs := [_]) rfl rfl rfl (Nat.le_of_ble_eq_true rfl) (fill_cons (off := 1) (m := 1) (vs := [_]) rfl rfl rfl (Nat.le_of_ble_eq_true rfl) rfl))) rfl ?_
  refine L_y rfl (y_nilCheck rfl) rfl ?_
  refine L_y rfl (y_fieldAddr rfl fl_109_0) rfl ?_
  refine L_y rfl (y_indexA rfl rfl Try.underlying107 sz_106 (by omega) (by omega) (show _ = 0 from rfl)) rfl ?_
  refine L_op rfl (op_store (vs := [ptr bx, .map (some B3)]) 2 0 rfl rfl rfl sz_106 rfl rfl (ones rfl) (Nat.le_of_ble_eq_true rfl) ?_)
  rw [show spl [.pointer none, .map none, .pointer none, .map none, .int .i64 (((min A.a.S.length A.b.S.length) : Nat) : Int), .func (.func f) #[] cap.toArray] 0 [ptr bx, .map (some B3)] = [ptr bx, .map (some B3), .pointer none, .map none, .int .i64 (((min A.a.S.length A.b.S.length) : Nat) : Int), .func (.func f) #[] cap.toArray] from rfl]
  refine L_nil ?_
  refine C_seq ?_
  refine C_region ?_
  refine L_y rfl (y_assign rfl) rfl ?_
  refine L_nil ?_
  refine C_block ?_
  refine C_loop (ι := Nat) (fun j => [(7, ptr B1), (8, .int .i64 0), (10, .int .i64 (j : Int)), (21, .slice (some ⟨B2, 0, none⟩) 2 2), (22, .int .i64 2), (23, .int .i64 0)]) (fun j => [(B3, mapO (stN j) j)] :: [(B1, .cells [ptr bx, .map (some B3), .pointer none, .map none, .int .i64 (((min A.a.S.length A.b.S.length) : Nat) : Int), .func (.func f) #[] cap.toArray].toArray 109)] :: [(B2, .cells [ptr bx, ptr bys].toArray 24)] :: D.seg dt :: H) (fun j => j ≤ (min A.a.S.length A.b.S.length)) (fun j => (min A.a.S.length A.b.S.length) - j) 0 (Nat.zero_le _) ⟨rfl, rfl, rfl, rfl, rfl, rfl, trivial⟩ (hsub_pick [0, 1, 0, 0] rfl) (fun j hj => ?_)
  skip
  refine C_seq ?_
  refine C_seq ?_
  refine C_region ?_
  refine L_y rfl (y_move rfl) rfl ?_
  refine L_y rfl (y_move rfl) rfl ?_
  refine L_y rfl (y_nilCheck rfl) rfl ?_
  refine L_y rfl (y_fieldAddr rfl fl_109_1) rfl ?_
  refine L_y rfl (y_load rfl ag_3 (sees 1 0 rfl) rfl) rfl ?_
  refine L_y rfl (y_lss rfl rfl) rfl ?_
  refine L_y rfl (y_move rfl) rfl ?_
  refine L_case 42 rfl (fun hg7_7 => ?_) (fun hg7_7 => ?_)
  · have hj := of_decide_eq_true hg7_7
    refine L_y rfl (y_move rfl) rfl ?_
    refine L_y rfl (y_move rfl) rfl ?_
    refine L_y rfl (y_nilCheck rfl) rfl ?_
    refine L_y rfl (y_fieldAddr rfl fl_109_0) rfl ?_
    refine L_y rfl (y_indexA rfl rfl Try.underlying107 sz_106 (by omega) (by omega) (show _ = 0 from rfl)) rfl ?_
    refine L_y rfl (y_loadA rfl ag_106 sz_106 (sees 1 0 rfl) (Nat.le_of_ble_eq_true rfl) rfl) rfl ?_
    refine L_op rfl (op_call rfl rfl (fun a w => Try.call56 a w) rfl ?_)
    refine ((there_d h false).sub (hsub_pick [3] rfl)).mono ?_
    rintro _ _ ⟨rfl, rfl⟩
    rw [hp]
    refine ⟨_, rfl, ?_⟩
    refine L_y rfl (y_not rfl) rfl ?_
    refine L_y rfl (y_pick_t rfl rfl) rfl ?_
    refine L_nil ?_
    refine C_cond_t rfl ?_
    refine C_skip ?_
    refine C_seq ?_
    refine C_block ?_
    refine C_region ?_
    refine L_y rfl (y_move rfl) rfl ?_
    refine L_y rfl (y_move rfl) rfl ?_
    refine L_y rfl (y_nilCheck rfl) rfl ?_
    refine L_y rfl (y_fieldAddr rfl fl_109_0) rfl ?_
    refine L_y rfl (y_indexA rfl rfl Try.underlying107 sz_106 (by omega) (by omega) (show _ = 0 from rfl)) rfl ?_
    refine L_y rfl (y_fieldAddr rfl fl_106_1) rfl ?_
    refine L_y rfl (y_load rfl ag_70 (sees 2 0 rfl) rfl) rfl ?_
    refine L_y rfl (y_move rfl) rfl ?_
    refine L_op rfl (op_mapUpdate 1 0 rfl rfl rfl Try.underlying70 Try.underlying3 rfl rfl ?_)
    refine L_nil ?_
    refine C_region ?_
    refine L_y rfl (y_move rfl) rfl ?_
    refine L_y rfl (y_add rfl rfl (wi64 (by omega) (by omega))) rfl ?_
    refine L_y rfl (y_assign rfl) rfl ?_
    refine L_nil ?_
    refine ⟨j + 1, by omega, by omega, ⟨rfl, rfl, rfl, rfl, rfl, rfl, trivial⟩, ?_⟩
    rw [← (stN_put j).1, show mapO (kPut (stN j) j (j : Int)) (j + 1) = mapO (kPut (stN j) j (j : Int)) (kClk (stN j) j (j : Int)) from by rw [(stN_put j).2]]
    exact ((hsub (.cons_cons _ (.cons_cons _ (.cons_cons _ (.cons_cons _ (.refl _)))))).trans (hsub_pick [1, 1, 1, 0] rfl))
  · have hj := of_decide_eq_false hg7_7
    refine L_skip rfl rfl ?_
    refine L_skip rfl rfl ?_
    refine L_skip rfl rfl ?_
    refine L_skip rfl rfl ?_
    refine L_skip rfl rfl ?_
    refine L_skip rfl rfl ?_
    refine L_skip rfl rfl ?_
    refine L_skip rfl rfl ?_
    refine L_y rfl (y_pick_f rfl rfl) rfl ?_
    refine L_nil ?_
    refine C_cond_f rfl ?_
    refine C_exit ?_
    obtain rfl : j = (min A.a.S.length A.b.S.length) := by omega
    refine C_region ?_
    refine L_y rfl (y_add rfl rfl (show _ = (1 : Int) from rfl)) rfl ?_
    refine L_y rfl (y_move rfl) rfl ?_
    refine L_nil ?_
    refine In_round ?_
    refine C_seq ?_
    refine C_region ?_
    refine L_y rfl (y_lss rfl rfl) rfl ?_
    refine L_nil ?_
    refine C_seq ?_
    refine C_cond_t rfl ?_
    refine C_skip ?_
    refine C_seq ?_
    refine C_block ?_
    refine C_seq ?_
    refine C_region ?_
    refine L_y rfl (y_move rfl) rfl ?_
    refine L_y rfl (y_indexS rfl rfl Try.underlying116 sz_24 (by omega) (by omega) (show _ = 1 from rfl)) rfl ?_
    refine L_y rfl (y_load rfl ag_24 (sees 2 0 rfl) rfl) rfl ?_
    refine L_y rfl (y_assign rfl) rfl ?_
    refine L_y rfl (y_assign rfl) rfl ?_
    refine L_nil ?_
    refine C_seq ?_
    refine C_region ?_
    refine L_y rfl (y_move rfl) rfl ?_
    refine L_y rfl (y_move rfl) rfl ?_
    refine L_y rfl (y_move rfl) rfl ?_
    refine L_op rfl (op_makeMap rfl (fun B4 => ?_))
    refine L_y rfl (y_build (vs := [(0, _), (1, _)]) (l := [ptr bys, .map (some B4)]) rfl pl_106 zl_106 (fill_cons (off := 0) (m := 1) (vs := [_]) rfl rfl rfl (Nat.le_of_ble_eq_true rfl) (fill_cons (off := 1) (m := 1) (vs := [_]) rfl rfl rfl (Nat.le_of_ble_eq_true rfl) rfl))) rfl ?_
    refine L_y rfl (y_nilCheck rfl) rfl ?_
    refine L_y rfl (y_fieldAddr rfl fl_109_0) rfl ?_
    refine L_y rfl (y_indexA rfl rfl Try.underlying107 sz_106 (by omega) (by omega) (show _ = 2 from rfl)) rfl ?_
    refine L_op rfl (op_store (vs := [ptr bys, .map (some B4)]) 2 0 rfl rfl rfl sz_106 rfl rfl (ones rfl) (Nat.le_of_ble_eq_true rfl) ?_)
    rw [show spl [ptr bx, .map (some B3), .pointer none, .map none, .int .i64 (((min A.a.S.length A.b.S.length) : Nat) : Int), .func (.func f) #[] cap.toArray] 2 [ptr bys, .map (some B4)] = [ptr bx, .map (some B3), ptr bys, .map (some B4), .int .i64 (((min A.a.S.length A.b.S.length) : Nat) : Int), .func (.func f) #[] cap.toArray] from rfl]
    refine L_nil ?_
    refine C_seq ?_
    refine C_region ?_
    refine L_y rfl (y_assign rfl) rfl ?_
    refine L_nil ?_
    refine C_block ?_
    refine C_loop (ι := Nat) (fun j => [(7, ptr B1), (8, .int .i64 1), (10, .int .i64 (j : Int)), (21, .slice (some ⟨B2, 0, none⟩) 2 2), (22, .int .i64 2), (23, .int .i64 1)]) (fun j => [(B4, mapO (stN j) j)] :: [(B1, .cells [ptr bx, .map (some B3), ptr bys, .map (some B4), .int .i64 (((min A.a.S.length A.b.S.length) : Nat) : Int), .func (.func f) #[] cap.toArray].toArray 109)] :: [(B2, .cells [ptr bx, ptr bys].toArray 24)] :: D.seg dt :: [(B3, mapO (stale0 false (min A.a.S.length A.b.S.length)) (if false then 0 else (min A.a.S.length A.b.S.length)))] :: H) (fun j => j ≤ (min A.a.S.length A.b.S.length)) (fun j => (min A.a.S.length A.b.S.length) - j) 0 (Nat.zero_le _) ⟨rfl, rfl, rfl, rfl, rfl, rfl, trivial⟩ (hsub_pick [0, 1, 1, 1, 0] rfl) (fun j hj => ?_)
    skip
    refine C_seq ?_
    refine C_seq ?_
    refine C_region ?_
    refine L_y rfl (y_move rfl) rfl ?_
    refine L_y rfl (y_move rfl) rfl ?_
    refine L_y rfl (y_nilCheck rfl) rfl ?_
    refine L_y rfl (y_fieldAddr rfl fl_109_1) rfl ?_
    refine L_y rfl (y_load rfl ag_3 (sees 1 0 rfl) rfl) rfl ?_
    refine L_y rfl (y_lss rfl rfl) rfl ?_
    refine L_y rfl (y_move rfl) rfl ?_
    refine L_case 42 rfl (fun hg7_7 => ?_) (fun hg7_7 => ?_)
    · have hj := of_decide_eq_true hg7_7
      refine L_y rfl (y_move rfl) rfl ?_
      refine L_y rfl (y_move rfl) rfl ?_
      refine L_y rfl (y_nilCheck rfl) rfl ?_
      refine L_y rfl (y_fieldAddr rfl fl_109_0) rfl ?_
      refine L_y rfl (y_indexA rfl rfl Try.underlying107 sz_106 (by omega) (by omega) (show _ = 2 from rfl)) rfl ?_
      refine L_y rfl (y_loadA rfl ag_106 sz_106 (sees 1 0 rfl) (Nat.le_of_ble_eq_true rfl) rfl) rfl ?_
      refine L_op rfl (op_call rfl rfl (fun a w => Try.call56 a w) rfl ?_)
      refine ((there_d h true).sub (hsub_pick [3] rfl)).mono ?_
      rintro _ _ ⟨rfl, rfl⟩
      rw [hq]
      refine ⟨_, rfl, ?_⟩
      refine L_y rfl (y_not rfl) rfl ?_
      refine L_y rfl (y_pick_t rfl rfl) rfl ?_
      refine L_nil ?_
      refine C_cond_t rfl ?_
      refine C_skip ?_
      refine C_seq ?_
      refine C_block ?_
      refine C_region ?_
      refine L_y rfl (y_move rfl) rfl ?_
      refine L_y rfl (y_move rfl) rfl ?_
      refine L_y rfl (y_nilCheck rfl) rfl ?_
      refine L_y rfl (y_fieldAddr rfl fl_109_0) rfl ?_
      refine L_y rfl (y_indexA rfl rfl Try.underlying107 sz_106 (by omega) (by omega) (show _ = 2 from rfl)) rfl ?_
      refine L_y rfl (y_fieldAddr rfl fl_106_1) rfl ?_
      refine L_y rfl (y_load rfl ag_70 (sees 2 0 rfl) rfl) rfl ?_
      refine L_y rfl (y_move rfl) rfl ?_
      refine L_op rfl (op_mapUpdate 1 0 rfl rfl rfl Try.underlying70 Try.underlying3 rfl rfl ?_)
      refine L_nil ?_
      refine C_region ?_
      refine L_y rfl (y_move rfl) rfl ?_
      refine L_y rfl (y_add rfl rfl (wi64 (by omega) (by omega))) rfl ?_
      refine L_y rfl (y_assign rfl) rfl ?_
      refine L_nil ?_
      refine ⟨j + 1, by omega, by omega, ⟨rfl, rfl, rfl, rfl, rfl, rfl, trivial⟩, ?_⟩
      rw [← (stN_put j).1, show mapO (kPut (stN j) j (j : Int)) (j + 1) = mapO (kPut (stN j) j (j : Int)) (kClk (stN j) j (j : Int)) from by rw [(stN_put j).2]]
      exact ((hsub (.cons_cons _ (.cons_cons _ (.cons_cons _ (.cons_cons _ (.cons_cons _ (.refl _))))))).trans (hsub_pick [1, 1, 1, 0, 0] rfl))
    · have hj := of_decide_eq_false hg7_7
      refine L_skip rfl rfl ?_
      refine L_skip rfl rfl ?_
      refine L_skip rfl rfl ?_
      refine L_skip rfl rfl ?_
      refine L_skip rfl rfl ?_
      refine L_skip rfl rfl ?_
      refine L_skip rfl rfl ?_
      refine L_skip rfl rfl ?_
      refine L_y rfl (y_pick_f rfl rfl) rfl ?_
      refine L_nil ?_
      refine C_cond_f rfl ?_
      refine C_exit ?_
      obtain rfl : j = (min A.a.S.length A.b.S.length) := by omega
      refine C_region ?_
      refine L_y rfl (y_add rfl rfl (show _ = (2 : Int) from rfl)) rfl ?_
      refine L_y rfl (y_move rfl) rfl ?_
      refine L_nil ?_
      refine In_round ?_
      refine C_seq ?_
      refine C_region ?_
      refine L_y rfl (y_lss rfl rfl) rfl ?_
      refine L_nil ?_
      refine C_seq ?_
      refine C_cond_f rfl ?_
      refine C_exit ?_
      refine C_seq ?_
      refine C_region ?_
      refine L_y rfl (y_move rfl) rfl ?_
      refine L_y rfl (y_assign rfl) rfl ?_
      refine L_nil ?_
      refine C_ret ?_
      refine B_ret (rv_tmp rfl rv_nil) ((hsub_flat (H := [_] :: [_] :: [_] :: D.seg dt :: H) (H' := Mi.seg 109 ⟨B1, B3, B4, bx, bys, (min A.a.S.length A.b.S.length), .func (.func f) #[] cap.toArray, stale0 false (min A.a.S.length A.b.S.length), (if false then 0 else (min A.a.S.length A.b.S.length)), stale0 false (min A.a.S.length A.b.S.length), (if false then 0 else (min A.a.S.length A.b.S.length))⟩ :: D.seg dt :: H) rfl).trans ((hsub (.cons_cons _ (.cons_cons _ (.cons_cons _ (.cons_cons _ (.cons _ (.refl _))))))).trans (hsub_pick [1, 3, 0, 1] rfl))) ?_
      exact ⟨B1, B3, B4, rfl, by simp only [mnew, stale0, hp, hq] <;> rfl⟩

theorem mnew_fn {w0 : World} {H : Hp} {f : Nat} {cap : List Value} {D : Duo} {A : Da} {bx bys bp : Nat} (h : Two dt D A bx bys bp) : FnS Try.prog w0 31 #[ptr bx, ptr bys, .func (.func f) #[] cap.toArray] (D.seg dt :: H) (fun e H' => ∃ b r0 r1, e = .returned (ptr b) ∧ H' = (mnew A bx bys (.func (.func f) #[] cap.toArray) b r0 r1).seg 109 :: D.seg dt :: H) := by
  cases hp : thr A false <;> cases hq : thr A true
  · exact new_fn_ff h hp hq
  · exact new_fn_ft h hp hq
  · exact new_fn_tf h hp hq
  · exact new_fn_tt h hp hq

set_option maxHeartbeats 4000000 in

theorem new_nil_tt {w0 : World} {H : Hp} {D : Duo} {A : Da} {bx bys bp : Nat} (h : Two dt D A bx bys bp) (hp : thr A false = true) (hq : thr A true = true) : FnS Try.prog w0 31 #[ptr bx, ptr bys, .nilFunc] (D.seg dt :: H) (fun e H' => ∃ b r0 r1, e = .returned (ptr b) ∧ H' = (mnew A bx bys (.nilFunc) b r0 r1).seg 109 :: D.seg dt :: H) := by
  have hlen : A.a.S.length ≤ 4096 := (h.oks false).2.1
  refine FnS_intro (n := 64) (rs := [.tmp 6]) (vs := [ptr bx, ptr bys, .nilFunc]) Try.func31 rfl Try.ntmps31 rfl rfl ?_
  refine C_seq ?_
  refine C_region ?_
  refine L_y rfl (y_assign rfl) rfl ?_
  refine L_nil ?_
  refine C_seq ?_
  refine C_region ?_
  refine L_y rfl (y_move rfl) rfl ?_
  refine L_op rfl (op_call rfl rfl (fun a w => Try.call55 a w) rfl ?_)
  refine ((len_d h false).sub (hsub_pick [0] rfl)).mono ?_
  rintro _ _ ⟨rfl, rfl⟩
  refine ⟨_, rfl, ?_⟩
  refine L_y rfl (y_move rfl) rfl ?_
  refine L_op rfl (op_call rfl rfl (fun a w => Try.call55 a w) rfl ?_)
  refine ((len_d h true).sub (hsub_pick [0] rfl)).mono ?_
  rintro _ _ ⟨rfl, rfl⟩
  refine ⟨_, rfl, ?_⟩
  refine L_y rfl (y_minN rfl rfl) rfl ?_
  refine L_y rfl (y_move rfl) rfl ?_
  refine L_y rfl (y_build (vs := [(1, _), (2, _)]) (l := [.pointer none, .map none, .pointer none, .map none, .int .i64 (((min A.a.S.length A.b.S.length) : Nat) : Int), .nilFunc]) rfl pl_109 zl_109 (fill_cons (off := 4) (m := 1) (vs := [_]) rfl rfl rfl (Nat.le_of_ble_eq_true rfl) (fill_cons (off := 5) (m := 1) (vs := [_]) rfl rfl rfl (Nat.le_of_ble_eq_true rfl) rfl))) rfl ?_
  refine L_op rfl (op_box rfl rfl rfl (fun B1 => ?_))
  refine L_y rfl (y_assign rfl) rfl ?_
  refine L_nil ?_
  refine C_seq ?_
  refine C_seq ?_
  refine C_region ?_
  refine L_y rfl (y_move rfl) rfl ?_
  refine L_y rfl (y_move rfl) rfl ?_
  refine L_op rfl (op_buildSlice (vs := [(0, _), (1, _)]) rfl Try.underlying116 sz_24 zl_24 rfl (by decide) rfl rfl (fun B2 => ?_))
  refine L_y rfl (y_lenS rfl rfl Try.underlying116) rfl ?_
  refine L_y rfl (y_move rfl) rfl ?_
  refine L_nil ?_
  refine C_block ?_
  refine C_loopIn (In_round ?_)
  refine C_seq ?_
  refine C_region ?_
  refine L_y rfl (y_lss rfl rfl) rfl ?_
  refine L_nil ?_
  refine C_seq ?_
  refine C_cond_t rfl ?_
  refine C_skip ?_
  refine C_seq ?_
  refine C_block ?_
  refine C_seq ?_
  refine C_region ?_
  refine L_y rfl (y_move rfl) rfl ?_
  refine L_y rfl (y_indexS rfl rfl Try.underlying116 sz_24 (by omega) (by omega) (show _ = 0 from rfl)) rfl ?_
  refine L_y rfl (y_load rfl ag_24 (sees 0 0 rfl) rfl) rfl ?_
  refine L_y rfl (y_assign rfl) rfl ?_
  refine L_y rfl (y_assign rfl) rfl ?_
  refine L_nil ?_
  refine C_seq ?_
  refine C_region ?_
  refine L_y rfl (y_move rfl) rfl ?_
  refine L_y rfl (y_move rfl) rfl ?_
  refine L_y rfl (y_move rfl) rfl ?_
  refine L_op rfl (op_makeMap rfl (fun B3 => ?_))
  refine L_y rfl (y_build (vs := [(0, _), (1, _)]) (l := [ptr bx, .map (some B3)]) rfl pl_106 zl_106 (fill_cons (off := 0) (m := 1) (vs := [_]) rfl rfl rfl (Nat.le_of_ble_eq_true rfl) (fill_cons (off := 1) (m := 1) (vs := [_]) rfl rfl rfl (Nat.le_of_ble_eq_true rfl) rfl))) rfl ?_
  refine L_y rfl (y_nilCheck rfl) rfl ?_
  refine L_y rfl (y_fieldAddr rfl fl_109_0) rfl ?_
  refine L_y rfl (y_indexA rfl rfl Try.underlying107 sz_106 (by omega) (by omega) (show _ = 0 from rfl)) rfl ?_
  refine L_op rfl (op_store (vs := [ptr bx, .map (some B3)]) 2 0 rfl rfl rfl sz_106 rfl rfl (ones rfl) (Nat.le_of_ble_eq_true rfl) ?_)
  rw [show spl [.pointer none, .map none, .pointer none, .map none, .int .i64 (((min A.a.S.length A.b.S.length) : Nat) : Int), .nilFunc] 0 [ptr bx, .map (some B3)] = [ptr bx, .map (some B3), .pointer none, .map none, .int .i64 (((min A.a.S.length A.b.S.length) : Nat) : Int), .nilFunc] from rfl]
  refine L_nil ?_
  refine C_seq ?_
  refine C_region ?_
  refine L_y rfl (y_assign rfl) rfl ?_
  refine L_nil ?_
  refine C_block ?_
  refine C_loopIn (In_round ?_)
  refine C_seq ?_
  refine C_seq ?_
  refine C_region ?_
  refine L_y rfl (y_move rfl) rfl ?_
  refine L_y rfl (y_move rfl) rfl ?_
  refine L_y rfl (y_nilCheck rfl) rfl ?_
  refine L_y rfl (y_fieldAddr rfl fl_109_1) rfl ?_
  refine L_y rfl (y_load rfl ag_3 (sees 2 0 rfl) rfl) rfl ?_
  refine L_y rfl (y_lss rfl rfl) rfl ?_
  refine L_y rfl (y_move rfl) rfl ?_
  refine L_case 42 rfl (fun hg7_7 => ?_) (fun hg7_7 => ?_)
  · have hj := of_decide_eq_true hg7_7
    refine L_y rfl (y_move rfl) rfl ?_
    refine L_y rfl (y_move rfl) rfl ?_
    refine L_y rfl (y_nilCheck rfl) rfl ?_
    refine L_y rfl (y_fieldAddr rfl fl_109_0) rfl ?_
    refine L_y rfl (y_indexA rfl rfl Try.underlying107 sz_106 (by omega) (by omega) (show _ = 0 from rfl)) rfl ?_
    refine L_y rfl (y_loadA rfl ag_106 sz_106 (sees 2 0 rfl) (Nat.le_of_ble_eq_true rfl) rfl) rfl ?_
    refine L_op rfl (op_call rfl rfl (fun a w => Try.call56 a w) rfl ?_)
    refine ((there_d h false).sub (hsub_pick [3] rfl)).mono ?_
    rintro _ _ ⟨rfl, rfl⟩
    rw [hp]
    refine ⟨_, rfl, ?_⟩
    refine L_y rfl (y_not rfl) rfl ?_
    refine L_y rfl (y_pick_t rfl rfl) rfl ?_
    refine L_nil ?_
    refine C_cond_f rfl ?_
    refine C_exit ?_
    refine C_region ?_
    refine L_y rfl (y_add rfl rfl (show _ = (1 : Int) from rfl)) rfl ?_
    refine L_y rfl (y_move rfl) rfl ?_
    refine L_nil ?_
    refine In_round ?_
    refine C_seq ?_
    refine C_region ?_
    refine L_y rfl (y_lss rfl rfl) rfl ?_
    refine L_nil ?_
    refine C_seq ?_
    refine C_cond_t rfl ?_
    refine C_skip ?_
    refine C_seq ?_
    refine C_block ?_
    refine C_seq ?_
    refine C_region ?_
    refine L_y rfl (y_move rfl) rfl ?_
    refine L_y rfl (y_indexS rfl rfl Try.underlying116 sz_24 (by omega) (by omega) (show _ = 1 from rfl)) rfl ?_
    refine L_y rfl (y_load rfl ag_24 (sees 2 0 rfl) rfl) rfl ?_
    refine L_y rfl (y_assign rfl) rfl ?_
    refine L_y rfl (y_assign rfl) rfl ?_
    refine L_nil ?_
    refine C_seq ?_
    refine C_region ?_
    refine L_y rfl (y_move rfl) rfl ?_
    refine L_y rfl (y_move rfl) rfl ?_
    refine L_y rfl (y_move rfl) rfl ?_
    refine L_op rfl (op_makeMap rfl (fun B4 => ?_))
    refine L_y rfl (y_build (vs := [(0, _), (1, _)]) (l := [ptr bys, .map (some B4)]) rfl pl_106 zl_106 (fill_cons (off := 0) (m := 1) (vs := [_]) rfl rfl rfl (Nat.le_of_ble_eq_true rfl) (fill_cons (off := 1) (m := 1) (vs := [_]) rfl rfl rfl (Nat.le_of_ble_eq_true rfl) rfl))) rfl ?_
    refine L_y rfl (y_nilCheck rfl) rfl ?_
    refine L_y rfl (y_fieldAddr rfl fl_109_0) rfl ?_
    refine L_y rfl (y_indexA rfl rfl Try.underlying107 sz_106 (by omega) (by omega) (show _ = 2 from rfl)) rfl ?_
    refine L_op rfl (op_store (vs := [ptr bys, .map (some B4)]) 4 0 rfl rfl rfl sz_106 rfl rfl (ones rfl) (Nat.le_of_ble_eq_true rfl) ?_)
    rw [show spl [ptr bx, .map (some B3), .pointer none, .map none, .int .i64 (((min A.a.S.length A.b.S.length) : Nat) : Int), .nilFunc] 2 [ptr bys, .map (some B4)] = [ptr bx, .map (some B3), ptr bys, .map (some B4), .int .i64 (((min A.a.S.length A.b.S.length) : Nat) : Int), .nilFunc] from rfl]
    refine L_nil ?_
    refine C_seq ?_
    refine C_region ?_
    refine L_y rfl (y_assign rfl) rfl ?_
    refine L_nil ?_
    refine C_block ?_
    refine C_loopIn (In_round ?_)
    refine C_seq ?_
    refine C_seq ?_
    refine C_region ?_
    refine L_y rfl (y_move rfl) rfl ?_
    refine L_y rfl (y_move rfl) rfl ?_
    refine L_y rfl (y_nilCheck rfl) rfl ?_
    refine L_y rfl (y_fieldAddr rfl fl_109_1) rfl ?_
    refine L_y rfl (y_load rfl ag_3 (sees 4 0 rfl) rfl) rfl ?_
    refine L_y rfl (y_lss rfl rfl) rfl ?_
    refine L_y rfl (y_move rfl) rfl ?_
    refine L_case 42 rfl (fun hg7_7 => ?_) (fun hg7_7 => ?_)
    · have hj := of_decide_eq_true hg7_7
      refine L_y rfl (y_move rfl) rfl ?_
      refine L_y rfl (y_move rfl) rfl ?_
      refine L_y rfl (y_nilCheck rfl) rfl ?_
      refine L_y rfl (y_fieldAddr rfl fl_109_0) rfl ?_
      refine L_y rfl (y_indexA rfl rfl Try.underlying107 sz_106 (by omega) (by omega) (show _ = 2 from rfl)) rfl ?_
      refine L_y rfl (y_loadA rfl ag_106 sz_106 (sees 4 0 rfl) (Nat.le_of_ble_eq_true rfl) rfl) rfl ?_
      refine L_op rfl (op_call rfl rfl (fun a w => Try.call56 a w) rfl ?_)
      refine ((there_d h true).sub (hsub_pick [1] rfl)).mono ?_
      rintro _ _ ⟨rfl, rfl⟩
      rw [hq]
      refine ⟨_, rfl, ?_⟩
      refine L_y rfl (y_not rfl) rfl ?_
      refine L_y rfl (y_pick_t rfl rfl) rfl ?_
      refine L_nil ?_
      refine C_cond_f rfl ?_
      refine C_exit ?_
      refine C_region ?_
      refine L_y rfl (y_add rfl rfl (show _ = (2 : Int) from rfl)) rfl ?_
      refine L_y rfl (y_move rfl) rfl ?_
      refine L_nil ?_
      refine In_round ?_
      refine C_seq ?_
      refine C_region ?_
      refine L_y rfl (y_lss rfl rfl) rfl ?_
      refine L_nil ?_
      refine C_seq ?_
      refine C_cond_f rfl ?_
      refine C_exit ?_
      refine C_seq ?_
      refine C_region ?_
      refine L_y rfl (y_move rfl) rfl ?_
      refine L_y rfl (y_assign rfl) rfl ?_
      refine L_nil ?_
      refine C_ret ?_
      refine B_ret (rv_tmp rfl rv_nil) ((hsub_flat (H := [_] :: [_] :: [_] :: D.seg dt :: H) (H' := Mi.seg 109 ⟨B1, B3, B4, bx, bys, (min A.a.S.length A.b.S.length), .nilFunc, stale0 true (min A.a.S.length A.b.S.length), (if true then 0 else (min A.a.S.length A.b.S.length)), stale0 true (min A.a.S.length A.b.S.length), (if true then 0 else (min A.a.S.length A.b.S.length))⟩ :: D.seg dt :: H) rfl).trans ((hsub (.cons_cons _ (.cons_cons _ (.cons_cons _ (.cons_cons _ (.cons _ (.refl _))))))).trans (hsub_pick [4, 2, 1, 0] rfl))) ?_
      exact ⟨B1, B3, B4, rfl, by simp only [mnew, stale0, hp, hq] <;> rfl⟩
    · have hj := of_decide_eq_false hg7_7
      refine L_skip rfl rfl ?_
      refine L_skip rfl rfl ?_
      refine L_skip rfl rfl ?_
      refine L_skip rfl rfl ?_
      refine L_skip rfl rfl ?_
      refine L_skip rfl rfl ?_
      refine L_skip rfl rfl ?_
      refine L_skip rfl rfl ?_
      refine L_y rfl (y_pick_f rfl rfl) rfl ?_
      refine L_nil ?_
      refine C_cond_f rfl ?_
      refine C_exit ?_
      refine C_region ?_
      refine L_y rfl (y_add rfl rfl (show _ = (2 : Int) from rfl)) rfl ?_
      refine L_y rfl (y_move rfl) rfl ?_
      refine L_nil ?_
      refine In_round ?_
      refine C_seq ?_
      refine C_region ?_
      refine L_y rfl (y_lss rfl rfl) rfl ?_
      refine L_nil ?_
      refine C_seq ?_
      refine C_cond_f rfl ?_
      refine C_exit ?_
      refine C_seq ?_
      refine C_region ?_
      refine L_y rfl (y_move rfl) rfl ?_
      refine L_y rfl (y_assign rfl) rfl ?_
      refine L_nil ?_
      refine C_ret ?_
      refine B_ret (rv_tmp rfl rv_nil) ((hsub_flat (H := [_] :: [_] :: [_] :: D.seg dt :: H) (H' := Mi.seg 109 ⟨B1, B3, B4, bx, bys, (min A.a.S.length A.b.S.length), .nilFunc, stale0 true (min A.a.S.length A.b.S.length), (if true then 0 else (min A.a.S.length A.b.S.length)), stale0 true (min A.a.S.length A.b.S.length), (if true then 0 else (min A.a.S.length A.b.S.length))⟩ :: D.seg dt :: H) rfl).trans ((hsub (.cons_cons _ (.cons_cons _ (.cons_cons _ (.cons_cons _ (.cons _ (.refl _))))))).trans (hsub_pick [4, 2, 0, 0] rfl))) ?_
      exact ⟨B1, B3, B4, rfl, by simp only [mnew, stale0, hp, hq] <;> rfl⟩
  · have hj := of_decide_eq_false hg7_7
    refine L_skip rfl rfl ?_
    refine L_skip rfl rfl ?_
    refine L_skip rfl rfl ?_
    refine L_skip rfl rfl ?_
    refine L_skip rfl rfl ?_
    refine L_skip rfl rfl ?_
    refine L_skip rfl rfl ?_
    refine L_skip rfl rfl ?_
    refine L_y rfl (y_pick_f rfl rfl) rfl ?_
    refine L_nil ?_
    refine C_cond_f rfl ?_
    refine C_exit ?_
    refine C_region ?_
    refine L_y rfl (y_add rfl rfl (show _ = (1 : Int) from rfl)) rfl ?_
    refine L_y rfl (y_move rfl) rfl ?_
    refine L_nil ?_
    refine In_round ?_
    refine C_seq ?_
    refine C_region ?_
    refine L_y rfl (y_lss rfl rfl) rfl ?_
    refine L_nil ?_
    refine C_seq ?_
    refine C_cond_t rfl ?_
    refine C_skip ?_
    refine C_seq ?_
    refine C_block ?_
    refine C_seq ?_
    refine C_region ?_
    refine L_y rfl (y_move rfl) rfl ?_
    refine L_y rfl (y_indexS rfl rfl Try.underlying116 sz_24 (by omega) (by omega) (show _ = 1 from rfl)) rfl ?_
    refine L_y rfl (y_load rfl ag_24 (sees 1 0 rfl) rfl) rfl ?_
    refine L_y rfl (y_assign rfl) rfl ?_
    refine L_y rfl (y_assign rfl) rfl ?_
    refine L_nil ?_
    refine C_seq ?_
    refine C_region ?_
    refine L_y rfl (y_move rfl) rfl ?_
    refine L_y rfl (y_move rfl) rfl ?_
    refine L_y rfl (y_move rfl) rfl ?_
    refine L_op rfl (op_makeMap rfl (fun B5 => ?_))
    refine L_y rfl (y_build (vs := [(0, _), (1, _)]) (l := [ptr bys, .map (some B5)]) rfl pl_106 zl_106 (fill_cons (off := 0) (m := 1) (vs := [_]) rfl rfl rfl (Nat.le_of_ble_eq_true rfl) (fill_cons (off := 1) (m := 1) (vs := [_]) rfl rfl rfl (Nat.le_of_ble_eq_true rfl) rfl))) rfl ?_
    refine L_y rfl (y_nilCheck rfl) rfl ?_
    refine L_y rfl (y_fieldAddr rfl fl_109_0) rfl ?_
    refine L_y rfl (y_indexA rfl rfl Try.underlying107 sz_106 (by omega) (by omega) (show _ = 2 from rfl)) rfl ?_
    refine L_op rfl (op_store (vs := [ptr bys, .map (some B5)]) 3 0 rfl rfl rfl sz_106 rfl rfl (ones rfl) (Nat.le_of_ble_eq_true rfl) ?_)
    rw [show spl [ptr bx, .map (some B3), .pointer none, .map none, .int .i64 (((min A.a.S.length A.b.S.length) : Nat) : Int), .nilFunc] 2 [ptr bys, .map (some B5)] = [ptr bx, .map (some B3), ptr bys, .map (some B5), .int .i64 (((min A.a.S.length A.b.S.length) : Nat) : Int), .nilFunc] from rfl]
    refine L_nil ?_
    refine C_seq ?_
    refine C_region ?_
    refine L_y rfl (y_assign rfl) rfl ?_
    refine L_nil ?_
    refine C_block ?_
    refine C_loopIn (In_round ?_)
    refine C_seq ?_
    refine C_seq ?_
    refine C_region ?_
    refine L_y rfl (y_move rfl) rfl ?_
    refine L_y rfl (y_move rfl) rfl ?_
    refine L_y rfl (y_nilCheck rfl) rfl ?_
    refine L_y rfl (y_fieldAddr rfl fl_109_1) rfl ?_
    refine L_y rfl (y_load rfl ag_3 (sees 3 0 rfl) rfl) rfl ?_
    refine L_y rfl (y_lss rfl rfl) rfl ?_
    refine L_y rfl (y_move rfl) rfl ?_
    refine L_case 42 rfl (fun hg7_7 => ?_) (fun hg7_7 => ?_)
    · have hj := of_decide_eq_true hg7_7
      refine L_y rfl (y_move rfl) rfl ?_
      refine L_y rfl (y_move rfl) rfl ?_
      refine L_y rfl (y_nilCheck rfl) rfl ?_
      refine L_y rfl (y_fieldAddr rfl fl_109_0) rfl ?_
      refine L_y rfl (y_indexA rfl rfl Try.underlying107 sz_106 (by omega) (by omega) (show _ = 2 from rfl)) rfl ?_
      refine L_y rfl (y_loadA rfl ag_106 sz_106 (sees 3 0 rfl) (Nat.le_of_ble_eq_true rfl) rfl) rfl ?_
      refine L_op rfl (op_call rfl rfl (fun a w => Try.call56 a w) rfl ?_)
      refine ((there_d h true).sub (hsub_pick [4] rfl)).mono ?_
      rintro _ _ ⟨rfl, rfl⟩
      rw [hq]
      refine ⟨_, rfl, ?_⟩
      refine L_y rfl (y_not rfl) rfl ?_
      refine L_y rfl (y_pick_t rfl rfl) rfl ?_
      refine L_nil ?_
      refine C_cond_f rfl ?_
      refine C_exit ?_
      refine C_region ?_
      refine L_y rfl (y_add rfl rfl (show _ = (2 : Int) from rfl)) rfl ?_
      refine L_y rfl (y_move rfl) rfl ?_
      refine L_nil ?_
      refine In_round ?_
      refine C_seq ?_
      refine C_region ?_
      refine L_y rfl (y_lss rfl rfl) rfl ?_
      refine L_nil ?_
      refine C_seq ?_
      refine C_cond_f rfl ?_
      refine C_exit ?_
      refine C_seq ?_
      refine C_region ?_
      refine L_y rfl (y_move rfl) rfl ?_
      refine L_y rfl (y_assign rfl) rfl ?_
      refine L_nil ?_
      refine C_ret ?_
      refine B_ret (rv_tmp rfl rv_nil) ((hsub_flat (H := [_] :: [_] :: [_] :: D.seg dt :: H) (H' := Mi.seg 109 ⟨B1, B3, B5, bx, bys, (min A.a.S.length A.b.S.length), .nilFunc, stale0 true (min A.a.S.length A.b.S.length), (if true then 0 else (min A.a.S.length A.b.S.length)), stale0 true (min A.a.S.length A.b.S.length), (if true then 0 else (min A.a.S.length A.b.S.length))⟩ :: D.seg dt :: H) rfl).trans ((hsub (.cons_cons _ (.cons_cons _ (.cons_cons _ (.cons_cons _ (.cons _ (.refl _))))))).trans (hsub_pick [4, 2, 1, 0] rfl))) ?_
      exact ⟨B1, B3, B5, rfl, by simp only [mnew, stale0, hp, hq] <;> rfl⟩
    · have hj := of_decide_eq_false hg7_7
      refine L_skip rfl rfl ?_
      refine L_skip rfl rfl ?_
      refine L_skip rfl rfl ?_
      refine L_skip rfl rfl ?_
      refine L_skip rfl rfl ?_
      refine L_skip rfl rfl ?_
      refine L_skip rfl rfl ?_
      refine L_skip rfl rfl ?_
      refine L_y rfl (y_pick_f rfl rfl) rfl ?_
      refine L_nil ?_
      refine C_cond_f rfl ?_
      refine C_exit ?_
      refine C_region ?_
      refine L_y rfl (y_add rfl rfl (show _ = (2 : Int) from rfl)) rfl ?_
      refine L_y rfl (y_move rfl) rfl ?_
      refine L_nil ?_
      refine In_round ?_
      refine C_seq ?_
      refine C_region ?_
      refine L_y rfl (y_lss rfl rfl) rfl ?_
      refine L_nil ?_
      refine C_seq ?_
      refine C_cond_f rfl ?_
      refine C_exit ?_
      refine C_seq ?_
      refine C_region ?_
      refine L_y rfl (y_move rfl) rfl ?_
      refine L_y rfl (y_assign rfl) rfl ?_
      refine L_nil ?_
      refine C_ret ?_
      refine B_ret (rv_tmp rfl rv_nil) ((hsub_flat (H := [_] :: [_] :: [_] :: D.seg dt :: H) (H' := Mi.seg 109 ⟨B1, B3, B5, bx, bys, (min A.a.S.length A.b.S.length), .nilFunc, stale0 true (min A.a.S.length A.b.S.length), (if true then 0 else (min A.a.S.length A.b.S.length)), stale0 true (min A.a.S.length A.b.S.length), (if true then 0 else (min A.a.S.length A.b.S.length))⟩ :: D.seg dt :: H) rfl).trans ((hsub (.cons_cons _ (.cons_cons _ (.cons_cons _ (.cons_cons _ (.cons _ (.refl _))))))).trans (hsub_pick [3, 1, 0, 1] rfl))) ?_
      exact ⟨B1, B3, B5, rfl, by simp only [mnew, stale0, hp, hq] <;> rfl⟩

set_option maxHeartbeats 4000000 in

theorem new_nil_tf {w0 : World} {H : Hp} {D : Duo} {A : Da} {bx bys bp : Nat} (h : Two dt D A bx bys bp) (hp : thr A false = true) (hq : thr A true = false) : FnS Try.prog w0 31 #[ptr bx, ptr bys, .nilFunc] (D.seg dt :: H) (fun e H' => ∃ b r0 r1, e = .returned (ptr b) ∧ H' = (mnew A bx bys (.nilFunc) b r0 r1).seg 109 :: D.seg dt :: H) := by
  have hlen : A.a.S.length ≤ 4096 := (h.oks false).2.1
  refine FnS_intro (n := 64) (rs := [.tmp 6]) (vs := [ptr bx, ptr bys, .nilFunc]) Try.func31 rfl Try.ntmps31 rfl rfl ?_
  refine C_seq ?_
  refine C_region ?_
  refine L_y rfl (y_assign rfl) rfl ?_
  refine L_nil ?_
  refine C_seq ?_
  refine C_region ?_
  refine L_y rfl (y_move rfl) rfl ?_
  refine L_op rfl (op_call rfl rfl (fun a w => Try.call55 a w) rfl ?_)
  refine ((len_d h false).sub (hsub_pick [0] rfl)).mono ?_
  rintro _ _ ⟨rfl, rfl⟩
  refine ⟨_, rfl, ?_⟩
  refine L_y rfl (y_move rfl) rfl ?_
  refine L_op rfl (op_call rfl rfl (fun a w => Try.call55 a w) rfl ?_)
  refine ((len_d h true).sub (hsub_pick [0] rfl)).mono ?_
  rintro _ _ ⟨rfl, rfl⟩
  refine ⟨_, rfl, ?_⟩
  refine L_y rfl (y_minN rfl rfl) rfl ?_
  refine L_y rfl (y_move rfl) rfl ?_
  refine L_y rfl (y_build (vs := [(1, _), (2, _)]) (l := [.pointer none, .map none, .pointer none, .map none, .int .i64 (((min A.a.S.length A.b.S.length) : Nat) : Int), .nilFunc]) rfl pl_109 zl_109 (fill_cons (off := 4) (m := 1) (vs := [_]) rfl rfl rfl (Nat.le_of_ble_eq_true rfl) (fill_cons (off := 5) (m := 1) (vs := [_]) rfl rfl rfl (Nat.le_of_ble_eq_true rfl) rfl))) rfl ?_
  refine L_op rfl (op_box rfl rfl rfl (fun B1 => ?_))
  refine L_y rfl (y_assign rfl) rfl ?_
  refine L_nil ?_
  refine C_seq ?_
  refine C_seq ?_
  refine C_region ?_
  refine L_y rfl (y_move rfl) rfl ?_
  refine L_y rfl (y_move rfl) rfl ?_
  refine L_op rfl (op_buildSlice (vs := [(0, _), (1, _)]) rfl Try.underlying116 sz_24 zl_24 rfl (by decide) rfl rfl (fun B2 => ?_))
  refine L_y rfl (y_lenS rfl rfl Try.underlying116) rfl ?_
  refine L_y rfl (y_move rfl) rfl ?_
  refine L_nil ?_
  refine C_block ?_
  refine C_loopIn (In_round ?_)
  refine C_seq ?_
  refine C_region ?_
  refine L_y rfl (y_lss rfl rfl) rfl ?_
  refine L_nil ?_
  refine C_seq ?_
  refine C_cond_t rfl ?_
  refine C_skip ?_
  refine C_seq ?_
  refine C_block ?_
  refine C_seq ?_
  refine C_region ?_
  refine L_y rfl (y_move rfl) rfl ?_
  refine L_y rfl (y_indexS rfl rfl Try.underlying116 sz_24 (by omega) (by omega) (show _ = 0 from rfl)) rfl ?_
  refine L_y rfl (y_load rfl ag_24 (sees 0 0 rfl) rfl) rfl ?_
  refine L_y rfl (y_assign rfl) rfl ?_
  refine L_y rfl (y_assign rfl) rfl ?_
  refine L_nil ?_
  refine C_seq ?_
  refine C_region ?_
  refine L_y rfl (y_move rfl) rfl ?_
  refine L_y rfl (y_move rfl) rfl ?_
  refine L_y rfl (y_move rfl) rfl ?_
  refine L_op rfl (op_makeMap rfl (fun B3 => ?_))
  refine L_y rfl (y_build (vs := [(0, _), (1, _)]) (l := [ptr bx, .map (some B3)]) rfl pl_106 zl_106 (fill_cons (off := 0) (m := 1) (vs := [_]) rfl rfl rfl (Nat.le_of_ble_eq_true rfl) (fill_cons (off := 1) (m := 1) (vs := [_]) rfl rfl rfl (Nat.le_of_ble_eq_true rfl) rfl))) rfl ?_
  refine L_y rfl (y_nilCheck rfl) rfl ?_
  refine L_y rfl (y_fieldAddr rfl fl_109_0) rfl ?_
  refine L_y rfl (y_indexA rfl rfl Try.underlying107 sz_106 (by omega) (by omega) (show _ = 0 from rfl)) rfl ?_
  refine L_op rfl (op_store (vs := [ptr bx, .map (some B3)]) 2 0 rfl rfl rfl sz_106 rfl rfl (ones rfl) (Nat.le_of_ble_eq_true rfl) ?_)
  rw [show spl [.pointer none, .map none, .pointer none, .map none, .int .i64 (((min A.a.S.length A.b.S.length) : Nat) : Int), .nilFunc] 0 [ptr bx, .map (some B3)] = [ptr bx, .map (some B3), .pointer none, .map none, .int .i64 (((min A.a.S.length A.b.S.length) : Nat) : Int), .nilFunc] from rfl]
  refine L_nil ?_
  refine C_seq ?_
  refine C_region ?_
  refine L_y rfl (y_assign rfl) rfl ?_
  refine L_nil ?_
  refine C_block ?_
  refine C_loopIn (In_round ?_)
  refine C_seq ?_
  refine C_seq ?_
  refine C_region ?_
  refine L_y rfl (y_move rfl) rfl ?_
  refine L_y rfl (y_move rfl) rfl ?_
  refine L_y rfl (y_nilCheck rfl) rfl ?_
  refine L_y rfl (y_fieldAddr rfl fl_109_1) rfl ?_
  refine L_y rfl (y_load rfl ag_3 (sees 2 0 rfl) rfl) rfl ?_
  refine L_y rfl (y_lss rfl rfl) rfl ?_
  refine L_y rfl (y_move rfl) rfl ?_
  refine L_case 42 rfl (fun hg7_7 => ?_) (fun hg7_7 => ?_)
  · have hj := of_decide_eq_true hg7_7
    refine L_y rfl (y_move rfl) rfl ?_
    refine L_y rfl (y_move rfl) rfl ?_
    refine L_y rfl (y_nilCheck rfl) rfl ?_
    refine L_y rfl (y_fieldAddr rfl fl_109_0) rfl ?_
    refine L_y rfl (y_indexA rfl rfl Try.underlying107 sz_106 (by omega) (by omega) (show _ = 0 from rfl)) rfl ?_
    refine L_y rfl (y_loadA rfl ag_106 sz_106 (sees 2 0 rfl) (Nat.le_of_ble_eq_true rfl) rfl) rfl ?_
    refine L_op rfl (op_call rfl rfl (fun a w => Try.call56 a w) rfl ?_)
    refine ((there_d h false).sub (hsub_pick [3] rfl)).mono ?_
    rintro _ _ ⟨rfl, rfl⟩
    rw [hp]
    refine ⟨_, rfl, ?_⟩
    refine L_y rfl (y_not rfl) rfl ?_
    refine L_y rfl (y_pick_t rfl rfl) rfl ?_
    refine L_nil ?_
    refine C_cond_f rfl ?_
    refine C_exit ?_
    refine C_region ?_
    refine L_y rfl (y_add rfl rfl (show _ = (1 : Int) from rfl)) rfl ?_
    refine L_y rfl (y_move rfl) rfl ?_
    refine L_nil ?_
    refine In_round ?_
    refine C_seq ?_
    refine C_region ?_
    refine L_y rfl (y_lss rfl rfl) rfl ?_
    refine L_nil ?_
    refine C_seq ?_
    refine C_cond_t rfl ?_
    refine C_skip ?_
    refine C_seq ?_
    refine C_block ?_
    refine C_seq ?_
    refine C_region ?_
    refine L_y rfl (y_move rfl) rfl ?_
    refine L_y rfl (y_indexS rfl rfl Try.underlying116 sz_24 (by omega) (by omega) (show _ = 1 from rfl)) rfl ?_
    refine L_y rfl (y_load rfl ag_24 (sees 2 0 rfl) rfl) rfl ?_
    refine L_y rfl (y_assign rfl) rfl ?_
    refine L_y rfl (y_assign rfl) rfl ?_
    refine L_nil ?_
    refine C_seq ?_
    refine C_region ?_
    refine L_y rfl (y_move rfl) rfl ?_
    refine L_y rfl (y_move rfl) rfl ?_
    refine L_y rfl (y_move rfl) rfl ?_
    refine L_op rfl (op_makeMap rfl (fun B4 => ?_))
    refine L_y rfl (y_build (vs := [(0, _), (1, _)]) (l := [ptr bys, .map (some B4)]) rfl pl_106 zl_106 (fill_cons (off := 0) (m := 1) (vs := [_]) rfl rfl rfl (Nat.le_of_ble_eq_true rfl) (fill_cons (off := 1) (m := 1) (vs := [_]) rfl rfl rfl (Nat.le_of_ble_eq_true rfl) rfl))) rfl ?_
    refine L_y rfl (y_nilCheck rfl) rfl ?_
    refine L_y rfl (y_fieldAddr rfl fl_109_0) rfl ?_
    refine L_y rfl (y_indexA rfl rfl Try.underlying107 sz_106 (by omega) (by omega) (show _ = 2 from rfl)) rfl ?_
    refine L_op rfl (op_store (vs := [ptr bys, .map (some B4)]) 4 0 rfl rfl rfl sz_106 rfl rfl (ones rfl) (Nat.le_of_ble_eq_true rfl) ?_)
    rw [show spl [ptr bx, .map (some B3), .pointer none, .map none, .int .i64 (((min A.a.S.length A.b.S.length) : Nat) : Int), .nilFunc] 2 [ptr bys, .map (some B4)] = [ptr bx, .map (some B3), ptr bys, .map (some B4), .int .i64 (((min A.a.S.length A.b.S.length) : Nat) : Int), .nilFunc] from rfl]
    refine L_nil ?_
    refine C_seq ?_
    refine C_region ?_
    refine L_y rfl (y_assign rfl) rfl ?_
    refine L_nil ?_
    refine C_block ?_
    refine C_loop (ι := Nat) (fun j => [(7, ptr B1), (8, .int .i64 1), (10, .int .i64 (j : Int)), (21, .slice (some ⟨B2, 0, none⟩) 2 2), (22, .int .i64 2), (23, .int .i64 1)]) (fun j => [(B4, mapO (stN j) j)] :: [(B1, .cells [ptr bx, .map (some B3), ptr bys, .map (some B4), .int .i64 (((min A.a.S.length A.b.S.length) : Nat) : Int), .nilFunc].toArray 109)] :: [(B2, .cells [ptr bx, ptr bys].toArray 24)] :: D.seg dt :: [(B3, mapO (stale0 true (min A.a.S.length A.b.S.length)) (if true then 0 else (min A.a.S.length A.b.S.length)))] :: H) (fun j => j ≤ (min A.a.S.length A.b.S.length)) (fun j => (min A.a.S.length A.b.S.length) - j) 0 (Nat.zero_le _) ⟨rfl, rfl, rfl, rfl, rfl, rfl, trivial⟩ (hsub_pick [0, 3, 2, 0, 0] rfl) (fun j hj => ?_)
    skip
    refine C_seq ?_
    refine C_seq ?_
    refine C_region ?_
    refine L_y rfl (y_move rfl) rfl ?_
    refine L_y rfl (y_move rfl) rfl ?_
    refine L_y rfl (y_nilCheck rfl) rfl ?_
    refine L_y rfl (y_fieldAddr rfl fl_109_1) rfl ?_
    refine L_y rfl (y_load rfl ag_3 (sees 1 0 rfl) rfl) rfl ?_
    refine L_y rfl (y_lss rfl rfl) rfl ?_
    refine L_y rfl (y_move rfl) rfl ?_
    refine L_case 42 rfl (fun hg7_7 => ?_) (fun hg7_7 => ?_)
    · have hj := of_decide_eq_true hg7_7
      refine L_y rfl (y_move rfl) rfl ?_
      refine L_y rfl (y_move rfl) rfl ?_
      refine L_y rfl (y_nilCheck rfl) rfl ?_
      refine L_y rfl (y_fieldAddr rfl fl_109_0) rfl ?_
      refine L_y rfl (y_indexA rfl rfl Try.underlying107 sz_106 (by omega) (by omega) (show _ = 2 from rfl)) rfl ?_
      refine L_y rfl (y_loadA rfl ag_106 sz_106 (sees 1 0 rfl) (Nat.le_of_ble_eq_true rfl) rfl) rfl ?_
      refine L_op rfl (op_call rfl rfl (fun a w => Try.call56 a w) rfl ?_)
      refine ((there_d h true).sub (hsub_pick [3] rfl)).mono ?_
      rintro _ _ ⟨rfl, rfl⟩
      rw [hq]
      refine ⟨_, rfl, ?_⟩
      refine L_y rfl (y_not rfl) rfl ?_
      refine L_y rfl (y_pick_t rfl rfl) rfl ?_
      refine L_nil ?_
      refine C_cond_t rfl ?_
      refine C_skip ?_
      refine C_seq ?_
      refine C_block ?_
      refine C_region ?_
      refine L_y rfl (y_move rfl) rfl ?_
      refine L_y rfl (y_move rfl) rfl ?_
      refine L_y rfl (y_nilCheck rfl) rfl ?_
      refine L_y rfl (y_fieldAddr rfl fl_109_0) rfl ?_
      refine L_y rfl (y_indexA rfl rfl Try.underlying107 sz_106 (by omega) (by omega) (show _ = 2 from rfl)) rfl ?_
      refine L_y rfl (y_fieldAddr rfl fl_106_1) rfl ?_
      refine L_y rfl (y_load rfl ag_70 (sees 2 0 rfl) rfl) rfl ?_
      refine L_y rfl (y_move rfl) rfl ?_
      refine L_op rfl (op_mapUpdate 1 0 rfl rfl rfl Try.underlying70 Try.underlying3 rfl rfl ?_)
      refine L_nil ?_
      refine C_region ?_
      refine L_y rfl (y_move rfl) rfl ?_
      refine L_y rfl (y_add rfl rfl (wi64 (by omega) (by omega))) rfl ?_
      refine L_y rfl (y_assign rfl) rfl ?_
      refine L_nil ?_
      refine ⟨j + 1, by omega, by omega, ⟨rfl, rfl, rfl, rfl, rfl, rfl, trivial⟩, ?_⟩
      rw [← (stN_put j).1, show mapO (kPut (stN j) j (j : Int)) (j + 1) = mapO (kPut (stN j) j (j : Int)) (kClk (stN j) j (j : Int)) from by rw [(stN_put j).2]]
      exact ((hsub (.cons_cons _ (.cons_cons _ (.cons_cons _ (.cons_cons _ (.cons_cons _ (.refl _))))))).trans (hsub_pick [1, 1, 1, 0, 0] rfl))
    · have hj := of_decide_eq_false hg7_7
      refine L_skip rfl rfl ?_
      refine L_skip rfl rfl ?_
      refine L_skip rfl rfl ?_
      refine L_skip rfl rfl ?_
      refine L_skip rfl rfl ?_
      refine L_skip rfl rfl ?_
      refine L_skip rfl rfl ?_
      refine L_skip rfl rfl ?_
      refine L_y rfl (y_pick_f rfl rfl) rfl ?_
      refine L_nil ?_
      refine C_cond_f rfl ?_
      refine C_exit ?_
      obtain rfl : j = (min A.a.S.length A.b.S.length) := by omega
      refine C_region ?_
      refine L_y rfl (y_add rfl rfl (show _ = (2 : Int) from rfl)) rfl ?_
      refine L_y rfl (y_move rfl) rfl ?_
      refine L_nil ?_
      refine In_round ?_
      refine C_seq ?_
      refine C_region ?_
      refine L_y rfl (y_lss rfl rfl) rfl ?_
      refine L_nil ?_
      refine C_seq ?_
      refine C_cond_f rfl ?_
      refine C_exit ?_
      refine C_seq ?_
      refine C_region ?_
      refine L_y rfl (y_move rfl) rfl ?_
      refine L_y rfl (y_assign rfl) rfl ?_
      refine L_nil ?_
      refine C_ret ?_
      refine B_ret (rv_tmp rfl rv_nil) ((hsub_flat (H := [_] :: [_] :: [_] :: D.seg dt :: H) (H' := Mi.seg 109 ⟨B1, B3, B4, bx, bys, (min A.a.S.length A.b.S.length), .nilFunc, stale0 true (min A.a.S.length A.b.S.length), (if true then 0 else (min A.a.S.length A.b.S.length)), stale0 false (min A.a.S.length A.b.S.length), (if false then 0 else (min A.a.S.length A.b.S.length))⟩ :: D.seg dt :: H) rfl).trans ((hsub (.cons_cons _ (.cons_cons _ (.cons_cons _ (.cons_cons _ (.cons _ (.refl _))))))).trans (hsub_pick [1, 3, 0, 1] rfl))) ?_
      exact ⟨B1, B3, B4, rfl, by simp only [mnew, stale0, hp, hq] <;> rfl⟩
  · have hj := of_decide_eq_false hg7_7
    refine L_skip rfl rfl ?_
    refine L_skip rfl rfl ?_
    refine L_skip rfl rfl ?_
    refine L_skip rfl rfl ?_
    refine L_skip rfl rfl ?_
    refine L_skip rfl rfl ?_
    refine L_skip rfl rfl ?_
    refine L_skip rfl rfl ?_
    refine L_y rfl (y_pick_f rfl rfl) rfl ?_
    refine L_nil ?_
    refine C_cond_f rfl ?_
    refine C_exit ?_
    refine C_region ?_
    refine L_y rfl (y_add rfl rfl (show _ = (1 : Int) from rfl)) rfl ?_
    refine L_y rfl (y_move rfl) rfl ?_
    refine L_nil ?_
    refine In_round ?_
    refine C_seq ?_
    refine C_region ?_
    refine L_y rfl (y_lss rfl rfl) rfl ?_
    refine L_nil ?_
    refine C_seq ?_
    refine C_cond_t rfl ?_
    refine C_skip ?_
    refine C_seq ?_
    refine C_block ?_
    refine C_seq ?_
    refine C_region ?_
    refine L_y rfl (y_move rfl) rfl ?_
    refine L_y rfl (y_indexS rfl rfl Try.underlying116 sz_24 (by omega) (by omega) (show _ = 1 from rfl)) rfl ?_
    refine L_y rfl (y_load rfl ag_24 (sees 1 0 rfl) rfl) rfl ?_
    refine L_y rfl (y_assign rfl) rfl ?_
    refine L_y rfl (y_assign rfl) rfl ?_
    refine L_nil ?_
    refine C_seq ?_
    refine C_region ?_
    refine L_y rfl (y_move rfl) rfl ?_
    refine L_y rfl (y_move rfl) rfl ?_
    refine L_y rfl (y_move rfl) rfl ?_
    refine L_op rfl (op_makeMap rfl (fun B5 => ?_))
    refine L_y rfl (y_build (vs := [(0, _), (1, _)]) (l := [ptr bys, .map (some B5)]) rfl pl_106 zl_106 (fill_cons (off := 0) (m := 1) (vs := [_]) rfl rfl rfl (Nat.le_of_ble_eq_true rfl) (fill_cons (off := 1) (m := 1) (vs := [_]) rfl rfl rfl (Nat.le_of_ble_eq_true rfl) rfl))) rfl ?_
    refine L_y rfl (y_nilCheck rfl) rfl ?_
    refine L_y rfl (y_fieldAddr rfl fl_109_0) rfl ?_
    refine L_y rfl (y_indexA rfl rfl Try.underlying107 sz_106 (by omega) (by omega) (show _ = 2 from rfl)) rfl ?_
    refine L_op rfl (op_store (vs := [ptr bys, .map (some B5)]) 3 0 rfl rfl rfl sz_106 rfl rfl (ones rfl) (Nat.le_of_ble_eq_true rfl) ?_)
    rw [show spl [ptr bx, .map (some B3), .pointer none, .map none, .int .i64 (((min A.a.S.length A.b.S.length) : Nat) : Int), .nilFunc] 2 [ptr bys, .map (some B5)] = [ptr bx, .map (some B3), ptr bys, .map (some B5), .int .i64 (((min A.a.S.length A.b.S.length) : Nat) : Int), .nilFunc] from rfl]
    refine L_nil ?_
    refine C_seq ?_
    refine C_region ?_
    refine L_y rfl (y_assign rfl) rfl ?_
    refine L_nil ?_
    refine C_block ?_
    refine C_loop (ι := Nat) (fun j => [(7, ptr B1), (8, .int .i64 1), (10, .int .i64 (j : Int)), (21, .slice (some ⟨B2, 0, none⟩) 2 2), (22, .int .i64 2), (23, .int .i64 1)]) (fun j => [(B5, mapO (stN j) j)] :: [(B1, .cells [ptr bx, .map (some B3), ptr bys, .map (some B5), .int .i64 (((min A.a.S.length A.b.S.length) : Nat) : Int), .nilFunc].toArray 109)] :: [(B2, .cells [ptr bx, ptr bys].toArray 24)] :: D.seg dt :: [(B3, mapO (stale0 true (min A.a.S.length A.b.S.length)) (if true then 0 else (min A.a.S.length A.b.S.length)))] :: H) (fun j => j ≤ (min A.a.S.length A.b.S.length)) (fun j => (min A.a.S.length A.b.S.length) - j) 0 (Nat.zero_le _) ⟨rfl, rfl, rfl, rfl, rfl, rfl, trivial⟩ (hsub_pick [0, 2, 1, 1, 0] rfl) (fun j hj => ?_)
    skip
    refine C_seq ?_
    refine C_seq ?_
    refine C_region ?_
    refine L_y rfl (y_move rfl) rfl ?_
    refine L_y rfl (y_move rfl) rfl ?_
    refine L_y rfl (y_nilCheck rfl) rfl ?_
    refine L_y rfl (y_fieldAddr rfl fl_109_1) rfl ?_
    refine L_y rfl (y_load rfl ag_3 (sees 1 0 rfl) rfl) rfl ?_
    refine L_y rfl (y_lss rfl rfl) rfl ?_
    refine L_y rfl (y_move rfl) rfl ?_
    refine L_case 42 rfl (fun hg7_7 => ?_) (fun hg7_7 => ?_)
    · have hj := of_decide_eq_true hg7_7
      refine L_y rfl (y_move rfl) rfl ?_
      refine L_y rfl (y_move rfl) rfl ?_
      refine L_y rfl (y_nilCheck rfl) rfl ?_
      refine L_y rfl (y_fieldAddr rfl fl_109_0) rfl ?_
      refine L_y rfl (y_indexA rfl rfl Try.underlying107 sz_106 (by omega) (by omega) (show _ = 2 from rfl)) rfl ?_
      refine L_y rfl (y_loadA rfl ag_106 sz_106 (sees 1 0 rfl) (Nat.le_of_ble_eq_true rfl) rfl) rfl ?_
      refine L_op rfl (op_call rfl rfl (fun a w => Try.call56 a w) rfl ?_)
      refine ((there_d h true).sub (hsub_pick [3] rfl)).mono ?_
      rintro _ _ ⟨rfl, rfl⟩
      rw [hq]
      refine ⟨_, rfl, ?_⟩
      refine L_y rfl (y_not rfl) rfl ?_
      refine L_y rfl (y_pick_t rfl rfl) rfl ?_
      refine L_nil ?_
      refine C_cond_t rfl ?_
      refine C_skip ?_
      refine C_seq ?_
      refine C_block ?_
      refine C_region ?_
      refine L_y rfl (y_move rfl) rfl ?_
      refine L_y rfl (y_move rfl) rfl ?_
      refine L_y rfl (y_nilCheck rfl) rfl ?_
      refine L_y rfl (y_fieldAddr rfl fl_109_0) rfl ?_
      refine L_y rfl (y_indexA rfl rfl Try.underlying107 sz_106 (by omega) (by omega) (show _ = 2 from rfl)) rfl ?_
      refine L_y rfl (y_fieldAddr rfl fl_106_1) rfl ?_
      refine L_y rfl (y_load rfl ag_70 (sees 2 0 rfl) rfl) rfl ?_
      refine L_y rfl (y_move rfl) rfl ?_
      refine L_op rfl (op_mapUpdate 1 0 rfl rfl rfl Try.underlying70 Try.underlying3 rfl rfl ?_)
      refine L_nil ?_
      refine C_region ?_
      refine L_y rfl (y_move rfl) rfl ?_
      refine L_y rfl (y_add rfl rfl (wi64 (by omega) (by omega))) rfl ?_
      refine L_y rfl (y_assign rfl) rfl ?_
      refine L_nil ?_
      refine ⟨j + 1, by omega, by omega, ⟨rfl, rfl, rfl, rfl, rfl, rfl, trivial⟩, ?_⟩
      rw [← (stN_put j).1, show mapO (kPut (stN j) j (j : Int)) (j + 1) = mapO (kPut (stN j) j (j : Int)) (kClk (stN j) j (j : Int)) from by rw [(stN_put j).2]]
      exact ((hsub (.cons_cons _ (.cons_cons _ (.cons_cons _ (.cons_cons _ (.cons_cons _ (.refl _))))))).trans (hsub_pick [1, 1, 1, 0, 0] rfl))
    · have hj := of_decide_eq_false hg7_7
      refine L_skip rfl rfl ?_
      refine L_skip rfl rfl ?_
      refine L_skip rfl rfl ?_
      refine L_skip rfl rfl ?_
      refine L_skip rfl rfl ?_
      refine L_skip rfl rfl ?_
      refine L_skip rfl rfl ?_
      refine L_skip rfl rfl ?_
      refine L_y rfl (y_pick_f rfl rfl) rfl ?_
      refine L_nil ?_
      refine C_cond_f rfl ?_
      refine C_exit ?_
      obtain rfl : j = (min A.a.S.length A.b.S.length) := by omega
      refine C_region ?_
      refine L_y rfl (y_add rfl rfl (show _ = (2 : Int) from rfl)) rfl ?_
      refine L_y rfl (y_move rfl) rfl ?_
      refine L_nil ?_
      refine In_round ?_
      refine C_seq ?_
      refine C_region ?_
      refine L_y rfl (y_lss rfl rfl) rfl ?_
      refine L_nil ?_
      refine C_seq ?_
      refine C_cond_f rfl ?_
      refine C_exit ?_
      refine C_seq ?_
      refine C_region ?_
      refine L_y rfl (y_move rfl) rfl ?_
      refine L_y rfl (y_assign rfl) rfl ?_
      refine L_nil ?_
      refine C_ret ?_
      refine B_ret (rv_tmp rfl rv_nil) ((hsub_flat (H := [_] :: [_] :: [_] :: D.seg dt :: H) (H' := Mi.seg 109 ⟨B1, B3, B5, bx, bys, (min A.a.S.length A.b.S.length), .nilFunc, stale0 true (min A.a.S.length A.b.S.length), (if true then 0 else (min A.a.S.length A.b.S.length)), stale0 false (min A.a.S.length A.b.S.length), (if false then 0 else (min A.a.S.length A.b.S.length))⟩ :: D.seg dt :: H) rfl).trans ((hsub (.cons_cons _ (.cons_cons _ (.cons_cons _ (.cons_cons _ (.cons _ (.refl _))))))).trans (hsub_pick [1, 3, 0, 1] rfl))) ?_
      exact ⟨B1, B3, B5, rfl, by simp only [mnew, stale0, hp, hq] <;> rfl⟩

set_option maxHeartbeats 4000000 in

theorem new_nil_ft {w0 : World} {H : Hp} {D : Duo} {A : Da} {bx bys bp : Nat} (h : Two dt D A bx bys bp) (hp : thr A false = false) (hq : thr A true = true) : FnS Try.prog w0 31 #[ptr bx, ptr bys, .nilFunc] (D.seg dt :: H) (fun e H' => ∃ b r0 r1, e = .returned (ptr b) ∧ H' = (mnew A bx bys (.nilFunc) b r0 r1).seg 109 :: D.seg dt :: H) := by
  have hlen : A.a.S.length ≤ 4096 := (h.oks false).2.1
  refine FnS_intro (n := 64) (rs := [.tmp 6]) (vs := [ptr bx, ptr bys, .nilFunc]) Try.func31 rfl Try.ntmps31 rfl rfl ?_
  refine C_seq ?_
  refine C_region ?_
  refine L_y rfl (y_assign rfl) rfl ?_
  refine L_nil ?_
  refine C_seq ?_
  refine C_region ?_
  refine L_y rfl (y_move rfl) rfl ?_
  refine L_op rfl (op_call rfl rfl (fun a w => Try.call55 a w) rfl ?_)
  refine ((len_d h false).sub (hsub_pick [0] rfl)).mono ?_
  rintro _ _ ⟨rfl, rfl⟩
  refine ⟨_, rfl, ?_⟩
  refine L_y rfl (y_move rfl) rfl ?_
  refine L_op rfl (op_call rfl rfl (fun a w => Try.call55 a w) rfl ?_)
  refine ((len_d h true).sub (hsub_pick [0] rfl)).mono ?_
  rintro _ _ ⟨rfl, rfl⟩
  refine ⟨_, rfl, ?_⟩
  refine L_y rfl (y_minN rfl rfl) rfl ?_
  refine L_y rfl (y_move rfl) rfl ?_
  refine L_y rfl (y_build (vs := [(1, _), (2, _)]) (l := [.pointer none, .map none, .pointer none, .map none, .int .i64 (((min A.a.S.length A.b.S.length) : Nat) : Int), .nilFunc]) rfl pl_109 zl_109 (fill_cons (off := 4) (m := 1) (vs := [_]) rfl rfl rfl (Nat.le_of_ble_eq_true rfl) (fill_cons (off := 5) (m := 1) (vs := [_]) rfl rfl rfl (Nat.le_of_ble_eq_true rfl) rfl))) rfl ?_
  refine L_op rfl (op_box rfl rfl rfl (fun B1 => ?_))
  refine L_y rfl (y_assign rfl) rfl ?_
  refine L_nil ?_
  refine C_seq ?_
  refine C_seq ?_
  refine C_region ?_
  refine L_y rfl (y_move rfl) rfl ?_
  refine L_y rfl (y_move rfl) rfl ?_
  refine L_op rfl (op_buildSlice (vs := [(0, _), (1, _)]) rfl Try.underlying116 sz_24 zl_24 rfl (by decide) rfl rfl (fun B2 => ?_))
  refine L_y rfl (y_lenS rfl rfl Try.underlying116) rfl ?_
  refine L_y rfl (y_move rfl) rfl ?_
  refine L_nil ?_
  refine C_block ?_
  refine C_loopIn (In_round ?_)
  refine C_seq ?_
  refine C_region ?_
  refine L_y rfl (y_lss rfl rfl) rfl ?_
  refine L_nil ?_
  refine C_seq ?_
  refine C_cond_t rfl ?_
  refine C_skip ?_
  refine C_seq ?_
  refine C_block ?_
  refine C_seq ?_
  refine C_region ?_
  refine L_y rfl (y_move rfl) rfl ?_
  refine L_y rfl (y_indexS rfl rfl Try.underlying116 sz_24 (by omega) (by omega) (show _ = 0 from rfl)) rfl ?_
  refine L_y rfl (y_load rfl ag_24 (sees 0 0 rfl) rfl) rfl ?_
  refine L_y rfl (y_assign rfl) rfl ?_
  refine L_y rfl (y_assign rfl) rfl ?_
  refine L_nil ?_
  refine C_seq ?_
  refine C_region ?_
  refine L_y rfl (y_move rfl) rfl ?_
  refine L_y rfl (y_move rfl) rfl ?_
  refine L_y rfl (y_move rfl) rfl ?_
  refine L_op rfl (op_makeMap rfl (fun B3 => ?_))
  refine L_y rfl (y_build (vs := [(0, _), (1, _)]) (l := [ptr bx, .map (some B3)]) rfl pl_106 zl_106 (fill_cons (off := 0) (m := 1) (vs := [_]) rfl rfl rfl (Nat.le_of_ble_eq_true rfl) (fill_cons (off := 1) (m := 1) (vs := [_]) rfl rfl rfl (Nat.le_of_ble_eq_true rfl) rfl))) rfl ?_
  refine L_y rfl (y_nilCheck rfl) rfl ?_
  refine L_y rfl (y_fieldAddr rfl fl_109_0) rfl ?_
  refine L_y rfl (y_indexA rfl rfl Try.underlying107 sz_106 (by omega) (by omega) (show _ = 0 from rfl)) rfl ?_
  refine L_op rfl (op_store (vs := [ptr bx, .map (some B3)]) 2 0 rfl rfl rfl sz_106 rfl rfl (ones rfl) (Nat.le_of_ble_eq_true rfl) ?_)
  rw [show spl [.pointer none, .map none, .pointer none, .map none, .int .i64 (((min A.a.S.length A.b.S.length) : Nat) : Int), .nilFunc] 0 [ptr bx, .map (some B3)] = [ptr bx, .map (some B3), .pointer none, .map none, .int .i64 (((min A.a.S.length A.b.S.length) : Nat) : Int), .nilFunc] from rfl]
  refine L_nil ?_
  refine C_seq ?_
  refine C_region ?_
  refine L_y rfl (y_assign rfl) rfl ?_
  refine L_nil ?_
  refine C_block ?_
  refine C_loop (ι := Nat) (fun j => [(7, ptr B1), (8, .int .i64 0), (10, .int .i64 (j : Int)), (21, .slice (some ⟨B2, 0, none⟩) 2 2), (22, .int .i64 2), (23, .int .i64 0)]) (fun j => [(B3, mapO (stN j) j)] :: [(B1, .cells [ptr bx, .map (some B3), .pointer none, .map none, .int .i64 (((min A.a.S.length A.b.S.length) : Nat) : Int), .nilFunc].toArray 109)] :: [(B2, .cells [ptr bx, ptr bys].toArray 24)] :: D.seg dt :: H) (fun j => j ≤ (min A.a.S.length A.b.S.length)) (fun j => (min A.a.S.length A.b.S.length) - j) 0 (Nat.zero_le _) ⟨rfl, rfl, rfl, rfl, rfl, rfl, trivial⟩ (hsub_pick [0, 1, 0, 0] rfl) (fun j hj => ?_)
  skip
  refine C_seq ?_
  refine C_seq ?_
  refine C_region ?_
  refine L_y rfl (y_move rfl) rfl ?_
  refine L_y rfl (y_move rfl) rfl ?_
  refine L_y rfl (y_nilCheck rfl) rfl ?_
  refine L_y rfl (y_fieldAddr rfl fl_109_1) rfl ?_
  refine L_y rfl (y_load rfl ag_3 (sees 1 0 rfl) rfl) rfl ?_
  refine L_y rfl (y_lss rfl rfl) rfl ?_
  refine L_y rfl (y_move rfl) rfl ?_
  refine L_case 42 rfl (fun hg7_7 => ?_) (fun hg7_7 => ?_)
  · have hj := of_decide_eq_true hg7_7
    refine L_y rfl (y_move rfl) rfl ?_
    refine L_y rfl (y_move rfl) rfl ?_
    refine L_y rfl (y_nilCheck rfl) rfl ?_
    refine L_y rfl (y_fieldAddr rfl fl_109_0) rfl ?_
    refine L_y rfl (y_indexA rfl rfl Try.underlying107 sz_106 (by omega) (by omega) (show _ = 0 from rfl)) rfl ?_
    refine L_y rfl (y_loadA rfl ag_106 sz_106 (sees 1 0 rfl) (Nat.le_of_ble_eq_true rfl) rfl) rfl ?_
    refine L_op rfl (op_call rfl rfl (fun a w => Try.call56 a w) rfl ?_)
    refine ((there_d h false).sub (hsub_pick [3] rfl)).mono ?_
    rintro _ _ ⟨rfl, rfl⟩
    rw [hp]
    refine ⟨_, rfl, ?_⟩
    refine L_y rfl (y_not rfl) rfl ?_
    refine L_y rfl (y_pick_t rfl rfl) rfl ?_
    refine L_nil ?_
    refine C_cond_t rfl ?_
    refine C_skip ?_
    refine C_seq ?_
    refine C_block ?_
    refine C_region ?_
    refine L_y rfl (y_move rfl) rfl ?_
    refine L_y rfl (y_move rfl) rfl ?_
    refine L_y rfl (y_nilCheck rfl) rfl ?_
    refine L_y rfl (y_fieldAddr rfl fl_109_0) rfl ?_
    refine L_y rfl (y_indexA rfl rfl Try.underlying107 sz_106 (by omega) (by omega) (show _ = 0 from rfl)) rfl ?_
    refine L_y rfl (y_fieldAddr rfl fl_106_1) rfl ?_
    refine L_y rfl (y_load rfl ag_70 (sees 2 0 rfl) rfl) rfl ?_
    refine L_y rfl (y_move rfl) rfl ?_
    refine L_op rfl (op_mapUpdate 1 0 rfl rfl rfl Try.underlying70 Try.underlying3 rfl rfl ?_)
    refine L_nil ?_
    refine C_region ?_
    refine L_y rfl (y_move rfl) rfl ?_
    refine L_y rfl (y_add rfl rfl (wi64 (by omega) (by omega))) rfl ?_
    refine L_y rfl (y_assign rfl) rfl ?_
    refine L_nil ?_
    refine ⟨j + 1, by omega, by omega, ⟨rfl, rfl, rfl, rfl, rfl, rfl, trivial⟩, ?_⟩
    rw [← (stN_put j).1, show mapO (kPut (stN j) j (j : Int)) (j + 1) = mapO (kPut (stN j) j (j : Int)) (kClk (stN j) j (j : Int)) from by rw [(stN_put j).2]]
    exact ((hsub (.cons_cons _ (.cons_cons _ (.cons_cons _ (.cons_cons _ (.refl _)))))).trans (hsub_pick [1, 1, 1, 0] rfl))
  · have hj := of_decide_eq_false hg7_7
    refine L_skip rfl rfl ?_
    refine L_skip rfl rfl ?_
    refine L_skip rfl rfl ?_
    refine L_skip rfl rfl ?_
    refine L_skip rfl rfl ?_
    refine L_skip rfl rfl ?_
    refine L_skip rfl rfl ?_
    refine L_skip rfl rfl ?_
    refine L_y rfl (y_pick_f rfl rfl) rfl ?_
    refine L_nil ?_
    refine C_cond_f rfl ?_
    refine C_exit ?_
    obtain rfl : j = (min A.a.S.length A.b.S.length) := by omega
    refine C_region ?_
    refine L_y rfl (y_add rfl rfl (show _ = (1 : Int) from rfl)) rfl ?_
    refine L_y rfl (y_move rfl) rfl ?_
    refine L_nil ?_
    refine In_round ?_
    refine C_seq ?_
    refine C_region ?_
    refine L_y rfl (y_lss rfl rfl) rfl ?_
    refine L_nil ?_
    refine C_seq ?_
    refine C_cond_t rfl ?_
    refine C_skip ?_
    refine C_seq ?_
    refine C_block ?_
    refine C_seq ?_
    refine C_region ?_
    refine L_y rfl (y_move rfl) rfl ?_
    refine L_y rfl (y_indexS rfl rfl Try.underlying116 sz_24 (by omega) (by omega) (show _ = 1 from rfl)) rfl ?_
    refine L_y rfl (y_load rfl ag_24 (sees 2 0 rfl) rfl) rfl ?_
    refine L_y rfl (y_assign rfl) rfl ?_
    refine L_y rfl (y_assign rfl) rfl ?_
    refine L_nil ?_
    refine C_seq ?_
    refine C_region ?_
    refine L_y rfl (y_move rfl) rfl ?_
    refine L_y rfl (y_move rfl) rfl ?_
    refine L_y rfl (y_move rfl) rfl ?_
    refine L_op rfl (op_makeMap rfl (fun B4 => ?_))
    refine L_y rfl (y_build (vs := [(0, _), (1, _)]) (l := [ptr bys, .map (some B4)]) rfl pl_106 zl_106 (fill_cons (off := 0) (m := 1) (vs := [_]) rfl rfl rfl (Nat.le_of_ble_eq_true rfl) (fill_cons (off := 1) (m := 1) (vs := [_]) rfl rfl rfl (Nat.le_of_ble_eq_true rfl) rfl))) rfl ?_
    refine L_y rfl (y_nilCheck rfl) rfl ?_
    refine L_y rfl (y_fieldAddr rfl fl_109_0) rfl ?_
    refine L_y rfl (y_indexA rfl rfl Try.underlying107 sz_106 (by omega) (by omega) (show _ = 2 from rfl)) rfl ?_
    refine L_op rfl (op_store (vs := [ptr bys, .map (some B4)]) 2 0 rfl rfl rfl sz_106 rfl rfl (ones rfl) (Nat.le_of_ble_eq_true rfl) ?_)
    rw [show spl [ptr bx, .map (some B3), .pointer none, .map none, .int .i64 (((min A.a.S.length A.b.S.length) : Nat) : Int), .nilFunc] 2 [ptr bys, .map (some B4)] = [ptr bx, .map (some B3), ptr bys, .map (some B4), .int .i64 (((min A.a.S.length A.b.S.length) : Nat) : Int), .nilFunc] from rfl]
    refine L_nil ?_
    refine C_seq ?_
    refine C_region ?_
    refine L_y rfl (y_assign rfl) rfl ?_
    refine L_nil ?_
    refine C_block ?_
    refine C_loopIn (In_round ?_)
    refine C_seq ?_
    refine C_seq ?_
    refine C_region ?_
    refine L_y rfl (y_move rfl) rfl ?_
    refine L_y rfl (y_move rfl) rfl ?_
    refine L_y rfl (y_nilCheck rfl) rfl ?_
    refine L_y rfl (y_fieldAddr rfl fl_109_1) rfl ?_
    refine L_y rfl (y_load rfl ag_3 (sees 2 0 rfl) rfl) rfl ?_
    refine L_y rfl (y_lss rfl rfl) rfl ?_
    refine L_y rfl (y_move rfl) rfl ?_
    refine L_case 42 rfl (fun hg7_7 => ?_) (fun hg7_7 => ?_)
    · have hj := of_decide_eq_true hg7_7
      refine L_y rfl (y_move rfl) rfl ?_
      refine L_y rfl (y_move rfl) rfl ?_
      refine L_y rfl (y_nilCheck rfl) rfl ?_
      refine L_y rfl (y_fieldAddr rfl fl_109_0) rfl ?_
      refine L_y rfl (y_indexA rfl rfl Try.underlying107 sz_106 (by omega) (by omega) (show _ = 2 from rfl)) rfl ?_
      refine L_y rfl (y_loadA rfl ag_106 sz_106 (sees 2 0 rfl) (Nat.le_of_ble_eq_true rfl) rfl) rfl ?_
      refine L_op rfl (op_call rfl rfl (fun a w => Try.call56 a w) rfl ?_)
      refine ((there_d h true).sub (hsub_pick [4] rfl)).mono ?_
      rintro _ _ ⟨rfl, rfl⟩
      rw [hq]
      refine ⟨_, rfl, ?_⟩
      refine L_y rfl (y_not rfl) rfl ?_
      refine L_y rfl (y_pick_t rfl rfl) rfl ?_
      refine L_nil ?_
      refine C_cond_f rfl ?_
      refine C_exit ?_
      refine C_region ?_
      refine L_y rfl (y_add rfl rfl (show _ = (2 : Int) from rfl)) rfl ?_
      refine L_y rfl (y_move rfl) rfl ?_
      refine L_nil ?_
      refine In_round ?_
      refine C_seq ?_
      refine C_region ?_
      refine L_y rfl (y_lss rfl rfl) rfl ?_
      refine L_nil ?_
      refine C_seq ?_
      refine C_cond_f rfl ?_
      refine C_exit ?_
      refine C_seq ?_
      refine C_region ?_
      refine L_y rfl (y_move rfl) rfl ?_
      refine L_y rfl (y_assign rfl) rfl ?_
      refine L_nil ?_
      refine C_ret ?_
      refine B_ret (rv_tmp rfl rv_nil) ((hsub_flat (H := [_] :: [_] :: [_] :: D.seg dt :: H) (H' := Mi.seg 109 ⟨B1, B3, B4, bx, bys, (min A.a.S.length A.b.S.length), .nilFunc, stale0 false (min A.a.S.length A.b.S.length), (if false then 0 else (min A.a.S.length A.b.S.length)), stale0 true (min A.a.S.length A.b.S.length), (if true then 0 else (min A.a.S.length A.b.S.length))⟩ :: D.seg dt :: H) rfl).trans ((hsub (.cons_cons _ (.cons_cons _ (.cons_cons _ (.cons_cons _ (.cons _ (.refl _))))))).trans (hsub_pick [3, 2, 1, 0] rfl))) ?_
      exact ⟨B1, B3, B4, rfl, by simp only [mnew, stale0, hp, hq] <;> rfl⟩
    · have hj := of_decide_eq_false hg7_7
      refine L_skip rfl rfl ?_
      refine L_skip rfl rfl ?_
      refine L_skip rfl rfl ?_
      refine L_skip rfl rfl ?_
      refine L_skip rfl rfl ?_
      refine L_skip rfl rfl ?_
      refine L_skip rfl rfl ?_
      refine L_skip rfl rfl ?_
      refine L_y rfl (y_pick_f rfl rfl) rfl ?_
      refine L_nil ?_
      refine C_cond_f rfl ?_
      refine C_exit ?_
      refine C_region ?_
      refine L_y rfl (y_add rfl rfl (show _ = (2 : Int) from rfl)) rfl ?_
      refine L_y rfl (y_move rfl) rfl ?_
      refine L_nil ?_
      refine In_round ?_
      refine C_seq ?_
      refine C_region ?_
      refine L_y rfl (y_lss rfl rfl) rfl ?_
      refine L_nil ?_
      refine C_seq ?_
      refine C_cond_f rfl ?_
      refine C_exit ?_
      refine C_seq ?_
      refine C_region ?_
      refine L_y rfl (y_move rfl) rfl ?_
      refine L_y rfl (y_assign rfl) rfl ?_
      refine L_nil ?_
      refine C_ret ?_
      refine B_ret (rv_tmp rfl rv_nil) ((hsub_flat (H := [_] :: [_] :: [_] :: D.seg dt :: H) (H' := Mi.seg 109 ⟨B1, B3, B4, bx, bys, (min A.a.S.length A.b.S.length), .nilFunc, stale0 false (min A.a.S.length A.b.S.length), (if false then 0 else (min A.a.S.length A.b.S.length)), stale0 true (min A.a.S.length A.b.S.length), (if true then 0 else (min A.a.S.length A.b.S.length))⟩ :: D.seg dt :: H) rfl).trans ((hsub (.cons_cons _ (.cons_cons _ (.cons_cons _ (.cons_cons _ (.cons _ (.refl _))))))).trans (hsub_pick [2, 1, 0, 1] rfl))) ?_
      exact ⟨B1, B3, B4, rfl, by simp only [mnew, stale0, hp, hq] <;> rfl⟩

set_option maxHeartbeats 4000000 in

theorem new_nil_ff {w0 : World} {H : Hp} {D : Duo} {A : Da} {bx bys bp : Nat} (h : Two dt D A bx bys bp) (hp : thr A false = false) (hq : thr A true = false) : FnS Try.prog w0 31 #[ptr bx, ptr bys, .nilFunc] (D.seg dt :: H) (fun e H' => ∃ b r0 r1, e = .returned (ptr b) ∧ H' = (mnew A bx bys (.nilFunc) b r0 r1).seg 109 :: D.seg dt :: H) := by
  have hlen : A.a.S.length ≤ 4096 := (h.oks false).2.1
  refine FnS_intro (n := 64) (rs := [.tmp 6]) (vs := [ptr bx, ptr bys, .nilFunc]) Try.func31 rfl Try.ntmps31 rfl rfl ?_
  refine C_seq ?_
  refine C_region ?_
  refine L_y rfl (y_assign rfl) rfl ?_
  refine L_nil ?_
  refine C_seq ?_
  refine C_region ?_
  refine L_y rfl (y_move rfl) rfl ?_
  refine L_op rfl (op_call rfl rfl (fun a w => Try.call55 a w) rfl ?_)
  refine ((len_d h false).sub (hsub_pick [0] rfl)).mono ?_
  rintro _ _ ⟨rfl, rfl⟩
  refine ⟨_, rfl, ?_⟩
  refine L_y rfl (y_move rfl) rfl ?_
  refine L_op rfl (op_call rfl rfl (fun a w => Try.call55 a w) rfl ?_)
  refine ((len_d h true).sub (hsub_pick [0] rfl)).mono ?_
  rintro _ _ ⟨rfl, rfl⟩
  refine ⟨_, rfl, ?_⟩
  refine L_y rfl (y_minN rfl rfl) rfl ?_
  refine L_y rfl (y_move rfl) rfl ?_
  refine L_y rfl (y_build (vs := [(1, _), (2, _)]) (l := [.pointer none, .map none, .pointer none, .map none, .int .i64 (((min A.a.S.length A.b.S.length) : Nat) : Int), .nilFunc]) rfl pl_109 zl_109 (fill_cons (off := 4) (m := 1) (vs := [_]) rfl rfl rfl (Nat.le_of_ble_eq_true rfl) (fill_cons (off := 5) (m := 1) (vs := [_]) rfl rfl rfl (Nat.le_of_ble_eq_true rfl) rfl))) rfl ?_
  refine L_op rfl (op_box rfl rfl rfl (fun B1 => ?_))
  refine L_y rfl (y_assign rfl) rfl ?_
  refine L_nil ?_
  refine C_seq ?_
  refine C_seq ?_
  refine C_region ?_
  refine L_y rfl (y_move rfl) rfl ?_
  refine L_y rfl (y_move rfl) rfl ?_
  refine L_op rfl (op_buildSlice (vs := [(0, _), (1, _)]) rfl Try.underlying116 sz_24 zl_24 rfl (by decide) rfl rfl (fun B2 => ?_))
  refine L_y rfl (y_lenS rfl rfl Try.underlying116) rfl ?_
  refine L_y rfl (y_move rfl) rfl ?_
  refine L_nil ?_
  refine C_block ?_
  refine C_loopIn (In_round ?_)
  refine C_seq ?_
  refine C_region ?_
  refine L_y rfl (y_lss rfl rfl) rfl ?_
  refine L_nil ?_
  refine C_seq ?_
  refine C_cond_t rfl ?_
  refine C_skip ?_
  refine C_seq ?_
  refine C_block ?_
  refine C_seq ?_
  refine C_region ?_
  refine L_y rfl (y_move rfl) rfl ?_
  refine L_y rfl (y_indexS rfl rfl Try.underlying116 sz_24 (by omega) (by omega) (show _ = 0 from rfl)) rfl ?_
  refine L_y rfl (y_load rfl ag_24 (sees 0 0 rfl) rfl) rfl ?_
  refine L_y rfl (y_assign rfl) rfl ?_
  refine L_y rfl (y_assign rfl) rfl ?_
  refine L_nil ?_
  refine C_seq ?_
  refine C_region ?_
  refine L_y rfl (y_move rfl) rfl ?_
  refine L_y rfl (y_move rfl) rfl ?_
  refine L_y rfl (y_move rfl) rfl ?_
  refine L_op rfl (op_makeMap rfl (fun B3 => ?_))
  refine L_y rfl (y_build (vs := [(0, _), (1, _)]) (l := [ptr bx, .map (some B3)]) rfl pl_106 zl_106 (fill_cons (off := 0) (m := 1) (vs := [_]) rfl rfl rfl (Nat.le_of_ble_eq_true rfl) (fill_cons (off := 1) (m := 1) (vs := [_]) rfl rfl rfl (Nat.le_of_ble_eq_true rfl) rfl))) rfl ?_
  refine L_y rfl (y_nilCheck rfl) rfl ?_
  refine L_y rfl (y_fieldAddr rfl fl_109_0) rfl ?_
  refine L_y rfl (y_indexA rfl rfl Try.underlying107 sz_106 (by omega) (by omega) (show _ = 0 from rfl)) rfl ?_
  refine L_op rfl (op_store (vs := [ptr bx, .map (some B3)]) 2 0 rfl rfl rfl sz_106 rfl rfl (ones rfl) (Nat.le_of_ble_eq_true rfl) ?_)
  rw [show spl [.pointer none, .map none, .pointer none, .map none, .int .i64 (((min A.a.S.length A.b.S.length) : Nat) : Int), .nilFunc] 0 [ptr bx, .map (some B3)] = [ptr bx, .map (some B3), .pointer none, .map none, .int .i64 (((min A.a.S.length A.b.S.length) : Nat) : Int), .nilFunc] from rfl]
  refine L_nil ?_
  refine C_seq ?_
  refine C_region ?_
  refine L_y rfl (y_assign rfl) rfl ?_
  refine L_nil ?_
  refine C_block ?_
  refine C_loop (ι := Nat) (fun j => [(7, ptr B1), (8, .int .i64 0), (10, .int .i64 (j : Int)), (21, .slice (some ⟨B2, 0, none⟩) 2 2), (22, .int .i64 2), (23, .int .i64 0)]) (fun j => [(B3, mapO (stN j) j)] :: [(B1, .cells [ptr bx, .map (some B3), .pointer none, .map none, .int .i64 (((min A.a.S.length A.b.S.length) : Nat) : Int), .nilFunc].toArray 109)] :: [(B2, .cells [ptr bx, ptr bys].toArray 24)] :: D.seg dt :: H) (fun j => j ≤ (min A.a.S.length A.b.S.length)) (fun j => (min A.a.S.length A.b.S.length) - j) 0 (Nat.zero_le _) ⟨rfl, rfl, rfl, rfl, rfl, rfl, trivial⟩ (hsub_pick [0, 1, 0, 0] rfl) (fun j hj => ?_)
  skip
  refine C_seq ?_
  refine C_seq ?_
  refine C_region ?_
  refine L_y rfl (y_move rfl) rfl ?_
  refine L_y rfl (y_move rfl) rfl ?_
  refine L_y rfl (y_nilCheck rfl) rfl ?_
  refine L_y rfl (y_fieldAddr rfl fl_109_1) rfl ?_
  refine L_y rfl (y_load rfl ag_3 (sees 1 0 rfl) rfl) rfl ?_
  refine L_y rfl (y_lss rfl rfl) rfl ?_
  refine L_y rfl (y_move rfl) rfl ?_
  refine L_case 42 rfl (fun hg7_7 => ?_) (fun hg7_7 => ?_)
  · have hj := of_decide_eq_true hg7_7
    refine L_y rfl (y_move rfl) rfl ?_
    refine L_y rfl (y_move rfl) rfl ?_
    refine L_y rfl (y_nilCheck rfl) rfl ?_
    refine L_y rfl (y_fieldAddr rfl fl_109_0) rfl ?_
    refine L_y rfl (y_indexA rfl rfl Try.underlying107 sz_106 (by omega) (by omega) (show _ = 0 from rfl)) rfl ?_
    refine L_y rfl (y_loadA rfl ag_106 sz_106 (sees 1 0 rfl) (Nat.le_of_ble_eq_true rfl) rfl) rfl ?_
    refine L_op rfl (op_call rfl rfl (fun a w => Try.call56 a w) rfl ?_)
    refine ((there_d h false).sub (hsub_pick [3] rfl)).mono ?_
    rintro _ _ ⟨rfl, rfl⟩
    rw [hp]
    refine ⟨_, rfl, ?_⟩
    refine L_y rfl (y_not rfl) rfl ?_
    refine L_y rfl (y_pick_t rfl rfl) rfl ?_
    refine L_nil ?_
    refine C_cond_t rfl ?_
    refine C_skip ?_
    refine C_seq ?_
    refine C_block ?_
    refine C_region ?_
    refine L_y rfl (y_move rfl) rfl ?_
    refine L_y rfl (y_move rfl) rfl ?_
    refine L_y rfl (y_nilCheck rfl) rfl ?_
    refine L_y rfl (y_fieldAddr rfl fl_109_0) rfl ?_
    refine L_y rfl (y_indexA rfl rfl Try.underlying107 sz_106 (by omega) (by omega) (show _ = 0 from rfl)) rfl ?_
    refine L_y rfl (y_fieldAddr rfl fl_106_1) rfl ?_
    refine L_y rfl (y_load rfl ag_70 (sees 2 0 rfl) rfl) rfl ?_
    refine L_y rfl (y_move rfl) rfl ?_
    refine L_op rfl (op_mapUpdate 1 0 rfl rfl rfl Try.underlying70 Try.underlying3 rfl rfl ?_)
    refine L_nil ?_
    refine C_region ?_
    refine L_y rfl (y_move rfl) rfl ?_
    refine L_y rfl (y_add rfl rfl (wi64 (by omega) (by omega))) rfl ?_
    refine L_y rfl (y_assign rfl) rfl ?_
    refine L_nil ?_
    refine ⟨j + 1, by omega, by omega, ⟨rfl, rfl, rfl, rfl, rfl, rfl, trivial⟩, ?_⟩
    rw [← (stN_put j).1, show mapO (kPut (stN j) j (j : Int)) (j + 1) = mapO (kPut (stN j) j (j : Int)) (kClk (stN j) j (j : Int)) from by rw [(stN_put j).2]]
    exact ((hsub (.cons_cons _ (.cons_cons _ (.cons_cons _ (.cons_cons _ (.refl _)))))).trans (hsub_pick [1, 1, 1, 0] rfl))
  · have hj := of_decide_eq_false hg7_7
    refine L_skip rfl rfl ?_
    refine L_skip rfl rfl ?_
    refine L_skip rfl rfl ?_
    refine L_skip rfl rfl ?_
    refine L_skip rfl rfl ?_
    refine L_skip rfl rfl ?_
    refine L_skip rfl rfl ?_
    refine L_skip rfl rfl ?_
    refine L_y rfl (y_pick_f rfl rfl) rfl ?_
    refine L_nil ?_
    refine C_cond_f rfl ?_
    refine C_exit ?_
    obtain rfl : j = (min A.a.S.length A.b.S.length) := by omega
    refine C_region ?_
    refine L_y rfl (y_add rfl rfl (show _ = (1 : Int) from rfl)) rfl ?_
    refine L_y rfl (y_move rfl) rfl ?_
    refine L_nil ?_
    refine In_round ?_
    refine C_seq ?_
    refine C_region ?_
    refine L_y rfl (y_lss rfl rfl) rfl ?_
    refine L_nil ?_
    refine C_seq ?_
    refine C_cond_t rfl ?_
    refine C_skip ?_
    refine C_seq ?_
    refine C_block ?_
    refine C_seq ?_
    refine C_region ?_
    refine L_y rfl (y_move rfl) rfl ?_
    refine L_y rfl (y_indexS rfl rfl Try.underlying116 sz_24 (by omega) (by omega) (show _ = 1 from rfl)) rfl ?_
    refine L_y rfl (y_load rfl ag_24 (sees 2 0 rfl) rfl) rfl ?_
    refine L_y rfl (y_assign rfl) rfl ?_
    refine L_y rfl (y_assign rfl) rfl ?_
    refine L_nil ?_
    refine C_seq ?_
    refine C_region ?_
    refine L_y rfl (y_move rfl) rfl ?_
    refine L_y rfl (y_move rfl) rfl ?_
    refine L_y rfl (y_move rfl) rfl ?_
    refine L_op rfl (op_makeMap rfl (fun B4 => ?_))
    refine L_y rfl (y_build (vs := [(0, _), (1, _)]) (l := [ptr bys, .map (some B4)]) rfl pl_106 zl_106 (fill_cons (off := 0) (m := 1) (vs := [_]) rfl rfl rfl (Nat.le_of_ble_eq_true rfl) (fill_cons (off := 1) (m := 1) (vs := [_]) rfl rfl rfl (Nat.le_of_ble_eq_true rfl) rfl))) rfl ?_
    refine L_y rfl (y_nilCheck rfl) rfl ?_
    refine L_y rfl (y_fieldAddr rfl fl_109_0) rfl ?_
    refine L_y rfl (y_indexA rfl rfl Try.underlying107 sz_106 (by omega) (by omega) (show _ = 2 from rfl)) rfl ?_
    refine L_op rfl (op_store (vs := [ptr bys, .map (some B4)]) 2 0 rfl rfl rfl sz_106 rfl rfl (ones rfl) (Nat.le_of_ble_eq_true rfl) ?_)
    rw [show spl [ptr bx, .map (some B3), .pointer none, .map none, .int .i64 (((min A.a.S.length A.b.S.length) : Nat) : Int), .nilFunc] 2 [ptr bys, .map (some B4)] = [ptr bx, .map (some B3), ptr bys, .map (some B4), .int .i64 (((min A.a.S.length A.b.S.length) : Nat) : Int), .nilFunc] from rfl]
    refine L_nil ?_
    refine C_seq ?_
    refine C_region ?_
    refine L_y rfl (y_assign rfl) rfl ?_
    refine L_nil ?_
    refine C_block ?_
    refine C_loop (ι := Nat) (fun j => [(7, ptr B1), (8, .int .i64 1), (10, .int .i64 (j : Int)), (21, .slice (some ⟨B2, 0, none⟩) 2 2), (22, .int .i64 2), (23, .int .i64 1)]) (fun j => [(B4, mapO (stN j) j)] :: [(B1, .cells [ptr bx, .map (some B3), ptr bys, .map (some B4), .int .i64 (((min A.a.S.length A.b.S.length) : Nat) : Int), .nilFunc].toArray 109)] :: [(B2, .cells [ptr bx, ptr bys].toArray 24)] :: D.seg dt :: [(B3, mapO (stale0 false (min A.a.S.length A.b.S.length)) (if false then 0 else (min A.a.S.length A.b.S.length)))] :: H) (fun j => j ≤ (min A.a.S.length A.b.S.length)) (fun j => (min A.a.S.length A.b.S.length) - j) 0 (Nat.zero_le _) ⟨rfl, rfl, rfl, rfl, rfl, rfl, trivial⟩ (hsub_pick [0, 1, 1, 1, 0] rfl) (fun j hj => ?_)
    skip
    refine C_seq ?_
    refine C_seq ?_
    refine C_region ?_
    refine L_y rfl (y_move rfl) rfl ?_
    refine L_y rfl (y_move rfl) rfl ?_
    refine L_y rfl (y_nilCheck rfl) rfl ?_
    refine L_y rfl (y_fieldAddr rfl fl_109_1) rfl ?_
    refine L_y rfl (y_load rfl ag_3 (sees 1 0 rfl) rfl) rfl ?_
    refine L_y rfl (y_lss rfl rfl) rfl ?_
    refine L_y rfl (y_move rfl) rfl ?_
    refine L_case 42 rfl (fun hg7_7 => ?_) (fun hg7_7 => ?_)
    · have hj := of_decide_eq_true hg7_7
      refine L_y rfl (y_move rfl) rfl ?_
      refine L_y rfl (y_move rfl) rfl ?_
      refine L_y rfl (y_nilCheck rfl) rfl ?_
      refine L_y rfl (y_fieldAddr rfl fl_109_0) rfl ?_
      refine L_y rfl (y_indexA rfl rfl Try.underlying107 sz_106 (by omega) (by omega) (show _ = 2 from rfl)) rfl ?_
      refine L_y rfl (y_loadA rfl ag_106 sz_106 (sees 1 0 rfl) (Nat.le_of_ble_eq_true rfl) rfl) rfl ?_
      refine L_op rfl (op_call rfl rfl (fun a w => Try.call56 a w) rfl ?_)
      refine ((there_d h true).sub (hsub_pick [3] rfl)).mono ?_
      rintro _ _ ⟨rfl, rfl⟩
      rw [hq]
      refine ⟨_, rfl, ?_⟩
      refine L_y rfl (y_not rfl) rfl ?_
      refine L_y rfl (y_pick_t rfl rfl) rfl ?_
      refine L_nil ?_
      refine C_cond_t rfl ?_
      refine C_skip ?_
      refine C_seq ?_
      refine C_block ?_
      refine C_region ?_
      refine L_y rfl (y_move rfl) rfl ?_
      refine L_y rfl (y_move rfl) rfl ?_
      refine L_y rfl (y_nilCheck rfl) rfl ?_
      refine L_y rfl (y_fieldAddr rfl fl_109_0) rfl ?_
      refine L_y rfl (y_indexA rfl rfl Try.underlying107 sz_106 (by omega) (by omega) (show _ = 2 from rfl)) rfl ?_
      refine L_y rfl (y_fieldAddr rfl fl_106_1) rfl ?_
      refine L_y rfl (y_load rfl ag_70 (sees 2 0 rfl) rfl) rfl ?_
      refine L_y rfl (y_move rfl) rfl ?_
      refine L_op rfl (op_mapUpdate 1 0 rfl rfl rfl Try.underlying70 Try.underlying3 rfl rfl ?_)
      refine L_nil ?_
      refine C_region ?_
      refine L_y rfl (y_move rfl) rfl ?_
      refine L_y rfl (y_add rfl rfl (wi64 (by omega) (by omega))) rfl ?_
      refine L_y rfl (y_assign rfl) rfl ?_
      refine L_nil ?_
      refine ⟨j + 1, by omega, by omega, ⟨rfl, rfl, rfl, rfl, rfl, rfl, trivial⟩, ?_⟩
      rw [← (stN_put j).1, show mapO (kPut (stN j) j (j : Int)) (j + 1) = mapO (kPut (stN j) j (j : Int)) (kClk (stN j) j (j : Int)) from by rw [(stN_put j).2]]
      exact ((hsub (.cons_cons _ (.cons_cons _ (.cons_cons _ (.cons_cons _ (.cons_cons _ (.refl _))))))).trans (hsub_pick [1, 1, 1, 0, 0] rfl))
    · have hj := of_decide_eq_false hg7_7
      refine L_skip rfl rfl ?_
      refine L_skip rfl rfl ?_
      refine L_skip rfl rfl ?_
      refine L_skip rfl rfl ?_
      refine L_skip rfl rfl ?_
      refine L_skip rfl rfl ?_
      refine L_skip rfl rfl ?_
      refine L_skip rfl rfl ?_
      refine L_y rfl (y_pick_f rfl rfl) rfl ?_
      refine L_nil ?_
      refine C_cond_f rfl ?_
      refine C_exit ?_
      obtain rfl : j = (min A.a.S.length A.b.S.length) := by omega
      refine C_region ?_
      refine L_y rfl (y_add rfl rfl (show _ = (2 : Int) from rfl)) rfl ?_
      refine L_y rfl (y_move rfl) rfl ?_
      refine L_nil ?_
      refine In_round ?_
      refine C_seq ?_
      refine C_region ?_
      refine L_y rfl (y_lss rfl rfl) rfl ?_
      refine L_nil ?_
      refine C_seq ?_
      refine C_cond_f rfl ?_
      refine C_exit ?_
      refine C_seq ?_
      refine C_region ?_
      refine L_y rfl (y_move rfl) rfl ?_
      refine L_y rfl (y_assign rfl) rfl ?_
      refine L_nil ?_
      refine C_ret ?_
      refine B_ret (rv_tmp rfl rv_nil) ((hsub_flat (H := [_] :: [_] :: [_] :: D.seg dt :: H) (H' := Mi.seg 109 ⟨B1, B3, B4, bx, bys, (min A.a.S.length A.b.S.length), .nilFunc, stale0 false (min A.a.S.length A.b.S.length), (if false then 0 else (min A.a.S.length A.b.S.length)), stale0 false (min A.a.S.length A.b.S.length), (if false then 0 else (min A.a.S.length A.b.S.length))⟩ :: D.seg dt :: H) rfl).trans ((hsub (.cons_cons _ (.cons_cons _ (.cons_cons _ (.cons_cons _ (.cons _ (.refl _))))))).trans (hsub_pick [1, 3, 0, 1] rfl))) ?_
      exact ⟨B1, B3, B4, rfl, by simp only [mnew, stale0, hp, hq] <;> rfl⟩

theorem mnew_nil {w0 : World} {H : Hp} {D : Duo} {A : Da} {bx bys bp : Nat} (h : Two dt D A bx bys bp) : FnS Try.prog w0 31 #[ptr bx, ptr bys, .nilFunc] (D.seg dt :: H) (fun e H' => ∃ b r0 r1, e = .returned (ptr b) ∧ H' = (mnew A bx bys (.nilFunc) b r0 r1).seg 109 :: D.seg dt :: H) := by
  cases hp : thr A false <;> cases hq : thr A true
  · exact new_nil_ff h hp hq
  · exact new_nil_ft h hp hq
  · exact new_nil_tf h hp hq
  · exact new_nil_tt h hp hq

end Go.Proofs.Ytoaalclbplgegaa
