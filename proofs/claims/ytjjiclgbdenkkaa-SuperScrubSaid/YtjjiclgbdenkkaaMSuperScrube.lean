/- Own work: texts MnW, VnW, VdW, MhW, GgW, SwW, SaW, VaW, U0W, U4W, Rw, Rg, Rs, put together. -/
import Derived.ShutString
import Derived.OpenShut
import Derived.Carry
import Derived.Deep.Slices
import Derived.Test.YtjjiclgbdenkkaaMSuperScrubd
/- walks (own work; the walks' lines by a program of this repo). -/
set_option linter.unusedVariables false
set_option linter.unusedSimpArgs false
set_option maxRecDepth 20000
namespace Go.Proofs.Ytjjiclgbdenkkaa
open Go.Sl
attribute [local irreducible] BodyQ WpC WpL WpS WpH OpW FnS



set_option maxHeartbeats 4000000 in

theorem new_fn_tt {w0 : World} {H : Hp} {f : Nat} {cap : List Value} {D : Duo} {A : Da} {bx bys bp : Nat} (h : Two dt D A bx bys bp) (hp : thr A false = true) (hq : thr A true = true) : FnS Try.prog w0 17 #[ptr bx, ptr bys, .func (.func f) #[] cap.toArray] (D.seg dt :: H) (fun e H' => ∃ b r0 r1, e = .returned (ptr b) ∧ H' = (mnew A bx bys (.func (.func f) #[] cap.toArray) b r0 r1).seg 110 :: D.seg dt :: H) := by
  have hlen : A.a.S.length ≤ 4096 := (h.oks false).2.1
  refine FnS_intro (n := 64) (rs := [.tmp 6]) (vs := [ptr bx, ptr bys, .func (.func f) #[] cap.toArray]) Try.func17 rfl Try.ntmps17 rfl rfl ?_
  refine C_seq ?_
  refine C_region ?_
  refine L_y rfl (y_assign rfl) rfl ?_
  refine L_nil ?_
  refine C_seq ?_
  refine C_region ?_
  refine L_y rfl (y_move rfl) rfl ?_
  refine L_op rfl (op_call rfl rfl (fun a w => Try.call52 a w) rfl ?_)
  refine ((len_d h false).sub (hsub_pick [0] rfl)).mono ?_
  rintro _ _ ⟨rfl, rfl⟩
  refine ⟨_, rfl, ?_⟩
  refine L_y rfl (y_move rfl) rfl ?_
  refine L_op rfl (op_call rfl rfl (fun a w => Try.call52 a w) rfl ?_)
  refine ((len_d h true).sub (hsub_pick [0] rfl)).mono ?_
  rintro _ _ ⟨rfl, rfl⟩
  refine ⟨_, rfl, ?_⟩
  refine L_y rfl (y_minN rfl rfl) rfl ?_
  refine L_y rfl (y_move rfl) rfl ?_
  refine L_y rfl (y_build (vs := [(1, _), (2, _)]) (l := [.pointer none, .map none, .pointer none, .map none, .int .i64 (((min A.a.S.length A.b.S.length) : Nat) : Int), .func (.func f) #[] cap.toArray]) rfl pl_110 zl_110 (fill_cons (off := 4) (m := 1) (vs := [_]) rfl rfl rfl (Nat.le_of_ble_eq_true rfl) (fill_cons (off := 5) (m := 1) (vs := [_]) rfl rfl rfl (Nat.le_of_ble_eq_true rfl) rfl))) rfl ?_
  refine L_op rfl (op_box rfl rfl rfl (fun B1 => ?_))
  refine L_y rfl (y_assign rfl) rfl ?_
  refine L_nil ?_
  refine C_seq ?_
  refine C_seq ?_
  refine C_region ?_
  refine L_y rfl (y_move rfl) rfl ?_
  refine L_y rfl (y_move rfl) rfl ?_
  refine L_op rfl (op_buildSlice (vs := [(0, _), (1, _)]) rfl Try.underlying111 sz_24 zl_24 rfl (by decide) rfl rfl (fun B2 => ?_))
  refine L_y rfl (y_lenS rfl rfl Try.underlying111) rfl ?_
  refine L_y rfl (y_move rfl) rfl ?_
  refine L_nil ?_
  refine C_block ?_
  refine C_loopIn (In_round ?_)
  refine C_seq ?_
  refine C_region ?_
  refine L_y rfl (y_lss rfl rfl) rfl ?_
  refine L_nil ?_
  refine C_seq ?_
  refine C_cond_t rfl ?_
  refine C_skip ?_
  refine C_seq ?_
  refine C_block ?_
  refine C_seq ?_
  refine C_region ?_
  refine L_y rfl (y_move rfl) rfl ?_
  refine L_y rfl (y_indexS rfl rfl Try.underlying111 sz_24 (by omega) (by omega) (show _ = 0 from rfl)) rfl ?_
  refine L_y rfl (y_load rfl ag_24 (sees 0 0 rfl) rfl) rfl ?_
  refine L_y rfl (y_assign rfl) rfl ?_
  refine L_y rfl (y_assign rfl) rfl ?_
  refine L_nil ?_
  refine C_seq ?_
  refine C_region ?_
  refine L_y rfl (y_move rfl) rfl ?_
  refine L_y rfl (y_move rfl) rfl ?_
  refine L_y rfl (y_move rfl) rfl ?_
  refine L_op rfl (op_makeMap rfl (fun B3 => ?_))
  refine L_y rfl (y_build (vs := [(0, _), (1, _)]) (l := [ptr bx, .map (some B3)]) rfl pl_107 zl_107 (fill_cons (off := 0) (m := 1) (vs := [_]) rfl rfl rfl (Nat.le_of_ble_eq_true rfl) (fill_cons (off := 1) (m := 1) (vs := [_]) rfl rfl rfl (Nat.le_of_ble_eq_true rfl) rfl))) rfl ?_
  refine L_y rfl (y_nilCheck rfl) rfl ?_
  refine L_y rfl (y_fieldAddr rfl fl_110_0) rfl ?_
  refine L_y rfl (y_indexA rfl rfl Try.underlying108 sz_107 (by omega) (by omega) (show _ = 0 from rfl)) rfl ?_
  refine L_op rfl (op_store (vs := [ptr bx, .map (some B3)]) 2 0 rfl rfl rfl sz_107 rfl rfl (ones rfl) (Nat.le_of_ble_eq_true rfl) ?_)
  rw [show spl [.pointer none, .map none, .pointer none, .map none, .int .i64 (((min A.a.S.length A.b.S.length) : Nat) : Int), .func (.func f) #[] cap.toArray] 0 [ptr bx, .map (some B3)] = [ptr bx, .map (some B3), .pointer none, .map none, .int .i64 (((min A.a.S.length A.b.S.length) : Nat) : Int), .func (.func f) #[] cap.toArray] from rfl]
  refine L_nil ?_
  refine C_seq ?_
  refine C_region ?_
  refine L_y rfl (y_assign rfl) rfl ?_
  refine L_nil ?_
  refine C_block ?_
  refine C_loopIn (In_round ?_)
  refine C_seq ?_
  refine C_seq ?_
  refine C_region ?_
  refine L_y rfl (y_move rfl) rfl ?_
  refine L_y rfl (y_move rfl) rfl ?_
  refine L_y rfl (y_nilCheck rfl) rfl ?_
  refine L_y rfl (y_fieldAddr rfl fl_110_1) rfl ?_
  refine L_y rfl (y_load rfl ag_3 (sees 2 0 rfl) rfl) rfl ?_
  refine L_y rfl (y_lss rfl rfl) rfl ?_
  refine L_y rfl (y_move rfl) rfl ?_
  refine L_case 42 rfl (fun hg7_7 => ?_) (fun hg7_7 => ?_)
  · have hj := of_decide_eq_true hg7_7
    refine L_y rfl (y_move rfl) rfl ?_
    refine L_y rfl (y_move rfl) rfl ?_
    refine L_y rfl (y_nilCheck rfl) rfl ?_
    refine L_y rfl (y_fieldAddr rfl fl_110_0) rfl ?_
    refine L_y rfl (y_indexA rfl rfl Try.underlying108 sz_107 (by omega) (by omega) (show _ = 0 from rfl)) rfl ?_
    refine L_y rfl (y_loadA rfl ag_107 sz_107 (sees 2 0 rfl) (Nat.le_of_ble_eq_true rfl) rfl) rfl ?_
    refine L_op rfl (op_call rfl rfl (fun a w => Try.call53 a w) rfl ?_)
    refine ((there_d h false).sub (hsub_pick [3] rfl)).mono ?_
    rintro _ _ ⟨rfl, rfl⟩
    rw [hp]
    refine ⟨_, rfl, ?_⟩
    refine L_y rfl (y_not rfl) rfl ?_
    refine L_y rfl (y_pick_t rfl rfl) rfl ?_
    refine L_nil ?_
    refine C_cond_f rfl ?_
    refine C_exit ?_
    refine C_region ?_
    refine L_y rfl (y_add rfl rfl (show _ = (1 : Int) from rfl)) rfl ?_
    refine L_y rfl (y_move rfl) rfl ?_
    refine L_nil ?_
    refine In_round ?_
    refine C_seq ?_
    refine C_region ?_
    refine L_y rfl (y_lss rfl rfl) rfl ?_
    refine L_nil ?_
    refine C_seq ?_
    refine C_cond_t rfl ?_
    refine C_skip ?_
    refine C_seq ?_
    refine C_block ?_
    refine C_seq ?_
    refine C_region ?_
    refine L_y rfl (y_move rfl) rfl ?_
    refine L_y rfl (y_indexS rfl rfl Try.underlying111 sz_24 (by omega) (by omega) (show _ = 1 from rfl)) rfl ?_
    refine L_y rfl (y_load rfl ag_24 (sees 2 0 rfl) rfl) rfl ?_
    refine L_y rfl (y_assign rfl) rfl ?_
    refine L_y rfl (y_assign rfl) rfl ?_
    refine L_nil ?_
    refine C_seq ?_
    refine C_region ?_
    refine L_y rfl (y_move rfl) rfl ?_
    refine L_y rfl (y_move rfl) rfl ?_
    refine L_y rfl (y_move rfl) rfl ?_
    refine L_op rfl (op_makeMap rfl (fun B4 => ?_))
    refine L_y rfl (y_build (vs := [(0, _), (1, _)]) (l := [ptr bys, .map (some B4)]) rfl pl_107 zl_107 (fill_cons (off := 0) (m := 1) (vs := [_]) rfl rfl rfl (Nat.le_of_ble_eq_true rfl) (fill_cons (off := 1) (m := 1) (vs := [_]) rfl rfl rfl (Nat.le_of_ble_eq_true rfl) rfl))) rfl ?_
    refine L_y rfl (y_nilCheck rfl) rfl ?_
    refine L_y rfl (y_fieldAddr rfl fl_110_0) rfl ?_
    refine L_y rfl (y_indexA rfl rfl Try.underlying108 sz_107 (by omega) (by omega) (show _ = 2 from rfl)) rfl ?_
    refine L_op rfl (op_store (vs := [ptr bys, .map (some B4)]) 4 0 rfl rfl rfl sz_107 rfl rfl (ones rfl) (Nat.le_of_ble_eq_true rfl) ?_)
    rw [show spl [ptr bx, .map (some B3), .pointer none, .map none, .int .i64 (((min A.a.S.length A.b.S.length) : Nat) : Int), .func (.func f) #[] cap.toArray] 2 [ptr bys, .map (some B4)] = [ptr bx, .map (some B3), ptr bys, .map (some B4), .int .i64 (((min A.a.S.length A.b.S.length) : Nat) : Int), .func (.func f) #[] cap.toArray] from rfl]
    refine L_nil ?_
    refine C_seq ?_
    refine C_region ?_
    refine L_y rfl (y_assign rfl) rfl ?_
    refine L_nil ?_
    refine C_block ?_
    refine C_loopIn (In_round ?_)
    refine C_seq ?_
    refine C_seq ?_
    refine C_region ?_
    refine L_y rfl (y_move rfl) rfl ?_
    refine L_y rfl (y_move rfl) rfl ?_
    refine L_y rfl (y_nilCheck rfl) rfl ?_
    refine L_y rfl (y_fieldAddr rfl fl_110_1) rfl ?_
    refine L_y rfl (y_load rfl ag_3 (sees 4 0 rfl) rfl) rfl ?_
    refine L_y rfl (y_lss rfl rfl) rfl ?_
    refine L_y rfl (y_move rfl) rfl ?_
    refine L_case 42 rfl (fun hg7_7 => ?_) (fun hg7_7 => ?_)
    · have hj := of_decide_eq_true hg7_7
      refine L_y rfl (y_move rfl) rfl ?_
      refine L_y rfl (y_move rfl) rfl ?_
      refine L_y rfl (y_nilCheck rfl) rfl ?_
      refine L_y rfl (y_fieldAddr rfl fl_110_0) rfl ?_
      refine L_y rfl (y_indexA rfl rfl Try.underlying108 sz_107 (by omega) (by omega) (show _ = 2 from rfl)) rfl ?_
      refine L_y rfl (y_loadA rfl ag_107 sz_107 (sees 4 0 rfl) (Nat.le_of_ble_eq_true rfl) rfl) rfl ?_
      refine L_op rfl (op_call rfl rfl (fun a w => Try.call53 a w) rfl ?_)
      refine ((there_d h true).sub (hsub_pick [1] rfl)).mono ?_
      rintro _ _ ⟨rfl, rfl⟩
      rw [hq]
      refine ⟨_, rfl, ?_⟩
      refine L_y rfl (y_not rfl) rfl ?_
      refine L_y rfl (y_pick_t rfl rfl) rfl ?_
      refine L_nil ?_
      refine C_cond_f rfl ?_
      refine C_exit ?_
      refine C_region ?_
      refine L_y rfl (y_add rfl rfl (show _ = (2 : Int) from rfl)) rfl ?_
      refine L_y rfl (y_move rfl) rfl ?_
      refine L_nil ?_
      refine In_round ?_
      refine C_seq ?_
      refine C_region ?_
      refine L_y rfl (y_lss rfl rfl) rfl ?_
      refine L_nil ?_
      refine C_seq ?_
      refine C_cond_f rfl ?_
      refine C_exit ?_
      refine C_seq ?_
      refine C_region ?_
      refine L_y rfl (y_move rfl) rfl ?_
      refine L_y rfl (y_assign rfl) rfl ?_
      refine L_nil ?_
      refine C_ret ?_
      refine B_ret (rv_tmp rfl rv_nil) ((hsub_flat (H := [_] :: [_] :: [_] :: D.seg dt :: H) (H' := Mi.seg 110 ⟨B1, B3, B4, bx, bys, (min A.a.S.length A.b.S.length), .func (.func f) #[] cap.toArray, stale0 true (min A.a.S.length A.b.S.length), (if true then 0 else (min A.a.S.length A.b.S.length)), stale0 true (min A.a.S.length A.b.S.length), (if true then 0 else (min A.a.S.length A.b.S.length))⟩ :: D.seg dt :: H) rfl).trans ((hsub (.cons_cons _ (.cons_cons _ (.cons_cons _ (.cons_cons _ (.cons _ (.refl _))))))).trans (hsub_pick [4, 2, 1, 0] rfl))) ?_
      exact ⟨B1, B3, B4, rfl, by simp only [mnew, stale0, hp, hq] <;> rfl⟩
    · have hj := of_decide_eq_false hg7_7
      refine L_skip rfl rfl ?_
      refine L_skip rfl rfl ?_
      refine L_skip rfl rfl ?_
      refine L_skip rfl rfl ?_
      refine L_skip rfl rfl ?_
      refine L_skip rfl rfl ?_
      refine L_skip rfl rfl ?_
      refine L_skip rfl rfl ?_
      refine L_y rfl (y_pick_f rfl rfl) rfl ?_
      refine L_nil ?_
      refine C_cond_f rfl ?_
      refine C_exit ?_
      refine C_region ?_
      refine L_y rfl (y_add rfl rfl (show _ = (2 : Int) from rfl)) rfl ?_
      refine L_y rfl (y_move rfl) rfl ?_
      refine L_nil ?_
      refine In_round ?_
      refine C_seq ?_
      refine C_region ?_
      refine L_y rfl (y_lss rfl rfl) rfl ?_
      refine L_nil ?_
      refine C_seq ?_
      refine C_cond_f rfl ?_
      refine C_exit ?_
      refine C_seq ?_
      refine C_region ?_
      refine L_y rfl (y_move rfl) rfl ?_
      refine L_y rfl (y_assign rfl) rfl ?_
      refine L_nil ?_
      refine C_ret ?_
      refine B_ret (rv_tmp rfl rv_nil) ((hsub_flat (H := [_] :: [_] :: [_] :: D.seg dt :: H) (H' := Mi.seg 110 ⟨B1, B3, B4, bx, bys, (min A.a.S.length A.b.S.length), .func (.func f) #[] cap.toArray, stale0 true (min A.a.S.length A.b.S.length), (if true then 0 else (min A.a.S.length A.b.S.length)), stale0 true (min A.a.S.length A.b.S.length), (if true then 0 else (min A.a.S.length A.b.S.length))⟩ :: D.seg dt :: H) rfl).trans ((hsub (.cons_cons _ (.cons_cons _ (.cons_cons _ (.cons_cons _ (.cons _ (.refl _))))))).trans (hsub_pick [4, 2, 0, 0] rfl))) ?_
      exact ⟨B1, B3, B4, rfl, by simp only [mnew, stale0, hp, hq] <;> rfl⟩
  · have hj := of_decide_eq_false hg7_7
    refine L_skip rfl rfl ?_
    refine L_skip rfl rfl ?_
    refine L_skip rfl rfl ?_
    refine L_skip rfl rfl ?_
    refine L_skip rfl rfl ?_
    refine L_skip rfl rfl ?_
    refine L_skip rfl rfl ?_
    refine L_skip rfl rfl ?_
    refine L_y rfl (y_pick_f rfl rfl) rfl ?_
    refine L_nil ?_
    refine C_cond_f rfl ?_
    refine C_exit ?_
    refine C_region ?_
    refine L_y rfl (y_add rfl rfl (show _ = (1 : Int) from rfl)) rfl ?_
    refine L_y rfl (y_move rfl) rfl ?_
    refine L_nil ?_
    refine In_round ?_
    refine C_seq ?_
    refine C_region ?_
    refine L_y rfl (y_lss rfl rfl) rfl ?_
    refine L_nil ?_
    refine C_seq ?_
    refine C_cond_t rfl ?_
    refine C_skip ?_
    refine C_seq ?_
    refine C_block ?_
    refine C_seq ?_
    refine C_region ?_
    refine L_y rfl (y_move rfl) rfl ?_
    refine L_y rfl (y_indexS rfl rfl Try.underlying111 sz_24 (by omega) (by omega) (show _ = 1 from rfl)) rfl ?_
    refine L_y rfl (y_load rfl ag_24 (sees 1 0 rfl) rfl) rfl ?_
    refine L_y rfl (y_assign rfl) rfl ?_
    refine L_y rfl (y_assign rfl) rfl ?_
    refine L_nil ?_
    refine C_seq ?_
    refine C_region ?_
    refine L_y rfl (y_move rfl) rfl ?_
    refine L_y rfl (y_move rfl) rfl ?_
    refine L_y rfl (y_move rfl) rfl ?_
    refine L_op rfl (op_makeMap rfl (fun B5 => ?_))
    refine L_y rfl (y_build (vs := [(0, _), (1, _)]) (l := [ptr bys, .map (some B5)]) rfl pl_107 zl_107 (fill_cons (off := 0) (m := 1) (vs := [_]) rfl rfl rfl (Nat.le_of_ble_eq_true rfl) (fill_cons (off := 1) (m := 1) (vs := [_]) rfl rfl rfl (Nat.le_of_ble_eq_true rfl) rfl))) rfl ?_
    refine L_y rfl (y_nilCheck rfl) rfl ?_
    refine L_y rfl (y_fieldAddr rfl fl_110_0) rfl ?_
    refine L_y rfl (y_indexA rfl rfl Try.underlying108 sz_107 (by omega) (by omega) (show _ = 2 from rfl)) rfl ?_
    refine L_op rfl (op_store (vs := [ptr bys, .map (some B5)]) 3 0 rfl rfl rfl sz_107 rfl rfl (ones rfl) (Nat.le_of_ble_eq_true rfl) ?_)
    rw [show spl [ptr bx, .map (some B3), .pointer none, .map none, .int .i64 (((min A.a.S.length A.b.S.length) : Nat) : Int), .func (.func f) #[] cap.toArray] 2 [ptr bys, .map (some B5)] = [ptr bx, .map (some B3), ptr bys, .map (some B5), .int .i64 (((min A.a.S.length A.b.S.length) : Nat) : Int), .func (.func f) #[] cap.toArray] from rfl]
    refine L_nil ?_
    refine C_seq ?_
    refine C_region ?_
    refine L_y rfl (y_assign rfl) rfl ?_
    refine L_nil ?_
    refine C_block ?_
    refine C_loopIn (In_round ?_)
    refine C_seq ?_
    refine C_seq ?_
    refine C_region ?_
    refine L_y rfl (y_move rfl) rfl ?_
    refine L_y rfl (y_move rfl) rfl ?_
    refine L_y rfl (y_nilCheck rfl) rfl ?_
    refine L_y rfl (y_fieldAddr rfl fl_110_1) rfl ?_
    refine L_y rfl (y_load rfl ag_3 (sees 3 0 rfl) rfl) rfl ?_
    refine L_y rfl (y_lss rfl rfl) rfl ?_
    refine L_y rfl (y_move rfl) rfl ?_
    refine L_case 42 rfl (fun hg7_7 => ?_) (fun hg7_7 => ?_)
    · have hj := of_decide_eq_true hg7_7
      refine L_y rfl (y_move rfl) rfl ?_
      refine L_y rfl (y_move rfl) rfl ?_
      refine L_y rfl (y_nilCheck rfl) rfl ?_
      refine L_y rfl (y_fieldAddr rfl fl_110_0) rfl ?_
      refine L_y rfl (y_indexA rfl rfl Try.underlying108 sz_107 (by omega) (by omega) (show _ = 2 from rfl)) rfl ?_
      refine L_y rfl (y_loadA rfl ag_107 sz_107 (sees 3 0 rfl) (Nat.le_of_ble_eq_true rfl) rfl) rfl ?_
      refine L_op rfl (op_call rfl rfl (fun a w => Try.call53 a w) rfl ?_)
      refine ((there_d h true).sub (hsub_pick [4] rfl)).mono ?_
      rintro _ _ ⟨rfl, rfl⟩
      rw [hq]
      refine ⟨_, rfl, ?_⟩
      refine L_y rfl (y_not rfl) rfl ?_
      refine L_y rfl (y_pick_t rfl rfl) rfl ?_
      refine L_nil ?_
      refine C_cond_f rfl ?_
      refine C_exit ?_
      refine C_region ?_
      refine L_y rfl (y_add rfl rfl (show _ = (2 : Int) from rfl)) rfl ?_
      refine L_y rfl (y_move rfl) rfl ?_
      refine L_nil ?_
      refine In_round ?_
      refine C_seq ?_
      refine C_region ?_
      refine L_y rfl (y_lss rfl rfl) rfl ?_
      refine L_nil ?_
      refine C_seq ?_
      refine C_cond_f rfl ?_
      refine C_exit ?_
      refine C_seq ?_
      refine C_region ?_
      refine L_y rfl (y_move rfl) rfl ?_
      refine L_y rfl (y_assign rfl) rfl ?_
      refine L_nil ?_
      refine C_ret ?_
      refine B_ret (rv_tmp rfl rv_nil) ((hsub_flat (H := [_] :: [_] :: [_] :: D.seg dt :: H) (H' := Mi.seg 110 ⟨B1, B3, B5, bx, bys, (min A.a.S.length A.b.S.length), .func (.func f) #[] cap.toArray, stale0 true (min A.a.S.length A.b.S.length), (if true then 0 else (min A.a.S.length A.b.S.length)), stale0 true (min A.a.S.length A.b.S.length), (if true then 0 else (min A.a.S.length A.b.S.length))⟩ :: D.seg dt :: H) rfl).trans ((hsub (.cons_cons _ (.cons_cons _ (.cons_cons _ (.cons_cons _ (.cons _ (.refl _))))))).trans (hsub_pick [4, 2, 1, 0] rfl))) ?_
      exact ⟨B1, B3, B5, rfl, by simp only [mnew, stale0, hp, hq] <;> rfl⟩
    · have hj := of_decide_eq_false hg7_7
      refine L_skip rfl rfl ?_
      refine L_skip rfl rfl ?_
      refine L_skip rfl rfl ?_
      refine L_skip rfl rfl ?_
      refine L_skip rfl rfl ?_
      refine L_skip rfl rfl ?_
      refine L_skip rfl rfl ?_
      refine L_skip rfl rfl ?_
      refine L_y rfl (y_pick_f rfl rfl) rfl ?_
      refine L_nil ?_
      refine C_cond_f rfl ?_
      refine C_exit ?_
      refine C_region ?_
      refine L_y rfl (y_add rfl rfl (show _ = (2 : Int) from rfl)) rfl ?_
      refine L_y rfl (y_move rfl) rfl ?_
      refine L_nil ?_
      refine In_round ?_
      refine C_seq ?_
      refine C_region ?_
      refine L_y rfl (y_lss rfl rfl) rfl ?_
      refine L_nil ?_
      refine C_seq ?_
      refine C_cond_f rfl ?_
      refine C_exit ?_
      refine C_seq ?_
      refine C_region ?_
      refine L_y rfl (y_move rfl) rfl ?_
      refine L_y rfl (y_assign rfl) rfl ?_
      refine L_nil ?_
      refine C_ret ?_
      refine B_ret (rv_tmp rfl rv_nil) ((hsub_flat (H := [_] :: [_] :: [_] :: D.seg dt :: H) (H' := Mi.seg 110 ⟨B1, B3, B5, bx, bys, (min A.a.S.length A.b.S.length), .func (.func f) #[] cap.toArray, stale0 true (min A.a.S.length A.b.S.length), (if true then 0 else (min A.a.S.length A.b.S.length)), stale0 true (min A.a.S.length A.b.S.length), (if true then 0 else (min A.a.S.length A.b.S.length))⟩ :: D.seg dt :: H) rfl).trans ((hsub (.cons_cons _ (.cons_cons _ (.cons_cons _ (.cons_cons _ (.cons _ (.refl _))))))).trans (hsub_pick [3, 1, 0, 1] rfl))) ?_
      exact ⟨B1, B3, B5, rfl, by simp only [mnew, stale0, hp, hq] <;> rfl⟩

set_option maxHeartbeats 4000000 in

theorem new_fn_tf {w0 : World} {H : Hp} {f : Nat} {cap : List Value} {D : Duo} {A : Da} {bx bys bp : Nat} (h : Two dt D A bx bys bp) (hp : thr A false = true) (hq : thr A true = false) : FnS Try.prog w0 17 #[ptr bx, ptr bys, .func (.func f) #[] cap.toArray] (D.seg dt :: H) (fun e H' => ∃ b r0 r1, e = .returned (ptr b) ∧ H' = (mnew A bx bys (.func (.func f) #[] cap.toArray) b r0 r1).seg 110 :: D.seg dt :: H) := by
  have hlen : A.a.S.length ≤ 4096 := (h.oks false).2.1
  refine FnS_intro (n := 64) (rs := [.tmp 6]) (vs := [ptr bx, ptr bys, .func (.func f) #[] cap.toArray]) Try.func17 rfl Try.ntmps17 rfl rfl ?_
  refine C_seq ?_
  refine C_region ?_
  refine L_y rfl (y_assign rfl) rfl ?_
  refine L_nil ?_
  refine C_seq ?_
  refine C_region ?_
  refine L_y rfl (y_move rfl) rfl ?_
  refine L_op rfl (op_call rfl rfl (fun a w => Try.call52 a w) rfl ?_)
  refine ((len_d h false).sub (hsub_pick [0] rfl)).mono ?_
  rintro _ _ ⟨rfl, rfl⟩
  refine ⟨_, rfl, ?_⟩
  refine L_y rfl (y_move rfl) rfl ?_
  refine L_op rfl (op_call rfl rfl (fun a w => Try.call52 a w) rfl ?_)
  refine ((len_d h true).sub (hsub_pick [0] rfl)).mono ?_
  rintro _ _ ⟨rfl, rfl⟩
  refine ⟨_, rfl, ?_⟩
  refine L_y rfl (y_minN rfl rfl) rfl ?_
  refine L_y rfl (y_move rfl) rfl ?_
  refine L_y rfl (y_build (vs := [(1, _), (2, _)]) (l := [.pointer none, .map none, .pointer none, .map none, .int .i64 (((min A.a.S.length A.b.S.length) : Nat) : Int), .func (.func f) #[] cap.toArray]) rfl pl_110 zl_110 (fill_cons (off := 4) (m := 1) (vs := [_]) rfl rfl rfl (Nat.le_of_ble_eq_true rfl) (fill_cons (off := 5) (m := 1) (vs := [_]) rfl rfl rfl (Nat.le_of_ble_eq_true rfl) rfl))) rfl ?_
  refine L_op rfl (op_box rfl rfl rfl (fun B1 => ?_))
  refine L_y rfl (y_assign rfl) rfl ?_
  refine L_nil ?_
  refine C_seq ?_
  refine C_seq ?_
  refine C_region ?_
  refine L_y rfl (y_move rfl) rfl ?_
  refine L_y rfl (y_move rfl) rfl ?_
  refine L_op rfl (op_buildSlice (vs := [(0, _), (1, _)]) rfl Try.underlying111 sz_24 zl_24 rfl (by decide) rfl rfl (fun B2 => ?_))
  refine L_y rfl (y_lenS rfl rfl Try.underlying111) rfl ?_
  refine L_y rfl (y_move rfl) rfl ?_
  refine L_nil ?_
  refine C_block ?_
  refine C_loopIn (In_round ?_)
  refine C_seq ?_
  refine C_region ?_
  refine L_y rfl (y_lss rfl rfl) rfl ?_
  refine L_nil ?_
  refine C_seq ?_
  refine C_cond_t rfl ?_
  refine C_skip ?_
  refine C_seq ?_
  refine C_block ?_
  refine C_seq ?_
  refine C_region ?_
  refine L_y rfl (y_move rfl) rfl ?_
  refine L_y rfl (y_indexS rfl rfl Try.underlying111 sz_24 (by omega) (by omega) (show _ = 0 from rfl)) rfl ?_
  refine L_y rfl (y_load rfl ag_24 (sees 0 0 rfl) rfl) rfl ?_
  refine L_y rfl (y_assign rfl) rfl ?_
  refine L_y rfl (y_assign rfl) rfl ?_
  refine L_nil ?_
  refine C_seq ?_
  refine C_region ?_
  refine L_y rfl (y_move rfl) rfl ?_
  refine L_y rfl (y_move rfl) rfl ?_
  refine L_y rfl (y_move rfl) rfl ?_
  refine L_op rfl (op_makeMap rfl (fun B3 => ?_))
  refine L_y rfl (y_build (vs := [(0, _), (1, _)]) (l := [ptr bx, .map (some B3)]) rfl pl_107 zl_107 (fill_cons (off := 0) (m := 1) (vs := [_]) rfl rfl rfl (Nat.le_of_ble_eq_true rfl) (fill_cons (off := 1) (m := 1) (vs := [_]) rfl rfl rfl (Nat.le_of_ble_eq_true rfl) rfl))) rfl ?_
  refine L_y rfl (y_nilCheck rfl) rfl ?_
  refine L_y rfl (y_fieldAddr rfl fl_110_0) rfl ?_
  refine L_y rfl (y_indexA rfl rfl Try.underlying108 sz_107 (by omega) (by omega) (show _ = 0 from rfl)) rfl ?_
  refine L_op rfl (op_store (vs := [ptr bx, .map (some B3)]) 2 0 rfl rfl rfl sz_107 rfl rfl (ones rfl) (Nat.le_of_ble_eq_true rfl) ?_)
  rw [show spl [.pointer none, .map none, .pointer none, .map none, .int .i64 (((min A.a.S.length A.b.S.length) : Nat) : Int), .func (.func f) #[] cap.toArray] 0 [ptr bx, .map (some B3)] = [ptr bx, .map (some B3), .pointer none, .map none, .int .i64 (((min A.a.S.length A.b.S.length) : Nat) : Int), .func (.func f) #[] cap.toArray] from rfl]
  refine L_nil ?_
  refine C_seq ?_
  refine C_region ?_
  refine L_y rfl (y_assign rfl) rfl ?_
  refine L_nil ?_
  refine C_block ?_
  refine C_loopIn (In_round ?_)
  refine C_seq ?_
  refine C_seq ?_
  refine C_region ?_
  refine L_y rfl (y_move rfl) rfl ?_
  refine L_y rfl (y_move rfl) rfl ?_
  refine L_y rfl (y_nilCheck rfl) rfl ?_
  refine L_y rfl (y_fieldAddr rfl fl_110_1) rfl ?_
  refine L_y rfl (y_load rfl ag_3 (sees 2 0 rfl) rfl) rfl ?_
  refine L_y rfl (y_lss rfl rfl) rfl ?_
  refine L_y rfl (y_move rfl) rfl ?_
  refine L_case 42 rfl (fun hg7_7 => ?_) (fun hg7_7 => ?_)
  · have hj := of_decide_eq_true hg7_7
    refine L_y rfl (y_move rfl) rfl ?_
    refine L_y rfl (y_move rfl) rfl ?_
    refine L_y rfl (y_nilCheck rfl) rfl ?_
    refine L_y rfl (y_fieldAddr rfl fl_110_0) rfl ?_
    refine L_y rfl (y_indexA rfl rfl Try.underlying108 sz_107 (by omega) (by omega) (show _ = 0 from rfl)) rfl ?_
    refine L_y rfl (y_loadA rfl ag_107 sz_107 (sees 2 0 rfl) (Nat.le_of_ble_eq_true rfl) rfl) rfl ?_
    refine L_op rfl (op_call rfl rfl (fun a w => Try.call53 a w) rfl ?_)
    refine ((there_d h false).sub (hsub_pick [3] rfl)).mono ?_
    rintro _ _ ⟨rfl, rfl⟩
    rw [hp]
    refine ⟨_, rfl, ?_⟩
    refine L_y rfl (y_not rfl) rfl ?_
    refine L_y rfl (y_pick_t rfl rfl) rfl ?_
    refine L_nil ?_
    refine C_cond_f rfl ?_
    refine C_exit ?_
    refine C_region ?_
    refine L_y rfl (y_add rfl rfl (show _ = (1 : Int) from rfl)) rfl ?_
    refine L_y rfl (y_move rfl) rfl ?_
    refine L_nil ?_
    refine In_round ?_
    refine C_seq ?_
    refine C_region ?_
    refine L_y rfl (y_lss rfl rfl) rfl ?_
    refine L_nil ?_
    refine C_seq ?_
    refine C_cond_t rfl ?_
    refine C_skip ?_
    refine C_seq ?_
    refine C_block ?_
    refine C_seq ?_
    refine C_region ?_
    refine L_y rfl (y_move rfl) rfl ?_
    refine L_y rfl (y_indexS rfl rfl Try.underlying111 sz_24 (by omega) (by omega) (show _ = 1 from rfl)) rfl ?_
    refine L_y rfl (y_load rfl ag_24 (sees 2 0 rfl) rfl) rfl ?_
    refine L_y rfl (y_assign rfl) rfl ?_
    refine L_y rfl (y_assign rfl) rfl ?_
    refine L_nil ?_
    refine C_seq ?_
    refine C_region ?_
    refine L_y rfl (y_move rfl) rfl ?_
    refine L_y rfl (y_move rfl) rfl ?_
    refine L_y rfl (y_move rfl) rfl ?_
    refine L_op rfl (op_makeMap rfl (fun B4 => ?_))
    refine L_y rfl (y_build (vs := [(0, _), (1, _)]) (l := [ptr bys, .map (some B4)]) rfl pl_107 zl_107 (fill_cons (off := 0) (m := 1) (vs := [_]) rfl rfl rfl (Nat.le_of_ble_eq_true rfl) (fill_cons (off := 1) (m := 1) (vs := [_]) rfl rfl rfl (Nat.le_of_ble_eq_true rfl) rfl))) rfl ?_
    refine L_y rfl (y_nilCheck rfl) rfl ?_
    refine L_y rfl (y_fieldAddr rfl fl_110_0) rfl ?_
    refine L_y rfl (y_indexA rfl rfl Try.underlying108 sz_107 (by omega) (by omega) (show _ = 2 from rfl)) rfl ?_
    refine L_op rfl (op_store (vs := [ptr bys, .map (some B4)]) 4 0 rfl rfl rfl sz_107 rfl rfl (ones rfl) (Nat.le_of_ble_eq_true rfl) ?_)
    rw [show spl [ptr bx, .map (some B3), .pointer none, .map none, .int .i64 (((min A.a.S.length A.b.S.length) : Nat) : Int), .func (.func f) #[] cap.toArray] 2 [ptr bys, .map (some B4)] = [ptr bx, .map (some B3), ptr bys, .map (some B4), .int .i64 (((min A.a.S.length A.b.S.length) : Nat) : Int), .func (.func f) #[] cap.toArray] from rfl]
    refine L_nil ?_
    refine C_seq ?_
    refine C_region ?_
    refine L_y rfl (y_assign rfl) rfl ?_
    refine L_nil ?_
    refine C_block ?_
    refine C_loop (ι := Nat) (fun j => [(7, ptr B1), (8, .int .i64 1), (10, .int .i64 (j : Int)), (21, .slice (some ⟨B2, 0, none⟩) 2 2), (22, .int .i64 2), (23, .int .i64 1)]) (fun j => [(B4, mapO (stN j) j)] :: [(B1, .cells [ptr bx, .map (some B3), ptr bys, .map (some B4), .int .i64 (((min A.a.S.length A.b.S.length) : Nat) : Int), .func (.func f) #[] cap.toArray].toArray 110)] :: [(B2, .cells [ptr bx, ptr bys].toArray 24)] :: D.seg dt :: [(B3, mapO (stale0 true (min A.a.S.length A.b.S.length)) (if true then 0 else (min A.a.S.length A.b.S.length)))] :: H) (fun j => j ≤ (min A.a.S.length A.b.S.length)) (fun j => (min A.a.S.length A.b.S.length) - j) 0 (Nat.zero_le _) ⟨rfl, rfl, rfl, rfl, rfl, rfl, trivial⟩ (hsub_pick [0, 3, 2, 0, 0] rfl) (fun j hj => ?_)
    skip
    refine C_seq ?_
    refine C_seq ?_
    refine C_region ?_
    refine L_y rfl (y_move rfl) rfl ?_
    refine L_y rfl (y_move rfl) rfl ?_
    refine L_y rfl (y_nilCheck rfl) rfl ?_
    refine L_y rfl (y_fieldAddr rfl fl_110_1) rfl ?_
    refine L_y rfl (y_load rfl ag_3 (sees 1 0 rfl) rfl) rfl ?_
    refine L_y rfl (y_lss rfl rfl) rfl ?_
    refine L_y rfl (y_move rfl) rfl ?_
    refine L_case 42 rfl (fun hg7_7 => ?_) (fun hg7_7 => ?_)
    · have hj := of_decide_eq_true hg7_7
      refine L_y rfl (y_move rfl) rfl ?_
      refine L_y rfl (y_move rfl) rfl ?_
      refine L_y rfl (y_nilCheck rfl) rfl ?_
      refine L_y rfl (y_fieldAddr rfl fl_110_0) rfl ?_
      refine L_y rfl (y_indexA rfl rfl Try.underlying108 sz_107 (by omega) (by omega) (show _ = 2 from rfl)) rfl ?_
      refine L_y rfl (y_loadA rfl ag_107 sz_107 (sees 1 0 rfl) (Nat.le_of_ble_eq_true rfl) rfl) rfl ?_
      refine L_op rfl (op_call rfl rfl (fun a w => Try.call53 a w) rfl ?_)
      refine ((there_d h true).sub (hsub_pick [3] rfl)).mono ?_
      rintro _ _ ⟨rfl, rfl⟩
      rw [hq]
      refine ⟨_, rfl, ?_⟩
      refine L_y rfl (y_not rfl) rfl ?_
      refine L_y rfl (y_pick_t rfl rfl) rfl ?_
      refine L_nil ?_
      refine C_cond_t rfl ?_
      refine C_skip ?_
      refine C_seq ?_
      refine C_block ?_
      refine C_region ?_
      refine L_y rfl (y_move rfl) rfl ?_
      refine L_y rfl (y_move rfl) rfl ?_
      refine L_y rfl (y_nilCheck rfl) rfl ?_
      refine L_y rfl (y_fieldAddr rfl fl_110_0) rfl ?_
      refine L_y rfl (y_indexA rfl rfl Try.underlying108 sz_107 (by omega) (by omega) (show _ = 2 from rfl)) rfl ?_
      refine L_y rfl (y_fieldAddr rfl fl_107_1) rfl ?_
      refine L_y rfl (y_load rfl ag_105 (sees 2 0 rfl) rfl) rfl ?_
      refine L_y rfl (y_move rfl) rfl ?_
      refine L_op rfl (op_mapUpdate 1 0 rfl rfl rfl Try.underlying105 Try.underlying3 rfl rfl ?_)
      refine L_nil ?_
      refine C_region ?_
      refine L_y rfl (y_move rfl) rfl ?_
      refine L_y rfl (y_add rfl rfl (wi64 (by omega) (by omega))) rfl ?_
      refine L_y rfl (y_assign rfl) rfl ?_
      refine L_nil ?_
      refine ⟨j + 1, by omega, by omega, ⟨rfl, rfl, rfl, rfl, rfl, rfl, trivial⟩, ?_⟩
      rw [← (stN_put j).1, show mapO (kPut (stN j) j (j : Int)) (j + 1) = mapO (kPut (stN j) j (j : Int)) (kClk (stN j) j (j : Int)) from by rw [(stN_put j).2]]
      exact ((hsub (.cons_cons _ (.cons_cons _ (.cons_cons _ (.cons_cons _ (.cons_cons _ (.refl _))))))).trans (hsub_pick [1, 1, 1, 0, 0] rfl))
    · have hj := of_decide_eq_false hg7_7
      refine L_skip rfl rfl ?_
      refine L_skip rfl rfl ?_
      refine L_skip rfl rfl ?_
      refine L_skip rfl rfl ?_
      refine L_skip rfl rfl ?_
      refine L_skip rfl rfl ?_
      refine L_skip rfl rfl ?_
      refine L_skip rfl rfl ?_
      refine L_y rfl (y_pick_f rfl rfl) rfl ?_
      refine L_nil ?_
      refine C_cond_f rfl ?_
      refine C_exit ?_
      obtain rfl : j = (min A.a.S.length A.b.S.length) := by omega
      refine C_region ?_
      refine L_y rfl (y_add rfl rfl (show _ = (2 : Int) from rfl)) rfl ?_
      refine L_y rfl (y_move rfl) rfl ?_
      refine L_nil ?_
      refine In_round ?_
      refine C_seq ?_
      refine C_region ?_
      refine L_y rfl (y_lss rfl rfl) rfl ?_
      refine L_nil ?_
      refine C_seq ?_
      refine C_cond_f rfl ?_
      refine C_exit ?_
      refine C_seq ?_
      refine C_region ?_
      refine L_y rfl (y_move rfl) rfl ?_
      refine L_y rfl (y_assign rfl) rfl ?_
      refine L_nil ?_
      refine C_ret ?_
      refine B_ret (rv_tmp rfl rv_nil) ((hsub_flat (H := [_] :: [_] :: [_] :: D.seg dt :: H) (H' := Mi.seg 110 ⟨B1, B3, B4, bx, bys, (min A.a.S.length A.b.S.length), .func (.func f) #[] cap.toArray, stale0 true (min A.a.S.length A.b.S.length), (if true then 0 else (min A.a.S.length A.b.S.length)), stale0 false (min A.a.S.length A.b.S.length), (if false then 0 else (min A.a.S.length A.b.S.length))⟩ :: D.seg dt :: H) rfl).trans ((hsub (.cons_cons _ (.cons_cons _ (.cons_cons _ (.cons_cons _ (.cons _ (.refl _))))))).trans (hsub_pick [1, 3, 0, 1] rfl))) ?_
      exact ⟨B1, B3, B4, rfl, by simp only [mnew, stale0, hp, hq] <;> rfl⟩
  · have hj := of_decide_eq_false hg7_7
    refine L_skip rfl rfl ?_
    refine L_skip rfl rfl ?_
    refine L_skip rfl rfl ?_
    refine L_skip rfl rfl ?_
    refine L_skip rfl rfl ?_
    refine L_skip rfl rfl ?_
    refine L_skip rfl rfl ?_
    refine L_skip rfl rfl ?_
    refine L_y rfl (y_pick_f rfl rfl) rfl ?_
    refine L_nil ?_
    refine C_cond_f rfl ?_
    refine C_exit ?_
    refine C_region ?_
    refine L_y rfl (y_add rfl rfl (show _ = (1 : Int) from rfl)) rfl ?_
    refine L_y rfl (y_move rfl) rfl ?_
    refine L_nil ?_
    refine In_round ?_
    refine C_seq ?_
    refine C_region ?_
    refine L_y rfl (y_lss rfl rfl) rfl ?_
    refine L_nil ?_
    refine C_seq ?_
    refine C_cond_t rfl ?_
    refine C_skip ?_
    refine C_seq ?_
    refine C_block ?_
    refine C_seq ?_
    refine C_region ?_
    refine L_y rfl (y_move rfl) rfl ?_
    refine L_y rfl (y_indexS rfl rfl Try.underlying111 sz_24 (by omega) (by omega) (show _ = 1 from rfl)) rfl ?_
    refine L_y rfl (y_load rfl ag_24 (sees 1 0 rfl) rfl) rfl ?_
    refine L_y rfl (y_assign rfl) rfl ?_
    refine L_y rfl (y_assign rfl) rfl ?_
    refine L_nil ?_
    refine C_seq ?_
    refine C_region ?_
    refine L_y rfl (y_move rfl) rfl ?_
    refine L_y rfl (y_move rfl) rfl ?_
    refine L_y rfl (y_move rfl) rfl ?_
    refine L_op rfl (op_makeMap rfl (fun B5 => ?_))
    refine L_y rfl (y_build (vs := [(0, _), (1, _)]) (l := [ptr bys, .map (some B5)]) rfl pl_107 zl_107 (fill_cons (off := 0) (m := 1) (vs := [_]) rfl rfl rfl (Nat.le_of_ble_eq_true rfl) (fill_cons (off := 1) (m := 1) (vs := [_]) rfl rfl rfl (Nat.le_of_ble_eq_true rfl) rfl))) rfl ?_
    refine L_y rfl (y_nilCheck rfl) rfl ?_
    refine L_y rfl (y_fieldAddr rfl fl_110_0) rfl ?_
    refine L_y rfl (y_indexA rfl rfl Try.underlying108 sz_107 (by omega) (by omega) (show _ = 2 from rfl)) rfl ?_
    refine L_op rfl (op_store (vs := [ptr bys, .map (some B5)]) 3 0 rfl rfl rfl sz_107 rfl rfl (ones rfl) (Nat.le_of_ble_eq_true rfl) ?_)
    rw [show spl [ptr bx, .map (some B3), .pointer none, .map none, .int .i64 (((min A.a.S.length A.b.S.length) : Nat) : Int), .func (.func f) #[] cap.toArray] 2 [ptr bys, .map (some B5)] = [ptr bx, .map (some B3), ptr bys, .map (some B5), .int .i64 (((min A.a.S.length A.b.S.length) : Nat) : Int), .func (.func f) #[] cap.toArray] from rfl]
    refine L_nil ?_
    refine C_seq ?_
    refine C_region ?_
    refine L_y rfl (y_assign rfl) rfl ?_
    refine L_nil ?_
    refine C_block ?_
    refine C_loop (ι := Nat) (fun j => [(7, ptr B1), (8, .int .i64 1), (10, .int .i64 (j : Int)), (21, .slice (some ⟨B2, 0, none⟩) 2 2), (22, .int .i64 2), (23, .int .i64 1)]) (fun j => [(B5, mapO (stN j) j)] :: [(B1, .cells [ptr bx, .map (some B3), ptr bys, .map (some B5), .int .i64 (((min A.a.S.length A.b.S.length) : Nat) : Int), .func (.func f) #[] cap.toArray].toArray 110)] :: [(B2, .cells [ptr bx, ptr bys].toArray 24)] :: D.seg dt :: [(B3, mapO (stale0 true (min A.a.S.length A.b.S.length)) (if true then 0 else (min A.a.S.length A.b.S.length)))] :: H) (fun j => j ≤ (min A.a.S.length A.b.S.length)) (fun j => (min A.a.S.length A.b.S.length) - j) 0 (Nat.zero_le _) ⟨rfl, rfl, rfl, rfl, rfl, rfl, trivial⟩ (hsub_pick [0, 2, 1, 1, 0] rfl) (fun j hj => ?_)
    skip
    refine C_seq ?_
    refine C_seq ?_
    refine C_region ?_
    refine L_y rfl (y_move rfl) rfl ?_
    refine L_y rfl (y_move rfl) rfl ?_
    refine L_y rfl (y_nilCheck rfl) rfl ?_
    refine L_y rfl (y_fieldAddr rfl fl_110_1) rfl ?_
    refine L_y rfl (y_load rfl ag_3 (sees 1 0 rfl) rfl) rfl ?_
    refine L_y rfl (y_lss rfl rfl) rfl ?_
    refine L_y rfl (y_move rfl) rfl ?_
    refine L_case 42 rfl (fun hg7_7 => ?_) (fun hg7_7 => ?_)
    · have hj := of_decide_eq_true hg7_7
      refine L_y rfl (y_move rfl) rfl ?_
      refine L_y rfl (y_move rfl) rfl ?_
      refine L_y rfl (y_nilCheck rfl) rfl ?_
      refine L_y rfl (y_fieldAddr rfl fl_110_0) rfl ?_
      refine L_y rfl (y_indexA rfl rfl Try.underlying108 sz_107 (by omega) (by omega) (show _ = 2 from rfl)) rfl ?_
      refine L_y rfl (y_loadA rfl ag_107 sz_107 (sees 1 0 rfl) (Nat.le_of_ble_eq_true rfl) rfl) rfl ?_
      refine L_op rfl (op_call rfl rfl (fun a w => Try.call53 a w) rfl ?_)
      refine ((there_d h true).sub (hsub_pick [3] rfl)).mono ?_
      rintro _ _ ⟨rfl, rfl⟩
      rw [hq]
      refine ⟨_, rfl, ?_⟩
      refine L_y rfl (y_not rfl) rfl ?_
      refine L_y rfl (y_pick_t rfl rfl) rfl ?_
      refine L_nil ?_
      refine C_cond_t rfl ?_
      refine C_skip ?_
      refine C_seq ?_
      refine C_block ?_
      refine C_region ?_
      refine L_y rfl (y_move rfl) rfl ?_
      refine L_y rfl (y_move rfl) rfl ?_
      refine L_y rfl (y_nilCheck rfl) rfl ?_
      refine L_y rfl (y_fieldAddr rfl fl_110_0) rfl ?_
      refine L_y rfl (y_indexA rfl rfl Try.underlying108 sz_107 (by omega) (by omega) (show _ = 2 from rfl)) rfl ?_
      refine L_y rfl (y_fieldAddr rfl fl_107_1) rfl ?_
      refine L_y rfl (y_load rfl ag_105 (sees 2 0 rfl) rfl) rfl ?_
      refine L_y rfl (y_move rfl) rfl ?_
      refine L_op rfl (op_mapUpdate 1 0 rfl rfl rfl Try.underlying105 Try.underlying3 rfl rfl ?_)
      refine L_nil ?_
      refine C_region ?_
      refine L_y rfl (y_move rfl) rfl ?_
      refine L_y rfl (y_add rfl rfl (wi64 (by omega) (by omega))) rfl ?_
      refine L_y rfl (y_assign rfl) rfl ?_
      refine L_nil ?_
      refine ⟨j + 1, by omega, by omega, ⟨rfl, rfl, rfl, rfl, rfl, rfl, trivial⟩, ?_⟩
      rw [← (stN_put j).1, show mapO (kPut (stN j) j (j : Int)) (j + 1) = mapO (kPut (stN j) j (j : Int)) (kClk (stN j) j (j : Int)) from by rw [(stN_put j).2]]
      exact ((hsub (.cons_cons _ (.cons_cons _ (.cons_cons _ (.cons_cons _ (.cons_cons _ (.refl _))))))).trans (hsub_pick [1, 1, 1, 0, 0] rfl))
    · have hj := of_decide_eq_false hg7_7
      refine L_skip rfl rfl ?_
      refine L_skip rfl rfl ?_
      refine L_skip rfl rfl ?_
      refine L_skip rfl rfl ?_
      refine L_skip rfl rfl ?_
      refine L_skip rfl rfl ?_
      refine L_skip rfl rfl ?_
      refine L_skip rfl rfl ?_
      refine L_y rfl (y_pick_f rfl rfl) rfl ?_
      refine L_nil ?_
      refine C_cond_f rfl ?_
      refine C_exit ?_
      obtain rfl : j = (min A.a.S.length A.b.S.length) := by omega
      refine C_region ?_
      refine L_y rfl (y_add rfl rfl (show _ = (2 : Int) from rfl)) rfl ?_
      refine L_y rfl (y_move rfl) rfl ?_
      refine L_nil ?_
      refine In_round ?_
      refine C_seq ?_
      refine C_region ?_
      refine L_y rfl (y_lss rfl rfl) rfl ?_
      refine L_nil ?_
      refine C_seq ?_
      refine C_cond_f rfl ?_
      refine C_exit ?_
      refine C_seq ?_
      refine C_region ?_
      refine L_y rfl (y_move rfl) rfl ?_
      refine L_y rfl (y_assign rfl) rfl ?_
      refine L_nil ?_
      refine C_ret ?_
      refine B_ret (rv_tmp rfl rv_nil) ((hsub_flat (H := [_] :: [_] :: [_] :: D.seg dt :: H) (H' := Mi.seg 110 ⟨B1, B3, B5, bx, bys, (min A.a.S.length A.b.S.length), .func (.func f) #[] cap.toArray, stale0 true (min A.a.S.length A.b.S.length), (if true then 0 else (min A.a.S.length A.b.S.length)), stale0 false (min A.a.S.length A.b.S.length), (if false then 0 else (min A.a.S.length A.b.S.length))⟩ :: D.seg dt :: H) rfl).trans ((hsub (.cons_cons _ (.cons_cons _ (.cons_cons _ (.cons_cons _ (.cons _ (.refl _))))))).trans (hsub_pick [1, 3, 0, 1] rfl))) ?_
      exact ⟨B1, B3, B5, rfl, by simp only [mnew, stale0, hp, hq] <;> rfl⟩

set_option maxHeartbeats 4000000 in

theorem new_fn_ft {w0 : World} {H : Hp} {f : Nat} {cap : List Value} {D : Duo} {A : Da} {bx bys bp : Nat} (h : Two dt D A bx bys bp) (hp : thr A false = false) (hq : thr A true = true) : FnS Try.prog w0 17 #[ptr bx, ptr bys, .func (.func f) #[] cap.toArray] (D.seg dt :: H) (fun e H' => ∃ b r0 r1, e = .returned (ptr b) ∧ H' = (mnew A bx bys (.func (.func f) #[] cap.toArray) b r0 r1).seg 110 :: D.seg dt :: H) := by
  have hlen : A.a.S.length ≤ 4096 := (h.oks false).2.1
  refine FnS_intro (n := 64) (rs := [.tmp 6]) (vs := [ptr bx, ptr bys, .func (.func f) #[] cap.toArray]) Try.func17 rfl Try.ntmps17 rfl rfl ?_
  refine C_seq ?_
  refine C_region ?_
  refine L_y rfl (y_assign rfl) rfl ?_
  refine L_nil ?_
  refine C_seq ?_
  refine C_region ?_
  refine L_y rfl (y_move rfl) rfl ?_
  refine L_op rfl (op_call rfl rfl (fun a w => Try.call52 a w) rfl ?_)
  refine ((len_d h false).sub (hsub_pick [0] rfl)).mono ?_
  rintro _ _ ⟨rfl, rfl⟩
  refine ⟨_, rfl, ?_⟩
  refine L_y rfl (y_move rfl) rfl ?_
  refine L_op rfl (op_call rfl rfl (fun a w => Try.call52 a w) rfl ?_)
  refine ((len_d h true).sub (hsub_pick [0] rfl)).mono ?_
  rintro _ _ ⟨rfl, rfl⟩
  refine ⟨_, rfl, ?_⟩
  refine L_y rfl (y_minN rfl rfl) rfl ?_
  refine L_y rfl (y_move rfl) rfl ?_
  refine L_y rfl (y_build (vs := [(1, _), (2, _)]) (l := [.pointer none, .map none, .pointer none, .map none, .int .i64 (((min A.a.S.length A.b.S.length) : Nat) : Int), .func (.func f) #[] cap.toArray]) rfl pl_110 zl_110 (fill_cons (off := 4) (m := 1) (vs := [_]) rfl rfl rfl (Nat.le_of_ble_eq_true rfl) (fill_cons (off := 5) (m := 1) (vs := [_]) rfl rfl rfl (Nat.le_of_ble_eq_true rfl) rfl))) rfl ?_
  refine L_op rfl (op_box rfl rfl rfl (fun B1 => ?_))
  refine L_y rfl (y_assign rfl) rfl ?_
  refine L_nil ?_
  refine C_seq ?_
  refine C_seq ?_
  refine C_region ?_
  refine L_y rfl (y_move rfl) rfl ?_
  refine L_y rfl (y_move rfl) rfl ?_
  refine L_op rfl (op_buildSlice (vs := [(0, _), (1, _)]) rfl Try.underlying111 sz_24 zl_24 rfl (by decide) rfl rfl (fun B2 => ?_))
  refine L_y rfl (y_lenS rfl rfl Try.underlying111) rfl ?_
  refine L_y rfl (y_move rfl) rfl ?_
  refine L_nil ?_
  refine C_block ?_
  refine C_loopIn (In_round ?_)
  refine C_seq ?_
  refine C_region ?_
  refine L_y rfl (y_lss rfl rfl) rfl ?_
  refine L_nil ?_
  refine C_seq ?_
  refine C_cond_t rfl ?_
  refine C_skip ?_
  refine C_seq ?_
  refine C_block ?_
  refine C_seq ?_
  refine C_region ?_
  refine L_y rfl (y_move rfl) rfl ?_
  refine L_y rfl (y_indexS rfl rfl Try.underlying111 sz_24 (by omega) (by omega) (show _ = 0 from rfl)) rfl ?_
  refine L_y rfl (y_load rfl ag_24 (sees 0 0 rfl) rfl) rfl ?_
  refine L_y rfl (y_assign rfl) rfl ?_
  refine L_y rfl (y_assign rfl) rfl ?_
  refine L_nil ?_
  refine C_seq ?_
  refine C_region ?_
  refine L_y rfl (y_move rfl) rfl ?_
  refine L_y rfl (y_move rfl) rfl ?_
  refine L_y rfl (y_move rfl) rfl ?_
  refine L_op rfl (op_makeMap rfl (fun B3 => ?_))
  refine L_y rfl (y_build (vs := [(0, _), (1, _)]) (l := [ptr bx, .map (some B3)]) rfl pl_107 zl_107 (fill_cons (off := 0) (m := 1) (vs := [_]) rfl rfl rfl (Nat.le_of_ble_eq_true rfl) (fill_cons (off := 1) (m := 1) (vs := [_]) rfl rfl rfl (Nat.le_of_ble_eq_true rfl) rfl))) rfl ?_
  refine L_y rfl (y_nilCheck rfl) rfl ?_
  refine L_y rfl (y_fieldAddr rfl fl_110_0) rfl ?_
  refine L_y rfl (y_indexA rfl rfl Try.underlying108 sz_107 (by omega) (by omega) (show _ = 0 from rfl)) rfl ?_
  refine L_op rfl (op_store (vs := [ptr bx, .map (some B3)]) 2 0 rfl rfl rfl sz_107 rfl rfl (ones rfl) (Nat.le_of_ble_eq_true rfl) ?_)
  rw [show spl [.pointer none, .map none, .pointer none, .map none, .int .i64 (((min A.a.S.length A.b.S.length) : Nat) : Int), .func (.func f) #[] cap.toArray] 0 [ptr bx, .map (some B3)] = [ptr bx, .map (some B3), .pointer none, .map none, .int .i64 (((min A.a.S.length A.b.S.length) : Nat) : Int), .func (.func f) #[] cap.toArray] from rfl]
  refine L_nil ?_
  refine C_seq ?_
  refine C_region ?_
  refine L_y rfl (y_assign rfl) rfl ?_
  refine L_nil ?_
  refine C_block ?_
  refine C_loop (ι := Nat) (fun j => [(7, ptr B1), (8, .int .i64 0), (10, .int .i64 (j : Int)), (21, .slice (some ⟨B2, 0, none⟩) 2 2), (22, .int .i64 2), (23, .int .i64 0)]) (fun j => [(B3, mapO (stN j) j)] :: [(B1, .cells [ptr bx, .map (some B3), .pointer none, .map none, .int .i64 (((min A.a.S.length A.b.S.length) : Nat) : Int), .func (.func f) #[] cap.toArray].toArray 110)] :: [(B2, .cells [ptr bx, ptr bys].toArray 24)] :: D.seg dt :: H) (fun j => j ≤ (min A.a.S.length A.b.S.length)) (fun j => (min A.a.S.length A.b.S.length) - j) 0 (Nat.zero_le _) ⟨rfl, rfl, rfl, rfl, rfl, rfl, trivial⟩ (hsub_pick [0, 1, 0, 0] rfl) (fun j hj => ?_)
  skip
  refine C_seq ?_
  refine C_seq ?_
  refine C_region ?_
  refine L_y rfl (y_move rfl) rfl ?_
  refine L_y rfl (y_move rfl) rfl ?_
  refine L_y rfl (y_nilCheck rfl) rfl ?_
  refine L_y rfl (y_fieldAddr rfl fl_110_1) rfl ?_
  refine L_y rfl (y_load rfl ag_3 (sees 1 0 rfl) rfl) rfl ?_
  refine L_y rfl (y_lss rfl rfl) rfl ?_
  refine L_y rfl (y_move rfl) rfl ?_
  refine L_case 42 rfl (fun hg7_7 => ?_) (fun hg7_7 => ?_)
  · have hj := of_decide_eq_true hg7_7
    refine L_y rfl (y_move rfl) rfl ?_
    refine L_y rfl (y_move rfl) rfl ?_
    refine L_y rfl (y_nilCheck rfl) rfl ?_
    refine L_y rfl (y_fieldAddr rfl fl_110_0) rfl ?_
    refine L_y rfl (y_indexA rfl rfl Try.underlying108 sz_107 (by omega) (by omega) (show _ = 0 from rfl)) rfl ?_
    refine L_y rfl (y_loadA rfl ag_107 sz_107 (sees 1 0 rfl) (Nat.le_of_ble_eq_true rfl) rfl) rfl ?_
    refine L_op rfl (op_call rfl rfl (fun a w => Try.call53 a w) rfl ?_)
    refine ((there_d h false).sub (hsub_pick [3] rfl)).mono ?_
    rintro _ _ ⟨rfl, rfl⟩
    rw [hp]
    refine ⟨_, rfl, ?_⟩
    refine L_y rfl (y_not rfl) rfl ?_
    refine L_y rfl (y_pick_t rfl rfl) rfl ?_
    refine L_nil ?_
    refine C_cond_t rfl ?_
    refine C_skip ?_
    refine C_seq ?_
    refine C_block ?_
    refine C_region ?_
    refine L_y rfl (y_move rfl) rfl ?_
    refine L_y rfl (y_move rfl) rfl ?_
    refine L_y rfl (y_nilCheck rfl) rfl ?_
    refine L_y rfl (y_fieldAddr rfl fl_110_0) rfl ?_
    refine L_y rfl (y_indexA rfl rfl Try.underlying108 sz_107 (by omega) (by omega) (show _ = 0 from rfl)) rfl ?_
    refine L_y rfl (y_fieldAddr rfl fl_107_1) rfl ?_
    refine L_y rfl (y_load rfl ag_105 (sees 2 0 rfl) rfl) rfl ?_
    refine L_y rfl (y_move rfl) rfl ?_
    refine L_op rfl (op_mapUpdate 1 0 rfl rfl rfl Try.underlying105 Try.underlying3 rfl rfl ?_)
    refine L_nil ?_
    refine C_region ?_
    refine L_y rfl (y_move rfl) rfl ?_
    refine L_y rfl (y_add rfl rfl (wi64 (by omega) (by omega))) rfl ?_
    refine L_y rfl (y_assign rfl) rfl ?_
    refine L_nil ?_
    refine ⟨j + 1, by omega, by omega, ⟨rfl, rfl, rfl, rfl, rfl, rfl, trivial⟩, ?_⟩
    rw [← (stN_put j).1, show mapO (kPut (stN j) j (j : Int)) (j + 1) = mapO (kPut (stN j) j (j : Int)) (kClk (stN j) j (j : Int)) from by rw [(stN_put j).2]]
    exact ((hsub (.cons_cons _ (.cons_cons _ (.cons_cons _ (.cons_cons _ (.refl _)))))).trans (hsub_pick [1, 1, 1, 0] rfl))
  · have hj := of_decide_eq_false hg7_7
    refine L_skip rfl rfl ?_
    refine L_skip rfl rfl ?_
    refine L_skip rfl rfl ?_
    refine L_skip rfl rfl ?_
    refine L_skip rfl rfl ?_
    refine L_skip rfl rfl ?_
    refine L_skip rfl rfl ?_
    refine L_skip rfl rfl ?_
    refine L_y rfl (y_pick_f rfl rfl) rfl ?_
    refine L_nil ?_
    refine C_cond_f rfl ?_
    refine C_exit ?_
    obtain rfl : j = (min A.a.S.length A.b.S.length) := by omega
    refine C_region ?_
    refine L_y rfl (y_add rfl rfl (show _ = (1 : Int) from rfl)) rfl ?_
    refine L_y rfl (y_move rfl) rfl ?_
    refine L_nil ?_
    refine In_round ?_
    refine C_seq ?_
    refine C_region ?_
    refine L_y rfl (y_lss rfl rfl) rfl ?_
    refine L_nil ?_
    refine C_seq ?_
    refine C_cond_t rfl ?_
    refine C_skip ?_
    refine C_seq ?_
    refine C_block ?_
    refine C_seq ?_
    refine C_region ?_
    refine L_y rfl (y_move rfl) rfl ?_
    refine L_y rfl (y_indexS rfl rfl Try.underlying111 sz_24 (by omega) (by omega) (show _ = 1 from rfl)) rfl ?_
    refine L_y rfl (y_load rfl ag_24 (sees 2 0 rfl) rfl) rfl ?_
    refine L_y rfl (y_assign rfl) rfl ?_
    refine L_y rfl (y_assign rfl) rfl ?_
    refine L_nil ?_
    refine C_seq ?_
    refine C_region ?_
    refine L_y rfl (y_move rfl) rfl ?_
    refine L_y rfl (y_move rfl) rfl ?_
    refine L_y rfl (y_move rfl) rfl ?_
    refine L_op rfl (op_makeMap rfl (fun B4 => ?_))
    refine L_y rfl (y_build (vs := [(0, _), (1, _)]) (l := [ptr bys, .map (some B4)]) rfl pl_107 zl_107 (fill_cons (off := 0) (m := 1) (vs := [_]) rfl rfl rfl (Nat.le_of_ble_eq_true rfl) (fill_cons (off := 1) (m := 1) (vs := [_]) rfl rfl rfl (Nat.le_of_ble_eq_true rfl) rfl))) rfl ?_
    refine L_y rfl (y_nilCheck rfl) rfl ?_
    refine L_y rfl (y_fieldAddr rfl fl_110_0) rfl ?_
    refine L_y rfl (y_indexA rfl rfl Try.underlying108 sz_107 (by omega) (by omega) (show _ = 2 from rfl)) rfl ?_
    refine L_op rfl (op_store (vs := [ptr bys, .map (some B4)]) 2 0 rfl rfl rfl sz_107 rfl rfl (ones rfl) (Nat.le_of_ble_eq_true rfl) ?_)
    rw [show spl [ptr bx, .map (some B3), .pointer none, .map none, .int .i64 (((min A.a.S.length A.b.S.length) : Nat) : Int), .func (.func f) #[] cap.toArray] 2 [ptr bys, .map (some B4)] = [ptr bx, .map (some B3), ptr bys, .map (some B4), .int .i64 (((min A.a.S.length A.b.S.length) : Nat) : Int), .func (.func f) #[] cap.toArray] from rfl]
    refine L_nil ?_
    refine C_seq ?_
    refine C_region ?_
    refine L_y rfl (y_assign rfl) rfl ?_
    refine L_nil ?_
    refine C_block ?_
    refine C_loopIn (In_round ?_)
    refine C_seq ?_
    refine C_seq ?_
    refine C_region ?_
    refine L_y rfl (y_move rfl) rfl ?_
    refine L_y rfl (y_move rfl) rfl ?_
    refine L_y rfl (y_nilCheck rfl) rfl ?_
    refine L_y rfl (y_fieldAddr rfl fl_110_1) rfl ?_
    refine L_y rfl (y_load rfl ag_3 (sees 2 0 rfl) rfl) rfl ?_
    refine L_y rfl (y_lss rfl rfl) rfl ?_
    refine L_y rfl (y_move rfl) rfl ?_
    refine L_case 42 rfl (fun hg7_7 => ?_) (fun hg7_7 => ?_)
    · have hj := of_decide_eq_true hg7_7
      refine L_y rfl (y_move rfl) rfl ?_
      refine L_y rfl (y_move rfl) rfl ?_
      refine L_y rfl (y_nilCheck rfl) rfl ?_
      refine L_y rfl (y_fieldAddr rfl fl_110_0) rfl ?_
      refine L_y rfl (y_indexA rfl rfl Try.underlying108 sz_107 (by omega) (by omega) (show _ = 2 from rfl)) rfl ?_
      refine L_y rfl (y_loadA rfl ag_107 sz_107 (sees 2 0 rfl) (Nat.le_of_ble_eq_true rfl) rfl) rfl ?_
      refine L_op rfl (op_call rfl rfl (fun a w => Try.call53 a w) rfl ?_)
      refine ((there_d h true).sub (hsub_pick [4] rfl)).mono ?_
      rintro _ _ ⟨rfl, rfl⟩
      rw [hq]
      refine ⟨_, rfl, ?_⟩
      refine L_y rfl (y_not rfl) rfl ?_
      refine L_y rfl (y_pick_t rfl rfl) rfl ?_
      refine L_nil ?_
      refine C_cond_f rfl ?_
      refine C_exit ?_
      refine C_region ?_
      refine L_y rfl (y_add rfl rfl (show _ = (2 : Int) from rfl)) rfl ?_
      refine L_y rfl (y_move rfl) rfl ?_
      refine L_nil ?_
      refine In_round ?_
      refine C_seq ?_
      refine C_region ?_
      refine L_y rfl (y_lss rfl rfl) rfl ?_
      refine L_nil ?_
      refine C_seq ?_
      refine C_cond_f rfl ?_
      refine C_exit ?_
      refine C_seq ?_
      refine C_region ?_
      refine L_y rfl (y_move rfl) rfl ?_
      refine L_y rfl (y_assign rfl) rfl ?_
      refine L_nil ?_
      refine C_ret ?_
      refine B_ret (rv_tmp rfl rv_nil) ((hsub_flat (H := [_] :: [_] :: [_] :: D.seg dt :: H) (H' := Mi.seg 110 ⟨B1, B3, B4, bx, bys, (min A.a.S.length A.b.S.length), .func (.func f) #[] cap.toArray, stale0 false (min A.a.S.length A.b.S.length), (if false then 0 else (min A.a.S.length A.b.S.length)), stale0 true (min A.a.S.length A.b.S.length), (if true then 0 else (min A.a.S.length A.b.S.length))⟩ :: D.seg dt :: H) rfl).trans ((hsub (.cons_cons _ (.cons_cons _ (.cons_cons _ (.cons_cons _ (.cons _ (.refl _))))))).trans (hsub_pick [3, 2, 1, 0] rfl))) ?_
      exact ⟨B1, B3, B4, rfl, by simp only [mnew, stale0, hp, hq] <;> rfl⟩
    · have hj := of_decide_eq_false hg7_7
      refine L_skip rfl rfl ?_
      refine L_skip rfl rfl ?_
      refine L_skip rfl rfl ?_
      refine L_skip rfl rfl ?_
      refine L_skip rfl rfl ?_
      refine L_skip rfl rfl ?_
      refine L_skip rfl rfl ?_
      refine L_skip rfl rfl ?_
      refine L_y rfl (y_pick_f rfl rfl) rfl ?_
      refine L_nil ?_
      refine C_cond_f rfl ?_
      refine C_exit ?_
      refine C_region ?_
      refine L_y rfl (y_add rfl rfl (show _ = (2 : Int) from rfl)) rfl ?_
      refine L_y rfl (y_move rfl) rfl ?_
      refine L_nil ?_
      refine In_round ?_
      refine C_seq ?_
      refine C_region ?_
      refine L_y rfl (y_lss rfl rfl) rfl ?_
      refine L_nil ?_
      refine C_seq ?_
      refine C_cond_f rfl ?_
      refine C_exit ?_
      refine C_seq ?_
      refine C_region ?_
      refine L_y rfl (y_move rfl) rfl ?_
      refine L_y rfl (y_assign rfl) rfl ?_
      refine L_nil ?_
      refine C_ret ?_
      refine B_ret (rv_tmp rfl rv_nil) ((hsub_flat (H := [_] :: [_] :: [_] :: D.seg dt :: H) (H' := Mi.seg 110 ⟨B1, B3, B4, bx, bys, (min A.a.S.length A.b.S.length), .func (.func f) #[] cap.toArray, stale0 false (min A.a.S.length A.b.S.length), (if false then 0 else (min A.a.S.length A.b.S.length)), stale0 true (min A.a.S.length A.b.S.length), (if true then 0 else (min A.a.S.length A.b.S.length))⟩ :: D.seg dt :: H) rfl).trans ((hsub (.cons_cons _ (.cons_cons _ (.cons_cons _ (.cons_cons _ (.cons _ (.refl _))))))).trans (hsub_pick [2, 1, 0, 1] rfl))) ?_
      exact ⟨B1, B3, B4, rfl, by simp only [mnew, stale0, hp, hq] <;> rfl⟩

set_option maxHeartbeats 4000000 in

theorem new_fn_ff {w0 : World} {H : Hp} {f : Nat} {cap : List Value} {D : Duo} {A : Da} {bx bys bp : Nat} (h : Two dt D A bx bys bp) (hp : thr A false = false) (hq : thr A true = false) : FnS Try.prog w0 17 #[ptr bx, ptr bys, .func (.func f) #[] cap.toArray] (D.seg dt :: H) (fun e H' => ∃ b r0 r1, e = .returned (ptr b) ∧ H' = (mnew A bx bys (.func (.func f) #[] cap.toArray) b r0 r1).seg 110 :: D.seg dt :: H) := by
  have hlen : A.a.S.length ≤ 4096 := (h.oks false).2.1
  refine FnS_intro (n := 64) (rs := [.tmp 6]) (vs := [ptr bx, ptr bys, .func (.func f) #[] cap.toArray]) Try.func17 rfl Try.ntmps17 rfl rfl ?_
  refine C_seq ?_
  refine C_region ?_
  refine L_y rfl (y_assign rfl) rfl ?_
  refine L_nil ?_
  refine C_seq ?_
  refine C_region ?_
  refine L_y rfl (y_move rfl) rfl ?_
  refine L_op rfl (op_call rfl rfl (fun a w => Try.call52 a w) rfl ?_)
  refine ((len_d h false).sub (hsub_pick [0] rfl)).mono ?_
  rintro _ _ ⟨rfl, rfl⟩
  refine ⟨_, rfl, ?_⟩
  refine L_y rfl (y_move rfl) rfl ?_
  refine L_op rfl (op_call rfl rfl (fun a w => Try.call52 a w) rfl ?_)
  refine ((len_d h true).sub (hsub_pick [0] rfl)).mono ?_
  rintro _ _ ⟨rfl, rfl⟩
  refine ⟨_, rfl, ?_⟩
  refine L_y rfl (y_minN rfl rfl) rfl ?_
  refine L_y rfl (y_move rfl) rfl ?_
  refine L_y rfl (y_build (vs := [(1, _), (2, _)]) (l := [.pointer none, .map none, .pointer none, .map none, .int .i64 (((min A.a.S.length A.b.S.length) : Nat) : Int), .func (.func f) #[] cap.toArray]) rfl pl_110 zl_110 (fill_cons (off := 4) (m := 1) (vs := [_]) rfl rfl rfl (Nat.le_of_ble_eq_true rfl) (fill_cons (off := 5) (m := 1) (vs := [_]) rfl rfl rfl (Nat.le_of_ble_eq_true rfl) rfl))) rfl ?_
  refine L_op rfl (op_box rfl rfl rfl (fun B1 => ?_))
  refine L_y rfl (y_assign rfl) rfl ?_
  refine L_nil ?_
  refine C_seq ?_
  refine C_seq ?_
  refine C_region ?_
  refine L_y rfl (y_move rfl) rfl ?_
  refine L_y rfl (y_move rfl) rfl ?_
  refine L_op rfl (op_buildSlice (vs := [(0, _), (1, _)]) rfl Try.underlying111 sz_24 zl_24 rfl (by decide) rfl rfl (fun B2 => ?_))
  refine L_y rfl (y_lenS rfl rfl Try.underlying111) rfl ?_
  refine L_y rfl (y_move rfl) rfl ?_
  refine L_nil ?_
  refine C_block ?_
  refine C_loopIn (In_round ?_)
  refine C_seq ?_
  refine C_region ?_
  refine L_y rfl (y_lss rfl rfl) rfl ?_
  refine L_nil ?_
  refine C_seq ?_
  refine C_cond_t rfl ?_
  refine C_skip ?_
  refine C_seq ?_
  refine C_block ?_
  refine C_seq ?_
  refine C_region ?_
  refine L_y rfl (y_move rfl) rfl ?_
  refine L_y rfl (y_indexS rfl rfl Try.underlying111 sz_24 (by omega) (by omega) (show _ = 0 from rfl)) rfl ?_
  refine L_y rfl (y_load rfl ag_24 (sees 0 0 rfl) rfl) rfl ?_
  refine L_y rfl (y_assign rfl) rfl ?_
  refine L_y rfl (y_assign rfl) rfl ?_
  refine L_nil ?_
  refine C_seq ?_
  refine C_region ?_
  refine L_y rfl (y_move rfl) rfl ?_
  refine L_y rfl (y_move rfl) rfl ?_
  refine L_y rfl (y_move rfl) rfl ?_
  refine L_op rfl (op_makeMap rfl (fun B3 => ?_))
  refine L_y rfl (y_build (vs := [(0, _), (1, _)]) (l := [ptr bx, .map (some B3)]) rfl pl_107 zl_107 (fill_cons (off := 0) (m := 1) (vs := [_]) rfl rfl rfl (Nat.le_of_ble_eq_true rfl) (fill_cons (off := 1) (m := 1) (vs := [_]) rfl rfl rfl (Nat.le_of_ble_eq_true rfl) rfl))) rfl ?_
  refine L_y rfl (y_nilCheck rfl) rfl ?_
  refine L_y rfl (y_fieldAddr rfl fl_110_0) rfl ?_
  refine L_y rfl (y_indexA rfl rfl Try.underlying108 sz_107 (by omega) (by omega) (show _ = 0 from rfl)) rfl ?_
  refine L_op rfl (op_store (vs := [ptr bx, .map (some B3)]) 2 0 rfl rfl rfl sz_107 rfl rfl (ones rfl) (Nat.le_of_ble_eq_true rfl) ?_)
  rw [show spl [.pointer none, .map none, .pointer none, .map none, .int .i64 (((min A.a.S.length A.b.S.length) : Nat) : Int), .func (.func f) #[] cap.toArray] 0 [ptr bx, .map (some B3)] = [ptr bx, .map (some B3), .pointer none, .map none, .int .i64 (((min A.a.S.length A.b.S.length) : Nat) : Int), .func (.func f) #[] cap.toArray] from rfl]
  refine L_nil ?_
  refine C_seq ?_
  refine C_region ?_
  refine L_y rfl (y_assign rfl) rfl ?_
  refine L_nil ?_
  refine C_block ?_
  refine C_loop (ι := Nat) (fun j => [(7, ptr B1), (8, .int .i64 0), (10, .int .i64 (j : Int)), (21, .slice (some ⟨B2, 0, none⟩) 2 2), (22, .int .i64 2), (23, .int .i64 0)]) (fun j => [(B3, mapO (stN j) j)] :: [(B1, .cells [ptr bx, .map (some B3), .pointer none, .map none, .int .i64 (((min A.a.S.length A.b.S.length) : Nat) : Int), .func (.func f) #[] cap.toArray].toArray 110)] :: [(B2, .cells [ptr bx, ptr bys].toArray 24)] :: D.seg dt :: H) (fun j => j ≤ (min A.a.S.length A.b.S.length)) (fun j => (min A.a.S.length A.b.S.length) - j) 0 (Nat.zero_le _) ⟨rfl, rfl, rfl, rfl, rfl, rfl, trivial⟩ (hsub_pick [0, 1, 0, 0] rfl) (fun j hj => ?_)
  skip
  refine C_seq ?_
  refine C_seq ?_
  refine C_region ?_
  refine L_y rfl (y_move rfl) rfl ?_
  refine L_y rfl (y_move rfl) rfl ?_
  refine L_y rfl (y_nilCheck rfl) rfl ?_
  refine L_y rfl (y_fieldAddr rfl fl_110_1) rfl ?_
  refine L_y rfl (y_load rfl ag_3 (sees 1 0 rfl) rfl) rfl ?_
  refine L_y rfl (y_lss rfl rfl) rfl ?_
  refine L_y rfl (y_move rfl) rfl ?_
  refine L_case 42 rfl (fun hg7_7 => ?_) (fun hg7_7 => ?_)
  · have hj := of_decide_eq_true hg7_7
    refine L_y rfl (y_move rfl) rfl ?_
    refine L_y rfl (y_move rfl) rfl ?_
    refine L_y rfl (y_nilCheck rfl) rfl ?_
    refine L_y rfl (y_fieldAddr rfl fl_110_0) rfl ?_
    refine L_y rfl (y_indexA rfl rfl Try.underlying108 sz_107 (by omega) (by omega) (show _ = 0 from rfl)) rfl ?_
    refine L_y rfl (y_loadA rfl ag_107 sz_107 (sees 1 0 rfl) (Nat.le_of_ble_eq_true rfl) rfl) rfl ?_
    refine L_op rfl (op_call rfl rfl (fun a w => Try.call53 a w) rfl ?_)
    refine ((there_d h false).sub (hsub_pick [3] rfl)).mono ?_
    rintro _ _ ⟨rfl, rfl⟩
    rw [hp]
    refine ⟨_, rfl, ?_⟩
    refine L_y rfl (y_not rfl) rfl ?_
    refine L_y rfl (y_pick_t rfl rfl) rfl ?_
    refine L_nil ?_
    refine C_cond_t rfl ?_
    refine C_skip ?_
    refine C_seq ?_
    refine C_block ?_
    refine C_region ?_
    refine L_y rfl (y_move rfl) rfl ?_
    refine L_y rfl (y_move rfl) rfl ?_
    refine L_y rfl (y_nilCheck rfl) rfl ?_
    refine L_y rfl (y_fieldAddr rfl fl_110_0) rfl ?_
    refine L_y rfl (y_indexA rfl rfl Try.underlying108 sz_107 (by omega) (by omega) (show _ = 0 from rfl)) rfl ?_
    refine L_y rfl (y_fieldAddr rfl fl_107_1) rfl ?_
    refine L_y rfl (y_load rfl ag_105 (sees 2 0 rfl) rfl) rfl ?_
    refine L_y rfl (y_move rfl) rfl ?_
    refine L_op rfl (op_mapUpdate 1 0 rfl rfl rfl Try.underlying105 Try.underlying3 rfl rfl ?_)
    refine L_nil ?_
    refine C_region ?_
    refine L_y rfl (y_move rfl) rfl ?_
    refine L_y rfl (y_add rfl rfl (wi64 (by omega) (by omega))) rfl ?_
    refine L_y rfl (y_assign rfl) rfl ?_
    refine L_nil ?_
    refine ⟨j + 1, by omega, by omega, ⟨rfl, rfl, rfl, rfl, rfl, rfl, trivial⟩, ?_⟩
    rw [← (stN_put j).1, show mapO (kPut (stN j) j (j : Int)) (j + 1) = mapO (kPut (stN j) j (j : Int)) (kClk (stN j) j (j : Int)) from by rw [(stN_put j).2]]
    exact ((hsub (.cons_cons _ (.cons_cons _ (.cons_cons _ (.cons_cons _ (.refl _)))))).trans (hsub_pick [1, 1, 1, 0] rfl))
  · have hj := of_decide_eq_false hg7_7
    refine L_skip rfl rfl ?_
    refine L_skip rfl rfl ?_
    refine L_skip rfl rfl ?_
    refine L_skip rfl rfl ?_
    refine L_skip rfl rfl ?_
    refine L_skip rfl rfl ?_
    refine L_skip rfl rfl ?_
    refine L_skip rfl rfl ?_
    refine L_y rfl (y_pick_f rfl rfl) rfl ?_
    refine L_nil ?_
    refine C_cond_f rfl ?_
    refine C_exit ?_
    obtain rfl : j = (min A.a.S.length A.b.S.length) := by omega
    refine C_region ?_
    refine L_y rfl (y_add rfl rfl (show _ = (1 : Int) from rfl)) rfl ?_
    refine L_y rfl (y_move rfl) rfl ?_
    refine L_nil ?_
    refine In_round ?_
    refine C_seq ?_
    refine C_region ?_
    refine L_y rfl (y_lss rfl rfl) rfl ?_
    refine L_nil ?_
    refine C_seq ?_
    refine C_cond_t rfl ?_
    refine C_skip ?_
    refine C_seq ?_
    refine C_block ?_
    refine C_seq ?_
    refine C_region ?_
    refine L_y rfl (y_move rfl) rfl ?_
    refine L_y rfl (y_indexS rfl rfl Try.underlying111 sz_24 (by omega) (by omega) (show _ = 1 from rfl)) rfl ?_
    refine L_y rfl (y_load rfl ag_24 (sees 2 0 rfl) rfl) rfl ?_
    refine L_y rfl (y_assign rfl) rfl ?_
    refine L_y rfl (y_assign rfl) rfl ?_
    refine L_nil ?_
    refine C_seq ?_
    refine C_region ?_
    refine L_y rfl (y_move rfl) rfl ?_
    refine L_y rfl (y_move rfl) rfl ?_
    refine L_y rfl (y_move rfl) rfl ?_
    refine L_op rfl (op_makeMap rfl (fun B4 => ?_))
    refine L_y rfl (y_build (vs := [(0, _), (1, _)]) (l := [ptr bys, .map (some B4)]) rfl pl_107 zl_107 (fill_cons (off := 0) (m := 1) (vs := [_]) rfl rfl rfl (Nat.le_of_ble_eq_true rfl) (fill_cons (off := 1) (m := 1) (vs := [_]) rfl rfl rfl (Nat.le_of_ble_eq_true rfl) rfl))) rfl ?_
    refine L_y rfl (y_nilCheck rfl) rfl ?_
    refine L_y rfl (y_fieldAddr rfl fl_110_0) rfl ?_
    refine L_y rfl (y_indexA rfl rfl Try.underlying108 sz_107 (by omega) (by omega) (show _ = 2 from rfl)) rfl ?_
    refine L_op rfl (op_store (vs := [ptr bys, .map (some B4)]) 2 0 rfl rfl rfl sz_107 rfl rfl (ones rfl) (Nat.le_of_ble_eq_true rfl) ?_)
    rw [show spl [ptr bx, .map (some B3), .pointer none, .map none, .int .i64 (((min A.a.S.length A.b.S.length) : Nat) : Int), .func (.func f) #[] cap.toArray] 2 [ptr bys, .map (some B4)] = [ptr bx, .map (some B3), ptr bys, .map (some B4), .int .i64 (((min A.a.S.length A.b.S.length) : Nat) : Int), .func (.func f) #[] cap.toArray] from rfl]
    refine L_nil ?_
    refine C_seq ?_
    refine C_region ?_
    refine L_y rfl (y_assign rfl) rfl ?_
    refine L_nil ?_
    refine C_block ?_
    refine C_loop (ι := Nat) (fun j => [(7, ptr B1), (8, .int .i64 1), (10, .int .i64 (j : Int)), (21, .slice (some ⟨B2, 0, none⟩) 2 2), (22, .int .i64 2), (23, .int .i64 1)]) (fun j => [(B4, mapO (stN j) j)] :: [(B1, .cells [ptr bx, .map (some B3), ptr bys, .map (some B4), .int .i64 (((min A.a.S.length A.b.S.length) : Nat) : Int), .func (.func f) #[] cap.toArray].toArray 110)] :: [(B2, .cells [ptr bx, ptr bys].toArray 24)] :: D.seg dt :: [(B3, mapO (stale0 false (min A.a.S.length A.b.S.length)) (if false then 0 else (min A.a.S.length A.b.S.length)))] :: H) (fun j => j ≤ (min A.a.S.length A.b.S.length)) (fun j => (min A.a.S.length A.b.S.length) - j) 0 (Nat.zero_le _) ⟨rfl, rfl, rfl, rfl, rfl, rfl, trivial⟩ (hsub_pick [0, 1, 1, 1, 0] rfl) (fun j hj => ?_)
    skip
    refine C_seq ?_
    refine C_seq ?_
    refine C_region ?_
    refine L_y rfl (y_move rfl) rfl ?_
    refine L_y rfl (y_move rfl) rfl ?_
    refine L_y rfl (y_nilCheck rfl) rfl ?_
    refine L_y rfl (y_fieldAddr rfl fl_110_1) rfl ?_
    refine L_y rfl (y_load rfl ag_3 (sees 1 0 rfl) rfl) rfl ?_
    refine L_y rfl (y_lss rfl rfl) rfl ?_
    refine L_y rfl (y_move rfl) rfl ?_
    refine L_case 42 rfl (fun hg7_7 => ?_) (fun hg7_7 => ?_)
    · have hj := of_decide_eq_true hg7_7
      refine L_y rfl (y_move rfl) rfl ?_
      refine L_y rfl (y_move rfl) rfl ?_
      refine L_y rfl (y_nilCheck rfl) rfl ?_
      refine L_y rfl (y_fieldAddr rfl fl_110_0) rfl ?_
      refine L_y rfl (y_indexA rfl rfl Try.underlying108 sz_107 (by omega) (by omega) (show _ = 2 from rfl)) rfl ?_
      refine L_y rfl (y_loadA rfl ag_107 sz_107 (sees 1 0 rfl) (Nat.le_of_ble_eq_true rfl) rfl) rfl ?_
      refine L_op rfl (op_call rfl rfl (fun a w => Try.call53 a w) rfl ?_)
      refine ((there_d h true).sub (hsub_pick [3] rfl)).mono ?_
      rintro _ _ ⟨rfl, rfl⟩
      rw [hq]
      refine ⟨_, rfl, ?_⟩
      refine L_y rfl (y_not rfl) rfl ?_
      refine L_y rfl (y_pick_t rfl rfl) rfl ?_
      refine L_nil ?_
      refine C_cond_t rfl ?_
      refine C_skip ?_
      refine C_seq ?_
      refine C_block ?_
      refine C_region ?_
      refine L_y rfl (y_move rfl) rfl ?_
      refine L_y rfl (y_move rfl) rfl ?_
      refine L_y rfl (y_nilCheck rfl) rfl ?_
      refine L_y rfl (y_fieldAddr rfl fl_110_0) rfl ?_
      refine L_y rfl (y_indexA rfl rfl Try.underlying108 sz_107 (by omega) (by omega) (show _ = 2 from rfl)) rfl ?_
      refine L_y rfl (y_fieldAddr rfl fl_107_1) rfl ?_
      refine L_y rfl (y_load rfl ag_105 (sees 2 0 rfl) rfl) rfl ?_
      refine L_y rfl (y_move rfl) rfl ?_
      refine L_op rfl (op_mapUpdate 1 0 rfl rfl rfl Try.underlying105 Try.underlying3 rfl rfl ?_)
      refine L_nil ?_
      refine C_region ?_
      refine L_y rfl (y_move rfl) rfl ?_
      refine L_y rfl (y_add rfl rfl (wi64 (by omega) (by omega))) rfl ?_
      refine L_y rfl (y_assign rfl) rfl ?_
      refine L_nil ?_
      refine ⟨j + 1, by omega, by omega, ⟨rfl, rfl, rfl, rfl, rfl, rfl, trivial⟩, ?_⟩
      rw [← (stN_put j).1, show mapO (kPut (stN j) j (j : Int)) (j + 1) = mapO (kPut (stN j) j (j : Int)) (kClk (stN j) j (j : Int)) from by rw [(stN_put j).2]]
      exact ((hsub (.cons_cons _ (.cons_cons _ (.cons_cons _ (.cons_cons _ (.cons_cons _ (.refl _))))))).trans (hsub_pick [1, 1, 1, 0, 0] rfl))
    · have hj := of_decide_eq_false hg7_7
      refine L_skip rfl rfl ?_
      refine L_skip rfl rfl ?_
      refine L_skip rfl rfl ?_
      refine L_skip rfl rfl ?_
      refine L_skip rfl rfl ?_
      refine L_skip rfl rfl ?_
      refine L_skip rfl rfl ?_
      refine L_skip rfl rfl ?_
      refine L_y rfl (y_pick_f rfl rfl) rfl ?_
      refine L_nil ?_
      refine C_cond_f rfl ?_
      refine C_exit ?_
      obtain rfl : j = (min A.a.S.length A.b.S.length) := by omega
      refine C_region ?_
      refine L_y rfl (y_add rfl rfl (show _ = (2 : Int) from rfl)) rfl ?_
      refine L_y rfl (y_move rfl) rfl ?_
      refine L_nil ?_
      refine In_round ?_
      refine C_seq ?_
      refine C_region ?_
      refine L_y rfl (y_lss rfl rfl) rfl ?_
      refine L_nil ?_
      refine C_seq ?_
      refine C_cond_f rfl ?_
      refine C_exit ?_
      refine C_seq ?_
      refine C_region ?_
      refine L_y rfl (y_move rfl) rfl ?_
      refine L_y rfl (y_assign rfl) rfl ?_
      refine L_nil ?_
      refine C_ret ?_
      refine B_ret (rv_tmp rfl rv_nil) ((hsub_flat (H := [_] :: [_] :: [_] :: D.seg dt :: H) (H' := Mi.seg 110 ⟨B1, B3, B4, bx, bys, (min A.a.S.length A.b.S.length), .func (.func f) #[] cap.toArray, stale0 false (min A.a.S.length A.b.S.length), (if false then 0 else (min A.a.S.length A.b.S.length)), stale0 false (min A.a.S.length A.b.S.length), (if false then 0 else (min A.a.S.length A.b.S.length))⟩ :: D.seg dt :: H) rfl).trans ((hsub (.cons_cons _ (.cons_cons _ (.cons_cons _ (.cons_cons _ (.cons _ (.refl _))))))).trans (hsub_pick [1, 3, 0, 1] rfl))) ?_
      exact ⟨B1, B3, B4, rfl, by simp only [mnew, stale0, hp, hq] <;> rfl⟩

theorem mnew_fn {w0 : World} {H : Hp} {f : Nat} {cap : List Value} {D : Duo} {A : Da} {bx bys bp : Nat} (h : Two dt D A bx bys bp) : FnS Try.prog w0 17 #[ptr bx, ptr bys, .func (.func f) #[] cap.toArray] (D.seg dt :: H) (fun e H' => ∃ b r0 r1, e = .returned (ptr b) ∧ H' = (mnew A bx bys (.func (.func f) #[] cap.toArray) b r0 r1).seg 110 :: D.seg dt :: H) := by
  cases hp : thr A false <;> cases hq : thr A true
  · exact new_fn_ff h hp hq
  · exact new_fn_ft h hp hq
  · exact new_fn_tf h hp hq
  · exact new_fn_tt h hp hq

end Go.Proofs.Ytjjiclgbdenkkaa

/- walks (own work; the walks' lines by a program of this repo). -/
set_option linter.unusedVariables false
set_option linter.unusedSimpArgs false
set_option maxRecDepth 20000
namespace Go.Proofs.Ytjjiclgbdenkkaa
open Go.Sl
attribute [local irreducible] BodyQ WpC WpL WpS WpH OpW FnS


theorem new_v {w0 : World} {H : Hp} {f : Nat} {cap : List Value} {D : Duo} {A : Da} {K : Nat} {X Y : List Sec} {k0 k1 bx bys bp : Nat} (hT : Two dt D A bx bys bp) (hv : Vw A K X Y k0 k1) (hX : ∀ s ∈ X, s.length = 128) (hY : ∀ s ∈ Y, s.length = 128) : FnS Try.prog w0 17 #[ptr bx, ptr bys, .func (.func f) #[] cap.toArray] (D.seg dt :: H) (fun e H' => ∃ mb m, Ms dt (.func (.func f) #[] cap.toArray) D A m K X Y k0 k1 mb bx bys bp ∧ e = .returned (ptr mb) ∧ H' = m.seg 110 :: D.seg dt :: H) := by
  refine (mnew_fn hT).mono ?_
  rintro _ _ ⟨b, r0, r1, rfl, rfl⟩
  exact ⟨b, _, Ms.new hT hv b r0 r1 hX hY, rfl, rfl⟩

end Go.Proofs.Ytjjiclgbdenkkaa

/- walks (own work; the walks' lines by a program of this repo). -/
set_option linter.unusedVariables false
set_option linter.unusedSimpArgs false
set_option maxRecDepth 20000
namespace Go.Proofs.Ytjjiclgbdenkkaa
open Go.Sl
attribute [local irreducible] BodyQ WpC WpL WpS WpH OpW FnS


theorem rotg_v {w0 : World} {H : Hp} {gv : Value} {D : Duo} {A : Da} {m : Mi} {K : Nat} {X Y : List Sec} {mb bx bys bp : Nat} (h : Ms dt gv D A m K X Y 0 0 mb bx bys bp) (i : Bool) {n j : Nat} {s : Sec} {c : UInt8} (hs : (pick2 i X Y)[n]? = some s) (hj : j < 128) : FnS Try.prog w0 34 #[ptr (sel bx bys i), .int .i64 (n : Int), .int .i64 (j : Int), .int .u8 (c.toNat : Int)] (D.seg dt :: H) (fun e H' => e = .returned (.bool true) ∧ ∃ D' A', Ms dt gv D' A' m K (if i then X else X.set n (rotB s j c)) (if i then Y.set n (rotB s j c) else Y) 0 0 mb bx bys bp ∧ H' = D'.seg dt :: H) := by
  obtain ⟨e, v⟩ := h.vw.rot (c := c) hs hj
  refine (rot_d h.two i (n : Int) (j : Int) c).mono ?_
  rintro _ _ ⟨rfl, D', hT', rfl⟩
  rw [e]
  have ls : s.length = 128 := by cases i; exact h.okX s (List.mem_of_getElem? hs); exact h.okY s (List.mem_of_getElem? hs)
  refine ⟨rfl, D', _, h.with hT' v ?_ ?_, rfl⟩
  · cases i
    · exact set_ok2 h.okX (rotB_len.trans ls)
    · exact h.okX
  · cases i
    · exact h.okY
    · exact set_ok2 h.okY (rotB_len.trans ls)

end Go.Proofs.Ytjjiclgbdenkkaa

/- walks (own work; the walks' lines by a program of this repo). -/
set_option linter.unusedVariables false
set_option linter.unusedSimpArgs false
set_option maxRecDepth 20000
namespace Go.Proofs.Ytjjiclgbdenkkaa
open Go.Sl
attribute [local irreducible] BodyQ WpC WpL WpS WpH OpW FnS



set_option maxHeartbeats 4000000 in

theorem heal_no {w0 : World} {H : Hp} {D : Duo} {A : Da} {bp : Nat} {m : Mi} (h : Two dt D A m.bx m.bys bp) {p : Int → Sec → Bool} (hG : GoodAt Try.prog w0 H m.gv p) (n : Int) (hQ : ∀ i, (A.dev i).Q.length < 99990) (hn : m.has n = false) : FnS Try.prog w0 23 #[ptr m.b, .int .i64 n] (m.seg 110 :: D.seg dt :: H) (fun e H' => e = .returned (.tuple #[.int .i64 (healR m A p n).1, .int .i64 (healR m A p n).2]) ∧ ∃ D', Two dt D' (healA m A p n) m.bx m.bys bp ∧ H' = (healM m A p n).seg 110 :: D'.seg dt :: H) := by
  refine FnS_intro (n := 105) (rs := [.tmp 4, .tmp 5]) (vs := [ptr m.b, .int .i64 n]) Try.func23 rfl Try.ntmps23 rfl rfl ?_
  refine C_seq ?_
  refine C_region ?_
  refine L_y rfl (y_assign rfl) rfl ?_
  refine L_y rfl (y_assign rfl) rfl ?_
  refine L_nil ?_
  refine C_seq ?_
  refine C_seq ?_
  refine C_region ?_
  refine L_y rfl (y_move rfl) rfl ?_
  refine L_y rfl (y_move rfl) rfl ?_
  refine L_op rfl (op_call rfl rfl (fun a w => Try.call58 a w) rfl ?_)
  refine (has_m _ (sees 0 0 rfl)).mono ?_
  rintro _ _ ⟨rfl, rfl⟩
  rw [hn]
  refine ⟨_, rfl, ?_⟩
  refine L_y rfl (y_not rfl) rfl ?_
  refine L_nil ?_
  refine C_cond_t rfl ?_
  refine C_seq ?_
  refine C_region ?_
  refine L_y rfl (y_assign rfl) rfl ?_
  refine L_y rfl (y_assign rfl) rfl ?_
  refine L_nil ?_
  refine C_ret ?_
  refine B_ret (rv_tmp rfl (rv_tmp rfl rv_nil)) ((hsub (.cons_cons _ (.cons_cons _ (.refl _)))).trans (hsub_pick [0, 0] rfl)) ?_
  exact ⟨by simp_all [healR, healTo, Go.Sl.hg0, Go.Sl.hg1] <;> rfl, D, h.to (by simp_all [healA, healTo, Go.Sl.hg0, Go.Sl.hg1]), by rw [show healM m A p n = m from by simp_all [healM, healTo, Go.Sl.hg0, Go.Sl.hg1]]; first | done | rfl⟩

set_option maxHeartbeats 4000000 in

theorem heal_tt {w0 : World} {H : Hp} {D : Duo} {A : Da} {bp : Nat} {m : Mi} (h : Two dt D A m.bx m.bys bp) {p : Int → Sec → Bool} (hG : GoodAt Try.prog w0 H m.gv p) (n : Int) (hQ : ∀ i, (A.dev i).Q.length < 99990) (hn : m.has n = true) (hp : thr A false = true) (hq : thr A true = true) : FnS Try.prog w0 23 #[ptr m.b, .int .i64 n] (m.seg 110 :: D.seg dt :: H) (fun e H' => e = .returned (.tuple #[.int .i64 (healR m A p n).1, .int .i64 (healR m A p n).2]) ∧ ∃ D', Two dt D' (healA m A p n) m.bx m.bys bp ∧ H' = (healM m A p n).seg 110 :: D'.seg dt :: H) := by
  refine FnS_intro (n := 105) (rs := [.tmp 4, .tmp 5]) (vs := [ptr m.b, .int .i64 n]) Try.func23 rfl Try.ntmps23 rfl rfl ?_
  refine C_seq ?_
  refine C_region ?_
  refine L_y rfl (y_assign rfl) rfl ?_
  refine L_y rfl (y_assign rfl) rfl ?_
  refine L_nil ?_
  refine C_seq ?_
  refine C_seq ?_
  refine C_region ?_
  refine L_y rfl (y_move rfl) rfl ?_
  refine L_y rfl (y_move rfl) rfl ?_
  refine L_op rfl (op_call rfl rfl (fun a w => Try.call58 a w) rfl ?_)
  refine (has_m _ (sees 0 0 rfl)).mono ?_
  rintro _ _ ⟨rfl, rfl⟩
  rw [hn]
  refine ⟨_, rfl, ?_⟩
  refine L_y rfl (y_not rfl) rfl ?_
  refine L_nil ?_
  refine C_cond_f rfl ?_
  refine C_skip ?_
  refine C_seq ?_
  refine C_seq ?_
  refine C_region ?_
  refine L_y rfl (y_move rfl) rfl ?_
  refine L_op rfl (op_call rfl rfl (fun a w => Try.call59 a w) rfl ?_)
  refine ((present_tt h hp hq).sub (hsub_pick [0, 0] rfl)).mono ?_
  rintro _ _ ⟨g1, hg1, rfl, rfl⟩
  cases g1 with
  | none => exact slOk_none hg1 (by decide)
  | some g1 => ?_
  refine ⟨_, rfl, ?_⟩
  refine L_y rfl (y_lenS rfl rfl Try.underlying118) rfl ?_
  refine L_y rfl (y_lss rfl rfl) rfl ?_
  refine L_nil ?_
  refine C_cond_f rfl ?_
  refine C_skip ?_
  refine C_seq ?_
  refine C_region ?_
  refine L_op rfl (op_alloc zl_120 rfl (fun B1 => ?_))
  refine L_nil ?_
  refine C_seq ?_
  refine C_region ?_
  refine L_op rfl (op_alloc zl_62 rfl (fun B2 => ?_))
  refine L_nil ?_
  refine C_seq ?_
  refine C_seq ?_
  refine C_region ?_
  refine L_y rfl (y_move rfl) rfl ?_
  refine L_nil ?_
  refine C_block ?_
  refine C_loopIn (In_round ?_)
  refine C_seq ?_
  refine C_region ?_
  refine L_y rfl (y_lss rfl rfl) rfl ?_
  refine L_nil ?_
  refine C_seq ?_
  refine C_cond_t rfl ?_
  refine C_skip ?_
  refine C_seq ?_
  refine C_block ?_
  refine C_seq ?_
  refine C_region ?_
  refine L_y rfl (y_move rfl) rfl ?_
  refine L_y rfl (y_assign rfl) rfl ?_
  refine L_nil ?_
  refine C_seq ?_
  refine C_region ?_
  refine L_y rfl (y_move rfl) rfl ?_
  refine L_y rfl (y_move rfl) rfl ?_
  refine L_y rfl (y_move rfl) rfl ?_
  refine L_y rfl (y_nilCheck rfl) rfl ?_
  refine L_y rfl (y_fieldAddr rfl fl_110_0) rfl ?_
  refine L_y rfl (y_indexA rfl rfl Try.underlying108 sz_107 (by omega) (by omega) (show _ = 0 from rfl)) rfl ?_
  refine L_y rfl (y_fieldAddr rfl fl_107_0) rfl ?_
  refine L_y rfl (y_load rfl ag_24 (sees 3 0 rfl) rfl) rfl ?_
  refine L_y rfl (y_move rfl) rfl ?_
  refine L_op rfl (op_call rfl rfl (fun a w => Try.call60 a w) rfl ?_)
  refine ((read_d h false (n)).sub (hsub_pick [4] rfl)).mono ?_
  rintro _ _ ⟨rfl, rfl⟩
  refine ⟨_, rfl, ?_⟩
  refine L_y rfl (y_move rfl) rfl ?_
  refine L_y rfl (y_extract rfl rfl) rfl ?_
  refine L_y rfl (y_extract rfl rfl) rfl ?_
  refine L_y rfl (y_indexA rfl rfl Try.underlying120 sz_32 (by omega) (by omega) (show _ = 0 from rfl)) rfl ?_
  rw [z256]
  refine L_op rfl (op_store (vs := bs (A.rS false n)) 2 0 rfl rfl rfl sz_32 (by rw [bs_length, rS_len _ h.oks]) rfl (bs_one _) (by simp [bs_length, secOf_len, rS_len _ h.oks]) ?_)
  rw [spl_lo (by rw [secOf_len, rS_len _ h.oks])]
  refine L_nil ?_
  refine C_region ?_
  refine L_y rfl (y_move rfl) rfl ?_
  refine L_y rfl (y_move rfl) rfl ?_
  refine L_y rfl (y_move rfl) rfl ?_
  refine L_y rfl (y_nilCheck rfl) rfl ?_
  refine L_y rfl (y_fieldAddr rfl fl_110_0) rfl ?_
  refine L_y rfl (y_indexA rfl rfl Try.underlying108 sz_107 (by omega) (by omega) (show _ = 0 from rfl)) rfl ?_
  refine L_y rfl (y_fieldAddr rfl fl_107_1) rfl ?_
  refine L_y rfl (y_load rfl ag_105 (sees 4 0 rfl) rfl) rfl ?_
  refine L_y rfl (y_move rfl) rfl ?_
  refine L_y rfl (y_lookup rfl rfl Try.underlying105 Try.underlying3 zt_4 (sees 4 1 rfl)) rfl ?_
  refine L_y rfl (y_not rfl) rfl ?_
  refine L_y rfl (y_move rfl) rfl ?_
  refine L_case 47 rfl (fun hg11_12 => ?_) (fun hg11_12 => ?_)
  · skip
    refine L_y rfl (y_move rfl) rfl ?_
    refine L_y rfl (y_move rfl) rfl ?_
    refine L_y rfl (y_move rfl) rfl ?_
    refine L_y rfl (y_indexA rfl rfl Try.underlying120 sz_32 (by omega) (by omega) (show _ = 0 from rfl)) rfl ?_
    refine L_y rfl (y_loadA rfl ag_32 sz_32 (sees 2 0 rfl) (by simp [bs_length, secOf_len, rS_len _ h.oks]) (by first | exact two_hi (rS_len _ h.oks) (rS_len _ h.oks) | exact two_lo (rS_len _ h.oks))) rfl ?_
    refine L_op rfl (op_call rfl rfl (fun a w => Try.call61 a w) rfl ?_)
    refine FnS.mono (right_m (sees 4 0 rfl) (hG.sub (hsub (.cons _ (.cons _ (.cons _ (.cons _ (.cons _ (.refl _)))))))) n _ (rS_len _ h.oks)) ?_
    rintro _ _ ⟨rfl, e⟩
    obtain rfl := e.symm
    refine ⟨_, rfl, ?_⟩
    refine L_case 53 rfl (fun hg11_18 => ?_) (fun hg11_18 => ?_)
    · skip
      refine L_y rfl (y_pick_t rfl rfl) rfl ?_
      refine L_y rfl (y_indexA rfl rfl Try.underlying62 sz_4 (by omega) (by omega) (show _ = 0 from rfl)) rfl ?_
      refine L_op rfl (op_store1 1 0 rfl rfl rfl sz_4 rfl (Nat.le_of_ble_eq_true rfl) ?_)
      refine L_nil ?_
      refine C_region ?_
      refine L_y rfl (y_add rfl rfl (show _ = (1 : Int) from rfl)) rfl ?_
      refine L_y rfl (y_move rfl) rfl ?_
      refine L_nil ?_
      refine In_round ?_
      refine C_seq ?_
      refine C_region ?_
      refine L_y rfl (y_lss rfl rfl) rfl ?_
      refine L_nil ?_
      refine C_seq ?_
      refine C_cond_t rfl ?_
      refine C_skip ?_
      refine C_seq ?_
      refine C_block ?_
      refine C_seq ?_
      refine C_region ?_
      refine L_y rfl (y_move rfl) rfl ?_
      refine L_y rfl (y_assign rfl) rfl ?_
      refine L_nil ?_
      refine C_seq ?_
      refine C_region ?_
      refine L_y rfl (y_move rfl) rfl ?_
      refine L_y rfl (y_move rfl) rfl ?_
      refine L_y rfl (y_move rfl) rfl ?_
      refine L_y rfl (y_nilCheck rfl) rfl ?_
      refine L_y rfl (y_fieldAddr rfl fl_110_0) rfl ?_
      refine L_y rfl (y_indexA rfl rfl Try.underlying108 sz_107 (by omega) (by omega) (show _ = 2 from rfl)) rfl ?_
      refine L_y rfl (y_fieldAddr rfl fl_107_0) rfl ?_
      refine L_y rfl (y_load rfl ag_24 (sees 4 0 rfl) rfl) rfl ?_
      refine L_y rfl (y_move rfl) rfl ?_
      refine L_op rfl (op_call rfl rfl (fun a w => Try.call60 a w) rfl ?_)
      refine ((read_d h true (n)).sub (hsub_pick [0] rfl)).mono ?_
      rintro _ _ ⟨rfl, rfl⟩
      refine ⟨_, rfl, ?_⟩
      refine L_y rfl (y_move rfl) rfl ?_
      refine L_y rfl (y_extract rfl rfl) rfl ?_
      refine L_y rfl (y_extract rfl rfl) rfl ?_
      refine L_y rfl (y_indexA rfl rfl Try.underlying120 sz_32 (by omega) (by omega) (show _ = 128 from rfl)) rfl ?_
      skip
      refine L_op rfl (op_store (vs := bs (A.rS true n)) 2 0 rfl rfl rfl sz_32 (by rw [bs_length, rS_len _ h.oks]) rfl (bs_one _) (by simp [bs_length, secOf_len, rS_len _ h.oks]) ?_)
      rw [spl_hi (rS_len _ h.oks) (by rw [secOf_len, rS_len _ h.oks])]
      refine L_nil ?_
      refine C_region ?_
      refine L_y rfl (y_move rfl) rfl ?_
      refine L_y rfl (y_move rfl) rfl ?_
      refine L_y rfl (y_move rfl) rfl ?_
      refine L_y rfl (y_nilCheck rfl) rfl ?_
      refine L_y rfl (y_fieldAddr rfl fl_110_0) rfl ?_
      refine L_y rfl (y_indexA rfl rfl Try.underlying108 sz_107 (by omega) (by omega) (show _ = 2 from rfl)) rfl ?_
      refine L_y rfl (y_fieldAddr rfl fl_107_1) rfl ?_
      refine L_y rfl (y_load rfl ag_105 (sees 4 0 rfl) rfl) rfl ?_
      refine L_y rfl (y_move rfl) rfl ?_
      refine L_y rfl (y_lookup rfl rfl Try.underlying105 Try.underlying3 zt_4 (sees 4 2 rfl)) rfl ?_
      refine L_y rfl (y_not rfl) rfl ?_
      refine L_y rfl (y_move rfl) rfl ?_
      refine L_case 47 rfl (fun hg11_12 => ?_) (fun hg11_12 => ?_)
      · skip
        refine L_y rfl (y_move rfl) rfl ?_
        refine L_y rfl (y_move rfl) rfl ?_
        refine L_y rfl (y_move rfl) rfl ?_
        refine L_y rfl (y_indexA rfl rfl Try.underlying120 sz_32 (by omega) (by omega) (show _ = 128 from rfl)) rfl ?_
        refine L_y rfl (y_loadA rfl ag_32 sz_32 (sees 2 0 rfl) (by simp [bs_length, secOf_len, rS_len _ h.oks]) (by first | exact two_hi (rS_len _ h.oks) (rS_len _ h.oks) | exact two_lo (rS_len _ h.oks))) rfl ?_
        refine L_op rfl (op_call rfl rfl (fun a w => Try.call61 a w) rfl ?_)
        refine FnS.mono (right_m (sees 4 0 rfl) (hG.sub (hsub (.cons _ (.cons _ (.cons _ (.cons _ (.cons _ (.refl _)))))))) n _ (rS_len _ h.oks)) ?_
        rintro _ _ ⟨rfl, e⟩
        obtain rfl := e.symm
        refine ⟨_, rfl, ?_⟩
        refine L_case 53 rfl (fun hg11_18 => ?_) (fun hg11_18 => ?_)
        · skip
          refine L_y rfl (y_pick_t rfl rfl) rfl ?_
          refine L_y rfl (y_indexA rfl rfl Try.underlying62 sz_4 (by omega) (by omega) (show _ = 1 from rfl)) rfl ?_
          refine L_op rfl (op_store1 1 0 rfl rfl rfl sz_4 rfl (Nat.le_of_ble_eq_true rfl) ?_)
          refine L_nil ?_
          refine C_region ?_
          refine L_y rfl (y_add rfl rfl (show _ = (2 : Int) from rfl)) rfl ?_
          refine L_y rfl (y_move rfl) rfl ?_
          refine L_nil ?_
          refine In_round ?_
          refine C_seq ?_
          refine C_region ?_
          refine L_y rfl (y_lss rfl rfl) rfl ?_
          refine L_nil ?_
          refine C_seq ?_
          refine C_cond_f rfl ?_
          refine C_exit ?_
          refine C_seq ?_
          refine C_region ?_
          refine L_y rfl (y_assign rfl) rfl ?_
          refine L_nil ?_
          refine C_seq ?_
          refine C_block ?_
          refine C_seq ?_
          refine C_region ?_
          refine L_y rfl (y_indexA rfl rfl Try.underlying62 sz_4 (by omega) (by omega) (show _ = 0 from rfl)) rfl ?_
          refine L_y rfl (y_load rfl ag_4 (sees 1 0 rfl) rfl) rfl ?_
          refine L_y rfl (y_not rfl) rfl ?_
          refine L_y rfl (y_move rfl) rfl ?_
          refine L_skip rfl rfl ?_
          refine L_skip rfl rfl ?_
          refine L_skip rfl rfl ?_
          refine L_y rfl (y_pick_f rfl rfl) rfl ?_
          refine L_y rfl (y_assign rfl) rfl ?_
          refine L_nil ?_
          refine C_cond_f rfl ?_
          refine C_seq ?_
          refine C_region ?_
          refine L_y rfl (y_indexA rfl rfl Try.underlying62 sz_4 (by omega) (by omega) (show _ = 0 from rfl)) rfl ?_
          refine L_y rfl (y_load rfl ag_4 (sees 1 0 rfl) rfl) rfl ?_
          refine L_y rfl (y_move rfl) rfl ?_
          refine L_y rfl (y_indexA rfl rfl Try.underlying62 sz_4 (by omega) (by omega) (show _ = 1 from rfl)) rfl ?_
          refine L_y rfl (y_load rfl ag_4 (sees 1 0 rfl) rfl) rfl ?_
          refine L_y rfl (y_pick_t rfl rfl) rfl ?_
          refine L_y rfl (y_move rfl) rfl ?_
          refine L_y rfl (y_indexA rfl rfl Try.underlying120 sz_32 (by omega) (by omega) (show _ = 0 from rfl)) rfl ?_
          refine L_y rfl (y_loadA rfl ag_32 sz_32 (sees 2 0 rfl) (by simp [bs_length, secOf_len, rS_len _ h.oks]) (two_lo (rS_len _ h.oks))) rfl ?_
          refine L_y rfl (y_indexA rfl rfl Try.underlying120 sz_32 (by omega) (by omega) (show _ = 128 from rfl)) rfl ?_
          refine L_y rfl (y_loadA rfl ag_32 sz_32 (sees 2 0 rfl) (by simp [bs_length, secOf_len, rS_len _ h.oks]) (two_hi (rS_len _ h.oks) (rS_len _ h.oks))) rfl ?_
          refine L_y rfl (y_eqa rfl rfl Try.underlying32 Try.underlying5 sz_5 eg_32 (rS_len _ h.oks) (rS_len _ h.oks)) rfl ?_
          refine L_y rfl (y_pick_t rfl rfl) rfl ?_
          refine L_y rfl (y_assign rfl) rfl ?_
          refine L_nil ?_
          refine C_cond rfl (fun hc4 => ?_) (fun hc4 => ?_)
          · replace hc4 := of_decide_eq_true hc4
            refine C_seq ?_
            refine C_region ?_
            refine L_y rfl (y_assign rfl) rfl ?_
            refine L_y rfl (y_assign rfl) rfl ?_
            refine L_nil ?_
            refine C_ret ?_
            refine B_ret (rv_tmp rfl (rv_tmp rfl rv_nil)) ((hsub (.cons_cons _ (.cons_cons _ (.cons _ (.cons _ (.cons _ (.refl _))))))).trans (hsub_pick [4, 0] rfl)) ?_
            exact ⟨by simp_all [healR, healTo, Go.Sl.hg0, Go.Sl.hg1] <;> rfl, D, h.to (by simp_all [healA, healTo, Go.Sl.hg0, Go.Sl.hg1]), by rw [show healM m A p n = m from by simp_all [healM, healTo, Go.Sl.hg0, Go.Sl.hg1]]; first | done | rfl⟩
          · replace hc4 := of_decide_eq_false hc4
            refine C_seq ?_
            refine C_region ?_
            refine L_y rfl (y_indexA rfl rfl Try.underlying62 sz_4 (by omega) (by omega) (show _ = 0 from rfl)) rfl ?_
            refine L_y rfl (y_load rfl ag_4 (sees 1 0 rfl) rfl) rfl ?_
            refine L_y rfl (y_not rfl) rfl ?_
            refine L_y rfl (y_assign rfl) rfl ?_
            refine L_nil ?_
            refine C_cond_f rfl ?_
            refine C_skip ?_
            refine C_seq ?_
            refine C_seq ?_
            refine C_region ?_
            refine L_y rfl (y_move rfl) rfl ?_
            refine L_y rfl (y_move rfl) rfl ?_
            refine L_y rfl (y_sub rfl rfl (show _ = (1 : Int) from rfl)) rfl ?_
            refine L_y rfl (y_nilCheck rfl) rfl ?_
            refine L_y rfl (y_fieldAddr rfl fl_110_0) rfl ?_
            refine L_y rfl (y_indexA rfl rfl Try.underlying108 sz_107 (by omega) (by omega) (show _ = 2 from rfl)) rfl ?_
            refine L_y rfl (y_assign rfl) rfl ?_
            refine L_nil ?_
            refine C_seq ?_
            refine C_regionH (m.seg 110 :: H) (by kernel_rfl) ?_
            refine H_y 0 rfl (by kernel_rfl) (by kernel_rfl) (by kernel_rfl) (((hsub (.cons_cons _ (.cons _ (.cons _ (.cons _ (.cons _ (.refl _))))))).trans (hsub_pick [4] rfl))) rfl (y_move rfl) rfl ?_
            refine H_y 1 rfl (by kernel_rfl) (by kernel_rfl) (by kernel_rfl) (((hsub (.cons_cons _ (.cons _ (.cons _ (.cons _ (.cons _ (.refl _))))))).trans (hsub_pick [4] rfl))) rfl (y_nilCheck rfl) rfl ?_
            refine H_y 2 rfl (by kernel_rfl) (by kernel_rfl) (by kernel_rfl) (((hsub (.cons_cons _ (.cons _ (.cons _ (.cons _ (.cons _ (.refl _))))))).trans (hsub_pick [4] rfl))) rfl (y_fieldAddr rfl fl_107_0) rfl ?_
            refine H_y 3 rfl (by kernel_rfl) (by kernel_rfl) (by kernel_rfl) (((hsub (.cons_cons _ (.cons _ (.cons _ (.cons _ (.cons _ (.refl _))))))).trans (hsub_pick [4] rfl))) rfl (y_load rfl ag_24 (sees 0 0 rfl) rfl) rfl ?_
            refine H_y 4 rfl (by kernel_rfl) (by kernel_rfl) (by kernel_rfl) (((hsub (.cons_cons _ (.cons _ (.cons _ (.cons _ (.cons _ (.refl _))))))).trans (hsub_pick [4] rfl))) rfl (y_move rfl) rfl ?_
            refine H_y 5 rfl (by kernel_rfl) (by kernel_rfl) (by kernel_rfl) (((hsub (.cons_cons _ (.cons _ (.cons _ (.cons _ (.cons _ (.refl _))))))).trans (hsub_pick [4] rfl))) rfl (y_move rfl) rfl ?_
            refine H_y 6 rfl (by kernel_rfl) (by kernel_rfl) (by kernel_rfl) (((hsub (.cons_cons _ (.cons _ (.cons _ (.cons _ (.cons _ (.refl _))))))).trans (hsub_pick [4] rfl))) rfl (y_indexA rfl rfl Try.underlying120 sz_32 (by omega) (by omega) (show _ = 0 from rfl)) rfl ?_
            refine H_one 7 rfl (by kernel_rfl) rfl (op_y (y_loadA rfl ag_32 sz_32 (sees 2 0 rfl) (by simp [bs_length, secOf_len, rS_len _ h.oks]) (by first | exact two_hi (rS_len _ h.oks) (rS_len _ h.oks) | exact two_lo (rS_len _ h.oks))) rfl ?_)
            refine ⟨((hsub (.cons_cons _ (.cons _ (.cons _ (.cons _ (.cons _ (.refl _))))))).trans (hsub_pick [4] rfl)), ?_⟩
            refine H_one 8 rfl (by kernel_rfl) rfl (op_call rfl rfl (fun a w => Try.call62 a w) rfl ?_)
            refine ((write_d h true n (A.rS false n) (rS_len _ h.oks) (by have := hQ true; omega)).sub (hsub_pick [0] rfl)).mono ?_
            rintro _ _ ⟨rfl, D2, h2, rfl⟩
            refine ⟨_, rfl, ?_⟩
            refine ⟨((hsub (.cons_cons _ (.cons _ (.cons _ (.cons _ (.cons _ (.refl _))))))).trans (hsub_pick [4] rfl)), ?_⟩
            refine H_y 9 rfl (by kernel_rfl) (by kernel_rfl) (by kernel_rfl) (((hsub (.cons_cons _ (.cons _ (.cons _ (.cons _ (.cons _ (.refl _))))))).trans (hsub_pick [4] rfl))) rfl (y_eqi rfl rfl) rfl ?_
            refine H_done (by kernel_rfl) ?_
            refine C_cond rfl (fun hc6 => ?_) (fun hc6 => ?_)
            · replace hc6 := of_decide_eq_true hc6
              refine C_region ?_
              refine L_y rfl (y_move rfl) rfl ?_
              refine L_y rfl (y_nilCheck rfl) rfl ?_
              refine L_y rfl (y_fieldAddr rfl fl_107_1) rfl ?_
              refine L_y rfl (y_load rfl ag_105 (sees 4 0 rfl) rfl) rfl ?_
              refine L_y rfl (y_move rfl) rfl ?_
              refine L_op rfl (op_delete 4 2 rfl rfl rfl Try.underlying105 Try.underlying3 rfl rfl ?_)
              refine L_nil ?_
              refine C_seq ?_
              refine C_region ?_
              refine L_y rfl (y_assign rfl) rfl ?_
              refine L_y rfl (y_assign rfl) rfl ?_
              refine L_nil ?_
              refine C_ret ?_
              refine B_ret (rv_tmp rfl (rv_tmp rfl rv_nil)) ((hsub (.cons_cons _ (.cons_cons _ (.cons _ (.cons _ (.cons _ (.refl _))))))).trans (hsub_pick [4, 0] rfl)) ?_
              have e0 : healTo m A p n = some true := by simp_all [healTo, Go.Sl.hg0, Go.Sl.hg1]
              have e1 : healM m A p n = (if A.wE true n = 0 then { m with k1 := kDel m.k1 n } else m) := by simp [healM, e0]
              exact ⟨by simp_all [healR, Go.Sl.hg0, Go.Sl.hg1] <;> rfl, D2, h2.to (by simp [healA, e0]), by rw [e1]; first | (rw [if_pos (by simpa using hc6)]; rfl) | (rw [if_neg (by simpa using hc6)]; rfl)⟩
            · replace hc6 := of_decide_eq_false hc6
              refine C_skip ?_
              refine C_seq ?_
              refine C_region ?_
              refine L_y rfl (y_assign rfl) rfl ?_
              refine L_y rfl (y_assign rfl) rfl ?_
              refine L_nil ?_
              refine C_ret ?_
              refine B_ret (rv_tmp rfl (rv_tmp rfl rv_nil)) ((hsub (.cons_cons _ (.cons_cons _ (.cons _ (.cons _ (.cons _ (.refl _))))))).trans (hsub_pick [4, 0] rfl)) ?_
              have e0 : healTo m A p n = some true := by simp_all [healTo, Go.Sl.hg0, Go.Sl.hg1]
              have e1 : healM m A p n = (if A.wE true n = 0 then { m with k1 := kDel m.k1 n } else m) := by simp [healM, e0]
              exact ⟨by simp_all [healR, Go.Sl.hg0, Go.Sl.hg1] <;> rfl, D2, h2.to (by simp [healA, e0]), by rw [e1]; first | (rw [if_pos (by simpa using hc6)]; rfl) | (rw [if_neg (by simpa using hc6)]; rfl)⟩
        · skip
          refine L_y rfl (y_pick_t rfl rfl) rfl ?_
          refine L_y rfl (y_indexA rfl rfl Try.underlying62 sz_4 (by omega) (by omega) (show _ = 1 from rfl)) rfl ?_
          refine L_op rfl (op_store1 1 0 rfl rfl rfl sz_4 rfl (Nat.le_of_ble_eq_true rfl) ?_)
          refine L_nil ?_
          refine C_region ?_
          refine L_y rfl (y_add rfl rfl (show _ = (2 : Int) from rfl)) rfl ?_
          refine L_y rfl (y_move rfl) rfl ?_
          refine L_nil ?_
          refine In_round ?_
          refine C_seq ?_
          refine C_region ?_
          refine L_y rfl (y_lss rfl rfl) rfl ?_
          refine L_nil ?_
          refine C_seq ?_
          refine C_cond_f rfl ?_
          refine C_exit ?_
          refine C_seq ?_
          refine C_region ?_
          refine L_y rfl (y_assign rfl) rfl ?_
          refine L_nil ?_
          refine C_seq ?_
          refine C_block ?_
          refine C_seq ?_
          refine C_region ?_
          refine L_y rfl (y_indexA rfl rfl Try.underlying62 sz_4 (by omega) (by omega) (show _ = 0 from rfl)) rfl ?_
          refine L_y rfl (y_load rfl ag_4 (sees 1 0 rfl) rfl) rfl ?_
          refine L_y rfl (y_not rfl) rfl ?_
          refine L_y rfl (y_move rfl) rfl ?_
          refine L_skip rfl rfl ?_
          refine L_skip rfl rfl ?_
          refine L_skip rfl rfl ?_
          refine L_y rfl (y_pick_f rfl rfl) rfl ?_
          refine L_y rfl (y_assign rfl) rfl ?_
          refine L_nil ?_
          refine C_cond_f rfl ?_
          refine C_seq ?_
          refine C_region ?_
          refine L_y rfl (y_indexA rfl rfl Try.underlying62 sz_4 (by omega) (by omega) (show _ = 0 from rfl)) rfl ?_
          refine L_y rfl (y_load rfl ag_4 (sees 1 0 rfl) rfl) rfl ?_
          refine L_y rfl (y_move rfl) rfl ?_
          refine L_y rfl (y_indexA rfl rfl Try.underlying62 sz_4 (by omega) (by omega) (show _ = 1 from rfl)) rfl ?_
          refine L_y rfl (y_load rfl ag_4 (sees 1 0 rfl) rfl) rfl ?_
          refine L_y rfl (y_pick_t rfl rfl) rfl ?_
          refine L_y rfl (y_move rfl) rfl ?_
          refine L_skip rfl rfl ?_
          refine L_skip rfl rfl ?_
          refine L_skip rfl rfl ?_
          refine L_skip rfl rfl ?_
          refine L_skip rfl rfl ?_
          refine L_y rfl (y_pick_f rfl rfl) rfl ?_
          refine L_y rfl (y_assign rfl) rfl ?_
          refine L_nil ?_
          refine C_cond_f rfl ?_
          refine C_seq ?_
          refine C_region ?_
          refine L_y rfl (y_indexA rfl rfl Try.underlying62 sz_4 (by omega) (by omega) (show _ = 0 from rfl)) rfl ?_
          refine L_y rfl (y_load rfl ag_4 (sees 1 0 rfl) rfl) rfl ?_
          refine L_y rfl (y_not rfl) rfl ?_
          refine L_y rfl (y_assign rfl) rfl ?_
          refine L_nil ?_
          refine C_cond_f rfl ?_
          refine C_skip ?_
          refine C_seq ?_
          refine C_seq ?_
          refine C_region ?_
          refine L_y rfl (y_move rfl) rfl ?_
          refine L_y rfl (y_move rfl) rfl ?_
          refine L_y rfl (y_sub rfl rfl (show _ = (1 : Int) from rfl)) rfl ?_
          refine L_y rfl (y_nilCheck rfl) rfl ?_
          refine L_y rfl (y_fieldAddr rfl fl_110_0) rfl ?_
          refine L_y rfl (y_indexA rfl rfl Try.underlying108 sz_107 (by omega) (by omega) (show _ = 2 from rfl)) rfl ?_
          refine L_y rfl (y_assign rfl) rfl ?_
          refine L_nil ?_
          refine C_seq ?_
          refine C_regionH (m.seg 110 :: H) (by kernel_rfl) ?_
          refine H_y 0 rfl (by kernel_rfl) (by kernel_rfl) (by kernel_rfl) (((hsub (.cons_cons _ (.cons _ (.cons _ (.cons _ (.cons _ (.refl _))))))).trans (hsub_pick [4] rfl))) rfl (y_move rfl) rfl ?_
          refine H_y 1 rfl (by kernel_rfl) (by kernel_rfl) (by kernel_rfl) (((hsub (.cons_cons _ (.cons _ (.cons _ (.cons _ (.cons _ (.refl _))))))).trans (hsub_pick [4] rfl))) rfl (y_nilCheck rfl) rfl ?_
          refine H_y 2 rfl (by kernel_rfl) (by kernel_rfl) (by kernel_rfl) (((hsub (.cons_cons _ (.cons _ (.cons _ (.cons _ (.cons _ (.refl _))))))).trans (hsub_pick [4] rfl))) rfl (y_fieldAddr rfl fl_107_0) rfl ?_
          refine H_y 3 rfl (by kernel_rfl) (by kernel_rfl) (by kernel_rfl) (((hsub (.cons_cons _ (.cons _ (.cons _ (.cons _ (.cons _ (.refl _))))))).trans (hsub_pick [4] rfl))) rfl (y_load rfl ag_24 (sees 0 0 rfl) rfl) rfl ?_
          refine H_y 4 rfl (by kernel_rfl) (by kernel_rfl) (by kernel_rfl) (((hsub (.cons_cons _ (.cons _ (.cons _ (.cons _ (.cons _ (.refl _))))))).trans (hsub_pick [4] rfl))) rfl (y_move rfl) rfl ?_
          refine H_y 5 rfl (by kernel_rfl) (by kernel_rfl) (by kernel_rfl) (((hsub (.cons_cons _ (.cons _ (.cons _ (.cons _ (.cons _ (.refl _))))))).trans (hsub_pick [4] rfl))) rfl (y_move rfl) rfl ?_
          refine H_y 6 rfl (by kernel_rfl) (by kernel_rfl) (by kernel_rfl) (((hsub (.cons_cons _ (.cons _ (.cons _ (.cons _ (.cons _ (.refl _))))))).trans (hsub_pick [4] rfl))) rfl (y_indexA rfl rfl Try.underlying120 sz_32 (by omega) (by omega) (show _ = 0 from rfl)) rfl ?_
          refine H_one 7 rfl (by kernel_rfl) rfl (op_y (y_loadA rfl ag_32 sz_32 (sees 2 0 rfl) (by simp [bs_length, secOf_len, rS_len _ h.oks]) (by first | exact two_hi (rS_len _ h.oks) (rS_len _ h.oks) | exact two_lo (rS_len _ h.oks))) rfl ?_)
          refine ⟨((hsub (.cons_cons _ (.cons _ (.cons _ (.cons _ (.cons _ (.refl _))))))).trans (hsub_pick [4] rfl)), ?_⟩
          refine H_one 8 rfl (by kernel_rfl) rfl (op_call rfl rfl (fun a w => Try.call62 a w) rfl ?_)
          refine ((write_d h true n (A.rS false n) (rS_len _ h.oks) (by have := hQ true; omega)).sub (hsub_pick [0] rfl)).mono ?_
          rintro _ _ ⟨rfl, D3, h3, rfl⟩
          refine ⟨_, rfl, ?_⟩
          refine ⟨((hsub (.cons_cons _ (.cons _ (.cons _ (.cons _ (.cons _ (.refl _))))))).trans (hsub_pick [4] rfl)), ?_⟩
          refine H_y 9 rfl (by kernel_rfl) (by kernel_rfl) (by kernel_rfl) (((hsub (.cons_cons _ (.cons _ (.cons _ (.cons _ (.cons _ (.refl _))))))).trans (hsub_pick [4] rfl))) rfl (y_eqi rfl rfl) rfl ?_
          refine H_done (by kernel_rfl) ?_
          refine C_cond rfl (fun hc6 => ?_) (fun hc6 => ?_)
          · replace hc6 := of_decide_eq_true hc6
            refine C_region ?_
            refine L_y rfl (y_move rfl) rfl ?_
            refine L_y rfl (y_nilCheck rfl) rfl ?_
            refine L_y rfl (y_fieldAddr rfl fl_107_1) rfl ?_
            refine L_y rfl (y_load rfl ag_105 (sees 4 0 rfl) rfl) rfl ?_
            refine L_y rfl (y_move rfl) rfl ?_
            refine L_op rfl (op_delete 4 2 rfl rfl rfl Try.underlying105 Try.underlying3 rfl rfl ?_)
            refine L_nil ?_
            refine C_seq ?_
            refine C_region ?_
            refine L_y rfl (y_assign rfl) rfl ?_
            refine L_y rfl (y_assign rfl) rfl ?_
            refine L_nil ?_
            refine C_ret ?_
            refine B_ret (rv_tmp rfl (rv_tmp rfl rv_nil)) ((hsub (.cons_cons _ (.cons_cons _ (.cons _ (.cons _ (.cons _ (.refl _))))))).trans (hsub_pick [4, 0] rfl)) ?_
            have e0 : healTo m A p n = some true := by simp_all [healTo, Go.Sl.hg0, Go.Sl.hg1]
            have e1 : healM m A p n = (if A.wE true n = 0 then { m with k1 := kDel m.k1 n } else m) := by simp [healM, e0]
            exact ⟨by simp_all [healR, Go.Sl.hg0, Go.Sl.hg1] <;> rfl, D3, h3.to (by simp [healA, e0]), by rw [e1]; first | (rw [if_pos (by simpa using hc6)]; rfl) | (rw [if_neg (by simpa using hc6)]; rfl)⟩
          · replace hc6 := of_decide_eq_false hc6
            refine C_skip ?_
            refine C_seq ?_
            refine C_region ?_
            refine L_y rfl (y_assign rfl) rfl ?_
            refine L_y rfl (y_assign rfl) rfl ?_
            refine L_nil ?_
            refine C_ret ?_
            refine B_ret (rv_tmp rfl (rv_tmp rfl rv_nil)) ((hsub (.cons_cons _ (.cons_cons _ (.cons _ (.cons _ (.cons _ (.refl _))))))).trans (hsub_pick [4, 0] rfl)) ?_
            have e0 : healTo m A p n = some true := by simp_all [healTo, Go.Sl.hg0, Go.Sl.hg1]
            have e1 : healM m A p n = (if A.wE true n = 0 then { m with k1 := kDel m.k1 n } else m) := by simp [healM, e0]
            exact ⟨by simp_all [healR, Go.Sl.hg0, Go.Sl.hg1] <;> rfl, D3, h3.to (by simp [healA, e0]), by rw [e1]; first | (rw [if_pos (by simpa using hc6)]; rfl) | (rw [if_neg (by simpa using hc6)]; rfl)⟩
      · skip
        refine L_skip rfl rfl ?_
        refine L_skip rfl rfl ?_
        refine L_skip rfl rfl ?_
        refine L_skip rfl rfl ?_
        refine L_skip rfl rfl ?_
        refine L_skip rfl rfl ?_
        refine L_y rfl (y_pick_f rfl rfl) rfl ?_
        refine L_y rfl (y_indexA rfl rfl Try.underlying62 sz_4 (by omega) (by omega) (show _ = 1 from rfl)) rfl ?_
        refine L_op rfl (op_store1 1 0 rfl rfl rfl sz_4 rfl (Nat.le_of_ble_eq_true rfl) ?_)
        refine L_nil ?_
        refine C_region ?_
        refine L_y rfl (y_add rfl rfl (show _ = (2 : Int) from rfl)) rfl ?_
        refine L_y rfl (y_move rfl) rfl ?_
        refine L_nil ?_
        refine In_round ?_
        refine C_seq ?_
        refine C_region ?_
        refine L_y rfl (y_lss rfl rfl) rfl ?_
        refine L_nil ?_
        refine C_seq ?_
        refine C_cond_f rfl ?_
        refine C_exit ?_
        refine C_seq ?_
        refine C_region ?_
        refine L_y rfl (y_assign rfl) rfl ?_
        refine L_nil ?_
        refine C_seq ?_
        refine C_block ?_
        refine C_seq ?_
        refine C_region ?_
        refine L_y rfl (y_indexA rfl rfl Try.underlying62 sz_4 (by omega) (by omega) (show _ = 0 from rfl)) rfl ?_
        refine L_y rfl (y_load rfl ag_4 (sees 1 0 rfl) rfl) rfl ?_
        refine L_y rfl (y_not rfl) rfl ?_
        refine L_y rfl (y_move rfl) rfl ?_
        refine L_skip rfl rfl ?_
        refine L_skip rfl rfl ?_
        refine L_skip rfl rfl ?_
        refine L_y rfl (y_pick_f rfl rfl) rfl ?_
        refine L_y rfl (y_assign rfl) rfl ?_
        refine L_nil ?_
        refine C_cond_f rfl ?_
        refine C_seq ?_
        refine C_region ?_
        refine L_y rfl (y_indexA rfl rfl Try.underlying62 sz_4 (by omega) (by omega) (show _ = 0 from rfl)) rfl ?_
        refine L_y rfl (y_load rfl ag_4 (sees 1 0 rfl) rfl) rfl ?_
        refine L_y rfl (y_move rfl) rfl ?_
        refine L_y rfl (y_indexA rfl rfl Try.underlying62 sz_4 (by omega) (by omega) (show _ = 1 from rfl)) rfl ?_
        refine L_y rfl (y_load rfl ag_4 (sees 1 0 rfl) rfl) rfl ?_
        refine L_y rfl (y_pick_t rfl rfl) rfl ?_
        refine L_y rfl (y_move rfl) rfl ?_
        refine L_skip rfl rfl ?_
        refine L_skip rfl rfl ?_
        refine L_skip rfl rfl ?_
        refine L_skip rfl rfl ?_
        refine L_skip rfl rfl ?_
        refine L_y rfl (y_pick_f rfl rfl) rfl ?_
        refine L_y rfl (y_assign rfl) rfl ?_
        refine L_nil ?_
        refine C_cond_f rfl ?_
        refine C_seq ?_
        refine C_region ?_
        refine L_y rfl (y_indexA rfl rfl Try.underlying62 sz_4 (by omega) (by omega) (show _ = 0 from rfl)) rfl ?_
        refine L_y rfl (y_load rfl ag_4 (sees 1 0 rfl) rfl) rfl ?_
        refine L_y rfl (y_not rfl) rfl ?_
        refine L_y rfl (y_assign rfl) rfl ?_
        refine L_nil ?_
        refine C_cond_f rfl ?_
        refine C_skip ?_
        refine C_seq ?_
        refine C_seq ?_
        refine C_region ?_
        refine L_y rfl (y_move rfl) rfl ?_
        refine L_y rfl (y_move rfl) rfl ?_
        refine L_y rfl (y_sub rfl rfl (show _ = (1 : Int) from rfl)) rfl ?_
        refine L_y rfl (y_nilCheck rfl) rfl ?_
        refine L_y rfl (y_fieldAddr rfl fl_110_0) rfl ?_
        refine L_y rfl (y_indexA rfl rfl Try.underlying108 sz_107 (by omega) (by omega) (show _ = 2 from rfl)) rfl ?_
        refine L_y rfl (y_assign rfl) rfl ?_
        refine L_nil ?_
        refine C_seq ?_
        refine C_regionH (m.seg 110 :: H) (by kernel_rfl) ?_
        refine H_y 0 rfl (by kernel_rfl) (by kernel_rfl) (by kernel_rfl) (((hsub (.cons_cons _ (.cons _ (.cons _ (.cons _ (.cons _ (.refl _))))))).trans (hsub_pick [4] rfl))) rfl (y_move rfl) rfl ?_
        refine H_y 1 rfl (by kernel_rfl) (by kernel_rfl) (by kernel_rfl) (((hsub (.cons_cons _ (.cons _ (.cons _ (.cons _ (.cons _ (.refl _))))))).trans (hsub_pick [4] rfl))) rfl (y_nilCheck rfl) rfl ?_
        refine H_y 2 rfl (by kernel_rfl) (by kernel_rfl) (by kernel_rfl) (((hsub (.cons_cons _ (.cons _ (.cons _ (.cons _ (.cons _ (.refl _))))))).trans (hsub_pick [4] rfl))) rfl (y_fieldAddr rfl fl_107_0) rfl ?_
        refine H_y 3 rfl (by kernel_rfl) (by kernel_rfl) (by kernel_rfl) (((hsub (.cons_cons _ (.cons _ (.cons _ (.cons _ (.cons _ (.refl _))))))).trans (hsub_pick [4] rfl))) rfl (y_load rfl ag_24 (sees 0 0 rfl) rfl) rfl ?_
        refine H_y 4 rfl (by kernel_rfl) (by kernel_rfl) (by kernel_rfl) (((hsub (.cons_cons _ (.cons _ (.cons _ (.cons _ (.cons _ (.refl _))))))).trans (hsub_pick [4] rfl))) rfl (y_move rfl) rfl ?_
        refine H_y 5 rfl (by kernel_rfl) (by kernel_rfl) (by kernel_rfl) (((hsub (.cons_cons _ (.cons _ (.cons _ (.cons _ (.cons _ (.refl _))))))).trans (hsub_pick [4] rfl))) rfl (y_move rfl) rfl ?_
        refine H_y 6 rfl (by kernel_rfl) (by kernel_rfl) (by kernel_rfl) (((hsub (.cons_cons _ (.cons _ (.cons _ (.cons _ (.cons _ (.refl _))))))).trans (hsub_pick [4] rfl))) rfl (y_indexA rfl rfl Try.underlying120 sz_32 (by omega) (by omega) (show _ = 0 from rfl)) rfl ?_
        refine H_one 7 rfl (by kernel_rfl) rfl (op_y (y_loadA rfl ag_32 sz_32 (sees 2 0 rfl) (by simp [bs_length, secOf_len, rS_len _ h.oks]) (by first | exact two_hi (rS_len _ h.oks) (rS_len _ h.oks) | exact two_lo (rS_len _ h.oks))) rfl ?_)
        refine ⟨((hsub (.cons_cons _ (.cons _ (.cons _ (.cons _ (.cons _ (.refl _))))))).trans (hsub_pick [4] rfl)), ?_⟩
        refine H_one 8 rfl (by kernel_rfl) rfl (op_call rfl rfl (fun a w => Try.call62 a w) rfl ?_)
        refine ((write_d h true n (A.rS false n) (rS_len _ h.oks) (by have := hQ true; omega)).sub (hsub_pick [0] rfl)).mono ?_
        rintro _ _ ⟨rfl, D4, h4, rfl⟩
        refine ⟨_, rfl, ?_⟩
        refine ⟨((hsub (.cons_cons _ (.cons _ (.cons _ (.cons _ (.cons _ (.refl _))))))).trans (hsub_pick [4] rfl)), ?_⟩
        refine H_y 9 rfl (by kernel_rfl) (by kernel_rfl) (by kernel_rfl) (((hsub (.cons_cons _ (.cons _ (.cons _ (.cons _ (.cons _ (.refl _))))))).trans (hsub_pick [4] rfl))) rfl (y_eqi rfl rfl) rfl ?_
        refine H_done (by kernel_rfl) ?_
        refine C_cond rfl (fun hc6 => ?_) (fun hc6 => ?_)
        · replace hc6 := of_decide_eq_true hc6
          refine C_region ?_
          refine L_y rfl (y_move rfl) rfl ?_
          refine L_y rfl (y_nilCheck rfl) rfl ?_
          refine L_y rfl (y_fieldAddr rfl fl_107_1) rfl ?_
          refine L_y rfl (y_load rfl ag_105 (sees 4 0 rfl) rfl) rfl ?_
          refine L_y rfl (y_move rfl) rfl ?_
          refine L_op rfl (op_delete 4 2 rfl rfl rfl Try.underlying105 Try.underlying3 rfl rfl ?_)
          refine L_nil ?_
          refine C_seq ?_
          refine C_region ?_
          refine L_y rfl (y_assign rfl) rfl ?_
          refine L_y rfl (y_assign rfl) rfl ?_
          refine L_nil ?_
          refine C_ret ?_
          refine B_ret (rv_tmp rfl (rv_tmp rfl rv_nil)) ((hsub (.cons_cons _ (.cons_cons _ (.cons _ (.cons _ (.cons _ (.refl _))))))).trans (hsub_pick [4, 0] rfl)) ?_
          have e0 : healTo m A p n = some true := by simp_all [healTo, Go.Sl.hg0, Go.Sl.hg1]
          have e1 : healM m A p n = (if A.wE true n = 0 then { m with k1 := kDel m.k1 n } else m) := by simp [healM, e0]
          exact ⟨by simp_all [healR, Go.Sl.hg0, Go.Sl.hg1] <;> rfl, D4, h4.to (by simp [healA, e0]), by rw [e1]; first | (rw [if_pos (by simpa using hc6)]; rfl) | (rw [if_neg (by simpa using hc6)]; rfl)⟩
        · replace hc6 := of_decide_eq_false hc6
          refine C_skip ?_
          refine C_seq ?_
          refine C_region ?_
          refine L_y rfl (y_assign rfl) rfl ?_
          refine L_y rfl (y_assign rfl) rfl ?_
          refine L_nil ?_
          refine C_ret ?_
          refine B_ret (rv_tmp rfl (rv_tmp rfl rv_nil)) ((hsub (.cons_cons _ (.cons_cons _ (.cons _ (.cons _ (.cons _ (.refl _))))))).trans (hsub_pick [4, 0] rfl)) ?_
          have e0 : healTo m A p n = some true := by simp_all [healTo, Go.Sl.hg0, Go.Sl.hg1]
          have e1 : healM m A p n = (if A.wE true n = 0 then { m with k1 := kDel m.k1 n } else m) := by simp [healM, e0]
          exact ⟨by simp_all [healR, Go.Sl.hg0, Go.Sl.hg1] <;> rfl, D4, h4.to (by simp [healA, e0]), by rw [e1]; first | (rw [if_pos (by simpa using hc6)]; rfl) | (rw [if_neg (by simpa using hc6)]; rfl)⟩
    · skip
      refine L_y rfl (y_pick_t rfl rfl) rfl ?_
      refine L_y rfl (y_indexA rfl rfl Try.underlying62 sz_4 (by omega) (by omega) (show _ = 0 from rfl)) rfl ?_
      refine L_op rfl (op_store1 1 0 rfl rfl rfl sz_4 rfl (Nat.le_of_ble_eq_true rfl) ?_)
      refine L_nil ?_
      refine C_region ?_
      refine L_y rfl (y_add rfl rfl (show _ = (1 : Int) from rfl)) rfl ?_
      refine L_y rfl (y_move rfl) rfl ?_
      refine L_nil ?_
      refine In_round ?_
      refine C_seq ?_
      refine C_region ?_
      refine L_y rfl (y_lss rfl rfl) rfl ?_
      refine L_nil ?_
      refine C_seq ?_
      refine C_cond_t rfl ?_
      refine C_skip ?_
      refine C_seq ?_
      refine C_block ?_
      refine C_seq ?_
      refine C_region ?_
      refine L_y rfl (y_move rfl) rfl ?_
      refine L_y rfl (y_assign rfl) rfl ?_
      refine L_nil ?_
      refine C_seq ?_
      refine C_region ?_
      refine L_y rfl (y_move rfl) rfl ?_
      refine L_y rfl (y_move rfl) rfl ?_
      refine L_y rfl (y_move rfl) rfl ?_
      refine L_y rfl (y_nilCheck rfl) rfl ?_
      refine L_y rfl (y_fieldAddr rfl fl_110_0) rfl ?_
      refine L_y rfl (y_indexA rfl rfl Try.underlying108 sz_107 (by omega) (by omega) (show _ = 2 from rfl)) rfl ?_
      refine L_y rfl (y_fieldAddr rfl fl_107_0) rfl ?_
      refine L_y rfl (y_load rfl ag_24 (sees 4 0 rfl) rfl) rfl ?_
      refine L_y rfl (y_move rfl) rfl ?_
      refine L_op rfl (op_call rfl rfl (fun a w => Try.call60 a w) rfl ?_)
      refine ((read_d h true (n)).sub (hsub_pick [0] rfl)).mono ?_
      rintro _ _ ⟨rfl, rfl⟩
      refine ⟨_, rfl, ?_⟩
      refine L_y rfl (y_move rfl) rfl ?_
      refine L_y rfl (y_extract rfl rfl) rfl ?_
      refine L_y rfl (y_extract rfl rfl) rfl ?_
      refine L_y rfl (y_indexA rfl rfl Try.underlying120 sz_32 (by omega) (by omega) (show _ = 128 from rfl)) rfl ?_
      skip
      refine L_op rfl (op_store (vs := bs (A.rS true n)) 2 0 rfl rfl rfl sz_32 (by rw [bs_length, rS_len _ h.oks]) rfl (bs_one _) (by simp [bs_length, secOf_len, rS_len _ h.oks]) ?_)
      rw [spl_hi (rS_len _ h.oks) (by rw [secOf_len, rS_len _ h.oks])]
      refine L_nil ?_
      refine C_region ?_
      refine L_y rfl (y_move rfl) rfl ?_
      refine L_y rfl (y_move rfl) rfl ?_
      refine L_y rfl (y_move rfl) rfl ?_
      refine L_y rfl (y_nilCheck rfl) rfl ?_
      refine L_y rfl (y_fieldAddr rfl fl_110_0) rfl ?_
      refine L_y rfl (y_indexA rfl rfl Try.underlying108 sz_107 (by omega) (by omega) (show _ = 2 from rfl)) rfl ?_
      refine L_y rfl (y_fieldAddr rfl fl_107_1) rfl ?_
      refine L_y rfl (y_load rfl ag_105 (sees 4 0 rfl) rfl) rfl ?_
      refine L_y rfl (y_move rfl) rfl ?_
      refine L_y rfl (y_lookup rfl rfl Try.underlying105 Try.underlying3 zt_4 (sees 4 2 rfl)) rfl ?_
      refine L_y rfl (y_not rfl) rfl ?_
      refine L_y rfl (y_move rfl) rfl ?_
      refine L_case 47 rfl (fun hg11_12 => ?_) (fun hg11_12 => ?_)
      · skip
        refine L_y rfl (y_move rfl) rfl ?_
        refine L_y rfl (y_move rfl) rfl ?_
        refine L_y rfl (y_move rfl) rfl ?_
        refine L_y rfl (y_indexA rfl rfl Try.underlying120 sz_32 (by omega) (by omega) (show _ = 128 from rfl)) rfl ?_
        refine L_y rfl (y_loadA rfl ag_32 sz_32 (sees 2 0 rfl) (by simp [bs_length, secOf_len, rS_len _ h.oks]) (by first | exact two_hi (rS_len _ h.oks) (rS_len _ h.oks) | exact two_lo (rS_len _ h.oks))) rfl ?_
        refine L_op rfl (op_call rfl rfl (fun a w => Try.call61 a w) rfl ?_)
        refine FnS.mono (right_m (sees 4 0 rfl) (hG.sub (hsub (.cons _ (.cons _ (.cons _ (.cons _ (.cons _ (.refl _)))))))) n _ (rS_len _ h.oks)) ?_
        rintro _ _ ⟨rfl, e⟩
        obtain rfl := e.symm
        refine ⟨_, rfl, ?_⟩
        refine L_case 53 rfl (fun hg11_18 => ?_) (fun hg11_18 => ?_)
        · skip
          refine L_y rfl (y_pick_t rfl rfl) rfl ?_
          refine L_y rfl (y_indexA rfl rfl Try.underlying62 sz_4 (by omega) (by omega) (show _ = 1 from rfl)) rfl ?_
          refine L_op rfl (op_store1 1 0 rfl rfl rfl sz_4 rfl (Nat.le_of_ble_eq_true rfl) ?_)
          refine L_nil ?_
          refine C_region ?_
          refine L_y rfl (y_add rfl rfl (show _ = (2 : Int) from rfl)) rfl ?_
          refine L_y rfl (y_move rfl) rfl ?_
          refine L_nil ?_
          refine In_round ?_
          refine C_seq ?_
          refine C_region ?_
          refine L_y rfl (y_lss rfl rfl) rfl ?_
          refine L_nil ?_
          refine C_seq ?_
          refine C_cond_f rfl ?_
          refine C_exit ?_
          refine C_seq ?_
          refine C_region ?_
          refine L_y rfl (y_assign rfl) rfl ?_
          refine L_nil ?_
          refine C_seq ?_
          refine C_block ?_
          refine C_seq ?_
          refine C_region ?_
          refine L_y rfl (y_indexA rfl rfl Try.underlying62 sz_4 (by omega) (by omega) (show _ = 0 from rfl)) rfl ?_
          refine L_y rfl (y_load rfl ag_4 (sees 1 0 rfl) rfl) rfl ?_
          refine L_y rfl (y_not rfl) rfl ?_
          refine L_y rfl (y_move rfl) rfl ?_
          refine L_y rfl (y_indexA rfl rfl Try.underlying62 sz_4 (by omega) (by omega) (show _ = 1 from rfl)) rfl ?_
          refine L_y rfl (y_load rfl ag_4 (sees 1 0 rfl) rfl) rfl ?_
          refine L_y rfl (y_not rfl) rfl ?_
          refine L_y rfl (y_pick_t rfl rfl) rfl ?_
          refine L_y rfl (y_assign rfl) rfl ?_
          refine L_nil ?_
          refine C_cond_f rfl ?_
          refine C_seq ?_
          refine C_region ?_
          refine L_y rfl (y_indexA rfl rfl Try.underlying62 sz_4 (by omega) (by omega) (show _ = 0 from rfl)) rfl ?_
          refine L_y rfl (y_load rfl ag_4 (sees 1 0 rfl) rfl) rfl ?_
          refine L_y rfl (y_move rfl) rfl ?_
          refine L_skip rfl rfl ?_
          refine L_skip rfl rfl ?_
          refine L_y rfl (y_pick_f rfl rfl) rfl ?_
          refine L_y rfl (y_move rfl) rfl ?_
          refine L_skip rfl rfl ?_
          refine L_skip rfl rfl ?_
          refine L_skip rfl rfl ?_
          refine L_skip rfl rfl ?_
          refine L_skip rfl rfl ?_
          refine L_y rfl (y_pick_f rfl rfl) rfl ?_
          refine L_y rfl (y_assign rfl) rfl ?_
          refine L_nil ?_
          refine C_cond_f rfl ?_
          refine C_seq ?_
          refine C_region ?_
          refine L_y rfl (y_indexA rfl rfl Try.underlying62 sz_4 (by omega) (by omega) (show _ = 0 from rfl)) rfl ?_
          refine L_y rfl (y_load rfl ag_4 (sees 1 0 rfl) rfl) rfl ?_
          refine L_y rfl (y_not rfl) rfl ?_
          refine L_y rfl (y_assign rfl) rfl ?_
          refine L_nil ?_
          refine C_cond_t rfl ?_
          refine C_region ?_
          refine L_y rfl (y_assign rfl) rfl ?_
          refine L_nil ?_
          refine C_seq ?_
          refine C_seq ?_
          refine C_region ?_
          refine L_y rfl (y_move rfl) rfl ?_
          refine L_y rfl (y_move rfl) rfl ?_
          refine L_y rfl (y_sub rfl rfl (show _ = (0 : Int) from rfl)) rfl ?_
          refine L_y rfl (y_nilCheck rfl) rfl ?_
          refine L_y rfl (y_fieldAddr rfl fl_110_0) rfl ?_
          refine L_y rfl (y_indexA rfl rfl Try.underlying108 sz_107 (by omega) (by omega) (show _ = 0 from rfl)) rfl ?_
          refine L_y rfl (y_assign rfl) rfl ?_
          refine L_nil ?_
          refine C_seq ?_
          refine C_regionH (m.seg 110 :: H) (by kernel_rfl) ?_
          refine H_y 0 rfl (by kernel_rfl) (by kernel_rfl) (by kernel_rfl) (((hsub (.cons_cons _ (.cons _ (.cons _ (.cons _ (.cons _ (.refl _))))))).trans (hsub_pick [4] rfl))) rfl (y_move rfl) rfl ?_
          refine H_y 1 rfl (by kernel_rfl) (by kernel_rfl) (by kernel_rfl) (((hsub (.cons_cons _ (.cons _ (.cons _ (.cons _ (.cons _ (.refl _))))))).trans (hsub_pick [4] rfl))) rfl (y_nilCheck rfl) rfl ?_
          refine H_y 2 rfl (by kernel_rfl) (by kernel_rfl) (by kernel_rfl) (((hsub (.cons_cons _ (.cons _ (.cons _ (.cons _ (.cons _ (.refl _))))))).trans (hsub_pick [4] rfl))) rfl (y_fieldAddr rfl fl_107_0) rfl ?_
          refine H_y 3 rfl (by kernel_rfl) (by kernel_rfl) (by kernel_rfl) (((hsub (.cons_cons _ (.cons _ (.cons _ (.cons _ (.cons _ (.refl _))))))).trans (hsub_pick [4] rfl))) rfl (y_load rfl ag_24 (sees 0 0 rfl) rfl) rfl ?_
          refine H_y 4 rfl (by kernel_rfl) (by kernel_rfl) (by kernel_rfl) (((hsub (.cons_cons _ (.cons _ (.cons _ (.cons _ (.cons _ (.refl _))))))).trans (hsub_pick [4] rfl))) rfl (y_move rfl) rfl ?_
          refine H_y 5 rfl (by kernel_rfl) (by kernel_rfl) (by kernel_rfl) (((hsub (.cons_cons _ (.cons _ (.cons _ (.cons _ (.cons _ (.refl _))))))).trans (hsub_pick [4] rfl))) rfl (y_move rfl) rfl ?_
          refine H_y 6 rfl (by kernel_rfl) (by kernel_rfl) (by kernel_rfl) (((hsub (.cons_cons _ (.cons _ (.cons _ (.cons _ (.cons _ (.refl _))))))).trans (hsub_pick [4] rfl))) rfl (y_indexA rfl rfl Try.underlying120 sz_32 (by omega) (by omega) (show _ = 128 from rfl)) rfl ?_
          refine H_one 7 rfl (by kernel_rfl) rfl (op_y (y_loadA rfl ag_32 sz_32 (sees 2 0 rfl) (by simp [bs_length, secOf_len, rS_len _ h.oks]) (by first | exact two_hi (rS_len _ h.oks) (rS_len _ h.oks) | exact two_lo (rS_len _ h.oks))) rfl ?_)
          refine ⟨((hsub (.cons_cons _ (.cons _ (.cons _ (.cons _ (.cons _ (.refl _))))))).trans (hsub_pick [4] rfl)), ?_⟩
          refine H_one 8 rfl (by kernel_rfl) rfl (op_call rfl rfl (fun a w => Try.call62 a w) rfl ?_)
          refine ((write_d h false n (A.rS true n) (rS_len _ h.oks) (by have := hQ false; omega)).sub (hsub_pick [0] rfl)).mono ?_
          rintro _ _ ⟨rfl, D5, h5, rfl⟩
          refine ⟨_, rfl, ?_⟩
          refine ⟨((hsub (.cons_cons _ (.cons _ (.cons _ (.cons _ (.cons _ (.refl _))))))).trans (hsub_pick [4] rfl)), ?_⟩
          refine H_y 9 rfl (by kernel_rfl) (by kernel_rfl) (by kernel_rfl) (((hsub (.cons_cons _ (.cons _ (.cons _ (.cons _ (.cons _ (.refl _))))))).trans (hsub_pick [4] rfl))) rfl (y_eqi rfl rfl) rfl ?_
          refine H_done (by kernel_rfl) ?_
          refine C_cond rfl (fun hc6 => ?_) (fun hc6 => ?_)
          · replace hc6 := of_decide_eq_true hc6
            refine C_region ?_
            refine L_y rfl (y_move rfl) rfl ?_
            refine L_y rfl (y_nilCheck rfl) rfl ?_
            refine L_y rfl (y_fieldAddr rfl fl_107_1) rfl ?_
            refine L_y rfl (y_load rfl ag_105 (sees 4 0 rfl) rfl) rfl ?_
            refine L_y rfl (y_move rfl) rfl ?_
            refine L_op rfl (op_delete 4 1 rfl rfl rfl Try.underlying105 Try.underlying3 rfl rfl ?_)
            refine L_nil ?_
            refine C_seq ?_
            refine C_region ?_
            refine L_y rfl (y_assign rfl) rfl ?_
            refine L_y rfl (y_assign rfl) rfl ?_
            refine L_nil ?_
            refine C_ret ?_
            refine B_ret (rv_tmp rfl (rv_tmp rfl rv_nil)) ((hsub (.cons_cons _ (.cons_cons _ (.cons _ (.cons _ (.cons _ (.refl _))))))).trans (hsub_pick [4, 0] rfl)) ?_
            have e0 : healTo m A p n = some false := by simp_all [healTo, Go.Sl.hg0, Go.Sl.hg1]
            have e1 : healM m A p n = (if A.wE false n = 0 then { m with k0 := kDel m.k0 n } else m) := by simp [healM, e0]
            exact ⟨by simp_all [healR, Go.Sl.hg0, Go.Sl.hg1] <;> rfl, D5, h5.to (by simp [healA, e0]), by rw [e1]; first | (rw [if_pos (by simpa using hc6)]; rfl) | (rw [if_neg (by simpa using hc6)]; rfl)⟩
          · replace hc6 := of_decide_eq_false hc6
            refine C_skip ?_
            refine C_seq ?_
            refine C_region ?_
            refine L_y rfl (y_assign rfl) rfl ?_
            refine L_y rfl (y_assign rfl) rfl ?_
            refine L_nil ?_
            refine C_ret ?_
            refine B_ret (rv_tmp rfl (rv_tmp rfl rv_nil)) ((hsub (.cons_cons _ (.cons_cons _ (.cons _ (.cons _ (.cons _ (.refl _))))))).trans (hsub_pick [4, 0] rfl)) ?_
            have e0 : healTo m A p n = some false := by simp_all [healTo, Go.Sl.hg0, Go.Sl.hg1]
            have e1 : healM m A p n = (if A.wE false n = 0 then { m with k0 := kDel m.k0 n } else m) := by simp [healM, e0]
            exact ⟨by simp_all [healR, Go.Sl.hg0, Go.Sl.hg1] <;> rfl, D5, h5.to (by simp [healA, e0]), by rw [e1]; first | (rw [if_pos (by simpa using hc6)]; rfl) | (rw [if_neg (by simpa using hc6)]; rfl)⟩
        · skip
          refine L_y rfl (y_pick_t rfl rfl) rfl ?_
          refine L_y rfl (y_indexA rfl rfl Try.underlying62 sz_4 (by omega) (by omega) (show _ = 1 from rfl)) rfl ?_
          refine L_op rfl (op_store1 1 0 rfl rfl rfl sz_4 rfl (Nat.le_of_ble_eq_true rfl) ?_)
          refine L_nil ?_
          refine C_region ?_
          refine L_y rfl (y_add rfl rfl (show _ = (2 : Int) from rfl)) rfl ?_
          refine L_y rfl (y_move rfl) rfl ?_
          refine L_nil ?_
          refine In_round ?_
          refine C_seq ?_
          refine C_region ?_
          refine L_y rfl (y_lss rfl rfl) rfl ?_
          refine L_nil ?_
          refine C_seq ?_
          refine C_cond_f rfl ?_
          refine C_exit ?_
          refine C_seq ?_
          refine C_region ?_
          refine L_y rfl (y_assign rfl) rfl ?_
          refine L_nil ?_
          refine C_seq ?_
          refine C_block ?_
          refine C_seq ?_
          refine C_region ?_
          refine L_y rfl (y_indexA rfl rfl Try.underlying62 sz_4 (by omega) (by omega) (show _ = 0 from rfl)) rfl ?_
          refine L_y rfl (y_load rfl ag_4 (sees 1 0 rfl) rfl) rfl ?_
          refine L_y rfl (y_not rfl) rfl ?_
          refine L_y rfl (y_move rfl) rfl ?_
          refine L_y rfl (y_indexA rfl rfl Try.underlying62 sz_4 (by omega) (by omega) (show _ = 1 from rfl)) rfl ?_
          refine L_y rfl (y_load rfl ag_4 (sees 1 0 rfl) rfl) rfl ?_
          refine L_y rfl (y_not rfl) rfl ?_
          refine L_y rfl (y_pick_t rfl rfl) rfl ?_
          refine L_y rfl (y_assign rfl) rfl ?_
          refine L_nil ?_
          refine C_cond_t rfl ?_
          refine C_seq ?_
          refine C_region ?_
          refine L_y rfl (y_assign rfl) rfl ?_
          refine L_y rfl (y_assign rfl) rfl ?_
          refine L_nil ?_
          refine C_ret ?_
          refine B_ret (rv_tmp rfl (rv_tmp rfl rv_nil)) ((hsub (.cons_cons _ (.cons_cons _ (.cons _ (.cons _ (.cons _ (.refl _))))))).trans (hsub_pick [4, 0] rfl)) ?_
          exact ⟨by simp_all [healR, healTo, Go.Sl.hg0, Go.Sl.hg1] <;> rfl, D, h.to (by simp_all [healA, healTo, Go.Sl.hg0, Go.Sl.hg1]), by rw [show healM m A p n = m from by simp_all [healM, healTo, Go.Sl.hg0, Go.Sl.hg1]]; first | done | rfl⟩
      · skip
        refine L_skip rfl rfl ?_
        refine L_skip rfl rfl ?_
        refine L_skip rfl rfl ?_
        refine L_skip rfl rfl ?_
        refine L_skip rfl rfl ?_
        refine L_skip rfl rfl ?_
        refine L_y rfl (y_pick_f rfl rfl) rfl ?_
        refine L_y rfl (y_indexA rfl rfl Try.underlying62 sz_4 (by omega) (by omega) (show _ = 1 from rfl)) rfl ?_
        refine L_op rfl (op_store1 1 0 rfl rfl rfl sz_4 rfl (Nat.le_of_ble_eq_true rfl) ?_)
        refine L_nil ?_
        refine C_region ?_
        refine L_y rfl (y_add rfl rfl (show _ = (2 : Int) from rfl)) rfl ?_
        refine L_y rfl (y_move rfl) rfl ?_
        refine L_nil ?_
        refine In_round ?_
        refine C_seq ?_
        refine C_region ?_
        refine L_y rfl (y_lss rfl rfl) rfl ?_
        refine L_nil ?_
        refine C_seq ?_
        refine C_cond_f rfl ?_
        refine C_exit ?_
        refine C_seq ?_
        refine C_region ?_
        refine L_y rfl (y_assign rfl) rfl ?_
        refine L_nil ?_
        refine C_seq ?_
        refine C_block ?_
        refine C_seq ?_
        refine C_region ?_
        refine L_y rfl (y_indexA rfl rfl Try.underlying62 sz_4 (by omega) (by omega) (show _ = 0 from rfl)) rfl ?_
        refine L_y rfl (y_load rfl ag_4 (sees 1 0 rfl) rfl) rfl ?_
        refine L_y rfl (y_not rfl) rfl ?_
        refine L_y rfl (y_move rfl) rfl ?_
        refine L_y rfl (y_indexA rfl rfl Try.underlying62 sz_4 (by omega) (by omega) (show _ = 1 from rfl)) rfl ?_
        refine L_y rfl (y_load rfl ag_4 (sees 1 0 rfl) rfl) rfl ?_
        refine L_y rfl (y_not rfl) rfl ?_
        refine L_y rfl (y_pick_t rfl rfl) rfl ?_
        refine L_y rfl (y_assign rfl) rfl ?_
        refine L_nil ?_
        refine C_cond_t rfl ?_
        refine C_seq ?_
        refine C_region ?_
        refine L_y rfl (y_assign rfl) rfl ?_
        refine L_y rfl (y_assign rfl) rfl ?_
        refine L_nil ?_
        refine C_ret ?_
        refine B_ret (rv_tmp rfl (rv_tmp rfl rv_nil)) ((hsub (.cons_cons _ (.cons_cons _ (.cons _ (.cons _ (.cons _ (.refl _))))))).trans (hsub_pick [4, 0] rfl)) ?_
        exact ⟨by simp_all [healR, healTo, Go.Sl.hg0, Go.Sl.hg1] <;> rfl, D, h.to (by simp_all [healA, healTo, Go.Sl.hg0, Go.Sl.hg1]), by rw [show healM m A p n = m from by simp_all [healM, healTo, Go.Sl.hg0, Go.Sl.hg1]]; first | done | rfl⟩
  · skip
    refine L_skip rfl rfl ?_
    refine L_skip rfl rfl ?_
    refine L_skip rfl rfl ?_
    refine L_skip rfl rfl ?_
    refine L_skip rfl rfl ?_
    refine L_skip rfl rfl ?_
    refine L_y rfl (y_pick_f rfl rfl) rfl ?_
    refine L_y rfl (y_indexA rfl rfl Try.underlying62 sz_4 (by omega) (by omega) (show _ = 0 from rfl)) rfl ?_
    refine L_op rfl (op_store1 1 0 rfl rfl rfl sz_4 rfl (Nat.le_of_ble_eq_true rfl) ?_)
    refine L_nil ?_
    refine C_region ?_
    refine L_y rfl (y_add rfl rfl (show _ = (1 : Int) from rfl)) rfl ?_
    refine L_y rfl (y_move rfl) rfl ?_
    refine L_nil ?_
    refine In_round ?_
    refine C_seq ?_
    refine C_region ?_
    refine L_y rfl (y_lss rfl rfl) rfl ?_
    refine L_nil ?_
    refine C_seq ?_
    refine C_cond_t rfl ?_
    refine C_skip ?_
    refine C_seq ?_
    refine C_block ?_
    refine C_seq ?_
    refine C_region ?_
    refine L_y rfl (y_move rfl) rfl ?_
    refine L_y rfl (y_assign rfl) rfl ?_
    refine L_nil ?_
    refine C_seq ?_
    refine C_region ?_
    refine L_y rfl (y_move rfl) rfl ?_
    refine L_y rfl (y_move rfl) rfl ?_
    refine L_y rfl (y_move rfl) rfl ?_
    refine L_y rfl (y_nilCheck rfl) rfl ?_
    refine L_y rfl (y_fieldAddr rfl fl_110_0) rfl ?_
    refine L_y rfl (y_indexA rfl rfl Try.underlying108 sz_107 (by omega) (by omega) (show _ = 2 from rfl)) rfl ?_
    refine L_y rfl (y_fieldAddr rfl fl_107_0) rfl ?_
    refine L_y rfl (y_load rfl ag_24 (sees 4 0 rfl) rfl) rfl ?_
    refine L_y rfl (y_move rfl) rfl ?_
    refine L_op rfl (op_call rfl rfl (fun a w => Try.call60 a w) rfl ?_)
    refine ((read_d h true (n)).sub (hsub_pick [0] rfl)).mono ?_
    rintro _ _ ⟨rfl, rfl⟩
    refine ⟨_, rfl, ?_⟩
    refine L_y rfl (y_move rfl) rfl ?_
    refine L_y rfl (y_extract rfl rfl) rfl ?_
    refine L_y rfl (y_extract rfl rfl) rfl ?_
    refine L_y rfl (y_indexA rfl rfl Try.underlying120 sz_32 (by omega) (by omega) (show _ = 128 from rfl)) rfl ?_
    skip
    refine L_op rfl (op_store (vs := bs (A.rS true n)) 2 0 rfl rfl rfl sz_32 (by rw [bs_length, rS_len _ h.oks]) rfl (bs_one _) (by simp [bs_length, secOf_len, rS_len _ h.oks]) ?_)
    rw [spl_hi (rS_len _ h.oks) (by rw [secOf_len, rS_len _ h.oks])]
    refine L_nil ?_
    refine C_region ?_
    refine L_y rfl (y_move rfl) rfl ?_
    refine L_y rfl (y_move rfl) rfl ?_
    refine L_y rfl (y_move rfl) rfl ?_
    refine L_y rfl (y_nilCheck rfl) rfl ?_
    refine L_y rfl (y_fieldAddr rfl fl_110_0) rfl ?_
    refine L_y rfl (y_indexA rfl rfl Try.underlying108 sz_107 (by omega) (by omega) (show _ = 2 from rfl)) rfl ?_
    refine L_y rfl (y_fieldAddr rfl fl_107_1) rfl ?_
    refine L_y rfl (y_load rfl ag_105 (sees 4 0 rfl) rfl) rfl ?_
    refine L_y rfl (y_move rfl) rfl ?_
    refine L_y rfl (y_lookup rfl rfl Try.underlying105 Try.underlying3 zt_4 (sees 4 2 rfl)) rfl ?_
    refine L_y rfl (y_not rfl) rfl ?_
    refine L_y rfl (y_move rfl) rfl ?_
    refine L_case 47 rfl (fun hg11_12 => ?_) (fun hg11_12 => ?_)
    · skip
      refine L_y rfl (y_move rfl) rfl ?_
      refine L_y rfl (y_move rfl) rfl ?_
      refine L_y rfl (y_move rfl) rfl ?_
      refine L_y rfl (y_indexA rfl rfl Try.underlying120 sz_32 (by omega) (by omega) (show _ = 128 from rfl)) rfl ?_
      refine L_y rfl (y_loadA rfl ag_32 sz_32 (sees 2 0 rfl) (by simp [bs_length, secOf_len, rS_len _ h.oks]) (by first | exact two_hi (rS_len _ h.oks) (rS_len _ h.oks) | exact two_lo (rS_len _ h.oks))) rfl ?_
      refine L_op rfl (op_call rfl rfl (fun a w => Try.call61 a w) rfl ?_)
      refine FnS.mono (right_m (sees 4 0 rfl) (hG.sub (hsub (.cons _ (.cons _ (.cons _ (.cons _ (.cons _ (.refl _)))))))) n _ (rS_len _ h.oks)) ?_
      rintro _ _ ⟨rfl, e⟩
      obtain rfl := e.symm
      refine ⟨_, rfl, ?_⟩
      refine L_case 53 rfl (fun hg11_18 => ?_) (fun hg11_18 => ?_)
      · skip
        refine L_y rfl (y_pick_t rfl rfl) rfl ?_
        refine L_y rfl (y_indexA rfl rfl Try.underlying62 sz_4 (by omega) (by omega) (show _ = 1 from rfl)) rfl ?_
        refine L_op rfl (op_store1 1 0 rfl rfl rfl sz_4 rfl (Nat.le_of_ble_eq_true rfl) ?_)
        refine L_nil ?_
        refine C_region ?_
        refine L_y rfl (y_add rfl rfl (show _ = (2 : Int) from rfl)) rfl ?_
        refine L_y rfl (y_move rfl) rfl ?_
        refine L_nil ?_
        refine In_round ?_
        refine C_seq ?_
        refine C_region ?_
        refine L_y rfl (y_lss rfl rfl) rfl ?_
        refine L_nil ?_
        refine C_seq ?_
        refine C_cond_f rfl ?_
        refine C_exit ?_
        refine C_seq ?_
        refine C_region ?_
        refine L_y rfl (y_assign rfl) rfl ?_
        refine L_nil ?_
        refine C_seq ?_
        refine C_block ?_
        refine C_seq ?_
        refine C_region ?_
        refine L_y rfl (y_indexA rfl rfl Try.underlying62 sz_4 (by omega) (by omega) (show _ = 0 from rfl)) rfl ?_
        refine L_y rfl (y_load rfl ag_4 (sees 1 0 rfl) rfl) rfl ?_
        refine L_y rfl (y_not rfl) rfl ?_
        refine L_y rfl (y_move rfl) rfl ?_
        refine L_y rfl (y_indexA rfl rfl Try.underlying62 sz_4 (by omega) (by omega) (show _ = 1 from rfl)) rfl ?_
        refine L_y rfl (y_load rfl ag_4 (sees 1 0 rfl) rfl) rfl ?_
        refine L_y rfl (y_not rfl) rfl ?_
        refine L_y rfl (y_pick_t rfl rfl) rfl ?_
        refine L_y rfl (y_assign rfl) rfl ?_
        refine L_nil ?_
        refine C_cond_f rfl ?_
        refine C_seq ?_
        refine C_region ?_
        refine L_y rfl (y_indexA rfl rfl Try.underlying62 sz_4 (by omega) (by omega) (show _ = 0 from rfl)) rfl ?_
        refine L_y rfl (y_load rfl ag_4 (sees 1 0 rfl) rfl) rfl ?_
        refine L_y rfl (y_move rfl) rfl ?_
        refine L_skip rfl rfl ?_
        refine L_skip rfl rfl ?_
        refine L_y rfl (y_pick_f rfl rfl) rfl ?_
        refine L_y rfl (y_move rfl) rfl ?_
        refine L_skip rfl rfl ?_
        refine L_skip rfl rfl ?_
        refine L_skip rfl rfl ?_
        refine L_skip rfl rfl ?_
        refine L_skip rfl rfl ?_
        refine L_y rfl (y_pick_f rfl rfl) rfl ?_
        refine L_y rfl (y_assign rfl) rfl ?_
        refine L_nil ?_
        refine C_cond_f rfl ?_
        refine C_seq ?_
        refine C_region ?_
        refine L_y rfl (y_indexA rfl rfl Try.underlying62 sz_4 (by omega) (by omega) (show _ = 0 from rfl)) rfl ?_
        refine L_y rfl (y_load rfl ag_4 (sees 1 0 rfl) rfl) rfl ?_
        refine L_y rfl (y_not rfl) rfl ?_
        refine L_y rfl (y_assign rfl) rfl ?_
        refine L_nil ?_
        refine C_cond_t rfl ?_
        refine C_region ?_
        refine L_y rfl (y_assign rfl) rfl ?_
        refine L_nil ?_
        refine C_seq ?_
        refine C_seq ?_
        refine C_region ?_
        refine L_y rfl (y_move rfl) rfl ?_
        refine L_y rfl (y_move rfl) rfl ?_
        refine L_y rfl (y_sub rfl rfl (show _ = (0 : Int) from rfl)) rfl ?_
        refine L_y rfl (y_nilCheck rfl) rfl ?_
        refine L_y rfl (y_fieldAddr rfl fl_110_0) rfl ?_
        refine L_y rfl (y_indexA rfl rfl Try.underlying108 sz_107 (by omega) (by omega) (show _ = 0 from rfl)) rfl ?_
        refine L_y rfl (y_assign rfl) rfl ?_
        refine L_nil ?_
        refine C_seq ?_
        refine C_regionH (m.seg 110 :: H) (by kernel_rfl) ?_
        refine H_y 0 rfl (by kernel_rfl) (by kernel_rfl) (by kernel_rfl) (((hsub (.cons_cons _ (.cons _ (.cons _ (.cons _ (.cons _ (.refl _))))))).trans (hsub_pick [4] rfl))) rfl (y_move rfl) rfl ?_
        refine H_y 1 rfl (by kernel_rfl) (by kernel_rfl) (by kernel_rfl) (((hsub (.cons_cons _ (.cons _ (.cons _ (.cons _ (.cons _ (.refl _))))))).trans (hsub_pick [4] rfl))) rfl (y_nilCheck rfl) rfl ?_
        refine H_y 2 rfl (by kernel_rfl) (by kernel_rfl) (by kernel_rfl) (((hsub (.cons_cons _ (.cons _ (.cons _ (.cons _ (.cons _ (.refl _))))))).trans (hsub_pick [4] rfl))) rfl (y_fieldAddr rfl fl_107_0) rfl ?_
        refine H_y 3 rfl (by kernel_rfl) (by kernel_rfl) (by kernel_rfl) (((hsub (.cons_cons _ (.cons _ (.cons _ (.cons _ (.cons _ (.refl _))))))).trans (hsub_pick [4] rfl))) rfl (y_load rfl ag_24 (sees 0 0 rfl) rfl) rfl ?_
        refine H_y 4 rfl (by kernel_rfl) (by kernel_rfl) (by kernel_rfl) (((hsub (.cons_cons _ (.cons _ (.cons _ (.cons _ (.cons _ (.refl _))))))).trans (hsub_pick [4] rfl))) rfl (y_move rfl) rfl ?_
        refine H_y 5 rfl (by kernel_rfl) (by kernel_rfl) (by kernel_rfl) (((hsub (.cons_cons _ (.cons _ (.cons _ (.cons _ (.cons _ (.refl _))))))).trans (hsub_pick [4] rfl))) rfl (y_move rfl) rfl ?_
        refine H_y 6 rfl (by kernel_rfl) (by kernel_rfl) (by kernel_rfl) (((hsub (.cons_cons _ (.cons _ (.cons _ (.cons _ (.cons _ (.refl _))))))).trans (hsub_pick [4] rfl))) rfl (y_indexA rfl rfl Try.underlying120 sz_32 (by omega) (by omega) (show _ = 128 from rfl)) rfl ?_
        refine H_one 7 rfl (by kernel_rfl) rfl (op_y (y_loadA rfl ag_32 sz_32 (sees 2 0 rfl) (by simp [bs_length, secOf_len, rS_len _ h.oks]) (by first | exact two_hi (rS_len _ h.oks) (rS_len _ h.oks) | exact two_lo (rS_len _ h.oks))) rfl ?_)
        refine ⟨((hsub (.cons_cons _ (.cons _ (.cons _ (.cons _ (.cons _ (.refl _))))))).trans (hsub_pick [4] rfl)), ?_⟩
        refine H_one 8 rfl (by kernel_rfl) rfl (op_call rfl rfl (fun a w => Try.call62 a w) rfl ?_)
        refine ((write_d h false n (A.rS true n) (rS_len _ h.oks) (by have := hQ false; omega)).sub (hsub_pick [0] rfl)).mono ?_
        rintro _ _ ⟨rfl, D6, h6, rfl⟩
        refine ⟨_, rfl, ?_⟩
        refine ⟨((hsub (.cons_cons _ (.cons _ (.cons _ (.cons _ (.cons _ (.refl _))))))).trans (hsub_pick [4] rfl)), ?_⟩
        refine H_y 9 rfl (by kernel_rfl) (by kernel_rfl) (by kernel_rfl) (((hsub (.cons_cons _ (.cons _ (.cons _ (.cons _ (.cons _ (.refl _))))))).trans (hsub_pick [4] rfl))) rfl (y_eqi rfl rfl) rfl ?_
        refine H_done (by kernel_rfl) ?_
        refine C_cond rfl (fun hc6 => ?_) (fun hc6 => ?_)
        · replace hc6 := of_decide_eq_true hc6
          refine C_region ?_
          refine L_y rfl (y_move rfl) rfl ?_
          refine L_y rfl (y_nilCheck rfl) rfl ?_
          refine L_y rfl (y_fieldAddr rfl fl_107_1) rfl ?_
          refine L_y rfl (y_load rfl ag_105 (sees 4 0 rfl) rfl) rfl ?_
          refine L_y rfl (y_move rfl) rfl ?_
          refine L_op rfl (op_delete 4 1 rfl rfl rfl Try.underlying105 Try.underlying3 rfl rfl ?_)
          refine L_nil ?_
          refine C_seq ?_
          refine C_region ?_
          refine L_y rfl (y_assign rfl) rfl ?_
          refine L_y rfl (y_assign rfl) rfl ?_
          refine L_nil ?_
          refine C_ret ?_
          refine B_ret (rv_tmp rfl (rv_tmp rfl rv_nil)) ((hsub (.cons_cons _ (.cons_cons _ (.cons _ (.cons _ (.cons _ (.refl _))))))).trans (hsub_pick [4, 0] rfl)) ?_
          have e0 : healTo m A p n = some false := by simp_all [healTo, Go.Sl.hg0, Go.Sl.hg1]
          have e1 : healM m A p n = (if A.wE false n = 0 then { m with k0 := kDel m.k0 n } else m) := by simp [healM, e0]
          exact ⟨by simp_all [healR, Go.Sl.hg0, Go.Sl.hg1] <;> rfl, D6, h6.to (by simp [healA, e0]), by rw [e1]; first | (rw [if_pos (by simpa using hc6)]; rfl) | (rw [if_neg (by simpa using hc6)]; rfl)⟩
        · replace hc6 := of_decide_eq_false hc6
          refine C_skip ?_
          refine C_seq ?_
          refine C_region ?_
          refine L_y rfl (y_assign rfl) rfl ?_
          refine L_y rfl (y_assign rfl) rfl ?_
          refine L_nil ?_
          refine C_ret ?_
          refine B_ret (rv_tmp rfl (rv_tmp rfl rv_nil)) ((hsub (.cons_cons _ (.cons_cons _ (.cons _ (.cons _ (.cons _ (.refl _))))))).trans (hsub_pick [4, 0] rfl)) ?_
          have e0 : healTo m A p n = some false := by simp_all [healTo, Go.Sl.hg0, Go.Sl.hg1]
          have e1 : healM m A p n = (if A.wE false n = 0 then { m with k0 := kDel m.k0 n } else m) := by simp [healM, e0]
          exact ⟨by simp_all [healR, Go.Sl.hg0, Go.Sl.hg1] <;> rfl, D6, h6.to (by simp [healA, e0]), by rw [e1]; first | (rw [if_pos (by simpa using hc6)]; rfl) | (rw [if_neg (by simpa using hc6)]; rfl)⟩
      · skip
        refine L_y rfl (y_pick_t rfl rfl) rfl ?_
        refine L_y rfl (y_indexA rfl rfl Try.underlying62 sz_4 (by omega) (by omega) (show _ = 1 from rfl)) rfl ?_
        refine L_op rfl (op_store1 1 0 rfl rfl rfl sz_4 rfl (Nat.le_of_ble_eq_true rfl) ?_)
        refine L_nil ?_
        refine C_region ?_
        refine L_y rfl (y_add rfl rfl (show _ = (2 : Int) from rfl)) rfl ?_
        refine L_y rfl (y_move rfl) rfl ?_
        refine L_nil ?_
        refine In_round ?_
        refine C_seq ?_
        refine C_region ?_
        refine L_y rfl (y_lss rfl rfl) rfl ?_
        refine L_nil ?_
        refine C_seq ?_
        refine C_cond_f rfl ?_
        refine C_exit ?_
        refine C_seq ?_
        refine C_region ?_
        refine L_y rfl (y_assign rfl) rfl ?_
        refine L_nil ?_
        refine C_seq ?_
        refine C_block ?_
        refine C_seq ?_
        refine C_region ?_
        refine L_y rfl (y_indexA rfl rfl Try.underlying62 sz_4 (by omega) (by omega) (show _ = 0 from rfl)) rfl ?_
        refine L_y rfl (y_load rfl ag_4 (sees 1 0 rfl) rfl) rfl ?_
        refine L_y rfl (y_not rfl) rfl ?_
        refine L_y rfl (y_move rfl) rfl ?_
        refine L_y rfl (y_indexA rfl rfl Try.underlying62 sz_4 (by omega) (by omega) (show _ = 1 from rfl)) rfl ?_
        refine L_y rfl (y_load rfl ag_4 (sees 1 0 rfl) rfl) rfl ?_
        refine L_y rfl (y_not rfl) rfl ?_
        refine L_y rfl (y_pick_t rfl rfl) rfl ?_
        refine L_y rfl (y_assign rfl) rfl ?_
        refine L_nil ?_
        refine C_cond_t rfl ?_
        refine C_seq ?_
        refine C_region ?_
        refine L_y rfl (y_assign rfl) rfl ?_
        refine L_y rfl (y_assign rfl) rfl ?_
        refine L_nil ?_
        refine C_ret ?_
        refine B_ret (rv_tmp rfl (rv_tmp rfl rv_nil)) ((hsub (.cons_cons _ (.cons_cons _ (.cons _ (.cons _ (.cons _ (.refl _))))))).trans (hsub_pick [4, 0] rfl)) ?_
        exact ⟨by simp_all [healR, healTo, Go.Sl.hg0, Go.Sl.hg1] <;> rfl, D, h.to (by simp_all [healA, healTo, Go.Sl.hg0, Go.Sl.hg1]), by rw [show healM m A p n = m from by simp_all [healM, healTo, Go.Sl.hg0, Go.Sl.hg1]]; first | done | rfl⟩
    · skip
      refine L_skip rfl rfl ?_
      refine L_skip rfl rfl ?_
      refine L_skip rfl rfl ?_
      refine L_skip rfl rfl ?_
      refine L_skip rfl rfl ?_
      refine L_skip rfl rfl ?_
      refine L_y rfl (y_pick_f rfl rfl) rfl ?_
      refine L_y rfl (y_indexA rfl rfl Try.underlying62 sz_4 (by omega) (by omega) (show _ = 1 from rfl)) rfl ?_
      refine L_op rfl (op_store1 1 0 rfl rfl rfl sz_4 rfl (Nat.le_of_ble_eq_true rfl) ?_)
      refine L_nil ?_
      refine C_region ?_
      refine L_y rfl (y_add rfl rfl (show _ = (2 : Int) from rfl)) rfl ?_
      refine L_y rfl (y_move rfl) rfl ?_
      refine L_nil ?_
      refine In_round ?_
      refine C_seq ?_
      refine C_region ?_
      refine L_y rfl (y_lss rfl rfl) rfl ?_
      refine L_nil ?_
      refine C_seq ?_
      refine C_cond_f rfl ?_
      refine C_exit ?_
      refine C_seq ?_
      refine C_region ?_
      refine L_y rfl (y_assign rfl) rfl ?_
      refine L_nil ?_
      refine C_seq ?_
      refine C_block ?_
      refine C_seq ?_
      refine C_region ?_
      refine L_y rfl (y_indexA rfl rfl Try.underlying62 sz_4 (by omega) (by omega) (show _ = 0 from rfl)) rfl ?_
      refine L_y rfl (y_load rfl ag_4 (sees 1 0 rfl) rfl) rfl ?_
      refine L_y rfl (y_not rfl) rfl ?_
      refine L_y rfl (y_move rfl) rfl ?_
      refine L_y rfl (y_indexA rfl rfl Try.underlying62 sz_4 (by omega) (by omega) (show _ = 1 from rfl)) rfl ?_
      refine L_y rfl (y_load rfl ag_4 (sees 1 0 rfl) rfl) rfl ?_
      refine L_y rfl (y_not rfl) rfl ?_
      refine L_y rfl (y_pick_t rfl rfl) rfl ?_
      refine L_y rfl (y_assign rfl) rfl ?_
      refine L_nil ?_
      refine C_cond_t rfl ?_
      refine C_seq ?_
      refine C_region ?_
      refine L_y rfl (y_assign rfl) rfl ?_
      refine L_y rfl (y_assign rfl) rfl ?_
      refine L_nil ?_
      refine C_ret ?_
      refine B_ret (rv_tmp rfl (rv_tmp rfl rv_nil)) ((hsub (.cons_cons _ (.cons_cons _ (.cons _ (.cons _ (.cons _ (.refl _))))))).trans (hsub_pick [4, 0] rfl)) ?_
      exact ⟨by simp_all [healR, healTo, Go.Sl.hg0, Go.Sl.hg1] <;> rfl, D, h.to (by simp_all [healA, healTo, Go.Sl.hg0, Go.Sl.hg1]), by rw [show healM m A p n = m from by simp_all [healM, healTo, Go.Sl.hg0, Go.Sl.hg1]]; first | done | rfl⟩

set_option maxHeartbeats 4000000 in

theorem heal_tf {w0 : World} {H : Hp} {D : Duo} {A : Da} {bp : Nat} {m : Mi} (h : Two dt D A m.bx m.bys bp) {p : Int → Sec → Bool} (hG : GoodAt Try.prog w0 H m.gv p) (n : Int) (hQ : ∀ i, (A.dev i).Q.length < 99990) (hn : m.has n = true) (hp : thr A false = true) (hq : thr A true = false) : FnS Try.prog w0 23 #[ptr m.b, .int .i64 n] (m.seg 110 :: D.seg dt :: H) (fun e H' => e = .returned (.tuple #[.int .i64 (healR m A p n).1, .int .i64 (healR m A p n).2]) ∧ ∃ D', Two dt D' (healA m A p n) m.bx m.bys bp ∧ H' = (healM m A p n).seg 110 :: D'.seg dt :: H) := by
  refine FnS_intro (n := 105) (rs := [.tmp 4, .tmp 5]) (vs := [ptr m.b, .int .i64 n]) Try.func23 rfl Try.ntmps23 rfl rfl ?_
  refine C_seq ?_
  refine C_region ?_
  refine L_y rfl (y_assign rfl) rfl ?_
  refine L_y rfl (y_assign rfl) rfl ?_
  refine L_nil ?_
  refine C_seq ?_
  refine C_seq ?_
  refine C_region ?_
  refine L_y rfl (y_move rfl) rfl ?_
  refine L_y rfl (y_move rfl) rfl ?_
  refine L_op rfl (op_call rfl rfl (fun a w => Try.call58 a w) rfl ?_)
  refine (has_m _ (sees 0 0 rfl)).mono ?_
  rintro _ _ ⟨rfl, rfl⟩
  rw [hn]
  refine ⟨_, rfl, ?_⟩
  refine L_y rfl (y_not rfl) rfl ?_
  refine L_nil ?_
  refine C_cond_f rfl ?_
  refine C_skip ?_
  refine C_seq ?_
  refine C_seq ?_
  refine C_region ?_
  refine L_y rfl (y_move rfl) rfl ?_
  refine L_op rfl (op_call rfl rfl (fun a w => Try.call59 a w) rfl ?_)
  refine ((present_tf h hp hq).sub (hsub_pick [0, 0] rfl)).mono ?_
  rintro _ _ ⟨g1, hg1, rfl, rfl⟩
  cases g1 with
  | none => exact slOk_none hg1 (by decide)
  | some g1 => ?_
  refine ⟨_, rfl, ?_⟩
  refine L_y rfl (y_lenS rfl rfl Try.underlying118) rfl ?_
  refine L_y rfl (y_lss rfl rfl) rfl ?_
  refine L_nil ?_
  refine C_cond_t rfl ?_
  refine C_seq ?_
  refine C_region ?_
  refine L_y rfl (y_assign rfl) rfl ?_
  refine L_y rfl (y_assign rfl) rfl ?_
  refine L_nil ?_
  refine C_ret ?_
  refine B_ret (rv_tmp rfl (rv_tmp rfl rv_nil)) ((hsub (.cons_cons _ (.cons_cons _ (.cons _ (.refl _))))).trans (hsub_pick [1, 1] rfl)) ?_
  exact ⟨by simp_all [healR, healTo, Go.Sl.hg0, Go.Sl.hg1] <;> rfl, D, h.to (by simp_all [healA, healTo, Go.Sl.hg0, Go.Sl.hg1]), by rw [show healM m A p n = m from by simp_all [healM, healTo, Go.Sl.hg0, Go.Sl.hg1]]; first | done | rfl⟩

set_option maxHeartbeats 4000000 in

theorem heal_ft {w0 : World} {H : Hp} {D : Duo} {A : Da} {bp : Nat} {m : Mi} (h : Two dt D A m.bx m.bys bp) {p : Int → Sec → Bool} (hG : GoodAt Try.prog w0 H m.gv p) (n : Int) (hQ : ∀ i, (A.dev i).Q.length < 99990) (hn : m.has n = true) (hp : thr A false = false) (hq : thr A true = true) : FnS Try.prog w0 23 #[ptr m.b, .int .i64 n] (m.seg 110 :: D.seg dt :: H) (fun e H' => e = .returned (.tuple #[.int .i64 (healR m A p n).1, .int .i64 (healR m A p n).2]) ∧ ∃ D', Two dt D' (healA m A p n) m.bx m.bys bp ∧ H' = (healM m A p n).seg 110 :: D'.seg dt :: H) := by
  refine FnS_intro (n := 105) (rs := [.tmp 4, .tmp 5]) (vs := [ptr m.b, .int .i64 n]) Try.func23 rfl Try.ntmps23 rfl rfl ?_
  refine C_seq ?_
  refine C_region ?_
  refine L_y rfl (y_assign rfl) rfl ?_
  refine L_y rfl (y_assign rfl) rfl ?_
  refine L_nil ?_
  refine C_seq ?_
  refine C_seq ?_
  refine C_region ?_
  refine L_y rfl (y_move rfl) rfl ?_
  refine L_y rfl (y_move rfl) rfl ?_
  refine L_op rfl (op_call rfl rfl (fun a w => Try.call58 a w) rfl ?_)
  refine (has_m _ (sees 0 0 rfl)).mono ?_
  rintro _ _ ⟨rfl, rfl⟩
  rw [hn]
  refine ⟨_, rfl, ?_⟩
  refine L_y rfl (y_not rfl) rfl ?_
  refine L_nil ?_
  refine C_cond_f rfl ?_
  refine C_skip ?_
  refine C_seq ?_
  refine C_seq ?_
  refine C_region ?_
  refine L_y rfl (y_move rfl) rfl ?_
  refine L_op rfl (op_call rfl rfl (fun a w => Try.call59 a w) rfl ?_)
  refine ((present_ft h hp hq).sub (hsub_pick [0, 0] rfl)).mono ?_
  rintro _ _ ⟨g1, hg1, rfl, rfl⟩
  cases g1 with
  | none => exact slOk_none hg1 (by decide)
  | some g1 => ?_
  refine ⟨_, rfl, ?_⟩
  refine L_y rfl (y_lenS rfl rfl Try.underlying118) rfl ?_
  refine L_y rfl (y_lss rfl rfl) rfl ?_
  refine L_nil ?_
  refine C_cond_t rfl ?_
  refine C_seq ?_
  refine C_region ?_
  refine L_y rfl (y_assign rfl) rfl ?_
  refine L_y rfl (y_assign rfl) rfl ?_
  refine L_nil ?_
  refine C_ret ?_
  refine B_ret (rv_tmp rfl (rv_tmp rfl rv_nil)) ((hsub (.cons_cons _ (.cons_cons _ (.cons _ (.refl _))))).trans (hsub_pick [1, 1] rfl)) ?_
  exact ⟨by simp_all [healR, healTo, Go.Sl.hg0, Go.Sl.hg1] <;> rfl, D, h.to (by simp_all [healA, healTo, Go.Sl.hg0, Go.Sl.hg1]), by rw [show healM m A p n = m from by simp_all [healM, healTo, Go.Sl.hg0, Go.Sl.hg1]]; first | done | rfl⟩

set_option maxHeartbeats 4000000 in

theorem heal_ff {w0 : World} {H : Hp} {D : Duo} {A : Da} {bp : Nat} {m : Mi} (h : Two dt D A m.bx m.bys bp) {p : Int → Sec → Bool} (hG : GoodAt Try.prog w0 H m.gv p) (n : Int) (hQ : ∀ i, (A.dev i).Q.length < 99990) (hn : m.has n = true) (hp : thr A false = false) (hq : thr A true = false) : FnS Try.prog w0 23 #[ptr m.b, .int .i64 n] (m.seg 110 :: D.seg dt :: H) (fun e H' => e = .returned (.tuple #[.int .i64 (healR m A p n).1, .int .i64 (healR m A p n).2]) ∧ ∃ D', Two dt D' (healA m A p n) m.bx m.bys bp ∧ H' = (healM m A p n).seg 110 :: D'.seg dt :: H) := by
  refine FnS_intro (n := 105) (rs := [.tmp 4, .tmp 5]) (vs := [ptr m.b, .int .i64 n]) Try.func23 rfl Try.ntmps23 rfl rfl ?_
  refine C_seq ?_
  refine C_region ?_
  refine L_y rfl (y_assign rfl) rfl ?_
  refine L_y rfl (y_assign rfl) rfl ?_
  refine L_nil ?_
  refine C_seq ?_
  refine C_seq ?_
  refine C_region ?_
  refine L_y rfl (y_move rfl) rfl ?_
  refine L_y rfl (y_move rfl) rfl ?_
  refine L_op rfl (op_call rfl rfl (fun a w => Try.call58 a w) rfl ?_)
  refine (has_m _ (sees 0 0 rfl)).mono ?_
  rintro _ _ ⟨rfl, rfl⟩
  rw [hn]
  refine ⟨_, rfl, ?_⟩
  refine L_y rfl (y_not rfl) rfl ?_
  refine L_nil ?_
  refine C_cond_f rfl ?_
  refine C_skip ?_
  refine C_seq ?_
  refine C_seq ?_
  refine C_region ?_
  refine L_y rfl (y_move rfl) rfl ?_
  refine L_op rfl (op_call rfl rfl (fun a w => Try.call59 a w) rfl ?_)
  refine ((present_ff h hp hq).sub (hsub_pick [0, 0] rfl)).mono ?_
  rintro _ _ ⟨rfl, rfl⟩
  refine ⟨_, rfl, ?_⟩
  refine L_y rfl (y_lenS rfl rfl Try.underlying118) rfl ?_
  refine L_y rfl (y_lss rfl rfl) rfl ?_
  refine L_nil ?_
  refine C_cond_t rfl ?_
  refine C_seq ?_
  refine C_region ?_
  refine L_y rfl (y_assign rfl) rfl ?_
  refine L_y rfl (y_assign rfl) rfl ?_
  refine L_nil ?_
  refine C_ret ?_
  refine B_ret (rv_tmp rfl (rv_tmp rfl rv_nil)) ((hsub (.cons_cons _ (.cons_cons _ (.refl _)))).trans (hsub_pick [0, 0] rfl)) ?_
  exact ⟨by simp_all [healR, healTo, Go.Sl.hg0, Go.Sl.hg1] <;> rfl, D, h.to (by simp_all [healA, healTo, Go.Sl.hg0, Go.Sl.hg1]), by rw [show healM m A p n = m from by simp_all [healM, healTo, Go.Sl.hg0, Go.Sl.hg1]]; first | done | rfl⟩

theorem heal_m {w0 : World} {H : Hp} {D : Duo} {A : Da} {bp : Nat} {m : Mi} (h : Two dt D A m.bx m.bys bp) {p : Int → Sec → Bool} (hG : GoodAt Try.prog w0 H m.gv p) (n : Int) (hQ : ∀ i, (A.dev i).Q.length < 99990) : FnS Try.prog w0 23 #[ptr m.b, .int .i64 n] (m.seg 110 :: D.seg dt :: H) (fun e H' => e = .returned (.tuple #[.int .i64 (healR m A p n).1, .int .i64 (healR m A p n).2]) ∧ ∃ D', Two dt D' (healA m A p n) m.bx m.bys bp ∧ H' = (healM m A p n).seg 110 :: D'.seg dt :: H) := by
  cases hn : m.has n
  · exact heal_no h hG n hQ hn
  · cases hp : thr A false <;> cases hq : thr A true
    · exact heal_ff h hG n hQ hn hp hq
    · exact heal_ft h hG n hQ hn hp hq
    · exact heal_tf h hG n hQ hn hp hq
    · exact heal_tt h hG n hQ hn hp hq

end Go.Proofs.Ytjjiclgbdenkkaa

/- walks (own work; the walks' lines by a program of this repo). -/
set_option linter.unusedVariables false
set_option linter.unusedSimpArgs false
set_option maxRecDepth 20000
namespace Go.Proofs.Ytjjiclgbdenkkaa
open Go.Sl
attribute [local irreducible] BodyQ WpC WpL WpS WpH OpW FnS


end Go.Proofs.Ytjjiclgbdenkkaa

/- walks (own work; the walks' lines by a program of this repo). -/
set_option linter.unusedVariables false
set_option linter.unusedSimpArgs false
set_option maxRecDepth 20000
namespace Go.Proofs.Ytjjiclgbdenkkaa
open Go.Sl
attribute [local irreducible] BodyQ WpC WpL WpS WpH OpW FnS


theorem report_s {w0 : World} {H : Hp} {wb mb : Nat} {nx : Int} {r : Rp} (hW : Sees (fun w => St w0 w H) wb (.cells (wcells mb nx r).toArray 160)) : FnS Try.prog w0 81 #[ptr wb] H (fun e H' => e = .returned (.agg [Value.int .i64 r.1, .int .i64 r.2.1, .int .i64 r.2.2].toArray) ∧ H' = H) := by
  refine FnS_intro (n := 10) (rs := [.cell 2 90]) (vs := [ptr wb]) Try.func81 rfl Try.ntmps81 rfl rfl ?_
  refine C_seq ?_
  refine C_region ?_
  refine L_op rfl (op_alloc zl_90 rfl (fun B1 => ?_))
  refine L_nil ?_
  refine C_seq ?_
  refine C_seq ?_
  refine C_region ?_
  refine L_y rfl (y_move rfl) rfl ?_
  refine L_y rfl (y_eqp rfl rfl Try.underlying140) rfl ?_
  refine L_nil ?_
  refine C_cond_f rfl ?_
  refine C_skip ?_
  refine C_seq ?_
  refine C_region ?_
  refine L_y rfl (y_move rfl) rfl ?_
  refine L_y rfl (y_nilCheck rfl) rfl ?_
  refine L_y rfl (y_fieldAddr rfl fl_160_2) rfl ?_
  refine L_y rfl (y_loadA rfl ag_90 sz_90 (hW.up) (Nat.le_of_ble_eq_true rfl) rfl) rfl ?_
  refine L_op rfl (op_store 0 0 rfl rfl rfl sz_90 rfl rfl (ones rfl) (by decide) ?_)
  skip
  refine L_nil ?_
  refine C_ret ?_
  refine B_ret (rv_cellA rfl ag_90 sz_90 (sees 0 0 rfl) (Nat.le_of_ble_eq_true rfl) rfl rv_nil) (hsub (.cons _ (.refl _))) ?_
  exact ⟨rfl, rfl⟩

theorem snew_s {w0 : World} {H : Hp} {mb : Nat} : FnS Try.prog w0 79 #[ptr mb] H (fun e H' => ∃ wb, e = .returned (ptr wb) ∧ H' = [(wb, .cells [ptr mb, .int .i64 0, .int .i64 0, .int .i64 0, .int .i64 0].toArray 160)] :: H) := by
  refine FnS_intro (n := 6) (rs := [.tmp 2]) (vs := [ptr mb]) Try.func79 rfl Try.ntmps79 rfl rfl ?_
  refine C_seq ?_
  refine C_region ?_
  refine L_y rfl (y_assign rfl) rfl ?_
  refine L_nil ?_
  refine C_seq ?_
  refine C_region ?_
  refine L_y rfl (y_move rfl) rfl ?_
  refine L_y rfl (y_build (vs := [(0, _)]) (l := [ptr mb, .int .i64 0, .int .i64 0, .int .i64 0, .int .i64 0]) rfl pl_160 zl_160 (fill_cons (off := 0) (m := 1) (vs := [_]) rfl rfl rfl (Nat.le_of_ble_eq_true rfl) rfl)) rfl ?_
  refine L_op rfl (op_box rfl rfl rfl (fun B1 => ?_))
  refine L_y rfl (y_assign rfl) rfl ?_
  refine L_nil ?_
  refine C_ret ?_
  refine B_ret (rv_tmp rfl rv_nil) (HSub.refl _) ?_
  exact ⟨B1, rfl, rfl⟩

theorem step_end {w0 : World} {H : Hp} {D : Duo} {A : Da} {bp : Nat} {m : Mi} (h : Two dt D A m.bx m.bys bp) {p : Int → Sec → Bool} {wb : Nat} {nx : Nat} {r : Rp} (hG : GoodAt Try.prog w0 H m.gv p) (hQ : ∀ i, (A.dev i).Q.length < 99990) (hr : 0 ≤ r.1 ∧ r.1 ≤ 5000 ∧ 0 ≤ r.2.1 ∧ r.2.1 ≤ 5000 ∧ 0 ≤ r.2.2 ∧ r.2.2 ≤ 5000) (hn : ¬ nx < m.n) : FnS Try.prog w0 80 #[ptr wb] ([(wb, .cells (wcells m.b (nx : Int) r).toArray 160)] :: m.seg 110 :: D.seg dt :: H) (fun e H' => e = .returned (.tuple #[.int .i64 0, .bool false]) ∧ H' = [(wb, .cells (wcells m.b (nx : Int) r).toArray 160)] :: m.seg 110 :: D.seg dt :: H) := by
  refine FnS_intro (n := 80) (rs := [.tmp 2, .tmp 3]) (vs := [ptr wb]) Try.func80 rfl Try.ntmps80 rfl rfl ?_
  refine C_seq ?_
  refine C_region ?_
  refine L_y rfl (y_assign rfl) rfl ?_
  refine L_y rfl (y_assign rfl) rfl ?_
  refine L_nil ?_
  refine C_seq ?_
  refine C_seq ?_
  refine C_regionH0 (by kernel_rfl) ?_
  refine H_y 0 rfl (by kernel_rfl) (by kernel_rfl) (by kernel_rfl) (HSub.refl _) rfl (y_move rfl) rfl ?_
  refine H_y 1 rfl (by kernel_rfl) (by kernel_rfl) (by kernel_rfl) (HSub.refl _) rfl (y_eqp rfl rfl Try.underlying140) rfl ?_
  refine H_y 2 rfl (by kernel_rfl) (by kernel_rfl) (by kernel_rfl) (HSub.refl _) rfl (y_move rfl) rfl ?_
  refine H_y 3 rfl (by kernel_rfl) (by kernel_rfl) (by kernel_rfl) (HSub.refl _) rfl (y_move rfl) rfl ?_
  refine H_y 4 rfl (by kernel_rfl) (by kernel_rfl) (by kernel_rfl) (HSub.refl _) rfl (y_nilCheck rfl) rfl ?_
  refine H_y 5 rfl (by kernel_rfl) (by kernel_rfl) (by kernel_rfl) (HSub.refl _) rfl (y_fieldAddr rfl fl_160_0) rfl ?_
  refine H_y 6 rfl (by kernel_rfl) (by kernel_rfl) (by kernel_rfl) (HSub.refl _) rfl (y_load rfl ag_26 (sees 0 0 rfl) rfl) rfl ?_
  refine H_y 7 rfl (by kernel_rfl) (by kernel_rfl) (by kernel_rfl) (HSub.refl _) rfl (y_eqp rfl rfl Try.underlying26) rfl ?_
  refine H_y 8 rfl (by kernel_rfl) (by kernel_rfl) (by kernel_rfl) (HSub.refl _) rfl (y_pick_f rfl rfl) rfl ?_
  refine H_y 9 rfl (by kernel_rfl) (by kernel_rfl) (by kernel_rfl) (HSub.refl _) rfl (y_move rfl) rfl ?_
  refine H_y 10 rfl (by kernel_rfl) (by kernel_rfl) (by kernel_rfl) (HSub.refl _) rfl (y_move rfl) rfl ?_
  refine H_y 11 rfl (by kernel_rfl) (by kernel_rfl) (by kernel_rfl) (HSub.refl _) rfl (y_nilCheck rfl) rfl ?_
  refine H_y 12 rfl (by kernel_rfl) (by kernel_rfl) (by kernel_rfl) (HSub.refl _) rfl (y_fieldAddr rfl fl_160_1) rfl ?_
  refine H_y 13 rfl (by kernel_rfl) (by kernel_rfl) (by kernel_rfl) (HSub.refl _) rfl (y_load rfl ag_3 (sees 0 0 rfl) rfl) rfl ?_
  refine H_y 14 rfl (by kernel_rfl) (by kernel_rfl) (by kernel_rfl) (HSub.refl _) rfl (y_move rfl) rfl ?_
  refine H_y 15 rfl (by kernel_rfl) (by kernel_rfl) (by kernel_rfl) (HSub.refl _) rfl (y_nilCheck rfl) rfl ?_
  refine H_y 16 rfl (by kernel_rfl) (by kernel_rfl) (by kernel_rfl) (HSub.refl _) rfl (y_fieldAddr rfl fl_160_0) rfl ?_
  refine H_y 17 rfl (by kernel_rfl) (by kernel_rfl) (by kernel_rfl) (HSub.refl _) rfl (y_load rfl ag_26 (sees 0 0 rfl) rfl) rfl ?_
  refine H_one 18 rfl (by kernel_rfl) rfl (op_call rfl rfl (fun a w => Try.call36 a w) rfl ?_)
  refine (len_m (sees 1 0 rfl)).mono ?_
  rintro _ _ ⟨rfl, e⟩
  obtain rfl := e.symm
  refine ⟨_, rfl, ?_⟩
  refine ⟨HSub.refl _, ?_⟩
  refine H_y 19 rfl (by kernel_rfl) (by kernel_rfl) (by kernel_rfl) (HSub.refl _) rfl (y_geq rfl rfl) rfl ?_
  refine H_y 20 rfl (by kernel_rfl) (by kernel_rfl) (by kernel_rfl) (HSub.refl _) rfl (y_pick_f rfl rfl) rfl ?_
  refine H_done (by kernel_rfl) ?_
  refine C_cond rfl (fun hc0 => ?_) (fun hc0 => absurd hc0 (by simp <;> omega))
  refine C_seq ?_
  refine C_region ?_
  refine L_y rfl (y_assign rfl) rfl ?_
  refine L_y rfl (y_assign rfl) rfl ?_
  refine L_nil ?_
  refine C_ret ?_
  refine B_ret (rv_tmp rfl (rv_tmp rfl rv_nil)) (HSub.refl _) ?_
  exact ⟨rfl, rfl⟩

theorem step_0_0 {w0 : World} {H : Hp} {D : Duo} {A : Da} {bp : Nat} {m : Mi} (h : Two dt D A m.bx m.bys bp) {p : Int → Sec → Bool} {wb : Nat} {nx : Nat} {r : Rp} (hG : GoodAt Try.prog w0 H m.gv p) (hQ : ∀ i, (A.dev i).Q.length < 99990) (hr : 0 ≤ r.1 ∧ r.1 ≤ 5000 ∧ 0 ≤ r.2.1 ∧ r.2.1 ≤ 5000 ∧ 0 ≤ r.2.2 ∧ r.2.2 ≤ 5000) (hn : nx < m.n) (hm : m.n ≤ 4096) (hR : healR m A p nx = (0, 0)) : FnS Try.prog w0 80 #[ptr wb] ([(wb, .cells (wcells m.b (nx : Int) r).toArray 160)] :: m.seg 110 :: D.seg dt :: H) (fun e H' => e = .returned (.tuple #[.int .i64 (nx : Int), .bool true]) ∧ ∃ D', Two dt D' (healA m A p nx) m.bx m.bys bp ∧ H' = [(wb, .cells (wcells m.b ((nx + 1 : Nat) : Int) (r.1 + 1, r.2.1, r.2.2)).toArray 160)] :: (healM m A p nx).seg 110 :: D'.seg dt :: H) := by
  refine FnS_intro (n := 80) (rs := [.tmp 2, .tmp 3]) (vs := [ptr wb]) Try.func80 rfl Try.ntmps80 rfl rfl ?_
  refine C_seq ?_
  refine C_region ?_
  refine L_y rfl (y_assign rfl) rfl ?_
  refine L_y rfl (y_assign rfl) rfl ?_
  refine L_nil ?_
  refine C_seq ?_
  refine C_seq ?_
  refine C_regionH0 (by kernel_rfl) ?_
  refine H_y 0 rfl (by kernel_rfl) (by kernel_rfl) (by kernel_rfl) (HSub.refl _) rfl (y_move rfl) rfl ?_
  refine H_y 1 rfl (by kernel_rfl) (by kernel_rfl) (by kernel_rfl) (HSub.refl _) rfl (y_eqp rfl rfl Try.underlying140) rfl ?_
  refine H_y 2 rfl (by kernel_rfl) (by kernel_rfl) (by kernel_rfl) (HSub.refl _) rfl (y_move rfl) rfl ?_
  refine H_y 3 rfl (by kernel_rfl) (by kernel_rfl) (by kernel_rfl) (HSub.refl _) rfl (y_move rfl) rfl ?_
  refine H_y 4 rfl (by kernel_rfl) (by kernel_rfl) (by kernel_rfl) (HSub.refl _) rfl (y_nilCheck rfl) rfl ?_
  refine H_y 5 rfl (by kernel_rfl) (by kernel_rfl) (by kernel_rfl) (HSub.refl _) rfl (y_fieldAddr rfl fl_160_0) rfl ?_
  refine H_y 6 rfl (by kernel_rfl) (by kernel_rfl) (by kernel_rfl) (HSub.refl _) rfl (y_load rfl ag_26 (sees 0 0 rfl) rfl) rfl ?_
  refine H_y 7 rfl (by kernel_rfl) (by kernel_rfl) (by kernel_rfl) (HSub.refl _) rfl (y_eqp rfl rfl Try.underlying26) rfl ?_
  refine H_y 8 rfl (by kernel_rfl) (by kernel_rfl) (by kernel_rfl) (HSub.refl _) rfl (y_pick_f rfl rfl) rfl ?_
  refine H_y 9 rfl (by kernel_rfl) (by kernel_rfl) (by kernel_rfl) (HSub.refl _) rfl (y_move rfl) rfl ?_
  refine H_y 10 rfl (by kernel_rfl) (by kernel_rfl) (by kernel_rfl) (HSub.refl _) rfl (y_move rfl) rfl ?_
  refine H_y 11 rfl (by kernel_rfl) (by kernel_rfl) (by kernel_rfl) (HSub.refl _) rfl (y_nilCheck rfl) rfl ?_
  refine H_y 12 rfl (by kernel_rfl) (by kernel_rfl) (by kernel_rfl) (HSub.refl _) rfl (y_fieldAddr rfl fl_160_1) rfl ?_
  refine H_y 13 rfl (by kernel_rfl) (by kernel_rfl) (by kernel_rfl) (HSub.refl _) rfl (y_load rfl ag_3 (sees 0 0 rfl) rfl) rfl ?_
  refine H_y 14 rfl (by kernel_rfl) (by kernel_rfl) (by kernel_rfl) (HSub.refl _) rfl (y_move rfl) rfl ?_
  refine H_y 15 rfl (by kernel_rfl) (by kernel_rfl) (by kernel_rfl) (HSub.refl _) rfl (y_nilCheck rfl) rfl ?_
  refine H_y 16 rfl (by kernel_rfl) (by kernel_rfl) (by kernel_rfl) (HSub.refl _) rfl (y_fieldAddr rfl fl_160_0) rfl ?_
  refine H_y 17 rfl (by kernel_rfl) (by kernel_rfl) (by kernel_rfl) (HSub.refl _) rfl (y_load rfl ag_26 (sees 0 0 rfl) rfl) rfl ?_
  refine H_one 18 rfl (by kernel_rfl) rfl (op_call rfl rfl (fun a w => Try.call36 a w) rfl ?_)
  refine (len_m (sees 1 0 rfl)).mono ?_
  rintro _ _ ⟨rfl, e⟩
  obtain rfl := e.symm
  refine ⟨_, rfl, ?_⟩
  refine ⟨HSub.refl _, ?_⟩
  refine H_y 19 rfl (by kernel_rfl) (by kernel_rfl) (by kernel_rfl) (HSub.refl _) rfl (y_geq rfl rfl) rfl ?_
  refine H_y 20 rfl (by kernel_rfl) (by kernel_rfl) (by kernel_rfl) (HSub.refl _) rfl (y_pick_f rfl rfl) rfl ?_
  refine H_done (by kernel_rfl) ?_
  refine C_cond rfl (fun hc0 => absurd hc0 (by simp <;> omega)) (fun hc0 => ?_)
  refine C_skip ?_
  refine C_seq ?_
  refine C_region ?_
  refine L_y rfl (y_move rfl) rfl ?_
  refine L_y rfl (y_nilCheck rfl) rfl ?_
  refine L_y rfl (y_fieldAddr rfl fl_160_1) rfl ?_
  refine L_y rfl (y_load rfl ag_3 (sees 0 0 rfl) rfl) rfl ?_
  refine L_y rfl (y_assign rfl) rfl ?_
  refine L_nil ?_
  refine C_seq ?_
  refine C_region ?_
  refine L_y rfl (y_move rfl) rfl ?_
  refine L_y rfl (y_nilCheck rfl) rfl ?_
  refine L_y rfl (y_fieldAddr rfl fl_160_1) rfl ?_
  refine L_y rfl (y_load rfl ag_3 (sees 0 0 rfl) rfl) rfl ?_
  refine L_y rfl (y_add rfl rfl (show _ = ((nx + 1 : Nat) : Int) from by rw [wi64 (by omega) (by omega)]; omega)) rfl ?_
  refine L_y rfl (y_nilCheck rfl) rfl ?_
  refine L_y rfl (y_fieldAddr rfl fl_160_1) rfl ?_
  refine L_op rfl (op_store1 0 0 rfl rfl rfl sz_3 rfl (Nat.le_of_ble_eq_true rfl) ?_)
  refine L_nil ?_
  refine C_seq ?_
  refine C_region ?_
  refine L_y rfl (y_move rfl) rfl ?_
  refine L_y rfl (y_nilCheck rfl) rfl ?_
  refine L_y rfl (y_fieldAddr rfl fl_160_0) rfl ?_
  refine L_y rfl (y_load rfl ag_26 (sees 0 0 rfl) rfl) rfl ?_
  refine L_y rfl (y_move rfl) rfl ?_
  refine L_op rfl (op_call rfl rfl (fun a w => Try.call23 a w) rfl ?_)
  refine (FnS.sub (hsub_pick [1, 1] rfl) (heal_m h (hG.sub (HSub.drop _ _)) (nx : Int) hQ)).mono ?_
  rintro _ _ ⟨rfl, D1, h1, rfl⟩
  rw [hR]
  refine ⟨_, rfl, ?_⟩
  refine L_y rfl (y_move rfl) rfl ?_
  refine L_y rfl (y_extract rfl rfl) rfl ?_
  refine L_y rfl (y_extract rfl rfl) rfl ?_
  refine L_y rfl (y_assign rfl) rfl ?_
  refine L_y rfl (y_assign rfl) rfl ?_
  refine L_nil ?_
  refine C_seq ?_
  refine C_regionH0 (by kernel_rfl) ?_
  refine H_y 0 rfl (by kernel_rfl) (by kernel_rfl) (by kernel_rfl) (HSub.refl _) rfl (y_move rfl) rfl ?_
  refine H_y 1 rfl (by kernel_rfl) (by kernel_rfl) (by kernel_rfl) (HSub.refl _) rfl (y_nilCheck rfl) rfl ?_
  refine H_y 2 rfl (by kernel_rfl) (by kernel_rfl) (by kernel_rfl) (HSub.refl _) rfl (y_fieldAddr rfl fl_160_2) rfl ?_
  refine H_y 3 rfl (by kernel_rfl) (by kernel_rfl) (by kernel_rfl) (HSub.refl _) rfl (y_fieldAddr rfl fl_90_0) rfl ?_
  refine H_y 4 rfl (by kernel_rfl) (by kernel_rfl) (by kernel_rfl) (HSub.refl _) rfl (y_move rfl) rfl ?_
  refine H_y 5 rfl (by kernel_rfl) (by kernel_rfl) (by kernel_rfl) (HSub.refl _) rfl (y_nilCheck rfl) rfl ?_
  refine H_y 6 rfl (by kernel_rfl) (by kernel_rfl) (by kernel_rfl) (HSub.refl _) rfl (y_fieldAddr rfl fl_160_2) rfl ?_
  refine H_y 7 rfl (by kernel_rfl) (by kernel_rfl) (by kernel_rfl) (HSub.refl _) rfl (y_fieldAddr rfl fl_90_1) rfl ?_
  refine H_y 8 rfl (by kernel_rfl) (by kernel_rfl) (by kernel_rfl) (HSub.refl _) rfl (y_move rfl) rfl ?_
  refine H_y 9 rfl (by kernel_rfl) (by kernel_rfl) (by kernel_rfl) (HSub.refl _) rfl (y_nilCheck rfl) rfl ?_
  refine H_y 10 rfl (by kernel_rfl) (by kernel_rfl) (by kernel_rfl) (HSub.refl _) rfl (y_fieldAddr rfl fl_160_2) rfl ?_
  refine H_y 11 rfl (by kernel_rfl) (by kernel_rfl) (by kernel_rfl) (HSub.refl _) rfl (y_fieldAddr rfl fl_90_2) rfl ?_
  refine H_y 12 rfl (by kernel_rfl) (by kernel_rfl) (by kernel_rfl) (HSub.refl _) rfl (y_buildA (vs := [(0, _), (1, _), (2, _)]) (l := [.pointer (some ⟨wb, 2, none⟩), .pointer (some ⟨wb, 3, none⟩), .pointer (some ⟨wb, 4, none⟩)]) rfl Try.underlying162 sz_161 zl_162 (fill_cons (off := 0) (m := 1) (vs := [_]) rfl rfl rfl (Nat.le_of_ble_eq_true rfl) (fill_cons (off := 1) (m := 1) (vs := [_]) rfl rfl rfl (Nat.le_of_ble_eq_true rfl) (fill_cons (off := 2) (m := 1) (vs := [_]) rfl rfl rfl (Nat.le_of_ble_eq_true rfl) rfl)))) rfl ?_
  refine H_one 13 rfl (by kernel_rfl) rfl (op_alloc zl_162 rfl (fun B1 => ?_))
  refine ⟨hsub (.cons _ (.refl _)), ?_⟩
  refine H_one 14 rfl (by kernel_rfl) rfl (op_store (vs := [.pointer (some ⟨wb, 2, none⟩), .pointer (some ⟨wb, 3, none⟩), .pointer (some ⟨wb, 4, none⟩)]) 0 0 rfl rfl rfl sz_162 rfl rfl (ones rfl) (Nat.le_of_ble_eq_true rfl) ?_)
  refine ⟨hsub (.cons _ (.refl _)), ?_⟩
  refine H_done (by kernel_rfl) ?_
  refine C_seq ?_
  refine C_seq ?_
  refine C_region ?_
  refine L_y rfl (y_move rfl) rfl ?_
  refine L_y rfl (y_eqi rfl rfl) rfl ?_
  refine L_y rfl (y_move rfl) rfl ?_
  refine L_y rfl (y_move rfl) rfl ?_
  refine L_y rfl (y_geq rfl rfl) rfl ?_
  refine L_y rfl (y_pick_t rfl rfl) rfl ?_
  refine L_y rfl (y_move rfl) rfl ?_
  refine L_y rfl (y_move rfl) rfl ?_
  refine L_y rfl (y_lss rfl rfl) rfl ?_
  refine L_y rfl (y_pick_t rfl rfl) rfl ?_
  refine L_nil ?_
  refine C_cond_t rfl ?_
  refine C_region ?_
  refine L_y rfl (y_move rfl) rfl ?_
  refine L_y rfl (y_indexA rfl rfl Try.underlying162 sz_161 (by omega) (by omega) (show _ = 0 from rfl)) rfl ?_
  refine L_y rfl (y_load rfl ag_161 (sees 0 0 rfl) rfl) rfl ?_
  refine L_y rfl (y_nilCheck rfl) rfl ?_
  refine L_y rfl (y_load rfl ag_3 (sees 3 0 rfl) rfl) rfl ?_
  refine L_y rfl (y_add rfl rfl (wi64 (by omega) (by omega))) rfl ?_
  refine L_y rfl (y_nilCheck rfl) rfl ?_
  refine L_op rfl (op_store1 3 0 rfl rfl rfl sz_3 rfl (Nat.le_of_ble_eq_true rfl) ?_)
  refine L_nil ?_
  refine C_seq ?_
  refine C_region ?_
  refine L_y rfl (y_move rfl) rfl ?_
  refine L_y rfl (y_assign rfl) rfl ?_
  refine L_y rfl (y_assign rfl) rfl ?_
  refine L_nil ?_
  refine C_ret ?_
  refine B_ret (rv_tmp rfl (rv_tmp rfl rv_nil)) ((hsub (.cons_cons _ (.cons_cons _ (.cons_cons _ (.cons _ (.refl _)))))).trans (hsub_pick [3, 1, 1] rfl)) ?_
  exact ⟨rfl, D1, h1, rfl⟩

theorem step_1_0 {w0 : World} {H : Hp} {D : Duo} {A : Da} {bp : Nat} {m : Mi} (h : Two dt D A m.bx m.bys bp) {p : Int → Sec → Bool} {wb : Nat} {nx : Nat} {r : Rp} (hG : GoodAt Try.prog w0 H m.gv p) (hQ : ∀ i, (A.dev i).Q.length < 99990) (hr : 0 ≤ r.1 ∧ r.1 ≤ 5000 ∧ 0 ≤ r.2.1 ∧ r.2.1 ≤ 5000 ∧ 0 ≤ r.2.2 ∧ r.2.2 ≤ 5000) (hn : nx < m.n) (hm : m.n ≤ 4096) (hR : healR m A p nx = (1, 0)) : FnS Try.prog w0 80 #[ptr wb] ([(wb, .cells (wcells m.b (nx : Int) r).toArray 160)] :: m.seg 110 :: D.seg dt :: H) (fun e H' => e = .returned (.tuple #[.int .i64 (nx : Int), .bool true]) ∧ ∃ D', Two dt D' (healA m A p nx) m.bx m.bys bp ∧ H' = [(wb, .cells (wcells m.b ((nx + 1 : Nat) : Int) (r.1, r.2.1 + 1, r.2.2)).toArray 160)] :: (healM m A p nx).seg 110 :: D'.seg dt :: H) := by
  refine FnS_intro (n := 80) (rs := [.tmp 2, .tmp 3]) (vs := [ptr wb]) Try.func80 rfl Try.ntmps80 rfl rfl ?_
  refine C_seq ?_
  refine C_region ?_
  refine L_y rfl (y_assign rfl) rfl ?_
  refine L_y rfl (y_assign rfl) rfl ?_
  refine L_nil ?_
  refine C_seq ?_
  refine C_seq ?_
  refine C_regionH0 (by kernel_rfl) ?_
  refine H_y 0 rfl (by kernel_rfl) (by kernel_rfl) (by kernel_rfl) (HSub.refl _) rfl (y_move rfl) rfl ?_
  refine H_y 1 rfl (by kernel_rfl) (by kernel_rfl) (by kernel_rfl) (HSub.refl _) rfl (y_eqp rfl rfl Try.underlying140) rfl ?_
  refine H_y 2 rfl (by kernel_rfl) (by kernel_rfl) (by kernel_rfl) (HSub.refl _) rfl (y_move rfl) rfl ?_
  refine H_y 3 rfl (by kernel_rfl) (by kernel_rfl) (by kernel_rfl) (HSub.refl _) rfl (y_move rfl) rfl ?_
  refine H_y 4 rfl (by kernel_rfl) (by kernel_rfl) (by kernel_rfl) (HSub.refl _) rfl (y_nilCheck rfl) rfl ?_
  refine H_y 5 rfl (by kernel_rfl) (by kernel_rfl) (by kernel_rfl) (HSub.refl _) rfl (y_fieldAddr rfl fl_160_0) rfl ?_
  refine H_y 6 rfl (by kernel_rfl) (by kernel_rfl) (by kernel_rfl) (HSub.refl _) rfl (y_load rfl ag_26 (sees 0 0 rfl) rfl) rfl ?_
  refine H_y 7 rfl (by kernel_rfl) (by kernel_rfl) (by kernel_rfl) (HSub.refl _) rfl (y_eqp rfl rfl Try.underlying26) rfl ?_
  refine H_y 8 rfl (by kernel_rfl) (by kernel_rfl) (by kernel_rfl) (HSub.refl _) rfl (y_pick_f rfl rfl) rfl ?_
  refine H_y 9 rfl (by kernel_rfl) (by kernel_rfl) (by kernel_rfl) (HSub.refl _) rfl (y_move rfl) rfl ?_
  refine H_y 10 rfl (by kernel_rfl) (by kernel_rfl) (by kernel_rfl) (HSub.refl _) rfl (y_move rfl) rfl ?_
  refine H_y 11 rfl (by kernel_rfl) (by kernel_rfl) (by kernel_rfl) (HSub.refl _) rfl (y_nilCheck rfl) rfl ?_
  refine H_y 12 rfl (by kernel_rfl) (by kernel_rfl) (by kernel_rfl) (HSub.refl _) rfl (y_fieldAddr rfl fl_160_1) rfl ?_
  refine H_y 13 rfl (by kernel_rfl) (by kernel_rfl) (by kernel_rfl) (HSub.refl _) rfl (y_load rfl ag_3 (sees 0 0 rfl) rfl) rfl ?_
  refine H_y 14 rfl (by kernel_rfl) (by kernel_rfl) (by kernel_rfl) (HSub.refl _) rfl (y_move rfl) rfl ?_
  refine H_y 15 rfl (by kernel_rfl) (by kernel_rfl) (by kernel_rfl) (HSub.refl _) rfl (y_nilCheck rfl) rfl ?_
  refine H_y 16 rfl (by kernel_rfl) (by kernel_rfl) (by kernel_rfl) (HSub.refl _) rfl (y_fieldAddr rfl fl_160_0) rfl ?_
  refine H_y 17 rfl (by kernel_rfl) (by kernel_rfl) (by kernel_rfl) (HSub.refl _) rfl (y_load rfl ag_26 (sees 0 0 rfl) rfl) rfl ?_
  refine H_one 18 rfl (by kernel_rfl) rfl (op_call rfl rfl (fun a w => Try.call36 a w) rfl ?_)
  refine (len_m (sees 1 0 rfl)).mono ?_
  rintro _ _ ⟨rfl, e⟩
  obtain rfl := e.symm
  refine ⟨_, rfl, ?_⟩
  refine ⟨HSub.refl _, ?_⟩
  refine H_y 19 rfl (by kernel_rfl) (by kernel_rfl) (by kernel_rfl) (HSub.refl _) rfl (y_geq rfl rfl) rfl ?_
  refine H_y 20 rfl (by kernel_rfl) (by kernel_rfl) (by kernel_rfl) (HSub.refl _) rfl (y_pick_f rfl rfl) rfl ?_
  refine H_done (by kernel_rfl) ?_
  refine C_cond rfl (fun hc0 => absurd hc0 (by simp <;> omega)) (fun hc0 => ?_)
  refine C_skip ?_
  refine C_seq ?_
  refine C_region ?_
  refine L_y rfl (y_move rfl) rfl ?_
  refine L_y rfl (y_nilCheck rfl) rfl ?_
  refine L_y rfl (y_fieldAddr rfl fl_160_1) rfl ?_
  refine L_y rfl (y_load rfl ag_3 (sees 0 0 rfl) rfl) rfl ?_
  refine L_y rfl (y_assign rfl) rfl ?_
  refine L_nil ?_
  refine C_seq ?_
  refine C_region ?_
  refine L_y rfl (y_move rfl) rfl ?_
  refine L_y rfl (y_nilCheck rfl) rfl ?_
  refine L_y rfl (y_fieldAddr rfl fl_160_1) rfl ?_
  refine L_y rfl (y_load rfl ag_3 (sees 0 0 rfl) rfl) rfl ?_
  refine L_y rfl (y_add rfl rfl (show _ = ((nx + 1 : Nat) : Int) from by rw [wi64 (by omega) (by omega)]; omega)) rfl ?_
  refine L_y rfl (y_nilCheck rfl) rfl ?_
  refine L_y rfl (y_fieldAddr rfl fl_160_1) rfl ?_
  refine L_op rfl (op_store1 0 0 rfl rfl rfl sz_3 rfl (Nat.le_of_ble_eq_true rfl) ?_)
  refine L_nil ?_
  refine C_seq ?_
  refine C_region ?_
  refine L_y rfl (y_move rfl) rfl ?_
  refine L_y rfl (y_nilCheck rfl) rfl ?_
  refine L_y rfl (y_fieldAddr rfl fl_160_0) rfl ?_
  refine L_y rfl (y_load rfl ag_26 (sees 0 0 rfl) rfl) rfl ?_
  refine L_y rfl (y_move rfl) rfl ?_
  refine L_op rfl (op_call rfl rfl (fun a w => Try.call23 a w) rfl ?_)
  refine (FnS.sub (hsub_pick [1, 1] rfl) (heal_m h (hG.sub (HSub.drop _ _)) (nx : Int) hQ)).mono ?_
  rintro _ _ ⟨rfl, D1, h1, rfl⟩
  rw [hR]
  refine ⟨_, rfl, ?_⟩
  refine L_y rfl (y_move rfl) rfl ?_
  refine L_y rfl (y_extract rfl rfl) rfl ?_
  refine L_y rfl (y_extract rfl rfl) rfl ?_
  refine L_y rfl (y_assign rfl) rfl ?_
  refine L_y rfl (y_assign rfl) rfl ?_
  refine L_nil ?_
  refine C_seq ?_
  refine C_regionH0 (by kernel_rfl) ?_
  refine H_y 0 rfl (by kernel_rfl) (by kernel_rfl) (by kernel_rfl) (HSub.refl _) rfl (y_move rfl) rfl ?_
  refine H_y 1 rfl (by kernel_rfl) (by kernel_rfl) (by kernel_rfl) (HSub.refl _) rfl (y_nilCheck rfl) rfl ?_
  refine H_y 2 rfl (by kernel_rfl) (by kernel_rfl) (by kernel_rfl) (HSub.refl _) rfl (y_fieldAddr rfl fl_160_2) rfl ?_
  refine H_y 3 rfl (by kernel_rfl) (by kernel_rfl) (by kernel_rfl) (HSub.refl _) rfl (y_fieldAddr rfl fl_90_0) rfl ?_
  refine H_y 4 rfl (by kernel_rfl) (by kernel_rfl) (by kernel_rfl) (HSub.refl _) rfl (y_move rfl) rfl ?_
  refine H_y 5 rfl (by kernel_rfl) (by kernel_rfl) (by kernel_rfl) (HSub.refl _) rfl (y_nilCheck rfl) rfl ?_
  refine H_y 6 rfl (by kernel_rfl) (by kernel_rfl) (by kernel_rfl) (HSub.refl _) rfl (y_fieldAddr rfl fl_160_2) rfl ?_
  refine H_y 7 rfl (by kernel_rfl) (by kernel_rfl) (by kernel_rfl) (HSub.refl _) rfl (y_fieldAddr rfl fl_90_1) rfl ?_
  refine H_y 8 rfl (by kernel_rfl) (by kernel_rfl) (by kernel_rfl) (HSub.refl _) rfl (y_move rfl) rfl ?_
  refine H_y 9 rfl (by kernel_rfl) (by kernel_rfl) (by kernel_rfl) (HSub.refl _) rfl (y_nilCheck rfl) rfl ?_
  refine H_y 10 rfl (by kernel_rfl) (by kernel_rfl) (by kernel_rfl) (HSub.refl _) rfl (y_fieldAddr rfl fl_160_2) rfl ?_
  refine H_y 11 rfl (by kernel_rfl) (by kernel_rfl) (by kernel_rfl) (HSub.refl _) rfl (y_fieldAddr rfl fl_90_2) rfl ?_
  refine H_y 12 rfl (by kernel_rfl) (by kernel_rfl) (by kernel_rfl) (HSub.refl _) rfl (y_buildA (vs := [(0, _), (1, _), (2, _)]) (l := [.pointer (some ⟨wb, 2, none⟩), .pointer (some ⟨wb, 3, none⟩), .pointer (some ⟨wb, 4, none⟩)]) rfl Try.underlying162 sz_161 zl_162 (fill_cons (off := 0) (m := 1) (vs := [_]) rfl rfl rfl (Nat.le_of_ble_eq_true rfl) (fill_cons (off := 1) (m := 1) (vs := [_]) rfl rfl rfl (Nat.le_of_ble_eq_true rfl) (fill_cons (off := 2) (m := 1) (vs := [_]) rfl rfl rfl (Nat.le_of_ble_eq_true rfl) rfl)))) rfl ?_
  refine H_one 13 rfl (by kernel_rfl) rfl (op_alloc zl_162 rfl (fun B1 => ?_))
  refine ⟨hsub (.cons _ (.refl _)), ?_⟩
  refine H_one 14 rfl (by kernel_rfl) rfl (op_store (vs := [.pointer (some ⟨wb, 2, none⟩), .pointer (some ⟨wb, 3, none⟩), .pointer (some ⟨wb, 4, none⟩)]) 0 0 rfl rfl rfl sz_162 rfl rfl (ones rfl) (Nat.le_of_ble_eq_true rfl) ?_)
  refine ⟨hsub (.cons _ (.refl _)), ?_⟩
  refine H_done (by kernel_rfl) ?_
  refine C_seq ?_
  refine C_seq ?_
  refine C_region ?_
  refine L_y rfl (y_move rfl) rfl ?_
  refine L_y rfl (y_eqi rfl rfl) rfl ?_
  refine L_y rfl (y_move rfl) rfl ?_
  refine L_y rfl (y_move rfl) rfl ?_
  refine L_y rfl (y_geq rfl rfl) rfl ?_
  refine L_y rfl (y_pick_t rfl rfl) rfl ?_
  refine L_y rfl (y_move rfl) rfl ?_
  refine L_y rfl (y_move rfl) rfl ?_
  refine L_y rfl (y_lss rfl rfl) rfl ?_
  refine L_y rfl (y_pick_t rfl rfl) rfl ?_
  refine L_nil ?_
  refine C_cond_t rfl ?_
  refine C_region ?_
  refine L_y rfl (y_move rfl) rfl ?_
  refine L_y rfl (y_indexA rfl rfl Try.underlying162 sz_161 (by omega) (by omega) (show _ = 1 from rfl)) rfl ?_
  refine L_y rfl (y_load rfl ag_161 (sees 0 0 rfl) rfl) rfl ?_
  refine L_y rfl (y_nilCheck rfl) rfl ?_
  refine L_y rfl (y_load rfl ag_3 (sees 3 0 rfl) rfl) rfl ?_
  refine L_y rfl (y_add rfl rfl (wi64 (by omega) (by omega))) rfl ?_
  refine L_y rfl (y_nilCheck rfl) rfl ?_
  refine L_op rfl (op_store1 3 0 rfl rfl rfl sz_3 rfl (Nat.le_of_ble_eq_true rfl) ?_)
  refine L_nil ?_
  refine C_seq ?_
  refine C_region ?_
  refine L_y rfl (y_move rfl) rfl ?_
  refine L_y rfl (y_assign rfl) rfl ?_
  refine L_y rfl (y_assign rfl) rfl ?_
  refine L_nil ?_
  refine C_ret ?_
  refine B_ret (rv_tmp rfl (rv_tmp rfl rv_nil)) ((hsub (.cons_cons _ (.cons_cons _ (.cons_cons _ (.cons _ (.refl _)))))).trans (hsub_pick [3, 1, 1] rfl)) ?_
  exact ⟨rfl, D1, h1, rfl⟩

theorem step_2_0 {w0 : World} {H : Hp} {D : Duo} {A : Da} {bp : Nat} {m : Mi} (h : Two dt D A m.bx m.bys bp) {p : Int → Sec → Bool} {wb : Nat} {nx : Nat} {r : Rp} (hG : GoodAt Try.prog w0 H m.gv p) (hQ : ∀ i, (A.dev i).Q.length < 99990) (hr : 0 ≤ r.1 ∧ r.1 ≤ 5000 ∧ 0 ≤ r.2.1 ∧ r.2.1 ≤ 5000 ∧ 0 ≤ r.2.2 ∧ r.2.2 ≤ 5000) (hn : nx < m.n) (hm : m.n ≤ 4096) (hR : healR m A p nx = (2, 0)) : FnS Try.prog w0 80 #[ptr wb] ([(wb, .cells (wcells m.b (nx : Int) r).toArray 160)] :: m.seg 110 :: D.seg dt :: H) (fun e H' => e = .returned (.tuple #[.int .i64 (nx : Int), .bool true]) ∧ ∃ D', Two dt D' (healA m A p nx) m.bx m.bys bp ∧ H' = [(wb, .cells (wcells m.b ((nx + 1 : Nat) : Int) (r.1, r.2.1, r.2.2 + 1)).toArray 160)] :: (healM m A p nx).seg 110 :: D'.seg dt :: H) := by
  refine FnS_intro (n := 80) (rs := [.tmp 2, .tmp 3]) (vs := [ptr wb]) Try.func80 rfl Try.ntmps80 rfl rfl ?_
  refine C_seq ?_
  refine C_region ?_
  refine L_y rfl (y_assign rfl) rfl ?_
  refine L_y rfl (y_assign rfl) rfl ?_
  refine L_nil ?_
  refine C_seq ?_
  refine C_seq ?_
  refine C_regionH0 (by kernel_rfl) ?_
  refine H_y 0 rfl (by kernel_rfl) (by kernel_rfl) (by kernel_rfl) (HSub.refl _) rfl (y_move rfl) rfl ?_
  refine H_y 1 rfl (by kernel_rfl) (by kernel_rfl) (by kernel_rfl) (HSub.refl _) rfl (y_eqp rfl rfl Try.underlying140) rfl ?_
  refine H_y 2 rfl (by kernel_rfl) (by kernel_rfl) (by kernel_rfl) (HSub.refl _) rfl (y_move rfl) rfl ?_
  refine H_y 3 rfl (by kernel_rfl) (by kernel_rfl) (by kernel_rfl) (HSub.refl _) rfl (y_move rfl) rfl ?_
  refine H_y 4 rfl (by kernel_rfl) (by kernel_rfl) (by kernel_rfl) (HSub.refl _) rfl (y_nilCheck rfl) rfl ?_
  refine H_y 5 rfl (by kernel_rfl) (by kernel_rfl) (by kernel_rfl) (HSub.refl _) rfl (y_fieldAddr rfl fl_160_0) rfl ?_
  refine H_y 6 rfl (by kernel_rfl) (by kernel_rfl) (by kernel_rfl) (HSub.refl _) rfl (y_load rfl ag_26 (sees 0 0 rfl) rfl) rfl ?_
  refine H_y 7 rfl (by kernel_rfl) (by kernel_rfl) (by kernel_rfl) (HSub.refl _) rfl (y_eqp rfl rfl Try.underlying26) rfl ?_
  refine H_y 8 rfl (by kernel_rfl) (by kernel_rfl) (by kernel_rfl) (HSub.refl _) rfl (y_pick_f rfl rfl) rfl ?_
  refine H_y 9 rfl (by kernel_rfl) (by kernel_rfl) (by kernel_rfl) (HSub.refl _) rfl (y_move rfl) rfl ?_
  refine H_y 10 rfl (by kernel_rfl) (by kernel_rfl) (by kernel_rfl) (HSub.refl _) rfl (y_move rfl) rfl ?_
  refine H_y 11 rfl (by kernel_rfl) (by kernel_rfl) (by kernel_rfl) (HSub.refl _) rfl (y_nilCheck rfl) rfl ?_
  refine H_y 12 rfl (by kernel_rfl) (by kernel_rfl) (by kernel_rfl) (HSub.refl _) rfl (y_fieldAddr rfl fl_160_1) rfl ?_
  refine H_y 13 rfl (by kernel_rfl) (by kernel_rfl) (by kernel_rfl) (HSub.refl _) rfl (y_load rfl ag_3 (sees 0 0 rfl) rfl) rfl ?_
  refine H_y 14 rfl (by kernel_rfl) (by kernel_rfl) (by kernel_rfl) (HSub.refl _) rfl (y_move rfl) rfl ?_
  refine H_y 15 rfl (by kernel_rfl) (by kernel_rfl) (by kernel_rfl) (HSub.refl _) rfl (y_nilCheck rfl) rfl ?_
  refine H_y 16 rfl (by kernel_rfl) (by kernel_rfl) (by kernel_rfl) (HSub.refl _) rfl (y_fieldAddr rfl fl_160_0) rfl ?_
  refine H_y 17 rfl (by kernel_rfl) (by kernel_rfl) (by kernel_rfl) (HSub.refl _) rfl (y_load rfl ag_26 (sees 0 0 rfl) rfl) rfl ?_
  refine H_one 18 rfl (by kernel_rfl) rfl (op_call rfl rfl (fun a w => Try.call36 a w) rfl ?_)
  refine (len_m (sees 1 0 rfl)).mono ?_
  rintro _ _ ⟨rfl, e⟩
  obtain rfl := e.symm
  refine ⟨_, rfl, ?_⟩
  refine ⟨HSub.refl _, ?_⟩
  refine H_y 19 rfl (by kernel_rfl) (by kernel_rfl) (by kernel_rfl) (HSub.refl _) rfl (y_geq rfl rfl) rfl ?_
  refine H_y 20 rfl (by kernel_rfl) (by kernel_rfl) (by kernel_rfl) (HSub.refl _) rfl (y_pick_f rfl rfl) rfl ?_
  refine H_done (by kernel_rfl) ?_
  refine C_cond rfl (fun hc0 => absurd hc0 (by simp <;> omega)) (fun hc0 => ?_)
  refine C_skip ?_
  refine C_seq ?_
  refine C_region ?_
  refine L_y rfl (y_move rfl) rfl ?_
  refine L_y rfl (y_nilCheck rfl) rfl ?_
  refine L_y rfl (y_fieldAddr rfl fl_160_1) rfl ?_
  refine L_y rfl (y_load rfl ag_3 (sees 0 0 rfl) rfl) rfl ?_
  refine L_y rfl (y_assign rfl) rfl ?_
  refine L_nil ?_
  refine C_seq ?_
  refine C_region ?_
  refine L_y rfl (y_move rfl) rfl ?_
  refine L_y rfl (y_nilCheck rfl) rfl ?_
  refine L_y rfl (y_fieldAddr rfl fl_160_1) rfl ?_
  refine L_y rfl (y_load rfl ag_3 (sees 0 0 rfl) rfl) rfl ?_
  refine L_y rfl (y_add rfl rfl (show _ = ((nx + 1 : Nat) : Int) from by rw [wi64 (by omega) (by omega)]; omega)) rfl ?_
  refine L_y rfl (y_nilCheck rfl) rfl ?_
  refine L_y rfl (y_fieldAddr rfl fl_160_1) rfl ?_
  refine L_op rfl (op_store1 0 0 rfl rfl rfl sz_3 rfl (Nat.le_of_ble_eq_true rfl) ?_)
  refine L_nil ?_
  refine C_seq ?_
  refine C_region ?_
  refine L_y rfl (y_move rfl) rfl ?_
  refine L_y rfl (y_nilCheck rfl) rfl ?_
  refine L_y rfl (y_fieldAddr rfl fl_160_0) rfl ?_
  refine L_y rfl (y_load rfl ag_26 (sees 0 0 rfl) rfl) rfl ?_
  refine L_y rfl (y_move rfl) rfl ?_
  refine L_op rfl (op_call rfl rfl (fun a w => Try.call23 a w) rfl ?_)
  refine (FnS.sub (hsub_pick [1, 1] rfl) (heal_m h (hG.sub (HSub.drop _ _)) (nx : Int) hQ)).mono ?_
  rintro _ _ ⟨rfl, D1, h1, rfl⟩
  rw [hR]
  refine ⟨_, rfl, ?_⟩
  refine L_y rfl (y_move rfl) rfl ?_
  refine L_y rfl (y_extract rfl rfl) rfl ?_
  refine L_y rfl (y_extract rfl rfl) rfl ?_
  refine L_y rfl (y_assign rfl) rfl ?_
  refine L_y rfl (y_assign rfl) rfl ?_
  refine L_nil ?_
  refine C_seq ?_
  refine C_regionH0 (by kernel_rfl) ?_
  refine H_y 0 rfl (by kernel_rfl) (by kernel_rfl) (by kernel_rfl) (HSub.refl _) rfl (y_move rfl) rfl ?_
  refine H_y 1 rfl (by kernel_rfl) (by kernel_rfl) (by kernel_rfl) (HSub.refl _) rfl (y_nilCheck rfl) rfl ?_
  refine H_y 2 rfl (by kernel_rfl) (by kernel_rfl) (by kernel_rfl) (HSub.refl _) rfl (y_fieldAddr rfl fl_160_2) rfl ?_
  refine H_y 3 rfl (by kernel_rfl) (by kernel_rfl) (by kernel_rfl) (HSub.refl _) rfl (y_fieldAddr rfl fl_90_0) rfl ?_
  refine H_y 4 rfl (by kernel_rfl) (by kernel_rfl) (by kernel_rfl) (HSub.refl _) rfl (y_move rfl) rfl ?_
  refine H_y 5 rfl (by kernel_rfl) (by kernel_rfl) (by kernel_rfl) (HSub.refl _) rfl (y_nilCheck rfl) rfl ?_
  refine H_y 6 rfl (by kernel_rfl) (by kernel_rfl) (by kernel_rfl) (HSub.refl _) rfl (y_fieldAddr rfl fl_160_2) rfl ?_
  refine H_y 7 rfl (by kernel_rfl) (by kernel_rfl) (by kernel_rfl) (HSub.refl _) rfl (y_fieldAddr rfl fl_90_1) rfl ?_
  refine H_y 8 rfl (by kernel_rfl) (by kernel_rfl) (by kernel_rfl) (HSub.refl _) rfl (y_move rfl) rfl ?_
  refine H_y 9 rfl (by kernel_rfl) (by kernel_rfl) (by kernel_rfl) (HSub.refl _) rfl (y_nilCheck rfl) rfl ?_
  refine H_y 10 rfl (by kernel_rfl) (by kernel_rfl) (by kernel_rfl) (HSub.refl _) rfl (y_fieldAddr rfl fl_160_2) rfl ?_
  refine H_y 11 rfl (by kernel_rfl) (by kernel_rfl) (by kernel_rfl) (HSub.refl _) rfl (y_fieldAddr rfl fl_90_2) rfl ?_
  refine H_y 12 rfl (by kernel_rfl) (by kernel_rfl) (by kernel_rfl) (HSub.refl _) rfl (y_buildA (vs := [(0, _), (1, _), (2, _)]) (l := [.pointer (some ⟨wb, 2, none⟩), .pointer (some ⟨wb, 3, none⟩), .pointer (some ⟨wb, 4, none⟩)]) rfl Try.underlying162 sz_161 zl_162 (fill_cons (off := 0) (m := 1) (vs := [_]) rfl rfl rfl (Nat.le_of_ble_eq_true rfl) (fill_cons (off := 1) (m := 1) (vs := [_]) rfl rfl rfl (Nat.le_of_ble_eq_true rfl) (fill_cons (off := 2) (m := 1) (vs := [_]) rfl rfl rfl (Nat.le_of_ble_eq_true rfl) rfl)))) rfl ?_
  refine H_one 13 rfl (by kernel_rfl) rfl (op_alloc zl_162 rfl (fun B1 => ?_))
  refine ⟨hsub (.cons _ (.refl _)), ?_⟩
  refine H_one 14 rfl (by kernel_rfl) rfl (op_store (vs := [.pointer (some ⟨wb, 2, none⟩), .pointer (some ⟨wb, 3, none⟩), .pointer (some ⟨wb, 4, none⟩)]) 0 0 rfl rfl rfl sz_162 rfl rfl (ones rfl) (Nat.le_of_ble_eq_true rfl) ?_)
  refine ⟨hsub (.cons _ (.refl _)), ?_⟩
  refine H_done (by kernel_rfl) ?_
  refine C_seq ?_
  refine C_seq ?_
  refine C_region ?_
  refine L_y rfl (y_move rfl) rfl ?_
  refine L_y rfl (y_eqi rfl rfl) rfl ?_
  refine L_y rfl (y_move rfl) rfl ?_
  refine L_y rfl (y_move rfl) rfl ?_
  refine L_y rfl (y_geq rfl rfl) rfl ?_
  refine L_y rfl (y_pick_t rfl rfl) rfl ?_
  refine L_y rfl (y_move rfl) rfl ?_
  refine L_y rfl (y_move rfl) rfl ?_
  refine L_y rfl (y_lss rfl rfl) rfl ?_
  refine L_y rfl (y_pick_t rfl rfl) rfl ?_
  refine L_nil ?_
  refine C_cond_t rfl ?_
  refine C_region ?_
  refine L_y rfl (y_move rfl) rfl ?_
  refine L_y rfl (y_indexA rfl rfl Try.underlying162 sz_161 (by omega) (by omega) (show _ = 2 from rfl)) rfl ?_
  refine L_y rfl (y_load rfl ag_161 (sees 0 0 rfl) rfl) rfl ?_
  refine L_y rfl (y_nilCheck rfl) rfl ?_
  refine L_y rfl (y_load rfl ag_3 (sees 3 0 rfl) rfl) rfl ?_
  refine L_y rfl (y_add rfl rfl (wi64 (by omega) (by omega))) rfl ?_
  refine L_y rfl (y_nilCheck rfl) rfl ?_
  refine L_op rfl (op_store1 3 0 rfl rfl rfl sz_3 rfl (Nat.le_of_ble_eq_true rfl) ?_)
  refine L_nil ?_
  refine C_seq ?_
  refine C_region ?_
  refine L_y rfl (y_move rfl) rfl ?_
  refine L_y rfl (y_assign rfl) rfl ?_
  refine L_y rfl (y_assign rfl) rfl ?_
  refine L_nil ?_
  refine C_ret ?_
  refine B_ret (rv_tmp rfl (rv_tmp rfl rv_nil)) ((hsub (.cons_cons _ (.cons_cons _ (.cons_cons _ (.cons _ (.refl _)))))).trans (hsub_pick [3, 1, 1] rfl)) ?_
  exact ⟨rfl, D1, h1, rfl⟩

theorem step_0_13 {w0 : World} {H : Hp} {D : Duo} {A : Da} {bp : Nat} {m : Mi} (h : Two dt D A m.bx m.bys bp) {p : Int → Sec → Bool} {wb : Nat} {nx : Nat} {r : Rp} (hG : GoodAt Try.prog w0 H m.gv p) (hQ : ∀ i, (A.dev i).Q.length < 99990) (hr : 0 ≤ r.1 ∧ r.1 ≤ 5000 ∧ 0 ≤ r.2.1 ∧ r.2.1 ≤ 5000 ∧ 0 ≤ r.2.2 ∧ r.2.2 ≤ 5000) (hn : nx < m.n) (hm : m.n ≤ 4096) (hR : healR m A p nx = (0, 13)) : FnS Try.prog w0 80 #[ptr wb] ([(wb, .cells (wcells m.b (nx : Int) r).toArray 160)] :: m.seg 110 :: D.seg dt :: H) (fun e H' => e = .returned (.tuple #[.int .i64 (nx : Int), .bool true]) ∧ ∃ D', Two dt D' (healA m A p nx) m.bx m.bys bp ∧ H' = [(wb, .cells (wcells m.b ((nx + 1 : Nat) : Int) r).toArray 160)] :: (healM m A p nx).seg 110 :: D'.seg dt :: H) := by
  refine FnS_intro (n := 80) (rs := [.tmp 2, .tmp 3]) (vs := [ptr wb]) Try.func80 rfl Try.ntmps80 rfl rfl ?_
  refine C_seq ?_
  refine C_region ?_
  refine L_y rfl (y_assign rfl) rfl ?_
  refine L_y rfl (y_assign rfl) rfl ?_
  refine L_nil ?_
  refine C_seq ?_
  refine C_seq ?_
  refine C_regionH0 (by kernel_rfl) ?_
  refine H_y 0 rfl (by kernel_rfl) (by kernel_rfl) (by kernel_rfl) (HSub.refl _) rfl (y_move rfl) rfl ?_
  refine H_y 1 rfl (by kernel_rfl) (by kernel_rfl) (by kernel_rfl) (HSub.refl _) rfl (y_eqp rfl rfl Try.underlying140) rfl ?_
  refine H_y 2 rfl (by kernel_rfl) (by kernel_rfl) (by kernel_rfl) (HSub.refl _) rfl (y_move rfl) rfl ?_
  refine H_y 3 rfl (by kernel_rfl) (by kernel_rfl) (by kernel_rfl) (HSub.refl _) rfl (y_move rfl) rfl ?_
  refine H_y 4 rfl (by kernel_rfl) (by kernel_rfl) (by kernel_rfl) (HSub.refl _) rfl (y_nilCheck rfl) rfl ?_
  refine H_y 5 rfl (by kernel_rfl) (by kernel_rfl) (by kernel_rfl) (HSub.refl _) rfl (y_fieldAddr rfl fl_160_0) rfl ?_
  refine H_y 6 rfl (by kernel_rfl) (by kernel_rfl) (by kernel_rfl) (HSub.refl _) rfl (y_load rfl ag_26 (sees 0 0 rfl) rfl) rfl ?_
  refine H_y 7 rfl (by kernel_rfl) (by kernel_rfl) (by kernel_rfl) (HSub.refl _) rfl (y_eqp rfl rfl Try.underlying26) rfl ?_
  refine H_y 8 rfl (by kernel_rfl) (by kernel_rfl) (by kernel_rfl) (HSub.refl _) rfl (y_pick_f rfl rfl) rfl ?_
  refine H_y 9 rfl (by kernel_rfl) (by kernel_rfl) (by kernel_rfl) (HSub.refl _) rfl (y_move rfl) rfl ?_
  refine H_y 10 rfl (by kernel_rfl) (by kernel_rfl) (by kernel_rfl) (HSub.refl _) rfl (y_move rfl) rfl ?_
  refine H_y 11 rfl (by kernel_rfl) (by kernel_rfl) (by kernel_rfl) (HSub.refl _) rfl (y_nilCheck rfl) rfl ?_
  refine H_y 12 rfl (by kernel_rfl) (by kernel_rfl) (by kernel_rfl) (HSub.refl _) rfl (y_fieldAddr rfl fl_160_1) rfl ?_
  refine H_y 13 rfl (by kernel_rfl) (by kernel_rfl) (by kernel_rfl) (HSub.refl _) rfl (y_load rfl ag_3 (sees 0 0 rfl) rfl) rfl ?_
  refine H_y 14 rfl (by kernel_rfl) (by kernel_rfl) (by kernel_rfl) (HSub.refl _) rfl (y_move rfl) rfl ?_
  refine H_y 15 rfl (by kernel_rfl) (by kernel_rfl) (by kernel_rfl) (HSub.refl _) rfl (y_nilCheck rfl) rfl ?_
  refine H_y 16 rfl (by kernel_rfl) (by kernel_rfl) (by kernel_rfl) (HSub.refl _) rfl (y_fieldAddr rfl fl_160_0) rfl ?_
  refine H_y 17 rfl (by kernel_rfl) (by kernel_rfl) (by kernel_rfl) (HSub.refl _) rfl (y_load rfl ag_26 (sees 0 0 rfl) rfl) rfl ?_
  refine H_one 18 rfl (by kernel_rfl) rfl (op_call rfl rfl (fun a w => Try.call36 a w) rfl ?_)
  refine (len_m (sees 1 0 rfl)).mono ?_
  rintro _ _ ⟨rfl, e⟩
  obtain rfl := e.symm
  refine ⟨_, rfl, ?_⟩
  refine ⟨HSub.refl _, ?_⟩
  refine H_y 19 rfl (by kernel_rfl) (by kernel_rfl) (by kernel_rfl) (HSub.refl _) rfl (y_geq rfl rfl) rfl ?_
  refine H_y 20 rfl (by kernel_rfl) (by kernel_rfl) (by kernel_rfl) (HSub.refl _) rfl (y_pick_f rfl rfl) rfl ?_
  refine H_done (by kernel_rfl) ?_
  refine C_cond rfl (fun hc0 => absurd hc0 (by simp <;> omega)) (fun hc0 => ?_)
  refine C_skip ?_
  refine C_seq ?_
  refine C_region ?_
  refine L_y rfl (y_move rfl) rfl ?_
  refine L_y rfl (y_nilCheck rfl) rfl ?_
  refine L_y rfl (y_fieldAddr rfl fl_160_1) rfl ?_
  refine L_y rfl (y_load rfl ag_3 (sees 0 0 rfl) rfl) rfl ?_
  refine L_y rfl (y_assign rfl) rfl ?_
  refine L_nil ?_
  refine C_seq ?_
  refine C_region ?_
  refine L_y rfl (y_move rfl) rfl ?_
  refine L_y rfl (y_nilCheck rfl) rfl ?_
  refine L_y rfl (y_fieldAddr rfl fl_160_1) rfl ?_
  refine L_y rfl (y_load rfl ag_3 (sees 0 0 rfl) rfl) rfl ?_
  refine L_y rfl (y_add rfl rfl (show _ = ((nx + 1 : Nat) : Int) from by rw [wi64 (by omega) (by omega)]; omega)) rfl ?_
  refine L_y rfl (y_nilCheck rfl) rfl ?_
  refine L_y rfl (y_fieldAddr rfl fl_160_1) rfl ?_
  refine L_op rfl (op_store1 0 0 rfl rfl rfl sz_3 rfl (Nat.le_of_ble_eq_true rfl) ?_)
  refine L_nil ?_
  refine C_seq ?_
  refine C_region ?_
  refine L_y rfl (y_move rfl) rfl ?_
  refine L_y rfl (y_nilCheck rfl) rfl ?_
  refine L_y rfl (y_fieldAddr rfl fl_160_0) rfl ?_
  refine L_y rfl (y_load rfl ag_26 (sees 0 0 rfl) rfl) rfl ?_
  refine L_y rfl (y_move rfl) rfl ?_
  refine L_op rfl (op_call rfl rfl (fun a w => Try.call23 a w) rfl ?_)
  refine (FnS.sub (hsub_pick [1, 1] rfl) (heal_m h (hG.sub (HSub.drop _ _)) (nx : Int) hQ)).mono ?_
  rintro _ _ ⟨rfl, D1, h1, rfl⟩
  rw [hR]
  refine ⟨_, rfl, ?_⟩
  refine L_y rfl (y_move rfl) rfl ?_
  refine L_y rfl (y_extract rfl rfl) rfl ?_
  refine L_y rfl (y_extract rfl rfl) rfl ?_
  refine L_y rfl (y_assign rfl) rfl ?_
  refine L_y rfl (y_assign rfl) rfl ?_
  refine L_nil ?_
  refine C_seq ?_
  refine C_regionH0 (by kernel_rfl) ?_
  refine H_y 0 rfl (by kernel_rfl) (by kernel_rfl) (by kernel_rfl) (HSub.refl _) rfl (y_move rfl) rfl ?_
  refine H_y 1 rfl (by kernel_rfl) (by kernel_rfl) (by kernel_rfl) (HSub.refl _) rfl (y_nilCheck rfl) rfl ?_
  refine H_y 2 rfl (by kernel_rfl) (by kernel_rfl) (by kernel_rfl) (HSub.refl _) rfl (y_fieldAddr rfl fl_160_2) rfl ?_
  refine H_y 3 rfl (by kernel_rfl) (by kernel_rfl) (by kernel_rfl) (HSub.refl _) rfl (y_fieldAddr rfl fl_90_0) rfl ?_
  refine H_y 4 rfl (by kernel_rfl) (by kernel_rfl) (by kernel_rfl) (HSub.refl _) rfl (y_move rfl) rfl ?_
  refine H_y 5 rfl (by kernel_rfl) (by kernel_rfl) (by kernel_rfl) (HSub.refl _) rfl (y_nilCheck rfl) rfl ?_
  refine H_y 6 rfl (by kernel_rfl) (by kernel_rfl) (by kernel_rfl) (HSub.refl _) rfl (y_fieldAddr rfl fl_160_2) rfl ?_
  refine H_y 7 rfl (by kernel_rfl) (by kernel_rfl) (by kernel_rfl) (HSub.refl _) rfl (y_fieldAddr rfl fl_90_1) rfl ?_
  refine H_y 8 rfl (by kernel_rfl) (by kernel_rfl) (by kernel_rfl) (HSub.refl _) rfl (y_move rfl) rfl ?_
  refine H_y 9 rfl (by kernel_rfl) (by kernel_rfl) (by kernel_rfl) (HSub.refl _) rfl (y_nilCheck rfl) rfl ?_
  refine H_y 10 rfl (by kernel_rfl) (by kernel_rfl) (by kernel_rfl) (HSub.refl _) rfl (y_fieldAddr rfl fl_160_2) rfl ?_
  refine H_y 11 rfl (by kernel_rfl) (by kernel_rfl) (by kernel_rfl) (HSub.refl _) rfl (y_fieldAddr rfl fl_90_2) rfl ?_
  refine H_y 12 rfl (by kernel_rfl) (by kernel_rfl) (by kernel_rfl) (HSub.refl _) rfl (y_buildA (vs := [(0, _), (1, _), (2, _)]) (l := [.pointer (some ⟨wb, 2, none⟩), .pointer (some ⟨wb, 3, none⟩), .pointer (some ⟨wb, 4, none⟩)]) rfl Try.underlying162 sz_161 zl_162 (fill_cons (off := 0) (m := 1) (vs := [_]) rfl rfl rfl (Nat.le_of_ble_eq_true rfl) (fill_cons (off := 1) (m := 1) (vs := [_]) rfl rfl rfl (Nat.le_of_ble_eq_true rfl) (fill_cons (off := 2) (m := 1) (vs := [_]) rfl rfl rfl (Nat.le_of_ble_eq_true rfl) rfl)))) rfl ?_
  refine H_one 13 rfl (by kernel_rfl) rfl (op_alloc zl_162 rfl (fun B1 => ?_))
  refine ⟨hsub (.cons _ (.refl _)), ?_⟩
  refine H_one 14 rfl (by kernel_rfl) rfl (op_store (vs := [.pointer (some ⟨wb, 2, none⟩), .pointer (some ⟨wb, 3, none⟩), .pointer (some ⟨wb, 4, none⟩)]) 0 0 rfl rfl rfl sz_162 rfl rfl (ones rfl) (Nat.le_of_ble_eq_true rfl) ?_)
  refine ⟨hsub (.cons _ (.refl _)), ?_⟩
  refine H_done (by kernel_rfl) ?_
  refine C_seq ?_
  refine C_seq ?_
  refine C_region ?_
  refine L_y rfl (y_move rfl) rfl ?_
  refine L_y rfl (y_eqi rfl rfl) rfl ?_
  refine L_y rfl (y_move rfl) rfl ?_
  refine L_skip rfl rfl ?_
  refine L_skip rfl rfl ?_
  refine L_y rfl (y_pick_f rfl rfl) rfl ?_
  refine L_y rfl (y_move rfl) rfl ?_
  refine L_skip rfl rfl ?_
  refine L_skip rfl rfl ?_
  refine L_y rfl (y_pick_f rfl rfl) rfl ?_
  refine L_nil ?_
  refine C_cond_f rfl ?_
  refine C_skip ?_
  refine C_seq ?_
  refine C_region ?_
  refine L_y rfl (y_move rfl) rfl ?_
  refine L_y rfl (y_assign rfl) rfl ?_
  refine L_y rfl (y_assign rfl) rfl ?_
  refine L_nil ?_
  refine C_ret ?_
  refine B_ret (rv_tmp rfl (rv_tmp rfl rv_nil)) ((hsub (.cons_cons _ (.cons_cons _ (.cons_cons _ (.cons _ (.refl _)))))).trans (hsub_pick [3, 1, 1] rfl)) ?_
  exact ⟨rfl, D1, h1, rfl⟩

theorem step_m {w0 : World} {H : Hp} {D : Duo} {A : Da} {bp : Nat} {m : Mi} (h : Two dt D A m.bx m.bys bp) {p : Int → Sec → Bool} {wb : Nat} {nx : Nat} {r : Rp} (hG : GoodAt Try.prog w0 H m.gv p) (hQ : ∀ i, (A.dev i).Q.length < 99990) (hr : 0 ≤ r.1 ∧ r.1 ≤ 5000 ∧ 0 ≤ r.2.1 ∧ r.2.1 ≤ 5000 ∧ 0 ≤ r.2.2 ∧ r.2.2 ≤ 5000) (hn : nx < m.n) (hm : m.n ≤ 4096) : FnS Try.prog w0 80 #[ptr wb] ([(wb, .cells (wcells m.b (nx : Int) r).toArray 160)] :: m.seg 110 :: D.seg dt :: H) (fun e H' => e = .returned (.tuple #[.int .i64 (nx : Int), .bool true]) ∧ ∃ D', Two dt D' (healA m A p nx) m.bx m.bys bp ∧ H' = [(wb, .cells (wcells m.b ((nx + 1 : Nat) : Int) (cnt r (healR m A p nx))).toArray 160)] :: (healM m A p nx).seg 110 :: D'.seg dt :: H) := by
  have hh : m.has (nx : Int) = true := by simp [Mi.has, hn]
  rcases healR_is m A p nx hh with hR | hR | hR | hR
  · rw [hR]; exact step_0_0 h hG hQ hr hn hm hR
  · rw [hR]; exact step_1_0 h hG hQ hr hn hm hR
  · rw [hR]; exact step_2_0 h hG hQ hr hn hm hR
  · rw [hR]; exact step_0_13 h hG hQ hr hn hm hR

end Go.Proofs.Ytjjiclgbdenkkaa

/- walks (own work; the walks' lines by a program of this repo). -/
set_option linter.unusedVariables false
set_option linter.unusedSimpArgs false
set_option maxRecDepth 20000
namespace Go.Proofs.Ytjjiclgbdenkkaa
open Go.Sl
attribute [local irreducible] BodyQ WpC WpL WpS WpH OpW FnS


theorem step_k {w0 : World} {H : Hp} {D : Duo} {A : Da} {bp : Nat} {m : Mi} {p : Int → Sec → Bool} {wb k : Nat} (hG : GoodAt Try.prog w0 H m.gv p) (hQ : ∀ i, (A.dev i).Q.length ≤ 50000) (hm : m.n ≤ 4096) (hk : k ≤ m.n) (hT : Two dt D (scr m A p k).1 m.bx m.bys bp) :
    FnS Try.prog w0 80 #[ptr wb] ([(wb, .cells (wcells m.b ((k : Nat) : Int) (scr m A p k).2.2).toArray 160)] :: (scr m A p k).2.1.seg 110 :: D.seg dt :: H) (fun e H' => e = .returned (.tuple #[.int .i64 (if k < m.n then (k : Int) else 0), .bool (decide (k < m.n))]) ∧ ∃ D' j, (j = if k < m.n then k + 1 else k) ∧ Two dt D' (scr m A p j).1 m.bx m.bys bp ∧ H' = [(wb, .cells (wcells m.b ((j : Nat) : Int) (scr m A p j).2.2).toArray 160)] :: (scr m A p j).2.1.seg 110 :: D'.seg dt :: H) := by
  obtain ⟨s1, s2, s3, s4, s5⟩ := scr_same m A p k
  have hct := scr_cnt m A p k
  have hT2 : Two dt D (scr m A p k).1 (scr m A p k).2.1.bx (scr m A p k).2.1.bys bp := by rw [s2, s3]; exact hT
  have hG2 : GoodAt Try.prog w0 H (scr m A p k).2.1.gv p := by rw [s5]; exact hG
  have hQ2 : ∀ i, ((scr m A p k).1.dev i).Q.length < 99990 := fun i => by have := scr_many m A p i k; have := hQ i; omega
  have hr : 0 ≤ (scr m A p k).2.2.1 ∧ (scr m A p k).2.2.1 ≤ 5000 ∧ 0 ≤ (scr m A p k).2.2.2.1 ∧ (scr m A p k).2.2.2.1 ≤ 5000 ∧ 0 ≤ (scr m A p k).2.2.2.2 ∧ (scr m A p k).2.2.2.2 ≤ 5000 := by omega
  rw [← s1]
  by_cases hlt : k < m.n
  · refine (step_m hT2 hG2 hQ2 hr (by rw [s4]; exact hlt) (by rw [s4]; exact hm)).mono ?_
    rintro _ _ ⟨rfl, D1, h1, rfl⟩
    rw [s2, s3] at h1
    exact ⟨by simp [hlt], D1, k + 1, by simp [hlt], h1, rfl⟩
  · refine (step_end hT2 hG2 hQ2 hr (by rw [s4]; exact hlt)).mono ?_
    rintro _ _ ⟨rfl, rfl⟩
    exact ⟨by simp [hlt], D, k, by simp [hlt], hT, rfl⟩

theorem sall_m {w0 : World} {H : Hp} {D : Duo} {A : Da} {bp : Nat} {m : Mi} (h : Two dt D A m.bx m.bys bp) {p : Int → Sec → Bool} (hG : GoodAt Try.prog w0 H m.gv p) (hQ : ∀ i, (A.dev i).Q.length ≤ 50000) (hm : m.n ≤ 4096) : FnS Try.prog w0 46 #[ptr m.b] (m.seg 110 :: D.seg dt :: H) (fun e H' => e = .returned (.agg [Value.int .i64 (scr m A p m.n).2.2.1, .int .i64 (scr m A p m.n).2.2.2.1, .int .i64 (scr m A p m.n).2.2.2.2].toArray) ∧ ∃ D', Two dt D' (scr m A p m.n).1 m.bx m.bys bp ∧ H' = (scr m A p m.n).2.1.seg 110 :: D'.seg dt :: H) := by
  refine FnS_intro (n := 15) (rs := [.cell 2 90]) (vs := [ptr m.b]) Try.func46 rfl Try.ntmps46 rfl rfl ?_
  refine C_seq ?_
  refine C_region ?_
  refine L_op rfl (op_alloc zl_90 rfl (fun B1 => ?_))
  refine L_nil ?_
  refine C_seq ?_
  refine C_region ?_
  refine L_y rfl (y_move rfl) rfl ?_
  refine L_op rfl (op_call rfl rfl (fun a w => Try.call79 a w) rfl ?_)
  refine snew_s.mono ?_
  rintro _ _ ⟨wb, rfl, rfl⟩
  refine ⟨_, rfl, ?_⟩
  refine L_y rfl (y_assign rfl) rfl ?_
  refine L_nil ?_
  refine C_seq ?_
  refine C_seq ?_
  refine C_region ?_
  refine L_y rfl (y_assign rfl) rfl ?_
  refine L_nil ?_
  refine C_block ?_
  refine C_loop (ι := Duo × Nat × Bool) (fun i => [(4, .bool i.2.2), (3, ptr wb), (2, ptr B1)]) (fun i => [(wb, .cells (wcells m.b ((i.2.1 : Nat) : Int) (scr m A p i.2.1).2.2).toArray 160)] :: (scr m A p i.2.1).2.1.seg 110 :: i.1.seg dt :: [(B1, .cells [Value.int .i64 0, .int .i64 0, .int .i64 0].toArray 90)] :: H) (fun i => i.2.1 ≤ m.n ∧ Two dt i.1 (scr m A p i.2.1).1 m.bx m.bys bp ∧ (i.2.2 = false → i.2.1 = m.n)) (fun i => 2 * (m.n - i.2.1) + (if i.2.2 then 1 else 0)) (D, 0, true) ⟨Nat.zero_le _, h, fun e => by cases e⟩ ⟨rfl, rfl, rfl, trivial⟩ ((hsub (.cons_cons _ (.cons_cons _ (.cons_cons _ (.cons_cons _ (.refl _)))))).trans (hsub_pick [0, 1, 1, 0] rfl)) (fun i hi => ?_)
  obtain ⟨D, k, b⟩ := i
  obtain ⟨hk, hT, hb⟩ := hi
  simp only at hk hT hb
  dsimp only
  refine C_seq ?_
  refine C_seq ?_
  refine C_region ?_
  refine L_y rfl (y_move rfl) rfl ?_
  refine L_nil ?_
  refine C_cond rfl (fun hc0 => ?_) (fun hc0 => ?_)
  · skip
    refine C_skip ?_
    refine C_block ?_
    refine C_region ?_
    refine L_y rfl (y_move rfl) rfl ?_
    refine L_op rfl (op_call rfl rfl (fun a w => Try.call80 a w) rfl ?_)
    refine (FnS.sub (hsub_pick [0, 0, 0] rfl) (step_k (hG.sub (HSub.drop _ _)) hQ hm hk hT)).mono ?_
    rintro _ _ ⟨rfl, D2, j, hj, hT2, rfl⟩
    refine ⟨_, rfl, ?_⟩
    refine L_y rfl (y_move rfl) rfl ?_
    refine L_y rfl (y_extract rfl rfl) rfl ?_
    refine L_y rfl (y_extract rfl rfl) rfl ?_
    refine L_y rfl (y_assign rfl) rfl ?_
    refine L_nil ?_
    exact ⟨(D2, j, decide (k < m.n)), ⟨by simp only; split at hj <;> omega, hT2, fun e => by have := of_decide_eq_false e; simp only; rw [if_neg this] at hj; omega⟩, by simp only; rw [hc0]; by_cases hlt : k < m.n <;> simp [hlt] at hj ⊢ <;> omega, ⟨rfl, rfl, rfl, trivial⟩, ((hsub (.cons_cons _ (.cons_cons _ (.cons_cons _ (.cons_cons _ (.refl _)))))).trans (hsub_pick [0, 0, 0, 0] rfl))⟩
  · skip
    refine C_exit ?_
    refine C_seq ?_
    obtain rfl : k = m.n := hb hc0
    refine C_region ?_
    refine L_y rfl (y_move rfl) rfl ?_
    refine L_op rfl (op_call rfl rfl (fun a w => Try.call81 a w) rfl ?_)
    refine (report_s (sees 0 0 rfl)).mono ?_
    rintro _ _ ⟨rfl, e⟩
    obtain rfl := e.symm
    refine ⟨_, rfl, ?_⟩
    refine L_op rfl (op_store (vs := [.int .i64 (scr m A p m.n).2.2.1, .int .i64 (scr m A p m.n).2.2.2.1, .int .i64 (scr m A p m.n).2.2.2.2]) 3 0 rfl rfl rfl sz_90 rfl rfl (ones rfl) (Nat.le_of_ble_eq_true rfl) ?_)
    refine L_nil ?_
    refine C_ret ?_
    refine B_ret (rv_cellA rfl ag_90 sz_90 (sees 3 0 rfl) (Nat.le_of_ble_eq_true rfl) rfl rv_nil) ((hsub (.cons_cons _ (.cons_cons _ (.cons _ (.cons _ (.refl _)))))).trans (hsub_pick [1, 1] rfl)) ?_
    exact ⟨rfl, D, hT, rfl⟩

end Go.Proofs.Ytjjiclgbdenkkaa

/- walks (own work; the walks' lines by a program of this repo). -/
set_option linter.unusedVariables false
set_option linter.unusedSimpArgs false
set_option maxRecDepth 20000
namespace Go.Proofs.Ytjjiclgbdenkkaa
open Go.Sl
attribute [local irreducible] BodyQ WpC WpL WpS WpH OpW FnS


theorem allg_v {w0 : World} {H : Hp} {gv : Value} {D : Duo} {A : Da} {m : Mi} {K : Nat} {X Y : List Sec} {k0 k1 mb bx bys bp : Nat} (h : Ms dt gv D A m K X Y k0 k1 mb bx bys bp) {p : Int → Sec → Bool} (hG : GoodAt Try.prog w0 H gv p) (hK : K ≤ 4096) (h0 : k0 ≤ 50000) (h1 : k1 ≤ 50000) {r : Rp} (hr : rK p X Y K = r) : FnS Try.prog w0 46 #[ptr mb] (m.seg 110 :: D.seg dt :: H) (fun e H' => e = .returned (.agg [Value.int .i64 r.1, .int .i64 r.2.1, .int .i64 r.2.2].toArray) ∧ ∃ D' A' m', Ms dt gv D' A' m' K (XK p X Y K K) (YK p X Y K K) (k0 + K) (k1 + K) mb bx bys bp ∧ H' = m'.seg 110 :: D'.seg dt :: H) := by
  have hT : Two dt D A m.bx m.bys bp := by rw [h.bx, h.bys]; exact h.two
  rw [← h.mb]
  refine (sall_m hT (p := p) (by rw [h.gv]; exact hG) (fun i => h.many h0 h1 i) (by rw [h.n]; exact hK)).mono ?_
  rintro _ _ ⟨rfl, D', hT', rfl⟩
  obtain ⟨e2, h2⟩ := h.scr hT'
  rw [e2, hr]
  rw [h.mb] at *
  exact ⟨rfl, D', _, _, h2, rfl⟩

end Go.Proofs.Ytjjiclgbdenkkaa

/- walks (own work; the walks' lines by a program of this repo). -/
set_option linter.unusedVariables false
set_option linter.unusedSimpArgs false
set_option maxRecDepth 20000
namespace Go.Proofs.Ytjjiclgbdenkkaa
open Go.Sl
attribute [local irreducible] BodyQ WpC WpL WpS WpH OpW FnS


theorem pair_s {w0 : World} {H : Hp}  : FnS Try.prog w0 40 #[] H (fun e H' => ∃ pb bx bys mb c1 D A m, Ms dt (.func (.func 82) #[] ([ptr c1] : List Value).toArray) D A m 4 Z4 Z4 0 0 mb bx bys pb ∧ e = .returned (.tuple #[ptr pb, ptr bx, ptr bys, ptr mb]) ∧ H' = m.seg 110 :: D.seg dt :: [(c1, .cells [.iface 78 (.agg (((List.replicate 32 (Value.int .u8 0)) ++ [Value.int .u64 0] ++ (List.replicate 32 (Value.int .u8 0))) : List Value).toArray)].toArray 134)] :: H) := by
  refine FnS_intro (n := 21) (rs := [.tmp 0, .tmp 1, .tmp 2, .tmp 3]) (vs := []) Try.func40 rfl Try.ntmps40 rfl rfl ?_
  refine C_seq ?_
  refine C_region ?_
  refine L_y rfl (y_assign rfl) rfl ?_
  refine L_y rfl (y_assign rfl) rfl ?_
  refine L_y rfl (y_assign rfl) rfl ?_
  refine L_y rfl (y_assign rfl) rfl ?_
  refine L_nil ?_
  refine C_seq ?_
  refine C_region ?_
  refine L_op rfl (op_call rfl rfl (fun a w => Try.call26 a w) rfl ?_)
  refine newpower_l.mono ?_
  rintro _ _ ⟨p1, hpk1, hdv1, hP1, rfl, rfl⟩
  refine ⟨_, rfl, ?_⟩
  refine L_y rfl (y_assign rfl) rfl ?_
  refine L_nil ?_
  refine C_seq ?_
  refine C_region ?_
  refine L_y rfl (y_move rfl) rfl ?_
  refine L_op rfl (op_call rfl rfl (fun a w => Try.call16 a w) rfl ?_)
  refine ((new_l (H := (H)) (rfl : p1.b = _) hpk1 hdv1 4).sub (hsub_pick [0, 0] rfl)).mono ?_
  rintro _ _ ⟨d91, p91, hG91, pb91, ha91, hq91, rfl, rfl⟩
  have hA91 : d91.a = Ab.new 4 := by rw [ha91] <;> (rfl)
  have hP91 : p91.a = _ := hq91.trans hP1
  have hb91 : d91.b = d91.b := rfl
  refine ⟨_, rfl, ?_⟩
  refine L_y rfl (y_move rfl) rfl ?_
  refine L_op rfl (op_call rfl rfl (fun a w => Try.call16 a w) rfl ?_)
  refine ((newtwo_d hG91 pb91 rfl 4).sub (hsub_pick [0, 0, 0, 0, 0] rfl)).mono ?_
  rintro _ _ ⟨by81, D81, h81, rfl, rfl⟩
  replace h81 := h81.to (B := ⟨Ab.new 4, Ab.new 4, q0, none⟩) (by rw [hA91, hP91] <;> (rfl))
  have hv1 : Vw ⟨Ab.new 4, Ab.new 4, q0, none⟩ 4 (List.replicate 4 (secOf 0)) (List.replicate 4 (secOf 0)) 0 0 := Vw.new (by omega) none (.inl rfl)
  refine ⟨_, rfl, ?_⟩
  refine L_y rfl (y_assign rfl) rfl ?_
  refine L_y rfl (y_assign rfl) rfl ?_
  refine L_nil ?_
  refine C_seq ?_
  refine C_region ?_
  refine L_y rfl (y_move rfl) rfl ?_
  refine L_y rfl (y_move rfl) rfl ?_
  refine L_y rfl (y_move rfl) rfl ?_
  refine L_y rfl (y_move rfl) rfl ?_
  refine L_y rfl (y_move rfl) rfl ?_
  refine L_y rfl (y_build0 pl_78 zl_78) rfl ?_
  refine L_y rfl (y_makeIface rfl Try.underlying78 rfl) rfl ?_
  refine L_op rfl (op_call rfl rfl (fun a w => Try.call48 a w) rfl ?_)
  refine FnS.mono (sgood_s _ rfl) ?_
  rintro _ _ ⟨c1, rfl, rfl⟩
  refine ⟨_, rfl, ?_⟩
  refine L_op rfl (op_call rfl rfl (fun a w => Try.call17 a w) rfl ?_)
  refine (FnS.sub (hsub_pick [1] rfl) (new_v (f := 82) (cap := [ptr c1]) h81 hv1 Z4_ok Z4_ok)).mono ?_
  rintro _ _ ⟨mb2, m2, hS2, rfl, rfl⟩
  refine ⟨_, rfl, ?_⟩
  refine L_y rfl (y_assign rfl) rfl ?_
  refine L_y rfl (y_assign rfl) rfl ?_
  refine L_y rfl (y_assign rfl) rfl ?_
  refine L_y rfl (y_assign rfl) rfl ?_
  refine L_nil ?_
  refine C_ret ?_
  refine B_ret (rv_tmp rfl (rv_tmp rfl (rv_tmp rfl (rv_tmp rfl rv_nil)))) ((hsub (.cons_cons _ (.cons_cons _ (.cons_cons _ (.refl _))))).trans (hsub_pick [0, 0, 0] rfl)) ?_
  exact ⟨_, _, _, _, _, _, _, _, hS2, rfl, rfl⟩

theorem gt_at {X : List Sec} {n : Nat} (h : n < X.length) : X[n]? = some (gt X n) := by
  unfold gt; rw [List.getD_eq_getElem?_getD, List.getElem?_eq_getElem h]; rfl

theorem sread_o {w0 : World} {H : Hp} {zc : List Value} {gv : Value} {D : Duo} {A : Da} {m : Mi} {X Y : List Sec} {k0 k1 mb bx bys bp : Nat} (h : Ms dt gv D A m 4 X Y k0 k1 mb bx bys bp) (hG : GoodAt Try.prog w0 H gv sP) {q : Option Sp3} {D' : Duo} {A' : Da} (i : Bool) (hT : Two dt D' A' bx bys bp) (hA : A' = A.setd i ((A.dev i).outs true)) {Z : List Sec} (hZ : pick2 (!i) X Y = Z) (hq : sst 1 (sst 0 none (gt Z 0)) (gt Z 1) = q) : FnS Try.prog w0 45 #[ptr mb, .iface 78 (.agg zc.toArray)] (m.seg 110 :: D'.seg dt :: H) (fun e H' => e = .returned (.tuple #[supV (sVal q).1 (sVal q).2.1 (sVal q).2.2, .int .i64 (sOut q)]) ∧ H' = m.seg 110 :: D'.seg dt :: H) := by
  subst hq hA
  have gZ : ∀ {n}, n < 4 → (pick2 (!i) X Y)[n]? = some (gt Z n) := fun hn => by rw [hZ]; exact gt_at (by rw [← hZ]; have : (pick2 (!i) X Y).length = 4 := (h.vw.dev (!i)).wlen; omega)
  rw [← h.bx, ← h.bys] at hT
  have e0 := sread_m (w0 := w0) (H := H) (zc := zc) hT (by rw [h.gv]; exact hG)
  have b0 : bothS m (A.setd i ((A.dev i).outs true)) sP 0 = (if sP ((0 : Nat) : Int) (gt Z 0) then [gt Z 0] else []) := h.both1 (n := 0) i (gZ (by decide))
  have b1 : bothS m (A.setd i ((A.dev i).outs true)) sP 1 = (if sP ((1 : Nat) : Int) (gt Z 1) then [gt Z 1] else []) := h.both1 (n := 1) i (gZ (by decide))
  have m0 : mrE m (A.setd i ((A.dev i).outs true)) sP 0 = (if sP ((0 : Nat) : Int) (gt Z 0) then 0 else 9) := (h.rd1 (n := 0) i (gZ (by decide))).2
  rw [b0, b1, m0, sRd_one (by split <;> decide), h.mb] at e0
  exact e0

end Go.Proofs.Ytjjiclgbdenkkaa

/- walks (own work; the walks' lines by a program of this repo). -/
set_option linter.unusedVariables false
set_option linter.unusedSimpArgs false
set_option maxRecDepth 20000
namespace Go.Proofs.Ytjjiclgbdenkkaa
open Go.Sl
attribute [local irreducible] BodyQ WpC WpL WpS WpH OpW FnS



set_option maxHeartbeats 1000000 in

theorem sscrub_t {w0 : World} {H : Hp} (v : Nat) (now : Int) (top : Nat) (i : Nat) (hi : i < 256) (c : UInt8) (hmay : mayS now top = true) (hv : v < M64) : FnS Try.prog w0 13 #[supV v now top, .bool true, .int .u8 (i : Int), .int .u8 (c.toNat : Int)] H (fun e H' => e = .returned (.bool true)) := by
  refine FnS_intro (n := 74) (rs := [.tmp 8]) (vs := [supV v now top, .bool true, .int .u8 (i : Int), .int .u8 (c.toNat : Int)]) Try.func13 rfl Try.ntmps13 rfl rfl ?_
  refine C_seq ?_
  refine C_region ?_
  refine L_op rfl (op_box rfl rfl rfl (fun B1 => ?_))
  refine L_y rfl (y_assign rfl) rfl ?_
  refine L_nil ?_
  refine C_seq ?_
  refine C_seq ?_
  refine C_region ?_
  refine L_op rfl (op_call rfl rfl (fun a w => Try.call39 a w) rfl ?_)
  refine awake16_s.mono ?_
  rintro _ _ ⟨rfl, e⟩
  obtain rfl := e.symm
  clear e
  refine ⟨_, rfl, ?_⟩
  refine L_y rfl (y_not rfl) rfl ?_
  refine L_nil ?_
  refine C_cond_f rfl ?_
  refine C_skip ?_
  refine C_seq ?_
  refine C_seq ?_
  refine C_region ?_
  refine L_y rfl (y_fieldAddr rfl fl_70_0) rfl ?_
  refine L_y rfl (y_load rfl ag_68 (sees 0 0 rfl) rfl) rfl ?_
  refine L_y rfl (y_fieldAddr rfl fl_70_1) rfl ?_
  refine L_y rfl (y_load rfl ag_3 (sees 0 0 rfl) rfl) rfl ?_
  refine L_y rfl (y_fieldAddr rfl fl_70_2) rfl ?_
  refine L_y rfl (y_load rfl ag_68 (sees 0 0 rfl) rfl) rfl ?_
  refine L_op rfl (op_call rfl rfl (fun a w => Try.call42 a w) rfl ?_)
  refine (rmay_s v now top).mono ?_
  rintro _ _ ⟨rfl, e⟩
  obtain rfl := e.symm
  clear e
  rw [hmay]
  refine ⟨_, rfl, ?_⟩
  refine L_y rfl (y_not rfl) rfl ?_
  refine L_nil ?_
  refine C_cond_f rfl ?_
  refine C_skip ?_
  refine C_seq ?_
  refine C_region ?_
  refine L_op rfl (op_call rfl rfl (fun a w => Try.call40 a w) rfl ?_)
  refine pair_s.mono ?_
  rintro _ _ ⟨pb, bx, bys, mb, c1, D, A, m, hS, rfl, rfl⟩
  refine ⟨_, rfl, ?_⟩
  refine L_y rfl (y_move rfl) rfl ?_
  refine L_y rfl (y_extract rfl rfl) rfl ?_
  refine L_y rfl (y_extract rfl rfl) rfl ?_
  refine L_y rfl (y_extract rfl rfl) rfl ?_
  refine L_y rfl (y_extract rfl rfl) rfl ?_
  refine L_y rfl (y_assign rfl) rfl ?_
  refine L_y rfl (y_assign rfl) rfl ?_
  refine L_y rfl (y_assign rfl) rfl ?_
  refine L_y rfl (y_assign rfl) rfl ?_
  refine L_nil ?_
  refine C_seq ?_
  refine C_seq ?_
  refine C_region ?_
  refine L_y rfl (y_move rfl) rfl ?_
  refine L_y rfl (y_build0 pl_78 zl_78) rfl ?_
  refine L_y rfl (y_makeIface rfl Try.underlying78 rfl) rfl ?_
  refine L_y rfl (y_loadA rfl ag_70 sz_70 (sees 3 0 rfl) (Nat.le_of_ble_eq_true rfl) rfl) rfl ?_
  refine L_op rfl (op_call rfl rfl (fun a w => Try.call41 a w) rfl ?_)
  refine (FnS.sub (hsub_pick [0, 0] rfl) (swrite_v (zc := (((List.replicate 32 (Value.int .u8 0)) ++ [Value.int .u64 0] ++ (List.replicate 32 (Value.int .u8 0))) : List Value)) hS v now top hv hmay (by decide) (by decide))).mono ?_
  rintro _ _ ⟨rfl, D1, A1, hS1, rfl⟩
  refine ⟨_, rfl, ?_⟩
  refine L_y rfl (y_nei rfl rfl) rfl ?_
  refine L_nil ?_
  refine C_cond_f rfl ?_
  refine C_skip ?_
  refine C_seq ?_
  refine C_region ?_
  refine L_y rfl (y_move rfl) rfl ?_
  refine L_y rfl (y_move rfl) rfl ?_
  refine L_y rfl (y_assign rfl) rfl ?_
  refine L_y rfl (y_assign rfl) rfl ?_
  refine L_nil ?_
  refine C_seq ?_
  refine C_seq ?_
  refine C_region ?_
  refine L_y rfl (y_move rfl) rfl ?_
  refine L_nil ?_
  refine C_cond_t rfl ?_
  refine C_region ?_
  refine L_y rfl (y_move rfl) rfl ?_
  refine L_y rfl (y_move rfl) rfl ?_
  refine L_y rfl (y_assign rfl) rfl ?_
  refine L_y rfl (y_assign rfl) rfl ?_
  refine L_nil ?_
  refine C_seq ?_
  refine C_region ?_
  refine L_y rfl (y_move rfl) rfl ?_
  refine L_y rfl (y_fieldAddr rfl fl_70_0) rfl ?_
  refine L_y rfl (y_load rfl ag_68 (sees 3 0 rfl) rfl) rfl ?_
  refine L_y rfl (y_rem rfl rfl (by decide) (show _ = ((v % 2 : Nat) : Int) from rfl)) rfl ?_
  refine L_y rfl (y_conv rfl us_68 Try.underlying3 (wi64 (by omega) (by omega))) rfl ?_
  refine L_y rfl (y_move rfl) rfl ?_
  refine L_y rfl (y_conv rfl us_5 Try.underlying3 (wi64 (by omega) (by omega))) rfl ?_
  refine L_y rfl (y_rem rfl rfl (by decide) (show _ = ((i % 128 : Nat) : Int) from rfl)) rfl ?_
  refine L_y rfl (y_move rfl) rfl ?_
  refine L_op rfl (op_call rfl rfl (fun a w => Try.call34 a w) rfl ?_)
  refine (FnS.sub (hsub_pick [1] rfl) (rotg_v hS1 false (n := (v % 2)) (j := (i % 128)) (c := c) (s := supS v now top) (List.getElem?_set_self (by simp; omega)) (by omega))).mono ?_
  rintro _ _ ⟨rfl, D2, A2, hS2, rfl⟩
  simp only [Bool.false_eq_true, if_false, if_true] at hS2
  refine ⟨_, rfl, ?_⟩
  refine L_nil ?_
  refine C_seq ?_
  refine C_region ?_
  refine L_y rfl (y_move rfl) rfl ?_
  refine L_op rfl (op_call rfl rfl (fun a w => Try.call46 a w) rfl ?_)
  refine (FnS.sub (hsub_pick [1, 0] rfl) (allg_v hS2 (sgood_at (sees 0 0 rfl)) (by decide) (by decide) (by decide) (r := _) rfl)).mono ?_
  rintro _ _ ⟨rfl, D3, A3, m3, hS3, rfl⟩
  refine ⟨_, rfl, ?_⟩
  refine L_nil ?_
  refine C_seq ?_
  refine C_region ?_
  refine L_y rfl (y_move rfl) rfl ?_
  refine L_op rfl (op_call rfl rfl (fun a w => Try.call21 a w) rfl ?_)
  refine (FnS.sub (hsub_pick [0, 0] rfl) (flush_v hS3)).mono ?_
  rintro _ _ ⟨rfl, D4, A4, hS4, rfl⟩
  refine ⟨_, rfl, ?_⟩
  refine L_nil ?_
  refine C_seq ?_
  refine C_region ?_
  refine L_y rfl (y_move rfl) rfl ?_
  refine L_op rfl (op_call rfl rfl (fun a w => Try.call33 a w) rfl ?_)
  refine (FnS.sub (hsub_pick [1] rfl) (out_d hS4.two true true)).mono ?_
  rintro _ _ ⟨rfl, Do, hTo, rfl⟩
  refine ⟨_, rfl, ?_⟩
  refine L_nil ?_
  refine C_seq ?_
  refine C_region ?_
  refine L_y rfl (y_move rfl) rfl ?_
  refine L_y rfl (y_build0 pl_78 zl_78) rfl ?_
  refine L_y rfl (y_makeIface rfl Try.underlying78 rfl) rfl ?_
  refine L_op rfl (op_call rfl rfl (fun a w => Try.call45 a w) rfl ?_)
  refine (FnS.sub (hsub_pick [1, 0] rfl) (sread_o (zc := (((List.replicate 32 (Value.int .u8 0)) ++ [Value.int .u64 0] ++ (List.replicate 32 (Value.int .u8 0))) : List Value)) hS4 (sgood_at (sees 0 0 rfl)) true hTo rfl (Z := (XK sP ((Z4.set (v % 2) (supS v now top)).set (v % 2) (rotB (supS v now top) (i % 128) c)) (Z4.set (v % 2) (supS v now top)) 4 4)) rfl (q := some (v, now, top)) (st_heal hv hmay (j := i % 128) (c := c) (by omega) (X := (Z4.set (v % 2) (supS v now top))) rfl rfl).1)).mono ?_
  rintro _ _ ⟨rfl, rfl⟩
  refine ⟨_, rfl, ?_⟩
  refine L_y rfl (y_move rfl) rfl ?_
  refine L_y rfl (y_extract rfl rfl) rfl ?_
  refine L_y rfl (y_extract rfl rfl) rfl ?_
  refine L_op rfl (op_alloc zl_70 rfl (fun B2 => ?_))
  refine L_op rfl (op_store 0 0 rfl rfl rfl sz_70 rfl rfl (ones rfl) (by decide) ?_)
  skip
  refine L_y rfl (y_assign rfl) rfl ?_
  refine L_nil ?_
  refine C_seq ?_
  refine C_region ?_
  refine L_y rfl (y_move rfl) rfl ?_
  refine L_y rfl (y_eqi rfl rfl) rfl ?_
  refine L_y rfl (y_move rfl) rfl ?_
  refine L_y rfl (y_loadA rfl ag_70 sz_70 (sees 0 0 rfl) (Nat.le_of_ble_eq_true rfl) rfl) rfl ?_
  refine L_y rfl (y_loadA rfl ag_70 sz_70 (sees 4 0 rfl) (Nat.le_of_ble_eq_true rfl) rfl) rfl ?_
  refine L_y rfl (y_eqst (xs := [(v : Int), now, (top : Int)]) (ys := [(v : Int), now, (top : Int)]) rfl rfl fi_70 eg_70 rfl rfl) rfl ?_
  refine L_y rfl (y_pick_t rfl rfl) rfl ?_
  refine L_y rfl (y_assign rfl) rfl ?_
  refine L_nil ?_
  refine C_ret ?_
  refine B_ret (rv_tmp rfl rv_nil) (HSub.refl _) ?_
  exact ret_bool (by simp)

set_option maxHeartbeats 1000000 in

theorem sscrub_f {w0 : World} {H : Hp} (v : Nat) (now : Int) (top : Nat) (i : Nat) (hi : i < 256) (c : UInt8) (hmay : mayS now top = true) (hv : v < M64) : FnS Try.prog w0 13 #[supV v now top, .bool false, .int .u8 (i : Int), .int .u8 (c.toNat : Int)] H (fun e H' => e = .returned (.bool true)) := by
  refine FnS_intro (n := 74) (rs := [.tmp 8]) (vs := [supV v now top, .bool false, .int .u8 (i : Int), .int .u8 (c.toNat : Int)]) Try.func13 rfl Try.ntmps13 rfl rfl ?_
  refine C_seq ?_
  refine C_region ?_
  refine L_op rfl (op_box rfl rfl rfl (fun B1 => ?_))
  refine L_y rfl (y_assign rfl) rfl ?_
  refine L_nil ?_
  refine C_seq ?_
  refine C_seq ?_
  refine C_region ?_
  refine L_op rfl (op_call rfl rfl (fun a w => Try.call39 a w) rfl ?_)
  refine awake16_s.mono ?_
  rintro _ _ ⟨rfl, e⟩
  obtain rfl := e.symm
  clear e
  refine ⟨_, rfl, ?_⟩
  refine L_y rfl (y_not rfl) rfl ?_
  refine L_nil ?_
  refine C_cond_f rfl ?_
  refine C_skip ?_
  refine C_seq ?_
  refine C_seq ?_
  refine C_region ?_
  refine L_y rfl (y_fieldAddr rfl fl_70_0) rfl ?_
  refine L_y rfl (y_load rfl ag_68 (sees 0 0 rfl) rfl) rfl ?_
  refine L_y rfl (y_fieldAddr rfl fl_70_1) rfl ?_
  refine L_y rfl (y_load rfl ag_3 (sees 0 0 rfl) rfl) rfl ?_
  refine L_y rfl (y_fieldAddr rfl fl_70_2) rfl ?_
  refine L_y rfl (y_load rfl ag_68 (sees 0 0 rfl) rfl) rfl ?_
  refine L_op rfl (op_call rfl rfl (fun a w => Try.call42 a w) rfl ?_)
  refine (rmay_s v now top).mono ?_
  rintro _ _ ⟨rfl, e⟩
  obtain rfl := e.symm
  clear e
  rw [hmay]
  refine ⟨_, rfl, ?_⟩
  refine L_y rfl (y_not rfl) rfl ?_
  refine L_nil ?_
  refine C_cond_f rfl ?_
  refine C_skip ?_
  refine C_seq ?_
  refine C_region ?_
  refine L_op rfl (op_call rfl rfl (fun a w => Try.call40 a w) rfl ?_)
  refine pair_s.mono ?_
  rintro _ _ ⟨pb, bx, bys, mb, c1, D, A, m, hS, rfl, rfl⟩
  refine ⟨_, rfl, ?_⟩
  refine L_y rfl (y_move rfl) rfl ?_
  refine L_y rfl (y_extract rfl rfl) rfl ?_
  refine L_y rfl (y_extract rfl rfl) rfl ?_
  refine L_y rfl (y_extract rfl rfl) rfl ?_
  refine L_y rfl (y_extract rfl rfl) rfl ?_
  refine L_y rfl (y_assign rfl) rfl ?_
  refine L_y rfl (y_assign rfl) rfl ?_
  refine L_y rfl (y_assign rfl) rfl ?_
  refine L_y rfl (y_assign rfl) rfl ?_
  refine L_nil ?_
  refine C_seq ?_
  refine C_seq ?_
  refine C_region ?_
  refine L_y rfl (y_move rfl) rfl ?_
  refine L_y rfl (y_build0 pl_78 zl_78) rfl ?_
  refine L_y rfl (y_makeIface rfl Try.underlying78 rfl) rfl ?_
  refine L_y rfl (y_loadA rfl ag_70 sz_70 (sees 3 0 rfl) (Nat.le_of_ble_eq_true rfl) rfl) rfl ?_
  refine L_op rfl (op_call rfl rfl (fun a w => Try.call41 a w) rfl ?_)
  refine (FnS.sub (hsub_pick [0, 0] rfl) (swrite_v (zc := (((List.replicate 32 (Value.int .u8 0)) ++ [Value.int .u64 0] ++ (List.replicate 32 (Value.int .u8 0))) : List Value)) hS v now top hv hmay (by decide) (by decide))).mono ?_
  rintro _ _ ⟨rfl, D5, A5, hS5, rfl⟩
  refine ⟨_, rfl, ?_⟩
  refine L_y rfl (y_nei rfl rfl) rfl ?_
  refine L_nil ?_
  refine C_cond_f rfl ?_
  refine C_skip ?_
  refine C_seq ?_
  refine C_region ?_
  refine L_y rfl (y_move rfl) rfl ?_
  refine L_y rfl (y_move rfl) rfl ?_
  refine L_y rfl (y_assign rfl) rfl ?_
  refine L_y rfl (y_assign rfl) rfl ?_
  refine L_nil ?_
  refine C_seq ?_
  refine C_seq ?_
  refine C_region ?_
  refine L_y rfl (y_move rfl) rfl ?_
  refine L_nil ?_
  refine C_cond_f rfl ?_
  refine C_skip ?_
  refine C_seq ?_
  refine C_region ?_
  refine L_y rfl (y_move rfl) rfl ?_
  refine L_y rfl (y_fieldAddr rfl fl_70_0) rfl ?_
  refine L_y rfl (y_load rfl ag_68 (sees 3 0 rfl) rfl) rfl ?_
  refine L_y rfl (y_rem rfl rfl (by decide) (show _ = ((v % 2 : Nat) : Int) from rfl)) rfl ?_
  refine L_y rfl (y_conv rfl us_68 Try.underlying3 (wi64 (by omega) (by omega))) rfl ?_
  refine L_y rfl (y_move rfl) rfl ?_
  refine L_y rfl (y_conv rfl us_5 Try.underlying3 (wi64 (by omega) (by omega))) rfl ?_
  refine L_y rfl (y_rem rfl rfl (by decide) (show _ = ((i % 128 : Nat) : Int) from rfl)) rfl ?_
  refine L_y rfl (y_move rfl) rfl ?_
  refine L_op rfl (op_call rfl rfl (fun a w => Try.call34 a w) rfl ?_)
  refine (FnS.sub (hsub_pick [1] rfl) (rotg_v hS5 true (n := (v % 2)) (j := (i % 128)) (c := c) (s := supS v now top) (List.getElem?_set_self (by simp; omega)) (by omega))).mono ?_
  rintro _ _ ⟨rfl, D6, A6, hS6, rfl⟩
  simp only [Bool.false_eq_true, if_false, if_true] at hS6
  refine ⟨_, rfl, ?_⟩
  refine L_nil ?_
  refine C_seq ?_
  refine C_region ?_
  refine L_y rfl (y_move rfl) rfl ?_
  refine L_op rfl (op_call rfl rfl (fun a w => Try.call46 a w) rfl ?_)
  refine (FnS.sub (hsub_pick [1, 0] rfl) (allg_v hS6 (sgood_at (sees 0 0 rfl)) (by decide) (by decide) (by decide) (r := _) rfl)).mono ?_
  rintro _ _ ⟨rfl, D7, A7, m7, hS7, rfl⟩
  refine ⟨_, rfl, ?_⟩
  refine L_nil ?_
  refine C_seq ?_
  refine C_region ?_
  refine L_y rfl (y_move rfl) rfl ?_
  refine L_op rfl (op_call rfl rfl (fun a w => Try.call21 a w) rfl ?_)
  refine (FnS.sub (hsub_pick [0, 0] rfl) (flush_v hS7)).mono ?_
  rintro _ _ ⟨rfl, D8, A8, hS8, rfl⟩
  refine ⟨_, rfl, ?_⟩
  refine L_nil ?_
  refine C_seq ?_
  refine C_region ?_
  refine L_y rfl (y_move rfl) rfl ?_
  refine L_op rfl (op_call rfl rfl (fun a w => Try.call33 a w) rfl ?_)
  refine (FnS.sub (hsub_pick [1] rfl) (out_d hS8.two false true)).mono ?_
  rintro _ _ ⟨rfl, Do, hTo, rfl⟩
  refine ⟨_, rfl, ?_⟩
  refine L_nil ?_
  refine C_seq ?_
  refine C_region ?_
  refine L_y rfl (y_move rfl) rfl ?_
  refine L_y rfl (y_build0 pl_78 zl_78) rfl ?_
  refine L_y rfl (y_makeIface rfl Try.underlying78 rfl) rfl ?_
  refine L_op rfl (op_call rfl rfl (fun a w => Try.call45 a w) rfl ?_)
  refine (FnS.sub (hsub_pick [1, 0] rfl) (sread_o (zc := (((List.replicate 32 (Value.int .u8 0)) ++ [Value.int .u64 0] ++ (List.replicate 32 (Value.int .u8 0))) : List Value)) hS8 (sgood_at (sees 0 0 rfl)) false hTo rfl (Z := (YK sP (Z4.set (v % 2) (supS v now top)) ((Z4.set (v % 2) (supS v now top)).set (v % 2) (rotB (supS v now top) (i % 128) c)) 4 4)) rfl (q := some (v, now, top)) (st_heal hv hmay (j := i % 128) (c := c) (by omega) (X := (Z4.set (v % 2) (supS v now top))) rfl rfl).2)).mono ?_
  rintro _ _ ⟨rfl, rfl⟩
  refine ⟨_, rfl, ?_⟩
  refine L_y rfl (y_move rfl) rfl ?_
  refine L_y rfl (y_extract rfl rfl) rfl ?_
  refine L_y rfl (y_extract rfl rfl) rfl ?_
  refine L_op rfl (op_alloc zl_70 rfl (fun B2 => ?_))
  refine L_op rfl (op_store 0 0 rfl rfl rfl sz_70 rfl rfl (ones rfl) (by decide) ?_)
  skip
  refine L_y rfl (y_assign rfl) rfl ?_
  refine L_nil ?_
  refine C_seq ?_
  refine C_region ?_
  refine L_y rfl (y_move rfl) rfl ?_
  refine L_y rfl (y_eqi rfl rfl) rfl ?_
  refine L_y rfl (y_move rfl) rfl ?_
  refine L_y rfl (y_loadA rfl ag_70 sz_70 (sees 0 0 rfl) (Nat.le_of_ble_eq_true rfl) rfl) rfl ?_
  refine L_y rfl (y_loadA rfl ag_70 sz_70 (sees 4 0 rfl) (Nat.le_of_ble_eq_true rfl) rfl) rfl ?_
  refine L_y rfl (y_eqst (xs := [(v : Int), now, (top : Int)]) (ys := [(v : Int), now, (top : Int)]) rfl rfl fi_70 eg_70 rfl rfl) rfl ?_
  refine L_y rfl (y_pick_t rfl rfl) rfl ?_
  refine L_y rfl (y_assign rfl) rfl ?_
  refine L_nil ?_
  refine C_ret ?_
  refine B_ret (rv_tmp rfl rv_nil) (HSub.refl _) ?_
  exact ret_bool (by simp)

theorem sscrub_n {w0 : World} {H : Hp} (v : Nat) (now : Int) (top : Nat) (hmay : mayS now top = false) (a1 a2 a3 : Value) : FnS Try.prog w0 13 #[supV v now top, a1, a2, a3] H (fun e H' => e = .returned (.bool true)) := by
  refine FnS_intro (n := 74) (rs := [.tmp 8]) (vs := [supV v now top, a1, a2, a3]) Try.func13 rfl Try.ntmps13 rfl rfl ?_
  refine C_seq ?_
  refine C_region ?_
  refine L_op rfl (op_box rfl rfl rfl (fun B1 => ?_))
  refine L_y rfl (y_assign rfl) rfl ?_
  refine L_nil ?_
  refine C_seq ?_
  refine C_seq ?_
  refine C_region ?_
  refine L_op rfl (op_call rfl rfl (fun a w => Try.call39 a w) rfl ?_)
  refine awake16_s.mono ?_
  rintro _ _ ⟨rfl, e⟩
  obtain rfl := e.symm
  clear e
  refine ⟨_, rfl, ?_⟩
  refine L_y rfl (y_not rfl) rfl ?_
  refine L_nil ?_
  refine C_cond_f rfl ?_
  refine C_skip ?_
  refine C_seq ?_
  refine C_seq ?_
  refine C_region ?_
  refine L_y rfl (y_fieldAddr rfl fl_70_0) rfl ?_
  refine L_y rfl (y_load rfl ag_68 (sees 0 0 rfl) rfl) rfl ?_
  refine L_y rfl (y_fieldAddr rfl fl_70_1) rfl ?_
  refine L_y rfl (y_load rfl ag_3 (sees 0 0 rfl) rfl) rfl ?_
  refine L_y rfl (y_fieldAddr rfl fl_70_2) rfl ?_
  refine L_y rfl (y_load rfl ag_68 (sees 0 0 rfl) rfl) rfl ?_
  refine L_op rfl (op_call rfl rfl (fun a w => Try.call42 a w) rfl ?_)
  refine (rmay_s v now top).mono ?_
  rintro _ _ ⟨rfl, e⟩
  obtain rfl := e.symm
  clear e
  rw [hmay]
  refine ⟨_, rfl, ?_⟩
  refine L_y rfl (y_not rfl) rfl ?_
  refine L_nil ?_
  refine C_cond_t rfl ?_
  refine C_seq ?_
  refine C_region ?_
  refine L_y rfl (y_assign rfl) rfl ?_
  refine L_nil ?_
  refine C_ret ?_
  refine B_ret (rv_tmp rfl rv_nil) (HSub.refl _) ?_
  rfl

end Go.Proofs.Ytjjiclgbdenkkaa

/- From a row's reading of a slice of bytes to what a walk asks (own work). -/
set_option linter.unusedVariables false
namespace Go.Sl
open Go.RowKit
end Go.Sl

/- What a row tells of its arguments, for flat types (integers, bools, structs and arrays of these) and slices of them (own work). -/
set_option linter.unusedVariables false
set_option linter.unusedSimpArgs false
namespace Go.Sl
open Go.RowKit
inductive Sc where
  | int (k : IntKind)
  | bool
def Sc.fit : Sc → Value → Prop
  | .int k, v => ∃ n, v = .int k n ∧ (Lit.int k n).wf = true
  | .bool, v => ∃ b, v = .bool b
/-- A row of cells fits a row of scalars. -/
def Fits : List Sc → List Value → Prop
  | [], [] => True
  | s :: ss, v :: vs => s.fit v ∧ Fits ss vs
  | _, _ => False
theorem Fits.length : ∀ {ss : List Sc} {vs : List Value}, Fits ss vs → vs.length = ss.length
  | [], [], _ => rfl
  | _ :: _, _ :: _, h => by simp [Fits.length h.2]
  | [], _ :: _, h => h.elim
  | _ :: _, [], h => h.elim
theorem Fits.append : ∀ {ss tt : List Sc} {vs us : List Value}, Fits ss vs → Fits tt us → Fits (ss ++ tt) (vs ++ us)
  | [], _, [], _, _, h => h
  | _ :: _, _, _ :: _, _, h, k => ⟨h.1, Fits.append h.2 k⟩
  | [], _, _ :: _, _, h, _ => h.elim
  | _ :: _, _, [], _, h, _ => h.elim
theorem Fits.cons_iff {s : Sc} {ss : List Sc} {vs : List Value} : Fits (s :: ss) vs ↔ ∃ v us, vs = v :: us ∧ s.fit v ∧ Fits ss us := by
  cases vs with
  | nil => simp [Fits]
  | cons v us =>
    refine ⟨fun h => ⟨v, us, rfl, h⟩, fun ⟨v', us', e, h⟩ => ?_⟩
    obtain ⟨rfl, rfl⟩ := List.cons.inj e
    exact h
theorem Fits.nil_iff {vs : List Value} : Fits [] vs ↔ vs = [] := by cases vs <;> simp [Fits]
theorem Fits.split : ∀ {ss tt : List Sc} {vs : List Value}, Fits (ss ++ tt) vs → ∃ a b, vs = a ++ b ∧ Fits ss a ∧ Fits tt b
  | [], _, vs, h => ⟨[], vs, rfl, trivial, h⟩
  | s :: ss, tt, vs, h => by
    obtain ⟨v, us, rfl, h1, h2⟩ := Fits.cons_iff.1 h
    obtain ⟨a, b, rfl, h3, h4⟩ := Fits.split (ss := ss) h2
    exact ⟨v :: a, b, rfl, ⟨h1, h3⟩, h4⟩
/-- A row of bytes. -/
theorem Fits.bytes : ∀ {n : Nat} {vs : List Value}, Fits (List.replicate n (.int .u8)) vs → ∃ u : List UInt8, vs = bs u ∧ u.length = n
  | 0, vs, h => ⟨[], by rw [Fits.nil_iff.1 h]; rfl, rfl⟩
  | n + 1, vs, h => by
    rw [List.replicate_succ] at h
    obtain ⟨v, us, rfl, ⟨m, rfl, hm⟩, h2⟩ := Fits.cons_iff.1 h
    obtain ⟨u, rfl, rfl⟩ := Fits.bytes h2
    have hb := bounds_u8 hm
    refine ⟨UInt8.ofNat m.toNat :: u, ?_, rfl⟩
    rw [u8_of_int (by omega) (by omega)]; rfl
def flatF (P : Program) (g : TypeId → Option (List Sc)) : List Field → Nat → Option (List Sc)
  | [], _ => some []
  | f :: fs, off => if f.offset = off then (g f.type).bind fun l => if P.cellsOf f.type = l.length then (flatF P g fs (off + l.length)).map (l ++ ·) else none else none
def flatT (P : Program) : Nat → TypeId → Option (List Sc)
  | 0, _ => none
  | d + 1, t => match P.underlying t with
    | some (.int k) => some [.int k]
    | some .bool => some [.bool]
    | some (.struct fs) => (flatF P (flatT P d) fs.toList 0).bind fun l => if P.cellsOf t = l.length then some l else none
    | some (.array n e) => (flatT P d e).bind fun l => if P.cellsOf e = l.length ∧ P.cellsOf t = n * l.length then some (List.replicate n l).flatten else none
    | _ => none
theorem flatF_fits {P : Program} {g : TypeId → Option (List Sc)} {cs : List Value} : ∀ {fs : List Field} {off : Nat} {sh : List Sc}, flatF P g fs off = some sh →
    (∀ f ∈ fs, ∀ l, g f.type = some l → Fits l ((cs.drop f.offset).take (P.cellsOf f.type))) → Fits sh ((cs.drop off).take sh.length)
  | [], off, sh, h, _ => by
    simp only [flatF, Option.some.injEq] at h
    subst h; simp [Fits]
  | f :: fs, off, sh, h, hf => by
    unfold flatF at h
    split at h
    · rename_i ho
      cases hg : g f.type with
      | none => simp [hg] at h
      | some l =>
        rw [hg] at h; simp only [Option.bind_some] at h
        split at h
        · rename_i hc
          cases hr : flatF P g fs (off + l.length) with
          | none => simp [hr] at h
          | some l2 =>
            simp only [hr, Option.map_some, Option.some.injEq] at h
            subst h
            have h1 := hf f (by simp) l hg
            have h2 := flatF_fits hr (fun f' hf' => hf f' (by simp [hf']))
            rw [ho, hc] at h1
            have h3 := Fits.append h1 h2
            rw [List.length_append, List.take_add, List.drop_drop]
            exact h3
        · cases h
    · cases h
section
variable {H : Type} {enc : TypeId × Value → H} {P : Program} {w : World} {base : Nat} {spare : Nat → Bool} {held : Bool}
theorem arr_fits {l : List Sc} : ∀ {n : Nat} {cs : List Value}, cs.length = n * l.length → (∀ i, i < n → Fits l ((cs.drop (i * l.length)).take l.length)) → Fits (List.replicate n l).flatten cs
  | 0, cs, h, _ => by simp at h; subst h; simp [Fits]
  | n + 1, cs, h, hi => by
    rw [Nat.add_mul, Nat.one_mul] at h
    have h0 := hi 0 (by omega)
    rw [Nat.zero_mul, List.drop_zero] at h0
    have h1 := arr_fits (l := l) (n := n) (cs := cs.drop l.length) (by simp; omega) (fun i hi' => by
      have := hi (i + 1) (by omega)
      rw [List.drop_drop, show l.length + i * l.length = (i + 1) * l.length from by rw [Nat.add_mul, Nat.one_mul, Nat.add_comm]]
      exact this)
    have h2 := Fits.append h0 h1
    rw [List.take_append_drop] at h2
    rw [List.replicate_succ, List.flatten_cons]
    exact h2
theorem flat_trod : ∀ {d : Nat} {t : TypeId} {sh : List Sc}, flatT P d t = some sh → ∀ {fuel : Nat} {cs : List Value} {x : DataW H × List MemPlace}, DataW.trod enc P w base spare held fuel t cs = some x → Fits sh cs
  | 0, _, _, h, _, _, _, _ => by simp [flatT] at h
  | d + 1, t, sh, h, fuel, cs, x, hx => by
    unfold flatT at h
    split at h
    · rename_i k hu
      obtain ⟨n, rfl, _, hw⟩ := DataW.trod_int hu hx
      simp only [Option.some.injEq] at h; subst h
      exact ⟨⟨n, rfl, hw⟩, trivial⟩
    · rename_i hu
      obtain ⟨b, rfl, _⟩ := DataW.trod_bool hu hx
      simp only [Option.some.injEq] at h; subst h
      exact ⟨⟨b, rfl⟩, trivial⟩
    · rename_i fs hu
      obtain ⟨xs, n, _, _, hl, hlen, hf⟩ := DataW.trod_struct hu hx
      cases hF : flatF P (flatT P d) fs.toList 0 with
      | none => simp [hF] at h
      | some l =>
        simp only [hF, Option.bind_some] at h
        split at h
        · rename_i hc
          simp only [Option.some.injEq] at h; subst h
          have := flatF_fits (cs := cs) hF (fun f hfm l' hl' => by
            obtain ⟨i, hi, rfl⟩ := List.getElem_of_mem hfm
            have h1 := hf i _ (by rw [← Array.getElem?_toList]; exact List.getElem?_eq_getElem hi)
            have h2 : i < xs.length := by rw [hlen]; simpa using hi
            rw [List.getElem?_eq_getElem h2] at h1
            exact flat_trod hl' h1)
          rw [List.drop_zero, List.take_of_length_le (by omega)] at this
          exact this
        · cases h
    · rename_i n e hu
      obtain ⟨xs, m, _, _, hl, hlen, hf⟩ := DataW.trod_array hu hx
      cases hF : flatT P d e with
      | none => simp [hF] at h
      | some l =>
        simp only [hF, Option.bind_some] at h
        split at h
        · rename_i hc
          simp only [Option.some.injEq] at h; subst h
          refine arr_fits (by rw [hl, hc.2]) (fun i hi => ?_)
          have h1 := hf i hi
          have h2 : i < xs.length := by omega
          rw [List.getElem?_eq_getElem h2, hc.1] at h1
          exact flat_trod hF h1
        · cases h
    · cases h
/-- A flat struct or array as an argument. -/
theorem flat_agg {d : Nat} {t : TypeId} {sh : List Sc} {v : Value} {D : DataW H} {ps : List MemPlace} (h : flatT P d t = some sh) (hv : ∃ cs, v = .agg cs) (hT : DataW.Trod enc P w base spare held t v D ps) : ∃ cs, v = .agg cs.toArray ∧ Fits sh cs := by
  obtain ⟨cs, rfl⟩ := hv
  obtain ⟨fuel, hf⟩ := hT
  exact ⟨cs.toList, by simp, flat_trod h hf⟩
theorem okWide_agg {r : Reach} {b0 : Nat} {t : TypeId} {v : Value} (ht : isAggT P t = true) (h : Value.okWide P w r b0 t v) : ∃ cs, v = .agg cs := by
  unfold Value.okWide at h
  unfold isAggT at ht
  split at h
  · obtain ⟨cs, rfl, _⟩ := h; exact ⟨cs, rfl⟩
  · obtain ⟨cs, rfl, _⟩ := h; exact ⟨cs, rfl⟩
  · rename_i h1 h2
    cases hu : P.underlying t with
    | none => simp [hu] at ht
    | some dd =>
      cases dd with
      | struct fs => exact absurd hu (h1 fs)
      | array n e => exact absurd hu (h2 n e)
      | _ => simp [hu] at ht
/-- What is told of a slice that came in. -/
def InS (w : World) (sh : List Sc) (a : Option Addr) (len cap : Nat) : Prop :=
  (a = none ∧ len = 0 ∧ cap = 0) ∨ ∃ (x : Addr), a = some x ∧ len ≤ cap ∧ cap ≤ maxLen ∧
    (0 < len → ∃ (b off : Nat) (l : List Value) (T : TypeId) (fr : Nat × Nat), x = ⟨b, off, none⟩ ∧ w.heap[b]? = some (.cells l.toArray T fr) ∧ off + len * sh.length ≤ l.length ∧
      ∀ i, i < len → Fits sh ((l.drop (off + i * sh.length)).take sh.length))
end
end Go.Sl

/- Rows over bytes (own work). -/
set_option linter.unusedVariables false
namespace Go.Sl
open Go.RowKit
end Go.Sl

