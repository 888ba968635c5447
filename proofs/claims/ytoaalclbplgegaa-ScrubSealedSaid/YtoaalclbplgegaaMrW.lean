/- walks (own work; the walks' lines by a program of this repo). -/
import Derived.Test.YtoaalclbplgegaaMsW
set_option linter.unusedVariables false
set_option linter.unusedSimpArgs false
set_option maxRecDepth 20000
namespace Go.Proofs.Ytoaalclbplgegaa
open Go.Sl
attribute [local irreducible] BodyQ WpC WpL WpS WpH OpW FnS


theorem right_nil {w0 : World} {H : Hp} {m : Mi} {n : Int} {s : Sec} (hs : s.length = 128) (hM : Sees (fun w => St w0 w H) m.b (.cells m.cells.toArray 109)) (h1 : m.gv = .nilFunc) : FnS Try.prog w0 51 #[ptr m.b, .int .i64 n, .agg (bs s).toArray] H (fun e H' => e = .returned (.bool false) ∧ H' = H) := by
  refine FnS_intro (n := 21) (rs := [.tmp 6]) (vs := [ptr m.b, .int .i64 n, .agg (bs s).toArray]) Try.func51 rfl Try.ntmps51 rfl rfl ?_
  refine C_seq ?_
  refine C_region ?_
  refine L_op rfl (op_box rfl rfl rfl (fun B1 => ?_))
  refine L_y rfl (y_assign rfl) rfl ?_
  refine L_nil ?_
  refine C_seq ?_
  refine C_regionH0 (by kernel_rfl) ?_
  refine H_y 0 rfl (by kernel_rfl) (by kernel_rfl) (by kernel_rfl) (HSub.refl _) rfl (y_move rfl) rfl ?_
  refine H_y 1 rfl (by kernel_rfl) (by kernel_rfl) (by kernel_rfl) (HSub.refl _) rfl (y_nilCheck rfl) rfl ?_
  refine H_y 2 rfl (by kernel_rfl) (by kernel_rfl) (by kernel_rfl) (HSub.refl _) rfl (y_fieldAddr rfl fl_109_2) rfl ?_
  refine H_y 3 rfl (by kernel_rfl) (by kernel_rfl) (by kernel_rfl) (HSub.refl _) rfl (y_load rfl ag_56 (hM.up) (show _ = some (Value.nilFunc) from by rw [← h1]; rfl)) rfl ?_
  refine H_y 4 rfl (by kernel_rfl) (by kernel_rfl) (by kernel_rfl) (HSub.refl _) rfl (y_nefn0 rfl rfl Try.underlying56) rfl ?_
  refine H_y 5 rfl (by kernel_rfl) (by kernel_rfl) (by kernel_rfl) (HSub.refl _) rfl (y_move rfl) rfl ?_
  refine H_skip 6 rfl (by kernel_rfl) (by kernel_rfl) (by kernel_rfl) (HSub.refl _) rfl rfl ?_
  refine H_skip 7 rfl (by kernel_rfl) (by kernel_rfl) (by kernel_rfl) (HSub.refl _) rfl rfl ?_
  refine H_skip 8 rfl (by kernel_rfl) (by kernel_rfl) (by kernel_rfl) (HSub.refl _) rfl rfl ?_
  refine H_skip 9 rfl (by kernel_rfl) (by kernel_rfl) (by kernel_rfl) (HSub.refl _) rfl rfl ?_
  refine H_skip 10 rfl (by kernel_rfl) (by kernel_rfl) (by kernel_rfl) (HSub.refl _) rfl rfl ?_
  refine H_skip 11 rfl (by kernel_rfl) (by kernel_rfl) (by kernel_rfl) (HSub.refl _) rfl rfl ?_
  refine H_skip 12 rfl (by kernel_rfl) (by kernel_rfl) (by kernel_rfl) (HSub.refl _) rfl rfl ?_
  refine H_y 13 rfl (by kernel_rfl) (by kernel_rfl) (by kernel_rfl) (HSub.refl _) rfl (y_pick_f rfl rfl) rfl ?_
  refine H_y 14 rfl (by kernel_rfl) (by kernel_rfl) (by kernel_rfl) (HSub.refl _) rfl (y_assign rfl) rfl ?_
  refine H_done (by kernel_rfl) ?_
  refine C_ret ?_
  refine B_ret (rv_tmp rfl rv_nil) (hsub (.cons _ (.refl _))) ?_
  exact ⟨rfl, rfl⟩

theorem right_fn {w0 : World} {H : Hp} {m : Mi} {n : Int} {s : Sec} (hs : s.length = 128) (hM : Sees (fun w => St w0 w H) m.b (.cells m.cells.toArray 109)) {f : Nat} {cap : List Value} (h1 : m.gv = .func (.func f) #[] cap.toArray) (hcf : ∀ args w, (callFunc f args).run Try.prog w = .ok (.enter f args) w) (b : Bool) (h2 : ∀ H', HSub H H' → FnS Try.prog w0 f ([Value.int .i64 n, Value.agg (bs s).toArray] ++ cap).toArray H' (fun e H2 => e = .returned (.bool b) ∧ H2 = H')) : FnS Try.prog w0 51 #[ptr m.b, .int .i64 n, .agg (bs s).toArray] H (fun e H' => e = .returned (.bool b) ∧ H' = H) := by
  refine FnS_intro (n := 21) (rs := [.tmp 6]) (vs := [ptr m.b, .int .i64 n, .agg (bs s).toArray]) Try.func51 rfl Try.ntmps51 rfl rfl ?_
  refine C_seq ?_
  refine C_region ?_
  refine L_op rfl (op_box rfl rfl rfl (fun B1 => ?_))
  refine L_y rfl (y_assign rfl) rfl ?_
  refine L_nil ?_
  refine C_seq ?_
  refine C_regionH0 (by kernel_rfl) ?_
  refine H_y 0 rfl (by kernel_rfl) (by kernel_rfl) (by kernel_rfl) (HSub.refl _) rfl (y_move rfl) rfl ?_
  refine H_y 1 rfl (by kernel_rfl) (by kernel_rfl) (by kernel_rfl) (HSub.refl _) rfl (y_nilCheck rfl) rfl ?_
  refine H_y 2 rfl (by kernel_rfl) (by kernel_rfl) (by kernel_rfl) (HSub.refl _) rfl (y_fieldAddr rfl fl_109_2) rfl ?_
  refine H_y 3 rfl (by kernel_rfl) (by kernel_rfl) (by kernel_rfl) (HSub.refl _) rfl (y_load rfl ag_56 (hM.up) (show _ = some (Value.func (.func f) #[] cap.toArray) from by rw [← h1]; rfl)) rfl ?_
  refine H_y 4 rfl (by kernel_rfl) (by kernel_rfl) (by kernel_rfl) (HSub.refl _) rfl (y_nefn rfl rfl Try.underlying56) rfl ?_
  refine H_y 5 rfl (by kernel_rfl) (by kernel_rfl) (by kernel_rfl) (HSub.refl _) rfl (y_move rfl) rfl ?_
  refine H_y 6 rfl (by kernel_rfl) (by kernel_rfl) (by kernel_rfl) (HSub.refl _) rfl (y_move rfl) rfl ?_
  refine H_y 7 rfl (by kernel_rfl) (by kernel_rfl) (by kernel_rfl) (HSub.refl _) rfl (y_nilCheck rfl) rfl ?_
  refine H_y 8 rfl (by kernel_rfl) (by kernel_rfl) (by kernel_rfl) (HSub.refl _) rfl (y_fieldAddr rfl fl_109_2) rfl ?_
  refine H_y 9 rfl (by kernel_rfl) (by kernel_rfl) (by kernel_rfl) (HSub.refl _) rfl (y_load rfl ag_56 (hM.up) (show _ = some (Value.func (.func f) #[] cap.toArray) from by rw [← h1]; rfl)) rfl ?_
  refine H_y 10 rfl (by kernel_rfl) (by kernel_rfl) (by kernel_rfl) (HSub.refl _) rfl (y_move rfl) rfl ?_
  refine H_y 11 rfl (by kernel_rfl) (by kernel_rfl) (by kernel_rfl) (HSub.refl _) rfl (y_loadA rfl ag_37 sz_37 (sees 0 0 rfl) (by rw [bs_length, hs]; decide) (bs_whole0 _ hs)) rfl ?_
  refine H_one 12 rfl (by kernel_rfl) rfl (op_call (f := f) (first := []) (cap := cap) rfl rfl hcf rfl ?_)
  refine FnS.mono (h2 _ (HSub.drop _ _)) ?_
  rintro _ _ ⟨rfl, e⟩
  obtain rfl := e.symm
  refine ⟨_, rfl, ?_⟩
  refine ⟨HSub.refl _, ?_⟩
  refine H_y 13 rfl (by kernel_rfl) (by kernel_rfl) (by kernel_rfl) (HSub.refl _) rfl (y_pick_t rfl rfl) rfl ?_
  refine H_y 14 rfl (by kernel_rfl) (by kernel_rfl) (by kernel_rfl) (HSub.refl _) rfl (y_assign rfl) rfl ?_
  refine H_done (by kernel_rfl) ?_
  refine C_ret ?_
  refine B_ret (rv_tmp rfl rv_nil) (hsub (.cons _ (.refl _))) ?_
  exact ⟨rfl, rfl⟩

theorem right_m {w0 : World} {H : Hp} {m : Mi} {p : Int → Sec → Bool} (hM : Sees (fun w => St w0 w H) m.b (.cells m.cells.toArray 109)) (hG : GoodAt Try.prog w0 H m.gv p) (n : Int) (s : Sec) (hs : s.length = 128) : FnS Try.prog w0 51 #[ptr m.b, .int .i64 n, .agg (bs s).toArray] H (fun e H' => e = .returned (.bool (p n s)) ∧ H' = H) := by
  rcases hG with ⟨h1, rfl⟩ | ⟨f, cap, h1, hcf, h3⟩
  · exact right_nil hs hM h1
  · exact right_fn hs hM h1 hcf (p n s) (fun H' hs' => h3 H' n s hs' hs)

theorem stale_m {w0 : World} {H : Hp} {m : Mi} : FnS Try.prog w0 28 #[ptr m.b] (m.seg 109 :: H) (fun e H' => e = .returned (.tuple #[.int .i64 (m.k0.length : Int), .int .i64 (m.k1.length : Int)]) ∧ H' = m.seg 109 :: H) := by
  refine FnS_intro (n := 20) (rs := [.tmp 2, .tmp 3]) (vs := [ptr m.b]) Try.func28 rfl Try.ntmps28 rfl rfl ?_
  refine C_seq ?_
  refine C_region ?_
  refine L_y rfl (y_assign rfl) rfl ?_
  refine L_y rfl (y_assign rfl) rfl ?_
  refine L_nil ?_
  refine C_seq ?_
  refine C_seq ?_
  refine C_region ?_
  refine L_y rfl (y_move rfl) rfl ?_
  refine L_y rfl (y_eqp rfl rfl Try.underlying25) rfl ?_
  refine L_nil ?_
  refine C_cond_f rfl ?_
  refine C_skip ?_
  refine C_seq ?_
  refine C_regionH0 (by kernel_rfl) ?_
  refine H_y 0 rfl (by kernel_rfl) (by kernel_rfl) (by kernel_rfl) (HSub.refl _) rfl (y_move rfl) rfl ?_
  refine H_y 1 rfl (by kernel_rfl) (by kernel_rfl) (by kernel_rfl) (HSub.refl _) rfl (y_nilCheck rfl) rfl ?_
  refine H_y 2 rfl (by kernel_rfl) (by kernel_rfl) (by kernel_rfl) (HSub.refl _) rfl (y_fieldAddr rfl fl_109_0) rfl ?_
  refine H_y 3 rfl (by kernel_rfl) (by kernel_rfl) (by kernel_rfl) (HSub.refl _) rfl (y_indexA rfl rfl Try.underlying107 sz_106 (by omega) (by omega) (show _ = 0 from rfl)) rfl ?_
  refine H_y 4 rfl (by kernel_rfl) (by kernel_rfl) (by kernel_rfl) (HSub.refl _) rfl (y_fieldAddr rfl fl_106_1) rfl ?_
  refine H_y 5 rfl (by kernel_rfl) (by kernel_rfl) (by kernel_rfl) (HSub.refl _) rfl (y_load rfl ag_70 (sees 0 0 rfl) rfl) rfl ?_
  refine H_y 6 rfl (by kernel_rfl) (by kernel_rfl) (by kernel_rfl) (HSub.refl _) rfl (y_lenM rfl rfl Try.underlying70 (sees 0 1 rfl)) rfl ?_
  refine H_y 7 rfl (by kernel_rfl) (by kernel_rfl) (by kernel_rfl) (HSub.refl _) rfl (y_move rfl) rfl ?_
  refine H_y 8 rfl (by kernel_rfl) (by kernel_rfl) (by kernel_rfl) (HSub.refl _) rfl (y_nilCheck rfl) rfl ?_
  refine H_y 9 rfl (by kernel_rfl) (by kernel_rfl) (by kernel_rfl) (HSub.refl _) rfl (y_fieldAddr rfl fl_109_0) rfl ?_
  refine H_y 10 rfl (by kernel_rfl) (by kernel_rfl) (by kernel_rfl) (HSub.refl _) rfl (y_indexA rfl rfl Try.underlying107 sz_106 (by omega) (by omega) (show _ = 2 from rfl)) rfl ?_
  refine H_y 11 rfl (by kernel_rfl) (by kernel_rfl) (by kernel_rfl) (HSub.refl _) rfl (y_fieldAddr rfl fl_106_1) rfl ?_
  refine H_y 12 rfl (by kernel_rfl) (by kernel_rfl) (by kernel_rfl) (HSub.refl _) rfl (y_load rfl ag_70 (sees 0 0 rfl) rfl) rfl ?_
  refine H_y 13 rfl (by kernel_rfl) (by kernel_rfl) (by kernel_rfl) (HSub.refl _) rfl (y_lenM rfl rfl Try.underlying70 (sees 0 2 rfl)) rfl ?_
  refine H_y 14 rfl (by kernel_rfl) (by kernel_rfl) (by kernel_rfl) (HSub.refl _) rfl (y_assign rfl) rfl ?_
  refine H_y 15 rfl (by kernel_rfl) (by kernel_rfl) (by kernel_rfl) (HSub.refl _) rfl (y_assign rfl) rfl ?_
  refine H_done (by kernel_rfl) ?_
  refine C_ret ?_
  refine B_ret (rv_tmp rfl (rv_tmp rfl rv_nil)) (HSub.refl _) ?_
  exact ⟨by simp; rfl, rfl⟩

theorem stale_nil {w0 : World} {H : Hp}  : FnS Try.prog w0 28 #[.pointer none] H (fun e H' => e = .returned (.tuple #[.int .i64 0, .int .i64 0]) ∧ H' = H) := by
  refine FnS_intro (n := 20) (rs := [.tmp 2, .tmp 3]) (vs := [.pointer none]) Try.func28 rfl Try.ntmps28 rfl rfl ?_
  refine C_seq ?_
  refine C_region ?_
  refine L_y rfl (y_assign rfl) rfl ?_
  refine L_y rfl (y_assign rfl) rfl ?_
  refine L_nil ?_
  refine C_seq ?_
  refine C_seq ?_
  refine C_region ?_
  refine L_y rfl (y_move rfl) rfl ?_
  refine L_y rfl (y_eqp rfl rfl Try.underlying25) rfl ?_
  refine L_nil ?_
  refine C_cond_t rfl ?_
  refine C_seq ?_
  refine C_region ?_
  refine L_y rfl (y_assign rfl) rfl ?_
  refine L_y rfl (y_assign rfl) rfl ?_
  refine L_nil ?_
  refine C_ret ?_
  refine B_ret (rv_tmp rfl (rv_tmp rfl rv_nil)) (HSub.refl _) ?_
  exact ⟨rfl, rfl⟩

end Go.Proofs.Ytoaalclbplgegaa
