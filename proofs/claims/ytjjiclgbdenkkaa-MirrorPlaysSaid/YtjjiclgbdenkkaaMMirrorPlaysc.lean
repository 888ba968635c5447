/- Own work: texts RhW, RbW, RyW, put together. -/
import Derived.Test.YtjjiclgbdenkkaaMMirrorPlaysb
/- walks (own work; the walks' lines by a program of this repo). -/
set_option linter.unusedVariables false
set_option linter.unusedSimpArgs false
set_option maxRecDepth 20000
namespace Go.Proofs.Ytjjiclgbdenkkaa
open Go.Sl
attribute [local irreducible] BodyQ WpC WpL WpS WpH OpW FnS


theorem rheal_no {w0 : World} {H : Hp} {o : Ro} {K : Nat} {r : Rm} (ok : RmOk r K) (n : Int) (hb : r.has n = false) : FnS Try.prog w0 69 #[ptr o.b, .int .i64 n] (o.hp 126 32 4 K r H) (fun e H' => e = .returned (.tuple #[.int .i64 (Rm.healR r goodP n).1, .int .i64 (Rm.healR r goodP n).2]) ∧ H' = (o.hp 126 32 4 K (Rm.heal r goodP n) H)) := by
  refine FnS_intro (n := 125) (rs := [.tmp 4, .tmp 5]) (vs := [ptr o.b, .int .i64 n]) Try.func69 rfl Try.ntmps69 rfl rfl ?_
  refine C_seq (C_region (LY rfl (y_assign rfl) (LY rfl (y_assign rfl) (L_nil (C_seq (C_seq (C_region (LY rfl (y_move rfl) (LY rfl (y_move rfl) ?_)))))))))
  refine L_op rfl (op_call rfl rfl (fun a w => Try.call71 a w) rfl ?_)
  refine (FnS.sub (hsub_pick [0, 0, 0, 0, 0] rfl) (rthere_s ok _)).mono ?_
  rintro _ _ ⟨e4, rfl⟩
  rw [hb] at e4
  obtain rfl := e4
  refine ⟨_, rfl, ?_⟩
  refine LY rfl (y_not rfl) (L_nil (C_cond_t rfl (C_seq (C_region (LY rfl (y_assign rfl) (LY rfl (y_assign rfl) (L_nil (C_ret ?_))))))))
  refine B_ret (rv_tmp rfl (rv_tmp rfl rv_nil)) ((hsub (.cons_cons _ (.cons_cons _ (.cons_cons _ (.cons_cons _ (.cons_cons _ (.refl _))))))).trans (hsub_pick [0, 0, 0, 0, 0] rfl)) ?_
  have e0 : r.healTo goodP n = none := by unfold Rm.healTo; rw [hb]; rfl
  have e1 : r.heal goodP n = r := by unfold Rm.heal; rw [e0]
  rw [e1]
  exact ⟨by unfold Rm.healR; rw [hb]; rfl, rfl⟩

theorem rheal_tf {w0 : World} {H : Hp} {o : Ro} {K : Nat} {l0 l1 : List Sec} {s0 s1 : List Bool} (ok : RmOk (⟨⟨l0, true, s0⟩, ⟨l1, false, s1⟩⟩ : Rm) K) (n : Nat) (hn : n < K) (hb : Rm.has (⟨⟨l0, true, s0⟩, ⟨l1, false, s1⟩⟩ : Rm) (n : Int) = true) : FnS Try.prog w0 69 #[ptr o.b, .int .i64 (n : Int)] (o.hp 126 32 4 K (⟨⟨l0, true, s0⟩, ⟨l1, false, s1⟩⟩ : Rm) H) (fun e H' => e = .returned (.tuple #[.int .i64 (Rm.healR (⟨⟨l0, true, s0⟩, ⟨l1, false, s1⟩⟩ : Rm) goodP n).1, .int .i64 (Rm.healR (⟨⟨l0, true, s0⟩, ⟨l1, false, s1⟩⟩ : Rm) goodP n).2]) ∧ H' = (o.hp 126 32 4 K (Rm.heal (⟨⟨l0, true, s0⟩, ⟨l1, false, s1⟩⟩ : Rm) goodP n) H)) := by
  have hl0 : l0.length = K := ok.l0
  have hl1 : l1.length = K := ok.l1
  have hs0 : s0.length = K := ok.s0
  have hs1 : s1.length = K := ok.s1
  have ok0 : ∀ s ∈ l0, s.length = 128 := ok.ok0
  have ok1 : ∀ s ∈ l1, s.length = 128 := ok.ok1
  have hK := ok.le
  refine FnS_intro (n := 125) (rs := [.tmp 4, .tmp 5]) (vs := [ptr o.b, .int .i64 (n : Int)]) Try.func69 rfl Try.ntmps69 rfl rfl ?_
  refine C_seq (C_region (LY rfl (y_assign rfl) (LY rfl (y_assign rfl) (L_nil (C_seq (C_seq (C_region (LY rfl (y_move rfl) (LY rfl (y_move rfl) ?_)))))))))
  refine L_op rfl (op_call rfl rfl (fun a w => Try.call71 a w) rfl ?_)
  refine (FnS.sub (hsub_pick [0, 0, 0, 0, 0] rfl) (rthere_s ok _)).mono ?_
  rintro _ _ ⟨e4, rfl⟩
  rw [hb] at e4
  obtain rfl := e4
  refine ⟨_, rfl, ?_⟩
  refine LY rfl (y_not rfl) (L_nil (C_cond_f rfl (C_skip (C_seq (C_seq (C_region (LY rfl (y_move rfl) (LY rfl (y_nilCheck rfl) (LY rfl (y_fieldAddr rfl fl_126_1) ?_)))))))))
  refine LY rfl (y_indexA rfl rfl Try.underlying62 sz_4 (by omega) (by omega) (show _ = 2 from rfl)) ?_
  refine LY rfl (y_load rfl ag_4 (sees 0 0 rfl) rfl) (LY rfl (y_move rfl) (L_skip rfl rfl (L_skip rfl rfl (L_skip rfl rfl (L_skip rfl rfl (L_skip rfl rfl (LY rfl (y_pick_t rfl rfl) (L_nil (C_cond_t rfl (C_seq (C_region (LY rfl (y_assign rfl) (LY rfl (y_assign rfl) (L_nil (C_ret ?_)))))))))))))))
  refine B_ret (rv_tmp rfl (rv_tmp rfl rv_nil)) ((hsub (.cons_cons _ (.cons_cons _ (.cons_cons _ (.cons_cons _ (.cons_cons _ (.refl _))))))).trans (hsub_pick [0, 0, 0, 0, 0] rfl)) ?_
  have e0 : Rm.healTo (⟨⟨l0, true, s0⟩, ⟨l1, false, s1⟩⟩ : Rm) goodP n = none := by unfold Rm.healTo; rw [hb]; rfl
  have e1 : Rm.heal (⟨⟨l0, true, s0⟩, ⟨l1, false, s1⟩⟩ : Rm) goodP n = (⟨⟨l0, true, s0⟩, ⟨l1, false, s1⟩⟩ : Rm) := by unfold Rm.heal; rw [e0]
  rw [e1]
  exact ⟨by unfold Rm.healR; rw [hb]; rfl, rfl⟩

theorem rheal_ft {w0 : World} {H : Hp} {o : Ro} {K : Nat} {l0 l1 : List Sec} {s0 s1 : List Bool} (ok : RmOk (⟨⟨l0, false, s0⟩, ⟨l1, true, s1⟩⟩ : Rm) K) (n : Nat) (hn : n < K) (hb : Rm.has (⟨⟨l0, false, s0⟩, ⟨l1, true, s1⟩⟩ : Rm) (n : Int) = true) : FnS Try.prog w0 69 #[ptr o.b, .int .i64 (n : Int)] (o.hp 126 32 4 K (⟨⟨l0, false, s0⟩, ⟨l1, true, s1⟩⟩ : Rm) H) (fun e H' => e = .returned (.tuple #[.int .i64 (Rm.healR (⟨⟨l0, false, s0⟩, ⟨l1, true, s1⟩⟩ : Rm) goodP n).1, .int .i64 (Rm.healR (⟨⟨l0, false, s0⟩, ⟨l1, true, s1⟩⟩ : Rm) goodP n).2]) ∧ H' = (o.hp 126 32 4 K (Rm.heal (⟨⟨l0, false, s0⟩, ⟨l1, true, s1⟩⟩ : Rm) goodP n) H)) := by
  have hl0 : l0.length = K := ok.l0
  have hl1 : l1.length = K := ok.l1
  have hs0 : s0.length = K := ok.s0
  have hs1 : s1.length = K := ok.s1
  have ok0 : ∀ s ∈ l0, s.length = 128 := ok.ok0
  have ok1 : ∀ s ∈ l1, s.length = 128 := ok.ok1
  have hK := ok.le
  refine FnS_intro (n := 125) (rs := [.tmp 4, .tmp 5]) (vs := [ptr o.b, .int .i64 (n : Int)]) Try.func69 rfl Try.ntmps69 rfl rfl ?_
  refine C_seq (C_region (LY rfl (y_assign rfl) (LY rfl (y_assign rfl) (L_nil (C_seq (C_seq (C_region (LY rfl (y_move rfl) (LY rfl (y_move rfl) ?_)))))))))
  refine L_op rfl (op_call rfl rfl (fun a w => Try.call71 a w) rfl ?_)
  refine (FnS.sub (hsub_pick [0, 0, 0, 0, 0] rfl) (rthere_s ok _)).mono ?_
  rintro _ _ ⟨e4, rfl⟩
  rw [hb] at e4
  obtain rfl := e4
  refine ⟨_, rfl, ?_⟩
  refine LY rfl (y_not rfl) (L_nil (C_cond_f rfl (C_skip (C_seq (C_seq (C_region (LY rfl (y_move rfl) (LY rfl (y_nilCheck rfl) (LY rfl (y_fieldAddr rfl fl_126_1) ?_)))))))))
  refine LY rfl (y_indexA rfl rfl Try.underlying62 sz_4 (by omega) (by omega) (show _ = 2 from rfl)) ?_
  refine LY rfl (y_load rfl ag_4 (sees 0 0 rfl) rfl) (LY rfl (y_move rfl) (LY rfl (y_move rfl) (LY rfl (y_nilCheck rfl) (LY rfl (y_fieldAddr rfl fl_126_1) ?_))))
  refine LY rfl (y_indexA rfl rfl Try.underlying62 sz_4 (by omega) (by omega) (show _ = 3 from rfl)) ?_
  refine LY rfl (y_load rfl ag_4 (sees 0 0 rfl) rfl) (LY rfl (y_pick_f rfl rfl) (L_nil (C_cond_t rfl (C_seq (C_region (LY rfl (y_assign rfl) (LY rfl (y_assign rfl) (L_nil (C_ret ?_)))))))))
  refine B_ret (rv_tmp rfl (rv_tmp rfl rv_nil)) ((hsub (.cons_cons _ (.cons_cons _ (.cons_cons _ (.cons_cons _ (.cons_cons _ (.refl _))))))).trans (hsub_pick [0, 0, 0, 0, 0] rfl)) ?_
  have e0 : Rm.healTo (⟨⟨l0, false, s0⟩, ⟨l1, true, s1⟩⟩ : Rm) goodP n = none := by unfold Rm.healTo; rw [hb]; rfl
  have e1 : Rm.heal (⟨⟨l0, false, s0⟩, ⟨l1, true, s1⟩⟩ : Rm) goodP n = (⟨⟨l0, false, s0⟩, ⟨l1, true, s1⟩⟩ : Rm) := by unfold Rm.heal; rw [e0]
  rw [e1]
  exact ⟨by unfold Rm.healR; rw [hb]; rfl, rfl⟩

theorem rheal_tt {w0 : World} {H : Hp} {o : Ro} {K : Nat} {l0 l1 : List Sec} {s0 s1 : List Bool} (ok : RmOk (⟨⟨l0, true, s0⟩, ⟨l1, true, s1⟩⟩ : Rm) K) (n : Nat) (hn : n < K) (hb : Rm.has (⟨⟨l0, true, s0⟩, ⟨l1, true, s1⟩⟩ : Rm) (n : Int) = true) : FnS Try.prog w0 69 #[ptr o.b, .int .i64 (n : Int)] (o.hp 126 32 4 K (⟨⟨l0, true, s0⟩, ⟨l1, true, s1⟩⟩ : Rm) H) (fun e H' => e = .returned (.tuple #[.int .i64 (Rm.healR (⟨⟨l0, true, s0⟩, ⟨l1, true, s1⟩⟩ : Rm) goodP n).1, .int .i64 (Rm.healR (⟨⟨l0, true, s0⟩, ⟨l1, true, s1⟩⟩ : Rm) goodP n).2]) ∧ H' = (o.hp 126 32 4 K (Rm.heal (⟨⟨l0, true, s0⟩, ⟨l1, true, s1⟩⟩ : Rm) goodP n) H)) := by
  have hl0 : l0.length = K := ok.l0
  have hl1 : l1.length = K := ok.l1
  have hs0 : s0.length = K := ok.s0
  have hs1 : s1.length = K := ok.s1
  have ok0 : ∀ s ∈ l0, s.length = 128 := ok.ok0
  have ok1 : ∀ s ∈ l1, s.length = 128 := ok.ok1
  have hK := ok.le
  refine FnS_intro (n := 125) (rs := [.tmp 4, .tmp 5]) (vs := [ptr o.b, .int .i64 (n : Int)]) Try.func69 rfl Try.ntmps69 rfl rfl ?_
  refine C_seq (C_region (LY rfl (y_assign rfl) (LY rfl (y_assign rfl) (L_nil (C_seq (C_seq (C_region (LY rfl (y_move rfl) (LY rfl (y_move rfl) ?_)))))))))
  refine L_op rfl (op_call rfl rfl (fun a w => Try.call71 a w) rfl ?_)
  refine (FnS.sub (hsub_pick [0, 0, 0, 0, 0] rfl) (rthere_s ok _)).mono ?_
  rintro _ _ ⟨e4, rfl⟩
  rw [hb] at e4
  obtain rfl := e4
  refine ⟨_, rfl, ?_⟩
  refine LY rfl (y_not rfl) (L_nil (C_cond_f rfl (C_skip (C_seq (C_seq (C_region (LY rfl (y_move rfl) (LY rfl (y_nilCheck rfl) (LY rfl (y_fieldAddr rfl fl_126_1) ?_)))))))))
  refine LY rfl (y_indexA rfl rfl Try.underlying62 sz_4 (by omega) (by omega) (show _ = 2 from rfl)) ?_
  refine LY rfl (y_load rfl ag_4 (sees 0 0 rfl) rfl) (LY rfl (y_move rfl) (L_skip rfl rfl (L_skip rfl rfl (L_skip rfl rfl (L_skip rfl rfl (L_skip rfl rfl (LY rfl (y_pick_t rfl rfl) (L_nil (C_cond_t rfl (C_seq (C_region (LY rfl (y_assign rfl) (LY rfl (y_assign rfl) (L_nil (C_ret ?_)))))))))))))))
  refine B_ret (rv_tmp rfl (rv_tmp rfl rv_nil)) ((hsub (.cons_cons _ (.cons_cons _ (.cons_cons _ (.cons_cons _ (.cons_cons _ (.refl _))))))).trans (hsub_pick [0, 0, 0, 0, 0] rfl)) ?_
  have e0 : Rm.healTo (⟨⟨l0, true, s0⟩, ⟨l1, true, s1⟩⟩ : Rm) goodP n = none := by unfold Rm.healTo; rw [hb]; rfl
  have e1 : Rm.heal (⟨⟨l0, true, s0⟩, ⟨l1, true, s1⟩⟩ : Rm) goodP n = (⟨⟨l0, true, s0⟩, ⟨l1, true, s1⟩⟩ : Rm) := by unfold Rm.heal; rw [e0]
  rw [e1]
  exact ⟨by unfold Rm.healR; rw [hb]; rfl, rfl⟩

theorem rheal_ff00 {w0 : World} {H : Hp} {o : Ro} {K : Nat} {l0 l1 : List Sec} {s0 s1 : List Bool} (ok : RmOk (⟨⟨l0, false, s0⟩, ⟨l1, false, s1⟩⟩ : Rm) K) (n : Nat) (hn : n < K) (hb : Rm.has (⟨⟨l0, false, s0⟩, ⟨l1, false, s1⟩⟩ : Rm) (n : Int) = true) (h0 : s0.getD n false = true) (h1 : s1.getD n false = true) : FnS Try.prog w0 69 #[ptr o.b, .int .i64 (n : Int)] (o.hp 126 32 4 K (⟨⟨l0, false, s0⟩, ⟨l1, false, s1⟩⟩ : Rm) H) (fun e H' => e = .returned (.tuple #[.int .i64 (Rm.healR (⟨⟨l0, false, s0⟩, ⟨l1, false, s1⟩⟩ : Rm) goodP n).1, .int .i64 (Rm.healR (⟨⟨l0, false, s0⟩, ⟨l1, false, s1⟩⟩ : Rm) goodP n).2]) ∧ H' = (o.hp 126 32 4 K (Rm.heal (⟨⟨l0, false, s0⟩, ⟨l1, false, s1⟩⟩ : Rm) goodP n) H)) := by
  have hl0 : l0.length = K := ok.l0
  have hl1 : l1.length = K := ok.l1
  have hs0 : s0.length = K := ok.s0
  have hs1 : s1.length = K := ok.s1
  have ok0 : ∀ s ∈ l0, s.length = 128 := ok.ok0
  have ok1 : ∀ s ∈ l1, s.length = 128 := ok.ok1
  have hK := ok.le
  refine FnS_intro (n := 125) (rs := [.tmp 4, .tmp 5]) (vs := [ptr o.b, .int .i64 (n : Int)]) Try.func69 rfl Try.ntmps69 rfl rfl ?_
  refine C_seq (C_region (LY rfl (y_assign rfl) (LY rfl (y_assign rfl) (L_nil (C_seq (C_seq (C_region (LY rfl (y_move rfl) (LY rfl (y_move rfl) ?_)))))))))
  refine L_op rfl (op_call rfl rfl (fun a w => Try.call71 a w) rfl ?_)
  refine (FnS.sub (hsub_pick [0, 0, 0, 0, 0] rfl) (rthere_s ok _)).mono ?_
  rintro _ _ ⟨e4, rfl⟩
  rw [hb] at e4
  obtain rfl := e4
  refine ⟨_, rfl, ?_⟩
  refine LY rfl (y_not rfl) (L_nil (C_cond_f rfl (C_skip (C_seq (C_seq (C_region (LY rfl (y_move rfl) (LY rfl (y_nilCheck rfl) (LY rfl (y_fieldAddr rfl fl_126_1) ?_)))))))))
  refine LY rfl (y_indexA rfl rfl Try.underlying62 sz_4 (by omega) (by omega) (show _ = 2 from rfl)) ?_
  refine LY rfl (y_load rfl ag_4 (sees 0 0 rfl) rfl) (LY rfl (y_move rfl) (LY rfl (y_move rfl) (LY rfl (y_nilCheck rfl) (LY rfl (y_fieldAddr rfl fl_126_1) ?_))))
  refine LY rfl (y_indexA rfl rfl Try.underlying62 sz_4 (by omega) (by omega) (show _ = 3 from rfl)) ?_
  refine LY rfl (y_load rfl ag_4 (sees 0 0 rfl) rfl) (LY rfl (y_pick_f rfl rfl) (L_nil (C_cond_f rfl (C_skip (C_seq (C_region (LY rfl (y_move rfl) (LY rfl (y_nilCheck rfl) (LY rfl (y_fieldAddr rfl fl_126_2) ?_)))))))))
  refine LY rfl (y_indexA rfl rfl Try.underlying124 sz_123 (by omega) (by omega) (show _ = 4 from rfl)) ?_
  refine LY rfl (y_load rfl ag_123 (sees 0 0 rfl) rfl) (LY rfl (y_move rfl) ?_)
  refine LY rfl (y_indexS rfl rfl Try.underlying123 sz_4 (by omega) (by omega) (show _ = n from by simp)) ?_
  refine LY rfl (y_load rfl ag_4 (sees 3 0 rfl) (show _ = some (Value.bool true) from by rw [← h0]; exact bls_get (by first | omega | (dsimp only; omega)))) ?_
  refine LY rfl (y_not rfl) (LY rfl (y_move rfl) (L_skip rfl rfl (L_skip rfl rfl (L_skip rfl rfl (L_skip rfl rfl (L_skip rfl rfl (L_skip rfl rfl (L_skip rfl rfl (L_skip rfl rfl (L_skip rfl rfl (L_skip rfl rfl (LY rfl (y_pick_f rfl rfl) (LY rfl (y_assign rfl) (L_nil (C_seq (C_region (LY rfl (y_move rfl) (LY rfl (y_nilCheck rfl) (LY rfl (y_fieldAddr rfl fl_126_2) ?_)))))))))))))))))))
  refine LY rfl (y_indexA rfl rfl Try.underlying124 sz_123 (by omega) (by omega) (show _ = 5 from rfl)) ?_
  refine LY rfl (y_load rfl ag_123 (sees 0 0 rfl) rfl) (LY rfl (y_move rfl) ?_)
  refine LY rfl (y_indexS rfl rfl Try.underlying123 sz_4 (by omega) (by omega) (show _ = n from by simp)) ?_
  refine LY rfl (y_load rfl ag_4 (sees 4 0 rfl) (show _ = some (Value.bool true) from by rw [← h1]; exact bls_get (by first | omega | (dsimp only; omega)))) ?_
  refine LY rfl (y_not rfl) (LY rfl (y_move rfl) (L_skip rfl rfl (L_skip rfl rfl (L_skip rfl rfl (L_skip rfl rfl (L_skip rfl rfl (L_skip rfl rfl (L_skip rfl rfl (L_skip rfl rfl (L_skip rfl rfl (L_skip rfl rfl (LY rfl (y_pick_f rfl rfl) (LY rfl (y_assign rfl) (L_nil (C_seq (C_seq (C_region (LY rfl (y_move rfl) (LY rfl (y_not rfl) (LY rfl (y_move rfl) (LY rfl (y_move rfl) (LY rfl (y_not rfl) (LY rfl (y_pick_t rfl rfl) (L_nil (C_cond_t rfl (C_seq (C_region (LY rfl (y_assign rfl) (LY rfl (y_assign rfl) (L_nil (C_ret ?_)))))))))))))))))))))))))))))))
  refine B_ret (rv_tmp rfl (rv_tmp rfl rv_nil)) ((hsub (.cons_cons _ (.cons_cons _ (.cons_cons _ (.cons_cons _ (.cons_cons _ (.refl _))))))).trans (hsub_pick [0, 0, 0, 0, 0] rfl)) ?_
  have e0 : Rm.healTo (⟨⟨l0, false, s0⟩, ⟨l1, false, s1⟩⟩ : Rm) goodP n = none := by unfold Rm.healTo; rw [hb]; simp_all [Rs.tells, Rs.old, Rs.at]
  have e1 : Rm.heal (⟨⟨l0, false, s0⟩, ⟨l1, false, s1⟩⟩ : Rm) goodP n = (⟨⟨l0, false, s0⟩, ⟨l1, false, s1⟩⟩ : Rm) := by unfold Rm.heal; rw [e0]
  have e2 : Rm.healR (⟨⟨l0, false, s0⟩, ⟨l1, false, s1⟩⟩ : Rm) goodP n = (2, 0) := by unfold Rm.healR; rw [hb]; simp_all [Rs.tells, Rs.old, Rs.at]
  rw [e1, e2]
  exact ⟨rfl, rfl⟩

theorem rheal_ff01 {w0 : World} {H : Hp} {o : Ro} {K : Nat} {l0 l1 : List Sec} {s0 s1 : List Bool} (ok : RmOk (⟨⟨l0, false, s0⟩, ⟨l1, false, s1⟩⟩ : Rm) K) (n : Nat) (hn : n < K) (hb : Rm.has (⟨⟨l0, false, s0⟩, ⟨l1, false, s1⟩⟩ : Rm) (n : Int) = true) (h0 : s0.getD n false = true) (h1 : s1.getD n false = false) (g1 : goodP n (l1.getD n []) = false) : FnS Try.prog w0 69 #[ptr o.b, .int .i64 (n : Int)] (o.hp 126 32 4 K (⟨⟨l0, false, s0⟩, ⟨l1, false, s1⟩⟩ : Rm) H) (fun e H' => e = .returned (.tuple #[.int .i64 (Rm.healR (⟨⟨l0, false, s0⟩, ⟨l1, false, s1⟩⟩ : Rm) goodP n).1, .int .i64 (Rm.healR (⟨⟨l0, false, s0⟩, ⟨l1, false, s1⟩⟩ : Rm) goodP n).2]) ∧ H' = (o.hp 126 32 4 K (Rm.heal (⟨⟨l0, false, s0⟩, ⟨l1, false, s1⟩⟩ : Rm) goodP n) H)) := by
  have hl0 : l0.length = K := ok.l0
  have hl1 : l1.length = K := ok.l1
  have hs0 : s0.length = K := ok.s0
  have hs1 : s1.length = K := ok.s1
  have ok0 : ∀ s ∈ l0, s.length = 128 := ok.ok0
  have ok1 : ∀ s ∈ l1, s.length = 128 := ok.ok1
  have hK := ok.le
  refine FnS_intro (n := 125) (rs := [.tmp 4, .tmp 5]) (vs := [ptr o.b, .int .i64 (n : Int)]) Try.func69 rfl Try.ntmps69 rfl rfl ?_
  refine C_seq (C_region (LY rfl (y_assign rfl) (LY rfl (y_assign rfl) (L_nil (C_seq (C_seq (C_region (LY rfl (y_move rfl) (LY rfl (y_move rfl) ?_)))))))))
  refine L_op rfl (op_call rfl rfl (fun a w => Try.call71 a w) rfl ?_)
  refine (FnS.sub (hsub_pick [0, 0, 0, 0, 0] rfl) (rthere_s ok _)).mono ?_
  rintro _ _ ⟨e4, rfl⟩
  rw [hb] at e4
  obtain rfl := e4
  refine ⟨_, rfl, ?_⟩
  refine LY rfl (y_not rfl) (L_nil (C_cond_f rfl (C_skip (C_seq (C_seq (C_region (LY rfl (y_move rfl) (LY rfl (y_nilCheck rfl) (LY rfl (y_fieldAddr rfl fl_126_1) ?_)))))))))
  refine LY rfl (y_indexA rfl rfl Try.underlying62 sz_4 (by omega) (by omega) (show _ = 2 from rfl)) ?_
  refine LY rfl (y_load rfl ag_4 (sees 0 0 rfl) rfl) (LY rfl (y_move rfl) (LY rfl (y_move rfl) (LY rfl (y_nilCheck rfl) (LY rfl (y_fieldAddr rfl fl_126_1) ?_))))
  refine LY rfl (y_indexA rfl rfl Try.underlying62 sz_4 (by omega) (by omega) (show _ = 3 from rfl)) ?_
  refine LY rfl (y_load rfl ag_4 (sees 0 0 rfl) rfl) (LY rfl (y_pick_f rfl rfl) (L_nil (C_cond_f rfl (C_skip (C_seq (C_region (LY rfl (y_move rfl) (LY rfl (y_nilCheck rfl) (LY rfl (y_fieldAddr rfl fl_126_2) ?_)))))))))
  refine LY rfl (y_indexA rfl rfl Try.underlying124 sz_123 (by omega) (by omega) (show _ = 4 from rfl)) ?_
  refine LY rfl (y_load rfl ag_123 (sees 0 0 rfl) rfl) (LY rfl (y_move rfl) ?_)
  refine LY rfl (y_indexS rfl rfl Try.underlying123 sz_4 (by omega) (by omega) (show _ = n from by simp)) ?_
  refine LY rfl (y_load rfl ag_4 (sees 3 0 rfl) (show _ = some (Value.bool true) from by rw [← h0]; exact bls_get (by first | omega | (dsimp only; omega)))) ?_
  refine LY rfl (y_not rfl) (LY rfl (y_move rfl) (L_skip rfl rfl (L_skip rfl rfl (L_skip rfl rfl (L_skip rfl rfl (L_skip rfl rfl (L_skip rfl rfl (L_skip rfl rfl (L_skip rfl rfl (L_skip rfl rfl (L_skip rfl rfl (LY rfl (y_pick_f rfl rfl) (LY rfl (y_assign rfl) (L_nil (C_seq (C_region (LY rfl (y_move rfl) (LY rfl (y_nilCheck rfl) (LY rfl (y_fieldAddr rfl fl_126_2) ?_)))))))))))))))))))
  refine LY rfl (y_indexA rfl rfl Try.underlying124 sz_123 (by omega) (by omega) (show _ = 5 from rfl)) ?_
  refine LY rfl (y_load rfl ag_123 (sees 0 0 rfl) rfl) (LY rfl (y_move rfl) ?_)
  refine LY rfl (y_indexS rfl rfl Try.underlying123 sz_4 (by omega) (by omega) (show _ = n from by simp)) ?_
  refine LY rfl (y_load rfl ag_4 (sees 4 0 rfl) (show _ = some (Value.bool false) from by rw [← h1]; exact bls_get (by first | omega | (dsimp only; omega)))) ?_
  refine LY rfl (y_not rfl) (LY rfl (y_move rfl) (LY rfl (y_move rfl) (LY rfl (y_move rfl) (LY rfl (y_nilCheck rfl) (LY rfl (y_fieldAddr rfl fl_126_0) ?_)))))
  refine LY rfl (y_indexA rfl rfl Try.underlying122 sz_40 (by omega) (by omega) (show _ = 1 from rfl)) ?_
  refine LY rfl (y_load rfl ag_40 (sees 0 0 rfl) rfl) (LY rfl (y_move rfl) ?_)
  refine LY rfl (y_indexS rfl rfl Try.underlying40 sz_32 (by omega) (by omega) (show _ = n * 128 from by simp)) ?_
  refine LY rfl (y_loadA rfl ag_32 sz_32 (sees 2 0 rfl) (lseg_le hl1 hn ok1) (lseg_at hl1 hn ok1)) ?_
  refine L_op rfl (op_call rfl rfl (fun a w => Try.call18 a w) rfl ?_)
  refine (good09_s (n : Int) _ (lget_len hl1 hn ok1)).mono ?_
  rintro _ _ ⟨e4, e⟩
  obtain rfl := e.symm
  clear e
  rw [g1] at e4
  obtain rfl := e4
  refine ⟨_, rfl, ?_⟩
  refine LY rfl (y_pick_t rfl rfl) (LY rfl (y_assign rfl) (L_nil (C_seq (C_seq (C_region (LY rfl (y_move rfl) (LY rfl (y_not rfl) (LY rfl (y_move rfl) (LY rfl (y_move rfl) (LY rfl (y_not rfl) (LY rfl (y_pick_t rfl rfl) (L_nil (C_cond_t rfl (C_seq (C_region (LY rfl (y_assign rfl) (LY rfl (y_assign rfl) (L_nil (C_ret ?_)))))))))))))))))))
  refine B_ret (rv_tmp rfl (rv_tmp rfl rv_nil)) ((hsub (.cons_cons _ (.cons_cons _ (.cons_cons _ (.cons_cons _ (.cons_cons _ (.refl _))))))).trans (hsub_pick [0, 0, 0, 0, 0] rfl)) ?_
  have e0 : Rm.healTo (⟨⟨l0, false, s0⟩, ⟨l1, false, s1⟩⟩ : Rm) goodP n = none := by unfold Rm.healTo; rw [hb]; simp_all [Rs.tells, Rs.old, Rs.at]
  have e1 : Rm.heal (⟨⟨l0, false, s0⟩, ⟨l1, false, s1⟩⟩ : Rm) goodP n = (⟨⟨l0, false, s0⟩, ⟨l1, false, s1⟩⟩ : Rm) := by unfold Rm.heal; rw [e0]
  have e2 : Rm.healR (⟨⟨l0, false, s0⟩, ⟨l1, false, s1⟩⟩ : Rm) goodP n = (2, 0) := by unfold Rm.healR; rw [hb]; simp_all [Rs.tells, Rs.old, Rs.at]
  rw [e1, e2]
  exact ⟨rfl, rfl⟩

theorem rheal_ff02 {w0 : World} {H : Hp} {o : Ro} {K : Nat} {l0 l1 : List Sec} {s0 s1 : List Bool} (ok : RmOk (⟨⟨l0, false, s0⟩, ⟨l1, false, s1⟩⟩ : Rm) K) (n : Nat) (hn : n < K) (hb : Rm.has (⟨⟨l0, false, s0⟩, ⟨l1, false, s1⟩⟩ : Rm) (n : Int) = true) (h0 : s0.getD n false = true) (h1 : s1.getD n false = false) (g1 : goodP n (l1.getD n []) = true) : FnS Try.prog w0 69 #[ptr o.b, .int .i64 (n : Int)] (o.hp 126 32 4 K (⟨⟨l0, false, s0⟩, ⟨l1, false, s1⟩⟩ : Rm) H) (fun e H' => e = .returned (.tuple #[.int .i64 (Rm.healR (⟨⟨l0, false, s0⟩, ⟨l1, false, s1⟩⟩ : Rm) goodP n).1, .int .i64 (Rm.healR (⟨⟨l0, false, s0⟩, ⟨l1, false, s1⟩⟩ : Rm) goodP n).2]) ∧ H' = (o.hp 126 32 4 K (Rm.heal (⟨⟨l0, false, s0⟩, ⟨l1, false, s1⟩⟩ : Rm) goodP n) H)) := by
  have hl0 : l0.length = K := ok.l0
  have hl1 : l1.length = K := ok.l1
  have hs0 : s0.length = K := ok.s0
  have hs1 : s1.length = K := ok.s1
  have ok0 : ∀ s ∈ l0, s.length = 128 := ok.ok0
  have ok1 : ∀ s ∈ l1, s.length = 128 := ok.ok1
  have hK := ok.le
  refine FnS_intro (n := 125) (rs := [.tmp 4, .tmp 5]) (vs := [ptr o.b, .int .i64 (n : Int)]) Try.func69 rfl Try.ntmps69 rfl rfl ?_
  refine C_seq (C_region (LY rfl (y_assign rfl) (LY rfl (y_assign rfl) (L_nil (C_seq (C_seq (C_region (LY rfl (y_move rfl) (LY rfl (y_move rfl) ?_)))))))))
  refine L_op rfl (op_call rfl rfl (fun a w => Try.call71 a w) rfl ?_)
  refine (FnS.sub (hsub_pick [0, 0, 0, 0, 0] rfl) (rthere_s ok _)).mono ?_
  rintro _ _ ⟨e4, rfl⟩
  rw [hb] at e4
  obtain rfl := e4
  refine ⟨_, rfl, ?_⟩
  refine LY rfl (y_not rfl) (L_nil (C_cond_f rfl (C_skip (C_seq (C_seq (C_region (LY rfl (y_move rfl) (LY rfl (y_nilCheck rfl) (LY rfl (y_fieldAddr rfl fl_126_1) ?_)))))))))
  refine LY rfl (y_indexA rfl rfl Try.underlying62 sz_4 (by omega) (by omega) (show _ = 2 from rfl)) ?_
  refine LY rfl (y_load rfl ag_4 (sees 0 0 rfl) rfl) (LY rfl (y_move rfl) (LY rfl (y_move rfl) (LY rfl (y_nilCheck rfl) (LY rfl (y_fieldAddr rfl fl_126_1) ?_))))
  refine LY rfl (y_indexA rfl rfl Try.underlying62 sz_4 (by omega) (by omega) (show _ = 3 from rfl)) ?_
  refine LY rfl (y_load rfl ag_4 (sees 0 0 rfl) rfl) (LY rfl (y_pick_f rfl rfl) (L_nil (C_cond_f rfl (C_skip (C_seq (C_region (LY rfl (y_move rfl) (LY rfl (y_nilCheck rfl) (LY rfl (y_fieldAddr rfl fl_126_2) ?_)))))))))
  refine LY rfl (y_indexA rfl rfl Try.underlying124 sz_123 (by omega) (by omega) (show _ = 4 from rfl)) ?_
  refine LY rfl (y_load rfl ag_123 (sees 0 0 rfl) rfl) (LY rfl (y_move rfl) ?_)
  refine LY rfl (y_indexS rfl rfl Try.underlying123 sz_4 (by omega) (by omega) (show _ = n from by simp)) ?_
  refine LY rfl (y_load rfl ag_4 (sees 3 0 rfl) (show _ = some (Value.bool true) from by rw [← h0]; exact bls_get (by first | omega | (dsimp only; omega)))) ?_
  refine LY rfl (y_not rfl) (LY rfl (y_move rfl) (L_skip rfl rfl (L_skip rfl rfl (L_skip rfl rfl (L_skip rfl rfl (L_skip rfl rfl (L_skip rfl rfl (L_skip rfl rfl (L_skip rfl rfl (L_skip rfl rfl (L_skip rfl rfl (LY rfl (y_pick_f rfl rfl) (LY rfl (y_assign rfl) (L_nil (C_seq (C_region (LY rfl (y_move rfl) (LY rfl (y_nilCheck rfl) (LY rfl (y_fieldAddr rfl fl_126_2) ?_)))))))))))))))))))
  refine LY rfl (y_indexA rfl rfl Try.underlying124 sz_123 (by omega) (by omega) (show _ = 5 from rfl)) ?_
  refine LY rfl (y_load rfl ag_123 (sees 0 0 rfl) rfl) (LY rfl (y_move rfl) ?_)
  refine LY rfl (y_indexS rfl rfl Try.underlying123 sz_4 (by omega) (by omega) (show _ = n from by simp)) ?_
  refine LY rfl (y_load rfl ag_4 (sees 4 0 rfl) (show _ = some (Value.bool false) from by rw [← h1]; exact bls_get (by first | omega | (dsimp only; omega)))) ?_
  refine LY rfl (y_not rfl) (LY rfl (y_move rfl) (LY rfl (y_move rfl) (LY rfl (y_move rfl) (LY rfl (y_nilCheck rfl) (LY rfl (y_fieldAddr rfl fl_126_0) ?_)))))
  refine LY rfl (y_indexA rfl rfl Try.underlying122 sz_40 (by omega) (by omega) (show _ = 1 from rfl)) ?_
  refine LY rfl (y_load rfl ag_40 (sees 0 0 rfl) rfl) (LY rfl (y_move rfl) ?_)
  refine LY rfl (y_indexS rfl rfl Try.underlying40 sz_32 (by omega) (by omega) (show _ = n * 128 from by simp)) ?_
  refine LY rfl (y_loadA rfl ag_32 sz_32 (sees 2 0 rfl) (lseg_le hl1 hn ok1) (lseg_at hl1 hn ok1)) ?_
  refine L_op rfl (op_call rfl rfl (fun a w => Try.call18 a w) rfl ?_)
  refine (good09_s (n : Int) _ (lget_len hl1 hn ok1)).mono ?_
  rintro _ _ ⟨e4, e⟩
  obtain rfl := e.symm
  clear e
  rw [g1] at e4
  obtain rfl := e4
  refine ⟨_, rfl, ?_⟩
  refine LY rfl (y_pick_t rfl rfl) (LY rfl (y_assign rfl) (L_nil (C_seq (C_seq (C_region (LY rfl (y_move rfl) (LY rfl (y_not rfl) (LY rfl (y_move rfl) (LY rfl (y_move rfl) (LY rfl (y_not rfl) (LY rfl (y_pick_t rfl rfl) (L_nil (C_cond_f rfl (C_skip (C_seq (C_seq ?_))))))))))))))))
  refine C_regionH0 (by kernel_rfl) ?_
  refine HY 0 rfl (HSub.refl _) rfl (y_move rfl) ?_
  refine HY 1 rfl (HSub.refl _) rfl (y_move rfl) ?_
  refine HK 2 rfl (HSub.refl _) rfl ?_
  refine HY 3 rfl (HSub.refl _) rfl (y_pick_f rfl rfl) ?_
  refine HY 4 rfl (HSub.refl _) rfl (y_move rfl) ?_
  refine HK 5 rfl (HSub.refl _) rfl ?_
  refine HK 6 rfl (HSub.refl _) rfl ?_
  refine HK 7 rfl (HSub.refl _) rfl ?_
  refine HK 8 rfl (HSub.refl _) rfl ?_
  refine HK 9 rfl (HSub.refl _) rfl ?_
  refine HK 10 rfl (HSub.refl _) rfl ?_
  refine HK 11 rfl (HSub.refl _) rfl ?_
  refine HK 12 rfl (HSub.refl _) rfl ?_
  refine HK 13 rfl (HSub.refl _) rfl ?_
  refine HK 14 rfl (HSub.refl _) rfl ?_
  refine HK 15 rfl (HSub.refl _) rfl ?_
  refine HK 16 rfl (HSub.refl _) rfl ?_
  refine HK 17 rfl (HSub.refl _) rfl ?_
  refine HK 18 rfl (HSub.refl _) rfl ?_
  refine HK 19 rfl (HSub.refl _) rfl ?_
  refine HK 20 rfl (HSub.refl _) rfl ?_
  refine HK 21 rfl (HSub.refl _) rfl ?_
  refine HY 22 rfl (HSub.refl _) rfl (y_pick_f rfl rfl) ?_
  refine H_done (by kernel_rfl) ?_
  refine C_cond_f rfl (C_skip (C_seq (C_region (LY rfl (y_assign rfl) (L_nil (C_seq (C_seq (C_region (LY rfl (y_move rfl) (LY rfl (y_not rfl) (L_nil (C_cond_t rfl (C_region (LY rfl (y_assign rfl) (L_nil (C_seq ?_))))))))))))))))
  refine C_regionH ([(o.b, .cells (o.cells K (⟨⟨l0, false, s0⟩, ⟨l1, false, s1⟩⟩ : Rm)).toArray 126)] :: lseg 32 o.l1 l1 :: H) (by kernel_rfl) ?_
  refine HY 0 rfl (((hsub (.cons_cons _ (.cons_cons _ (.cons _ (.cons _ (.cons _ (.refl _))))))).trans (hsub_pick [0, 1] rfl))) rfl (y_move rfl) ?_
  refine HY 1 rfl (((hsub (.cons_cons _ (.cons_cons _ (.cons _ (.cons _ (.cons _ (.refl _))))))).trans (hsub_pick [0, 1] rfl))) rfl (y_move rfl) ?_
  refine HY 2 rfl (((hsub (.cons_cons _ (.cons_cons _ (.cons _ (.cons _ (.cons _ (.refl _))))))).trans (hsub_pick [0, 1] rfl))) rfl (y_sub rfl rfl (show _ = (0 : Int) from rfl)) ?_
  refine HY 3 rfl (((hsub (.cons_cons _ (.cons_cons _ (.cons _ (.cons _ (.cons _ (.refl _))))))).trans (hsub_pick [0, 1] rfl))) rfl (y_nilCheck rfl) ?_
  refine HY 4 rfl (((hsub (.cons_cons _ (.cons_cons _ (.cons _ (.cons _ (.cons _ (.refl _))))))).trans (hsub_pick [0, 1] rfl))) rfl (y_fieldAddr rfl fl_126_0) ?_
  refine HY 5 rfl (((hsub (.cons_cons _ (.cons_cons _ (.cons _ (.cons _ (.cons _ (.refl _))))))).trans (hsub_pick [0, 1] rfl))) rfl (y_indexA rfl rfl Try.underlying122 sz_40 (by omega) (by omega) (show _ = 0 from rfl)) ?_
  refine HY 6 rfl (((hsub (.cons_cons _ (.cons_cons _ (.cons _ (.cons _ (.cons _ (.refl _))))))).trans (hsub_pick [0, 1] rfl))) rfl (y_load rfl ag_40 (sees 0 0 rfl) rfl) ?_
  refine HY 7 rfl (((hsub (.cons_cons _ (.cons_cons _ (.cons _ (.cons _ (.cons _ (.refl _))))))).trans (hsub_pick [0, 1] rfl))) rfl (y_move rfl) ?_
  refine HY 8 rfl (((hsub (.cons_cons _ (.cons_cons _ (.cons _ (.cons _ (.cons _ (.refl _))))))).trans (hsub_pick [0, 1] rfl))) rfl (y_move rfl) ?_
  refine HY 9 rfl (((hsub (.cons_cons _ (.cons_cons _ (.cons _ (.cons _ (.cons _ (.refl _))))))).trans (hsub_pick [0, 1] rfl))) rfl (y_move rfl) ?_
  refine HY 10 rfl (((hsub (.cons_cons _ (.cons_cons _ (.cons _ (.cons _ (.cons _ (.refl _))))))).trans (hsub_pick [0, 1] rfl))) rfl (y_nilCheck rfl) ?_
  refine HY 11 rfl (((hsub (.cons_cons _ (.cons_cons _ (.cons _ (.cons _ (.cons _ (.refl _))))))).trans (hsub_pick [0, 1] rfl))) rfl (y_fieldAddr rfl fl_126_0) ?_
  refine HY 12 rfl (((hsub (.cons_cons _ (.cons_cons _ (.cons _ (.cons _ (.cons _ (.refl _))))))).trans (hsub_pick [0, 1] rfl))) rfl (y_indexA rfl rfl Try.underlying122 sz_40 (by omega) (by omega) (show _ = 1 from rfl)) ?_
  refine HY 13 rfl (((hsub (.cons_cons _ (.cons_cons _ (.cons _ (.cons _ (.cons _ (.refl _))))))).trans (hsub_pick [0, 1] rfl))) rfl (y_load rfl ag_40 (sees 0 0 rfl) rfl) ?_
  refine HY 14 rfl (((hsub (.cons_cons _ (.cons_cons _ (.cons _ (.cons _ (.cons _ (.refl _))))))).trans (hsub_pick [0, 1] rfl))) rfl (y_move rfl) ?_
  refine HY 15 rfl (((hsub (.cons_cons _ (.cons_cons _ (.cons _ (.cons _ (.cons _ (.refl _))))))).trans (hsub_pick [0, 1] rfl))) rfl (y_indexS rfl rfl Try.underlying40 sz_32 (by omega) (by omega) (show _ = n * 128 from by simp)) ?_
  refine HY 16 rfl (((hsub (.cons_cons _ (.cons_cons _ (.cons _ (.cons _ (.cons _ (.refl _))))))).trans (hsub_pick [0, 1] rfl))) rfl (y_loadA rfl ag_32 sz_32 (sees 1 0 rfl) (lseg_le hl1 hn ok1) (lseg_at hl1 hn ok1)) ?_
  refine HY 17 rfl (((hsub (.cons_cons _ (.cons_cons _ (.cons _ (.cons _ (.cons _ (.refl _))))))).trans (hsub_pick [0, 1] rfl))) rfl (y_indexS rfl rfl Try.underlying40 sz_32 (by omega) (by omega) (show _ = n * 128 from by simp)) ?_
  refine H_one 18 rfl (by kernel_rfl) rfl (op_store 1 0 rfl rfl rfl sz_32 (by rw [bs_length, (lget_len hl1 hn ok1)]) rfl (bs_one _) (by rw [bs_length, flat_len ok0, hl0]; omega) ?_)
  rw [flat_spl ok0 (by rw [hl0]; omega) (lget_len hl1 hn ok1)]
  refine ⟨((hsub (.cons_cons _ (.cons_cons _ (.cons _ (.cons _ (.cons _ (.refl _))))))).trans (hsub_pick [0, 1] rfl)), ?_⟩
  refine H_done (by kernel_rfl) ?_
  refine C_seq (C_region (LY rfl (y_move rfl) (LY rfl (y_move rfl) ?_)))
  refine LY rfl (y_sub rfl rfl (show _ = (0 : Int) from rfl)) ?_
  refine LY rfl (y_nilCheck rfl) (LY rfl (y_fieldAddr rfl fl_126_2) ?_)
  refine LY rfl (y_indexA rfl rfl Try.underlying124 sz_123 (by omega) (by omega) (show _ = 4 from rfl)) ?_
  refine LY rfl (y_load rfl ag_123 (sees 0 0 rfl) rfl) (LY rfl (y_move rfl) ?_)
  refine LY rfl (y_indexS rfl rfl Try.underlying123 sz_4 (by omega) (by omega) (show _ = n from by simp)) ?_
  refine L_op rfl (op_store1 3 0 rfl rfl rfl sz_4 rfl (by rw [bls_len]; dsimp only; omega) ?_)
  rw [bls_set]
  refine L_nil (C_seq (C_region (LY rfl (y_assign rfl) (LY rfl (y_assign rfl) (L_nil (C_ret ?_))))))
  refine B_ret (rv_tmp rfl (rv_tmp rfl rv_nil)) ((hsub (.cons_cons _ (.cons_cons _ (.cons_cons _ (.cons_cons _ (.cons_cons _ (.refl _))))))).trans (hsub_pick [0, 0, 0, 0, 0] rfl)) ?_
  have e0 : Rm.healTo (⟨⟨l0, false, s0⟩, ⟨l1, false, s1⟩⟩ : Rm) goodP n = some false := by unfold Rm.healTo; rw [hb]; simp_all [Rs.tells, Rs.old, Rs.at]
  have e1 : Rm.heal (⟨⟨l0, false, s0⟩, ⟨l1, false, s1⟩⟩ : Rm) goodP n = ⟨⟨(l0.set n (l1.getD n [])), false, (s0.set n false)⟩, ⟨l1, false, s1⟩⟩ := by unfold Rm.heal; rw [e0]; rfl
  have e2 : Rm.healR (⟨⟨l0, false, s0⟩, ⟨l1, false, s1⟩⟩ : Rm) goodP n = (1, 0) := by unfold Rm.healR; rw [hb]; simp_all [Rs.tells, Rs.old, Rs.at]
  rw [e1, e2]
  exact ⟨rfl, rfl⟩

theorem rheal_ff10 {w0 : World} {H : Hp} {o : Ro} {K : Nat} {l0 l1 : List Sec} {s0 s1 : List Bool} (ok : RmOk (⟨⟨l0, false, s0⟩, ⟨l1, false, s1⟩⟩ : Rm) K) (n : Nat) (hn : n < K) (hb : Rm.has (⟨⟨l0, false, s0⟩, ⟨l1, false, s1⟩⟩ : Rm) (n : Int) = true) (h0 : s0.getD n false = false) (g0 : goodP n (l0.getD n []) = false) (h1 : s1.getD n false = true) : FnS Try.prog w0 69 #[ptr o.b, .int .i64 (n : Int)] (o.hp 126 32 4 K (⟨⟨l0, false, s0⟩, ⟨l1, false, s1⟩⟩ : Rm) H) (fun e H' => e = .returned (.tuple #[.int .i64 (Rm.healR (⟨⟨l0, false, s0⟩, ⟨l1, false, s1⟩⟩ : Rm) goodP n).1, .int .i64 (Rm.healR (⟨⟨l0, false, s0⟩, ⟨l1, false, s1⟩⟩ : Rm) goodP n).2]) ∧ H' = (o.hp 126 32 4 K (Rm.heal (⟨⟨l0, false, s0⟩, ⟨l1, false, s1⟩⟩ : Rm) goodP n) H)) := by
  have hl0 : l0.length = K := ok.l0
  have hl1 : l1.length = K := ok.l1
  have hs0 : s0.length = K := ok.s0
  have hs1 : s1.length = K := ok.s1
  have ok0 : ∀ s ∈ l0, s.length = 128 := ok.ok0
  have ok1 : ∀ s ∈ l1, s.length = 128 := ok.ok1
  have hK := ok.le
  refine FnS_intro (n := 125) (rs := [.tmp 4, .tmp 5]) (vs := [ptr o.b, .int .i64 (n : Int)]) Try.func69 rfl Try.ntmps69 rfl rfl ?_
  refine C_seq (C_region (LY rfl (y_assign rfl) (LY rfl (y_assign rfl) (L_nil (C_seq (C_seq (C_region (LY rfl (y_move rfl) (LY rfl (y_move rfl) ?_)))))))))
  refine L_op rfl (op_call rfl rfl (fun a w => Try.call71 a w) rfl ?_)
  refine (FnS.sub (hsub_pick [0, 0, 0, 0, 0] rfl) (rthere_s ok _)).mono ?_
  rintro _ _ ⟨e4, rfl⟩
  rw [hb] at e4
  obtain rfl := e4
  refine ⟨_, rfl, ?_⟩
  refine LY rfl (y_not rfl) (L_nil (C_cond_f rfl (C_skip (C_seq (C_seq (C_region (LY rfl (y_move rfl) (LY rfl (y_nilCheck rfl) (LY rfl (y_fieldAddr rfl fl_126_1) ?_)))))))))
  refine LY rfl (y_indexA rfl rfl Try.underlying62 sz_4 (by omega) (by omega) (show _ = 2 from rfl)) ?_
  refine LY rfl (y_load rfl ag_4 (sees 0 0 rfl) rfl) (LY rfl (y_move rfl) (LY rfl (y_move rfl) (LY rfl (y_nilCheck rfl) (LY rfl (y_fieldAddr rfl fl_126_1) ?_))))
  refine LY rfl (y_indexA rfl rfl Try.underlying62 sz_4 (by omega) (by omega) (show _ = 3 from rfl)) ?_
  refine LY rfl (y_load rfl ag_4 (sees 0 0 rfl) rfl) (LY rfl (y_pick_f rfl rfl) (L_nil (C_cond_f rfl (C_skip (C_seq (C_region (LY rfl (y_move rfl) (LY rfl (y_nilCheck rfl) (LY rfl (y_fieldAddr rfl fl_126_2) ?_)))))))))
  refine LY rfl (y_indexA rfl rfl Try.underlying124 sz_123 (by omega) (by omega) (show _ = 4 from rfl)) ?_
  refine LY rfl (y_load rfl ag_123 (sees 0 0 rfl) rfl) (LY rfl (y_move rfl) ?_)
  refine LY rfl (y_indexS rfl rfl Try.underlying123 sz_4 (by omega) (by omega) (show _ = n from by simp)) ?_
  refine LY rfl (y_load rfl ag_4 (sees 3 0 rfl) (show _ = some (Value.bool false) from by rw [← h0]; exact bls_get (by first | omega | (dsimp only; omega)))) ?_
  refine LY rfl (y_not rfl) (LY rfl (y_move rfl) (LY rfl (y_move rfl) (LY rfl (y_move rfl) (LY rfl (y_nilCheck rfl) (LY rfl (y_fieldAddr rfl fl_126_0) ?_)))))
  refine LY rfl (y_indexA rfl rfl Try.underlying122 sz_40 (by omega) (by omega) (show _ = 0 from rfl)) ?_
  refine LY rfl (y_load rfl ag_40 (sees 0 0 rfl) rfl) (LY rfl (y_move rfl) ?_)
  refine LY rfl (y_indexS rfl rfl Try.underlying40 sz_32 (by omega) (by omega) (show _ = n * 128 from by simp)) ?_
  refine LY rfl (y_loadA rfl ag_32 sz_32 (sees 1 0 rfl) (lseg_le hl0 hn ok0) (lseg_at hl0 hn ok0)) ?_
  refine L_op rfl (op_call rfl rfl (fun a w => Try.call18 a w) rfl ?_)
  refine (good09_s (n : Int) _ (lget_len hl0 hn ok0)).mono ?_
  rintro _ _ ⟨e4, e⟩
  obtain rfl := e.symm
  clear e
  rw [g0] at e4
  obtain rfl := e4
  refine ⟨_, rfl, ?_⟩
  refine LY rfl (y_pick_t rfl rfl) (LY rfl (y_assign rfl) (L_nil (C_seq (C_region (LY rfl (y_move rfl) (LY rfl (y_nilCheck rfl) (LY rfl (y_fieldAddr rfl fl_126_2) ?_)))))))
  refine LY rfl (y_indexA rfl rfl Try.underlying124 sz_123 (by omega) (by omega) (show _ = 5 from rfl)) ?_
  refine LY rfl (y_load rfl ag_123 (sees 0 0 rfl) rfl) (LY rfl (y_move rfl) ?_)
  refine LY rfl (y_indexS rfl rfl Try.underlying123 sz_4 (by omega) (by omega) (show _ = n from by simp)) ?_
  refine LY rfl (y_load rfl ag_4 (sees 4 0 rfl) (show _ = some (Value.bool true) from by rw [← h1]; exact bls_get (by first | omega | (dsimp only; omega)))) ?_
  refine LY rfl (y_not rfl) (LY rfl (y_move rfl) (L_skip rfl rfl (L_skip rfl rfl (L_skip rfl rfl (L_skip rfl rfl (L_skip rfl rfl (L_skip rfl rfl (L_skip rfl rfl (L_skip rfl rfl (L_skip rfl rfl (L_skip rfl rfl (LY rfl (y_pick_f rfl rfl) (LY rfl (y_assign rfl) (L_nil (C_seq (C_seq (C_region (LY rfl (y_move rfl) (LY rfl (y_not rfl) (LY rfl (y_move rfl) (LY rfl (y_move rfl) (LY rfl (y_not rfl) (LY rfl (y_pick_t rfl rfl) (L_nil (C_cond_t rfl (C_seq (C_region (LY rfl (y_assign rfl) (LY rfl (y_assign rfl) (L_nil (C_ret ?_)))))))))))))))))))))))))))))))
  refine B_ret (rv_tmp rfl (rv_tmp rfl rv_nil)) ((hsub (.cons_cons _ (.cons_cons _ (.cons_cons _ (.cons_cons _ (.cons_cons _ (.refl _))))))).trans (hsub_pick [0, 0, 0, 0, 0] rfl)) ?_
  have e0 : Rm.healTo (⟨⟨l0, false, s0⟩, ⟨l1, false, s1⟩⟩ : Rm) goodP n = none := by unfold Rm.healTo; rw [hb]; simp_all [Rs.tells, Rs.old, Rs.at]
  have e1 : Rm.heal (⟨⟨l0, false, s0⟩, ⟨l1, false, s1⟩⟩ : Rm) goodP n = (⟨⟨l0, false, s0⟩, ⟨l1, false, s1⟩⟩ : Rm) := by unfold Rm.heal; rw [e0]
  have e2 : Rm.healR (⟨⟨l0, false, s0⟩, ⟨l1, false, s1⟩⟩ : Rm) goodP n = (2, 0) := by unfold Rm.healR; rw [hb]; simp_all [Rs.tells, Rs.old, Rs.at]
  rw [e1, e2]
  exact ⟨rfl, rfl⟩

theorem rheal_ff11 {w0 : World} {H : Hp} {o : Ro} {K : Nat} {l0 l1 : List Sec} {s0 s1 : List Bool} (ok : RmOk (⟨⟨l0, false, s0⟩, ⟨l1, false, s1⟩⟩ : Rm) K) (n : Nat) (hn : n < K) (hb : Rm.has (⟨⟨l0, false, s0⟩, ⟨l1, false, s1⟩⟩ : Rm) (n : Int) = true) (h0 : s0.getD n false = false) (g0 : goodP n (l0.getD n []) = false) (h1 : s1.getD n false = false) (g1 : goodP n (l1.getD n []) = false) : FnS Try.prog w0 69 #[ptr o.b, .int .i64 (n : Int)] (o.hp 126 32 4 K (⟨⟨l0, false, s0⟩, ⟨l1, false, s1⟩⟩ : Rm) H) (fun e H' => e = .returned (.tuple #[.int .i64 (Rm.healR (⟨⟨l0, false, s0⟩, ⟨l1, false, s1⟩⟩ : Rm) goodP n).1, .int .i64 (Rm.healR (⟨⟨l0, false, s0⟩, ⟨l1, false, s1⟩⟩ : Rm) goodP n).2]) ∧ H' = (o.hp 126 32 4 K (Rm.heal (⟨⟨l0, false, s0⟩, ⟨l1, false, s1⟩⟩ : Rm) goodP n) H)) := by
  have hl0 : l0.length = K := ok.l0
  have hl1 : l1.length = K := ok.l1
  have hs0 : s0.length = K := ok.s0
  have hs1 : s1.length = K := ok.s1
  have ok0 : ∀ s ∈ l0, s.length = 128 := ok.ok0
  have ok1 : ∀ s ∈ l1, s.length = 128 := ok.ok1
  have hK := ok.le
  refine FnS_intro (n := 125) (rs := [.tmp 4, .tmp 5]) (vs := [ptr o.b, .int .i64 (n : Int)]) Try.func69 rfl Try.ntmps69 rfl rfl ?_
  refine C_seq (C_region (LY rfl (y_assign rfl) (LY rfl (y_assign rfl) (L_nil (C_seq (C_seq (C_region (LY rfl (y_move rfl) (LY rfl (y_move rfl) ?_)))))))))
  refine L_op rfl (op_call rfl rfl (fun a w => Try.call71 a w) rfl ?_)
  refine (FnS.sub (hsub_pick [0, 0, 0, 0, 0] rfl) (rthere_s ok _)).mono ?_
  rintro _ _ ⟨e4, rfl⟩
  rw [hb] at e4
  obtain rfl := e4
  refine ⟨_, rfl, ?_⟩
  refine LY rfl (y_not rfl) (L_nil (C_cond_f rfl (C_skip (C_seq (C_seq (C_region (LY rfl (y_move rfl) (LY rfl (y_nilCheck rfl) (LY rfl (y_fieldAddr rfl fl_126_1) ?_)))))))))
  refine LY rfl (y_indexA rfl rfl Try.underlying62 sz_4 (by omega) (by omega) (show _ = 2 from rfl)) ?_
  refine LY rfl (y_load rfl ag_4 (sees 0 0 rfl) rfl) (LY rfl (y_move rfl) (LY rfl (y_move rfl) (LY rfl (y_nilCheck rfl) (LY rfl (y_fieldAddr rfl fl_126_1) ?_))))
  refine LY rfl (y_indexA rfl rfl Try.underlying62 sz_4 (by omega) (by omega) (show _ = 3 from rfl)) ?_
  refine LY rfl (y_load rfl ag_4 (sees 0 0 rfl) rfl) (LY rfl (y_pick_f rfl rfl) (L_nil (C_cond_f rfl (C_skip (C_seq (C_region (LY rfl (y_move rfl) (LY rfl (y_nilCheck rfl) (LY rfl (y_fieldAddr rfl fl_126_2) ?_)))))))))
  refine LY rfl (y_indexA rfl rfl Try.underlying124 sz_123 (by omega) (by omega) (show _ = 4 from rfl)) ?_
  refine LY rfl (y_load rfl ag_123 (sees 0 0 rfl) rfl) (LY rfl (y_move rfl) ?_)
  refine LY rfl (y_indexS rfl rfl Try.underlying123 sz_4 (by omega) (by omega) (show _ = n from by simp)) ?_
  refine LY rfl (y_load rfl ag_4 (sees 3 0 rfl) (show _ = some (Value.bool false) from by rw [← h0]; exact bls_get (by first | omega | (dsimp only; omega)))) ?_
  refine LY rfl (y_not rfl) (LY rfl (y_move rfl) (LY rfl (y_move rfl) (LY rfl (y_move rfl) (LY rfl (y_nilCheck rfl) (LY rfl (y_fieldAddr rfl fl_126_0) ?_)))))
  refine LY rfl (y_indexA rfl rfl Try.underlying122 sz_40 (by omega) (by omega) (show _ = 0 from rfl)) ?_
  refine LY rfl (y_load rfl ag_40 (sees 0 0 rfl) rfl) (LY rfl (y_move rfl) ?_)
  refine LY rfl (y_indexS rfl rfl Try.underlying40 sz_32 (by omega) (by omega) (show _ = n * 128 from by simp)) ?_
  refine LY rfl (y_loadA rfl ag_32 sz_32 (sees 1 0 rfl) (lseg_le hl0 hn ok0) (lseg_at hl0 hn ok0)) ?_
  refine L_op rfl (op_call rfl rfl (fun a w => Try.call18 a w) rfl ?_)
  refine (good09_s (n : Int) _ (lget_len hl0 hn ok0)).mono ?_
  rintro _ _ ⟨e4, e⟩
  obtain rfl := e.symm
  clear e
  rw [g0] at e4
  obtain rfl := e4
  refine ⟨_, rfl, ?_⟩
  refine LY rfl (y_pick_t rfl rfl) (LY rfl (y_assign rfl) (L_nil (C_seq (C_region (LY rfl (y_move rfl) (LY rfl (y_nilCheck rfl) (LY rfl (y_fieldAddr rfl fl_126_2) ?_)))))))
  refine LY rfl (y_indexA rfl rfl Try.underlying124 sz_123 (by omega) (by omega) (show _ = 5 from rfl)) ?_
  refine LY rfl (y_load rfl ag_123 (sees 0 0 rfl) rfl) (LY rfl (y_move rfl) ?_)
  refine LY rfl (y_indexS rfl rfl Try.underlying123 sz_4 (by omega) (by omega) (show _ = n from by simp)) ?_
  refine LY rfl (y_load rfl ag_4 (sees 4 0 rfl) (show _ = some (Value.bool false) from by rw [← h1]; exact bls_get (by first | omega | (dsimp only; omega)))) ?_
  refine LY rfl (y_not rfl) (LY rfl (y_move rfl) (LY rfl (y_move rfl) (LY rfl (y_move rfl) (LY rfl (y_nilCheck rfl) (LY rfl (y_fieldAddr rfl fl_126_0) ?_)))))
  refine LY rfl (y_indexA rfl rfl Try.underlying122 sz_40 (by omega) (by omega) (show _ = 1 from rfl)) ?_
  refine LY rfl (y_load rfl ag_40 (sees 0 0 rfl) rfl) (LY rfl (y_move rfl) ?_)
  refine LY rfl (y_indexS rfl rfl Try.underlying40 sz_32 (by omega) (by omega) (show _ = n * 128 from by simp)) ?_
  refine LY rfl (y_loadA rfl ag_32 sz_32 (sees 2 0 rfl) (lseg_le hl1 hn ok1) (lseg_at hl1 hn ok1)) ?_
  refine L_op rfl (op_call rfl rfl (fun a w => Try.call18 a w) rfl ?_)
  refine (good09_s (n : Int) _ (lget_len hl1 hn ok1)).mono ?_
  rintro _ _ ⟨e4, e⟩
  obtain rfl := e.symm
  clear e
  rw [g1] at e4
  obtain rfl := e4
  refine ⟨_, rfl, ?_⟩
  refine LY rfl (y_pick_t rfl rfl) (LY rfl (y_assign rfl) (L_nil (C_seq (C_seq (C_region (LY rfl (y_move rfl) (LY rfl (y_not rfl) (LY rfl (y_move rfl) (LY rfl (y_move rfl) (LY rfl (y_not rfl) (LY rfl (y_pick_t rfl rfl) (L_nil (C_cond_t rfl (C_seq (C_region (LY rfl (y_assign rfl) (LY rfl (y_assign rfl) (L_nil (C_ret ?_)))))))))))))))))))
  refine B_ret (rv_tmp rfl (rv_tmp rfl rv_nil)) ((hsub (.cons_cons _ (.cons_cons _ (.cons_cons _ (.cons_cons _ (.cons_cons _ (.refl _))))))).trans (hsub_pick [0, 0, 0, 0, 0] rfl)) ?_
  have e0 : Rm.healTo (⟨⟨l0, false, s0⟩, ⟨l1, false, s1⟩⟩ : Rm) goodP n = none := by unfold Rm.healTo; rw [hb]; simp_all [Rs.tells, Rs.old, Rs.at]
  have e1 : Rm.heal (⟨⟨l0, false, s0⟩, ⟨l1, false, s1⟩⟩ : Rm) goodP n = (⟨⟨l0, false, s0⟩, ⟨l1, false, s1⟩⟩ : Rm) := by unfold Rm.heal; rw [e0]
  have e2 : Rm.healR (⟨⟨l0, false, s0⟩, ⟨l1, false, s1⟩⟩ : Rm) goodP n = (2, 0) := by unfold Rm.healR; rw [hb]; simp_all [Rs.tells, Rs.old, Rs.at]
  rw [e1, e2]
  exact ⟨rfl, rfl⟩

theorem rheal_ff12 {w0 : World} {H : Hp} {o : Ro} {K : Nat} {l0 l1 : List Sec} {s0 s1 : List Bool} (ok : RmOk (⟨⟨l0, false, s0⟩, ⟨l1, false, s1⟩⟩ : Rm) K) (n : Nat) (hn : n < K) (hb : Rm.has (⟨⟨l0, false, s0⟩, ⟨l1, false, s1⟩⟩ : Rm) (n : Int) = true) (h0 : s0.getD n false = false) (g0 : goodP n (l0.getD n []) = false) (h1 : s1.getD n false = false) (g1 : goodP n (l1.getD n []) = true) : FnS Try.prog w0 69 #[ptr o.b, .int .i64 (n : Int)] (o.hp 126 32 4 K (⟨⟨l0, false, s0⟩, ⟨l1, false, s1⟩⟩ : Rm) H) (fun e H' => e = .returned (.tuple #[.int .i64 (Rm.healR (⟨⟨l0, false, s0⟩, ⟨l1, false, s1⟩⟩ : Rm) goodP n).1, .int .i64 (Rm.healR (⟨⟨l0, false, s0⟩, ⟨l1, false, s1⟩⟩ : Rm) goodP n).2]) ∧ H' = (o.hp 126 32 4 K (Rm.heal (⟨⟨l0, false, s0⟩, ⟨l1, false, s1⟩⟩ : Rm) goodP n) H)) := by
  have hl0 : l0.length = K := ok.l0
  have hl1 : l1.length = K := ok.l1
  have hs0 : s0.length = K := ok.s0
  have hs1 : s1.length = K := ok.s1
  have ok0 : ∀ s ∈ l0, s.length = 128 := ok.ok0
  have ok1 : ∀ s ∈ l1, s.length = 128 := ok.ok1
  have hK := ok.le
  refine FnS_intro (n := 125) (rs := [.tmp 4, .tmp 5]) (vs := [ptr o.b, .int .i64 (n : Int)]) Try.func69 rfl Try.ntmps69 rfl rfl ?_
  refine C_seq (C_region (LY rfl (y_assign rfl) (LY rfl (y_assign rfl) (L_nil (C_seq (C_seq (C_region (LY rfl (y_move rfl) (LY rfl (y_move rfl) ?_)))))))))
  refine L_op rfl (op_call rfl rfl (fun a w => Try.call71 a w) rfl ?_)
  refine (FnS.sub (hsub_pick [0, 0, 0, 0, 0] rfl) (rthere_s ok _)).mono ?_
  rintro _ _ ⟨e4, rfl⟩
  rw [hb] at e4
  obtain rfl := e4
  refine ⟨_, rfl, ?_⟩
  refine LY rfl (y_not rfl) (L_nil (C_cond_f rfl (C_skip (C_seq (C_seq (C_region (LY rfl (y_move rfl) (LY rfl (y_nilCheck rfl) (LY rfl (y_fieldAddr rfl fl_126_1) ?_)))))))))
  refine LY rfl (y_indexA rfl rfl Try.underlying62 sz_4 (by omega) (by omega) (show _ = 2 from rfl)) ?_
  refine LY rfl (y_load rfl ag_4 (sees 0 0 rfl) rfl) (LY rfl (y_move rfl) (LY rfl (y_move rfl) (LY rfl (y_nilCheck rfl) (LY rfl (y_fieldAddr rfl fl_126_1) ?_))))
  refine LY rfl (y_indexA rfl rfl Try.underlying62 sz_4 (by omega) (by omega) (show _ = 3 from rfl)) ?_
  refine LY rfl (y_load rfl ag_4 (sees 0 0 rfl) rfl) (LY rfl (y_pick_f rfl rfl) (L_nil (C_cond_f rfl (C_skip (C_seq (C_region (LY rfl (y_move rfl) (LY rfl (y_nilCheck rfl) (LY rfl (y_fieldAddr rfl fl_126_2) ?_)))))))))
  refine LY rfl (y_indexA rfl rfl Try.underlying124 sz_123 (by omega) (by omega) (show _ = 4 from rfl)) ?_
  refine LY rfl (y_load rfl ag_123 (sees 0 0 rfl) rfl) (LY rfl (y_move rfl) ?_)
  refine LY rfl (y_indexS rfl rfl Try.underlying123 sz_4 (by omega) (by omega) (show _ = n from by simp)) ?_
  refine LY rfl (y_load rfl ag_4 (sees 3 0 rfl) (show _ = some (Value.bool false) from by rw [← h0]; exact bls_get (by first | omega | (dsimp only; omega)))) ?_
  refine LY rfl (y_not rfl) (LY rfl (y_move rfl) (LY rfl (y_move rfl) (LY rfl (y_move rfl) (LY rfl (y_nilCheck rfl) (LY rfl (y_fieldAddr rfl fl_126_0) ?_)))))
  refine LY rfl (y_indexA rfl rfl Try.underlying122 sz_40 (by omega) (by omega) (show _ = 0 from rfl)) ?_
  refine LY rfl (y_load rfl ag_40 (sees 0 0 rfl) rfl) (LY rfl (y_move rfl) ?_)
  refine LY rfl (y_indexS rfl rfl Try.underlying40 sz_32 (by omega) (by omega) (show _ = n * 128 from by simp)) ?_
  refine LY rfl (y_loadA rfl ag_32 sz_32 (sees 1 0 rfl) (lseg_le hl0 hn ok0) (lseg_at hl0 hn ok0)) ?_
  refine L_op rfl (op_call rfl rfl (fun a w => Try.call18 a w) rfl ?_)
  refine (good09_s (n : Int) _ (lget_len hl0 hn ok0)).mono ?_
  rintro _ _ ⟨e4, e⟩
  obtain rfl := e.symm
  clear e
  rw [g0] at e4
  obtain rfl := e4
  refine ⟨_, rfl, ?_⟩
  refine LY rfl (y_pick_t rfl rfl) (LY rfl (y_assign rfl) (L_nil (C_seq (C_region (LY rfl (y_move rfl) (LY rfl (y_nilCheck rfl) (LY rfl (y_fieldAddr rfl fl_126_2) ?_)))))))
  refine LY rfl (y_indexA rfl rfl Try.underlying124 sz_123 (by omega) (by omega) (show _ = 5 from rfl)) ?_
  refine LY rfl (y_load rfl ag_123 (sees 0 0 rfl) rfl) (LY rfl (y_move rfl) ?_)
  refine LY rfl (y_indexS rfl rfl Try.underlying123 sz_4 (by omega) (by omega) (show _ = n from by simp)) ?_
  refine LY rfl (y_load rfl ag_4 (sees 4 0 rfl) (show _ = some (Value.bool false) from by rw [← h1]; exact bls_get (by first | omega | (dsimp only; omega)))) ?_
  refine LY rfl (y_not rfl) (LY rfl (y_move rfl) (LY rfl (y_move rfl) (LY rfl (y_move rfl) (LY rfl (y_nilCheck rfl) (LY rfl (y_fieldAddr rfl fl_126_0) ?_)))))
  refine LY rfl (y_indexA rfl rfl Try.underlying122 sz_40 (by omega) (by omega) (show _ = 1 from rfl)) ?_
  refine LY rfl (y_load rfl ag_40 (sees 0 0 rfl) rfl) (LY rfl (y_move rfl) ?_)
  refine LY rfl (y_indexS rfl rfl Try.underlying40 sz_32 (by omega) (by omega) (show _ = n * 128 from by simp)) ?_
  refine LY rfl (y_loadA rfl ag_32 sz_32 (sees 2 0 rfl) (lseg_le hl1 hn ok1) (lseg_at hl1 hn ok1)) ?_
  refine L_op rfl (op_call rfl rfl (fun a w => Try.call18 a w) rfl ?_)
  refine (good09_s (n : Int) _ (lget_len hl1 hn ok1)).mono ?_
  rintro _ _ ⟨e4, e⟩
  obtain rfl := e.symm
  clear e
  rw [g1] at e4
  obtain rfl := e4
  refine ⟨_, rfl, ?_⟩
  refine LY rfl (y_pick_t rfl rfl) (LY rfl (y_assign rfl) (L_nil (C_seq (C_seq (C_region (LY rfl (y_move rfl) (LY rfl (y_not rfl) (LY rfl (y_move rfl) (LY rfl (y_move rfl) (LY rfl (y_not rfl) (LY rfl (y_pick_t rfl rfl) (L_nil (C_cond_f rfl (C_skip (C_seq (C_seq ?_))))))))))))))))
  refine C_regionH0 (by kernel_rfl) ?_
  refine HY 0 rfl (HSub.refl _) rfl (y_move rfl) ?_
  refine HY 1 rfl (HSub.refl _) rfl (y_move rfl) ?_
  refine HK 2 rfl (HSub.refl _) rfl ?_
  refine HY 3 rfl (HSub.refl _) rfl (y_pick_f rfl rfl) ?_
  refine HY 4 rfl (HSub.refl _) rfl (y_move rfl) ?_
  refine HK 5 rfl (HSub.refl _) rfl ?_
  refine HK 6 rfl (HSub.refl _) rfl ?_
  refine HK 7 rfl (HSub.refl _) rfl ?_
  refine HK 8 rfl (HSub.refl _) rfl ?_
  refine HK 9 rfl (HSub.refl _) rfl ?_
  refine HK 10 rfl (HSub.refl _) rfl ?_
  refine HK 11 rfl (HSub.refl _) rfl ?_
  refine HK 12 rfl (HSub.refl _) rfl ?_
  refine HK 13 rfl (HSub.refl _) rfl ?_
  refine HK 14 rfl (HSub.refl _) rfl ?_
  refine HK 15 rfl (HSub.refl _) rfl ?_
  refine HK 16 rfl (HSub.refl _) rfl ?_
  refine HK 17 rfl (HSub.refl _) rfl ?_
  refine HK 18 rfl (HSub.refl _) rfl ?_
  refine HK 19 rfl (HSub.refl _) rfl ?_
  refine HK 20 rfl (HSub.refl _) rfl ?_
  refine HK 21 rfl (HSub.refl _) rfl ?_
  refine HY 22 rfl (HSub.refl _) rfl (y_pick_f rfl rfl) ?_
  refine H_done (by kernel_rfl) ?_
  refine C_cond_f rfl (C_skip (C_seq (C_region (LY rfl (y_assign rfl) (L_nil (C_seq (C_seq (C_region (LY rfl (y_move rfl) (LY rfl (y_not rfl) (L_nil (C_cond_t rfl (C_region (LY rfl (y_assign rfl) (L_nil (C_seq ?_))))))))))))))))
  refine C_regionH ([(o.b, .cells (o.cells K (⟨⟨l0, false, s0⟩, ⟨l1, false, s1⟩⟩ : Rm)).toArray 126)] :: lseg 32 o.l1 l1 :: H) (by kernel_rfl) ?_
  refine HY 0 rfl (((hsub (.cons_cons _ (.cons_cons _ (.cons _ (.cons _ (.cons _ (.refl _))))))).trans (hsub_pick [0, 1] rfl))) rfl (y_move rfl) ?_
  refine HY 1 rfl (((hsub (.cons_cons _ (.cons_cons _ (.cons _ (.cons _ (.cons _ (.refl _))))))).trans (hsub_pick [0, 1] rfl))) rfl (y_move rfl) ?_
  refine HY 2 rfl (((hsub (.cons_cons _ (.cons_cons _ (.cons _ (.cons _ (.cons _ (.refl _))))))).trans (hsub_pick [0, 1] rfl))) rfl (y_sub rfl rfl (show _ = (0 : Int) from rfl)) ?_
  refine HY 3 rfl (((hsub (.cons_cons _ (.cons_cons _ (.cons _ (.cons _ (.cons _ (.refl _))))))).trans (hsub_pick [0, 1] rfl))) rfl (y_nilCheck rfl) ?_
  refine HY 4 rfl (((hsub (.cons_cons _ (.cons_cons _ (.cons _ (.cons _ (.cons _ (.refl _))))))).trans (hsub_pick [0, 1] rfl))) rfl (y_fieldAddr rfl fl_126_0) ?_
  refine HY 5 rfl (((hsub (.cons_cons _ (.cons_cons _ (.cons _ (.cons _ (.cons _ (.refl _))))))).trans (hsub_pick [0, 1] rfl))) rfl (y_indexA rfl rfl Try.underlying122 sz_40 (by omega) (by omega) (show _ = 0 from rfl)) ?_
  refine HY 6 rfl (((hsub (.cons_cons _ (.cons_cons _ (.cons _ (.cons _ (.cons _ (.refl _))))))).trans (hsub_pick [0, 1] rfl))) rfl (y_load rfl ag_40 (sees 0 0 rfl) rfl) ?_
  refine HY 7 rfl (((hsub (.cons_cons _ (.cons_cons _ (.cons _ (.cons _ (.cons _ (.refl _))))))).trans (hsub_pick [0, 1] rfl))) rfl (y_move rfl) ?_
  refine HY 8 rfl (((hsub (.cons_cons _ (.cons_cons _ (.cons _ (.cons _ (.cons _ (.refl _))))))).trans (hsub_pick [0, 1] rfl))) rfl (y_move rfl) ?_
  refine HY 9 rfl (((hsub (.cons_cons _ (.cons_cons _ (.cons _ (.cons _ (.cons _ (.refl _))))))).trans (hsub_pick [0, 1] rfl))) rfl (y_move rfl) ?_
  refine HY 10 rfl (((hsub (.cons_cons _ (.cons_cons _ (.cons _ (.cons _ (.cons _ (.refl _))))))).trans (hsub_pick [0, 1] rfl))) rfl (y_nilCheck rfl) ?_
  refine HY 11 rfl (((hsub (.cons_cons _ (.cons_cons _ (.cons _ (.cons _ (.cons _ (.refl _))))))).trans (hsub_pick [0, 1] rfl))) rfl (y_fieldAddr rfl fl_126_0) ?_
  refine HY 12 rfl (((hsub (.cons_cons _ (.cons_cons _ (.cons _ (.cons _ (.cons _ (.refl _))))))).trans (hsub_pick [0, 1] rfl))) rfl (y_indexA rfl rfl Try.underlying122 sz_40 (by omega) (by omega) (show _ = 1 from rfl)) ?_
  refine HY 13 rfl (((hsub (.cons_cons _ (.cons_cons _ (.cons _ (.cons _ (.cons _ (.refl _))))))).trans (hsub_pick [0, 1] rfl))) rfl (y_load rfl ag_40 (sees 0 0 rfl) rfl) ?_
  refine HY 14 rfl (((hsub (.cons_cons _ (.cons_cons _ (.cons _ (.cons _ (.cons _ (.refl _))))))).trans (hsub_pick [0, 1] rfl))) rfl (y_move rfl) ?_
  refine HY 15 rfl (((hsub (.cons_cons _ (.cons_cons _ (.cons _ (.cons _ (.cons _ (.refl _))))))).trans (hsub_pick [0, 1] rfl))) rfl (y_indexS rfl rfl Try.underlying40 sz_32 (by omega) (by omega) (show _ = n * 128 from by simp)) ?_
  refine HY 16 rfl (((hsub (.cons_cons _ (.cons_cons _ (.cons _ (.cons _ (.cons _ (.refl _))))))).trans (hsub_pick [0, 1] rfl))) rfl (y_loadA rfl ag_32 sz_32 (sees 1 0 rfl) (lseg_le hl1 hn ok1) (lseg_at hl1 hn ok1)) ?_
  refine HY 17 rfl (((hsub (.cons_cons _ (.cons_cons _ (.cons _ (.cons _ (.cons _ (.refl _))))))).trans (hsub_pick [0, 1] rfl))) rfl (y_indexS rfl rfl Try.underlying40 sz_32 (by omega) (by omega) (show _ = n * 128 from by simp)) ?_
  refine H_one 18 rfl (by kernel_rfl) rfl (op_store 1 0 rfl rfl rfl sz_32 (by rw [bs_length, (lget_len hl1 hn ok1)]) rfl (bs_one _) (by rw [bs_length, flat_len ok0, hl0]; omega) ?_)
  rw [flat_spl ok0 (by rw [hl0]; omega) (lget_len hl1 hn ok1)]
  refine ⟨((hsub (.cons_cons _ (.cons_cons _ (.cons _ (.cons _ (.cons _ (.refl _))))))).trans (hsub_pick [0, 1] rfl)), ?_⟩
  refine H_done (by kernel_rfl) ?_
  refine C_seq (C_region (LY rfl (y_move rfl) (LY rfl (y_move rfl) ?_)))
  refine LY rfl (y_sub rfl rfl (show _ = (0 : Int) from rfl)) ?_
  refine LY rfl (y_nilCheck rfl) (LY rfl (y_fieldAddr rfl fl_126_2) ?_)
  refine LY rfl (y_indexA rfl rfl Try.underlying124 sz_123 (by omega) (by omega) (show _ = 4 from rfl)) ?_
  refine LY rfl (y_load rfl ag_123 (sees 0 0 rfl) rfl) (LY rfl (y_move rfl) ?_)
  refine LY rfl (y_indexS rfl rfl Try.underlying123 sz_4 (by omega) (by omega) (show _ = n from by simp)) ?_
  refine L_op rfl (op_store1 3 0 rfl rfl rfl sz_4 rfl (by rw [bls_len]; dsimp only; omega) ?_)
  rw [bls_set]
  refine L_nil (C_seq (C_region (LY rfl (y_assign rfl) (LY rfl (y_assign rfl) (L_nil (C_ret ?_))))))
  refine B_ret (rv_tmp rfl (rv_tmp rfl rv_nil)) ((hsub (.cons_cons _ (.cons_cons _ (.cons_cons _ (.cons_cons _ (.cons_cons _ (.refl _))))))).trans (hsub_pick [0, 0, 0, 0, 0] rfl)) ?_
  have e0 : Rm.healTo (⟨⟨l0, false, s0⟩, ⟨l1, false, s1⟩⟩ : Rm) goodP n = some false := by unfold Rm.healTo; rw [hb]; simp_all [Rs.tells, Rs.old, Rs.at]
  have e1 : Rm.heal (⟨⟨l0, false, s0⟩, ⟨l1, false, s1⟩⟩ : Rm) goodP n = ⟨⟨(l0.set n (l1.getD n [])), false, (s0.set n false)⟩, ⟨l1, false, s1⟩⟩ := by unfold Rm.heal; rw [e0]; rfl
  have e2 : Rm.healR (⟨⟨l0, false, s0⟩, ⟨l1, false, s1⟩⟩ : Rm) goodP n = (1, 0) := by unfold Rm.healR; rw [hb]; simp_all [Rs.tells, Rs.old, Rs.at]
  rw [e1, e2]
  exact ⟨rfl, rfl⟩

theorem rheal_ff20 {w0 : World} {H : Hp} {o : Ro} {K : Nat} {l0 l1 : List Sec} {s0 s1 : List Bool} (ok : RmOk (⟨⟨l0, false, s0⟩, ⟨l1, false, s1⟩⟩ : Rm) K) (n : Nat) (hn : n < K) (hb : Rm.has (⟨⟨l0, false, s0⟩, ⟨l1, false, s1⟩⟩ : Rm) (n : Int) = true) (h0 : s0.getD n false = false) (g0 : goodP n (l0.getD n []) = true) (h1 : s1.getD n false = true) : FnS Try.prog w0 69 #[ptr o.b, .int .i64 (n : Int)] (o.hp 126 32 4 K (⟨⟨l0, false, s0⟩, ⟨l1, false, s1⟩⟩ : Rm) H) (fun e H' => e = .returned (.tuple #[.int .i64 (Rm.healR (⟨⟨l0, false, s0⟩, ⟨l1, false, s1⟩⟩ : Rm) goodP n).1, .int .i64 (Rm.healR (⟨⟨l0, false, s0⟩, ⟨l1, false, s1⟩⟩ : Rm) goodP n).2]) ∧ H' = (o.hp 126 32 4 K (Rm.heal (⟨⟨l0, false, s0⟩, ⟨l1, false, s1⟩⟩ : Rm) goodP n) H)) := by
  have hl0 : l0.length = K := ok.l0
  have hl1 : l1.length = K := ok.l1
  have hs0 : s0.length = K := ok.s0
  have hs1 : s1.length = K := ok.s1
  have ok0 : ∀ s ∈ l0, s.length = 128 := ok.ok0
  have ok1 : ∀ s ∈ l1, s.length = 128 := ok.ok1
  have hK := ok.le
  refine FnS_intro (n := 125) (rs := [.tmp 4, .tmp 5]) (vs := [ptr o.b, .int .i64 (n : Int)]) Try.func69 rfl Try.ntmps69 rfl rfl ?_
  refine C_seq (C_region (LY rfl (y_assign rfl) (LY rfl (y_assign rfl) (L_nil (C_seq (C_seq (C_region (LY rfl (y_move rfl) (LY rfl (y_move rfl) ?_)))))))))
  refine L_op rfl (op_call rfl rfl (fun a w => Try.call71 a w) rfl ?_)
  refine (FnS.sub (hsub_pick [0, 0, 0, 0, 0] rfl) (rthere_s ok _)).mono ?_
  rintro _ _ ⟨e4, rfl⟩
  rw [hb] at e4
  obtain rfl := e4
  refine ⟨_, rfl, ?_⟩
  refine LY rfl (y_not rfl) (L_nil (C_cond_f rfl (C_skip (C_seq (C_seq (C_region (LY rfl (y_move rfl) (LY rfl (y_nilCheck rfl) (LY rfl (y_fieldAddr rfl fl_126_1) ?_)))))))))
  refine LY rfl (y_indexA rfl rfl Try.underlying62 sz_4 (by omega) (by omega) (show _ = 2 from rfl)) ?_
  refine LY rfl (y_load rfl ag_4 (sees 0 0 rfl) rfl) (LY rfl (y_move rfl) (LY rfl (y_move rfl) (LY rfl (y_nilCheck rfl) (LY rfl (y_fieldAddr rfl fl_126_1) ?_))))
  refine LY rfl (y_indexA rfl rfl Try.underlying62 sz_4 (by omega) (by omega) (show _ = 3 from rfl)) ?_
  refine LY rfl (y_load rfl ag_4 (sees 0 0 rfl) rfl) (LY rfl (y_pick_f rfl rfl) (L_nil (C_cond_f rfl (C_skip (C_seq (C_region (LY rfl (y_move rfl) (LY rfl (y_nilCheck rfl) (LY rfl (y_fieldAddr rfl fl_126_2) ?_)))))))))
  refine LY rfl (y_indexA rfl rfl Try.underlying124 sz_123 (by omega) (by omega) (show _ = 4 from rfl)) ?_
  refine LY rfl (y_load rfl ag_123 (sees 0 0 rfl) rfl) (LY rfl (y_move rfl) ?_)
  refine LY rfl (y_indexS rfl rfl Try.underlying123 sz_4 (by omega) (by omega) (show _ = n from by simp)) ?_
  refine LY rfl (y_load rfl ag_4 (sees 3 0 rfl) (show _ = some (Value.bool false) from by rw [← h0]; exact bls_get (by first | omega | (dsimp only; omega)))) ?_
  refine LY rfl (y_not rfl) (LY rfl (y_move rfl) (LY rfl (y_move rfl) (LY rfl (y_move rfl) (LY rfl (y_nilCheck rfl) (LY rfl (y_fieldAddr rfl fl_126_0) ?_)))))
  refine LY rfl (y_indexA rfl rfl Try.underlying122 sz_40 (by omega) (by omega) (show _ = 0 from rfl)) ?_
  refine LY rfl (y_load rfl ag_40 (sees 0 0 rfl) rfl) (LY rfl (y_move rfl) ?_)
  refine LY rfl (y_indexS rfl rfl Try.underlying40 sz_32 (by omega) (by omega) (show _ = n * 128 from by simp)) ?_
  refine LY rfl (y_loadA rfl ag_32 sz_32 (sees 1 0 rfl) (lseg_le hl0 hn ok0) (lseg_at hl0 hn ok0)) ?_
  refine L_op rfl (op_call rfl rfl (fun a w => Try.call18 a w) rfl ?_)
  refine (good09_s (n : Int) _ (lget_len hl0 hn ok0)).mono ?_
  rintro _ _ ⟨e4, e⟩
  obtain rfl := e.symm
  clear e
  rw [g0] at e4
  obtain rfl := e4
  refine ⟨_, rfl, ?_⟩
  refine LY rfl (y_pick_t rfl rfl) (LY rfl (y_assign rfl) (L_nil (C_seq (C_region (LY rfl (y_move rfl) (LY rfl (y_nilCheck rfl) (LY rfl (y_fieldAddr rfl fl_126_2) ?_)))))))
  refine LY rfl (y_indexA rfl rfl Try.underlying124 sz_123 (by omega) (by omega) (show _ = 5 from rfl)) ?_
  refine LY rfl (y_load rfl ag_123 (sees 0 0 rfl) rfl) (LY rfl (y_move rfl) ?_)
  refine LY rfl (y_indexS rfl rfl Try.underlying123 sz_4 (by omega) (by omega) (show _ = n from by simp)) ?_
  refine LY rfl (y_load rfl ag_4 (sees 4 0 rfl) (show _ = some (Value.bool true) from by rw [← h1]; exact bls_get (by first | omega | (dsimp only; omega)))) ?_
  refine LY rfl (y_not rfl) (LY rfl (y_move rfl) (L_skip rfl rfl (L_skip rfl rfl (L_skip rfl rfl (L_skip rfl rfl (L_skip rfl rfl (L_skip rfl rfl (L_skip rfl rfl (L_skip rfl rfl (L_skip rfl rfl (L_skip rfl rfl (LY rfl (y_pick_f rfl rfl) (LY rfl (y_assign rfl) (L_nil (C_seq (C_seq (C_region (LY rfl (y_move rfl) (LY rfl (y_not rfl) (LY rfl (y_move rfl) (L_skip rfl rfl (L_skip rfl rfl (LY rfl (y_pick_f rfl rfl) (L_nil (C_cond_f rfl (C_skip (C_seq (C_seq ?_))))))))))))))))))))))))))))
  refine C_regionH0 (by kernel_rfl) ?_
  refine HY 0 rfl (HSub.refl _) rfl (y_move rfl) ?_
  refine HY 1 rfl (HSub.refl _) rfl (y_move rfl) ?_
  refine HY 2 rfl (HSub.refl _) rfl (y_move rfl) ?_
  refine HY 3 rfl (HSub.refl _) rfl (y_pick_t rfl rfl) ?_
  refine HY 4 rfl (HSub.refl _) rfl (y_move rfl) ?_
  refine HK 5 rfl (HSub.refl _) rfl ?_
  refine HK 6 rfl (HSub.refl _) rfl ?_
  refine HK 7 rfl (HSub.refl _) rfl ?_
  refine HK 8 rfl (HSub.refl _) rfl ?_
  refine HK 9 rfl (HSub.refl _) rfl ?_
  refine HK 10 rfl (HSub.refl _) rfl ?_
  refine HK 11 rfl (HSub.refl _) rfl ?_
  refine HK 12 rfl (HSub.refl _) rfl ?_
  refine HK 13 rfl (HSub.refl _) rfl ?_
  refine HK 14 rfl (HSub.refl _) rfl ?_
  refine HK 15 rfl (HSub.refl _) rfl ?_
  refine HK 16 rfl (HSub.refl _) rfl ?_
  refine HK 17 rfl (HSub.refl _) rfl ?_
  refine HK 18 rfl (HSub.refl _) rfl ?_
  refine HK 19 rfl (HSub.refl _) rfl ?_
  refine HK 20 rfl (HSub.refl _) rfl ?_
  refine HK 21 rfl (HSub.refl _) rfl ?_
  refine HY 22 rfl (HSub.refl _) rfl (y_pick_f rfl rfl) ?_
  refine H_done (by kernel_rfl) ?_
  refine C_cond_f rfl (C_skip (C_seq (C_region (LY rfl (y_assign rfl) (L_nil (C_seq (C_seq (C_region (LY rfl (y_move rfl) (LY rfl (y_not rfl) (L_nil (C_cond_f rfl (C_skip (C_seq ?_))))))))))))))
  refine C_regionH ([(o.b, .cells (o.cells K (⟨⟨l0, false, s0⟩, ⟨l1, false, s1⟩⟩ : Rm)).toArray 126)] :: lseg 32 o.l0 l0 :: H) (by kernel_rfl) ?_
  refine HY 0 rfl (((hsub (.cons_cons _ (.cons_cons _ (.cons _ (.cons _ (.cons _ (.refl _))))))).trans (hsub_pick [0, 0] rfl))) rfl (y_move rfl) ?_
  refine HY 1 rfl (((hsub (.cons_cons _ (.cons_cons _ (.cons _ (.cons _ (.cons _ (.refl _))))))).trans (hsub_pick [0, 0] rfl))) rfl (y_move rfl) ?_
  refine HY 2 rfl (((hsub (.cons_cons _ (.cons_cons _ (.cons _ (.cons _ (.cons _ (.refl _))))))).trans (hsub_pick [0, 0] rfl))) rfl (y_sub rfl rfl (show _ = (1 : Int) from rfl)) ?_
  refine HY 3 rfl (((hsub (.cons_cons _ (.cons_cons _ (.cons _ (.cons _ (.cons _ (.refl _))))))).trans (hsub_pick [0, 0] rfl))) rfl (y_nilCheck rfl) ?_
  refine HY 4 rfl (((hsub (.cons_cons _ (.cons_cons _ (.cons _ (.cons _ (.cons _ (.refl _))))))).trans (hsub_pick [0, 0] rfl))) rfl (y_fieldAddr rfl fl_126_0) ?_
  refine HY 5 rfl (((hsub (.cons_cons _ (.cons_cons _ (.cons _ (.cons _ (.cons _ (.refl _))))))).trans (hsub_pick [0, 0] rfl))) rfl (y_indexA rfl rfl Try.underlying122 sz_40 (by omega) (by omega) (show _ = 1 from rfl)) ?_
  refine HY 6 rfl (((hsub (.cons_cons _ (.cons_cons _ (.cons _ (.cons _ (.cons _ (.refl _))))))).trans (hsub_pick [0, 0] rfl))) rfl (y_load rfl ag_40 (sees 0 0 rfl) rfl) ?_
  refine HY 7 rfl (((hsub (.cons_cons _ (.cons_cons _ (.cons _ (.cons _ (.cons _ (.refl _))))))).trans (hsub_pick [0, 0] rfl))) rfl (y_move rfl) ?_
  refine HY 8 rfl (((hsub (.cons_cons _ (.cons_cons _ (.cons _ (.cons _ (.cons _ (.refl _))))))).trans (hsub_pick [0, 0] rfl))) rfl (y_move rfl) ?_
  refine HY 9 rfl (((hsub (.cons_cons _ (.cons_cons _ (.cons _ (.cons _ (.cons _ (.refl _))))))).trans (hsub_pick [0, 0] rfl))) rfl (y_move rfl) ?_
  refine HY 10 rfl (((hsub (.cons_cons _ (.cons_cons _ (.cons _ (.cons _ (.cons _ (.refl _))))))).trans (hsub_pick [0, 0] rfl))) rfl (y_nilCheck rfl) ?_
  refine HY 11 rfl (((hsub (.cons_cons _ (.cons_cons _ (.cons _ (.cons _ (.cons _ (.refl _))))))).trans (hsub_pick [0, 0] rfl))) rfl (y_fieldAddr rfl fl_126_0) ?_
  refine HY 12 rfl (((hsub (.cons_cons _ (.cons_cons _ (.cons _ (.cons _ (.cons _ (.refl _))))))).trans (hsub_pick [0, 0] rfl))) rfl (y_indexA rfl rfl Try.underlying122 sz_40 (by omega) (by omega) (show _ = 0 from rfl)) ?_
  refine HY 13 rfl (((hsub (.cons_cons _ (.cons_cons _ (.cons _ (.cons _ (.cons _ (.refl _))))))).trans (hsub_pick [0, 0] rfl))) rfl (y_load rfl ag_40 (sees 0 0 rfl) rfl) ?_
  refine HY 14 rfl (((hsub (.cons_cons _ (.cons_cons _ (.cons _ (.cons _ (.cons _ (.refl _))))))).trans (hsub_pick [0, 0] rfl))) rfl (y_move rfl) ?_
  refine HY 15 rfl (((hsub (.cons_cons _ (.cons_cons _ (.cons _ (.cons _ (.cons _ (.refl _))))))).trans (hsub_pick [0, 0] rfl))) rfl (y_indexS rfl rfl Try.underlying40 sz_32 (by omega) (by omega) (show _ = n * 128 from by simp)) ?_
  refine HY 16 rfl (((hsub (.cons_cons _ (.cons_cons _ (.cons _ (.cons _ (.cons _ (.refl _))))))).trans (hsub_pick [0, 0] rfl))) rfl (y_loadA rfl ag_32 sz_32 (sees 1 0 rfl) (lseg_le hl0 hn ok0) (lseg_at hl0 hn ok0)) ?_
  refine HY 17 rfl (((hsub (.cons_cons _ (.cons_cons _ (.cons _ (.cons _ (.cons _ (.refl _))))))).trans (hsub_pick [0, 0] rfl))) rfl (y_indexS rfl rfl Try.underlying40 sz_32 (by omega) (by omega) (show _ = n * 128 from by simp)) ?_
  refine H_one 18 rfl (by kernel_rfl) rfl (op_store 2 0 rfl rfl rfl sz_32 (by rw [bs_length, (lget_len hl0 hn ok0)]) rfl (bs_one _) (by rw [bs_length, flat_len ok1, hl1]; omega) ?_)
  rw [flat_spl ok1 (by rw [hl1]; omega) (lget_len hl0 hn ok0)]
  refine ⟨((hsub (.cons_cons _ (.cons_cons _ (.cons _ (.cons _ (.cons _ (.refl _))))))).trans (hsub_pick [0, 0] rfl)), ?_⟩
  refine H_done (by kernel_rfl) ?_
  refine C_seq (C_region (LY rfl (y_move rfl) (LY rfl (y_move rfl) ?_)))
  refine LY rfl (y_sub rfl rfl (show _ = (1 : Int) from rfl)) ?_
  refine LY rfl (y_nilCheck rfl) (LY rfl (y_fieldAddr rfl fl_126_2) ?_)
  refine LY rfl (y_indexA rfl rfl Try.underlying124 sz_123 (by omega) (by omega) (show _ = 5 from rfl)) ?_
  refine LY rfl (y_load rfl ag_123 (sees 0 0 rfl) rfl) (LY rfl (y_move rfl) ?_)
  refine LY rfl (y_indexS rfl rfl Try.underlying123 sz_4 (by omega) (by omega) (show _ = n from by simp)) ?_
  refine L_op rfl (op_store1 4 0 rfl rfl rfl sz_4 rfl (by rw [bls_len]; dsimp only; omega) ?_)
  rw [bls_set]
  refine L_nil (C_seq (C_region (LY rfl (y_assign rfl) (LY rfl (y_assign rfl) (L_nil (C_ret ?_))))))
  refine B_ret (rv_tmp rfl (rv_tmp rfl rv_nil)) ((hsub (.cons_cons _ (.cons_cons _ (.cons_cons _ (.cons_cons _ (.cons_cons _ (.refl _))))))).trans (hsub_pick [0, 0, 0, 0, 0] rfl)) ?_
  have e0 : Rm.healTo (⟨⟨l0, false, s0⟩, ⟨l1, false, s1⟩⟩ : Rm) goodP n = some true := by unfold Rm.healTo; rw [hb]; simp_all [Rs.tells, Rs.old, Rs.at]
  have e1 : Rm.heal (⟨⟨l0, false, s0⟩, ⟨l1, false, s1⟩⟩ : Rm) goodP n = ⟨⟨l0, false, s0⟩, ⟨(l1.set n (l0.getD n [])), false, (s1.set n false)⟩⟩ := by unfold Rm.heal; rw [e0]; rfl
  have e2 : Rm.healR (⟨⟨l0, false, s0⟩, ⟨l1, false, s1⟩⟩ : Rm) goodP n = (1, 0) := by unfold Rm.healR; rw [hb]; simp_all [Rs.tells, Rs.old, Rs.at]
  rw [e1, e2]
  exact ⟨rfl, rfl⟩

theorem rheal_ff21 {w0 : World} {H : Hp} {o : Ro} {K : Nat} {l0 l1 : List Sec} {s0 s1 : List Bool} (ok : RmOk (⟨⟨l0, false, s0⟩, ⟨l1, false, s1⟩⟩ : Rm) K) (n : Nat) (hn : n < K) (hb : Rm.has (⟨⟨l0, false, s0⟩, ⟨l1, false, s1⟩⟩ : Rm) (n : Int) = true) (h0 : s0.getD n false = false) (g0 : goodP n (l0.getD n []) = true) (h1 : s1.getD n false = false) (g1 : goodP n (l1.getD n []) = false) : FnS Try.prog w0 69 #[ptr o.b, .int .i64 (n : Int)] (o.hp 126 32 4 K (⟨⟨l0, false, s0⟩, ⟨l1, false, s1⟩⟩ : Rm) H) (fun e H' => e = .returned (.tuple #[.int .i64 (Rm.healR (⟨⟨l0, false, s0⟩, ⟨l1, false, s1⟩⟩ : Rm) goodP n).1, .int .i64 (Rm.healR (⟨⟨l0, false, s0⟩, ⟨l1, false, s1⟩⟩ : Rm) goodP n).2]) ∧ H' = (o.hp 126 32 4 K (Rm.heal (⟨⟨l0, false, s0⟩, ⟨l1, false, s1⟩⟩ : Rm) goodP n) H)) := by
  have hl0 : l0.length = K := ok.l0
  have hl1 : l1.length = K := ok.l1
  have hs0 : s0.length = K := ok.s0
  have hs1 : s1.length = K := ok.s1
  have ok0 : ∀ s ∈ l0, s.length = 128 := ok.ok0
  have ok1 : ∀ s ∈ l1, s.length = 128 := ok.ok1
  have hK := ok.le
  refine FnS_intro (n := 125) (rs := [.tmp 4, .tmp 5]) (vs := [ptr o.b, .int .i64 (n : Int)]) Try.func69 rfl Try.ntmps69 rfl rfl ?_
  refine C_seq (C_region (LY rfl (y_assign rfl) (LY rfl (y_assign rfl) (L_nil (C_seq (C_seq (C_region (LY rfl (y_move rfl) (LY rfl (y_move rfl) ?_)))))))))
  refine L_op rfl (op_call rfl rfl (fun a w => Try.call71 a w) rfl ?_)
  refine (FnS.sub (hsub_pick [0, 0, 0, 0, 0] rfl) (rthere_s ok _)).mono ?_
  rintro _ _ ⟨e4, rfl⟩
  rw [hb] at e4
  obtain rfl := e4
  refine ⟨_, rfl, ?_⟩
  refine LY rfl (y_not rfl) (L_nil (C_cond_f rfl (C_skip (C_seq (C_seq (C_region (LY rfl (y_move rfl) (LY rfl (y_nilCheck rfl) (LY rfl (y_fieldAddr rfl fl_126_1) ?_)))))))))
  refine LY rfl (y_indexA rfl rfl Try.underlying62 sz_4 (by omega) (by omega) (show _ = 2 from rfl)) ?_
  refine LY rfl (y_load rfl ag_4 (sees 0 0 rfl) rfl) (LY rfl (y_move rfl) (LY rfl (y_move rfl) (LY rfl (y_nilCheck rfl) (LY rfl (y_fieldAddr rfl fl_126_1) ?_))))
  refine LY rfl (y_indexA rfl rfl Try.underlying62 sz_4 (by omega) (by omega) (show _ = 3 from rfl)) ?_
  refine LY rfl (y_load rfl ag_4 (sees 0 0 rfl) rfl) (LY rfl (y_pick_f rfl rfl) (L_nil (C_cond_f rfl (C_skip (C_seq (C_region (LY rfl (y_move rfl) (LY rfl (y_nilCheck rfl) (LY rfl (y_fieldAddr rfl fl_126_2) ?_)))))))))
  refine LY rfl (y_indexA rfl rfl Try.underlying124 sz_123 (by omega) (by omega) (show _ = 4 from rfl)) ?_
  refine LY rfl (y_load rfl ag_123 (sees 0 0 rfl) rfl) (LY rfl (y_move rfl) ?_)
  refine LY rfl (y_indexS rfl rfl Try.underlying123 sz_4 (by omega) (by omega) (show _ = n from by simp)) ?_
  refine LY rfl (y_load rfl ag_4 (sees 3 0 rfl) (show _ = some (Value.bool false) from by rw [← h0]; exact bls_get (by first | omega | (dsimp only; omega)))) ?_
  refine LY rfl (y_not rfl) (LY rfl (y_move rfl) (LY rfl (y_move rfl) (LY rfl (y_move rfl) (LY rfl (y_nilCheck rfl) (LY rfl (y_fieldAddr rfl fl_126_0) ?_)))))
  refine LY rfl (y_indexA rfl rfl Try.underlying122 sz_40 (by omega) (by omega) (show _ = 0 from rfl)) ?_
  refine LY rfl (y_load rfl ag_40 (sees 0 0 rfl) rfl) (LY rfl (y_move rfl) ?_)
  refine LY rfl (y_indexS rfl rfl Try.underlying40 sz_32 (by omega) (by omega) (show _ = n * 128 from by simp)) ?_
  refine LY rfl (y_loadA rfl ag_32 sz_32 (sees 1 0 rfl) (lseg_le hl0 hn ok0) (lseg_at hl0 hn ok0)) ?_
  refine L_op rfl (op_call rfl rfl (fun a w => Try.call18 a w) rfl ?_)
  refine (good09_s (n : Int) _ (lget_len hl0 hn ok0)).mono ?_
  rintro _ _ ⟨e4, e⟩
  obtain rfl := e.symm
  clear e
  rw [g0] at e4
  obtain rfl := e4
  refine ⟨_, rfl, ?_⟩
  refine LY rfl (y_pick_t rfl rfl) (LY rfl (y_assign rfl) (L_nil (C_seq (C_region (LY rfl (y_move rfl) (LY rfl (y_nilCheck rfl) (LY rfl (y_fieldAddr rfl fl_126_2) ?_)))))))
  refine LY rfl (y_indexA rfl rfl Try.underlying124 sz_123 (by omega) (by omega) (show _ = 5 from rfl)) ?_
  refine LY rfl (y_load rfl ag_123 (sees 0 0 rfl) rfl) (LY rfl (y_move rfl) ?_)
  refine LY rfl (y_indexS rfl rfl Try.underlying123 sz_4 (by omega) (by omega) (show _ = n from by simp)) ?_
  refine LY rfl (y_load rfl ag_4 (sees 4 0 rfl) (show _ = some (Value.bool false) from by rw [← h1]; exact bls_get (by first | omega | (dsimp only; omega)))) ?_
  refine LY rfl (y_not rfl) (LY rfl (y_move rfl) (LY rfl (y_move rfl) (LY rfl (y_move rfl) (LY rfl (y_nilCheck rfl) (LY rfl (y_fieldAddr rfl fl_126_0) ?_)))))
  refine LY rfl (y_indexA rfl rfl Try.underlying122 sz_40 (by omega) (by omega) (show _ = 1 from rfl)) ?_
  refine LY rfl (y_load rfl ag_40 (sees 0 0 rfl) rfl) (LY rfl (y_move rfl) ?_)
  refine LY rfl (y_indexS rfl rfl Try.underlying40 sz_32 (by omega) (by omega) (show _ = n * 128 from by simp)) ?_
  refine LY rfl (y_loadA rfl ag_32 sz_32 (sees 2 0 rfl) (lseg_le hl1 hn ok1) (lseg_at hl1 hn ok1)) ?_
  refine L_op rfl (op_call rfl rfl (fun a w => Try.call18 a w) rfl ?_)
  refine (good09_s (n : Int) _ (lget_len hl1 hn ok1)).mono ?_
  rintro _ _ ⟨e4, e⟩
  obtain rfl := e.symm
  clear e
  rw [g1] at e4
  obtain rfl := e4
  refine ⟨_, rfl, ?_⟩
  refine LY rfl (y_pick_t rfl rfl) (LY rfl (y_assign rfl) (L_nil (C_seq (C_seq (C_region (LY rfl (y_move rfl) (LY rfl (y_not rfl) (LY rfl (y_move rfl) (L_skip rfl rfl (L_skip rfl rfl (LY rfl (y_pick_f rfl rfl) (L_nil (C_cond_f rfl (C_skip (C_seq (C_seq ?_))))))))))))))))
  refine C_regionH0 (by kernel_rfl) ?_
  refine HY 0 rfl (HSub.refl _) rfl (y_move rfl) ?_
  refine HY 1 rfl (HSub.refl _) rfl (y_move rfl) ?_
  refine HY 2 rfl (HSub.refl _) rfl (y_move rfl) ?_
  refine HY 3 rfl (HSub.refl _) rfl (y_pick_t rfl rfl) ?_
  refine HY 4 rfl (HSub.refl _) rfl (y_move rfl) ?_
  refine HK 5 rfl (HSub.refl _) rfl ?_
  refine HK 6 rfl (HSub.refl _) rfl ?_
  refine HK 7 rfl (HSub.refl _) rfl ?_
  refine HK 8 rfl (HSub.refl _) rfl ?_
  refine HK 9 rfl (HSub.refl _) rfl ?_
  refine HK 10 rfl (HSub.refl _) rfl ?_
  refine HK 11 rfl (HSub.refl _) rfl ?_
  refine HK 12 rfl (HSub.refl _) rfl ?_
  refine HK 13 rfl (HSub.refl _) rfl ?_
  refine HK 14 rfl (HSub.refl _) rfl ?_
  refine HK 15 rfl (HSub.refl _) rfl ?_
  refine HK 16 rfl (HSub.refl _) rfl ?_
  refine HK 17 rfl (HSub.refl _) rfl ?_
  refine HK 18 rfl (HSub.refl _) rfl ?_
  refine HK 19 rfl (HSub.refl _) rfl ?_
  refine HK 20 rfl (HSub.refl _) rfl ?_
  refine HK 21 rfl (HSub.refl _) rfl ?_
  refine HY 22 rfl (HSub.refl _) rfl (y_pick_f rfl rfl) ?_
  refine H_done (by kernel_rfl) ?_
  refine C_cond_f rfl (C_skip (C_seq (C_region (LY rfl (y_assign rfl) (L_nil (C_seq (C_seq (C_region (LY rfl (y_move rfl) (LY rfl (y_not rfl) (L_nil (C_cond_f rfl (C_skip (C_seq ?_))))))))))))))
  refine C_regionH ([(o.b, .cells (o.cells K (⟨⟨l0, false, s0⟩, ⟨l1, false, s1⟩⟩ : Rm)).toArray 126)] :: lseg 32 o.l0 l0 :: H) (by kernel_rfl) ?_
  refine HY 0 rfl (((hsub (.cons_cons _ (.cons_cons _ (.cons _ (.cons _ (.cons _ (.refl _))))))).trans (hsub_pick [0, 0] rfl))) rfl (y_move rfl) ?_
  refine HY 1 rfl (((hsub (.cons_cons _ (.cons_cons _ (.cons _ (.cons _ (.cons _ (.refl _))))))).trans (hsub_pick [0, 0] rfl))) rfl (y_move rfl) ?_
  refine HY 2 rfl (((hsub (.cons_cons _ (.cons_cons _ (.cons _ (.cons _ (.cons _ (.refl _))))))).trans (hsub_pick [0, 0] rfl))) rfl (y_sub rfl rfl (show _ = (1 : Int) from rfl)) ?_
  refine HY 3 rfl (((hsub (.cons_cons _ (.cons_cons _ (.cons _ (.cons _ (.cons _ (.refl _))))))).trans (hsub_pick [0, 0] rfl))) rfl (y_nilCheck rfl) ?_
  refine HY 4 rfl (((hsub (.cons_cons _ (.cons_cons _ (.cons _ (.cons _ (.cons _ (.refl _))))))).trans (hsub_pick [0, 0] rfl))) rfl (y_fieldAddr rfl fl_126_0) ?_
  refine HY 5 rfl (((hsub (.cons_cons _ (.cons_cons _ (.cons _ (.cons _ (.cons _ (.refl _))))))).trans (hsub_pick [0, 0] rfl))) rfl (y_indexA rfl rfl Try.underlying122 sz_40 (by omega) (by omega) (show _ = 1 from rfl)) ?_
  refine HY 6 rfl (((hsub (.cons_cons _ (.cons_cons _ (.cons _ (.cons _ (.cons _ (.refl _))))))).trans (hsub_pick [0, 0] rfl))) rfl (y_load rfl ag_40 (sees 0 0 rfl) rfl) ?_
  refine HY 7 rfl (((hsub (.cons_cons _ (.cons_cons _ (.cons _ (.cons _ (.cons _ (.refl _))))))).trans (hsub_pick [0, 0] rfl))) rfl (y_move rfl) ?_
  refine HY 8 rfl (((hsub (.cons_cons _ (.cons_cons _ (.cons _ (.cons _ (.cons _ (.refl _))))))).trans (hsub_pick [0, 0] rfl))) rfl (y_move rfl) ?_
  refine HY 9 rfl (((hsub (.cons_cons _ (.cons_cons _ (.cons _ (.cons _ (.cons _ (.refl _))))))).trans (hsub_pick [0, 0] rfl))) rfl (y_move rfl) ?_
  refine HY 10 rfl (((hsub (.cons_cons _ (.cons_cons _ (.cons _ (.cons _ (.cons _ (.refl _))))))).trans (hsub_pick [0, 0] rfl))) rfl (y_nilCheck rfl) ?_
  refine HY 11 rfl (((hsub (.cons_cons _ (.cons_cons _ (.cons _ (.cons _ (.cons _ (.refl _))))))).trans (hsub_pick [0, 0] rfl))) rfl (y_fieldAddr rfl fl_126_0) ?_
  refine HY 12 rfl (((hsub (.cons_cons _ (.cons_cons _ (.cons _ (.cons _ (.cons _ (.refl _))))))).trans (hsub_pick [0, 0] rfl))) rfl (y_indexA rfl rfl Try.underlying122 sz_40 (by omega) (by omega) (show _ = 0 from rfl)) ?_
  refine HY 13 rfl (((hsub (.cons_cons _ (.cons_cons _ (.cons _ (.cons _ (.cons _ (.refl _))))))).trans (hsub_pick [0, 0] rfl))) rfl (y_load rfl ag_40 (sees 0 0 rfl) rfl) ?_
  refine HY 14 rfl (((hsub (.cons_cons _ (.cons_cons _ (.cons _ (.cons _ (.cons _ (.refl _))))))).trans (hsub_pick [0, 0] rfl))) rfl (y_move rfl) ?_
  refine HY 15 rfl (((hsub (.cons_cons _ (.cons_cons _ (.cons _ (.cons _ (.cons _ (.refl _))))))).trans (hsub_pick [0, 0] rfl))) rfl (y_indexS rfl rfl Try.underlying40 sz_32 (by omega) (by omega) (show _ = n * 128 from by simp)) ?_
  refine HY 16 rfl (((hsub (.cons_cons _ (.cons_cons _ (.cons _ (.cons _ (.cons _ (.refl _))))))).trans (hsub_pick [0, 0] rfl))) rfl (y_loadA rfl ag_32 sz_32 (sees 1 0 rfl) (lseg_le hl0 hn ok0) (lseg_at hl0 hn ok0)) ?_
  refine HY 17 rfl (((hsub (.cons_cons _ (.cons_cons _ (.cons _ (.cons _ (.cons _ (.refl _))))))).trans (hsub_pick [0, 0] rfl))) rfl (y_indexS rfl rfl Try.underlying40 sz_32 (by omega) (by omega) (show _ = n * 128 from by simp)) ?_
  refine H_one 18 rfl (by kernel_rfl) rfl (op_store 2 0 rfl rfl rfl sz_32 (by rw [bs_length, (lget_len hl0 hn ok0)]) rfl (bs_one _) (by rw [bs_length, flat_len ok1, hl1]; omega) ?_)
  rw [flat_spl ok1 (by rw [hl1]; omega) (lget_len hl0 hn ok0)]
  refine ⟨((hsub (.cons_cons _ (.cons_cons _ (.cons _ (.cons _ (.cons _ (.refl _))))))).trans (hsub_pick [0, 0] rfl)), ?_⟩
  refine H_done (by kernel_rfl) ?_
  refine C_seq (C_region (LY rfl (y_move rfl) (LY rfl (y_move rfl) ?_)))
  refine LY rfl (y_sub rfl rfl (show _ = (1 : Int) from rfl)) ?_
  refine LY rfl (y_nilCheck rfl) (LY rfl (y_fieldAddr rfl fl_126_2) ?_)
  refine LY rfl (y_indexA rfl rfl Try.underlying124 sz_123 (by omega) (by omega) (show _ = 5 from rfl)) ?_
  refine LY rfl (y_load rfl ag_123 (sees 0 0 rfl) rfl) (LY rfl (y_move rfl) ?_)
  refine LY rfl (y_indexS rfl rfl Try.underlying123 sz_4 (by omega) (by omega) (show _ = n from by simp)) ?_
  refine L_op rfl (op_store1 4 0 rfl rfl rfl sz_4 rfl (by rw [bls_len]; dsimp only; omega) ?_)
  rw [bls_set]
  refine L_nil (C_seq (C_region (LY rfl (y_assign rfl) (LY rfl (y_assign rfl) (L_nil (C_ret ?_))))))
  refine B_ret (rv_tmp rfl (rv_tmp rfl rv_nil)) ((hsub (.cons_cons _ (.cons_cons _ (.cons_cons _ (.cons_cons _ (.cons_cons _ (.refl _))))))).trans (hsub_pick [0, 0, 0, 0, 0] rfl)) ?_
  have e0 : Rm.healTo (⟨⟨l0, false, s0⟩, ⟨l1, false, s1⟩⟩ : Rm) goodP n = some true := by unfold Rm.healTo; rw [hb]; simp_all [Rs.tells, Rs.old, Rs.at]
  have e1 : Rm.heal (⟨⟨l0, false, s0⟩, ⟨l1, false, s1⟩⟩ : Rm) goodP n = ⟨⟨l0, false, s0⟩, ⟨(l1.set n (l0.getD n [])), false, (s1.set n false)⟩⟩ := by unfold Rm.heal; rw [e0]; rfl
  have e2 : Rm.healR (⟨⟨l0, false, s0⟩, ⟨l1, false, s1⟩⟩ : Rm) goodP n = (1, 0) := by unfold Rm.healR; rw [hb]; simp_all [Rs.tells, Rs.old, Rs.at]
  rw [e1, e2]
  exact ⟨rfl, rfl⟩

theorem rheal_ff22t {w0 : World} {H : Hp} {o : Ro} {K : Nat} {l0 l1 : List Sec} {s0 s1 : List Bool} (ok : RmOk (⟨⟨l0, false, s0⟩, ⟨l1, false, s1⟩⟩ : Rm) K) (n : Nat) (hn : n < K) (hb : Rm.has (⟨⟨l0, false, s0⟩, ⟨l1, false, s1⟩⟩ : Rm) (n : Int) = true) (h0 : s0.getD n false = false) (g0 : goodP n (l0.getD n []) = true) (h1 : s1.getD n false = false) (g1 : goodP n (l1.getD n []) = true) (he : decide (l0.getD n [] = l1.getD n []) = true) : FnS Try.prog w0 69 #[ptr o.b, .int .i64 (n : Int)] (o.hp 126 32 4 K (⟨⟨l0, false, s0⟩, ⟨l1, false, s1⟩⟩ : Rm) H) (fun e H' => e = .returned (.tuple #[.int .i64 (Rm.healR (⟨⟨l0, false, s0⟩, ⟨l1, false, s1⟩⟩ : Rm) goodP n).1, .int .i64 (Rm.healR (⟨⟨l0, false, s0⟩, ⟨l1, false, s1⟩⟩ : Rm) goodP n).2]) ∧ H' = (o.hp 126 32 4 K (Rm.heal (⟨⟨l0, false, s0⟩, ⟨l1, false, s1⟩⟩ : Rm) goodP n) H)) := by
  have hl0 : l0.length = K := ok.l0
  have hl1 : l1.length = K := ok.l1
  have hs0 : s0.length = K := ok.s0
  have hs1 : s1.length = K := ok.s1
  have ok0 : ∀ s ∈ l0, s.length = 128 := ok.ok0
  have ok1 : ∀ s ∈ l1, s.length = 128 := ok.ok1
  have hK := ok.le
  refine FnS_intro (n := 125) (rs := [.tmp 4, .tmp 5]) (vs := [ptr o.b, .int .i64 (n : Int)]) Try.func69 rfl Try.ntmps69 rfl rfl ?_
  refine C_seq (C_region (LY rfl (y_assign rfl) (LY rfl (y_assign rfl) (L_nil (C_seq (C_seq (C_region (LY rfl (y_move rfl) (LY rfl (y_move rfl) ?_)))))))))
  refine L_op rfl (op_call rfl rfl (fun a w => Try.call71 a w) rfl ?_)
  refine (FnS.sub (hsub_pick [0, 0, 0, 0, 0] rfl) (rthere_s ok _)).mono ?_
  rintro _ _ ⟨e4, rfl⟩
  rw [hb] at e4
  obtain rfl := e4
  refine ⟨_, rfl, ?_⟩
  refine LY rfl (y_not rfl) (L_nil (C_cond_f rfl (C_skip (C_seq (C_seq (C_region (LY rfl (y_move rfl) (LY rfl (y_nilCheck rfl) (LY rfl (y_fieldAddr rfl fl_126_1) ?_)))))))))
  refine LY rfl (y_indexA rfl rfl Try.underlying62 sz_4 (by omega) (by omega) (show _ = 2 from rfl)) ?_
  refine LY rfl (y_load rfl ag_4 (sees 0 0 rfl) rfl) (LY rfl (y_move rfl) (LY rfl (y_move rfl) (LY rfl (y_nilCheck rfl) (LY rfl (y_fieldAddr rfl fl_126_1) ?_))))
  refine LY rfl (y_indexA rfl rfl Try.underlying62 sz_4 (by omega) (by omega) (show _ = 3 from rfl)) ?_
  refine LY rfl (y_load rfl ag_4 (sees 0 0 rfl) rfl) (LY rfl (y_pick_f rfl rfl) (L_nil (C_cond_f rfl (C_skip (C_seq (C_region (LY rfl (y_move rfl) (LY rfl (y_nilCheck rfl) (LY rfl (y_fieldAddr rfl fl_126_2) ?_)))))))))
  refine LY rfl (y_indexA rfl rfl Try.underlying124 sz_123 (by omega) (by omega) (show _ = 4 from rfl)) ?_
  refine LY rfl (y_load rfl ag_123 (sees 0 0 rfl) rfl) (LY rfl (y_move rfl) ?_)
  refine LY rfl (y_indexS rfl rfl Try.underlying123 sz_4 (by omega) (by omega) (show _ = n from by simp)) ?_
  refine LY rfl (y_load rfl ag_4 (sees 3 0 rfl) (show _ = some (Value.bool false) from by rw [← h0]; exact bls_get (by first | omega | (dsimp only; omega)))) ?_
  refine LY rfl (y_not rfl) (LY rfl (y_move rfl) (LY rfl (y_move rfl) (LY rfl (y_move rfl) (LY rfl (y_nilCheck rfl) (LY rfl (y_fieldAddr rfl fl_126_0) ?_)))))
  refine LY rfl (y_indexA rfl rfl Try.underlying122 sz_40 (by omega) (by omega) (show _ = 0 from rfl)) ?_
  refine LY rfl (y_load rfl ag_40 (sees 0 0 rfl) rfl) (LY rfl (y_move rfl) ?_)
  refine LY rfl (y_indexS rfl rfl Try.underlying40 sz_32 (by omega) (by omega) (show _ = n * 128 from by simp)) ?_
  refine LY rfl (y_loadA rfl ag_32 sz_32 (sees 1 0 rfl) (lseg_le hl0 hn ok0) (lseg_at hl0 hn ok0)) ?_
  refine L_op rfl (op_call rfl rfl (fun a w => Try.call18 a w) rfl ?_)
  refine (good09_s (n : Int) _ (lget_len hl0 hn ok0)).mono ?_
  rintro _ _ ⟨e4, e⟩
  obtain rfl := e.symm
  clear e
  rw [g0] at e4
  obtain rfl := e4
  refine ⟨_, rfl, ?_⟩
  refine LY rfl (y_pick_t rfl rfl) (LY rfl (y_assign rfl) (L_nil (C_seq (C_region (LY rfl (y_move rfl) (LY rfl (y_nilCheck rfl) (LY rfl (y_fieldAddr rfl fl_126_2) ?_)))))))
  refine LY rfl (y_indexA rfl rfl Try.underlying124 sz_123 (by omega) (by omega) (show _ = 5 from rfl)) ?_
  refine LY rfl (y_load rfl ag_123 (sees 0 0 rfl) rfl) (LY rfl (y_move rfl) ?_)
  refine LY rfl (y_indexS rfl rfl Try.underlying123 sz_4 (by omega) (by omega) (show _ = n from by simp)) ?_
  refine LY rfl (y_load rfl ag_4 (sees 4 0 rfl) (show _ = some (Value.bool false) from by rw [← h1]; exact bls_get (by first | omega | (dsimp only; omega)))) ?_
  refine LY rfl (y_not rfl) (LY rfl (y_move rfl) (LY rfl (y_move rfl) (LY rfl (y_move rfl) (LY rfl (y_nilCheck rfl) (LY rfl (y_fieldAddr rfl fl_126_0) ?_)))))
  refine LY rfl (y_indexA rfl rfl Try.underlying122 sz_40 (by omega) (by omega) (show _ = 1 from rfl)) ?_
  refine LY rfl (y_load rfl ag_40 (sees 0 0 rfl) rfl) (LY rfl (y_move rfl) ?_)
  refine LY rfl (y_indexS rfl rfl Try.underlying40 sz_32 (by omega) (by omega) (show _ = n * 128 from by simp)) ?_
  refine LY rfl (y_loadA rfl ag_32 sz_32 (sees 2 0 rfl) (lseg_le hl1 hn ok1) (lseg_at hl1 hn ok1)) ?_
  refine L_op rfl (op_call rfl rfl (fun a w => Try.call18 a w) rfl ?_)
  refine (good09_s (n : Int) _ (lget_len hl1 hn ok1)).mono ?_
  rintro _ _ ⟨e4, e⟩
  obtain rfl := e.symm
  clear e
  rw [g1] at e4
  obtain rfl := e4
  refine ⟨_, rfl, ?_⟩
  refine LY rfl (y_pick_t rfl rfl) (LY rfl (y_assign rfl) (L_nil (C_seq (C_seq (C_region (LY rfl (y_move rfl) (LY rfl (y_not rfl) (LY rfl (y_move rfl) (L_skip rfl rfl (L_skip rfl rfl (LY rfl (y_pick_f rfl rfl) (L_nil (C_cond_f rfl (C_skip (C_seq (C_seq ?_))))))))))))))))
  refine C_regionH0 (by kernel_rfl) ?_
  refine HY 0 rfl (HSub.refl _) rfl (y_move rfl) ?_
  refine HY 1 rfl (HSub.refl _) rfl (y_move rfl) ?_
  refine HY 2 rfl (HSub.refl _) rfl (y_move rfl) ?_
  refine HY 3 rfl (HSub.refl _) rfl (y_pick_t rfl rfl) ?_
  refine HY 4 rfl (HSub.refl _) rfl (y_move rfl) ?_
  refine HY 5 rfl (HSub.refl _) rfl (y_move rfl) ?_
  refine HY 6 rfl (HSub.refl _) rfl (y_nilCheck rfl) ?_
  refine HY 7 rfl (HSub.refl _) rfl (y_fieldAddr rfl fl_126_0) ?_
  refine HY 8 rfl (HSub.refl _) rfl (y_indexA rfl rfl Try.underlying122 sz_40 (by omega) (by omega) (show _ = 0 from rfl)) ?_
  refine HY 9 rfl (HSub.refl _) rfl (y_load rfl ag_40 (sees 0 0 rfl) rfl) ?_
  refine HY 10 rfl (HSub.refl _) rfl (y_move rfl) ?_
  refine HY 11 rfl (HSub.refl _) rfl (y_indexS rfl rfl Try.underlying40 sz_32 (by omega) (by omega) (show _ = n * 128 from by simp)) ?_
  refine HY 12 rfl (HSub.refl _) rfl (y_loadA rfl ag_32 sz_32 (sees 1 0 rfl) (lseg_le hl0 hn ok0) (lseg_at hl0 hn ok0)) ?_
  refine HY 13 rfl (HSub.refl _) rfl (y_move rfl) ?_
  refine HY 14 rfl (HSub.refl _) rfl (y_nilCheck rfl) ?_
  refine HY 15 rfl (HSub.refl _) rfl (y_fieldAddr rfl fl_126_0) ?_
  refine HY 16 rfl (HSub.refl _) rfl (y_indexA rfl rfl Try.underlying122 sz_40 (by omega) (by omega) (show _ = 1 from rfl)) ?_
  refine HY 17 rfl (HSub.refl _) rfl (y_load rfl ag_40 (sees 0 0 rfl) rfl) ?_
  refine HY 18 rfl (HSub.refl _) rfl (y_move rfl) ?_
  refine HY 19 rfl (HSub.refl _) rfl (y_indexS rfl rfl Try.underlying40 sz_32 (by omega) (by omega) (show _ = n * 128 from by simp)) ?_
  refine HY 20 rfl (HSub.refl _) rfl (y_loadA rfl ag_32 sz_32 (sees 2 0 rfl) (lseg_le hl1 hn ok1) (lseg_at hl1 hn ok1)) ?_
  refine HY 21 rfl (HSub.refl _) rfl (y_eqa rfl rfl Try.underlying32 Try.underlying5 sz_5 eg_32 (lget_len hl0 hn ok0) (lget_len hl1 hn ok1)) ?_
  refine HY 22 rfl (HSub.refl _) rfl (y_pick_t rfl rfl) ?_
  refine H_done (by kernel_rfl) ?_
  refine C_cond rfl (fun hc3 => ?_) (fun hc3 => absurd hc3 (by rw [he]; decide))
  refine C_seq (C_region (LY rfl (y_assign rfl) (LY rfl (y_assign rfl) (L_nil (C_ret ?_)))))
  refine B_ret (rv_tmp rfl (rv_tmp rfl rv_nil)) ((hsub (.cons_cons _ (.cons_cons _ (.cons_cons _ (.cons_cons _ (.cons_cons _ (.refl _))))))).trans (hsub_pick [0, 0, 0, 0, 0] rfl)) ?_
  have e0 : Rm.healTo (⟨⟨l0, false, s0⟩, ⟨l1, false, s1⟩⟩ : Rm) goodP n = none := by unfold Rm.healTo; rw [hb]; simp_all [Rs.tells, Rs.old, Rs.at]
  have e1 : Rm.heal (⟨⟨l0, false, s0⟩, ⟨l1, false, s1⟩⟩ : Rm) goodP n = (⟨⟨l0, false, s0⟩, ⟨l1, false, s1⟩⟩ : Rm) := by unfold Rm.heal; rw [e0]
  have e2 : Rm.healR (⟨⟨l0, false, s0⟩, ⟨l1, false, s1⟩⟩ : Rm) goodP n = (0, 0) := by unfold Rm.healR; rw [hb]; simp_all [Rs.tells, Rs.old, Rs.at]
  rw [e1, e2]
  exact ⟨rfl, rfl⟩

theorem rheal_ff22f {w0 : World} {H : Hp} {o : Ro} {K : Nat} {l0 l1 : List Sec} {s0 s1 : List Bool} (ok : RmOk (⟨⟨l0, false, s0⟩, ⟨l1, false, s1⟩⟩ : Rm) K) (n : Nat) (hn : n < K) (hb : Rm.has (⟨⟨l0, false, s0⟩, ⟨l1, false, s1⟩⟩ : Rm) (n : Int) = true) (h0 : s0.getD n false = false) (g0 : goodP n (l0.getD n []) = true) (h1 : s1.getD n false = false) (g1 : goodP n (l1.getD n []) = true) (he : decide (l0.getD n [] = l1.getD n []) = false) : FnS Try.prog w0 69 #[ptr o.b, .int .i64 (n : Int)] (o.hp 126 32 4 K (⟨⟨l0, false, s0⟩, ⟨l1, false, s1⟩⟩ : Rm) H) (fun e H' => e = .returned (.tuple #[.int .i64 (Rm.healR (⟨⟨l0, false, s0⟩, ⟨l1, false, s1⟩⟩ : Rm) goodP n).1, .int .i64 (Rm.healR (⟨⟨l0, false, s0⟩, ⟨l1, false, s1⟩⟩ : Rm) goodP n).2]) ∧ H' = (o.hp 126 32 4 K (Rm.heal (⟨⟨l0, false, s0⟩, ⟨l1, false, s1⟩⟩ : Rm) goodP n) H)) := by
  have hl0 : l0.length = K := ok.l0
  have hl1 : l1.length = K := ok.l1
  have hs0 : s0.length = K := ok.s0
  have hs1 : s1.length = K := ok.s1
  have ok0 : ∀ s ∈ l0, s.length = 128 := ok.ok0
  have ok1 : ∀ s ∈ l1, s.length = 128 := ok.ok1
  have hK := ok.le
  refine FnS_intro (n := 125) (rs := [.tmp 4, .tmp 5]) (vs := [ptr o.b, .int .i64 (n : Int)]) Try.func69 rfl Try.ntmps69 rfl rfl ?_
  refine C_seq (C_region (LY rfl (y_assign rfl) (LY rfl (y_assign rfl) (L_nil (C_seq (C_seq (C_region (LY rfl (y_move rfl) (LY rfl (y_move rfl) ?_)))))))))
  refine L_op rfl (op_call rfl rfl (fun a w => Try.call71 a w) rfl ?_)
  refine (FnS.sub (hsub_pick [0, 0, 0, 0, 0] rfl) (rthere_s ok _)).mono ?_
  rintro _ _ ⟨e4, rfl⟩
  rw [hb] at e4
  obtain rfl := e4
  refine ⟨_, rfl, ?_⟩
  refine LY rfl (y_not rfl) (L_nil (C_cond_f rfl (C_skip (C_seq (C_seq (C_region (LY rfl (y_move rfl) (LY rfl (y_nilCheck rfl) (LY rfl (y_fieldAddr rfl fl_126_1) ?_)))))))))
  refine LY rfl (y_indexA rfl rfl Try.underlying62 sz_4 (by omega) (by omega) (show _ = 2 from rfl)) ?_
  refine LY rfl (y_load rfl ag_4 (sees 0 0 rfl) rfl) (LY rfl (y_move rfl) (LY rfl (y_move rfl) (LY rfl (y_nilCheck rfl) (LY rfl (y_fieldAddr rfl fl_126_1) ?_))))
  refine LY rfl (y_indexA rfl rfl Try.underlying62 sz_4 (by omega) (by omega) (show _ = 3 from rfl)) ?_
  refine LY rfl (y_load rfl ag_4 (sees 0 0 rfl) rfl) (LY rfl (y_pick_f rfl rfl) (L_nil (C_cond_f rfl (C_skip (C_seq (C_region (LY rfl (y_move rfl) (LY rfl (y_nilCheck rfl) (LY rfl (y_fieldAddr rfl fl_126_2) ?_)))))))))
  refine LY rfl (y_indexA rfl rfl Try.underlying124 sz_123 (by omega) (by omega) (show _ = 4 from rfl)) ?_
  refine LY rfl (y_load rfl ag_123 (sees 0 0 rfl) rfl) (LY rfl (y_move rfl) ?_)
  refine LY rfl (y_indexS rfl rfl Try.underlying123 sz_4 (by omega) (by omega) (show _ = n from by simp)) ?_
  refine LY rfl (y_load rfl ag_4 (sees 3 0 rfl) (show _ = some (Value.bool false) from by rw [← h0]; exact bls_get (by first | omega | (dsimp only; omega)))) ?_
  refine LY rfl (y_not rfl) (LY rfl (y_move rfl) (LY rfl (y_move rfl) (LY rfl (y_move rfl) (LY rfl (y_nilCheck rfl) (LY rfl (y_fieldAddr rfl fl_126_0) ?_)))))
  refine LY rfl (y_indexA rfl rfl Try.underlying122 sz_40 (by omega) (by omega) (show _ = 0 from rfl)) ?_
  refine LY rfl (y_load rfl ag_40 (sees 0 0 rfl) rfl) (LY rfl (y_move rfl) ?_)
  refine LY rfl (y_indexS rfl rfl Try.underlying40 sz_32 (by omega) (by omega) (show _ = n * 128 from by simp)) ?_
  refine LY rfl (y_loadA rfl ag_32 sz_32 (sees 1 0 rfl) (lseg_le hl0 hn ok0) (lseg_at hl0 hn ok0)) ?_
  refine L_op rfl (op_call rfl rfl (fun a w => Try.call18 a w) rfl ?_)
  refine (good09_s (n : Int) _ (lget_len hl0 hn ok0)).mono ?_
  rintro _ _ ⟨e4, e⟩
  obtain rfl := e.symm
  clear e
  rw [g0] at e4
  obtain rfl := e4
  refine ⟨_, rfl, ?_⟩
  refine LY rfl (y_pick_t rfl rfl) (LY rfl (y_assign rfl) (L_nil (C_seq (C_region (LY rfl (y_move rfl) (LY rfl (y_nilCheck rfl) (LY rfl (y_fieldAddr rfl fl_126_2) ?_)))))))
  refine LY rfl (y_indexA rfl rfl Try.underlying124 sz_123 (by omega) (by omega) (show _ = 5 from rfl)) ?_
  refine LY rfl (y_load rfl ag_123 (sees 0 0 rfl) rfl) (LY rfl (y_move rfl) ?_)
  refine LY rfl (y_indexS rfl rfl Try.underlying123 sz_4 (by omega) (by omega) (show _ = n from by simp)) ?_
  refine LY rfl (y_load rfl ag_4 (sees 4 0 rfl) (show _ = some (Value.bool false) from by rw [← h1]; exact bls_get (by first | omega | (dsimp only; omega)))) ?_
  refine LY rfl (y_not rfl) (LY rfl (y_move rfl) (LY rfl (y_move rfl) (LY rfl (y_move rfl) (LY rfl (y_nilCheck rfl) (LY rfl (y_fieldAddr rfl fl_126_0) ?_)))))
  refine LY rfl (y_indexA rfl rfl Try.underlying122 sz_40 (by omega) (by omega) (show _ = 1 from rfl)) ?_
  refine LY rfl (y_load rfl ag_40 (sees 0 0 rfl) rfl) (LY rfl (y_move rfl) ?_)
  refine LY rfl (y_indexS rfl rfl Try.underlying40 sz_32 (by omega) (by omega) (show _ = n * 128 from by simp)) ?_
  refine LY rfl (y_loadA rfl ag_32 sz_32 (sees 2 0 rfl) (lseg_le hl1 hn ok1) (lseg_at hl1 hn ok1)) ?_
  refine L_op rfl (op_call rfl rfl (fun a w => Try.call18 a w) rfl ?_)
  refine (good09_s (n : Int) _ (lget_len hl1 hn ok1)).mono ?_
  rintro _ _ ⟨e4, e⟩
  obtain rfl := e.symm
  clear e
  rw [g1] at e4
  obtain rfl := e4
  refine ⟨_, rfl, ?_⟩
  refine LY rfl (y_pick_t rfl rfl) (LY rfl (y_assign rfl) (L_nil (C_seq (C_seq (C_region (LY rfl (y_move rfl) (LY rfl (y_not rfl) (LY rfl (y_move rfl) (L_skip rfl rfl (L_skip rfl rfl (LY rfl (y_pick_f rfl rfl) (L_nil (C_cond_f rfl (C_skip (C_seq (C_seq ?_))))))))))))))))
  refine C_regionH0 (by kernel_rfl) ?_
  refine HY 0 rfl (HSub.refl _) rfl (y_move rfl) ?_
  refine HY 1 rfl (HSub.refl _) rfl (y_move rfl) ?_
  refine HY 2 rfl (HSub.refl _) rfl (y_move rfl) ?_
  refine HY 3 rfl (HSub.refl _) rfl (y_pick_t rfl rfl) ?_
  refine HY 4 rfl (HSub.refl _) rfl (y_move rfl) ?_
  refine HY 5 rfl (HSub.refl _) rfl (y_move rfl) ?_
  refine HY 6 rfl (HSub.refl _) rfl (y_nilCheck rfl) ?_
  refine HY 7 rfl (HSub.refl _) rfl (y_fieldAddr rfl fl_126_0) ?_
  refine HY 8 rfl (HSub.refl _) rfl (y_indexA rfl rfl Try.underlying122 sz_40 (by omega) (by omega) (show _ = 0 from rfl)) ?_
  refine HY 9 rfl (HSub.refl _) rfl (y_load rfl ag_40 (sees 0 0 rfl) rfl) ?_
  refine HY 10 rfl (HSub.refl _) rfl (y_move rfl) ?_
  refine HY 11 rfl (HSub.refl _) rfl (y_indexS rfl rfl Try.underlying40 sz_32 (by omega) (by omega) (show _ = n * 128 from by simp)) ?_
  refine HY 12 rfl (HSub.refl _) rfl (y_loadA rfl ag_32 sz_32 (sees 1 0 rfl) (lseg_le hl0 hn ok0) (lseg_at hl0 hn ok0)) ?_
  refine HY 13 rfl (HSub.refl _) rfl (y_move rfl) ?_
  refine HY 14 rfl (HSub.refl _) rfl (y_nilCheck rfl) ?_
  refine HY 15 rfl (HSub.refl _) rfl (y_fieldAddr rfl fl_126_0) ?_
  refine HY 16 rfl (HSub.refl _) rfl (y_indexA rfl rfl Try.underlying122 sz_40 (by omega) (by omega) (show _ = 1 from rfl)) ?_
  refine HY 17 rfl (HSub.refl _) rfl (y_load rfl ag_40 (sees 0 0 rfl) rfl) ?_
  refine HY 18 rfl (HSub.refl _) rfl (y_move rfl) ?_
  refine HY 19 rfl (HSub.refl _) rfl (y_indexS rfl rfl Try.underlying40 sz_32 (by omega) (by omega) (show _ = n * 128 from by simp)) ?_
  refine HY 20 rfl (HSub.refl _) rfl (y_loadA rfl ag_32 sz_32 (sees 2 0 rfl) (lseg_le hl1 hn ok1) (lseg_at hl1 hn ok1)) ?_
  refine HY 21 rfl (HSub.refl _) rfl (y_eqa rfl rfl Try.underlying32 Try.underlying5 sz_5 eg_32 (lget_len hl0 hn ok0) (lget_len hl1 hn ok1)) ?_
  refine HY 22 rfl (HSub.refl _) rfl (y_pick_t rfl rfl) ?_
  refine H_done (by kernel_rfl) ?_
  refine C_cond rfl (fun hc3 => absurd hc3 (by rw [he]; decide)) (fun hc3 => ?_)
  refine C_skip (C_seq (C_region (LY rfl (y_assign rfl) (L_nil (C_seq (C_seq (C_region (LY rfl (y_move rfl) (LY rfl (y_not rfl) (L_nil (C_cond_f rfl (C_skip (C_seq ?_)))))))))))))
  refine C_regionH ([(o.b, .cells (o.cells K (⟨⟨l0, false, s0⟩, ⟨l1, false, s1⟩⟩ : Rm)).toArray 126)] :: lseg 32 o.l0 l0 :: H) (by kernel_rfl) ?_
  refine HY 0 rfl (((hsub (.cons_cons _ (.cons_cons _ (.cons _ (.cons _ (.cons _ (.refl _))))))).trans (hsub_pick [0, 0] rfl))) rfl (y_move rfl) ?_
  refine HY 1 rfl (((hsub (.cons_cons _ (.cons_cons _ (.cons _ (.cons _ (.cons _ (.refl _))))))).trans (hsub_pick [0, 0] rfl))) rfl (y_move rfl) ?_
  refine HY 2 rfl (((hsub (.cons_cons _ (.cons_cons _ (.cons _ (.cons _ (.cons _ (.refl _))))))).trans (hsub_pick [0, 0] rfl))) rfl (y_sub rfl rfl (show _ = (1 : Int) from rfl)) ?_
  refine HY 3 rfl (((hsub (.cons_cons _ (.cons_cons _ (.cons _ (.cons _ (.cons _ (.refl _))))))).trans (hsub_pick [0, 0] rfl))) rfl (y_nilCheck rfl) ?_
  refine HY 4 rfl (((hsub (.cons_cons _ (.cons_cons _ (.cons _ (.cons _ (.cons _ (.refl _))))))).trans (hsub_pick [0, 0] rfl))) rfl (y_fieldAddr rfl fl_126_0) ?_
  refine HY 5 rfl (((hsub (.cons_cons _ (.cons_cons _ (.cons _ (.cons _ (.cons _ (.refl _))))))).trans (hsub_pick [0, 0] rfl))) rfl (y_indexA rfl rfl Try.underlying122 sz_40 (by omega) (by omega) (show _ = 1 from rfl)) ?_
  refine HY 6 rfl (((hsub (.cons_cons _ (.cons_cons _ (.cons _ (.cons _ (.cons _ (.refl _))))))).trans (hsub_pick [0, 0] rfl))) rfl (y_load rfl ag_40 (sees 0 0 rfl) rfl) ?_
  refine HY 7 rfl (((hsub (.cons_cons _ (.cons_cons _ (.cons _ (.cons _ (.cons _ (.refl _))))))).trans (hsub_pick [0, 0] rfl))) rfl (y_move rfl) ?_
  refine HY 8 rfl (((hsub (.cons_cons _ (.cons_cons _ (.cons _ (.cons _ (.cons _ (.refl _))))))).trans (hsub_pick [0, 0] rfl))) rfl (y_move rfl) ?_
  refine HY 9 rfl (((hsub (.cons_cons _ (.cons_cons _ (.cons _ (.cons _ (.cons _ (.refl _))))))).trans (hsub_pick [0, 0] rfl))) rfl (y_move rfl) ?_
  refine HY 10 rfl (((hsub (.cons_cons _ (.cons_cons _ (.cons _ (.cons _ (.cons _ (.refl _))))))).trans (hsub_pick [0, 0] rfl))) rfl (y_nilCheck rfl) ?_
  refine HY 11 rfl (((hsub (.cons_cons _ (.cons_cons _ (.cons _ (.cons _ (.cons _ (.refl _))))))).trans (hsub_pick [0, 0] rfl))) rfl (y_fieldAddr rfl fl_126_0) ?_
  refine HY 12 rfl (((hsub (.cons_cons _ (.cons_cons _ (.cons _ (.cons _ (.cons _ (.refl _))))))).trans (hsub_pick [0, 0] rfl))) rfl (y_indexA rfl rfl Try.underlying122 sz_40 (by omega) (by omega) (show _ = 0 from rfl)) ?_
  refine HY 13 rfl (((hsub (.cons_cons _ (.cons_cons _ (.cons _ (.cons _ (.cons _ (.refl _))))))).trans (hsub_pick [0, 0] rfl))) rfl (y_load rfl ag_40 (sees 0 0 rfl) rfl) ?_
  refine HY 14 rfl (((hsub (.cons_cons _ (.cons_cons _ (.cons _ (.cons _ (.cons _ (.refl _))))))).trans (hsub_pick [0, 0] rfl))) rfl (y_move rfl) ?_
  refine HY 15 rfl (((hsub (.cons_cons _ (.cons_cons _ (.cons _ (.cons _ (.cons _ (.refl _))))))).trans (hsub_pick [0, 0] rfl))) rfl (y_indexS rfl rfl Try.underlying40 sz_32 (by omega) (by omega) (show _ = n * 128 from by simp)) ?_
  refine HY 16 rfl (((hsub (.cons_cons _ (.cons_cons _ (.cons _ (.cons _ (.cons _ (.refl _))))))).trans (hsub_pick [0, 0] rfl))) rfl (y_loadA rfl ag_32 sz_32 (sees 1 0 rfl) (lseg_le hl0 hn ok0) (lseg_at hl0 hn ok0)) ?_
  refine HY 17 rfl (((hsub (.cons_cons _ (.cons_cons _ (.cons _ (.cons _ (.cons _ (.refl _))))))).trans (hsub_pick [0, 0] rfl))) rfl (y_indexS rfl rfl Try.underlying40 sz_32 (by omega) (by omega) (show _ = n * 128 from by simp)) ?_
  refine H_one 18 rfl (by kernel_rfl) rfl (op_store 2 0 rfl rfl rfl sz_32 (by rw [bs_length, (lget_len hl0 hn ok0)]) rfl (bs_one _) (by rw [bs_length, flat_len ok1, hl1]; omega) ?_)
  rw [flat_spl ok1 (by rw [hl1]; omega) (lget_len hl0 hn ok0)]
  refine ⟨((hsub (.cons_cons _ (.cons_cons _ (.cons _ (.cons _ (.cons _ (.refl _))))))).trans (hsub_pick [0, 0] rfl)), ?_⟩
  refine H_done (by kernel_rfl) ?_
  refine C_seq (C_region (LY rfl (y_move rfl) (LY rfl (y_move rfl) ?_)))
  refine LY rfl (y_sub rfl rfl (show _ = (1 : Int) from rfl)) ?_
  refine LY rfl (y_nilCheck rfl) (LY rfl (y_fieldAddr rfl fl_126_2) ?_)
  refine LY rfl (y_indexA rfl rfl Try.underlying124 sz_123 (by omega) (by omega) (show _ = 5 from rfl)) ?_
  refine LY rfl (y_load rfl ag_123 (sees 0 0 rfl) rfl) (LY rfl (y_move rfl) ?_)
  refine LY rfl (y_indexS rfl rfl Try.underlying123 sz_4 (by omega) (by omega) (show _ = n from by simp)) ?_
  refine L_op rfl (op_store1 4 0 rfl rfl rfl sz_4 rfl (by rw [bls_len]; dsimp only; omega) ?_)
  rw [bls_set]
  refine L_nil (C_seq (C_region (LY rfl (y_assign rfl) (LY rfl (y_assign rfl) (L_nil (C_ret ?_))))))
  refine B_ret (rv_tmp rfl (rv_tmp rfl rv_nil)) ((hsub (.cons_cons _ (.cons_cons _ (.cons_cons _ (.cons_cons _ (.cons_cons _ (.refl _))))))).trans (hsub_pick [0, 0, 0, 0, 0] rfl)) ?_
  have e0 : Rm.healTo (⟨⟨l0, false, s0⟩, ⟨l1, false, s1⟩⟩ : Rm) goodP n = some true := by unfold Rm.healTo; rw [hb]; simp_all [Rs.tells, Rs.old, Rs.at]
  have e1 : Rm.heal (⟨⟨l0, false, s0⟩, ⟨l1, false, s1⟩⟩ : Rm) goodP n = ⟨⟨l0, false, s0⟩, ⟨(l1.set n (l0.getD n [])), false, (s1.set n false)⟩⟩ := by unfold Rm.heal; rw [e0]; rfl
  have e2 : Rm.healR (⟨⟨l0, false, s0⟩, ⟨l1, false, s1⟩⟩ : Rm) goodP n = (1, 0) := by unfold Rm.healR; rw [hb]; simp_all [Rs.tells, Rs.old, Rs.at]
  rw [e1, e2]
  exact ⟨rfl, rfl⟩

theorem rheal_ff {w0 : World} {H : Hp} {o : Ro} {K : Nat} {l0 l1 : List Sec} {s0 s1 : List Bool} (ok : RmOk (⟨⟨l0, false, s0⟩, ⟨l1, false, s1⟩⟩ : Rm) K) (n : Nat) (hn : n < K) (hb : Rm.has (⟨⟨l0, false, s0⟩, ⟨l1, false, s1⟩⟩ : Rm) (n : Int) = true) : FnS Try.prog w0 69 #[ptr o.b, .int .i64 (n : Int)] (o.hp 126 32 4 K (⟨⟨l0, false, s0⟩, ⟨l1, false, s1⟩⟩ : Rm) H) (fun e H' => e = .returned (.tuple #[.int .i64 (Rm.healR (⟨⟨l0, false, s0⟩, ⟨l1, false, s1⟩⟩ : Rm) goodP n).1, .int .i64 (Rm.healR (⟨⟨l0, false, s0⟩, ⟨l1, false, s1⟩⟩ : Rm) goodP n).2]) ∧ H' = (o.hp 126 32 4 K (Rm.heal (⟨⟨l0, false, s0⟩, ⟨l1, false, s1⟩⟩ : Rm) goodP n) H)) := by
  rcases tf (s0.getD n false) with h0 | h0 <;> rcases tf (goodP n (l0.getD n [])) with g0 | g0 <;> rcases tf (s1.getD n false) with h1 | h1 <;> rcases tf (goodP n (l1.getD n [])) with g1 | g1
  all_goals first
    | exact rheal_ff00 ok n hn hb h0 h1
    | exact rheal_ff01 ok n hn hb h0 h1 g1
    | exact rheal_ff02 ok n hn hb h0 h1 g1
    | exact rheal_ff10 ok n hn hb h0 g0 h1
    | exact rheal_ff11 ok n hn hb h0 g0 h1 g1
    | exact rheal_ff12 ok n hn hb h0 g0 h1 g1
    | exact rheal_ff20 ok n hn hb h0 g0 h1
    | exact rheal_ff21 ok n hn hb h0 g0 h1 g1
    | (rcases tf (decide (l0.getD n [] = l1.getD n [])) with he | he
       · exact rheal_ff22f ok n hn hb h0 g0 h1 g1 he
       · exact rheal_ff22t ok n hn hb h0 g0 h1 g1 he)

theorem rheal_s {w0 : World} {H : Hp} {o : Ro} {K : Nat} {r : Rm} (ok : RmOk r K) (n : Int) : FnS Try.prog w0 69 #[ptr o.b, .int .i64 n] (o.hp 126 32 4 K r H) (fun e H' => e = .returned (.tuple #[.int .i64 (Rm.healR r goodP n).1, .int .i64 (Rm.healR r goodP n).2]) ∧ H' = (o.hp 126 32 4 K (Rm.heal r goodP n) H)) := by
  rcases tf (r.has n) with hb | hb
  · exact rheal_no ok n hb
  · obtain ⟨n, rfl⟩ : ∃ k : Nat, n = k := ⟨n.toNat, by unfold Rm.has at hb; simp at hb; omega⟩
    have hn : n < K := by unfold Rm.has at hb; rw [ok.l0] at hb; simp at hb; omega
    obtain ⟨⟨l0, o0, s0⟩, ⟨l1, o1, s1⟩⟩ := r
    cases o0 <;> cases o1
    · exact rheal_ff ok n (by omega) hb
    · exact rheal_ft ok n (by omega) hb
    · exact rheal_tf ok n (by omega) hb
    · exact rheal_tt ok n (by omega) hb

end Go.Proofs.Ytjjiclgbdenkkaa

/- walks (own work; the walks' lines by a program of this repo). -/
set_option linter.unusedVariables false
set_option linter.unusedSimpArgs false
set_option maxRecDepth 20000
namespace Go.Proofs.Ytjjiclgbdenkkaa
open Go.Sl
attribute [local irreducible] BodyQ WpC WpL WpS WpH OpW FnS


theorem rboth_no {w0 : World} {H : Hp} {o : Ro} {K : Nat} {r : Rm} (ok : RmOk r K) (n : Int) (hb : r.has n = false) : FnS Try.prog w0 70 #[ptr o.b, .int .i64 n] (o.hp 126 32 4 K r H) (fun e H' => ∃ g, slOk 128 g (Rm.both r goodP n).length (bs (Rm.both r goodP n).flatten) ∧ e = .returned (slV g (Rm.both r goodP n).length) ∧ H' = slSeg 32 g (bs (Rm.both r goodP n).flatten) :: (o.hp 126 32 4 K r H)) := by
  refine FnS_intro (n := 49) (rs := [.tmp 4]) (vs := [ptr o.b, .int .i64 n]) Try.func70 rfl Try.ntmps70 rfl rfl ?_
  refine C_seq (C_region (LY rfl (y_assign rfl) (L_nil (C_seq (C_region (LY rfl (y_assign rfl) (L_nil (C_seq (C_seq (C_region (LY rfl (y_move rfl) (LY rfl (y_move rfl) ?_))))))))))))
  refine L_op rfl (op_call rfl rfl (fun a w => Try.call71 a w) rfl ?_)
  refine (FnS.sub (hsub_pick [0, 0, 0, 0, 0] rfl) (rthere_s ok _)).mono ?_
  rintro _ _ ⟨e4, rfl⟩
  rw [hb] at e4
  obtain rfl := e4
  refine ⟨_, rfl, ?_⟩
  refine LY rfl (y_not rfl) (L_nil (C_cond_t rfl (C_seq (C_region (LY rfl (y_move rfl) (LY rfl (y_assign rfl) (L_nil (C_ret ?_))))))))
  refine B_ret (rv_tmp rfl rv_nil) (hsub_nil0.trans ((hsub (.cons_cons _ (.cons_cons _ (.cons_cons _ (.cons_cons _ (.cons_cons _ (.refl _))))))).trans (hsub_pick [0, 0, 0, 0, 0] rfl))) ?_
  have e0 : r.both goodP n = [] := by unfold Rm.both; rw [hb]; rfl
  rw [e0]
  exact ⟨none, ⟨rfl, rfl⟩, rfl, rfl⟩

theorem rboth_ff {w0 : World} {H : Hp} {o : Ro} {K : Nat} {l0 l1 : List Sec} {s0 s1 : List Bool} (ok : RmOk (⟨⟨l0, false, s0⟩, ⟨l1, false, s1⟩⟩ : Rm) K) (n : Nat) (hn : n < K) (hb : Rm.has (⟨⟨l0, false, s0⟩, ⟨l1, false, s1⟩⟩ : Rm) (n : Int) = true) : FnS Try.prog w0 70 #[ptr o.b, .int .i64 (n : Int)] (o.hp 126 32 4 K (⟨⟨l0, false, s0⟩, ⟨l1, false, s1⟩⟩ : Rm) H) (fun e H' => ∃ g, slOk 128 g (Rm.both (⟨⟨l0, false, s0⟩, ⟨l1, false, s1⟩⟩ : Rm) goodP n).length (bs (Rm.both (⟨⟨l0, false, s0⟩, ⟨l1, false, s1⟩⟩ : Rm) goodP n).flatten) ∧ e = .returned (slV g (Rm.both (⟨⟨l0, false, s0⟩, ⟨l1, false, s1⟩⟩ : Rm) goodP n).length) ∧ H' = slSeg 32 g (bs (Rm.both (⟨⟨l0, false, s0⟩, ⟨l1, false, s1⟩⟩ : Rm) goodP n).flatten) :: (o.hp 126 32 4 K (⟨⟨l0, false, s0⟩, ⟨l1, false, s1⟩⟩ : Rm) H)) := by
  have hl0 : l0.length = K := ok.l0
  have hl1 : l1.length = K := ok.l1
  have hs0 : s0.length = K := ok.s0
  have hs1 : s1.length = K := ok.s1
  have ok0 : ∀ s ∈ l0, s.length = 128 := ok.ok0
  have ok1 : ∀ s ∈ l1, s.length = 128 := ok.ok1
  have hK := ok.le
  refine FnS_intro (n := 49) (rs := [.tmp 4]) (vs := [ptr o.b, .int .i64 (n : Int)]) Try.func70 rfl Try.ntmps70 rfl rfl ?_
  refine C_seq (C_region (LY rfl (y_assign rfl) (L_nil (C_seq (C_region (LY rfl (y_assign rfl) (L_nil (C_seq (C_seq (C_region (LY rfl (y_move rfl) (LY rfl (y_move rfl) ?_))))))))))))
  refine L_op rfl (op_call rfl rfl (fun a w => Try.call71 a w) rfl ?_)
  refine (FnS.sub (hsub_pick [0, 0, 0, 0, 0] rfl) (rthere_s ok _)).mono ?_
  rintro _ _ ⟨e4, rfl⟩
  rw [hb] at e4
  obtain rfl := e4
  refine ⟨_, rfl, ?_⟩
  refine LY rfl (y_not rfl) (L_nil (C_cond_f rfl (C_skip (C_seq (C_seq (C_region (LY rfl (y_assign rfl) (L_nil (C_block ?_)))))))))
  refine C_loopIn (In_round ?_)
  refine C_seq (C_seq (C_region (LY rfl (y_move rfl) (LY rfl (y_lss rfl rfl) (L_nil (C_cond_t rfl (C_skip (C_seq (C_block (C_seq (C_region (LY rfl (y_move rfl) (LY rfl (y_move rfl) (LY rfl (y_nilCheck rfl) (LY rfl (y_fieldAddr rfl fl_126_1) ?_)))))))))))))))
  refine LY rfl (y_indexA rfl rfl Try.underlying62 sz_4 (by omega) (by omega) (show _ = 2 from rfl)) ?_
  refine LY rfl (y_load rfl ag_4 (sees 0 0 rfl) rfl) (LY rfl (y_not rfl) (LY rfl (y_move rfl) (LY rfl (y_move rfl) (LY rfl (y_move rfl) (LY rfl (y_move rfl) (LY rfl (y_nilCheck rfl) (LY rfl (y_fieldAddr rfl fl_126_0) ?_)))))))
  refine LY rfl (y_indexA rfl rfl Try.underlying122 sz_40 (by omega) (by omega) (show _ = 0 from rfl)) ?_
  refine LY rfl (y_load rfl ag_40 (sees 0 0 rfl) rfl) (LY rfl (y_move rfl) ?_)
  refine LY rfl (y_indexS rfl rfl Try.underlying40 sz_32 (by omega) (by omega) (show _ = n * 128 from by simp)) ?_
  refine LY rfl (y_loadA rfl ag_32 sz_32 (sees 1 0 rfl) (lseg_le hl0 hn ok0) (lseg_at hl0 hn ok0)) ?_
  refine L_op rfl (op_call rfl rfl (fun a w => Try.call18 a w) rfl ?_)
  refine (good09_s (n : Int) _ (lget_len hl0 hn ok0)).mono ?_
  rintro _ _ ⟨e4, e⟩
  obtain rfl := e.symm
  clear e
  obtain rfl := e4
  refine ⟨_, rfl, ?_⟩
  refine LY rfl (y_pick_t rfl rfl) (L_nil ?_)
  refine C_cond rfl (fun hc2 => ?_) (fun hc2 => ?_)
  · skip
    refine C_region (LY rfl (y_move rfl) (LY rfl (y_move rfl) (LY rfl (y_move rfl) (LY rfl (y_nilCheck rfl) (LY rfl (y_fieldAddr rfl fl_126_0) ?_)))))
    refine LY rfl (y_indexA rfl rfl Try.underlying122 sz_40 (by omega) (by omega) (show _ = 0 from rfl)) ?_
    refine LY rfl (y_load rfl ag_40 (sees 0 0 rfl) rfl) (LY rfl (y_move rfl) ?_)
    refine LY rfl (y_indexS rfl rfl Try.underlying40 sz_32 (by omega) (by omega) (show _ = n * 128 from by simp)) ?_
    refine LY rfl (y_loadA rfl ag_32 sz_32 (sees 1 0 rfl) (lseg_le hl0 hn ok0) (lseg_at hl0 hn ok0)) ?_
    refine L_op rfl (op_buildSlice (vs := [(0, _)]) rfl Try.underlying40 sz_32 zl_32 rfl (by decide) (fill_one rfl (by rw [bs_length, (lget_len hl0 hn ok0)]) rfl) rfl (fun B1 => ?_))
    refine L_op rfl (op_append0 (m := 1) (vs := bs (l0.getD n [])) rfl rfl (src_slice (vs := bs (l0.getD n [])) (sees 0 0 rfl) (by rw [bs_length, (lget_len hl0 hn ok0)]; decide) (bs_whole0 _ (lget_len hl0 hn ok0))) (by rw [bs_length, (lget_len hl0 hn ok0)]) (bs_one _) Try.underlying40 ni_40 sz_32 by_32 (by decide) zl_32 rfl (by decide) rfl (fun r1 hr1 => ?_))
    refine LY rfl (y_assign rfl) (L_nil (C_region (LY rfl (y_move rfl) ?_)))
    refine LY rfl (y_add rfl rfl (show _ = (1 : Int) from rfl)) ?_
    refine LY rfl (y_assign rfl) (L_nil ?_)
    refine In_round ?_
    refine C_seq (C_seq (C_region (LY rfl (y_move rfl) (LY rfl (y_lss rfl rfl) (L_nil (C_cond_t rfl (C_skip (C_seq (C_block (C_seq (C_region (LY rfl (y_move rfl) (LY rfl (y_move rfl) (LY rfl (y_nilCheck rfl) (LY rfl (y_fieldAddr rfl fl_126_1) ?_)))))))))))))))
    refine LY rfl (y_indexA rfl rfl Try.underlying62 sz_4 (by omega) (by omega) (show _ = 3 from rfl)) ?_
    refine LY rfl (y_load rfl ag_4 (sees 2 0 rfl) rfl) (LY rfl (y_not rfl) (LY rfl (y_move rfl) (LY rfl (y_move rfl) (LY rfl (y_move rfl) (LY rfl (y_move rfl) (LY rfl (y_nilCheck rfl) (LY rfl (y_fieldAddr rfl fl_126_0) ?_)))))))
    refine LY rfl (y_indexA rfl rfl Try.underlying122 sz_40 (by omega) (by omega) (show _ = 1 from rfl)) ?_
    refine LY rfl (y_load rfl ag_40 (sees 2 0 rfl) rfl) (LY rfl (y_move rfl) ?_)
    refine LY rfl (y_indexS rfl rfl Try.underlying40 sz_32 (by omega) (by omega) (show _ = n * 128 from by simp)) ?_
    refine LY rfl (y_loadA rfl ag_32 sz_32 (sees 4 0 rfl) (lseg_le hl1 hn ok1) (lseg_at hl1 hn ok1)) ?_
    refine L_op rfl (op_call rfl rfl (fun a w => Try.call18 a w) rfl ?_)
    refine (good09_s (n : Int) _ (lget_len hl1 hn ok1)).mono ?_
    rintro _ _ ⟨e4, e⟩
    obtain rfl := e.symm
    clear e
    obtain rfl := e4
    refine ⟨_, rfl, ?_⟩
    refine LY rfl (y_pick_t rfl rfl) (L_nil ?_)
    refine C_cond rfl (fun hc2 => ?_) (fun hc2 => ?_)
    · skip
      refine C_region (LY rfl (y_move rfl) (LY rfl (y_move rfl) (LY rfl (y_move rfl) (LY rfl (y_nilCheck rfl) (LY rfl (y_fieldAddr rfl fl_126_0) ?_)))))
      refine LY rfl (y_indexA rfl rfl Try.underlying122 sz_40 (by omega) (by omega) (show _ = 1 from rfl)) ?_
      refine LY rfl (y_load rfl ag_40 (sees 2 0 rfl) rfl) (LY rfl (y_move rfl) ?_)
      refine LY rfl (y_indexS rfl rfl Try.underlying40 sz_32 (by omega) (by omega) (show _ = n * 128 from by simp)) ?_
      refine LY rfl (y_loadA rfl ag_32 sz_32 (sees 4 0 rfl) (lseg_le hl1 hn ok1) (lseg_at hl1 hn ok1)) ?_
      refine L_op rfl (op_buildSlice (vs := [(0, _)]) rfl Try.underlying40 sz_32 zl_32 rfl (by decide) (fill_one rfl (by rw [bs_length, (lget_len hl1 hn ok1)]) rfl) rfl (fun B2 => ?_))
      refine L_op rfl (op_append (gs := r1) (len := 1) (m := 1) (xs := bs (l0.getD n [])) (vs := bs (l1.getD n [])) 1 rfl rfl rfl hr1 (src_slice (vs := bs (l1.getD n [])) (sees 0 0 rfl) (by rw [bs_length, (lget_len hl1 hn ok1)]; decide) (bs_whole0 _ (lget_len hl1 hn ok1))) (by rw [bs_length, (lget_len hl1 hn ok1)]) (bs_one _) Try.underlying40 ni_40 sz_32 by_32 (by decide) zl_32 rfl (by decide) rfl (fun r2 hr2 => ?_))
      refine LY rfl (y_assign rfl) (L_nil (C_region (LY rfl (y_move rfl) ?_)))
      refine LY rfl (y_add rfl rfl (show _ = (2 : Int) from rfl)) ?_
      refine LY rfl (y_assign rfl) (L_nil ?_)
      refine In_round ?_
      refine C_seq (C_seq (C_region (LY rfl (y_move rfl) (LY rfl (y_lss rfl rfl) (L_nil (C_cond_f rfl (C_exit (C_seq (C_region (LY rfl (y_move rfl) (LY rfl (y_assign rfl) (L_nil (C_ret ?_)))))))))))))
      refine B_ret (rv_tmp rfl rv_nil) ((hsub (.cons_cons _ (.cons_cons _ (.cons_cons _ (.cons_cons _ (.cons_cons _ (.cons_cons _ (.cons _ (.cons _ (.refl _)))))))))).trans (hsub_pick [1, 2, 2, 2, 2, 2] rfl)) ?_
      have e0 : Rm.both (⟨⟨l0, false, s0⟩, ⟨l1, false, s1⟩⟩ : Rm) goodP n = [(l0.getD n []), (l1.getD n [])] := by unfold Rm.both; rw [hb]; simp_all [Rs.at]
      rw [e0, show List.flatten [(l0.getD n []), (l1.getD n [])] = (l0.getD n []) ++ (l1.getD n []) from by simp]
      rw [← bs_append] at hr2 ⊢
      exact ⟨r2, hr2, rfl, rfl⟩
    · skip
      refine C_skip (C_region (LY rfl (y_move rfl) ?_))
      refine LY rfl (y_add rfl rfl (show _ = (2 : Int) from rfl)) ?_
      refine LY rfl (y_assign rfl) (L_nil ?_)
      refine In_round ?_
      refine C_seq (C_seq (C_region (LY rfl (y_move rfl) (LY rfl (y_lss rfl rfl) (L_nil (C_cond_f rfl (C_exit (C_seq (C_region (LY rfl (y_move rfl) (LY rfl (y_assign rfl) (L_nil (C_ret ?_)))))))))))))
      refine B_ret (rv_tmp rfl rv_nil) ((hsub (.cons_cons _ (.cons_cons _ (.cons_cons _ (.cons_cons _ (.cons_cons _ (.cons_cons _ (.cons _ (.refl _))))))))).trans (hsub_pick [0, 1, 1, 1, 1, 1] rfl)) ?_
      have e0 : Rm.both (⟨⟨l0, false, s0⟩, ⟨l1, false, s1⟩⟩ : Rm) goodP n = [(l0.getD n [])] := by unfold Rm.both; rw [hb]; simp_all [Rs.at]
      rw [e0, show List.flatten [(l0.getD n [])] = (l0.getD n []) from by simp]
      exact ⟨r1, hr1, rfl, rfl⟩
  · skip
    refine C_skip (C_region (LY rfl (y_move rfl) ?_))
    refine LY rfl (y_add rfl rfl (show _ = (1 : Int) from rfl)) ?_
    refine LY rfl (y_assign rfl) (L_nil ?_)
    refine In_round ?_
    refine C_seq (C_seq (C_region (LY rfl (y_move rfl) (LY rfl (y_lss rfl rfl) (L_nil (C_cond_t rfl (C_skip (C_seq (C_block (C_seq (C_region (LY rfl (y_move rfl) (LY rfl (y_move rfl) (LY rfl (y_nilCheck rfl) (LY rfl (y_fieldAddr rfl fl_126_1) ?_)))))))))))))))
    refine LY rfl (y_indexA rfl rfl Try.underlying62 sz_4 (by omega) (by omega) (show _ = 3 from rfl)) ?_
    refine LY rfl (y_load rfl ag_4 (sees 0 0 rfl) rfl) (LY rfl (y_not rfl) (LY rfl (y_move rfl) (LY rfl (y_move rfl) (LY rfl (y_move rfl) (LY rfl (y_move rfl) (LY rfl (y_nilCheck rfl) (LY rfl (y_fieldAddr rfl fl_126_0) ?_)))))))
    refine LY rfl (y_indexA rfl rfl Try.underlying122 sz_40 (by omega) (by omega) (show _ = 1 from rfl)) ?_
    refine LY rfl (y_load rfl ag_40 (sees 0 0 rfl) rfl) (LY rfl (y_move rfl) ?_)
    refine LY rfl (y_indexS rfl rfl Try.underlying40 sz_32 (by omega) (by omega) (show _ = n * 128 from by simp)) ?_
    refine LY rfl (y_loadA rfl ag_32 sz_32 (sees 2 0 rfl) (lseg_le hl1 hn ok1) (lseg_at hl1 hn ok1)) ?_
    refine L_op rfl (op_call rfl rfl (fun a w => Try.call18 a w) rfl ?_)
    refine (good09_s (n : Int) _ (lget_len hl1 hn ok1)).mono ?_
    rintro _ _ ⟨e4, e⟩
    obtain rfl := e.symm
    clear e
    obtain rfl := e4
    refine ⟨_, rfl, ?_⟩
    refine LY rfl (y_pick_t rfl rfl) (L_nil ?_)
    refine C_cond rfl (fun hc2 => ?_) (fun hc2 => ?_)
    · skip
      refine C_region (LY rfl (y_move rfl) (LY rfl (y_move rfl) (LY rfl (y_move rfl) (LY rfl (y_nilCheck rfl) (LY rfl (y_fieldAddr rfl fl_126_0) ?_)))))
      refine LY rfl (y_indexA rfl rfl Try.underlying122 sz_40 (by omega) (by omega) (show _ = 1 from rfl)) ?_
      refine LY rfl (y_load rfl ag_40 (sees 0 0 rfl) rfl) (LY rfl (y_move rfl) ?_)
      refine LY rfl (y_indexS rfl rfl Try.underlying40 sz_32 (by omega) (by omega) (show _ = n * 128 from by simp)) ?_
      refine LY rfl (y_loadA rfl ag_32 sz_32 (sees 2 0 rfl) (lseg_le hl1 hn ok1) (lseg_at hl1 hn ok1)) ?_
      refine L_op rfl (op_buildSlice (vs := [(0, _)]) rfl Try.underlying40 sz_32 zl_32 rfl (by decide) (fill_one rfl (by rw [bs_length, (lget_len hl1 hn ok1)]) rfl) rfl (fun B3 => ?_))
      refine L_op rfl (op_append0 (m := 1) (vs := bs (l1.getD n [])) rfl rfl (src_slice (vs := bs (l1.getD n [])) (sees 0 0 rfl) (by rw [bs_length, (lget_len hl1 hn ok1)]; decide) (bs_whole0 _ (lget_len hl1 hn ok1))) (by rw [bs_length, (lget_len hl1 hn ok1)]) (bs_one _) Try.underlying40 ni_40 sz_32 by_32 (by decide) zl_32 rfl (by decide) rfl (fun r1 hr1 => ?_))
      refine LY rfl (y_assign rfl) (L_nil (C_region (LY rfl (y_move rfl) ?_)))
      refine LY rfl (y_add rfl rfl (show _ = (2 : Int) from rfl)) ?_
      refine LY rfl (y_assign rfl) (L_nil ?_)
      refine In_round ?_
      refine C_seq (C_seq (C_region (LY rfl (y_move rfl) (LY rfl (y_lss rfl rfl) (L_nil (C_cond_f rfl (C_exit (C_seq (C_region (LY rfl (y_move rfl) (LY rfl (y_assign rfl) (L_nil (C_ret ?_)))))))))))))
      refine B_ret (rv_tmp rfl rv_nil) ((hsub (.cons_cons _ (.cons_cons _ (.cons_cons _ (.cons_cons _ (.cons_cons _ (.cons_cons _ (.cons _ (.refl _))))))))).trans (hsub_pick [0, 1, 1, 1, 1, 1] rfl)) ?_
      have e0 : Rm.both (⟨⟨l0, false, s0⟩, ⟨l1, false, s1⟩⟩ : Rm) goodP n = [(l1.getD n [])] := by unfold Rm.both; rw [hb]; simp_all [Rs.at]
      rw [e0, show List.flatten [(l1.getD n [])] = (l1.getD n []) from by simp]
      exact ⟨r1, hr1, rfl, rfl⟩
    · skip
      refine C_skip (C_region (LY rfl (y_move rfl) ?_))
      refine LY rfl (y_add rfl rfl (show _ = (2 : Int) from rfl)) ?_
      refine LY rfl (y_assign rfl) (L_nil ?_)
      refine In_round ?_
      refine C_seq (C_seq (C_region (LY rfl (y_move rfl) (LY rfl (y_lss rfl rfl) (L_nil (C_cond_f rfl (C_exit (C_seq (C_region (LY rfl (y_move rfl) (LY rfl (y_assign rfl) (L_nil (C_ret ?_)))))))))))))
      refine B_ret (rv_tmp rfl rv_nil) (hsub_nil0.trans ((hsub (.cons_cons _ (.cons_cons _ (.cons_cons _ (.cons_cons _ (.cons_cons _ (.refl _))))))).trans (hsub_pick [0, 0, 0, 0, 0] rfl))) ?_
      have e0 : Rm.both (⟨⟨l0, false, s0⟩, ⟨l1, false, s1⟩⟩ : Rm) goodP n = [] := by unfold Rm.both; rw [hb]; simp_all [Rs.at]
      rw [e0]
      exact ⟨none, ⟨rfl, rfl⟩, rfl, rfl⟩

theorem rboth_ft {w0 : World} {H : Hp} {o : Ro} {K : Nat} {l0 l1 : List Sec} {s0 s1 : List Bool} (ok : RmOk (⟨⟨l0, false, s0⟩, ⟨l1, true, s1⟩⟩ : Rm) K) (n : Nat) (hn : n < K) (hb : Rm.has (⟨⟨l0, false, s0⟩, ⟨l1, true, s1⟩⟩ : Rm) (n : Int) = true) : FnS Try.prog w0 70 #[ptr o.b, .int .i64 (n : Int)] (o.hp 126 32 4 K (⟨⟨l0, false, s0⟩, ⟨l1, true, s1⟩⟩ : Rm) H) (fun e H' => ∃ g, slOk 128 g (Rm.both (⟨⟨l0, false, s0⟩, ⟨l1, true, s1⟩⟩ : Rm) goodP n).length (bs (Rm.both (⟨⟨l0, false, s0⟩, ⟨l1, true, s1⟩⟩ : Rm) goodP n).flatten) ∧ e = .returned (slV g (Rm.both (⟨⟨l0, false, s0⟩, ⟨l1, true, s1⟩⟩ : Rm) goodP n).length) ∧ H' = slSeg 32 g (bs (Rm.both (⟨⟨l0, false, s0⟩, ⟨l1, true, s1⟩⟩ : Rm) goodP n).flatten) :: (o.hp 126 32 4 K (⟨⟨l0, false, s0⟩, ⟨l1, true, s1⟩⟩ : Rm) H)) := by
  have hl0 : l0.length = K := ok.l0
  have hl1 : l1.length = K := ok.l1
  have hs0 : s0.length = K := ok.s0
  have hs1 : s1.length = K := ok.s1
  have ok0 : ∀ s ∈ l0, s.length = 128 := ok.ok0
  have ok1 : ∀ s ∈ l1, s.length = 128 := ok.ok1
  have hK := ok.le
  refine FnS_intro (n := 49) (rs := [.tmp 4]) (vs := [ptr o.b, .int .i64 (n : Int)]) Try.func70 rfl Try.ntmps70 rfl rfl ?_
  refine C_seq (C_region (LY rfl (y_assign rfl) (L_nil (C_seq (C_region (LY rfl (y_assign rfl) (L_nil (C_seq (C_seq (C_region (LY rfl (y_move rfl) (LY rfl (y_move rfl) ?_))))))))))))
  refine L_op rfl (op_call rfl rfl (fun a w => Try.call71 a w) rfl ?_)
  refine (FnS.sub (hsub_pick [0, 0, 0, 0, 0] rfl) (rthere_s ok _)).mono ?_
  rintro _ _ ⟨e4, rfl⟩
  rw [hb] at e4
  obtain rfl := e4
  refine ⟨_, rfl, ?_⟩
  refine LY rfl (y_not rfl) (L_nil (C_cond_f rfl (C_skip (C_seq (C_seq (C_region (LY rfl (y_assign rfl) (L_nil (C_block ?_)))))))))
  refine C_loopIn (In_round ?_)
  refine C_seq (C_seq (C_region (LY rfl (y_move rfl) (LY rfl (y_lss rfl rfl) (L_nil (C_cond_t rfl (C_skip (C_seq (C_block (C_seq (C_region (LY rfl (y_move rfl) (LY rfl (y_move rfl) (LY rfl (y_nilCheck rfl) (LY rfl (y_fieldAddr rfl fl_126_1) ?_)))))))))))))))
  refine LY rfl (y_indexA rfl rfl Try.underlying62 sz_4 (by omega) (by omega) (show _ = 2 from rfl)) ?_
  refine LY rfl (y_load rfl ag_4 (sees 0 0 rfl) rfl) (LY rfl (y_not rfl) (LY rfl (y_move rfl) (LY rfl (y_move rfl) (LY rfl (y_move rfl) (LY rfl (y_move rfl) (LY rfl (y_nilCheck rfl) (LY rfl (y_fieldAddr rfl fl_126_0) ?_)))))))
  refine LY rfl (y_indexA rfl rfl Try.underlying122 sz_40 (by omega) (by omega) (show _ = 0 from rfl)) ?_
  refine LY rfl (y_load rfl ag_40 (sees 0 0 rfl) rfl) (LY rfl (y_move rfl) ?_)
  refine LY rfl (y_indexS rfl rfl Try.underlying40 sz_32 (by omega) (by omega) (show _ = n * 128 from by simp)) ?_
  refine LY rfl (y_loadA rfl ag_32 sz_32 (sees 1 0 rfl) (lseg_le hl0 hn ok0) (lseg_at hl0 hn ok0)) ?_
  refine L_op rfl (op_call rfl rfl (fun a w => Try.call18 a w) rfl ?_)
  refine (good09_s (n : Int) _ (lget_len hl0 hn ok0)).mono ?_
  rintro _ _ ⟨e4, e⟩
  obtain rfl := e.symm
  clear e
  obtain rfl := e4
  refine ⟨_, rfl, ?_⟩
  refine LY rfl (y_pick_t rfl rfl) (L_nil ?_)
  refine C_cond rfl (fun hc2 => ?_) (fun hc2 => ?_)
  · skip
    refine C_region (LY rfl (y_move rfl) (LY rfl (y_move rfl) (LY rfl (y_move rfl) (LY rfl (y_nilCheck rfl) (LY rfl (y_fieldAddr rfl fl_126_0) ?_)))))
    refine LY rfl (y_indexA rfl rfl Try.underlying122 sz_40 (by omega) (by omega) (show _ = 0 from rfl)) ?_
    refine LY rfl (y_load rfl ag_40 (sees 0 0 rfl) rfl) (LY rfl (y_move rfl) ?_)
    refine LY rfl (y_indexS rfl rfl Try.underlying40 sz_32 (by omega) (by omega) (show _ = n * 128 from by simp)) ?_
    refine LY rfl (y_loadA rfl ag_32 sz_32 (sees 1 0 rfl) (lseg_le hl0 hn ok0) (lseg_at hl0 hn ok0)) ?_
    refine L_op rfl (op_buildSlice (vs := [(0, _)]) rfl Try.underlying40 sz_32 zl_32 rfl (by decide) (fill_one rfl (by rw [bs_length, (lget_len hl0 hn ok0)]) rfl) rfl (fun B1 => ?_))
    refine L_op rfl (op_append0 (m := 1) (vs := bs (l0.getD n [])) rfl rfl (src_slice (vs := bs (l0.getD n [])) (sees 0 0 rfl) (by rw [bs_length, (lget_len hl0 hn ok0)]; decide) (bs_whole0 _ (lget_len hl0 hn ok0))) (by rw [bs_length, (lget_len hl0 hn ok0)]) (bs_one _) Try.underlying40 ni_40 sz_32 by_32 (by decide) zl_32 rfl (by decide) rfl (fun r1 hr1 => ?_))
    refine LY rfl (y_assign rfl) (L_nil (C_region (LY rfl (y_move rfl) ?_)))
    refine LY rfl (y_add rfl rfl (show _ = (1 : Int) from rfl)) ?_
    refine LY rfl (y_assign rfl) (L_nil ?_)
    refine In_round ?_
    refine C_seq (C_seq (C_region (LY rfl (y_move rfl) (LY rfl (y_lss rfl rfl) (L_nil (C_cond_t rfl (C_skip (C_seq (C_block (C_seq (C_region (LY rfl (y_move rfl) (LY rfl (y_move rfl) (LY rfl (y_nilCheck rfl) (LY rfl (y_fieldAddr rfl fl_126_1) ?_)))))))))))))))
    refine LY rfl (y_indexA rfl rfl Try.underlying62 sz_4 (by omega) (by omega) (show _ = 3 from rfl)) ?_
    refine LY rfl (y_load rfl ag_4 (sees 2 0 rfl) rfl) (LY rfl (y_not rfl) (LY rfl (y_move rfl) (L_skip rfl rfl (L_skip rfl rfl (L_skip rfl rfl (L_skip rfl rfl (L_skip rfl rfl (L_skip rfl rfl (L_skip rfl rfl (L_skip rfl rfl (L_skip rfl rfl (L_skip rfl rfl (L_skip rfl rfl (LY rfl (y_pick_f rfl rfl) (L_nil (C_cond_f rfl (C_skip (C_region (LY rfl (y_move rfl) ?_)))))))))))))))))))
    refine LY rfl (y_add rfl rfl (show _ = (2 : Int) from rfl)) ?_
    refine LY rfl (y_assign rfl) (L_nil ?_)
    refine In_round ?_
    refine C_seq (C_seq (C_region (LY rfl (y_move rfl) (LY rfl (y_lss rfl rfl) (L_nil (C_cond_f rfl (C_exit (C_seq (C_region (LY rfl (y_move rfl) (LY rfl (y_assign rfl) (L_nil (C_ret ?_)))))))))))))
    refine B_ret (rv_tmp rfl rv_nil) ((hsub (.cons_cons _ (.cons_cons _ (.cons_cons _ (.cons_cons _ (.cons_cons _ (.cons_cons _ (.cons _ (.refl _))))))))).trans (hsub_pick [0, 1, 1, 1, 1, 1] rfl)) ?_
    have e0 : Rm.both (⟨⟨l0, false, s0⟩, ⟨l1, true, s1⟩⟩ : Rm) goodP n = [(l0.getD n [])] := by unfold Rm.both; rw [hb]; simp_all [Rs.at]
    rw [e0, show List.flatten [(l0.getD n [])] = (l0.getD n []) from by simp]
    exact ⟨r1, hr1, rfl, rfl⟩
  · skip
    refine C_skip (C_region (LY rfl (y_move rfl) ?_))
    refine LY rfl (y_add rfl rfl (show _ = (1 : Int) from rfl)) ?_
    refine LY rfl (y_assign rfl) (L_nil ?_)
    refine In_round ?_
    refine C_seq (C_seq (C_region (LY rfl (y_move rfl) (LY rfl (y_lss rfl rfl) (L_nil (C_cond_t rfl (C_skip (C_seq (C_block (C_seq (C_region (LY rfl (y_move rfl) (LY rfl (y_move rfl) (LY rfl (y_nilCheck rfl) (LY rfl (y_fieldAddr rfl fl_126_1) ?_)))))))))))))))
    refine LY rfl (y_indexA rfl rfl Try.underlying62 sz_4 (by omega) (by omega) (show _ = 3 from rfl)) ?_
    refine LY rfl (y_load rfl ag_4 (sees 0 0 rfl) rfl) (LY rfl (y_not rfl) (LY rfl (y_move rfl) (L_skip rfl rfl (L_skip rfl rfl (L_skip rfl rfl (L_skip rfl rfl (L_skip rfl rfl (L_skip rfl rfl (L_skip rfl rfl (L_skip rfl rfl (L_skip rfl rfl (L_skip rfl rfl (L_skip rfl rfl (LY rfl (y_pick_f rfl rfl) (L_nil (C_cond_f rfl (C_skip (C_region (LY rfl (y_move rfl) ?_)))))))))))))))))))
    refine LY rfl (y_add rfl rfl (show _ = (2 : Int) from rfl)) ?_
    refine LY rfl (y_assign rfl) (L_nil ?_)
    refine In_round ?_
    refine C_seq (C_seq (C_region (LY rfl (y_move rfl) (LY rfl (y_lss rfl rfl) (L_nil (C_cond_f rfl (C_exit (C_seq (C_region (LY rfl (y_move rfl) (LY rfl (y_assign rfl) (L_nil (C_ret ?_)))))))))))))
    refine B_ret (rv_tmp rfl rv_nil) (hsub_nil0.trans ((hsub (.cons_cons _ (.cons_cons _ (.cons_cons _ (.cons_cons _ (.cons_cons _ (.refl _))))))).trans (hsub_pick [0, 0, 0, 0, 0] rfl))) ?_
    have e0 : Rm.both (⟨⟨l0, false, s0⟩, ⟨l1, true, s1⟩⟩ : Rm) goodP n = [] := by unfold Rm.both; rw [hb]; simp_all [Rs.at]
    rw [e0]
    exact ⟨none, ⟨rfl, rfl⟩, rfl, rfl⟩

theorem rboth_tf {w0 : World} {H : Hp} {o : Ro} {K : Nat} {l0 l1 : List Sec} {s0 s1 : List Bool} (ok : RmOk (⟨⟨l0, true, s0⟩, ⟨l1, false, s1⟩⟩ : Rm) K) (n : Nat) (hn : n < K) (hb : Rm.has (⟨⟨l0, true, s0⟩, ⟨l1, false, s1⟩⟩ : Rm) (n : Int) = true) : FnS Try.prog w0 70 #[ptr o.b, .int .i64 (n : Int)] (o.hp 126 32 4 K (⟨⟨l0, true, s0⟩, ⟨l1, false, s1⟩⟩ : Rm) H) (fun e H' => ∃ g, slOk 128 g (Rm.both (⟨⟨l0, true, s0⟩, ⟨l1, false, s1⟩⟩ : Rm) goodP n).length (bs (Rm.both (⟨⟨l0, true, s0⟩, ⟨l1, false, s1⟩⟩ : Rm) goodP n).flatten) ∧ e = .returned (slV g (Rm.both (⟨⟨l0, true, s0⟩, ⟨l1, false, s1⟩⟩ : Rm) goodP n).length) ∧ H' = slSeg 32 g (bs (Rm.both (⟨⟨l0, true, s0⟩, ⟨l1, false, s1⟩⟩ : Rm) goodP n).flatten) :: (o.hp 126 32 4 K (⟨⟨l0, true, s0⟩, ⟨l1, false, s1⟩⟩ : Rm) H)) := by
  have hl0 : l0.length = K := ok.l0
  have hl1 : l1.length = K := ok.l1
  have hs0 : s0.length = K := ok.s0
  have hs1 : s1.length = K := ok.s1
  have ok0 : ∀ s ∈ l0, s.length = 128 := ok.ok0
  have ok1 : ∀ s ∈ l1, s.length = 128 := ok.ok1
  have hK := ok.le
  refine FnS_intro (n := 49) (rs := [.tmp 4]) (vs := [ptr o.b, .int .i64 (n : Int)]) Try.func70 rfl Try.ntmps70 rfl rfl ?_
  refine C_seq (C_region (LY rfl (y_assign rfl) (L_nil (C_seq (C_region (LY rfl (y_assign rfl) (L_nil (C_seq (C_seq (C_region (LY rfl (y_move rfl) (LY rfl (y_move rfl) ?_))))))))))))
  refine L_op rfl (op_call rfl rfl (fun a w => Try.call71 a w) rfl ?_)
  refine (FnS.sub (hsub_pick [0, 0, 0, 0, 0] rfl) (rthere_s ok _)).mono ?_
  rintro _ _ ⟨e4, rfl⟩
  rw [hb] at e4
  obtain rfl := e4
  refine ⟨_, rfl, ?_⟩
  refine LY rfl (y_not rfl) (L_nil (C_cond_f rfl (C_skip (C_seq (C_seq (C_region (LY rfl (y_assign rfl) (L_nil (C_block ?_)))))))))
  refine C_loopIn (In_round ?_)
  refine C_seq (C_seq (C_region (LY rfl (y_move rfl) (LY rfl (y_lss rfl rfl) (L_nil (C_cond_t rfl (C_skip (C_seq (C_block (C_seq (C_region (LY rfl (y_move rfl) (LY rfl (y_move rfl) (LY rfl (y_nilCheck rfl) (LY rfl (y_fieldAddr rfl fl_126_1) ?_)))))))))))))))
  refine LY rfl (y_indexA rfl rfl Try.underlying62 sz_4 (by omega) (by omega) (show _ = 2 from rfl)) ?_
  refine LY rfl (y_load rfl ag_4 (sees 0 0 rfl) rfl) (LY rfl (y_not rfl) (LY rfl (y_move rfl) (L_skip rfl rfl (L_skip rfl rfl (L_skip rfl rfl (L_skip rfl rfl (L_skip rfl rfl (L_skip rfl rfl (L_skip rfl rfl (L_skip rfl rfl (L_skip rfl rfl (L_skip rfl rfl (L_skip rfl rfl (LY rfl (y_pick_f rfl rfl) (L_nil (C_cond_f rfl (C_skip (C_region (LY rfl (y_move rfl) ?_)))))))))))))))))))
  refine LY rfl (y_add rfl rfl (show _ = (1 : Int) from rfl)) ?_
  refine LY rfl (y_assign rfl) (L_nil ?_)
  refine In_round ?_
  refine C_seq (C_seq (C_region (LY rfl (y_move rfl) (LY rfl (y_lss rfl rfl) (L_nil (C_cond_t rfl (C_skip (C_seq (C_block (C_seq (C_region (LY rfl (y_move rfl) (LY rfl (y_move rfl) (LY rfl (y_nilCheck rfl) (LY rfl (y_fieldAddr rfl fl_126_1) ?_)))))))))))))))
  refine LY rfl (y_indexA rfl rfl Try.underlying62 sz_4 (by omega) (by omega) (show _ = 3 from rfl)) ?_
  refine LY rfl (y_load rfl ag_4 (sees 0 0 rfl) rfl) (LY rfl (y_not rfl) (LY rfl (y_move rfl) (LY rfl (y_move rfl) (LY rfl (y_move rfl) (LY rfl (y_move rfl) (LY rfl (y_nilCheck rfl) (LY rfl (y_fieldAddr rfl fl_126_0) ?_)))))))
  refine LY rfl (y_indexA rfl rfl Try.underlying122 sz_40 (by omega) (by omega) (show _ = 1 from rfl)) ?_
  refine LY rfl (y_load rfl ag_40 (sees 0 0 rfl) rfl) (LY rfl (y_move rfl) ?_)
  refine LY rfl (y_indexS rfl rfl Try.underlying40 sz_32 (by omega) (by omega) (show _ = n * 128 from by simp)) ?_
  refine LY rfl (y_loadA rfl ag_32 sz_32 (sees 2 0 rfl) (lseg_le hl1 hn ok1) (lseg_at hl1 hn ok1)) ?_
  refine L_op rfl (op_call rfl rfl (fun a w => Try.call18 a w) rfl ?_)
  refine (good09_s (n : Int) _ (lget_len hl1 hn ok1)).mono ?_
  rintro _ _ ⟨e4, e⟩
  obtain rfl := e.symm
  clear e
  obtain rfl := e4
  refine ⟨_, rfl, ?_⟩
  refine LY rfl (y_pick_t rfl rfl) (L_nil ?_)
  refine C_cond rfl (fun hc2 => ?_) (fun hc2 => ?_)
  · skip
    refine C_region (LY rfl (y_move rfl) (LY rfl (y_move rfl) (LY rfl (y_move rfl) (LY rfl (y_nilCheck rfl) (LY rfl (y_fieldAddr rfl fl_126_0) ?_)))))
    refine LY rfl (y_indexA rfl rfl Try.underlying122 sz_40 (by omega) (by omega) (show _ = 1 from rfl)) ?_
    refine LY rfl (y_load rfl ag_40 (sees 0 0 rfl) rfl) (LY rfl (y_move rfl) ?_)
    refine LY rfl (y_indexS rfl rfl Try.underlying40 sz_32 (by omega) (by omega) (show _ = n * 128 from by simp)) ?_
    refine LY rfl (y_loadA rfl ag_32 sz_32 (sees 2 0 rfl) (lseg_le hl1 hn ok1) (lseg_at hl1 hn ok1)) ?_
    refine L_op rfl (op_buildSlice (vs := [(0, _)]) rfl Try.underlying40 sz_32 zl_32 rfl (by decide) (fill_one rfl (by rw [bs_length, (lget_len hl1 hn ok1)]) rfl) rfl (fun B1 => ?_))
    refine L_op rfl (op_append0 (m := 1) (vs := bs (l1.getD n [])) rfl rfl (src_slice (vs := bs (l1.getD n [])) (sees 0 0 rfl) (by rw [bs_length, (lget_len hl1 hn ok1)]; decide) (bs_whole0 _ (lget_len hl1 hn ok1))) (by rw [bs_length, (lget_len hl1 hn ok1)]) (bs_one _) Try.underlying40 ni_40 sz_32 by_32 (by decide) zl_32 rfl (by decide) rfl (fun r1 hr1 => ?_))
    refine LY rfl (y_assign rfl) (L_nil (C_region (LY rfl (y_move rfl) ?_)))
    refine LY rfl (y_add rfl rfl (show _ = (2 : Int) from rfl)) ?_
    refine LY rfl (y_assign rfl) (L_nil ?_)
    refine In_round ?_
    refine C_seq (C_seq (C_region (LY rfl (y_move rfl) (LY rfl (y_lss rfl rfl) (L_nil (C_cond_f rfl (C_exit (C_seq (C_region (LY rfl (y_move rfl) (LY rfl (y_assign rfl) (L_nil (C_ret ?_)))))))))))))
    refine B_ret (rv_tmp rfl rv_nil) ((hsub (.cons_cons _ (.cons_cons _ (.cons_cons _ (.cons_cons _ (.cons_cons _ (.cons_cons _ (.cons _ (.refl _))))))))).trans (hsub_pick [0, 1, 1, 1, 1, 1] rfl)) ?_
    have e0 : Rm.both (⟨⟨l0, true, s0⟩, ⟨l1, false, s1⟩⟩ : Rm) goodP n = [(l1.getD n [])] := by unfold Rm.both; rw [hb]; simp_all [Rs.at]
    rw [e0, show List.flatten [(l1.getD n [])] = (l1.getD n []) from by simp]
    exact ⟨r1, hr1, rfl, rfl⟩
  · skip
    refine C_skip (C_region (LY rfl (y_move rfl) ?_))
    refine LY rfl (y_add rfl rfl (show _ = (2 : Int) from rfl)) ?_
    refine LY rfl (y_assign rfl) (L_nil ?_)
    refine In_round ?_
    refine C_seq (C_seq (C_region (LY rfl (y_move rfl) (LY rfl (y_lss rfl rfl) (L_nil (C_cond_f rfl (C_exit (C_seq (C_region (LY rfl (y_move rfl) (LY rfl (y_assign rfl) (L_nil (C_ret ?_)))))))))))))
    refine B_ret (rv_tmp rfl rv_nil) (hsub_nil0.trans ((hsub (.cons_cons _ (.cons_cons _ (.cons_cons _ (.cons_cons _ (.cons_cons _ (.refl _))))))).trans (hsub_pick [0, 0, 0, 0, 0] rfl))) ?_
    have e0 : Rm.both (⟨⟨l0, true, s0⟩, ⟨l1, false, s1⟩⟩ : Rm) goodP n = [] := by unfold Rm.both; rw [hb]; simp_all [Rs.at]
    rw [e0]
    exact ⟨none, ⟨rfl, rfl⟩, rfl, rfl⟩

theorem rboth_tt {w0 : World} {H : Hp} {o : Ro} {K : Nat} {l0 l1 : List Sec} {s0 s1 : List Bool} (ok : RmOk (⟨⟨l0, true, s0⟩, ⟨l1, true, s1⟩⟩ : Rm) K) (n : Nat) (hn : n < K) (hb : Rm.has (⟨⟨l0, true, s0⟩, ⟨l1, true, s1⟩⟩ : Rm) (n : Int) = true) : FnS Try.prog w0 70 #[ptr o.b, .int .i64 (n : Int)] (o.hp 126 32 4 K (⟨⟨l0, true, s0⟩, ⟨l1, true, s1⟩⟩ : Rm) H) (fun e H' => ∃ g, slOk 128 g (Rm.both (⟨⟨l0, true, s0⟩, ⟨l1, true, s1⟩⟩ : Rm) goodP n).length (bs (Rm.both (⟨⟨l0, true, s0⟩, ⟨l1, true, s1⟩⟩ : Rm) goodP n).flatten) ∧ e = .returned (slV g (Rm.both (⟨⟨l0, true, s0⟩, ⟨l1, true, s1⟩⟩ : Rm) goodP n).length) ∧ H' = slSeg 32 g (bs (Rm.both (⟨⟨l0, true, s0⟩, ⟨l1, true, s1⟩⟩ : Rm) goodP n).flatten) :: (o.hp 126 32 4 K (⟨⟨l0, true, s0⟩, ⟨l1, true, s1⟩⟩ : Rm) H)) := by
  have hl0 : l0.length = K := ok.l0
  have hl1 : l1.length = K := ok.l1
  have hs0 : s0.length = K := ok.s0
  have hs1 : s1.length = K := ok.s1
  have ok0 : ∀ s ∈ l0, s.length = 128 := ok.ok0
  have ok1 : ∀ s ∈ l1, s.length = 128 := ok.ok1
  have hK := ok.le
  refine FnS_intro (n := 49) (rs := [.tmp 4]) (vs := [ptr o.b, .int .i64 (n : Int)]) Try.func70 rfl Try.ntmps70 rfl rfl ?_
  refine C_seq (C_region (LY rfl (y_assign rfl) (L_nil (C_seq (C_region (LY rfl (y_assign rfl) (L_nil (C_seq (C_seq (C_region (LY rfl (y_move rfl) (LY rfl (y_move rfl) ?_))))))))))))
  refine L_op rfl (op_call rfl rfl (fun a w => Try.call71 a w) rfl ?_)
  refine (FnS.sub (hsub_pick [0, 0, 0, 0, 0] rfl) (rthere_s ok _)).mono ?_
  rintro _ _ ⟨e4, rfl⟩
  rw [hb] at e4
  obtain rfl := e4
  refine ⟨_, rfl, ?_⟩
  refine LY rfl (y_not rfl) (L_nil (C_cond_f rfl (C_skip (C_seq (C_seq (C_region (LY rfl (y_assign rfl) (L_nil (C_block ?_)))))))))
  refine C_loopIn (In_round ?_)
  refine C_seq (C_seq (C_region (LY rfl (y_move rfl) (LY rfl (y_lss rfl rfl) (L_nil (C_cond_t rfl (C_skip (C_seq (C_block (C_seq (C_region (LY rfl (y_move rfl) (LY rfl (y_move rfl) (LY rfl (y_nilCheck rfl) (LY rfl (y_fieldAddr rfl fl_126_1) ?_)))))))))))))))
  refine LY rfl (y_indexA rfl rfl Try.underlying62 sz_4 (by omega) (by omega) (show _ = 2 from rfl)) ?_
  refine LY rfl (y_load rfl ag_4 (sees 0 0 rfl) rfl) (LY rfl (y_not rfl) (LY rfl (y_move rfl) (L_skip rfl rfl (L_skip rfl rfl (L_skip rfl rfl (L_skip rfl rfl (L_skip rfl rfl (L_skip rfl rfl (L_skip rfl rfl (L_skip rfl rfl (L_skip rfl rfl (L_skip rfl rfl (L_skip rfl rfl (LY rfl (y_pick_f rfl rfl) (L_nil (C_cond_f rfl (C_skip (C_region (LY rfl (y_move rfl) ?_)))))))))))))))))))
  refine LY rfl (y_add rfl rfl (show _ = (1 : Int) from rfl)) ?_
  refine LY rfl (y_assign rfl) (L_nil ?_)
  refine In_round ?_
  refine C_seq (C_seq (C_region (LY rfl (y_move rfl) (LY rfl (y_lss rfl rfl) (L_nil (C_cond_t rfl (C_skip (C_seq (C_block (C_seq (C_region (LY rfl (y_move rfl) (LY rfl (y_move rfl) (LY rfl (y_nilCheck rfl) (LY rfl (y_fieldAddr rfl fl_126_1) ?_)))))))))))))))
  refine LY rfl (y_indexA rfl rfl Try.underlying62 sz_4 (by omega) (by omega) (show _ = 3 from rfl)) ?_
  refine LY rfl (y_load rfl ag_4 (sees 0 0 rfl) rfl) (LY rfl (y_not rfl) (LY rfl (y_move rfl) (L_skip rfl rfl (L_skip rfl rfl (L_skip rfl rfl (L_skip rfl rfl (L_skip rfl rfl (L_skip rfl rfl (L_skip rfl rfl (L_skip rfl rfl (L_skip rfl rfl (L_skip rfl rfl (L_skip rfl rfl (LY rfl (y_pick_f rfl rfl) (L_nil (C_cond_f rfl (C_skip (C_region (LY rfl (y_move rfl) ?_)))))))))))))))))))
  refine LY rfl (y_add rfl rfl (show _ = (2 : Int) from rfl)) ?_
  refine LY rfl (y_assign rfl) (L_nil ?_)
  refine In_round ?_
  refine C_seq (C_seq (C_region (LY rfl (y_move rfl) (LY rfl (y_lss rfl rfl) (L_nil (C_cond_f rfl (C_exit (C_seq (C_region (LY rfl (y_move rfl) (LY rfl (y_assign rfl) (L_nil (C_ret ?_)))))))))))))
  refine B_ret (rv_tmp rfl rv_nil) (hsub_nil0.trans ((hsub (.cons_cons _ (.cons_cons _ (.cons_cons _ (.cons_cons _ (.cons_cons _ (.refl _))))))).trans (hsub_pick [0, 0, 0, 0, 0] rfl))) ?_
  have e0 : Rm.both (⟨⟨l0, true, s0⟩, ⟨l1, true, s1⟩⟩ : Rm) goodP n = [] := by unfold Rm.both; rw [hb]; simp_all [Rs.at]
  rw [e0]
  exact ⟨none, ⟨rfl, rfl⟩, rfl, rfl⟩

theorem rboth_s {w0 : World} {H : Hp} {o : Ro} {K : Nat} {r : Rm} (ok : RmOk r K) (n : Int) : FnS Try.prog w0 70 #[ptr o.b, .int .i64 n] (o.hp 126 32 4 K r H) (fun e H' => ∃ g, slOk 128 g (Rm.both r goodP n).length (bs (Rm.both r goodP n).flatten) ∧ e = .returned (slV g (Rm.both r goodP n).length) ∧ H' = slSeg 32 g (bs (Rm.both r goodP n).flatten) :: (o.hp 126 32 4 K r H)) := by
  rcases tf (r.has n) with hb | hb
  · exact rboth_no ok n hb
  · obtain ⟨n, rfl⟩ : ∃ k : Nat, n = k := ⟨n.toNat, by unfold Rm.has at hb; simp at hb; omega⟩
    have hn : n < K := by unfold Rm.has at hb; rw [ok.l0] at hb; simp at hb; omega
    obtain ⟨⟨l0, o0, s0⟩, ⟨l1, o1, s1⟩⟩ := r
    cases o0 <;> cases o1
    · exact rboth_ff ok n (by omega) hb
    · exact rboth_ft ok n (by omega) hb
    · exact rboth_tf ok n (by omega) hb
    · exact rboth_tt ok n (by omega) hb

end Go.Proofs.Ytjjiclgbdenkkaa

/- walks (own work; the walks' lines by a program of this repo). -/
set_option linter.unusedVariables false
set_option linter.unusedSimpArgs false
set_option maxRecDepth 20000
namespace Go.Proofs.Ytjjiclgbdenkkaa
open Go.Sl
attribute [local irreducible] BodyQ WpC WpL WpS WpH OpW FnS


theorem rsync_tf {w0 : World} {H : Hp} {o : Ro} {K : Nat} {r : Rm} (ok : RmOk r K) (hx : r.x.o = true) (hy : r.y.o = false) : FnS Try.prog w0 68 #[ptr o.b] (o.hp 126 32 4 K r H) (fun e H' => e = .returned (.int .i64 (r.syncE goodP)) ∧ H' = (o.hp 126 32 4 K (r.sync goodP) H)) := by
  refine FnS_intro (n := 97) (rs := [.tmp 2]) (vs := [ptr o.b]) Try.func68 rfl Try.ntmps68 rfl rfl ?_
  refine C_seq (C_region (LY rfl (y_assign rfl) (L_nil (C_seq (C_seq (C_region (LY rfl (y_move rfl) (LY rfl (y_nilCheck rfl) (LY rfl (y_fieldAddr rfl fl_126_1) ?_)))))))))
  refine LY rfl (y_indexA rfl rfl Try.underlying62 sz_4 (by omega) (by omega) (show _ = 2 from rfl)) ?_
  refine LY rfl (y_load rfl ag_4 (sees 0 0 rfl) (show _ = some (Value.bool true) from by rw [← hx]; rfl)) ?_
  refine LY rfl (y_move rfl) (L_skip rfl rfl (L_skip rfl rfl (L_skip rfl rfl (L_skip rfl rfl (L_skip rfl rfl (LY rfl (y_pick_t rfl rfl) (L_nil (C_cond_t rfl (C_seq (C_region (LY rfl (y_assign rfl) (L_nil (C_ret ?_)))))))))))))
  refine B_ret (rv_tmp rfl rv_nil) (hsub (.refl _)) ?_
  have e1 : r.sync goodP = r := by unfold Rm.sync; rw [hx, hy]; rfl
  rw [e1]
  exact ⟨ret_int (by unfold Rm.syncE; rw [hx, hy]; rfl), rfl⟩

theorem rsync_ft {w0 : World} {H : Hp} {o : Ro} {K : Nat} {r : Rm} (ok : RmOk r K) (hx : r.x.o = false) (hy : r.y.o = true) : FnS Try.prog w0 68 #[ptr o.b] (o.hp 126 32 4 K r H) (fun e H' => e = .returned (.int .i64 (r.syncE goodP)) ∧ H' = (o.hp 126 32 4 K (r.sync goodP) H)) := by
  refine FnS_intro (n := 97) (rs := [.tmp 2]) (vs := [ptr o.b]) Try.func68 rfl Try.ntmps68 rfl rfl ?_
  refine C_seq (C_region (LY rfl (y_assign rfl) (L_nil (C_seq (C_seq (C_region (LY rfl (y_move rfl) (LY rfl (y_nilCheck rfl) (LY rfl (y_fieldAddr rfl fl_126_1) ?_)))))))))
  refine LY rfl (y_indexA rfl rfl Try.underlying62 sz_4 (by omega) (by omega) (show _ = 2 from rfl)) ?_
  refine LY rfl (y_load rfl ag_4 (sees 0 0 rfl) (show _ = some (Value.bool false) from by rw [← hx]; rfl)) ?_
  refine LY rfl (y_move rfl) (LY rfl (y_move rfl) (LY rfl (y_nilCheck rfl) (LY rfl (y_fieldAddr rfl fl_126_1) ?_)))
  refine LY rfl (y_indexA rfl rfl Try.underlying62 sz_4 (by omega) (by omega) (show _ = 3 from rfl)) ?_
  refine LY rfl (y_load rfl ag_4 (sees 0 0 rfl) (show _ = some (Value.bool true) from by rw [← hy]; rfl)) ?_
  refine LY rfl (y_pick_f rfl rfl) (L_nil (C_cond_t rfl (C_seq (C_region (LY rfl (y_assign rfl) (L_nil (C_ret ?_)))))))
  refine B_ret (rv_tmp rfl rv_nil) (hsub (.refl _)) ?_
  have e1 : r.sync goodP = r := by unfold Rm.sync; rw [hx, hy]; rfl
  rw [e1]
  exact ⟨ret_int (by unfold Rm.syncE; rw [hx, hy]; rfl), rfl⟩

theorem rsync_tt {w0 : World} {H : Hp} {o : Ro} {K : Nat} {r : Rm} (ok : RmOk r K) (hx : r.x.o = true) (hy : r.y.o = true) : FnS Try.prog w0 68 #[ptr o.b] (o.hp 126 32 4 K r H) (fun e H' => e = .returned (.int .i64 (r.syncE goodP)) ∧ H' = (o.hp 126 32 4 K (r.sync goodP) H)) := by
  refine FnS_intro (n := 97) (rs := [.tmp 2]) (vs := [ptr o.b]) Try.func68 rfl Try.ntmps68 rfl rfl ?_
  refine C_seq (C_region (LY rfl (y_assign rfl) (L_nil (C_seq (C_seq (C_region (LY rfl (y_move rfl) (LY rfl (y_nilCheck rfl) (LY rfl (y_fieldAddr rfl fl_126_1) ?_)))))))))
  refine LY rfl (y_indexA rfl rfl Try.underlying62 sz_4 (by omega) (by omega) (show _ = 2 from rfl)) ?_
  refine LY rfl (y_load rfl ag_4 (sees 0 0 rfl) (show _ = some (Value.bool true) from by rw [← hx]; rfl)) ?_
  refine LY rfl (y_move rfl) (L_skip rfl rfl (L_skip rfl rfl (L_skip rfl rfl (L_skip rfl rfl (L_skip rfl rfl (LY rfl (y_pick_t rfl rfl) (L_nil (C_cond_t rfl (C_seq (C_region (LY rfl (y_assign rfl) (L_nil (C_ret ?_)))))))))))))
  refine B_ret (rv_tmp rfl rv_nil) (hsub (.refl _)) ?_
  have e1 : r.sync goodP = r := by unfold Rm.sync; rw [hx, hy]; rfl
  rw [e1]
  exact ⟨ret_int (by unfold Rm.syncE; rw [hx, hy]; rfl), rfl⟩

theorem rsync_ff {w0 : World} {H : Hp} {o : Ro} {K : Nat} {r : Rm} (ok : RmOk r K) (hx : r.x.o = false) (hy : r.y.o = false) : FnS Try.prog w0 68 #[ptr o.b] (o.hp 126 32 4 K r H) (fun e H' => e = .returned (.int .i64 (r.syncE goodP)) ∧ H' = (o.hp 126 32 4 K (r.sync goodP) H)) := by
  refine FnS_intro (n := 97) (rs := [.tmp 2]) (vs := [ptr o.b]) Try.func68 rfl Try.ntmps68 rfl rfl ?_
  refine C_seq (C_region (LY rfl (y_assign rfl) (L_nil (C_seq (C_seq (C_region (LY rfl (y_move rfl) (LY rfl (y_nilCheck rfl) (LY rfl (y_fieldAddr rfl fl_126_1) ?_)))))))))
  refine LY rfl (y_indexA rfl rfl Try.underlying62 sz_4 (by omega) (by omega) (show _ = 2 from rfl)) ?_
  refine LY rfl (y_load rfl ag_4 (sees 0 0 rfl) (show _ = some (Value.bool false) from by rw [← hx]; rfl)) ?_
  refine LY rfl (y_move rfl) (LY rfl (y_move rfl) (LY rfl (y_nilCheck rfl) (LY rfl (y_fieldAddr rfl fl_126_1) ?_)))
  refine LY rfl (y_indexA rfl rfl Try.underlying62 sz_4 (by omega) (by omega) (show _ = 3 from rfl)) ?_
  refine LY rfl (y_load rfl ag_4 (sees 0 0 rfl) (show _ = some (Value.bool false) from by rw [← hy]; rfl)) ?_
  refine LY rfl (y_pick_f rfl rfl) (L_nil (C_cond_f rfl (C_skip (C_seq (C_region (LY rfl (y_assign rfl) (L_nil (C_seq (C_seq (C_region (LY rfl (y_assign rfl) (L_nil (C_block ?_)))))))))))))
  refine C_loopIn (In_round ?_)
  refine C_seq (C_seq (C_region (LY rfl (y_move rfl) (LY rfl (y_lss rfl rfl) (L_nil (C_cond_t rfl (C_skip (C_seq (C_block (C_seq (C_region (LY rfl (y_assign rfl) (L_nil (C_block ?_))))))))))))))
  refine C_loop (ι := Nat) (fun k0 => [(0, ptr o.b), (3, .int .i64 ((ck (Rm.syN goodP false r k0).x.s k0 : Nat) : Int)), (4, .int .i64 0), (5, .int .i64 (k0 : Int))]) (fun k0 => (o.hp 126 32 4 K (Rm.syN goodP false r k0) H)) (fun k0 => k0 ≤ K) (fun k0 => K - k0) 0 (Nat.zero_le _) ⟨rfl, rfl, rfl, rfl, trivial⟩ ((hsub (.cons_cons _ (.cons_cons _ (.cons_cons _ (.cons_cons _ (.cons_cons _ (.refl _))))))).trans (hsub_pick [0, 0, 0, 0, 0] rfl)) (fun k0 hk0 => ?_)
  skip
  refine C_seq (C_seq (C_region (LY rfl (y_move rfl) (LY rfl (y_move rfl) (LY rfl (y_nilCheck rfl) (LY rfl (y_fieldAddr rfl fl_126_0) ?_))))))
  refine LY rfl (y_indexA rfl rfl Try.underlying122 sz_40 (by omega) (by omega) (show _ = 0 from rfl)) ?_
  refine LY rfl (y_load rfl ag_40 (sees 0 0 rfl) rfl) ?_
  refine LY rfl (y_lenS rfl rfl Try.underlying40) ?_
  refine LY rfl (y_lss rfl rfl) (L_nil ?_)
  refine C_cond rfl (fun hc2 => ?_) (fun hc2 => ?_)
  · replace hc2 : k0 < K := by have := of_decide_eq_true hc2; omega
    have okk := RmOk.syN (p := goodP) ok false k0 hk0
    obtain ⟨q, hq⟩ : ∃ q, (Rm.syN goodP false r k0) = q := ⟨_, rfl⟩
    rw [hq] at okk ⊢
    obtain ⟨⟨l0, o0, s0⟩, ⟨l1, o1, s1⟩⟩ := q
    have hl0 : l0.length = K := okk.l0
    have hl1 : l1.length = K := okk.l1
    have hs0 : s0.length = K := okk.s0
    have hs1 : s1.length = K := okk.s1
    have ok0 : ∀ s ∈ l0, s.length = 128 := okk.ok0
    have ok1 : ∀ s ∈ l1, s.length = 128 := okk.ok1
    refine C_skip (C_seq (C_block (C_seq (C_seq (C_region (LY rfl (y_move rfl) (LY rfl (y_move rfl) (LY rfl (y_nilCheck rfl) (LY rfl (y_fieldAddr rfl fl_126_2) ?_)))))))))
    refine LY rfl (y_indexA rfl rfl Try.underlying124 sz_123 (by omega) (by omega) (show _ = 4 from rfl)) ?_
    refine LY rfl (y_load rfl ag_123 (sees 0 0 rfl) rfl) (LY rfl (y_move rfl) ?_)
    refine LY rfl (y_indexS rfl rfl Try.underlying123 sz_4 (by omega) (by omega) (show _ = k0 from by simp)) ?_
    refine LY rfl (y_load rfl ag_4 (sees 3 0 rfl) (bls_get (by first | omega | (dsimp only; omega)))) ?_
    refine LY rfl (y_not rfl) (L_nil ?_)
    refine C_cond rfl (fun hc3 => ?_) (fun hc3 => ?_)
    · have hst : s0.getD k0 false = false := by simpa using hc3
      refine C_exit (C_region (LY rfl (y_move rfl) ?_))
      refine LY rfl (y_add rfl rfl (wi64 (by have := ok.le; omega) (by have := ok.le; omega))) ?_
      refine LY rfl (y_assign rfl) (L_nil ?_)
      have e1 : Rm.syN goodP false r (k0 + 1) = ⟨⟨l0, o0, s0⟩, ⟨l1, o1, s1⟩⟩ := by
        show Rm.sy1 goodP false _ _ = _
        rw [hq]
        unfold Rm.sy1
        simp_all [Rs.tells, Rs.old, Rs.at, Rm.sd, Rm.put, Rs.copy]
      have e5 := ck_succ (l := s0) (k := k0) (by rw [hs0]; omega)
      rw [hst, if_neg (by decide), Nat.add_zero] at e5
      refine ⟨k0 + 1, by omega, by omega, ?_⟩
      dsimp only
      rw [e1]
      dsimp only
      rw [e5]
      exact ⟨⟨rfl, rfl, rfl, rfl, trivial⟩, ((hsub (.cons_cons _ (.cons_cons _ (.cons_cons _ (.cons_cons _ (.cons_cons _ (.refl _))))))).trans (hsub_pick [0, 0, 0, 0, 0] rfl))⟩
    · have hst : s0.getD k0 false = true := by simpa using hc3
      refine C_skip (C_seq (C_region (LY rfl (y_move rfl) (LY rfl (y_move rfl) ?_))))
      refine LY rfl (y_sub rfl rfl (show _ = (1 : Int) from rfl)) ?_
      refine LY rfl (y_nilCheck rfl) (LY rfl (y_fieldAddr rfl fl_126_2) ?_)
      refine LY rfl (y_indexA rfl rfl Try.underlying124 sz_123 (by omega) (by omega) (show _ = 5 from rfl)) ?_
      refine LY rfl (y_load rfl ag_123 (sees 0 0 rfl) rfl) (LY rfl (y_move rfl) ?_)
      refine LY rfl (y_indexS rfl rfl Try.underlying123 sz_4 (by omega) (by omega) (show _ = k0 from by simp)) ?_
      refine LY rfl (y_load rfl ag_4 (sees 4 0 rfl) (bls_get (by first | omega | (dsimp only; omega)))) ?_
      refine LY rfl (y_not rfl) (LY rfl (y_move rfl) ?_)
      refine L_case 53 rfl (fun hg11_12 => ?_) (fun hg11_12 => ?_)
      · skip
        refine LY rfl (y_move rfl) (LY rfl (y_move rfl) (LY rfl (y_move rfl) ?_))
        refine LY rfl (y_sub rfl rfl (show _ = (1 : Int) from rfl)) ?_
        refine LY rfl (y_nilCheck rfl) (LY rfl (y_fieldAddr rfl fl_126_0) ?_)
        refine LY rfl (y_indexA rfl rfl Try.underlying122 sz_40 (by omega) (by omega) (show _ = 1 from rfl)) ?_
        refine LY rfl (y_load rfl ag_40 (sees 0 0 rfl) rfl) (LY rfl (y_move rfl) ?_)
        refine LY rfl (y_indexS rfl rfl Try.underlying40 sz_32 (by omega) (by omega) (show _ = k0 * 128 from by simp)) ?_
        refine LY rfl (y_loadA rfl ag_32 sz_32 (sees 2 0 rfl) (lseg_le hl1 hc2 ok1) (lseg_at hl1 hc2 ok1)) ?_
        refine L_op rfl (op_call rfl rfl (fun a w => Try.call18 a w) rfl ?_)
        refine (good09_s (k0 : Int) _ (lget_len hl1 hc2 ok1)).mono ?_
        rintro _ _ ⟨e4, e⟩
        obtain rfl := e.symm
        clear e
        obtain rfl := e4
        refine ⟨_, rfl, ?_⟩
        refine LY rfl (y_pick_t rfl rfl) (L_nil ?_)
        refine C_cond rfl (fun hc4 => ?_) (fun hc4 => ?_)
        · skip
          refine C_seq ?_
          refine C_regionH ([(o.b, .cells (o.cells K (⟨⟨l0, o0, s0⟩, ⟨l1, o1, s1⟩⟩ : Rm)).toArray 126)] :: lseg 32 o.l1 l1 :: H) (by kernel_rfl) ?_
          refine HY 0 rfl (((hsub (.cons_cons _ (.cons_cons _ (.cons _ (.cons _ (.cons _ (.refl _))))))).trans (hsub_pick [0, 1] rfl))) rfl (y_move rfl) ?_
          refine HY 1 rfl (((hsub (.cons_cons _ (.cons_cons _ (.cons _ (.cons _ (.cons _ (.refl _))))))).trans (hsub_pick [0, 1] rfl))) rfl (y_move rfl) ?_
          refine HY 2 rfl (((hsub (.cons_cons _ (.cons_cons _ (.cons _ (.cons _ (.cons _ (.refl _))))))).trans (hsub_pick [0, 1] rfl))) rfl (y_nilCheck rfl) ?_
          refine HY 3 rfl (((hsub (.cons_cons _ (.cons_cons _ (.cons _ (.cons _ (.cons _ (.refl _))))))).trans (hsub_pick [0, 1] rfl))) rfl (y_fieldAddr rfl fl_126_0) ?_
          refine HY 4 rfl (((hsub (.cons_cons _ (.cons_cons _ (.cons _ (.cons _ (.cons _ (.refl _))))))).trans (hsub_pick [0, 1] rfl))) rfl (y_indexA rfl rfl Try.underlying122 sz_40 (by omega) (by omega) (show _ = 0 from rfl)) ?_
          refine HY 5 rfl (((hsub (.cons_cons _ (.cons_cons _ (.cons _ (.cons _ (.cons _ (.refl _))))))).trans (hsub_pick [0, 1] rfl))) rfl (y_load rfl ag_40 (sees 0 0 rfl) rfl) ?_
          refine HY 6 rfl (((hsub (.cons_cons _ (.cons_cons _ (.cons _ (.cons _ (.cons _ (.refl _))))))).trans (hsub_pick [0, 1] rfl))) rfl (y_move rfl) ?_
          refine HY 7 rfl (((hsub (.cons_cons _ (.cons_cons _ (.cons _ (.cons _ (.cons _ (.refl _))))))).trans (hsub_pick [0, 1] rfl))) rfl (y_move rfl) ?_
          refine HY 8 rfl (((hsub (.cons_cons _ (.cons_cons _ (.cons _ (.cons _ (.cons _ (.refl _))))))).trans (hsub_pick [0, 1] rfl))) rfl (y_move rfl) ?_
          refine HY 9 rfl (((hsub (.cons_cons _ (.cons_cons _ (.cons _ (.cons _ (.cons _ (.refl _))))))).trans (hsub_pick [0, 1] rfl))) rfl (y_sub rfl rfl (show _ = (1 : Int) from rfl)) ?_
          refine HY 10 rfl (((hsub (.cons_cons _ (.cons_cons _ (.cons _ (.cons _ (.cons _ (.refl _))))))).trans (hsub_pick [0, 1] rfl))) rfl (y_nilCheck rfl) ?_
          refine HY 11 rfl (((hsub (.cons_cons _ (.cons_cons _ (.cons _ (.cons _ (.cons _ (.refl _))))))).trans (hsub_pick [0, 1] rfl))) rfl (y_fieldAddr rfl fl_126_0) ?_
          refine HY 12 rfl (((hsub (.cons_cons _ (.cons_cons _ (.cons _ (.cons _ (.cons _ (.refl _))))))).trans (hsub_pick [0, 1] rfl))) rfl (y_indexA rfl rfl Try.underlying122 sz_40 (by omega) (by omega) (show _ = 1 from rfl)) ?_
          refine HY 13 rfl (((hsub (.cons_cons _ (.cons_cons _ (.cons _ (.cons _ (.cons _ (.refl _))))))).trans (hsub_pick [0, 1] rfl))) rfl (y_load rfl ag_40 (sees 0 0 rfl) rfl) ?_
          refine HY 14 rfl (((hsub (.cons_cons _ (.cons_cons _ (.cons _ (.cons _ (.cons _ (.refl _))))))).trans (hsub_pick [0, 1] rfl))) rfl (y_move rfl) ?_
          refine HY 15 rfl (((hsub (.cons_cons _ (.cons_cons _ (.cons _ (.cons _ (.cons _ (.refl _))))))).trans (hsub_pick [0, 1] rfl))) rfl (y_indexS rfl rfl Try.underlying40 sz_32 (by omega) (by omega) (show _ = k0 * 128 from by simp)) ?_
          refine HY 16 rfl (((hsub (.cons_cons _ (.cons_cons _ (.cons _ (.cons _ (.cons _ (.refl _))))))).trans (hsub_pick [0, 1] rfl))) rfl (y_loadA rfl ag_32 sz_32 (sees 1 0 rfl) (lseg_le hl1 hc2 ok1) (lseg_at hl1 hc2 ok1)) ?_
          refine HY 17 rfl (((hsub (.cons_cons _ (.cons_cons _ (.cons _ (.cons _ (.cons _ (.refl _))))))).trans (hsub_pick [0, 1] rfl))) rfl (y_indexS rfl rfl Try.underlying40 sz_32 (by omega) (by omega) (show _ = k0 * 128 from by simp)) ?_
          refine H_one 18 rfl (by kernel_rfl) rfl (op_store 1 0 rfl rfl rfl sz_32 (by rw [bs_length, (lget_len hl1 hc2 ok1)]) rfl (bs_one _) (by rw [bs_length, flat_len ok0, hl0]; omega) ?_)
          rw [flat_spl ok0 (by rw [hl0]; omega) (lget_len hl1 hc2 ok1)]
          refine ⟨((hsub (.cons_cons _ (.cons_cons _ (.cons _ (.cons _ (.cons _ (.refl _))))))).trans (hsub_pick [0, 1] rfl)), ?_⟩
          refine H_done (by kernel_rfl) ?_
          refine C_region (LY rfl (y_move rfl) (LY rfl (y_move rfl) (LY rfl (y_nilCheck rfl) (LY rfl (y_fieldAddr rfl fl_126_2) ?_))))
          refine LY rfl (y_indexA rfl rfl Try.underlying124 sz_123 (by omega) (by omega) (show _ = 4 from rfl)) ?_
          refine LY rfl (y_load rfl ag_123 (sees 0 0 rfl) rfl) (LY rfl (y_move rfl) ?_)
          refine LY rfl (y_indexS rfl rfl Try.underlying123 sz_4 (by omega) (by omega) (show _ = k0 from by simp)) ?_
          refine L_op rfl (op_store1 3 0 rfl rfl rfl sz_4 rfl (by rw [bls_len]; dsimp only; omega) ?_)
          rw [bls_set]
          refine L_nil (C_region (LY rfl (y_move rfl) ?_))
          refine LY rfl (y_add rfl rfl (wi64 (by have := ok.le; omega) (by have := ok.le; omega))) ?_
          refine LY rfl (y_assign rfl) (L_nil ?_)
          have e1 : Rm.syN goodP false r (k0 + 1) = ⟨⟨(l0.set k0 (l1.getD k0 [])), o0, (s0.set k0 false)⟩, ⟨l1, o1, s1⟩⟩ := by
            show Rm.sy1 goodP false _ _ = _
            rw [hq]
            unfold Rm.sy1
            simp_all [Rs.tells, Rs.old, Rs.at, Rm.sd, Rm.put, Rs.copy]
          have e5 := ck_succ (l := (s0.set k0 false)) (k := k0) (by rw [List.length_set, hs0]; omega)
          rw [getD_set (by omega), if_pos rfl, if_neg (by decide), Nat.add_zero, ck_set (Nat.le_refl _)] at e5
          refine ⟨k0 + 1, by omega, by omega, ?_⟩
          dsimp only
          rw [e1]
          dsimp only
          rw [e5]
          exact ⟨⟨rfl, rfl, rfl, rfl, trivial⟩, ((hsub (.cons_cons _ (.cons_cons _ (.cons_cons _ (.cons_cons _ (.cons_cons _ (.refl _))))))).trans (hsub_pick [0, 0, 0, 0, 0] rfl))⟩
        · skip
          have hck := ck_le s0 k0
          have hck2 := ck_le (Rm.syN goodP false r K).x.s K
          have hKK := ok.le
          refine C_region (LY rfl (y_move rfl) ?_)
          refine LY rfl (y_add rfl rfl (show _ = ((ck s0 k0 + 1 : Nat) : Int) from by rw [wi64 (by dsimp only; omega) (by dsimp only; omega)]; rfl)) ?_
          refine LY rfl (y_assign rfl) (L_nil (C_region (LY rfl (y_move rfl) ?_)))
          refine LY rfl (y_add rfl rfl (wi64 (by have := ok.le; omega) (by have := ok.le; omega))) ?_
          refine LY rfl (y_assign rfl) (L_nil ?_)
          have e1 : Rm.syN goodP false r (k0 + 1) = ⟨⟨l0, o0, s0⟩, ⟨l1, o1, s1⟩⟩ := by
            show Rm.sy1 goodP false _ _ = _
            rw [hq]
            unfold Rm.sy1
            simp_all [Rs.tells, Rs.old, Rs.at, Rm.sd, Rm.put, Rs.copy]
          have e5 := ck_succ (l := s0) (k := k0) (by rw [hs0]; omega)
          rw [hst, if_pos rfl] at e5
          refine ⟨k0 + 1, by omega, by omega, ?_⟩
          dsimp only
          rw [e1]
          dsimp only
          rw [e5]
          exact ⟨⟨rfl, rfl, rfl, rfl, trivial⟩, ((hsub (.cons_cons _ (.cons_cons _ (.cons_cons _ (.cons_cons _ (.cons_cons _ (.refl _))))))).trans (hsub_pick [0, 0, 0, 0, 0] rfl))⟩
      · skip
        refine L_skip rfl rfl (L_skip rfl rfl (L_skip rfl rfl (L_skip rfl rfl (L_skip rfl rfl (L_skip rfl rfl (L_skip rfl rfl (L_skip rfl rfl (L_skip rfl rfl (L_skip rfl rfl (L_skip rfl rfl (L_skip rfl rfl (LY rfl (y_pick_f rfl rfl) (L_nil (C_cond_f rfl ?_))))))))))))))
        have hck := ck_le s0 k0
        have hck2 := ck_le (Rm.syN goodP false r K).x.s K
        have hKK := ok.le
        refine C_region (LY rfl (y_move rfl) ?_)
        refine LY rfl (y_add rfl rfl (show _ = ((ck s0 k0 + 1 : Nat) : Int) from by rw [wi64 (by dsimp only; omega) (by dsimp only; omega)]; rfl)) ?_
        refine LY rfl (y_assign rfl) (L_nil (C_region (LY rfl (y_move rfl) ?_)))
        refine LY rfl (y_add rfl rfl (wi64 (by have := ok.le; omega) (by have := ok.le; omega))) ?_
        refine LY rfl (y_assign rfl) (L_nil ?_)
        have e1 : Rm.syN goodP false r (k0 + 1) = ⟨⟨l0, o0, s0⟩, ⟨l1, o1, s1⟩⟩ := by
          show Rm.sy1 goodP false _ _ = _
          rw [hq]
          unfold Rm.sy1
          simp_all [Rs.tells, Rs.old, Rs.at, Rm.sd, Rm.put, Rs.copy]
        have e5 := ck_succ (l := s0) (k := k0) (by rw [hs0]; omega)
        rw [hst, if_pos rfl] at e5
        refine ⟨k0 + 1, by omega, by omega, ?_⟩
        dsimp only
        rw [e1]
        dsimp only
        rw [e5]
        exact ⟨⟨rfl, rfl, rfl, rfl, trivial⟩, ((hsub (.cons_cons _ (.cons_cons _ (.cons_cons _ (.cons_cons _ (.cons_cons _ (.refl _))))))).trans (hsub_pick [0, 0, 0, 0, 0] rfl))⟩
  · rw [show k0 = K from by have := of_decide_eq_false hc2; omega]
    refine C_exit (C_region (LY rfl (y_move rfl) ?_))
    refine LY rfl (y_add rfl rfl (show _ = (1 : Int) from rfl)) ?_
    refine LY rfl (y_assign rfl) (L_nil ?_)
    refine In_round ?_
    refine C_seq (C_seq (C_region (LY rfl (y_move rfl) (LY rfl (y_lss rfl rfl) (L_nil (C_cond_t rfl (C_skip (C_seq (C_block (C_seq (C_region (LY rfl (y_assign rfl) (L_nil (C_block ?_))))))))))))))
    refine C_loop (ι := Nat) (fun k1 => [(0, ptr o.b), (3, .int .i64 ((ck (Rm.syN goodP false r K).x.s K + ck (Rm.syN goodP true (Rm.syN goodP false r K) k1).y.s k1 : Nat) : Int)), (4, .int .i64 1), (5, .int .i64 (k1 : Int))]) (fun k1 => (o.hp 126 32 4 K (Rm.syN goodP true (Rm.syN goodP false r K) k1) H)) (fun k1 => k1 ≤ K) (fun k1 => K - k1) 0 (Nat.zero_le _) ⟨rfl, rfl, rfl, rfl, trivial⟩ ((hsub (.cons_cons _ (.cons_cons _ (.cons_cons _ (.cons_cons _ (.cons_cons _ (.refl _))))))).trans (hsub_pick [0, 0, 0, 0, 0] rfl)) (fun k1 hk1 => ?_)
    skip
    refine C_seq (C_seq (C_region (LY rfl (y_move rfl) (LY rfl (y_move rfl) (LY rfl (y_nilCheck rfl) (LY rfl (y_fieldAddr rfl fl_126_0) ?_))))))
    refine LY rfl (y_indexA rfl rfl Try.underlying122 sz_40 (by omega) (by omega) (show _ = 0 from rfl)) ?_
    refine LY rfl (y_load rfl ag_40 (sees 0 0 rfl) rfl) ?_
    refine LY rfl (y_lenS rfl rfl Try.underlying40) ?_
    refine LY rfl (y_lss rfl rfl) (L_nil ?_)
    refine C_cond rfl (fun hc2 => ?_) (fun hc2 => ?_)
    · replace hc2 : k1 < K := by have := of_decide_eq_true hc2; omega
      have okk := RmOk.syN (p := goodP) (ok.syN (p := goodP) false K (Nat.le_refl _)) true k1 hk1
      obtain ⟨q, hq⟩ : ∃ q, (Rm.syN goodP true (Rm.syN goodP false r K) k1) = q := ⟨_, rfl⟩
      rw [hq] at okk ⊢
      obtain ⟨⟨l0, o0, s0⟩, ⟨l1, o1, s1⟩⟩ := q
      have hl0 : l0.length = K := okk.l0
      have hl1 : l1.length = K := okk.l1
      have hs0 : s0.length = K := okk.s0
      have hs1 : s1.length = K := okk.s1
      have ok0 : ∀ s ∈ l0, s.length = 128 := okk.ok0
      have ok1 : ∀ s ∈ l1, s.length = 128 := okk.ok1
      refine C_skip (C_seq (C_block (C_seq (C_seq (C_region (LY rfl (y_move rfl) (LY rfl (y_move rfl) (LY rfl (y_nilCheck rfl) (LY rfl (y_fieldAddr rfl fl_126_2) ?_)))))))))
      refine LY rfl (y_indexA rfl rfl Try.underlying124 sz_123 (by omega) (by omega) (show _ = 5 from rfl)) ?_
      refine LY rfl (y_load rfl ag_123 (sees 0 0 rfl) rfl) (LY rfl (y_move rfl) ?_)
      refine LY rfl (y_indexS rfl rfl Try.underlying123 sz_4 (by omega) (by omega) (show _ = k1 from by simp)) ?_
      refine LY rfl (y_load rfl ag_4 (sees 4 0 rfl) (bls_get (by first | omega | (dsimp only; omega)))) ?_
      refine LY rfl (y_not rfl) (L_nil ?_)
      refine C_cond rfl (fun hc3 => ?_) (fun hc3 => ?_)
      · have hst : s1.getD k1 false = false := by simpa using hc3
        refine C_exit (C_region (LY rfl (y_move rfl) ?_))
        refine LY rfl (y_add rfl rfl (wi64 (by have := ok.le; omega) (by have := ok.le; omega))) ?_
        refine LY rfl (y_assign rfl) (L_nil ?_)
        have e1 : Rm.syN goodP true (Rm.syN goodP false r K) (k1 + 1) = ⟨⟨l0, o0, s0⟩, ⟨l1, o1, s1⟩⟩ := by
          show Rm.sy1 goodP true _ _ = _
          rw [hq]
          unfold Rm.sy1
          simp_all [Rs.tells, Rs.old, Rs.at, Rm.sd, Rm.put, Rs.copy]
        have e5 := ck_succ (l := s1) (k := k1) (by rw [hs1]; omega)
        rw [hst, if_neg (by decide), Nat.add_zero] at e5
        refine ⟨k1 + 1, by omega, by omega, ?_⟩
        dsimp only
        rw [e1]
        dsimp only
        rw [e5]
        exact ⟨⟨rfl, rfl, rfl, rfl, trivial⟩, ((hsub (.cons_cons _ (.cons_cons _ (.cons_cons _ (.cons_cons _ (.cons_cons _ (.refl _))))))).trans (hsub_pick [0, 0, 0, 0, 0] rfl))⟩
      · have hst : s1.getD k1 false = true := by simpa using hc3
        refine C_skip (C_seq (C_region (LY rfl (y_move rfl) (LY rfl (y_move rfl) ?_))))
        refine LY rfl (y_sub rfl rfl (show _ = (0 : Int) from rfl)) ?_
        refine LY rfl (y_nilCheck rfl) (LY rfl (y_fieldAddr rfl fl_126_2) ?_)
        refine LY rfl (y_indexA rfl rfl Try.underlying124 sz_123 (by omega) (by omega) (show _ = 4 from rfl)) ?_
        refine LY rfl (y_load rfl ag_123 (sees 0 0 rfl) rfl) (LY rfl (y_move rfl) ?_)
        refine LY rfl (y_indexS rfl rfl Try.underlying123 sz_4 (by omega) (by omega) (show _ = k1 from by simp)) ?_
        refine LY rfl (y_load rfl ag_4 (sees 3 0 rfl) (bls_get (by first | omega | (dsimp only; omega)))) ?_
        refine LY rfl (y_not rfl) (LY rfl (y_move rfl) ?_)
        refine L_case 53 rfl (fun hg11_12 => ?_) (fun hg11_12 => ?_)
        · skip
          refine LY rfl (y_move rfl) (LY rfl (y_move rfl) (LY rfl (y_move rfl) ?_))
          refine LY rfl (y_sub rfl rfl (show _ = (0 : Int) from rfl)) ?_
          refine LY rfl (y_nilCheck rfl) (LY rfl (y_fieldAddr rfl fl_126_0) ?_)
          refine LY rfl (y_indexA rfl rfl Try.underlying122 sz_40 (by omega) (by omega) (show _ = 0 from rfl)) ?_
          refine LY rfl (y_load rfl ag_40 (sees 0 0 rfl) rfl) (LY rfl (y_move rfl) ?_)
          refine LY rfl (y_indexS rfl rfl Try.underlying40 sz_32 (by omega) (by omega) (show _ = k1 * 128 from by simp)) ?_
          refine LY rfl (y_loadA rfl ag_32 sz_32 (sees 1 0 rfl) (lseg_le hl0 hc2 ok0) (lseg_at hl0 hc2 ok0)) ?_
          refine L_op rfl (op_call rfl rfl (fun a w => Try.call18 a w) rfl ?_)
          refine (good09_s (k1 : Int) _ (lget_len hl0 hc2 ok0)).mono ?_
          rintro _ _ ⟨e4, e⟩
          obtain rfl := e.symm
          clear e
          obtain rfl := e4
          refine ⟨_, rfl, ?_⟩
          refine LY rfl (y_pick_t rfl rfl) (L_nil ?_)
          refine C_cond rfl (fun hc4 => ?_) (fun hc4 => ?_)
          · skip
            refine C_seq ?_
            refine C_regionH ([(o.b, .cells (o.cells K (⟨⟨l0, o0, s0⟩, ⟨l1, o1, s1⟩⟩ : Rm)).toArray 126)] :: lseg 32 o.l0 l0 :: H) (by kernel_rfl) ?_
            refine HY 0 rfl (((hsub (.cons_cons _ (.cons_cons _ (.cons _ (.cons _ (.cons _ (.refl _))))))).trans (hsub_pick [0, 0] rfl))) rfl (y_move rfl) ?_
            refine HY 1 rfl (((hsub (.cons_cons _ (.cons_cons _ (.cons _ (.cons _ (.cons _ (.refl _))))))).trans (hsub_pick [0, 0] rfl))) rfl (y_move rfl) ?_
            refine HY 2 rfl (((hsub (.cons_cons _ (.cons_cons _ (.cons _ (.cons _ (.cons _ (.refl _))))))).trans (hsub_pick [0, 0] rfl))) rfl (y_nilCheck rfl) ?_
            refine HY 3 rfl (((hsub (.cons_cons _ (.cons_cons _ (.cons _ (.cons _ (.cons _ (.refl _))))))).trans (hsub_pick [0, 0] rfl))) rfl (y_fieldAddr rfl fl_126_0) ?_
            refine HY 4 rfl (((hsub (.cons_cons _ (.cons_cons _ (.cons _ (.cons _ (.cons _ (.refl _))))))).trans (hsub_pick [0, 0] rfl))) rfl (y_indexA rfl rfl Try.underlying122 sz_40 (by omega) (by omega) (show _ = 1 from rfl)) ?_
            refine HY 5 rfl (((hsub (.cons_cons _ (.cons_cons _ (.cons _ (.cons _ (.cons _ (.refl _))))))).trans (hsub_pick [0, 0] rfl))) rfl (y_load rfl ag_40 (sees 0 0 rfl) rfl) ?_
            refine HY 6 rfl (((hsub (.cons_cons _ (.cons_cons _ (.cons _ (.cons _ (.cons _ (.refl _))))))).trans (hsub_pick [0, 0] rfl))) rfl (y_move rfl) ?_
            refine HY 7 rfl (((hsub (.cons_cons _ (.cons_cons _ (.cons _ (.cons _ (.cons _ (.refl _))))))).trans (hsub_pick [0, 0] rfl))) rfl (y_move rfl) ?_
            refine HY 8 rfl (((hsub (.cons_cons _ (.cons_cons _ (.cons _ (.cons _ (.cons _ (.refl _))))))).trans (hsub_pick [0, 0] rfl))) rfl (y_move rfl) ?_
            refine HY 9 rfl (((hsub (.cons_cons _ (.cons_cons _ (.cons _ (.cons _ (.cons _ (.refl _))))))).trans (hsub_pick [0, 0] rfl))) rfl (y_sub rfl rfl (show _ = (0 : Int) from rfl)) ?_
            refine HY 10 rfl (((hsub (.cons_cons _ (.cons_cons _ (.cons _ (.cons _ (.cons _ (.refl _))))))).trans (hsub_pick [0, 0] rfl))) rfl (y_nilCheck rfl) ?_
            refine HY 11 rfl (((hsub (.cons_cons _ (.cons_cons _ (.cons _ (.cons _ (.cons _ (.refl _))))))).trans (hsub_pick [0, 0] rfl))) rfl (y_fieldAddr rfl fl_126_0) ?_
            refine HY 12 rfl (((hsub (.cons_cons _ (.cons_cons _ (.cons _ (.cons _ (.cons _ (.refl _))))))).trans (hsub_pick [0, 0] rfl))) rfl (y_indexA rfl rfl Try.underlying122 sz_40 (by omega) (by omega) (show _ = 0 from rfl)) ?_
            refine HY 13 rfl (((hsub (.cons_cons _ (.cons_cons _ (.cons _ (.cons _ (.cons _ (.refl _))))))).trans (hsub_pick [0, 0] rfl))) rfl (y_load rfl ag_40 (sees 0 0 rfl) rfl) ?_
            refine HY 14 rfl (((hsub (.cons_cons _ (.cons_cons _ (.cons _ (.cons _ (.cons _ (.refl _))))))).trans (hsub_pick [0, 0] rfl))) rfl (y_move rfl) ?_
            refine HY 15 rfl (((hsub (.cons_cons _ (.cons_cons _ (.cons _ (.cons _ (.cons _ (.refl _))))))).trans (hsub_pick [0, 0] rfl))) rfl (y_indexS rfl rfl Try.underlying40 sz_32 (by omega) (by omega) (show _ = k1 * 128 from by simp)) ?_
            refine HY 16 rfl (((hsub (.cons_cons _ (.cons_cons _ (.cons _ (.cons _ (.cons _ (.refl _))))))).trans (hsub_pick [0, 0] rfl))) rfl (y_loadA rfl ag_32 sz_32 (sees 1 0 rfl) (lseg_le hl0 hc2 ok0) (lseg_at hl0 hc2 ok0)) ?_
            refine HY 17 rfl (((hsub (.cons_cons _ (.cons_cons _ (.cons _ (.cons _ (.cons _ (.refl _))))))).trans (hsub_pick [0, 0] rfl))) rfl (y_indexS rfl rfl Try.underlying40 sz_32 (by omega) (by omega) (show _ = k1 * 128 from by simp)) ?_
            refine H_one 18 rfl (by kernel_rfl) rfl (op_store 2 0 rfl rfl rfl sz_32 (by rw [bs_length, (lget_len hl0 hc2 ok0)]) rfl (bs_one _) (by rw [bs_length, flat_len ok1, hl1]; omega) ?_)
            rw [flat_spl ok1 (by rw [hl1]; omega) (lget_len hl0 hc2 ok0)]
            refine ⟨((hsub (.cons_cons _ (.cons_cons _ (.cons _ (.cons _ (.cons _ (.refl _))))))).trans (hsub_pick [0, 0] rfl)), ?_⟩
            refine H_done (by kernel_rfl) ?_
            refine C_region (LY rfl (y_move rfl) (LY rfl (y_move rfl) (LY rfl (y_nilCheck rfl) (LY rfl (y_fieldAddr rfl fl_126_2) ?_))))
            refine LY rfl (y_indexA rfl rfl Try.underlying124 sz_123 (by omega) (by omega) (show _ = 5 from rfl)) ?_
            refine LY rfl (y_load rfl ag_123 (sees 0 0 rfl) rfl) (LY rfl (y_move rfl) ?_)
            refine LY rfl (y_indexS rfl rfl Try.underlying123 sz_4 (by omega) (by omega) (show _ = k1 from by simp)) ?_
            refine L_op rfl (op_store1 4 0 rfl rfl rfl sz_4 rfl (by rw [bls_len]; dsimp only; omega) ?_)
            rw [bls_set]
            refine L_nil (C_region (LY rfl (y_move rfl) ?_))
            refine LY rfl (y_add rfl rfl (wi64 (by have := ok.le; omega) (by have := ok.le; omega))) ?_
            refine LY rfl (y_assign rfl) (L_nil ?_)
            have e1 : Rm.syN goodP true (Rm.syN goodP false r K) (k1 + 1) = ⟨⟨l0, o0, s0⟩, ⟨(l1.set k1 (l0.getD k1 [])), o1, (s1.set k1 false)⟩⟩ := by
              show Rm.sy1 goodP true _ _ = _
              rw [hq]
              unfold Rm.sy1
              simp_all [Rs.tells, Rs.old, Rs.at, Rm.sd, Rm.put, Rs.copy]
            have e5 := ck_succ (l := (s1.set k1 false)) (k := k1) (by rw [List.length_set, hs1]; omega)
            rw [getD_set (by omega), if_pos rfl, if_neg (by decide), Nat.add_zero, ck_set (Nat.le_refl _)] at e5
            refine ⟨k1 + 1, by omega, by omega, ?_⟩
            dsimp only
            rw [e1]
            dsimp only
            rw [e5]
            exact ⟨⟨rfl, rfl, rfl, rfl, trivial⟩, ((hsub (.cons_cons _ (.cons_cons _ (.cons_cons _ (.cons_cons _ (.cons_cons _ (.refl _))))))).trans (hsub_pick [0, 0, 0, 0, 0] rfl))⟩
          · skip
            have hck := ck_le s1 k1
            have hck2 := ck_le (Rm.syN goodP false r K).x.s K
            have hKK := ok.le
            refine C_region (LY rfl (y_move rfl) ?_)
            refine LY rfl (y_add rfl rfl (show _ = ((ck (Rm.syN goodP false r K).x.s K + ck s1 k1 + 1 : Nat) : Int) from by rw [wi64 (by dsimp only; omega) (by dsimp only; omega)]; rfl)) ?_
            refine LY rfl (y_assign rfl) (L_nil (C_region (LY rfl (y_move rfl) ?_)))
            refine LY rfl (y_add rfl rfl (wi64 (by have := ok.le; omega) (by have := ok.le; omega))) ?_
            refine LY rfl (y_assign rfl) (L_nil ?_)
            have e1 : Rm.syN goodP true (Rm.syN goodP false r K) (k1 + 1) = ⟨⟨l0, o0, s0⟩, ⟨l1, o1, s1⟩⟩ := by
              show Rm.sy1 goodP true _ _ = _
              rw [hq]
              unfold Rm.sy1
              simp_all [Rs.tells, Rs.old, Rs.at, Rm.sd, Rm.put, Rs.copy]
            have e5 := ck_succ (l := s1) (k := k1) (by rw [hs1]; omega)
            rw [hst, if_pos rfl] at e5
            refine ⟨k1 + 1, by omega, by omega, ?_⟩
            dsimp only
            rw [e1]
            dsimp only
            rw [e5]
            exact ⟨⟨rfl, rfl, rfl, rfl, trivial⟩, ((hsub (.cons_cons _ (.cons_cons _ (.cons_cons _ (.cons_cons _ (.cons_cons _ (.refl _))))))).trans (hsub_pick [0, 0, 0, 0, 0] rfl))⟩
        · skip
          refine L_skip rfl rfl (L_skip rfl rfl (L_skip rfl rfl (L_skip rfl rfl (L_skip rfl rfl (L_skip rfl rfl (L_skip rfl rfl (L_skip rfl rfl (L_skip rfl rfl (L_skip rfl rfl (L_skip rfl rfl (L_skip rfl rfl (LY rfl (y_pick_f rfl rfl) (L_nil (C_cond_f rfl ?_))))))))))))))
          have hck := ck_le s1 k1
          have hck2 := ck_le (Rm.syN goodP false r K).x.s K
          have hKK := ok.le
          refine C_region (LY rfl (y_move rfl) ?_)
          refine LY rfl (y_add rfl rfl (show _ = ((ck (Rm.syN goodP false r K).x.s K + ck s1 k1 + 1 : Nat) : Int) from by rw [wi64 (by dsimp only; omega) (by dsimp only; omega)]; rfl)) ?_
          refine LY rfl (y_assign rfl) (L_nil (C_region (LY rfl (y_move rfl) ?_)))
          refine LY rfl (y_add rfl rfl (wi64 (by have := ok.le; omega) (by have := ok.le; omega))) ?_
          refine LY rfl (y_assign rfl) (L_nil ?_)
          have e1 : Rm.syN goodP true (Rm.syN goodP false r K) (k1 + 1) = ⟨⟨l0, o0, s0⟩, ⟨l1, o1, s1⟩⟩ := by
            show Rm.sy1 goodP true _ _ = _
            rw [hq]
            unfold Rm.sy1
            simp_all [Rs.tells, Rs.old, Rs.at, Rm.sd, Rm.put, Rs.copy]
          have e5 := ck_succ (l := s1) (k := k1) (by rw [hs1]; omega)
          rw [hst, if_pos rfl] at e5
          refine ⟨k1 + 1, by omega, by omega, ?_⟩
          dsimp only
          rw [e1]
          dsimp only
          rw [e5]
          exact ⟨⟨rfl, rfl, rfl, rfl, trivial⟩, ((hsub (.cons_cons _ (.cons_cons _ (.cons_cons _ (.cons_cons _ (.cons_cons _ (.refl _))))))).trans (hsub_pick [0, 0, 0, 0, 0] rfl))⟩
    · rw [show k1 = K from by have := of_decide_eq_false hc2; omega]
      refine C_exit (C_region (LY rfl (y_move rfl) ?_))
      refine LY rfl (y_add rfl rfl (show _ = (2 : Int) from rfl)) ?_
      refine LY rfl (y_assign rfl) (L_nil ?_)
      refine In_round ?_
      refine C_seq (C_seq (C_region (LY rfl (y_move rfl) (LY rfl (y_lss rfl rfl) (L_nil (C_cond_f rfl (C_exit (C_seq (C_seq (C_region (LY rfl (y_move rfl) ?_)))))))))))
      refine LY rfl (y_gtr rfl rfl) ?_
      refine L_nil ?_
      refine C_cond rfl (fun hc5 => ?_) (fun hc5 => ?_)
      · replace hc5 := of_decide_eq_true hc5
        refine C_seq (C_region (LY rfl (y_assign rfl) (L_nil (C_ret ?_))))
        refine B_ret (rv_tmp rfl rv_nil) ((hsub (.cons_cons _ (.cons_cons _ (.cons_cons _ (.cons_cons _ (.cons_cons _ (.refl _))))))).trans (hsub_pick [0, 0, 0, 0, 0] rfl)) ?_
        obtain ⟨e1, e2⟩ := sync_of ok hx hy goodP
        rw [e1, e2]
        exact ⟨ret_int (by first | rw [if_pos (by omega)] | rw [if_neg (by omega)]), rfl⟩
      · replace hc5 := of_decide_eq_false hc5
        refine C_skip (C_seq (C_region (LY rfl (y_assign rfl) (L_nil (C_ret ?_)))))
        refine B_ret (rv_tmp rfl rv_nil) ((hsub (.cons_cons _ (.cons_cons _ (.cons_cons _ (.cons_cons _ (.cons_cons _ (.refl _))))))).trans (hsub_pick [0, 0, 0, 0, 0] rfl)) ?_
        obtain ⟨e1, e2⟩ := sync_of ok hx hy goodP
        rw [e1, e2]
        exact ⟨ret_int (by first | rw [if_pos (by omega)] | rw [if_neg (by omega)]), rfl⟩

theorem rsync_s {w0 : World} {H : Hp} {o : Ro} {K : Nat} {r : Rm} (ok : RmOk r K) : FnS Try.prog w0 68 #[ptr o.b] (o.hp 126 32 4 K r H) (fun e H' => e = .returned (.int .i64 (r.syncE goodP)) ∧ H' = (o.hp 126 32 4 K (r.sync goodP) H)) := by
  rcases tf r.x.o with hx | hx <;> rcases tf r.y.o with hy | hy
  · exact rsync_ff ok hx hy
  · exact rsync_ft ok hx hy
  · exact rsync_tf ok hx hy
  · exact rsync_tt ok hx hy

end Go.Proofs.Ytjjiclgbdenkkaa

