/- walks (own work; the walks' lines by a program of this repo). -/
import Derived.Test.YtoaalclbplgegaaSwW
set_option linter.unusedVariables false
set_option linter.unusedSimpArgs false
set_option maxRecDepth 20000
namespace Go.Proofs.Ytoaalclbplgegaa
open Go.Sl
attribute [local irreducible] BodyQ WpC WpL WpS WpH OpW FnS


theorem step_k {w0 : World} {H : Hp} {D : Duo} {A : Da} {bp : Nat} {m : Mi} {p : Int → Sec → Bool} {wb k : Nat} (hG : GoodAt Try.prog w0 H m.gv p) (hQ : ∀ i, (A.dev i).Q.length ≤ 50000) (hm : m.n ≤ 4096) (hk : k ≤ m.n) (hT : Two dt D (scr m A p k).1 m.bx m.bys bp) :
    FnS Try.prog w0 22 #[ptr wb] ([(wb, .cells (wcells m.b ((k : Nat) : Int) (scr m A p k).2.2).toArray 51)] :: (scr m A p k).2.1.seg 109 :: D.seg dt :: H) (fun e H' => e = .returned (.tuple #[.int .i64 (if k < m.n then (k : Int) else 0), .bool (decide (k < m.n))]) ∧ ∃ D' j, (j = if k < m.n then k + 1 else k) ∧ Two dt D' (scr m A p j).1 m.bx m.bys bp ∧ H' = [(wb, .cells (wcells m.b ((j : Nat) : Int) (scr m A p j).2.2).toArray 51)] :: (scr m A p j).2.1.seg 109 :: D'.seg dt :: H) := by
  obtain ⟨s1, s2, s3, s4, s5⟩ := scr_same m A p k
  have hct := scr_cnt m A p k
  have hT2 : Two dt D (scr m A p k).1 (scr m A p k).2.1.bx (scr m A p k).2.1.bys bp := by rw [s2, s3]; exact hT
  have hG2 : GoodAt Try.prog w0 H (scr m A p k).2.1.gv p := by rw [s5]; exact hG
  have hQ2 : ∀ i, ((scr m A p k).1.dev i).Q.length < 99990 := fun i => by have := scr_many m A p i k; have := hQ i; omega
  have hr : 0 ≤ (scr m A p k).2.2.1 ∧ (scr m A p k).2.2.1 ≤ 5000 ∧ 0 ≤ (scr m A p k).2.2.2.1 ∧ (scr m A p k).2.2.2.1 ≤ 5000 ∧ 0 ≤ (scr m A p k).2.2.2.2 ∧ (scr m A p k).2.2.2.2 ≤ 5000 := by omega
  rw [← s1]
  by_cases hlt : k < m.n
  · refine (step_m hT2 hG2 hQ2 hr (by rw [s4]; exact hlt) (by rw [s4]; exact hm)).mono ?_
    rintro _ _ ⟨rfl, D1, h1, rfl⟩
    rw [s2, s3] at h1
    exact ⟨by simp [hlt], D1, k + 1, by simp [hlt], h1, rfl⟩
  · refine (step_end hT2 hG2 hQ2 hr (by rw [s4]; exact hlt)).mono ?_
    rintro _ _ ⟨rfl, rfl⟩
    exact ⟨by simp [hlt], D, k, by simp [hlt], hT, rfl⟩

theorem sall_m {w0 : World} {H : Hp} {D : Duo} {A : Da} {bp : Nat} {m : Mi} (h : Two dt D A m.bx m.bys bp) {p : Int → Sec → Bool} (hG : GoodAt Try.prog w0 H m.gv p) (hQ : ∀ i, (A.dev i).Q.length ≤ 50000) (hm : m.n ≤ 4096) : FnS Try.prog w0 16 #[ptr m.b] (m.seg 109 :: D.seg dt :: H) (fun e H' => e = .returned (.agg [Value.int .i64 (scr m A p m.n).2.2.1, .int .i64 (scr m A p m.n).2.2.2.1, .int .i64 (scr m A p m.n).2.2.2.2].toArray) ∧ ∃ D', Two dt D' (scr m A p m.n).1 m.bx m.bys bp ∧ H' = (scr m A p m.n).2.1.seg 109 :: D'.seg dt :: H) := by
  refine FnS_intro (n := 15) (rs := [.cell 2 32]) (vs := [ptr m.b]) Try.func16 rfl Try.ntmps16 rfl rfl ?_
  refine C_seq ?_
  refine C_region ?_
  refine L_op rfl (op_alloc zl_32 rfl (fun B1 => ?_))
  refine L_nil ?_
  refine C_seq ?_
  refine C_region ?_
  refine L_y rfl (y_move rfl) rfl ?_
  refine L_op rfl (op_call rfl rfl (fun a w => Try.call20 a w) rfl ?_)
  refine snew_s.mono ?_
  rintro _ _ ⟨wb, rfl, rfl⟩
  refine ⟨_, rfl, ?_⟩
  refine L_y rfl (y_assign rfl) rfl ?_
  refine L_nil ?_
  refine C_seq ?_
  refine C_seq ?_
  refine C_region ?_
  refine L_y rfl (y_assign rfl) rfl ?_
  refine L_nil ?_
  refine C_block ?_
  refine C_loop (ι := Duo × Nat × Bool) (fun i => [(4, .bool i.2.2), (3, ptr wb), (2, ptr B1)]) (fun i => [(wb, .cells (wcells m.b ((i.2.1 : Nat) : Int) (scr m A p i.2.1).2.2).toArray 51)] :: (scr m A p i.2.1).2.1.seg 109 :: i.1.seg dt :: [(B1, .cells [Value.int .i64 0, .int .i64 0, .int .i64 0].toArray 32)] :: H) (fun i => i.2.1 ≤ m.n ∧ Two dt i.1 (scr m A p i.2.1).1 m.bx m.bys bp ∧ (i.2.2 = false → i.2.1 = m.n)) (fun i => 2 * (m.n - i.2.1) + (if i.2.2 then 1 else 0)) (D, 0, true) ⟨Nat.zero_le _, h, fun e => by cases e⟩ ⟨rfl, rfl, rfl, trivial⟩ ((hsub (.cons_cons _ (.cons_cons _ (.cons_cons _ (.cons_cons _ (.refl _)))))).trans (hsub_pick [0, 1, 1, 0] rfl)) (fun i hi => ?_)
  obtain ⟨D, k, b⟩ := i
  obtain ⟨hk, hT, hb⟩ := hi
  simp only at hk hT hb
  dsimp only
  refine C_seq ?_
  refine C_seq ?_
  refine C_region ?_
  refine L_y rfl (y_move rfl) rfl ?_
  refine L_nil ?_
  refine C_cond rfl (fun hc0 => ?_) (fun hc0 => ?_)
  · skip
    refine C_skip ?_
    refine C_block ?_
    refine C_region ?_
    refine L_y rfl (y_move rfl) rfl ?_
    refine L_op rfl (op_call rfl rfl (fun a w => Try.call22 a w) rfl ?_)
    refine (FnS.sub (hsub_pick [0, 0, 0] rfl) (step_k (hG.sub (HSub.drop _ _)) hQ hm hk hT)).mono ?_
    rintro _ _ ⟨rfl, D2, j, hj, hT2, rfl⟩
    refine ⟨_, rfl, ?_⟩
    refine L_y rfl (y_move rfl) rfl ?_
    refine L_y rfl (y_extract rfl rfl) rfl ?_
    refine L_y rfl (y_extract rfl rfl) rfl ?_
    refine L_y rfl (y_assign rfl) rfl ?_
    refine L_nil ?_
    exact ⟨(D2, j, decide (k < m.n)), ⟨by simp only; split at hj <;> omega, hT2, fun e => by have := of_decide_eq_false e; simp only; rw [if_neg this] at hj; omega⟩, by simp only; rw [hc0]; by_cases hlt : k < m.n <;> simp [hlt] at hj ⊢ <;> omega, ⟨rfl, rfl, rfl, trivial⟩, ((hsub (.cons_cons _ (.cons_cons _ (.cons_cons _ (.cons_cons _ (.refl _)))))).trans (hsub_pick [0, 0, 0, 0] rfl))⟩
  · skip
    refine C_exit ?_
    refine C_seq ?_
    obtain rfl : k = m.n := hb hc0
    refine C_region ?_
    refine L_y rfl (y_move rfl) rfl ?_
    refine L_op rfl (op_call rfl rfl (fun a w => Try.call21 a w) rfl ?_)
    refine (report_s (sees 0 0 rfl)).mono ?_
    rintro _ _ ⟨rfl, e⟩
    obtain rfl := e.symm
    refine ⟨_, rfl, ?_⟩
    refine L_op rfl (op_store (vs := [.int .i64 (scr m A p m.n).2.2.1, .int .i64 (scr m A p m.n).2.2.2.1, .int .i64 (scr m A p m.n).2.2.2.2]) 3 0 rfl rfl rfl sz_32 rfl rfl (ones rfl) (Nat.le_of_ble_eq_true rfl) ?_)
    refine L_nil ?_
    refine C_ret ?_
    refine B_ret (rv_cellA rfl ag_32 sz_32 (sees 3 0 rfl) (Nat.le_of_ble_eq_true rfl) rfl rv_nil) ((hsub (.cons_cons _ (.cons_cons _ (.cons _ (.cons _ (.refl _)))))).trans (hsub_pick [1, 1] rfl)) ?_
    exact ⟨rfl, D, hT, rfl⟩

end Go.Proofs.Ytoaalclbplgegaa
