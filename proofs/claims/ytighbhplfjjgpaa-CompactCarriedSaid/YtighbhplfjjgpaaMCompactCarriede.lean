/- Own work: texts G2W, G3W, G4W, G5W, G1W, put together. -/
import Derived.Test.YtighbhplfjjgpaaMCompactCarriedd
/- walks (own work; the walks' lines by a program of this repo). -/
set_option linter.unusedVariables false
set_option linter.unusedSimpArgs false
set_option maxRecDepth 20000
namespace Go.Proofs.Ytighbhplfjjgpaa
open Go.Sl
attribute [local irreducible] BodyQ WpC WpL WpS WpH OpW FnS



set_option maxHeartbeats 1000000 in

theorem sift_u {w0 : World} {H : Hp} {sb n cap : Nat} {sp : List Value} (d : Array Nat) (hd : d.size = n) (hn : n < 4611686018427387904) (root hi first : Nat) (hr : root ≤ n) (hf : first + hi ≤ n) : FnS Try.prog w0 96 #[(.slice (some ⟨sb, 0, none⟩) n cap), .int .i64 ((root : Nat) : Int), .int .i64 ((hi : Nat) : Int), .int .i64 ((first : Nat) : Int)] (useg 48 sb d sp :: H) (fun e H' => e = .returned (.tuple #[]) ∧ H' = useg 48 sb (Go.Sort.siftDown ltN hi first root d) sp :: H) := by
  refine FnS_intro (n := 76) (rs := []) (vs := [(.slice (some ⟨sb, 0, none⟩) n cap), .int .i64 ((root : Nat) : Int), .int .i64 ((hi : Nat) : Int), .int .i64 ((first : Nat) : Int)]) Try.func96 rfl Try.ntmps96 rfl rfl ?_
  refine C_seq (C_region (LY rfl (y_move rfl) (LY rfl (y_assign rfl) (L_nil (C_block ?_)))))
  refine C_loop (ι := Array Nat × Nat) (fun i => [(0, (.slice (some ⟨sb, 0, none⟩) n cap)), (2, .int .i64 ((hi : Nat) : Int)), (3, .int .i64 ((first : Nat) : Int)), (8, .int .i64 ((i.2 : Nat) : Int))]) (fun i => useg 48 sb i.1 sp :: H) (fun i => i.1.size = n ∧ i.2 ≤ n ∧ Go.Sort.siftDown ltN hi first i.2 i.1 = Go.Sort.siftDown ltN hi first root d) (fun i => hi - i.2) (d, root) ⟨hd, hr, rfl⟩ ⟨rfl, rfl, rfl, rfl, trivial⟩ ((hsub (.cons_cons _ (.refl _))).trans (hsub_pick [0] rfl)) (fun q hq => ?_)
  obtain ⟨d1, r⟩ := q
  obtain ⟨hs1, hrn, hr1⟩ := hq
  try simp only at hs1 hrn hr1
  try dsimp only
  refine C_block (C_seq (C_region (LY rfl (y_move rfl) ?_)))
  refine LY rfl (y_mul rfl rfl (show _ = ((2 * r : Nat) : Int) from by rw [wi64 (by omega) (by omega)]; omega)) ?_
  refine LY rfl (y_add rfl rfl (show _ = ((2 * r + 1 : Nat) : Int) from by rw [wi64 (by omega) (by omega)]; omega)) ?_
  refine LY rfl (y_assign rfl) (L_nil (C_seq (C_seq (C_region (LY rfl (y_move rfl) (LY rfl (y_move rfl) ?_))))))
  refine LY rfl (y_geq rfl rfl) ?_
  refine L_nil ?_
  refine C_cond rfl (fun hc0 => ?_) (fun hc0 => ?_)
  · replace hc0 : hi ≤ 2 * r + 1 := by have := of_decide_eq_true hc0; omega
    have hfin : Go.Sort.siftDown ltN hi first r d1 = d1 := sd_stop hc0
    refine C_exit ?_
    refine B_end rv_nil ((hsub (.cons_cons _ (.refl _))).trans (hsub_pick [0] rfl)) ?_
    refine ⟨rfl, ?_⟩
    first
    | (rw [← hr1, hfin]; done)
    | (rw [← hr1, hfin]; rfl)
    | (rw [← hr1, sd_2s h2 hl (by simpa using hc2)]; rfl)
    | (rw [← hr1, sd_1s hc0 hnn (by simpa using hc2)]; rfl)
  · replace hc0 : 2 * r + 1 < hi := by have := of_decide_eq_false hc0; omega
    refine C_skip (C_seq (C_seq ?_))
    refine C_regionH0 (by kernel_rfl) ?_
    refine HY 0 rfl (HSub.refl _) rfl (y_move rfl) ?_
    refine HY 1 rfl (HSub.refl _) rfl (y_add rfl rfl (show _ = ((2 * r + 2 : Nat) : Int) from by rw [wi64 (by omega) (by omega)]; omega)) ?_
    refine HY 2 rfl (HSub.refl _) rfl (y_move rfl) ?_
    refine HY 3 rfl (HSub.refl _) rfl (y_lss rfl rfl) ?_
    refine HY 4 rfl (HSub.refl _) rfl (y_move rfl) ?_
    refine H_case 21 rfl (fun hg3_5 => ?_) (fun hg3_5 => ?_)
    · have h2 : 2 * r + 2 < hi := by have := of_decide_eq_true hg3_5; omega
      refine HY 5 rfl (HSub.refl _) rfl (y_move rfl) ?_
      refine HY 6 rfl (HSub.refl _) rfl (y_move rfl) ?_
      refine HY 7 rfl (HSub.refl _) rfl (y_move rfl) ?_
      refine HY 8 rfl (HSub.refl _) rfl (y_add rfl rfl (show _ = ((first + (2 * r + 1) : Nat) : Int) from by rw [wi64 (by omega) (by omega)]; omega)) ?_
      refine HY 9 rfl (HSub.refl _) rfl (y_indexS rfl rfl Try.underlying33 sz_48 (by omega) (by omega) (ix0 (first + (2 * r + 1)))) ?_
      refine HY 10 rfl (HSub.refl _) rfl (y_load rfl ag_48 (sees 0 0 rfl) (us_at (by omega))) ?_
      refine HY 11 rfl (HSub.refl _) rfl (y_move rfl) ?_
      refine HY 12 rfl (HSub.refl _) rfl (y_move rfl) ?_
      refine HY 13 rfl (HSub.refl _) rfl (y_move rfl) ?_
      refine HY 14 rfl (HSub.refl _) rfl (y_add rfl rfl (show _ = ((first + (2 * r + 1) : Nat) : Int) from by rw [wi64 (by omega) (by omega)]; omega)) ?_
      refine HY 15 rfl (HSub.refl _) rfl (y_add rfl rfl (show _ = ((first + (2 * r + 2) : Nat) : Int) from by rw [wi64 (by omega) (by omega)]; omega)) ?_
      refine HY 16 rfl (HSub.refl _) rfl (y_indexS rfl rfl Try.underlying33 sz_48 (by omega) (by omega) (ix0 (first + (2 * r + 2)))) ?_
      refine HY 17 rfl (HSub.refl _) rfl (y_load rfl ag_48 (sees 0 0 rfl) (us_at (by omega))) ?_
      refine H_one 18 rfl (by kernel_rfl) rfl (op_call rfl rfl (fun a w => Try.call89 a w) rfl ?_)
      refine (less_u (d1[first + (2 * r + 1)]!) (d1[first + (2 * r + 2)]!)).mono ?_
      rintro _ _ ⟨rfl, e⟩
      obtain rfl := e.symm
      clear e
      refine ⟨_, rfl, ?_⟩
      refine ⟨HSub.refl _, ?_⟩
      refine HY 19 rfl (HSub.refl _) rfl (y_pick_t rfl rfl) ?_
      refine H_done (by kernel_rfl) ?_
      refine C_cond rfl (fun hc1 => ?_) (fun hc1 => ?_)
      · have hl : ltN d1[first + (2 * r + 1)]! d1[first + (2 * r + 2)]! = true := hc1
        refine C_region (LY rfl (y_move rfl) ?_)
        refine LY rfl (y_add rfl rfl (show _ = ((2 * r + 2 : Nat) : Int) from by rw [wi64 (by omega) (by omega)]; omega)) ?_
        refine LY rfl (y_assign rfl) (L_nil (C_seq (C_seq ?_)))
        refine C_regionH0 (by kernel_rfl) ?_
        refine HY 0 rfl (HSub.refl _) rfl (y_move rfl) ?_
        refine HY 1 rfl (HSub.refl _) rfl (y_move rfl) ?_
        refine HY 2 rfl (HSub.refl _) rfl (y_move rfl) ?_
        refine HY 3 rfl (HSub.refl _) rfl (y_add rfl rfl (show _ = ((first + r : Nat) : Int) from by rw [wi64 (by omega) (by omega)]; omega)) ?_
        refine HY 4 rfl (HSub.refl _) rfl (y_indexS rfl rfl Try.underlying33 sz_48 (by omega) (by omega) (ix0 (first + r))) ?_
        refine HY 5 rfl (HSub.refl _) rfl (y_load rfl ag_48 (sees 0 0 rfl) (us_at (by omega))) ?_
        refine HY 6 rfl (HSub.refl _) rfl (y_move rfl) ?_
        refine HY 7 rfl (HSub.refl _) rfl (y_move rfl) ?_
        refine HY 8 rfl (HSub.refl _) rfl (y_move rfl) ?_
        refine HY 9 rfl (HSub.refl _) rfl (y_add rfl rfl (show _ = ((first + (2 * r + 2) : Nat) : Int) from by rw [wi64 (by omega) (by omega)]; omega)) ?_
        refine HY 10 rfl (HSub.refl _) rfl (y_indexS rfl rfl Try.underlying33 sz_48 (by omega) (by omega) (ix0 (first + (2 * r + 2)))) ?_
        refine HY 11 rfl (HSub.refl _) rfl (y_load rfl ag_48 (sees 0 0 rfl) (us_at (by omega))) ?_
        refine H_one 12 rfl (by kernel_rfl) rfl (op_call rfl rfl (fun a w => Try.call89 a w) rfl ?_)
        refine (less_u (d1[first + r]!) (d1[first + (2 * r + 2)]!)).mono ?_
        rintro _ _ ⟨rfl, e⟩
        obtain rfl := e.symm
        clear e
        refine ⟨_, rfl, ?_⟩
        refine ⟨HSub.refl _, ?_⟩
        refine HY 13 rfl (HSub.refl _) rfl (y_not rfl) ?_
        refine H_done (by kernel_rfl) ?_
        refine C_cond rfl (fun hc2 => ?_) (fun hc2 => ?_)
        · skip
          refine C_ret ?_
          refine B_ret rv_nil ((hsub (.cons_cons _ (.refl _))).trans (hsub_pick [0] rfl)) ?_
          refine ⟨rfl, ?_⟩
          first
          | (rw [← hr1, hfin]; done)
          | (rw [← hr1, hfin]; rfl)
          | (rw [← hr1, sd_2s h2 hl (by simpa using hc2)]; rfl)
          | (rw [← hr1, sd_1s hc0 hnn (by simpa using hc2)]; rfl)
        · skip
          refine C_skip (C_seq ?_)
          have hg : ltN d1[first + r]! d1[first + (2 * r + 2)]! = true := by simpa using hc2
          refine C_regionH H (by kernel_rfl) ?_
          refine HY 0 rfl ((hsub (.cons _ (.refl _)))) rfl (y_move rfl) ?_
          refine HY 1 rfl ((hsub (.cons _ (.refl _)))) rfl (y_move rfl) ?_
          refine HY 2 rfl ((hsub (.cons _ (.refl _)))) rfl (y_move rfl) ?_
          refine HY 3 rfl ((hsub (.cons _ (.refl _)))) rfl (y_add rfl rfl (show _ = ((first + r : Nat) : Int) from by rw [wi64 (by omega) (by omega)]; omega)) ?_
          refine HY 4 rfl ((hsub (.cons _ (.refl _)))) rfl (y_move rfl) ?_
          refine HY 5 rfl ((hsub (.cons _ (.refl _)))) rfl (y_move rfl) ?_
          refine HY 6 rfl ((hsub (.cons _ (.refl _)))) rfl (y_move rfl) ?_
          refine HY 7 rfl ((hsub (.cons _ (.refl _)))) rfl (y_add rfl rfl (show _ = ((first + (2 * r + 2) : Nat) : Int) from by rw [wi64 (by omega) (by omega)]; omega)) ?_
          refine HY 8 rfl ((hsub (.cons _ (.refl _)))) rfl (y_move rfl) ?_
          refine HY 9 rfl ((hsub (.cons _ (.refl _)))) rfl (y_move rfl) ?_
          refine HY 10 rfl ((hsub (.cons _ (.refl _)))) rfl (y_move rfl) ?_
          refine HY 11 rfl ((hsub (.cons _ (.refl _)))) rfl (y_add rfl rfl (show _ = ((first + (2 * r + 2) : Nat) : Int) from by rw [wi64 (by omega) (by omega)]; omega)) ?_
          refine HY 12 rfl ((hsub (.cons _ (.refl _)))) rfl (y_indexS rfl rfl Try.underlying33 sz_48 (by omega) (by omega) (ix0 (first + (2 * r + 2)))) ?_
          refine HY 14 rfl ((hsub (.cons _ (.refl _)))) rfl (y_move rfl) ?_
          refine HY 15 rfl ((hsub (.cons _ (.refl _)))) rfl (y_move rfl) ?_
          refine HY 16 rfl ((hsub (.cons _ (.refl _)))) rfl (y_move rfl) ?_
          refine HY 17 rfl ((hsub (.cons _ (.refl _)))) rfl (y_add rfl rfl (show _ = ((first + r : Nat) : Int) from by rw [wi64 (by omega) (by omega)]; omega)) ?_
          refine HY 18 rfl ((hsub (.cons _ (.refl _)))) rfl (y_indexS rfl rfl Try.underlying33 sz_48 (by omega) (by omega) (ix0 (first + r))) ?_
          refine H_two 13 19 rfl rfl (by kernel_rfl) rfl rfl ?_ ?_
          · refine op_y (y_load rfl ag_48 (sees 0 0 rfl) (us_at (by omega))) rfl ?_
            refine ⟨(hsub (.cons _ (.refl _))), ?_⟩
            refine H_one 19 rfl (by kernel_rfl) rfl (op_y (y_load rfl ag_48 (sees 0 0 rfl) (us_at (by omega))) rfl ?_)
            refine ⟨(hsub (.cons _ (.refl _))), ?_⟩
            refine HY 20 rfl ((hsub (.cons _ (.refl _)))) rfl (y_indexS rfl rfl Try.underlying33 sz_48 (by omega) (by omega) (ix0 (first + r))) ?_
            refine H_one 21 rfl (by kernel_rfl) rfl (op_store1 0 0 rfl rfl rfl sz_48 rfl (us_lt (by omega)) ?_)
            refine ⟨(hsub (.cons _ (.refl _))), ?_⟩
            refine HY 22 rfl ((hsub (.cons _ (.refl _)))) rfl (y_indexS rfl rfl Try.underlying33 sz_48 (by omega) (by omega) (ix0 (first + (2 * r + 2)))) ?_
            refine H_one 23 rfl (by kernel_rfl) rfl (op_store1 0 0 rfl rfl rfl sz_48 rfl (by rw [List.length_set]; exact us_lt (by omega)) ?_)
            refine ⟨(hsub (.cons _ (.refl _))), ?_⟩
            refine H_done (by kernel_rfl) ?_
            rw [us_swp (by omega) (by omega)]
            refine C_region (LY rfl (y_move rfl) (LY rfl (y_assign rfl) (L_nil ?_)))
            exact ⟨(Go.Sort.swp d1 (first + r) (first + (2 * r + 2)), (2 * r + 2)), ⟨by simp only; rw [swp_size]; exact hs1, by simp only; omega, by simp only; rw [← hr1, sd_2 h2 hl hg]⟩, by simp only; omega, ⟨rfl, rfl, rfl, rfl, trivial⟩, ((hsub (.cons_cons _ (.refl _))).trans (hsub_pick [0] rfl))⟩
          · refine op_y (y_load rfl ag_48 (sees 0 0 rfl) (us_at (by omega))) rfl ?_
            refine ⟨(hsub (.cons _ (.refl _))), ?_⟩
            refine H_one 13 rfl (by kernel_rfl) rfl (op_y (y_load rfl ag_48 (sees 0 0 rfl) (us_at (by omega))) rfl ?_)
            refine ⟨(hsub (.cons _ (.refl _))), ?_⟩
            refine HY 20 rfl ((hsub (.cons _ (.refl _)))) rfl (y_indexS rfl rfl Try.underlying33 sz_48 (by omega) (by omega) (ix0 (first + r))) ?_
            refine H_one 21 rfl (by kernel_rfl) rfl (op_store1 0 0 rfl rfl rfl sz_48 rfl (us_lt (by omega)) ?_)
            refine ⟨(hsub (.cons _ (.refl _))), ?_⟩
            refine HY 22 rfl ((hsub (.cons _ (.refl _)))) rfl (y_indexS rfl rfl Try.underlying33 sz_48 (by omega) (by omega) (ix0 (first + (2 * r + 2)))) ?_
            refine H_one 23 rfl (by kernel_rfl) rfl (op_store1 0 0 rfl rfl rfl sz_48 rfl (by rw [List.length_set]; exact us_lt (by omega)) ?_)
            refine ⟨(hsub (.cons _ (.refl _))), ?_⟩
            refine H_done (by kernel_rfl) ?_
            rw [us_swp (by omega) (by omega)]
            refine C_region (LY rfl (y_move rfl) (LY rfl (y_assign rfl) (L_nil ?_)))
            exact ⟨(Go.Sort.swp d1 (first + r) (first + (2 * r + 2)), (2 * r + 2)), ⟨by simp only; rw [swp_size]; exact hs1, by simp only; omega, by simp only; rw [← hr1, sd_2 h2 hl hg]⟩, by simp only; omega, ⟨rfl, rfl, rfl, rfl, trivial⟩, ((hsub (.cons_cons _ (.refl _))).trans (hsub_pick [0] rfl))⟩
      · have hl : ltN d1[first + (2 * r + 1)]! d1[first + (2 * r + 2)]! = false := hc1
        have hnn : ¬ 2 * r + 2 < hi ∨ ltN d1[first + (2 * r + 1)]! d1[first + (2 * r + 2)]! = false := .inr hl
        refine C_skip (C_seq (C_seq ?_))
        refine C_regionH0 (by kernel_rfl) ?_
        refine HY 0 rfl (HSub.refl _) rfl (y_move rfl) ?_
        refine HY 1 rfl (HSub.refl _) rfl (y_move rfl) ?_
        refine HY 2 rfl (HSub.refl _) rfl (y_move rfl) ?_
        refine HY 3 rfl (HSub.refl _) rfl (y_add rfl rfl (show _ = ((first + r : Nat) : Int) from by rw [wi64 (by omega) (by omega)]; omega)) ?_
        refine HY 4 rfl (HSub.refl _) rfl (y_indexS rfl rfl Try.underlying33 sz_48 (by omega) (by omega) (ix0 (first + r))) ?_
        refine HY 5 rfl (HSub.refl _) rfl (y_load rfl ag_48 (sees 0 0 rfl) (us_at (by omega))) ?_
        refine HY 6 rfl (HSub.refl _) rfl (y_move rfl) ?_
        refine HY 7 rfl (HSub.refl _) rfl (y_move rfl) ?_
        refine HY 8 rfl (HSub.refl _) rfl (y_move rfl) ?_
        refine HY 9 rfl (HSub.refl _) rfl (y_add rfl rfl (show _ = ((first + (2 * r + 1) : Nat) : Int) from by rw [wi64 (by omega) (by omega)]; omega)) ?_
        refine HY 10 rfl (HSub.refl _) rfl (y_indexS rfl rfl Try.underlying33 sz_48 (by omega) (by omega) (ix0 (first + (2 * r + 1)))) ?_
        refine HY 11 rfl (HSub.refl _) rfl (y_load rfl ag_48 (sees 0 0 rfl) (us_at (by omega))) ?_
        refine H_one 12 rfl (by kernel_rfl) rfl (op_call rfl rfl (fun a w => Try.call89 a w) rfl ?_)
        refine (less_u (d1[first + r]!) (d1[first + (2 * r + 1)]!)).mono ?_
        rintro _ _ ⟨rfl, e⟩
        obtain rfl := e.symm
        clear e
        refine ⟨_, rfl, ?_⟩
        refine ⟨HSub.refl _, ?_⟩
        refine HY 13 rfl (HSub.refl _) rfl (y_not rfl) ?_
        refine H_done (by kernel_rfl) ?_
        refine C_cond rfl (fun hc2 => ?_) (fun hc2 => ?_)
        · skip
          refine C_ret ?_
          refine B_ret rv_nil ((hsub (.cons_cons _ (.refl _))).trans (hsub_pick [0] rfl)) ?_
          refine ⟨rfl, ?_⟩
          first
          | (rw [← hr1, hfin]; done)
          | (rw [← hr1, hfin]; rfl)
          | (rw [← hr1, sd_2s h2 hl (by simpa using hc2)]; rfl)
          | (rw [← hr1, sd_1s hc0 hnn (by simpa using hc2)]; rfl)
        · skip
          refine C_skip (C_seq ?_)
          have hg : ltN d1[first + r]! d1[first + (2 * r + 1)]! = true := by simpa using hc2
          refine C_regionH H (by kernel_rfl) ?_
          refine HY 0 rfl ((hsub (.cons _ (.refl _)))) rfl (y_move rfl) ?_
          refine HY 1 rfl ((hsub (.cons _ (.refl _)))) rfl (y_move rfl) ?_
          refine HY 2 rfl ((hsub (.cons _ (.refl _)))) rfl (y_move rfl) ?_
          refine HY 3 rfl ((hsub (.cons _ (.refl _)))) rfl (y_add rfl rfl (show _ = ((first + r : Nat) : Int) from by rw [wi64 (by omega) (by omega)]; omega)) ?_
          refine HY 4 rfl ((hsub (.cons _ (.refl _)))) rfl (y_move rfl) ?_
          refine HY 5 rfl ((hsub (.cons _ (.refl _)))) rfl (y_move rfl) ?_
          refine HY 6 rfl ((hsub (.cons _ (.refl _)))) rfl (y_move rfl) ?_
          refine HY 7 rfl ((hsub (.cons _ (.refl _)))) rfl (y_add rfl rfl (show _ = ((first + (2 * r + 1) : Nat) : Int) from by rw [wi64 (by omega) (by omega)]; omega)) ?_
          refine HY 8 rfl ((hsub (.cons _ (.refl _)))) rfl (y_move rfl) ?_
          refine HY 9 rfl ((hsub (.cons _ (.refl _)))) rfl (y_move rfl) ?_
          refine HY 10 rfl ((hsub (.cons _ (.refl _)))) rfl (y_move rfl) ?_
          refine HY 11 rfl ((hsub (.cons _ (.refl _)))) rfl (y_add rfl rfl (show _ = ((first + (2 * r + 1) : Nat) : Int) from by rw [wi64 (by omega) (by omega)]; omega)) ?_
          refine HY 12 rfl ((hsub (.cons _ (.refl _)))) rfl (y_indexS rfl rfl Try.underlying33 sz_48 (by omega) (by omega) (ix0 (first + (2 * r + 1)))) ?_
          refine HY 14 rfl ((hsub (.cons _ (.refl _)))) rfl (y_move rfl) ?_
          refine HY 15 rfl ((hsub (.cons _ (.refl _)))) rfl (y_move rfl) ?_
          refine HY 16 rfl ((hsub (.cons _ (.refl _)))) rfl (y_move rfl) ?_
          refine HY 17 rfl ((hsub (.cons _ (.refl _)))) rfl (y_add rfl rfl (show _ = ((first + r : Nat) : Int) from by rw [wi64 (by omega) (by omega)]; omega)) ?_
          refine HY 18 rfl ((hsub (.cons _ (.refl _)))) rfl (y_indexS rfl rfl Try.underlying33 sz_48 (by omega) (by omega) (ix0 (first + r))) ?_
          refine H_two 13 19 rfl rfl (by kernel_rfl) rfl rfl ?_ ?_
          · refine op_y (y_load rfl ag_48 (sees 0 0 rfl) (us_at (by omega))) rfl ?_
            refine ⟨(hsub (.cons _ (.refl _))), ?_⟩
            refine H_one 19 rfl (by kernel_rfl) rfl (op_y (y_load rfl ag_48 (sees 0 0 rfl) (us_at (by omega))) rfl ?_)
            refine ⟨(hsub (.cons _ (.refl _))), ?_⟩
            refine HY 20 rfl ((hsub (.cons _ (.refl _)))) rfl (y_indexS rfl rfl Try.underlying33 sz_48 (by omega) (by omega) (ix0 (first + r))) ?_
            refine H_one 21 rfl (by kernel_rfl) rfl (op_store1 0 0 rfl rfl rfl sz_48 rfl (us_lt (by omega)) ?_)
            refine ⟨(hsub (.cons _ (.refl _))), ?_⟩
            refine HY 22 rfl ((hsub (.cons _ (.refl _)))) rfl (y_indexS rfl rfl Try.underlying33 sz_48 (by omega) (by omega) (ix0 (first + (2 * r + 1)))) ?_
            refine H_one 23 rfl (by kernel_rfl) rfl (op_store1 0 0 rfl rfl rfl sz_48 rfl (by rw [List.length_set]; exact us_lt (by omega)) ?_)
            refine ⟨(hsub (.cons _ (.refl _))), ?_⟩
            refine H_done (by kernel_rfl) ?_
            rw [us_swp (by omega) (by omega)]
            refine C_region (LY rfl (y_move rfl) (LY rfl (y_assign rfl) (L_nil ?_)))
            exact ⟨(Go.Sort.swp d1 (first + r) (first + (2 * r + 1)), (2 * r + 1)), ⟨by simp only; rw [swp_size]; exact hs1, by simp only; omega, by simp only; rw [← hr1, sd_1 hc0 hnn hg]⟩, by simp only; omega, ⟨rfl, rfl, rfl, rfl, trivial⟩, ((hsub (.cons_cons _ (.refl _))).trans (hsub_pick [0] rfl))⟩
          · refine op_y (y_load rfl ag_48 (sees 0 0 rfl) (us_at (by omega))) rfl ?_
            refine ⟨(hsub (.cons _ (.refl _))), ?_⟩
            refine H_one 13 rfl (by kernel_rfl) rfl (op_y (y_load rfl ag_48 (sees 0 0 rfl) (us_at (by omega))) rfl ?_)
            refine ⟨(hsub (.cons _ (.refl _))), ?_⟩
            refine HY 20 rfl ((hsub (.cons _ (.refl _)))) rfl (y_indexS rfl rfl Try.underlying33 sz_48 (by omega) (by omega) (ix0 (first + r))) ?_
            refine H_one 21 rfl (by kernel_rfl) rfl (op_store1 0 0 rfl rfl rfl sz_48 rfl (us_lt (by omega)) ?_)
            refine ⟨(hsub (.cons _ (.refl _))), ?_⟩
            refine HY 22 rfl ((hsub (.cons _ (.refl _)))) rfl (y_indexS rfl rfl Try.underlying33 sz_48 (by omega) (by omega) (ix0 (first + (2 * r + 1)))) ?_
            refine H_one 23 rfl (by kernel_rfl) rfl (op_store1 0 0 rfl rfl rfl sz_48 rfl (by rw [List.length_set]; exact us_lt (by omega)) ?_)
            refine ⟨(hsub (.cons _ (.refl _))), ?_⟩
            refine H_done (by kernel_rfl) ?_
            rw [us_swp (by omega) (by omega)]
            refine C_region (LY rfl (y_move rfl) (LY rfl (y_assign rfl) (L_nil ?_)))
            exact ⟨(Go.Sort.swp d1 (first + r) (first + (2 * r + 1)), (2 * r + 1)), ⟨by simp only; rw [swp_size]; exact hs1, by simp only; omega, by simp only; rw [← hr1, sd_1 hc0 hnn hg]⟩, by simp only; omega, ⟨rfl, rfl, rfl, rfl, trivial⟩, ((hsub (.cons_cons _ (.refl _))).trans (hsub_pick [0] rfl))⟩
    · have h2 : ¬ 2 * r + 2 < hi := by have := of_decide_eq_false hg3_5; omega
      have hnn : ¬ 2 * r + 2 < hi ∨ ltN d1[first + (2 * r + 1)]! d1[first + (2 * r + 2)]! = false := .inl h2
      refine HK 5 rfl (HSub.refl _) rfl ?_
      refine HK 6 rfl (HSub.refl _) rfl ?_
      refine HK 7 rfl (HSub.refl _) rfl ?_
      refine HK 8 rfl (HSub.refl _) rfl ?_
      refine HK 9 rfl (HSub.refl _) rfl ?_
      refine HK 10 rfl (HSub.refl _) rfl ?_
      refine HK 11 rfl (HSub.refl _) rfl ?_
      refine HK 12 rfl (HSub.refl _) rfl ?_
      refine HK 13 rfl (HSub.refl _) rfl ?_
      refine HK 14 rfl (HSub.refl _) rfl ?_
      refine HK 15 rfl (HSub.refl _) rfl ?_
      refine HK 16 rfl (HSub.refl _) rfl ?_
      refine HK 17 rfl (HSub.refl _) rfl ?_
      refine HK 18 rfl (HSub.refl _) rfl ?_
      refine HY 19 rfl (HSub.refl _) rfl (y_pick_f rfl rfl) ?_
      refine H_done (by kernel_rfl) ?_
      refine C_cond_f rfl (C_skip (C_seq (C_seq ?_)))
      refine C_regionH0 (by kernel_rfl) ?_
      refine HY 0 rfl (HSub.refl _) rfl (y_move rfl) ?_
      refine HY 1 rfl (HSub.refl _) rfl (y_move rfl) ?_
      refine HY 2 rfl (HSub.refl _) rfl (y_move rfl) ?_
      refine HY 3 rfl (HSub.refl _) rfl (y_add rfl rfl (show _ = ((first + r : Nat) : Int) from by rw [wi64 (by omega) (by omega)]; omega)) ?_
      refine HY 4 rfl (HSub.refl _) rfl (y_indexS rfl rfl Try.underlying33 sz_48 (by omega) (by omega) (ix0 (first + r))) ?_
      refine HY 5 rfl (HSub.refl _) rfl (y_load rfl ag_48 (sees 0 0 rfl) (us_at (by omega))) ?_
      refine HY 6 rfl (HSub.refl _) rfl (y_move rfl) ?_
      refine HY 7 rfl (HSub.refl _) rfl (y_move rfl) ?_
      refine HY 8 rfl (HSub.refl _) rfl (y_move rfl) ?_
      refine HY 9 rfl (HSub.refl _) rfl (y_add rfl rfl (show _ = ((first + (2 * r + 1) : Nat) : Int) from by rw [wi64 (by omega) (by omega)]; omega)) ?_
      refine HY 10 rfl (HSub.refl _) rfl (y_indexS rfl rfl Try.underlying33 sz_48 (by omega) (by omega) (ix0 (first + (2 * r + 1)))) ?_
      refine HY 11 rfl (HSub.refl _) rfl (y_load rfl ag_48 (sees 0 0 rfl) (us_at (by omega))) ?_
      refine H_one 12 rfl (by kernel_rfl) rfl (op_call rfl rfl (fun a w => Try.call89 a w) rfl ?_)
      refine (less_u (d1[first + r]!) (d1[first + (2 * r + 1)]!)).mono ?_
      rintro _ _ ⟨rfl, e⟩
      obtain rfl := e.symm
      clear e
      refine ⟨_, rfl, ?_⟩
      refine ⟨HSub.refl _, ?_⟩
      refine HY 13 rfl (HSub.refl _) rfl (y_not rfl) ?_
      refine H_done (by kernel_rfl) ?_
      refine C_cond rfl (fun hc2 => ?_) (fun hc2 => ?_)
      · skip
        refine C_ret ?_
        refine B_ret rv_nil ((hsub (.cons_cons _ (.refl _))).trans (hsub_pick [0] rfl)) ?_
        refine ⟨rfl, ?_⟩
        first
        | (rw [← hr1, hfin]; done)
        | (rw [← hr1, hfin]; rfl)
        | (rw [← hr1, sd_2s h2 hl (by simpa using hc2)]; rfl)
        | (rw [← hr1, sd_1s hc0 hnn (by simpa using hc2)]; rfl)
      · skip
        refine C_skip (C_seq ?_)
        have hg : ltN d1[first + r]! d1[first + (2 * r + 1)]! = true := by simpa using hc2
        refine C_regionH H (by kernel_rfl) ?_
        refine HY 0 rfl ((hsub (.cons _ (.refl _)))) rfl (y_move rfl) ?_
        refine HY 1 rfl ((hsub (.cons _ (.refl _)))) rfl (y_move rfl) ?_
        refine HY 2 rfl ((hsub (.cons _ (.refl _)))) rfl (y_move rfl) ?_
        refine HY 3 rfl ((hsub (.cons _ (.refl _)))) rfl (y_add rfl rfl (show _ = ((first + r : Nat) : Int) from by rw [wi64 (by omega) (by omega)]; omega)) ?_
        refine HY 4 rfl ((hsub (.cons _ (.refl _)))) rfl (y_move rfl) ?_
        refine HY 5 rfl ((hsub (.cons _ (.refl _)))) rfl (y_move rfl) ?_
        refine HY 6 rfl ((hsub (.cons _ (.refl _)))) rfl (y_move rfl) ?_
        refine HY 7 rfl ((hsub (.cons _ (.refl _)))) rfl (y_add rfl rfl (show _ = ((first + (2 * r + 1) : Nat) : Int) from by rw [wi64 (by omega) (by omega)]; omega)) ?_
        refine HY 8 rfl ((hsub (.cons _ (.refl _)))) rfl (y_move rfl) ?_
        refine HY 9 rfl ((hsub (.cons _ (.refl _)))) rfl (y_move rfl) ?_
        refine HY 10 rfl ((hsub (.cons _ (.refl _)))) rfl (y_move rfl) ?_
        refine HY 11 rfl ((hsub (.cons _ (.refl _)))) rfl (y_add rfl rfl (show _ = ((first + (2 * r + 1) : Nat) : Int) from by rw [wi64 (by omega) (by omega)]; omega)) ?_
        refine HY 12 rfl ((hsub (.cons _ (.refl _)))) rfl (y_indexS rfl rfl Try.underlying33 sz_48 (by omega) (by omega) (ix0 (first + (2 * r + 1)))) ?_
        refine HY 14 rfl ((hsub (.cons _ (.refl _)))) rfl (y_move rfl) ?_
        refine HY 15 rfl ((hsub (.cons _ (.refl _)))) rfl (y_move rfl) ?_
        refine HY 16 rfl ((hsub (.cons _ (.refl _)))) rfl (y_move rfl) ?_
        refine HY 17 rfl ((hsub (.cons _ (.refl _)))) rfl (y_add rfl rfl (show _ = ((first + r : Nat) : Int) from by rw [wi64 (by omega) (by omega)]; omega)) ?_
        refine HY 18 rfl ((hsub (.cons _ (.refl _)))) rfl (y_indexS rfl rfl Try.underlying33 sz_48 (by omega) (by omega) (ix0 (first + r))) ?_
        refine H_two 13 19 rfl rfl (by kernel_rfl) rfl rfl ?_ ?_
        · refine op_y (y_load rfl ag_48 (sees 0 0 rfl) (us_at (by omega))) rfl ?_
          refine ⟨(hsub (.cons _ (.refl _))), ?_⟩
          refine H_one 19 rfl (by kernel_rfl) rfl (op_y (y_load rfl ag_48 (sees 0 0 rfl) (us_at (by omega))) rfl ?_)
          refine ⟨(hsub (.cons _ (.refl _))), ?_⟩
          refine HY 20 rfl ((hsub (.cons _ (.refl _)))) rfl (y_indexS rfl rfl Try.underlying33 sz_48 (by omega) (by omega) (ix0 (first + r))) ?_
          refine H_one 21 rfl (by kernel_rfl) rfl (op_store1 0 0 rfl rfl rfl sz_48 rfl (us_lt (by omega)) ?_)
          refine ⟨(hsub (.cons _ (.refl _))), ?_⟩
          refine HY 22 rfl ((hsub (.cons _ (.refl _)))) rfl (y_indexS rfl rfl Try.underlying33 sz_48 (by omega) (by omega) (ix0 (first + (2 * r + 1)))) ?_
          refine H_one 23 rfl (by kernel_rfl) rfl (op_store1 0 0 rfl rfl rfl sz_48 rfl (by rw [List.length_set]; exact us_lt (by omega)) ?_)
          refine ⟨(hsub (.cons _ (.refl _))), ?_⟩
          refine H_done (by kernel_rfl) ?_
          rw [us_swp (by omega) (by omega)]
          refine C_region (LY rfl (y_move rfl) (LY rfl (y_assign rfl) (L_nil ?_)))
          exact ⟨(Go.Sort.swp d1 (first + r) (first + (2 * r + 1)), (2 * r + 1)), ⟨by simp only; rw [swp_size]; exact hs1, by simp only; omega, by simp only; rw [← hr1, sd_1 hc0 hnn hg]⟩, by simp only; omega, ⟨rfl, rfl, rfl, rfl, trivial⟩, ((hsub (.cons_cons _ (.refl _))).trans (hsub_pick [0] rfl))⟩
        · refine op_y (y_load rfl ag_48 (sees 0 0 rfl) (us_at (by omega))) rfl ?_
          refine ⟨(hsub (.cons _ (.refl _))), ?_⟩
          refine H_one 13 rfl (by kernel_rfl) rfl (op_y (y_load rfl ag_48 (sees 0 0 rfl) (us_at (by omega))) rfl ?_)
          refine ⟨(hsub (.cons _ (.refl _))), ?_⟩
          refine HY 20 rfl ((hsub (.cons _ (.refl _)))) rfl (y_indexS rfl rfl Try.underlying33 sz_48 (by omega) (by omega) (ix0 (first + r))) ?_
          refine H_one 21 rfl (by kernel_rfl) rfl (op_store1 0 0 rfl rfl rfl sz_48 rfl (us_lt (by omega)) ?_)
          refine ⟨(hsub (.cons _ (.refl _))), ?_⟩
          refine HY 22 rfl ((hsub (.cons _ (.refl _)))) rfl (y_indexS rfl rfl Try.underlying33 sz_48 (by omega) (by omega) (ix0 (first + (2 * r + 1)))) ?_
          refine H_one 23 rfl (by kernel_rfl) rfl (op_store1 0 0 rfl rfl rfl sz_48 rfl (by rw [List.length_set]; exact us_lt (by omega)) ?_)
          refine ⟨(hsub (.cons _ (.refl _))), ?_⟩
          refine H_done (by kernel_rfl) ?_
          rw [us_swp (by omega) (by omega)]
          refine C_region (LY rfl (y_move rfl) (LY rfl (y_assign rfl) (L_nil ?_)))
          exact ⟨(Go.Sort.swp d1 (first + r) (first + (2 * r + 1)), (2 * r + 1)), ⟨by simp only; rw [swp_size]; exact hs1, by simp only; omega, by simp only; rw [← hr1, sd_1 hc0 hnn hg]⟩, by simp only; omega, ⟨rfl, rfl, rfl, rfl, trivial⟩, ((hsub (.cons_cons _ (.refl _))).trans (hsub_pick [0] rfl))⟩

set_option maxHeartbeats 1000000 in

theorem heap_u {w0 : World} {H : Hp} {sb n cap : Nat} {sp : List Value} (d : Array Nat) (hd : d.size = n) (hn : n < 4611686018427387904) (a b : Nat) (hab : a < b) (hb : b ≤ n) : FnS Try.prog w0 84 #[(.slice (some ⟨sb, 0, none⟩) n cap), .int .i64 ((a : Nat) : Int), .int .i64 ((b : Nat) : Int)] (useg 48 sb d sp :: H) (fun e H' => e = .returned (.tuple #[]) ∧ H' = useg 48 sb (Go.Sort.heapSort ltN d a b) sp :: H) := by
  refine FnS_intro (n := 56) (rs := []) (vs := [(.slice (some ⟨sb, 0, none⟩) n cap), .int .i64 ((a : Nat) : Int), .int .i64 ((b : Nat) : Int)]) Try.func84 rfl Try.ntmps84 rfl rfl ?_
  refine C_seq (C_region (LY rfl (y_move rfl) (LY rfl (y_assign rfl) (L_nil (C_seq (C_region (LY rfl (y_assign rfl) (L_nil (C_seq (C_region (LY rfl (y_move rfl) (LY rfl (y_move rfl) ?_))))))))))))
  refine LY rfl (y_sub rfl rfl (show _ = ((b - a : Nat) : Int) from by rw [wi64 (by omega) (by omega)]; omega)) ?_
  refine LY rfl (y_assign rfl) (L_nil (C_seq (C_seq (C_region (LY rfl (y_move rfl) ?_)))))
  refine LY rfl (y_sub rfl rfl (show _ = ((b - a - 1 : Nat) : Int) from by rw [wi64 (by omega) (by omega)]; omega)) ?_
  refine LY rfl (y_quo rfl rfl (by omega) (show _ = ((((b - a - 1) / 2 + 1) : Nat) : Int) - 1 from by rw [Int.tdiv_eq_ediv_of_nonneg (by omega), wi64 (by omega) (by omega)]; omega)) ?_
  refine LY rfl (y_assign rfl) (L_nil (C_block ?_))
  refine C_loop (ι := Array Nat × Nat) (fun i => [(0, (.slice (some ⟨sb, 0, none⟩) n cap)), (6, .int .i64 ((a : Nat) : Int)), (7, .int .i64 0), (8, .int .i64 ((b - a : Nat) : Int)), (9, .int .i64 ((i.2 : Int) - 1))]) (fun i => useg 48 sb i.1 sp :: H) (fun i => i.1.size = n ∧ i.2 ≤ n ∧ Go.Sort.heapBuild ltN (b - a) a i.2 i.1 = Go.Sort.heapBuild ltN (b - a) a ((b - a - 1) / 2 + 1) d) (fun i => i.2) (d, ((b - a - 1) / 2 + 1)) ⟨hd, by simp only; omega, rfl⟩ ⟨rfl, rfl, rfl, rfl, rfl, trivial⟩ ((hsub (.cons_cons _ (.refl _))).trans (hsub_pick [0] rfl)) (fun i hi => ?_)
  obtain ⟨d1, k⟩ := i
  obtain ⟨hs1, hk, hr1⟩ := hi
  try simp only at hs1 hk hr1
  try dsimp only
  refine C_seq (C_seq (C_region (LY rfl (y_move rfl) ?_)))
  refine LY rfl (y_geq rfl rfl) ?_
  refine L_nil ?_
  refine C_cond rfl (fun hc0 => ?_) (fun hc0 => ?_)
  · obtain ⟨k, rfl⟩ : ∃ m, k = m + 1 := ⟨k - 1, by have := of_decide_eq_true hc0; omega⟩
    rw [show (((k + 1 : Nat) : Int) - 1) = ((k : Nat) : Int) from by omega]
    refine C_skip (C_seq (C_block (C_region (LY rfl (y_move rfl) (LY rfl (y_move rfl) (LY rfl (y_move rfl) (LY rfl (y_move rfl) ?_)))))))
    refine L_op rfl (op_call rfl rfl (fun a w => Try.call96 a w) rfl ?_)
    refine (sift_u d1 (by first | exact hs1 | (rw [swp_size]; exact hs2)) hn k (b - a) a (by omega) (by omega)).mono ?_
    rintro _ _ ⟨rfl, rfl⟩
    refine ⟨_, rfl, ?_⟩
    refine L_nil (C_region (LY rfl (y_move rfl) ?_))
    refine LY rfl (y_sub rfl rfl (show _ = ((k : Nat) : Int) - 1 from by rw [wi64 (by omega) (by omega)])) ?_
    refine LY rfl (y_assign rfl) (L_nil ?_)
    exact ⟨(Go.Sort.siftDown ltN (b - a) a k d1, k), ⟨by simp only; rw [sd_size _ _ _ _ _ (Nat.le_refl _)]; exact hs1, by simp only; omega, by simp only; rw [← hr1]; rfl⟩, by simp only; omega, ⟨rfl, rfl, rfl, rfl, rfl, trivial⟩, ((hsub (.cons_cons _ (.refl _))).trans (hsub_pick [0] rfl))⟩
  · obtain rfl : k = 0 := by have := of_decide_eq_false hc0; omega
    refine C_exit (C_seq (C_region (LY rfl (y_move rfl) ?_)))
    refine LY rfl (y_sub rfl rfl (show _ = (((b - a : Nat) : Int) - 1) from by rw [wi64 (by omega) (by omega)])) ?_
    refine LY rfl (y_assign rfl) (L_nil (C_block ?_))
    refine C_loop (ι := Array Nat × Nat) (fun i => [(0, (.slice (some ⟨sb, 0, none⟩) n cap)), (6, .int .i64 ((a : Nat) : Int)), (7, .int .i64 0), (8, .int .i64 ((b - a : Nat) : Int)), (10, .int .i64 ((i.2 : Int) - 1))]) (fun i => useg 48 sb i.1 sp :: H) (fun i => i.1.size = n ∧ i.2 ≤ b - a ∧ Go.Sort.heapPop ltN a i.2 i.1 = Go.Sort.heapSort ltN d a b) (fun i => i.2) (d1, b - a) ⟨hs1, Nat.le_refl _, by simp only; unfold Go.Sort.heapSort; rw [← hr1]; rfl⟩ ⟨rfl, rfl, rfl, rfl, rfl, trivial⟩ ((hsub (.cons_cons _ (.refl _))).trans (hsub_pick [0] rfl)) (fun i hi => ?_)
    obtain ⟨d2, k⟩ := i
    obtain ⟨hs2, hk, hr2⟩ := hi
    try simp only at hs2 hk hr2
    try dsimp only
    refine C_seq (C_seq (C_region (LY rfl (y_move rfl) ?_)))
    refine LY rfl (y_geq rfl rfl) ?_
    refine L_nil ?_
    refine C_cond rfl (fun hc1 => ?_) (fun hc1 => ?_)
    · obtain ⟨k, rfl⟩ : ∃ m, k = m + 1 := ⟨k - 1, by have := of_decide_eq_true hc1; omega⟩
      rw [show (((k + 1 : Nat) : Int) - 1) = ((k : Nat) : Int) from by omega]
      refine C_skip (C_seq (C_block (C_seq ?_)))
      refine C_regionH H (by kernel_rfl) ?_
      refine HY 0 rfl ((hsub (.cons _ (.refl _)))) rfl (y_move rfl) ?_
      refine HY 1 rfl ((hsub (.cons _ (.refl _)))) rfl (y_move rfl) ?_
      refine HY 2 rfl ((hsub (.cons _ (.refl _)))) rfl (y_move rfl) ?_
      refine HY 3 rfl ((hsub (.cons _ (.refl _)))) rfl (y_move rfl) ?_
      refine HY 4 rfl ((hsub (.cons _ (.refl _)))) rfl (y_move rfl) ?_
      refine HY 5 rfl ((hsub (.cons _ (.refl _)))) rfl (y_add rfl rfl (show _ = ((a + k : Nat) : Int) from by rw [wi64 (by omega) (by omega)]; omega)) ?_
      refine HY 6 rfl ((hsub (.cons _ (.refl _)))) rfl (y_move rfl) ?_
      refine HY 7 rfl ((hsub (.cons _ (.refl _)))) rfl (y_move rfl) ?_
      refine HY 8 rfl ((hsub (.cons _ (.refl _)))) rfl (y_move rfl) ?_
      refine HY 9 rfl ((hsub (.cons _ (.refl _)))) rfl (y_add rfl rfl (show _ = ((a + k : Nat) : Int) from by rw [wi64 (by omega) (by omega)]; omega)) ?_
      refine HY 10 rfl ((hsub (.cons _ (.refl _)))) rfl (y_indexS rfl rfl Try.underlying33 sz_48 (by omega) (by omega) (ix0 ((a + k)))) ?_
      refine HY 12 rfl ((hsub (.cons _ (.refl _)))) rfl (y_move rfl) ?_
      refine HY 13 rfl ((hsub (.cons _ (.refl _)))) rfl (y_move rfl) ?_
      refine HY 14 rfl ((hsub (.cons _ (.refl _)))) rfl (y_indexS rfl rfl Try.underlying33 sz_48 (by omega) (by omega) (ix0 (a))) ?_
      refine H_two 11 15 rfl rfl (by kernel_rfl) rfl rfl ?_ ?_
      · refine op_y (y_load rfl ag_48 (sees 0 0 rfl) (us_at (by omega))) rfl ?_
        refine ⟨(hsub (.cons _ (.refl _))), ?_⟩
        refine H_one 15 rfl (by kernel_rfl) rfl (op_y (y_load rfl ag_48 (sees 0 0 rfl) (us_at (by omega))) rfl ?_)
        refine ⟨(hsub (.cons _ (.refl _))), ?_⟩
        refine HY 16 rfl ((hsub (.cons _ (.refl _)))) rfl (y_indexS rfl rfl Try.underlying33 sz_48 (by omega) (by omega) (ix0 (a))) ?_
        refine H_one 17 rfl (by kernel_rfl) rfl (op_store1 0 0 rfl rfl rfl sz_48 rfl (us_lt (by omega)) ?_)
        refine ⟨(hsub (.cons _ (.refl _))), ?_⟩
        refine HY 18 rfl ((hsub (.cons _ (.refl _)))) rfl (y_indexS rfl rfl Try.underlying33 sz_48 (by omega) (by omega) (ix0 ((a + k)))) ?_
        refine H_one 19 rfl (by kernel_rfl) rfl (op_store1 0 0 rfl rfl rfl sz_48 rfl (by rw [List.length_set]; exact us_lt (by omega)) ?_)
        refine ⟨(hsub (.cons _ (.refl _))), ?_⟩
        refine H_done (by kernel_rfl) ?_
        rw [us_swp (by omega) (by omega)]
        refine C_region (LY rfl (y_move rfl) (LY rfl (y_move rfl) (LY rfl (y_move rfl) (LY rfl (y_move rfl) ?_))))
        refine L_op rfl (op_call rfl rfl (fun a w => Try.call96 a w) rfl ?_)
        refine (sift_u (Go.Sort.swp d2 a (a + k)) (by first | exact hs1 | (rw [swp_size]; exact hs2)) hn 0 k a (by omega) (by omega)).mono ?_
        rintro _ _ ⟨rfl, rfl⟩
        refine ⟨_, rfl, ?_⟩
        refine L_nil (C_region (LY rfl (y_move rfl) ?_))
        refine LY rfl (y_sub rfl rfl (show _ = ((k : Nat) : Int) - 1 from by rw [wi64 (by omega) (by omega)])) ?_
        refine LY rfl (y_assign rfl) (L_nil ?_)
        exact ⟨(Go.Sort.siftDown ltN k a 0 (Go.Sort.swp d2 a (a + k)), k), ⟨by simp only; rw [sd_size _ _ _ _ _ (Nat.le_refl _), swp_size]; exact hs2, by simp only; omega, by simp only; rw [← hr2]; rfl⟩, by simp only; omega, ⟨rfl, rfl, rfl, rfl, rfl, trivial⟩, ((hsub (.cons_cons _ (.refl _))).trans (hsub_pick [0] rfl))⟩
      · refine op_y (y_load rfl ag_48 (sees 0 0 rfl) (us_at (by omega))) rfl ?_
        refine ⟨(hsub (.cons _ (.refl _))), ?_⟩
        refine H_one 11 rfl (by kernel_rfl) rfl (op_y (y_load rfl ag_48 (sees 0 0 rfl) (us_at (by omega))) rfl ?_)
        refine ⟨(hsub (.cons _ (.refl _))), ?_⟩
        refine HY 16 rfl ((hsub (.cons _ (.refl _)))) rfl (y_indexS rfl rfl Try.underlying33 sz_48 (by omega) (by omega) (ix0 (a))) ?_
        refine H_one 17 rfl (by kernel_rfl) rfl (op_store1 0 0 rfl rfl rfl sz_48 rfl (us_lt (by omega)) ?_)
        refine ⟨(hsub (.cons _ (.refl _))), ?_⟩
        refine HY 18 rfl ((hsub (.cons _ (.refl _)))) rfl (y_indexS rfl rfl Try.underlying33 sz_48 (by omega) (by omega) (ix0 ((a + k)))) ?_
        refine H_one 19 rfl (by kernel_rfl) rfl (op_store1 0 0 rfl rfl rfl sz_48 rfl (by rw [List.length_set]; exact us_lt (by omega)) ?_)
        refine ⟨(hsub (.cons _ (.refl _))), ?_⟩
        refine H_done (by kernel_rfl) ?_
        rw [us_swp (by omega) (by omega)]
        refine C_region (LY rfl (y_move rfl) (LY rfl (y_move rfl) (LY rfl (y_move rfl) (LY rfl (y_move rfl) ?_))))
        refine L_op rfl (op_call rfl rfl (fun a w => Try.call96 a w) rfl ?_)
        refine (sift_u (Go.Sort.swp d2 a (a + k)) (by first | exact hs1 | (rw [swp_size]; exact hs2)) hn 0 k a (by omega) (by omega)).mono ?_
        rintro _ _ ⟨rfl, rfl⟩
        refine ⟨_, rfl, ?_⟩
        refine L_nil (C_region (LY rfl (y_move rfl) ?_))
        refine LY rfl (y_sub rfl rfl (show _ = ((k : Nat) : Int) - 1 from by rw [wi64 (by omega) (by omega)])) ?_
        refine LY rfl (y_assign rfl) (L_nil ?_)
        exact ⟨(Go.Sort.siftDown ltN k a 0 (Go.Sort.swp d2 a (a + k)), k), ⟨by simp only; rw [sd_size _ _ _ _ _ (Nat.le_refl _), swp_size]; exact hs2, by simp only; omega, by simp only; rw [← hr2]; rfl⟩, by simp only; omega, ⟨rfl, rfl, rfl, rfl, rfl, trivial⟩, ((hsub (.cons_cons _ (.refl _))).trans (hsub_pick [0] rfl))⟩
    · obtain rfl : k = 0 := by have := of_decide_eq_false hc1; omega
      refine C_exit ?_
      refine B_end rv_nil ((hsub (.cons_cons _ (.refl _))).trans (hsub_pick [0] rfl)) ?_
      refine ⟨rfl, ?_⟩
      rw [← hr2]
      rfl

end Go.Proofs.Ytighbhplfjjgpaa

/- walks (own work; the walks' lines by a program of this repo). -/
set_option linter.unusedVariables false
set_option linter.unusedSimpArgs false
set_option maxRecDepth 20000
namespace Go.Proofs.Ytighbhplfjjgpaa
open Go.Sl
attribute [local irreducible] BodyQ WpC WpL WpS WpH OpW FnS



set_option maxHeartbeats 2000000 in

theorem part_u {w0 : World} {H : Hp} {sb n cap : Nat} {sp : List Value} (d : Array Nat) (hd : d.size = n) (hn : n < 4611686018427387904) (a b pivot : Nat) (hap : a ≤ pivot) (hpb : pivot < b) (hb : b ≤ n) : FnS Try.prog w0 91 #[(.slice (some ⟨sb, 0, none⟩) n cap), .int .i64 ((a : Nat) : Int), .int .i64 ((b : Nat) : Int), .int .i64 ((pivot : Nat) : Int)] (useg 48 sb d sp :: H) (fun e H' => e = .returned (.tuple #[.int .i64 ((Go.Sort.partition ltN d a b pivot).1 : Int), .bool (Go.Sort.partition ltN d a b pivot).2.1]) ∧ H' = useg 48 sb (Go.Sort.partition ltN d a b pivot).2.2 sp :: H) := by
  refine FnS_intro (n := 168) (rs := [.tmp 8, .tmp 9]) (vs := [(.slice (some ⟨sb, 0, none⟩) n cap), .int .i64 ((a : Nat) : Int), .int .i64 ((b : Nat) : Int), .int .i64 ((pivot : Nat) : Int)]) Try.func91 rfl Try.ntmps91 rfl rfl ?_
  refine C_seq (C_region (LY rfl (y_assign rfl) (LY rfl (y_assign rfl) (L_nil (C_seq ?_)))))
  refine C_regionH H (by kernel_rfl) ?_
  refine HY 0 rfl ((hsub (.cons _ (.refl _)))) rfl (y_move rfl) ?_
  refine HY 1 rfl ((hsub (.cons _ (.refl _)))) rfl (y_move rfl) ?_
  refine HY 2 rfl ((hsub (.cons _ (.refl _)))) rfl (y_move rfl) ?_
  refine HY 3 rfl ((hsub (.cons _ (.refl _)))) rfl (y_move rfl) ?_
  refine HY 4 rfl ((hsub (.cons _ (.refl _)))) rfl (y_move rfl) ?_
  refine HY 5 rfl ((hsub (.cons _ (.refl _)))) rfl (y_move rfl) ?_
  refine HY 6 rfl ((hsub (.cons _ (.refl _)))) rfl (y_indexS rfl rfl Try.underlying33 sz_48 (by omega) (by omega) (ix0 (pivot))) ?_
  refine HY 8 rfl ((hsub (.cons _ (.refl _)))) rfl (y_move rfl) ?_
  refine HY 9 rfl ((hsub (.cons _ (.refl _)))) rfl (y_move rfl) ?_
  refine HY 10 rfl ((hsub (.cons _ (.refl _)))) rfl (y_indexS rfl rfl Try.underlying33 sz_48 (by omega) (by omega) (ix0 (a))) ?_
  refine H_two 7 11 rfl rfl (by kernel_rfl) rfl rfl ?_ ?_
  · refine op_y (y_load rfl ag_48 (sees 0 0 rfl) (us_at (by omega))) rfl ?_
    refine ⟨(hsub (.cons _ (.refl _))), ?_⟩
    refine H_one 11 rfl (by kernel_rfl) rfl (op_y (y_load rfl ag_48 (sees 0 0 rfl) (us_at (by omega))) rfl ?_)
    refine ⟨(hsub (.cons _ (.refl _))), ?_⟩
    refine HY 12 rfl ((hsub (.cons _ (.refl _)))) rfl (y_indexS rfl rfl Try.underlying33 sz_48 (by omega) (by omega) (ix0 (a))) ?_
    refine H_one 13 rfl (by kernel_rfl) rfl (op_store1 0 0 rfl rfl rfl sz_48 rfl (us_lt (by omega)) ?_)
    refine ⟨(hsub (.cons _ (.refl _))), ?_⟩
    refine HY 14 rfl ((hsub (.cons _ (.refl _)))) rfl (y_indexS rfl rfl Try.underlying33 sz_48 (by omega) (by omega) (ix0 (pivot))) ?_
    refine H_one 15 rfl (by kernel_rfl) rfl (op_store1 0 0 rfl rfl rfl sz_48 rfl (by rw [List.length_set]; exact us_lt (by omega)) ?_)
    refine ⟨(hsub (.cons _ (.refl _))), ?_⟩
    refine H_done (by kernel_rfl) ?_
    rw [us_swp (by omega) (by omega)]
    obtain ⟨d1, hd1⟩ : ∃ y, y = Go.Sort.swp d a pivot := ⟨_, rfl⟩
    rw [← hd1]
    have hsd1 : d1.size = n := by rw [hd1, swp_size]; omega
    refine C_seq (C_region (LY rfl (y_move rfl) ?_))
    refine LY rfl (y_add rfl rfl (show _ = ((a + 1 : Nat) : Int) from by rw [wi64 (by omega) (by omega)]; omega)) ?_
    refine LY rfl (y_move rfl) ?_
    refine LY rfl (y_sub rfl rfl (show _ = ((b - 1 : Nat) : Int) from by rw [wi64 (by omega) (by omega)]; omega)) ?_
    refine LY rfl (y_assign rfl) (LY rfl (y_assign rfl) (L_nil ?_))
    refine C_cutG (ι := Nat) (fun t => a < t ∧ t ≤ b ∧ (a + 1) ≤ t ∧ Go.Sort.scanUp (upP a d1) d1 (b - 1) (a + 1) = t) (fun t => [(0, (.slice (some ⟨sb, 0, none⟩) n cap)), (1, .int .i64 ((a : Nat) : Int)), (2, .int .i64 ((b : Nat) : Int)), (10, .int .i64 ((t : Nat) : Int)), (11, .int .i64 (((b - 1) : Nat) : Int))]) (fun t => useg 48 sb d1 sp :: H) ?_ (fun t ht => ?_)
    · refine C_block ?_
      refine C_loop (ι := Nat) (fun t => [(0, (.slice (some ⟨sb, 0, none⟩) n cap)), (1, .int .i64 ((a : Nat) : Int)), (2, .int .i64 ((b : Nat) : Int)), (10, .int .i64 ((t : Nat) : Int)), (11, .int .i64 (((b - 1) : Nat) : Int))]) (fun t => useg 48 sb d1 sp :: H) (fun t => a < t ∧ t ≤ b ∧ (a + 1) ≤ t ∧ Go.Sort.scanUp (upP a d1) d1 (b - 1) t = Go.Sort.scanUp (upP a d1) d1 (b - 1) (a + 1)) (fun t => (b - 1) + 1 - t) (a + 1) (by refine ⟨by omega, by omega, by omega, rfl⟩ <;> omega) ⟨rfl, rfl, rfl, rfl, rfl, trivial⟩ ((hsub (.cons_cons _ (.refl _))).trans (hsub_pick [0] rfl)) (fun t ht => ?_)
      obtain ⟨ht1, ht2, ht3, hts⟩ := ht
      refine C_seq (C_seq ?_)
      refine C_regionH0 (by kernel_rfl) ?_
      refine HY 0 rfl (HSub.refl _) rfl (y_move rfl) ?_
      refine HY 1 rfl (HSub.refl _) rfl (y_move rfl) ?_
      refine HY 2 rfl (HSub.refl _) rfl (y_leq rfl rfl) ?_
      refine HY 3 rfl (HSub.refl _) rfl (y_move rfl) ?_
      refine H_case 33 rfl (fun hg3_4 => ?_) (fun hg3_4 => ?_)
      · have hle : t ≤ (b - 1) := by have := of_decide_eq_true hg3_4; omega
        refine HY 4 rfl (HSub.refl _) rfl (y_move rfl) ?_
        refine HY 5 rfl (HSub.refl _) rfl (y_move rfl) ?_
        refine HY 6 rfl (HSub.refl _) rfl (y_indexS rfl rfl Try.underlying33 sz_48 (by omega) (by omega) (ix0 (t))) ?_
        refine HY 7 rfl (HSub.refl _) rfl (y_load rfl ag_48 (sees 0 0 rfl) (us_at (by omega))) ?_
        refine HY 8 rfl (HSub.refl _) rfl (y_move rfl) ?_
        refine HY 9 rfl (HSub.refl _) rfl (y_move rfl) ?_
        refine HY 10 rfl (HSub.refl _) rfl (y_indexS rfl rfl Try.underlying33 sz_48 (by omega) (by omega) (ix0 (a))) ?_
        refine HY 11 rfl (HSub.refl _) rfl (y_load rfl ag_48 (sees 0 0 rfl) (us_at (by omega))) ?_
        refine H_one 12 rfl (by kernel_rfl) rfl (op_call rfl rfl (fun a w => Try.call89 a w) rfl ?_)
        refine (less_u (d1[t]!) (d1[a]!)).mono ?_
        rintro _ _ ⟨rfl, e⟩
        obtain rfl := e.symm
        clear e
        refine ⟨_, rfl, ?_⟩
        refine ⟨HSub.refl _, ?_⟩
        refine HY 13 rfl (HSub.refl _) rfl (y_pick_t rfl rfl) ?_
        refine H_done (by kernel_rfl) ?_
        refine C_cond rfl (fun hc0 => ?_) (fun hc0 => ?_)
        · have hpt : (upP a d1) d1[t]! = true := hc0
          refine C_skip (C_block (C_region (LY rfl (y_move rfl) ?_)))
          refine LY rfl (y_add rfl rfl (show _ = ((t + 1 : Nat) : Int) from by rw [wi64 (by omega) (by omega)]; omega)) ?_
          refine LY rfl (y_assign rfl) (L_nil ?_)
          exact ⟨t + 1, ⟨by omega, by omega, by omega, by rw [← hts, su_go hle hpt]⟩, by omega, ⟨rfl, rfl, rfl, rfl, rfl, trivial⟩, ((hsub (.cons_cons _ (.refl _))).trans (hsub_pick [0] rfl))⟩
        · have hfin := hts.symm.trans (su_stop (p := (upP a d1)) (d := d1) (.inr hc0))
          refine C_exit ?_
          exact ⟨t, ⟨ht1, ht2, ht3, hfin⟩, ⟨rfl, rfl, rfl, rfl, rfl, trivial⟩, ((hsub (.cons_cons _ (.refl _))).trans (hsub_pick [0] rfl))⟩
      · have hle : ¬ t ≤ (b - 1) := by have := of_decide_eq_false hg3_4; omega
        have hfin := hts.symm.trans (su_stop (p := (upP a d1)) (d := d1) (.inl hle))
        refine HK 4 rfl (HSub.refl _) rfl ?_
        refine HK 5 rfl (HSub.refl _) rfl ?_
        refine HK 6 rfl (HSub.refl _) rfl ?_
        refine HK 7 rfl (HSub.refl _) rfl ?_
        refine HK 8 rfl (HSub.refl _) rfl ?_
        refine HK 9 rfl (HSub.refl _) rfl ?_
        refine HK 10 rfl (HSub.refl _) rfl ?_
        refine HK 11 rfl (HSub.refl _) rfl ?_
        refine HK 12 rfl (HSub.refl _) rfl ?_
        refine HY 13 rfl (HSub.refl _) rfl (y_pick_f rfl rfl) ?_
        refine H_done (by kernel_rfl) ?_
        refine C_cond_f rfl (C_exit ?_)
        exact ⟨t, ⟨ht1, ht2, ht3, hfin⟩, ⟨rfl, rfl, rfl, rfl, rfl, trivial⟩, ((hsub (.cons_cons _ (.refl _))).trans (hsub_pick [0] rfl))⟩
    · rename Nat => i
      obtain ⟨qi0, qi1, qi2, hi⟩ := ht
      refine C_cutG (ι := Nat) (fun t => t < b ∧ t ≤ (b - 1) ∧ Go.Sort.scanDown (dnP a d1) d1 i (b - 1) = t) (fun t => [(0, (.slice (some ⟨sb, 0, none⟩) n cap)), (1, .int .i64 ((a : Nat) : Int)), (2, .int .i64 ((b : Nat) : Int)), (10, .int .i64 ((i : Nat) : Int)), (11, .int .i64 ((t : Nat) : Int))]) (fun t => useg 48 sb d1 sp :: H) ?_ (fun t ht => ?_)
      · refine C_block ?_
        refine C_loop (ι := Nat) (fun t => [(0, (.slice (some ⟨sb, 0, none⟩) n cap)), (1, .int .i64 ((a : Nat) : Int)), (2, .int .i64 ((b : Nat) : Int)), (10, .int .i64 ((i : Nat) : Int)), (11, .int .i64 ((t : Nat) : Int))]) (fun t => useg 48 sb d1 sp :: H) (fun t => t < b ∧ t ≤ (b - 1) ∧ Go.Sort.scanDown (dnP a d1) d1 i t = Go.Sort.scanDown (dnP a d1) d1 i (b - 1)) (fun t => t) (b - 1) (by refine ⟨by omega, by omega, rfl⟩ <;> omega) ⟨rfl, rfl, rfl, rfl, rfl, trivial⟩ ((hsub (.cons_cons _ (.refl _))).trans (hsub_pick [0] rfl)) (fun t ht => ?_)
        obtain ⟨ht1, ht2, hts⟩ := ht
        refine C_seq (C_seq ?_)
        refine C_regionH0 (by kernel_rfl) ?_
        refine HY 0 rfl (HSub.refl _) rfl (y_move rfl) ?_
        refine HY 1 rfl (HSub.refl _) rfl (y_move rfl) ?_
        refine HY 2 rfl (HSub.refl _) rfl (y_leq rfl rfl) ?_
        refine HY 3 rfl (HSub.refl _) rfl (y_move rfl) ?_
        refine H_case 49 rfl (fun hg5_4 => ?_) (fun hg5_4 => ?_)
        · have hle : i ≤ t := by have := of_decide_eq_true hg5_4; omega
          refine HY 4 rfl (HSub.refl _) rfl (y_move rfl) ?_
          refine HY 5 rfl (HSub.refl _) rfl (y_move rfl) ?_
          refine HY 6 rfl (HSub.refl _) rfl (y_indexS rfl rfl Try.underlying33 sz_48 (by omega) (by omega) (ix0 (t))) ?_
          refine HY 7 rfl (HSub.refl _) rfl (y_load rfl ag_48 (sees 0 0 rfl) (us_at (by omega))) ?_
          refine HY 8 rfl (HSub.refl _) rfl (y_move rfl) ?_
          refine HY 9 rfl (HSub.refl _) rfl (y_move rfl) ?_
          refine HY 10 rfl (HSub.refl _) rfl (y_indexS rfl rfl Try.underlying33 sz_48 (by omega) (by omega) (ix0 (a))) ?_
          refine HY 11 rfl (HSub.refl _) rfl (y_load rfl ag_48 (sees 0 0 rfl) (us_at (by omega))) ?_
          refine H_one 12 rfl (by kernel_rfl) rfl (op_call rfl rfl (fun a w => Try.call89 a w) rfl ?_)
          refine (less_u (d1[t]!) (d1[a]!)).mono ?_
          rintro _ _ ⟨rfl, e⟩
          obtain rfl := e.symm
          clear e
          refine ⟨_, rfl, ?_⟩
          refine ⟨HSub.refl _, ?_⟩
          refine HY 13 rfl (HSub.refl _) rfl (y_not rfl) ?_
          refine HY 14 rfl (HSub.refl _) rfl (y_pick_t rfl rfl) ?_
          refine H_done (by kernel_rfl) ?_
          refine C_cond rfl (fun hc1 => ?_) (fun hc1 => ?_)
          · have hpt : (dnP a d1) d1[t]! = true := hc1
            refine C_skip (C_block (C_region (LY rfl (y_move rfl) ?_)))
            refine LY rfl (y_sub rfl rfl (show _ = ((t - 1 : Nat) : Int) from by rw [wi64 (by omega) (by omega)]; omega)) ?_
            refine LY rfl (y_assign rfl) (L_nil ?_)
            exact ⟨t - 1, ⟨by omega, by omega, by rw [← hts, sn_go hle (by omega) hpt]⟩, by omega, ⟨rfl, rfl, rfl, rfl, rfl, trivial⟩, ((hsub (.cons_cons _ (.refl _))).trans (hsub_pick [0] rfl))⟩
          · have hfin := hts.symm.trans (sn_stop (p := (dnP a d1)) (d := d1) (.inr hc1))
            refine C_exit ?_
            exact ⟨t, ⟨ht1, ht2, hfin⟩, ⟨rfl, rfl, rfl, rfl, rfl, trivial⟩, ((hsub (.cons_cons _ (.refl _))).trans (hsub_pick [0] rfl))⟩
        · have hle : ¬ i ≤ t := by have := of_decide_eq_false hg5_4; omega
          have hfin := hts.symm.trans (sn_stop (p := (dnP a d1)) (d := d1) (.inl hle))
          refine HK 4 rfl (HSub.refl _) rfl ?_
          refine HK 5 rfl (HSub.refl _) rfl ?_
          refine HK 6 rfl (HSub.refl _) rfl ?_
          refine HK 7 rfl (HSub.refl _) rfl ?_
          refine HK 8 rfl (HSub.refl _) rfl ?_
          refine HK 9 rfl (HSub.refl _) rfl ?_
          refine HK 10 rfl (HSub.refl _) rfl ?_
          refine HK 11 rfl (HSub.refl _) rfl ?_
          refine HK 12 rfl (HSub.refl _) rfl ?_
          refine HK 13 rfl (HSub.refl _) rfl ?_
          refine HY 14 rfl (HSub.refl _) rfl (y_pick_f rfl rfl) ?_
          refine H_done (by kernel_rfl) ?_
          refine C_cond_f rfl (C_exit ?_)
          exact ⟨t, ⟨ht1, ht2, hfin⟩, ⟨rfl, rfl, rfl, rfl, rfl, trivial⟩, ((hsub (.cons_cons _ (.refl _))).trans (hsub_pick [0] rfl))⟩
      · rename Nat => j
        obtain ⟨qj0, qj1, hj⟩ := ht
        refine C_seq (C_seq (C_region (LY rfl (y_move rfl) (LY rfl (y_move rfl) ?_))))
        refine LY rfl (y_gtr rfl rfl) ?_
        refine L_nil ?_
        refine C_cond rfl (fun hc2 => ?_) (fun hc2 => ?_)
        · replace hc2 : j < i := by have := of_decide_eq_true hc2; omega
          refine C_seq ?_
          refine C_regionH H (by kernel_rfl) ?_
          refine HY 0 rfl ((hsub (.cons _ (.refl _)))) rfl (y_move rfl) ?_
          refine HY 1 rfl ((hsub (.cons _ (.refl _)))) rfl (y_move rfl) ?_
          refine HY 2 rfl ((hsub (.cons _ (.refl _)))) rfl (y_move rfl) ?_
          refine HY 3 rfl ((hsub (.cons _ (.refl _)))) rfl (y_move rfl) ?_
          refine HY 4 rfl ((hsub (.cons _ (.refl _)))) rfl (y_move rfl) ?_
          refine HY 5 rfl ((hsub (.cons _ (.refl _)))) rfl (y_move rfl) ?_
          refine HY 6 rfl ((hsub (.cons _ (.refl _)))) rfl (y_indexS rfl rfl Try.underlying33 sz_48 (by omega) (by omega) (ix0 (a))) ?_
          refine HY 8 rfl ((hsub (.cons _ (.refl _)))) rfl (y_move rfl) ?_
          refine HY 9 rfl ((hsub (.cons _ (.refl _)))) rfl (y_move rfl) ?_
          refine HY 10 rfl ((hsub (.cons _ (.refl _)))) rfl (y_indexS rfl rfl Try.underlying33 sz_48 (by omega) (by omega) (ix0 (j))) ?_
          refine H_two 7 11 rfl rfl (by kernel_rfl) rfl rfl ?_ ?_
          · refine op_y (y_load rfl ag_48 (sees 0 0 rfl) (us_at (by omega))) rfl ?_
            refine ⟨(hsub (.cons _ (.refl _))), ?_⟩
            refine H_one 11 rfl (by kernel_rfl) rfl (op_y (y_load rfl ag_48 (sees 0 0 rfl) (us_at (by omega))) rfl ?_)
            refine ⟨(hsub (.cons _ (.refl _))), ?_⟩
            refine HY 12 rfl ((hsub (.cons _ (.refl _)))) rfl (y_indexS rfl rfl Try.underlying33 sz_48 (by omega) (by omega) (ix0 (j))) ?_
            refine H_one 13 rfl (by kernel_rfl) rfl (op_store1 0 0 rfl rfl rfl sz_48 rfl (us_lt (by omega)) ?_)
            refine ⟨(hsub (.cons _ (.refl _))), ?_⟩
            refine HY 14 rfl ((hsub (.cons _ (.refl _)))) rfl (y_indexS rfl rfl Try.underlying33 sz_48 (by omega) (by omega) (ix0 (a))) ?_
            refine H_one 15 rfl (by kernel_rfl) rfl (op_store1 0 0 rfl rfl rfl sz_48 rfl (by rw [List.length_set]; exact us_lt (by omega)) ?_)
            refine ⟨(hsub (.cons _ (.refl _))), ?_⟩
            refine H_done (by kernel_rfl) ?_
            rw [us_swp (by omega) (by omega)]
            refine C_seq (C_region (LY rfl (y_move rfl) (LY rfl (y_assign rfl) (LY rfl (y_assign rfl) (L_nil (C_ret ?_))))))
            refine B_ret (rv_tmp rfl (rv_tmp rfl rv_nil)) ((hsub (.cons_cons _ (.refl _))).trans (hsub_pick [0] rfl)) ?_
            first
            | (rw [pt_t hd1 hi hj hc2]; exact ⟨rfl, rfl⟩)
            | (rw [pt_f (j2 := v2) (d2 := d3) hd1 hi hj hc2 (by rw [← hd2, ← hr3]; exact pl_stop hu2 hv2 hc5)]; exact ⟨rfl, rfl⟩)
          · refine op_y (y_load rfl ag_48 (sees 0 0 rfl) (us_at (by omega))) rfl ?_
            refine ⟨(hsub (.cons _ (.refl _))), ?_⟩
            refine H_one 7 rfl (by kernel_rfl) rfl (op_y (y_load rfl ag_48 (sees 0 0 rfl) (us_at (by omega))) rfl ?_)
            refine ⟨(hsub (.cons _ (.refl _))), ?_⟩
            refine HY 12 rfl ((hsub (.cons _ (.refl _)))) rfl (y_indexS rfl rfl Try.underlying33 sz_48 (by omega) (by omega) (ix0 (j))) ?_
            refine H_one 13 rfl (by kernel_rfl) rfl (op_store1 0 0 rfl rfl rfl sz_48 rfl (us_lt (by omega)) ?_)
            refine ⟨(hsub (.cons _ (.refl _))), ?_⟩
            refine HY 14 rfl ((hsub (.cons _ (.refl _)))) rfl (y_indexS rfl rfl Try.underlying33 sz_48 (by omega) (by omega) (ix0 (a))) ?_
            refine H_one 15 rfl (by kernel_rfl) rfl (op_store1 0 0 rfl rfl rfl sz_48 rfl (by rw [List.length_set]; exact us_lt (by omega)) ?_)
            refine ⟨(hsub (.cons _ (.refl _))), ?_⟩
            refine H_done (by kernel_rfl) ?_
            rw [us_swp (by omega) (by omega)]
            refine C_seq (C_region (LY rfl (y_move rfl) (LY rfl (y_assign rfl) (LY rfl (y_assign rfl) (L_nil (C_ret ?_))))))
            refine B_ret (rv_tmp rfl (rv_tmp rfl rv_nil)) ((hsub (.cons_cons _ (.refl _))).trans (hsub_pick [0] rfl)) ?_
            first
            | (rw [pt_t hd1 hi hj hc2]; exact ⟨rfl, rfl⟩)
            | (rw [pt_f (j2 := v2) (d2 := d3) hd1 hi hj hc2 (by rw [← hd2, ← hr3]; exact pl_stop hu2 hv2 hc5)]; exact ⟨rfl, rfl⟩)
        · replace hc2 : ¬ j < i := by have := of_decide_eq_false hc2; omega
          refine C_skip (C_seq ?_)
          refine C_regionH H (by kernel_rfl) ?_
          refine HY 0 rfl ((hsub (.cons _ (.refl _)))) rfl (y_move rfl) ?_
          refine HY 1 rfl ((hsub (.cons _ (.refl _)))) rfl (y_move rfl) ?_
          refine HY 2 rfl ((hsub (.cons _ (.refl _)))) rfl (y_move rfl) ?_
          refine HY 3 rfl ((hsub (.cons _ (.refl _)))) rfl (y_move rfl) ?_
          refine HY 4 rfl ((hsub (.cons _ (.refl _)))) rfl (y_move rfl) ?_
          refine HY 5 rfl ((hsub (.cons _ (.refl _)))) rfl (y_move rfl) ?_
          refine HY 6 rfl ((hsub (.cons _ (.refl _)))) rfl (y_indexS rfl rfl Try.underlying33 sz_48 (by omega) (by omega) (ix0 (j))) ?_
          refine HY 8 rfl ((hsub (.cons _ (.refl _)))) rfl (y_move rfl) ?_
          refine HY 9 rfl ((hsub (.cons _ (.refl _)))) rfl (y_move rfl) ?_
          refine HY 10 rfl ((hsub (.cons _ (.refl _)))) rfl (y_indexS rfl rfl Try.underlying33 sz_48 (by omega) (by omega) (ix0 (i))) ?_
          refine H_two 7 11 rfl rfl (by kernel_rfl) rfl rfl ?_ ?_
          · refine op_y (y_load rfl ag_48 (sees 0 0 rfl) (us_at (by omega))) rfl ?_
            refine ⟨(hsub (.cons _ (.refl _))), ?_⟩
            refine H_one 11 rfl (by kernel_rfl) rfl (op_y (y_load rfl ag_48 (sees 0 0 rfl) (us_at (by omega))) rfl ?_)
            refine ⟨(hsub (.cons _ (.refl _))), ?_⟩
            refine HY 12 rfl ((hsub (.cons _ (.refl _)))) rfl (y_indexS rfl rfl Try.underlying33 sz_48 (by omega) (by omega) (ix0 (i))) ?_
            refine H_one 13 rfl (by kernel_rfl) rfl (op_store1 0 0 rfl rfl rfl sz_48 rfl (us_lt (by omega)) ?_)
            refine ⟨(hsub (.cons _ (.refl _))), ?_⟩
            refine HY 14 rfl ((hsub (.cons _ (.refl _)))) rfl (y_indexS rfl rfl Try.underlying33 sz_48 (by omega) (by omega) (ix0 (j))) ?_
            refine H_one 15 rfl (by kernel_rfl) rfl (op_store1 0 0 rfl rfl rfl sz_48 rfl (by rw [List.length_set]; exact us_lt (by omega)) ?_)
            refine ⟨(hsub (.cons _ (.refl _))), ?_⟩
            refine H_done (by kernel_rfl) ?_
            rw [us_swp (by omega) (by omega)]
            obtain ⟨d2, hd2⟩ : ∃ y, y = Go.Sort.swp d1 i j := ⟨_, rfl⟩
            rw [← hd2]
            have hsd2 : d2.size = n := by rw [hd2, swp_size]; omega
            refine C_seq (C_region (LY rfl (y_move rfl) ?_))
            refine LY rfl (y_add rfl rfl (show _ = ((i + 1 : Nat) : Int) from by rw [wi64 (by omega) (by omega)]; omega)) ?_
            refine LY rfl (y_assign rfl) (L_nil (C_seq (C_region (LY rfl (y_move rfl) ?_))))
            refine LY rfl (y_sub rfl rfl (show _ = ((j - 1 : Nat) : Int) from by rw [wi64 (by omega) (by omega)]; omega)) ?_
            refine LY rfl (y_assign rfl) (L_nil (C_seq (C_block ?_)))
            refine C_loop (ι := Array Nat × Nat × Nat) (fun x => [(0, (.slice (some ⟨sb, 0, none⟩) n cap)), (1, .int .i64 ((a : Nat) : Int)), (2, .int .i64 ((b : Nat) : Int)), (10, .int .i64 ((x.2.1 : Nat) : Int)), (11, .int .i64 ((x.2.2 : Nat) : Int))]) (fun x => useg 48 sb x.1 sp :: H) (fun x => x.1.size = n ∧ a < x.2.1 ∧ x.2.1 ≤ b ∧ x.2.2 < b ∧ Go.Sort.partLoop ltN a x.2.1 x.2.2 x.1 = Go.Sort.partLoop ltN a (i + 1) (j - 1) d2) (fun x => x.2.2 + 1 - x.2.1) (d2, i + 1, j - 1) ⟨hsd2, by simp only; omega, by simp only; omega, by simp only; omega, rfl⟩ ⟨rfl, rfl, rfl, rfl, rfl, trivial⟩ ((hsub (.cons_cons _ (.refl _))).trans (hsub_pick [0] rfl)) (fun x hx => ?_)
            obtain ⟨d3, u, v⟩ := x
            obtain ⟨hs3, hu1, hu2, hv1, hr3⟩ := hx
            try simp only at hs3 hu1 hu2 hv1 hr3
            try dsimp only
            refine C_block ?_
            refine C_cutG (ι := Nat) (fun t => a < t ∧ t ≤ b ∧ u ≤ t ∧ Go.Sort.scanUp (upP a d3) d3 v u = t) (fun t => [(0, (.slice (some ⟨sb, 0, none⟩) n cap)), (1, .int .i64 ((a : Nat) : Int)), (2, .int .i64 ((b : Nat) : Int)), (10, .int .i64 ((t : Nat) : Int)), (11, .int .i64 ((v : Nat) : Int))]) (fun t => useg 48 sb d3 sp :: H) ?_ (fun t ht => ?_)
            · refine C_block ?_
              refine C_loop (ι := Nat) (fun t => [(0, (.slice (some ⟨sb, 0, none⟩) n cap)), (1, .int .i64 ((a : Nat) : Int)), (2, .int .i64 ((b : Nat) : Int)), (10, .int .i64 ((t : Nat) : Int)), (11, .int .i64 ((v : Nat) : Int))]) (fun t => useg 48 sb d3 sp :: H) (fun t => a < t ∧ t ≤ b ∧ u ≤ t ∧ Go.Sort.scanUp (upP a d3) d3 v t = Go.Sort.scanUp (upP a d3) d3 v u) (fun t => v + 1 - t) u (by refine ⟨by omega, by omega, by omega, rfl⟩ <;> omega) ⟨rfl, rfl, rfl, rfl, rfl, trivial⟩ ((hsub (.cons_cons _ (.refl _))).trans (hsub_pick [0] rfl)) (fun t ht => ?_)
              obtain ⟨ht1, ht2, ht3, hts⟩ := ht
              refine C_seq (C_seq ?_)
              refine C_regionH0 (by kernel_rfl) ?_
              refine HY 0 rfl (HSub.refl _) rfl (y_move rfl) ?_
              refine HY 1 rfl (HSub.refl _) rfl (y_move rfl) ?_
              refine HY 2 rfl (HSub.refl _) rfl (y_leq rfl rfl) ?_
              refine HY 3 rfl (HSub.refl _) rfl (y_move rfl) ?_
              refine H_case 102 rfl (fun hg13_4 => ?_) (fun hg13_4 => ?_)
              · have hle : t ≤ v := by have := of_decide_eq_true hg13_4; omega
                refine HY 4 rfl (HSub.refl _) rfl (y_move rfl) ?_
                refine HY 5 rfl (HSub.refl _) rfl (y_move rfl) ?_
                refine HY 6 rfl (HSub.refl _) rfl (y_indexS rfl rfl Try.underlying33 sz_48 (by omega) (by omega) (ix0 (t))) ?_
                refine HY 7 rfl (HSub.refl _) rfl (y_load rfl ag_48 (sees 0 0 rfl) (us_at (by omega))) ?_
                refine HY 8 rfl (HSub.refl _) rfl (y_move rfl) ?_
                refine HY 9 rfl (HSub.refl _) rfl (y_move rfl) ?_
                refine HY 10 rfl (HSub.refl _) rfl (y_indexS rfl rfl Try.underlying33 sz_48 (by omega) (by omega) (ix0 (a))) ?_
                refine HY 11 rfl (HSub.refl _) rfl (y_load rfl ag_48 (sees 0 0 rfl) (us_at (by omega))) ?_
                refine H_one 12 rfl (by kernel_rfl) rfl (op_call rfl rfl (fun a w => Try.call89 a w) rfl ?_)
                refine (less_u (d3[t]!) (d3[a]!)).mono ?_
                rintro _ _ ⟨rfl, e⟩
                obtain rfl := e.symm
                clear e
                refine ⟨_, rfl, ?_⟩
                refine ⟨HSub.refl _, ?_⟩
                refine HY 13 rfl (HSub.refl _) rfl (y_pick_t rfl rfl) ?_
                refine H_done (by kernel_rfl) ?_
                refine C_cond rfl (fun hc3 => ?_) (fun hc3 => ?_)
                · have hpt : (upP a d3) d3[t]! = true := hc3
                  refine C_skip (C_block (C_region (LY rfl (y_move rfl) ?_)))
                  refine LY rfl (y_add rfl rfl (show _ = ((t + 1 : Nat) : Int) from by rw [wi64 (by omega) (by omega)]; omega)) ?_
                  refine LY rfl (y_assign rfl) (L_nil ?_)
                  exact ⟨t + 1, ⟨by omega, by omega, by omega, by rw [← hts, su_go hle hpt]⟩, by omega, ⟨rfl, rfl, rfl, rfl, rfl, trivial⟩, ((hsub (.cons_cons _ (.refl _))).trans (hsub_pick [0] rfl))⟩
                · have hfin := hts.symm.trans (su_stop (p := (upP a d3)) (d := d3) (.inr hc3))
                  refine C_exit ?_
                  exact ⟨t, ⟨ht1, ht2, ht3, hfin⟩, ⟨rfl, rfl, rfl, rfl, rfl, trivial⟩, ((hsub (.cons_cons _ (.refl _))).trans (hsub_pick [0] rfl))⟩
              · have hle : ¬ t ≤ v := by have := of_decide_eq_false hg13_4; omega
                have hfin := hts.symm.trans (su_stop (p := (upP a d3)) (d := d3) (.inl hle))
                refine HK 4 rfl (HSub.refl _) rfl ?_
                refine HK 5 rfl (HSub.refl _) rfl ?_
                refine HK 6 rfl (HSub.refl _) rfl ?_
                refine HK 7 rfl (HSub.refl _) rfl ?_
                refine HK 8 rfl (HSub.refl _) rfl ?_
                refine HK 9 rfl (HSub.refl _) rfl ?_
                refine HK 10 rfl (HSub.refl _) rfl ?_
                refine HK 11 rfl (HSub.refl _) rfl ?_
                refine HK 12 rfl (HSub.refl _) rfl ?_
                refine HY 13 rfl (HSub.refl _) rfl (y_pick_f rfl rfl) ?_
                refine H_done (by kernel_rfl) ?_
                refine C_cond_f rfl (C_exit ?_)
                exact ⟨t, ⟨ht1, ht2, ht3, hfin⟩, ⟨rfl, rfl, rfl, rfl, rfl, trivial⟩, ((hsub (.cons_cons _ (.refl _))).trans (hsub_pick [0] rfl))⟩
            · rename Nat => u2
              obtain ⟨qu20, qu21, qu22, hu2⟩ := ht
              refine C_cutG (ι := Nat) (fun t => t < b ∧ t ≤ v ∧ Go.Sort.scanDown (dnP a d3) d3 u2 v = t) (fun t => [(0, (.slice (some ⟨sb, 0, none⟩) n cap)), (1, .int .i64 ((a : Nat) : Int)), (2, .int .i64 ((b : Nat) : Int)), (10, .int .i64 ((u2 : Nat) : Int)), (11, .int .i64 ((t : Nat) : Int))]) (fun t => useg 48 sb d3 sp :: H) ?_ (fun t ht => ?_)
              · refine C_block ?_
                refine C_loop (ι := Nat) (fun t => [(0, (.slice (some ⟨sb, 0, none⟩) n cap)), (1, .int .i64 ((a : Nat) : Int)), (2, .int .i64 ((b : Nat) : Int)), (10, .int .i64 ((u2 : Nat) : Int)), (11, .int .i64 ((t : Nat) : Int))]) (fun t => useg 48 sb d3 sp :: H) (fun t => t < b ∧ t ≤ v ∧ Go.Sort.scanDown (dnP a d3) d3 u2 t = Go.Sort.scanDown (dnP a d3) d3 u2 v) (fun t => t) v (by refine ⟨by omega, by omega, rfl⟩ <;> omega) ⟨rfl, rfl, rfl, rfl, rfl, trivial⟩ ((hsub (.cons_cons _ (.refl _))).trans (hsub_pick [0] rfl)) (fun t ht => ?_)
                obtain ⟨ht1, ht2, hts⟩ := ht
                refine C_seq (C_seq ?_)
                refine C_regionH0 (by kernel_rfl) ?_
                refine HY 0 rfl (HSub.refl _) rfl (y_move rfl) ?_
                refine HY 1 rfl (HSub.refl _) rfl (y_move rfl) ?_
                refine HY 2 rfl (HSub.refl _) rfl (y_leq rfl rfl) ?_
                refine HY 3 rfl (HSub.refl _) rfl (y_move rfl) ?_
                refine H_case 118 rfl (fun hg15_4 => ?_) (fun hg15_4 => ?_)
                · have hle : u2 ≤ t := by have := of_decide_eq_true hg15_4; omega
                  refine HY 4 rfl (HSub.refl _) rfl (y_move rfl) ?_
                  refine HY 5 rfl (HSub.refl _) rfl (y_move rfl) ?_
                  refine HY 6 rfl (HSub.refl _) rfl (y_indexS rfl rfl Try.underlying33 sz_48 (by omega) (by omega) (ix0 (t))) ?_
                  refine HY 7 rfl (HSub.refl _) rfl (y_load rfl ag_48 (sees 0 0 rfl) (us_at (by omega))) ?_
                  refine HY 8 rfl (HSub.refl _) rfl (y_move rfl) ?_
                  refine HY 9 rfl (HSub.refl _) rfl (y_move rfl) ?_
                  refine HY 10 rfl (HSub.refl _) rfl (y_indexS rfl rfl Try.underlying33 sz_48 (by omega) (by omega) (ix0 (a))) ?_
                  refine HY 11 rfl (HSub.refl _) rfl (y_load rfl ag_48 (sees 0 0 rfl) (us_at (by omega))) ?_
                  refine H_one 12 rfl (by kernel_rfl) rfl (op_call rfl rfl (fun a w => Try.call89 a w) rfl ?_)
                  refine (less_u (d3[t]!) (d3[a]!)).mono ?_
                  rintro _ _ ⟨rfl, e⟩
                  obtain rfl := e.symm
                  clear e
                  refine ⟨_, rfl, ?_⟩
                  refine ⟨HSub.refl _, ?_⟩
                  refine HY 13 rfl (HSub.refl _) rfl (y_not rfl) ?_
                  refine HY 14 rfl (HSub.refl _) rfl (y_pick_t rfl rfl) ?_
                  refine H_done (by kernel_rfl) ?_
                  refine C_cond rfl (fun hc4 => ?_) (fun hc4 => ?_)
                  · have hpt : (dnP a d3) d3[t]! = true := hc4
                    refine C_skip (C_block (C_region (LY rfl (y_move rfl) ?_)))
                    refine LY rfl (y_sub rfl rfl (show _ = ((t - 1 : Nat) : Int) from by rw [wi64 (by omega) (by omega)]; omega)) ?_
                    refine LY rfl (y_assign rfl) (L_nil ?_)
                    exact ⟨t - 1, ⟨by omega, by omega, by rw [← hts, sn_go hle (by omega) hpt]⟩, by omega, ⟨rfl, rfl, rfl, rfl, rfl, trivial⟩, ((hsub (.cons_cons _ (.refl _))).trans (hsub_pick [0] rfl))⟩
                  · have hfin := hts.symm.trans (sn_stop (p := (dnP a d3)) (d := d3) (.inr hc4))
                    refine C_exit ?_
                    exact ⟨t, ⟨ht1, ht2, hfin⟩, ⟨rfl, rfl, rfl, rfl, rfl, trivial⟩, ((hsub (.cons_cons _ (.refl _))).trans (hsub_pick [0] rfl))⟩
                · have hle : ¬ u2 ≤ t := by have := of_decide_eq_false hg15_4; omega
                  have hfin := hts.symm.trans (sn_stop (p := (dnP a d3)) (d := d3) (.inl hle))
                  refine HK 4 rfl (HSub.refl _) rfl ?_
                  refine HK 5 rfl (HSub.refl _) rfl ?_
                  refine HK 6 rfl (HSub.refl _) rfl ?_
                  refine HK 7 rfl (HSub.refl _) rfl ?_
                  refine HK 8 rfl (HSub.refl _) rfl ?_
                  refine HK 9 rfl (HSub.refl _) rfl ?_
                  refine HK 10 rfl (HSub.refl _) rfl ?_
                  refine HK 11 rfl (HSub.refl _) rfl ?_
                  refine HK 12 rfl (HSub.refl _) rfl ?_
                  refine HK 13 rfl (HSub.refl _) rfl ?_
                  refine HY 14 rfl (HSub.refl _) rfl (y_pick_f rfl rfl) ?_
                  refine H_done (by kernel_rfl) ?_
                  refine C_cond_f rfl (C_exit ?_)
                  exact ⟨t, ⟨ht1, ht2, hfin⟩, ⟨rfl, rfl, rfl, rfl, rfl, trivial⟩, ((hsub (.cons_cons _ (.refl _))).trans (hsub_pick [0] rfl))⟩
              · rename Nat => v2
                obtain ⟨qv20, qv21, hv2⟩ := ht
                refine C_seq (C_seq (C_region (LY rfl (y_move rfl) (LY rfl (y_move rfl) ?_))))
                refine LY rfl (y_gtr rfl rfl) ?_
                refine L_nil ?_
                refine C_cond rfl (fun hc5 => ?_) (fun hc5 => ?_)
                · replace hc5 : v2 < u2 := by have := of_decide_eq_true hc5; omega
                  refine C_exit (C_seq ?_)
                  refine C_regionH H (by kernel_rfl) ?_
                  refine HY 0 rfl ((hsub (.cons _ (.refl _)))) rfl (y_move rfl) ?_
                  refine HY 1 rfl ((hsub (.cons _ (.refl _)))) rfl (y_move rfl) ?_
                  refine HY 2 rfl ((hsub (.cons _ (.refl _)))) rfl (y_move rfl) ?_
                  refine HY 3 rfl ((hsub (.cons _ (.refl _)))) rfl (y_move rfl) ?_
                  refine HY 4 rfl ((hsub (.cons _ (.refl _)))) rfl (y_move rfl) ?_
                  refine HY 5 rfl ((hsub (.cons _ (.refl _)))) rfl (y_move rfl) ?_
                  refine HY 6 rfl ((hsub (.cons _ (.refl _)))) rfl (y_indexS rfl rfl Try.underlying33 sz_48 (by omega) (by omega) (ix0 (a))) ?_
                  refine HY 8 rfl ((hsub (.cons _ (.refl _)))) rfl (y_move rfl) ?_
                  refine HY 9 rfl ((hsub (.cons _ (.refl _)))) rfl (y_move rfl) ?_
                  refine HY 10 rfl ((hsub (.cons _ (.refl _)))) rfl (y_indexS rfl rfl Try.underlying33 sz_48 (by omega) (by omega) (ix0 (v2))) ?_
                  refine H_two 7 11 rfl rfl (by kernel_rfl) rfl rfl ?_ ?_
                  · refine op_y (y_load rfl ag_48 (sees 0 0 rfl) (us_at (by omega))) rfl ?_
                    refine ⟨(hsub (.cons _ (.refl _))), ?_⟩
                    refine H_one 11 rfl (by kernel_rfl) rfl (op_y (y_load rfl ag_48 (sees 0 0 rfl) (us_at (by omega))) rfl ?_)
                    refine ⟨(hsub (.cons _ (.refl _))), ?_⟩
                    refine HY 12 rfl ((hsub (.cons _ (.refl _)))) rfl (y_indexS rfl rfl Try.underlying33 sz_48 (by omega) (by omega) (ix0 (v2))) ?_
                    refine H_one 13 rfl (by kernel_rfl) rfl (op_store1 0 0 rfl rfl rfl sz_48 rfl (us_lt (by omega)) ?_)
                    refine ⟨(hsub (.cons _ (.refl _))), ?_⟩
                    refine HY 14 rfl ((hsub (.cons _ (.refl _)))) rfl (y_indexS rfl rfl Try.underlying33 sz_48 (by omega) (by omega) (ix0 (a))) ?_
                    refine H_one 15 rfl (by kernel_rfl) rfl (op_store1 0 0 rfl rfl rfl sz_48 rfl (by rw [List.length_set]; exact us_lt (by omega)) ?_)
                    refine ⟨(hsub (.cons _ (.refl _))), ?_⟩
                    refine H_done (by kernel_rfl) ?_
                    rw [us_swp (by omega) (by omega)]
                    refine C_seq (C_region (LY rfl (y_move rfl) (LY rfl (y_assign rfl) (LY rfl (y_assign rfl) (L_nil (C_ret ?_))))))
                    refine B_ret (rv_tmp rfl (rv_tmp rfl rv_nil)) ((hsub (.cons_cons _ (.refl _))).trans (hsub_pick [0] rfl)) ?_
                    first
                    | (rw [pt_t hd1 hi hj hc2]; exact ⟨rfl, rfl⟩)
                    | (rw [pt_f (j2 := v2) (d2 := d3) hd1 hi hj hc2 (by rw [← hd2, ← hr3]; exact pl_stop hu2 hv2 hc5)]; exact ⟨rfl, rfl⟩)
                  · refine op_y (y_load rfl ag_48 (sees 0 0 rfl) (us_at (by omega))) rfl ?_
                    refine ⟨(hsub (.cons _ (.refl _))), ?_⟩
                    refine H_one 7 rfl (by kernel_rfl) rfl (op_y (y_load rfl ag_48 (sees 0 0 rfl) (us_at (by omega))) rfl ?_)
                    refine ⟨(hsub (.cons _ (.refl _))), ?_⟩
                    refine HY 12 rfl ((hsub (.cons _ (.refl _)))) rfl (y_indexS rfl rfl Try.underlying33 sz_48 (by omega) (by omega) (ix0 (v2))) ?_
                    refine H_one 13 rfl (by kernel_rfl) rfl (op_store1 0 0 rfl rfl rfl sz_48 rfl (us_lt (by omega)) ?_)
                    refine ⟨(hsub (.cons _ (.refl _))), ?_⟩
                    refine HY 14 rfl ((hsub (.cons _ (.refl _)))) rfl (y_indexS rfl rfl Try.underlying33 sz_48 (by omega) (by omega) (ix0 (a))) ?_
                    refine H_one 15 rfl (by kernel_rfl) rfl (op_store1 0 0 rfl rfl rfl sz_48 rfl (by rw [List.length_set]; exact us_lt (by omega)) ?_)
                    refine ⟨(hsub (.cons _ (.refl _))), ?_⟩
                    refine H_done (by kernel_rfl) ?_
                    rw [us_swp (by omega) (by omega)]
                    refine C_seq (C_region (LY rfl (y_move rfl) (LY rfl (y_assign rfl) (LY rfl (y_assign rfl) (L_nil (C_ret ?_))))))
                    refine B_ret (rv_tmp rfl (rv_tmp rfl rv_nil)) ((hsub (.cons_cons _ (.refl _))).trans (hsub_pick [0] rfl)) ?_
                    first
                    | (rw [pt_t hd1 hi hj hc2]; exact ⟨rfl, rfl⟩)
                    | (rw [pt_f (j2 := v2) (d2 := d3) hd1 hi hj hc2 (by rw [← hd2, ← hr3]; exact pl_stop hu2 hv2 hc5)]; exact ⟨rfl, rfl⟩)
                · replace hc5 : ¬ v2 < u2 := by have := of_decide_eq_false hc5; omega
                  refine C_skip (C_seq ?_)
                  refine C_regionH H (by kernel_rfl) ?_
                  refine HY 0 rfl ((hsub (.cons _ (.refl _)))) rfl (y_move rfl) ?_
                  refine HY 1 rfl ((hsub (.cons _ (.refl _)))) rfl (y_move rfl) ?_
                  refine HY 2 rfl ((hsub (.cons _ (.refl _)))) rfl (y_move rfl) ?_
                  refine HY 3 rfl ((hsub (.cons _ (.refl _)))) rfl (y_move rfl) ?_
                  refine HY 4 rfl ((hsub (.cons _ (.refl _)))) rfl (y_move rfl) ?_
                  refine HY 5 rfl ((hsub (.cons _ (.refl _)))) rfl (y_move rfl) ?_
                  refine HY 6 rfl ((hsub (.cons _ (.refl _)))) rfl (y_indexS rfl rfl Try.underlying33 sz_48 (by omega) (by omega) (ix0 (v2))) ?_
                  refine HY 8 rfl ((hsub (.cons _ (.refl _)))) rfl (y_move rfl) ?_
                  refine HY 9 rfl ((hsub (.cons _ (.refl _)))) rfl (y_move rfl) ?_
                  refine HY 10 rfl ((hsub (.cons _ (.refl _)))) rfl (y_indexS rfl rfl Try.underlying33 sz_48 (by omega) (by omega) (ix0 (u2))) ?_
                  refine H_two 7 11 rfl rfl (by kernel_rfl) rfl rfl ?_ ?_
                  · refine op_y (y_load rfl ag_48 (sees 0 0 rfl) (us_at (by omega))) rfl ?_
                    refine ⟨(hsub (.cons _ (.refl _))), ?_⟩
                    refine H_one 11 rfl (by kernel_rfl) rfl (op_y (y_load rfl ag_48 (sees 0 0 rfl) (us_at (by omega))) rfl ?_)
                    refine ⟨(hsub (.cons _ (.refl _))), ?_⟩
                    refine HY 12 rfl ((hsub (.cons _ (.refl _)))) rfl (y_indexS rfl rfl Try.underlying33 sz_48 (by omega) (by omega) (ix0 (u2))) ?_
                    refine H_one 13 rfl (by kernel_rfl) rfl (op_store1 0 0 rfl rfl rfl sz_48 rfl (us_lt (by omega)) ?_)
                    refine ⟨(hsub (.cons _ (.refl _))), ?_⟩
                    refine HY 14 rfl ((hsub (.cons _ (.refl _)))) rfl (y_indexS rfl rfl Try.underlying33 sz_48 (by omega) (by omega) (ix0 (v2))) ?_
                    refine H_one 15 rfl (by kernel_rfl) rfl (op_store1 0 0 rfl rfl rfl sz_48 rfl (by rw [List.length_set]; exact us_lt (by omega)) ?_)
                    refine ⟨(hsub (.cons _ (.refl _))), ?_⟩
                    refine H_done (by kernel_rfl) ?_
                    rw [us_swp (by omega) (by omega)]
                    refine C_seq (C_region (LY rfl (y_move rfl) ?_))
                    refine LY rfl (y_add rfl rfl (show _ = ((u2 + 1 : Nat) : Int) from by rw [wi64 (by omega) (by omega)]; omega)) ?_
                    refine LY rfl (y_assign rfl) (L_nil (C_region (LY rfl (y_move rfl) ?_)))
                    refine LY rfl (y_sub rfl rfl (show _ = ((v2 - 1 : Nat) : Int) from by rw [wi64 (by omega) (by omega)]; omega)) ?_
                    refine LY rfl (y_assign rfl) (L_nil ?_)
                    exact ⟨(Go.Sort.swp d3 u2 v2, u2 + 1, v2 - 1), ⟨by simp only; rw [swp_size]; exact hs3, by simp only; omega, by simp only; omega, by simp only; omega, by simp only; rw [← hr3, pl_go hu2 hv2 hc5]⟩, by simp only; omega, ⟨rfl, rfl, rfl, rfl, rfl, trivial⟩, ((hsub (.cons_cons _ (.refl _))).trans (hsub_pick [0] rfl))⟩
                  · refine op_y (y_load rfl ag_48 (sees 0 0 rfl) (us_at (by omega))) rfl ?_
                    refine ⟨(hsub (.cons _ (.refl _))), ?_⟩
                    refine H_one 7 rfl (by kernel_rfl) rfl (op_y (y_load rfl ag_48 (sees 0 0 rfl) (us_at (by omega))) rfl ?_)
                    refine ⟨(hsub (.cons _ (.refl _))), ?_⟩
                    refine HY 12 rfl ((hsub (.cons _ (.refl _)))) rfl (y_indexS rfl rfl Try.underlying33 sz_48 (by omega) (by omega) (ix0 (u2))) ?_
                    refine H_one 13 rfl (by kernel_rfl) rfl (op_store1 0 0 rfl rfl rfl sz_48 rfl (us_lt (by omega)) ?_)
                    refine ⟨(hsub (.cons _ (.refl _))), ?_⟩
                    refine HY 14 rfl ((hsub (.cons _ (.refl _)))) rfl (y_indexS rfl rfl Try.underlying33 sz_48 (by omega) (by omega) (ix0 (v2))) ?_
                    refine H_one 15 rfl (by kernel_rfl) rfl (op_store1 0 0 rfl rfl rfl sz_48 rfl (by rw [List.length_set]; exact us_lt (by omega)) ?_)
                    refine ⟨(hsub (.cons _ (.refl _))), ?_⟩
                    refine H_done (by kernel_rfl) ?_
                    rw [us_swp (by omega) (by omega)]
                    refine C_seq (C_region (LY rfl (y_move rfl) ?_))
                    refine LY rfl (y_add rfl rfl (show _ = ((u2 + 1 : Nat) : Int) from by rw [wi64 (by omega) (by omega)]; omega)) ?_
                    refine LY rfl (y_assign rfl) (L_nil (C_region (LY rfl (y_move rfl) ?_)))
                    refine LY rfl (y_sub rfl rfl (show _ = ((v2 - 1 : Nat) : Int) from by rw [wi64 (by omega) (by omega)]; omega)) ?_
                    refine LY rfl (y_assign rfl) (L_nil ?_)
                    exact ⟨(Go.Sort.swp d3 u2 v2, u2 + 1, v2 - 1), ⟨by simp only; rw [swp_size]; exact hs3, by simp only; omega, by simp only; omega, by simp only; omega, by simp only; rw [← hr3, pl_go hu2 hv2 hc5]⟩, by simp only; omega, ⟨rfl, rfl, rfl, rfl, rfl, trivial⟩, ((hsub (.cons_cons _ (.refl _))).trans (hsub_pick [0] rfl))⟩
          · refine op_y (y_load rfl ag_48 (sees 0 0 rfl) (us_at (by omega))) rfl ?_
            refine ⟨(hsub (.cons _ (.refl _))), ?_⟩
            refine H_one 7 rfl (by kernel_rfl) rfl (op_y (y_load rfl ag_48 (sees 0 0 rfl) (us_at (by omega))) rfl ?_)
            refine ⟨(hsub (.cons _ (.refl _))), ?_⟩
            refine HY 12 rfl ((hsub (.cons _ (.refl _)))) rfl (y_indexS rfl rfl Try.underlying33 sz_48 (by omega) (by omega) (ix0 (i))) ?_
            refine H_one 13 rfl (by kernel_rfl) rfl (op_store1 0 0 rfl rfl rfl sz_48 rfl (us_lt (by omega)) ?_)
            refine ⟨(hsub (.cons _ (.refl _))), ?_⟩
            refine HY 14 rfl ((hsub (.cons _ (.refl _)))) rfl (y_indexS rfl rfl Try.underlying33 sz_48 (by omega) (by omega) (ix0 (j))) ?_
            refine H_one 15 rfl (by kernel_rfl) rfl (op_store1 0 0 rfl rfl rfl sz_48 rfl (by rw [List.length_set]; exact us_lt (by omega)) ?_)
            refine ⟨(hsub (.cons _ (.refl _))), ?_⟩
            refine H_done (by kernel_rfl) ?_
            rw [us_swp (by omega) (by omega)]
            obtain ⟨d2, hd2⟩ : ∃ y, y = Go.Sort.swp d1 i j := ⟨_, rfl⟩
            rw [← hd2]
            have hsd2 : d2.size = n := by rw [hd2, swp_size]; omega
            refine C_seq (C_region (LY rfl (y_move rfl) ?_))
            refine LY rfl (y_add rfl rfl (show _ = ((i + 1 : Nat) : Int) from by rw [wi64 (by omega) (by omega)]; omega)) ?_
            refine LY rfl (y_assign rfl) (L_nil (C_seq (C_region (LY rfl (y_move rfl) ?_))))
            refine LY rfl (y_sub rfl rfl (show _ = ((j - 1 : Nat) : Int) from by rw [wi64 (by omega) (by omega)]; omega)) ?_
            refine LY rfl (y_assign rfl) (L_nil (C_seq (C_block ?_)))
            refine C_loop (ι := Array Nat × Nat × Nat) (fun x => [(0, (.slice (some ⟨sb, 0, none⟩) n cap)), (1, .int .i64 ((a : Nat) : Int)), (2, .int .i64 ((b : Nat) : Int)), (10, .int .i64 ((x.2.1 : Nat) : Int)), (11, .int .i64 ((x.2.2 : Nat) : Int))]) (fun x => useg 48 sb x.1 sp :: H) (fun x => x.1.size = n ∧ a < x.2.1 ∧ x.2.1 ≤ b ∧ x.2.2 < b ∧ Go.Sort.partLoop ltN a x.2.1 x.2.2 x.1 = Go.Sort.partLoop ltN a (i + 1) (j - 1) d2) (fun x => x.2.2 + 1 - x.2.1) (d2, i + 1, j - 1) ⟨hsd2, by simp only; omega, by simp only; omega, by simp only; omega, rfl⟩ ⟨rfl, rfl, rfl, rfl, rfl, trivial⟩ ((hsub (.cons_cons _ (.refl _))).trans (hsub_pick [0] rfl)) (fun x hx => ?_)
            obtain ⟨d3, u, v⟩ := x
            obtain ⟨hs3, hu1, hu2, hv1, hr3⟩ := hx
            try simp only at hs3 hu1 hu2 hv1 hr3
            try dsimp only
            refine C_block ?_
            refine C_cutG (ι := Nat) (fun t => a < t ∧ t ≤ b ∧ u ≤ t ∧ Go.Sort.scanUp (upP a d3) d3 v u = t) (fun t => [(0, (.slice (some ⟨sb, 0, none⟩) n cap)), (1, .int .i64 ((a : Nat) : Int)), (2, .int .i64 ((b : Nat) : Int)), (10, .int .i64 ((t : Nat) : Int)), (11, .int .i64 ((v : Nat) : Int))]) (fun t => useg 48 sb d3 sp :: H) ?_ (fun t ht => ?_)
            · refine C_block ?_
              refine C_loop (ι := Nat) (fun t => [(0, (.slice (some ⟨sb, 0, none⟩) n cap)), (1, .int .i64 ((a : Nat) : Int)), (2, .int .i64 ((b : Nat) : Int)), (10, .int .i64 ((t : Nat) : Int)), (11, .int .i64 ((v : Nat) : Int))]) (fun t => useg 48 sb d3 sp :: H) (fun t => a < t ∧ t ≤ b ∧ u ≤ t ∧ Go.Sort.scanUp (upP a d3) d3 v t = Go.Sort.scanUp (upP a d3) d3 v u) (fun t => v + 1 - t) u (by refine ⟨by omega, by omega, by omega, rfl⟩ <;> omega) ⟨rfl, rfl, rfl, rfl, rfl, trivial⟩ ((hsub (.cons_cons _ (.refl _))).trans (hsub_pick [0] rfl)) (fun t ht => ?_)
              obtain ⟨ht1, ht2, ht3, hts⟩ := ht
              refine C_seq (C_seq ?_)
              refine C_regionH0 (by kernel_rfl) ?_
              refine HY 0 rfl (HSub.refl _) rfl (y_move rfl) ?_
              refine HY 1 rfl (HSub.refl _) rfl (y_move rfl) ?_
              refine HY 2 rfl (HSub.refl _) rfl (y_leq rfl rfl) ?_
              refine HY 3 rfl (HSub.refl _) rfl (y_move rfl) ?_
              refine H_case 102 rfl (fun hg13_4 => ?_) (fun hg13_4 => ?_)
              · have hle : t ≤ v := by have := of_decide_eq_true hg13_4; omega
                refine HY 4 rfl (HSub.refl _) rfl (y_move rfl) ?_
                refine HY 5 rfl (HSub.refl _) rfl (y_move rfl) ?_
                refine HY 6 rfl (HSub.refl _) rfl (y_indexS rfl rfl Try.underlying33 sz_48 (by omega) (by omega) (ix0 (t))) ?_
                refine HY 7 rfl (HSub.refl _) rfl (y_load rfl ag_48 (sees 0 0 rfl) (us_at (by omega))) ?_
                refine HY 8 rfl (HSub.refl _) rfl (y_move rfl) ?_
                refine HY 9 rfl (HSub.refl _) rfl (y_move rfl) ?_
                refine HY 10 rfl (HSub.refl _) rfl (y_indexS rfl rfl Try.underlying33 sz_48 (by omega) (by omega) (ix0 (a))) ?_
                refine HY 11 rfl (HSub.refl _) rfl (y_load rfl ag_48 (sees 0 0 rfl) (us_at (by omega))) ?_
                refine H_one 12 rfl (by kernel_rfl) rfl (op_call rfl rfl (fun a w => Try.call89 a w) rfl ?_)
                refine (less_u (d3[t]!) (d3[a]!)).mono ?_
                rintro _ _ ⟨rfl, e⟩
                obtain rfl := e.symm
                clear e
                refine ⟨_, rfl, ?_⟩
                refine ⟨HSub.refl _, ?_⟩
                refine HY 13 rfl (HSub.refl _) rfl (y_pick_t rfl rfl) ?_
                refine H_done (by kernel_rfl) ?_
                refine C_cond rfl (fun hc3 => ?_) (fun hc3 => ?_)
                · have hpt : (upP a d3) d3[t]! = true := hc3
                  refine C_skip (C_block (C_region (LY rfl (y_move rfl) ?_)))
                  refine LY rfl (y_add rfl rfl (show _ = ((t + 1 : Nat) : Int) from by rw [wi64 (by omega) (by omega)]; omega)) ?_
                  refine LY rfl (y_assign rfl) (L_nil ?_)
                  exact ⟨t + 1, ⟨by omega, by omega, by omega, by rw [← hts, su_go hle hpt]⟩, by omega, ⟨rfl, rfl, rfl, rfl, rfl, trivial⟩, ((hsub (.cons_cons _ (.refl _))).trans (hsub_pick [0] rfl))⟩
                · have hfin := hts.symm.trans (su_stop (p := (upP a d3)) (d := d3) (.inr hc3))
                  refine C_exit ?_
                  exact ⟨t, ⟨ht1, ht2, ht3, hfin⟩, ⟨rfl, rfl, rfl, rfl, rfl, trivial⟩, ((hsub (.cons_cons _ (.refl _))).trans (hsub_pick [0] rfl))⟩
              · have hle : ¬ t ≤ v := by have := of_decide_eq_false hg13_4; omega
                have hfin := hts.symm.trans (su_stop (p := (upP a d3)) (d := d3) (.inl hle))
                refine HK 4 rfl (HSub.refl _) rfl ?_
                refine HK 5 rfl (HSub.refl _) rfl ?_
                refine HK 6 rfl (HSub.refl _) rfl ?_
                refine HK 7 rfl (HSub.refl _) rfl ?_
                refine HK 8 rfl (HSub.refl _) rfl ?_
                refine HK 9 rfl (HSub.refl _) rfl ?_
                refine HK 10 rfl (HSub.refl _) rfl ?_
                refine HK 11 rfl (HSub.refl _) rfl ?_
                refine HK 12 rfl (HSub.refl _) rfl ?_
                refine HY 13 rfl (HSub.refl _) rfl (y_pick_f rfl rfl) ?_
                refine H_done (by kernel_rfl) ?_
                refine C_cond_f rfl (C_exit ?_)
                exact ⟨t, ⟨ht1, ht2, ht3, hfin⟩, ⟨rfl, rfl, rfl, rfl, rfl, trivial⟩, ((hsub (.cons_cons _ (.refl _))).trans (hsub_pick [0] rfl))⟩
            · rename Nat => u2
              obtain ⟨qu20, qu21, qu22, hu2⟩ := ht
              refine C_cutG (ι := Nat) (fun t => t < b ∧ t ≤ v ∧ Go.Sort.scanDown (dnP a d3) d3 u2 v = t) (fun t => [(0, (.slice (some ⟨sb, 0, none⟩) n cap)), (1, .int .i64 ((a : Nat) : Int)), (2, .int .i64 ((b : Nat) : Int)), (10, .int .i64 ((u2 : Nat) : Int)), (11, .int .i64 ((t : Nat) : Int))]) (fun t => useg 48 sb d3 sp :: H) ?_ (fun t ht => ?_)
              · refine C_block ?_
                refine C_loop (ι := Nat) (fun t => [(0, (.slice (some ⟨sb, 0, none⟩) n cap)), (1, .int .i64 ((a : Nat) : Int)), (2, .int .i64 ((b : Nat) : Int)), (10, .int .i64 ((u2 : Nat) : Int)), (11, .int .i64 ((t : Nat) : Int))]) (fun t => useg 48 sb d3 sp :: H) (fun t => t < b ∧ t ≤ v ∧ Go.Sort.scanDown (dnP a d3) d3 u2 t = Go.Sort.scanDown (dnP a d3) d3 u2 v) (fun t => t) v (by refine ⟨by omega, by omega, rfl⟩ <;> omega) ⟨rfl, rfl, rfl, rfl, rfl, trivial⟩ ((hsub (.cons_cons _ (.refl _))).trans (hsub_pick [0] rfl)) (fun t ht => ?_)
                obtain ⟨ht1, ht2, hts⟩ := ht
                refine C_seq (C_seq ?_)
                refine C_regionH0 (by kernel_rfl) ?_
                refine HY 0 rfl (HSub.refl _) rfl (y_move rfl) ?_
                refine HY 1 rfl (HSub.refl _) rfl (y_move rfl) ?_
                refine HY 2 rfl (HSub.refl _) rfl (y_leq rfl rfl) ?_
                refine HY 3 rfl (HSub.refl _) rfl (y_move rfl) ?_
                refine H_case 118 rfl (fun hg15_4 => ?_) (fun hg15_4 => ?_)
                · have hle : u2 ≤ t := by have := of_decide_eq_true hg15_4; omega
                  refine HY 4 rfl (HSub.refl _) rfl (y_move rfl) ?_
                  refine HY 5 rfl (HSub.refl _) rfl (y_move rfl) ?_
                  refine HY 6 rfl (HSub.refl _) rfl (y_indexS rfl rfl Try.underlying33 sz_48 (by omega) (by omega) (ix0 (t))) ?_
                  refine HY 7 rfl (HSub.refl _) rfl (y_load rfl ag_48 (sees 0 0 rfl) (us_at (by omega))) ?_
                  refine HY 8 rfl (HSub.refl _) rfl (y_move rfl) ?_
                  refine HY 9 rfl (HSub.refl _) rfl (y_move rfl) ?_
                  refine HY 10 rfl (HSub.refl _) rfl (y_indexS rfl rfl Try.underlying33 sz_48 (by omega) (by omega) (ix0 (a))) ?_
                  refine HY 11 rfl (HSub.refl _) rfl (y_load rfl ag_48 (sees 0 0 rfl) (us_at (by omega))) ?_
                  refine H_one 12 rfl (by kernel_rfl) rfl (op_call rfl rfl (fun a w => Try.call89 a w) rfl ?_)
                  refine (less_u (d3[t]!) (d3[a]!)).mono ?_
                  rintro _ _ ⟨rfl, e⟩
                  obtain rfl := e.symm
                  clear e
                  refine ⟨_, rfl, ?_⟩
                  refine ⟨HSub.refl _, ?_⟩
                  refine HY 13 rfl (HSub.refl _) rfl (y_not rfl) ?_
                  refine HY 14 rfl (HSub.refl _) rfl (y_pick_t rfl rfl) ?_
                  refine H_done (by kernel_rfl) ?_
                  refine C_cond rfl (fun hc4 => ?_) (fun hc4 => ?_)
                  · have hpt : (dnP a d3) d3[t]! = true := hc4
                    refine C_skip (C_block (C_region (LY rfl (y_move rfl) ?_)))
                    refine LY rfl (y_sub rfl rfl (show _ = ((t - 1 : Nat) : Int) from by rw [wi64 (by omega) (by omega)]; omega)) ?_
                    refine LY rfl (y_assign rfl) (L_nil ?_)
                    exact ⟨t - 1, ⟨by omega, by omega, by rw [← hts, sn_go hle (by omega) hpt]⟩, by omega, ⟨rfl, rfl, rfl, rfl, rfl, trivial⟩, ((hsub (.cons_cons _ (.refl _))).trans (hsub_pick [0] rfl))⟩
                  · have hfin := hts.symm.trans (sn_stop (p := (dnP a d3)) (d := d3) (.inr hc4))
                    refine C_exit ?_
                    exact ⟨t, ⟨ht1, ht2, hfin⟩, ⟨rfl, rfl, rfl, rfl, rfl, trivial⟩, ((hsub (.cons_cons _ (.refl _))).trans (hsub_pick [0] rfl))⟩
                · have hle : ¬ u2 ≤ t := by have := of_decide_eq_false hg15_4; omega
                  have hfin := hts.symm.trans (sn_stop (p := (dnP a d3)) (d := d3) (.inl hle))
                  refine HK 4 rfl (HSub.refl _) rfl ?_
                  refine HK 5 rfl (HSub.refl _) rfl ?_
                  refine HK 6 rfl (HSub.refl _) rfl ?_
                  refine HK 7 rfl (HSub.refl _) rfl ?_
                  refine HK 8 rfl (HSub.refl _) rfl ?_
                  refine HK 9 rfl (HSub.refl _) rfl ?_
                  refine HK 10 rfl (HSub.refl _) rfl ?_
                  refine HK 11 rfl (HSub.refl _) rfl ?_
                  refine HK 12 rfl (HSub.refl _) rfl ?_
                  refine HK 13 rfl (HSub.refl _) rfl ?_
                  refine HY 14 rfl (HSub.refl _) rfl (y_pick_f rfl rfl) ?_
                  refine H_done (by kernel_rfl) ?_
                  refine C_cond_f rfl (C_exit ?_)
                  exact ⟨t, ⟨ht1, ht2, hfin⟩, ⟨rfl, rfl, rfl, rfl, rfl, trivial⟩, ((hsub (.cons_cons _ (.refl _))).trans (hsub_pick [0] rfl))⟩
              · rename Nat => v2
                obtain ⟨qv20, qv21, hv2⟩ := ht
                refine C_seq (C_seq (C_region (LY rfl (y_move rfl) (LY rfl (y_move rfl) ?_))))
                refine LY rfl (y_gtr rfl rfl) ?_
                refine L_nil ?_
                refine C_cond rfl (fun hc5 => ?_) (fun hc5 => ?_)
                · replace hc5 : v2 < u2 := by have := of_decide_eq_true hc5; omega
                  refine C_exit (C_seq ?_)
                  refine C_regionH H (by kernel_rfl) ?_
                  refine HY 0 rfl ((hsub (.cons _ (.refl _)))) rfl (y_move rfl) ?_
                  refine HY 1 rfl ((hsub (.cons _ (.refl _)))) rfl (y_move rfl) ?_
                  refine HY 2 rfl ((hsub (.cons _ (.refl _)))) rfl (y_move rfl) ?_
                  refine HY 3 rfl ((hsub (.cons _ (.refl _)))) rfl (y_move rfl) ?_
                  refine HY 4 rfl ((hsub (.cons _ (.refl _)))) rfl (y_move rfl) ?_
                  refine HY 5 rfl ((hsub (.cons _ (.refl _)))) rfl (y_move rfl) ?_
                  refine HY 6 rfl ((hsub (.cons _ (.refl _)))) rfl (y_indexS rfl rfl Try.underlying33 sz_48 (by omega) (by omega) (ix0 (a))) ?_
                  refine HY 8 rfl ((hsub (.cons _ (.refl _)))) rfl (y_move rfl) ?_
                  refine HY 9 rfl ((hsub (.cons _ (.refl _)))) rfl (y_move rfl) ?_
                  refine HY 10 rfl ((hsub (.cons _ (.refl _)))) rfl (y_indexS rfl rfl Try.underlying33 sz_48 (by omega) (by omega) (ix0 (v2))) ?_
                  refine H_two 7 11 rfl rfl (by kernel_rfl) rfl rfl ?_ ?_
                  · refine op_y (y_load rfl ag_48 (sees 0 0 rfl) (us_at (by omega))) rfl ?_
                    refine ⟨(hsub (.cons _ (.refl _))), ?_⟩
                    refine H_one 11 rfl (by kernel_rfl) rfl (op_y (y_load rfl ag_48 (sees 0 0 rfl) (us_at (by omega))) rfl ?_)
                    refine ⟨(hsub (.cons _ (.refl _))), ?_⟩
                    refine HY 12 rfl ((hsub (.cons _ (.refl _)))) rfl (y_indexS rfl rfl Try.underlying33 sz_48 (by omega) (by omega) (ix0 (v2))) ?_
                    refine H_one 13 rfl (by kernel_rfl) rfl (op_store1 0 0 rfl rfl rfl sz_48 rfl (us_lt (by omega)) ?_)
                    refine ⟨(hsub (.cons _ (.refl _))), ?_⟩
                    refine HY 14 rfl ((hsub (.cons _ (.refl _)))) rfl (y_indexS rfl rfl Try.underlying33 sz_48 (by omega) (by omega) (ix0 (a))) ?_
                    refine H_one 15 rfl (by kernel_rfl) rfl (op_store1 0 0 rfl rfl rfl sz_48 rfl (by rw [List.length_set]; exact us_lt (by omega)) ?_)
                    refine ⟨(hsub (.cons _ (.refl _))), ?_⟩
                    refine H_done (by kernel_rfl) ?_
                    rw [us_swp (by omega) (by omega)]
                    refine C_seq (C_region (LY rfl (y_move rfl) (LY rfl (y_assign rfl) (LY rfl (y_assign rfl) (L_nil (C_ret ?_))))))
                    refine B_ret (rv_tmp rfl (rv_tmp rfl rv_nil)) ((hsub (.cons_cons _ (.refl _))).trans (hsub_pick [0] rfl)) ?_
                    first
                    | (rw [pt_t hd1 hi hj hc2]; exact ⟨rfl, rfl⟩)
                    | (rw [pt_f (j2 := v2) (d2 := d3) hd1 hi hj hc2 (by rw [← hd2, ← hr3]; exact pl_stop hu2 hv2 hc5)]; exact ⟨rfl, rfl⟩)
                  · refine op_y (y_load rfl ag_48 (sees 0 0 rfl) (us_at (by omega))) rfl ?_
                    refine ⟨(hsub (.cons _ (.refl _))), ?_⟩
                    refine H_one 7 rfl (by kernel_rfl) rfl (op_y (y_load rfl ag_48 (sees 0 0 rfl) (us_at (by omega))) rfl ?_)
                    refine ⟨(hsub (.cons _ (.refl _))), ?_⟩
                    refine HY 12 rfl ((hsub (.cons _ (.refl _)))) rfl (y_indexS rfl rfl Try.underlying33 sz_48 (by omega) (by omega) (ix0 (v2))) ?_
                    refine H_one 13 rfl (by kernel_rfl) rfl (op_store1 0 0 rfl rfl rfl sz_48 rfl (us_lt (by omega)) ?_)
                    refine ⟨(hsub (.cons _ (.refl _))), ?_⟩
                    refine HY 14 rfl ((hsub (.cons _ (.refl _)))) rfl (y_indexS rfl rfl Try.underlying33 sz_48 (by omega) (by omega) (ix0 (a))) ?_
                    refine H_one 15 rfl (by kernel_rfl) rfl (op_store1 0 0 rfl rfl rfl sz_48 rfl (by rw [List.length_set]; exact us_lt (by omega)) ?_)
                    refine ⟨(hsub (.cons _ (.refl _))), ?_⟩
                    refine H_done (by kernel_rfl) ?_
                    rw [us_swp (by omega) (by omega)]
                    refine C_seq (C_region (LY rfl (y_move rfl) (LY rfl (y_assign rfl) (LY rfl (y_assign rfl) (L_nil (C_ret ?_))))))
                    refine B_ret (rv_tmp rfl (rv_tmp rfl rv_nil)) ((hsub (.cons_cons _ (.refl _))).trans (hsub_pick [0] rfl)) ?_
                    first
                    | (rw [pt_t hd1 hi hj hc2]; exact ⟨rfl, rfl⟩)
                    | (rw [pt_f (j2 := v2) (d2 := d3) hd1 hi hj hc2 (by rw [← hd2, ← hr3]; exact pl_stop hu2 hv2 hc5)]; exact ⟨rfl, rfl⟩)
                · replace hc5 : ¬ v2 < u2 := by have := of_decide_eq_false hc5; omega
                  refine C_skip (C_seq ?_)
                  refine C_regionH H (by kernel_rfl) ?_
                  refine HY 0 rfl ((hsub (.cons _ (.refl _)))) rfl (y_move rfl) ?_
                  refine HY 1 rfl ((hsub (.cons _ (.refl _)))) rfl (y_move rfl) ?_
                  refine HY 2 rfl ((hsub (.cons _ (.refl _)))) rfl (y_move rfl) ?_
                  refine HY 3 rfl ((hsub (.cons _ (.refl _)))) rfl (y_move rfl) ?_
                  refine HY 4 rfl ((hsub (.cons _ (.refl _)))) rfl (y_move rfl) ?_
                  refine HY 5 rfl ((hsub (.cons _ (.refl _)))) rfl (y_move rfl) ?_
                  refine HY 6 rfl ((hsub (.cons _ (.refl _)))) rfl (y_indexS rfl rfl Try.underlying33 sz_48 (by omega) (by omega) (ix0 (v2))) ?_
                  refine HY 8 rfl ((hsub (.cons _ (.refl _)))) rfl (y_move rfl) ?_
                  refine HY 9 rfl ((hsub (.cons _ (.refl _)))) rfl (y_move rfl) ?_
                  refine HY 10 rfl ((hsub (.cons _ (.refl _)))) rfl (y_indexS rfl rfl Try.underlying33 sz_48 (by omega) (by omega) (ix0 (u2))) ?_
                  refine H_two 7 11 rfl rfl (by kernel_rfl) rfl rfl ?_ ?_
                  · refine op_y (y_load rfl ag_48 (sees 0 0 rfl) (us_at (by omega))) rfl ?_
                    refine ⟨(hsub (.cons _ (.refl _))), ?_⟩
                    refine H_one 11 rfl (by kernel_rfl) rfl (op_y (y_load rfl ag_48 (sees 0 0 rfl) (us_at (by omega))) rfl ?_)
                    refine ⟨(hsub (.cons _ (.refl _))), ?_⟩
                    refine HY 12 rfl ((hsub (.cons _ (.refl _)))) rfl (y_indexS rfl rfl Try.underlying33 sz_48 (by omega) (by omega) (ix0 (u2))) ?_
                    refine H_one 13 rfl (by kernel_rfl) rfl (op_store1 0 0 rfl rfl rfl sz_48 rfl (us_lt (by omega)) ?_)
                    refine ⟨(hsub (.cons _ (.refl _))), ?_⟩
                    refine HY 14 rfl ((hsub (.cons _ (.refl _)))) rfl (y_indexS rfl rfl Try.underlying33 sz_48 (by omega) (by omega) (ix0 (v2))) ?_
                    refine H_one 15 rfl (by kernel_rfl) rfl (op_store1 0 0 rfl rfl rfl sz_48 rfl (by rw [List.length_set]; exact us_lt (by omega)) ?_)
                    refine ⟨(hsub (.cons _ (.refl _))), ?_⟩
                    refine H_done (by kernel_rfl) ?_
                    rw [us_swp (by omega) (by omega)]
                    refine C_seq (C_region (LY rfl (y_move rfl) ?_))
                    refine LY rfl (y_add rfl rfl (show _ = ((u2 + 1 : Nat) : Int) from by rw [wi64 (by omega) (by omega)]; omega)) ?_
                    refine LY rfl (y_assign rfl) (L_nil (C_region (LY rfl (y_move rfl) ?_)))
                    refine LY rfl (y_sub rfl rfl (show _ = ((v2 - 1 : Nat) : Int) from by rw [wi64 (by omega) (by omega)]; omega)) ?_
                    refine LY rfl (y_assign rfl) (L_nil ?_)
                    exact ⟨(Go.Sort.swp d3 u2 v2, u2 + 1, v2 - 1), ⟨by simp only; rw [swp_size]; exact hs3, by simp only; omega, by simp only; omega, by simp only; omega, by simp only; rw [← hr3, pl_go hu2 hv2 hc5]⟩, by simp only; omega, ⟨rfl, rfl, rfl, rfl, rfl, trivial⟩, ((hsub (.cons_cons _ (.refl _))).trans (hsub_pick [0] rfl))⟩
                  · refine op_y (y_load rfl ag_48 (sees 0 0 rfl) (us_at (by omega))) rfl ?_
                    refine ⟨(hsub (.cons _ (.refl _))), ?_⟩
                    refine H_one 7 rfl (by kernel_rfl) rfl (op_y (y_load rfl ag_48 (sees 0 0 rfl) (us_at (by omega))) rfl ?_)
                    refine ⟨(hsub (.cons _ (.refl _))), ?_⟩
                    refine HY 12 rfl ((hsub (.cons _ (.refl _)))) rfl (y_indexS rfl rfl Try.underlying33 sz_48 (by omega) (by omega) (ix0 (u2))) ?_
                    refine H_one 13 rfl (by kernel_rfl) rfl (op_store1 0 0 rfl rfl rfl sz_48 rfl (us_lt (by omega)) ?_)
                    refine ⟨(hsub (.cons _ (.refl _))), ?_⟩
                    refine HY 14 rfl ((hsub (.cons _ (.refl _)))) rfl (y_indexS rfl rfl Try.underlying33 sz_48 (by omega) (by omega) (ix0 (v2))) ?_
                    refine H_one 15 rfl (by kernel_rfl) rfl (op_store1 0 0 rfl rfl rfl sz_48 rfl (by rw [List.length_set]; exact us_lt (by omega)) ?_)
                    refine ⟨(hsub (.cons _ (.refl _))), ?_⟩
                    refine H_done (by kernel_rfl) ?_
                    rw [us_swp (by omega) (by omega)]
                    refine C_seq (C_region (LY rfl (y_move rfl) ?_))
                    refine LY rfl (y_add rfl rfl (show _ = ((u2 + 1 : Nat) : Int) from by rw [wi64 (by omega) (by omega)]; omega)) ?_
                    refine LY rfl (y_assign rfl) (L_nil (C_region (LY rfl (y_move rfl) ?_)))
                    refine LY rfl (y_sub rfl rfl (show _ = ((v2 - 1 : Nat) : Int) from by rw [wi64 (by omega) (by omega)]; omega)) ?_
                    refine LY rfl (y_assign rfl) (L_nil ?_)
                    exact ⟨(Go.Sort.swp d3 u2 v2, u2 + 1, v2 - 1), ⟨by simp only; rw [swp_size]; exact hs3, by simp only; omega, by simp only; omega, by simp only; omega, by simp only; rw [← hr3, pl_go hu2 hv2 hc5]⟩, by simp only; omega, ⟨rfl, rfl, rfl, rfl, rfl, trivial⟩, ((hsub (.cons_cons _ (.refl _))).trans (hsub_pick [0] rfl))⟩
  · refine op_y (y_load rfl ag_48 (sees 0 0 rfl) (us_at (by omega))) rfl ?_
    refine ⟨(hsub (.cons _ (.refl _))), ?_⟩
    refine H_one 7 rfl (by kernel_rfl) rfl (op_y (y_load rfl ag_48 (sees 0 0 rfl) (us_at (by omega))) rfl ?_)
    refine ⟨(hsub (.cons _ (.refl _))), ?_⟩
    refine HY 12 rfl ((hsub (.cons _ (.refl _)))) rfl (y_indexS rfl rfl Try.underlying33 sz_48 (by omega) (by omega) (ix0 (a))) ?_
    refine H_one 13 rfl (by kernel_rfl) rfl (op_store1 0 0 rfl rfl rfl sz_48 rfl (us_lt (by omega)) ?_)
    refine ⟨(hsub (.cons _ (.refl _))), ?_⟩
    refine HY 14 rfl ((hsub (.cons _ (.refl _)))) rfl (y_indexS rfl rfl Try.underlying33 sz_48 (by omega) (by omega) (ix0 (pivot))) ?_
    refine H_one 15 rfl (by kernel_rfl) rfl (op_store1 0 0 rfl rfl rfl sz_48 rfl (by rw [List.length_set]; exact us_lt (by omega)) ?_)
    refine ⟨(hsub (.cons _ (.refl _))), ?_⟩
    refine H_done (by kernel_rfl) ?_
    rw [us_swp (by omega) (by omega)]
    obtain ⟨d1, hd1⟩ : ∃ y, y = Go.Sort.swp d a pivot := ⟨_, rfl⟩
    rw [← hd1]
    have hsd1 : d1.size = n := by rw [hd1, swp_size]; omega
    refine C_seq (C_region (LY rfl (y_move rfl) ?_))
    refine LY rfl (y_add rfl rfl (show _ = ((a + 1 : Nat) : Int) from by rw [wi64 (by omega) (by omega)]; omega)) ?_
    refine LY rfl (y_move rfl) ?_
    refine LY rfl (y_sub rfl rfl (show _ = ((b - 1 : Nat) : Int) from by rw [wi64 (by omega) (by omega)]; omega)) ?_
    refine LY rfl (y_assign rfl) (LY rfl (y_assign rfl) (L_nil ?_))
    refine C_cutG (ι := Nat) (fun t => a < t ∧ t ≤ b ∧ (a + 1) ≤ t ∧ Go.Sort.scanUp (upP a d1) d1 (b - 1) (a + 1) = t) (fun t => [(0, (.slice (some ⟨sb, 0, none⟩) n cap)), (1, .int .i64 ((a : Nat) : Int)), (2, .int .i64 ((b : Nat) : Int)), (10, .int .i64 ((t : Nat) : Int)), (11, .int .i64 (((b - 1) : Nat) : Int))]) (fun t => useg 48 sb d1 sp :: H) ?_ (fun t ht => ?_)
    · refine C_block ?_
      refine C_loop (ι := Nat) (fun t => [(0, (.slice (some ⟨sb, 0, none⟩) n cap)), (1, .int .i64 ((a : Nat) : Int)), (2, .int .i64 ((b : Nat) : Int)), (10, .int .i64 ((t : Nat) : Int)), (11, .int .i64 (((b - 1) : Nat) : Int))]) (fun t => useg 48 sb d1 sp :: H) (fun t => a < t ∧ t ≤ b ∧ (a + 1) ≤ t ∧ Go.Sort.scanUp (upP a d1) d1 (b - 1) t = Go.Sort.scanUp (upP a d1) d1 (b - 1) (a + 1)) (fun t => (b - 1) + 1 - t) (a + 1) (by refine ⟨by omega, by omega, by omega, rfl⟩ <;> omega) ⟨rfl, rfl, rfl, rfl, rfl, trivial⟩ ((hsub (.cons_cons _ (.refl _))).trans (hsub_pick [0] rfl)) (fun t ht => ?_)
      obtain ⟨ht1, ht2, ht3, hts⟩ := ht
      refine C_seq (C_seq ?_)
      refine C_regionH0 (by kernel_rfl) ?_
      refine HY 0 rfl (HSub.refl _) rfl (y_move rfl) ?_
      refine HY 1 rfl (HSub.refl _) rfl (y_move rfl) ?_
      refine HY 2 rfl (HSub.refl _) rfl (y_leq rfl rfl) ?_
      refine HY 3 rfl (HSub.refl _) rfl (y_move rfl) ?_
      refine H_case 33 rfl (fun hg3_4 => ?_) (fun hg3_4 => ?_)
      · have hle : t ≤ (b - 1) := by have := of_decide_eq_true hg3_4; omega
        refine HY 4 rfl (HSub.refl _) rfl (y_move rfl) ?_
        refine HY 5 rfl (HSub.refl _) rfl (y_move rfl) ?_
        refine HY 6 rfl (HSub.refl _) rfl (y_indexS rfl rfl Try.underlying33 sz_48 (by omega) (by omega) (ix0 (t))) ?_
        refine HY 7 rfl (HSub.refl _) rfl (y_load rfl ag_48 (sees 0 0 rfl) (us_at (by omega))) ?_
        refine HY 8 rfl (HSub.refl _) rfl (y_move rfl) ?_
        refine HY 9 rfl (HSub.refl _) rfl (y_move rfl) ?_
        refine HY 10 rfl (HSub.refl _) rfl (y_indexS rfl rfl Try.underlying33 sz_48 (by omega) (by omega) (ix0 (a))) ?_
        refine HY 11 rfl (HSub.refl _) rfl (y_load rfl ag_48 (sees 0 0 rfl) (us_at (by omega))) ?_
        refine H_one 12 rfl (by kernel_rfl) rfl (op_call rfl rfl (fun a w => Try.call89 a w) rfl ?_)
        refine (less_u (d1[t]!) (d1[a]!)).mono ?_
        rintro _ _ ⟨rfl, e⟩
        obtain rfl := e.symm
        clear e
        refine ⟨_, rfl, ?_⟩
        refine ⟨HSub.refl _, ?_⟩
        refine HY 13 rfl (HSub.refl _) rfl (y_pick_t rfl rfl) ?_
        refine H_done (by kernel_rfl) ?_
        refine C_cond rfl (fun hc0 => ?_) (fun hc0 => ?_)
        · have hpt : (upP a d1) d1[t]! = true := hc0
          refine C_skip (C_block (C_region (LY rfl (y_move rfl) ?_)))
          refine LY rfl (y_add rfl rfl (show _ = ((t + 1 : Nat) : Int) from by rw [wi64 (by omega) (by omega)]; omega)) ?_
          refine LY rfl (y_assign rfl) (L_nil ?_)
          exact ⟨t + 1, ⟨by omega, by omega, by omega, by rw [← hts, su_go hle hpt]⟩, by omega, ⟨rfl, rfl, rfl, rfl, rfl, trivial⟩, ((hsub (.cons_cons _ (.refl _))).trans (hsub_pick [0] rfl))⟩
        · have hfin := hts.symm.trans (su_stop (p := (upP a d1)) (d := d1) (.inr hc0))
          refine C_exit ?_
          exact ⟨t, ⟨ht1, ht2, ht3, hfin⟩, ⟨rfl, rfl, rfl, rfl, rfl, trivial⟩, ((hsub (.cons_cons _ (.refl _))).trans (hsub_pick [0] rfl))⟩
      · have hle : ¬ t ≤ (b - 1) := by have := of_decide_eq_false hg3_4; omega
        have hfin := hts.symm.trans (su_stop (p := (upP a d1)) (d := d1) (.inl hle))
        refine HK 4 rfl (HSub.refl _) rfl ?_
        refine HK 5 rfl (HSub.refl _) rfl ?_
        refine HK 6 rfl (HSub.refl _) rfl ?_
        refine HK 7 rfl (HSub.refl _) rfl ?_
        refine HK 8 rfl (HSub.refl _) rfl ?_
        refine HK 9 rfl (HSub.refl _) rfl ?_
        refine HK 10 rfl (HSub.refl _) rfl ?_
        refine HK 11 rfl (HSub.refl _) rfl ?_
        refine HK 12 rfl (HSub.refl _) rfl ?_
        refine HY 13 rfl (HSub.refl _) rfl (y_pick_f rfl rfl) ?_
        refine H_done (by kernel_rfl) ?_
        refine C_cond_f rfl (C_exit ?_)
        exact ⟨t, ⟨ht1, ht2, ht3, hfin⟩, ⟨rfl, rfl, rfl, rfl, rfl, trivial⟩, ((hsub (.cons_cons _ (.refl _))).trans (hsub_pick [0] rfl))⟩
    · rename Nat => i
      obtain ⟨qi0, qi1, qi2, hi⟩ := ht
      refine C_cutG (ι := Nat) (fun t => t < b ∧ t ≤ (b - 1) ∧ Go.Sort.scanDown (dnP a d1) d1 i (b - 1) = t) (fun t => [(0, (.slice (some ⟨sb, 0, none⟩) n cap)), (1, .int .i64 ((a : Nat) : Int)), (2, .int .i64 ((b : Nat) : Int)), (10, .int .i64 ((i : Nat) : Int)), (11, .int .i64 ((t : Nat) : Int))]) (fun t => useg 48 sb d1 sp :: H) ?_ (fun t ht => ?_)
      · refine C_block ?_
        refine C_loop (ι := Nat) (fun t => [(0, (.slice (some ⟨sb, 0, none⟩) n cap)), (1, .int .i64 ((a : Nat) : Int)), (2, .int .i64 ((b : Nat) : Int)), (10, .int .i64 ((i : Nat) : Int)), (11, .int .i64 ((t : Nat) : Int))]) (fun t => useg 48 sb d1 sp :: H) (fun t => t < b ∧ t ≤ (b - 1) ∧ Go.Sort.scanDown (dnP a d1) d1 i t = Go.Sort.scanDown (dnP a d1) d1 i (b - 1)) (fun t => t) (b - 1) (by refine ⟨by omega, by omega, rfl⟩ <;> omega) ⟨rfl, rfl, rfl, rfl, rfl, trivial⟩ ((hsub (.cons_cons _ (.refl _))).trans (hsub_pick [0] rfl)) (fun t ht => ?_)
        obtain ⟨ht1, ht2, hts⟩ := ht
        refine C_seq (C_seq ?_)
        refine C_regionH0 (by kernel_rfl) ?_
        refine HY 0 rfl (HSub.refl _) rfl (y_move rfl) ?_
        refine HY 1 rfl (HSub.refl _) rfl (y_move rfl) ?_
        refine HY 2 rfl (HSub.refl _) rfl (y_leq rfl rfl) ?_
        refine HY 3 rfl (HSub.refl _) rfl (y_move rfl) ?_
        refine H_case 49 rfl (fun hg5_4 => ?_) (fun hg5_4 => ?_)
        · have hle : i ≤ t := by have := of_decide_eq_true hg5_4; omega
          refine HY 4 rfl (HSub.refl _) rfl (y_move rfl) ?_
          refine HY 5 rfl (HSub.refl _) rfl (y_move rfl) ?_
          refine HY 6 rfl (HSub.refl _) rfl (y_indexS rfl rfl Try.underlying33 sz_48 (by omega) (by omega) (ix0 (t))) ?_
          refine HY 7 rfl (HSub.refl _) rfl (y_load rfl ag_48 (sees 0 0 rfl) (us_at (by omega))) ?_
          refine HY 8 rfl (HSub.refl _) rfl (y_move rfl) ?_
          refine HY 9 rfl (HSub.refl _) rfl (y_move rfl) ?_
          refine HY 10 rfl (HSub.refl _) rfl (y_indexS rfl rfl Try.underlying33 sz_48 (by omega) (by omega) (ix0 (a))) ?_
          refine HY 11 rfl (HSub.refl _) rfl (y_load rfl ag_48 (sees 0 0 rfl) (us_at (by omega))) ?_
          refine H_one 12 rfl (by kernel_rfl) rfl (op_call rfl rfl (fun a w => Try.call89 a w) rfl ?_)
          refine (less_u (d1[t]!) (d1[a]!)).mono ?_
          rintro _ _ ⟨rfl, e⟩
          obtain rfl := e.symm
          clear e
          refine ⟨_, rfl, ?_⟩
          refine ⟨HSub.refl _, ?_⟩
          refine HY 13 rfl (HSub.refl _) rfl (y_not rfl) ?_
          refine HY 14 rfl (HSub.refl _) rfl (y_pick_t rfl rfl) ?_
          refine H_done (by kernel_rfl) ?_
          refine C_cond rfl (fun hc1 => ?_) (fun hc1 => ?_)
          · have hpt : (dnP a d1) d1[t]! = true := hc1
            refine C_skip (C_block (C_region (LY rfl (y_move rfl) ?_)))
            refine LY rfl (y_sub rfl rfl (show _ = ((t - 1 : Nat) : Int) from by rw [wi64 (by omega) (by omega)]; omega)) ?_
            refine LY rfl (y_assign rfl) (L_nil ?_)
            exact ⟨t - 1, ⟨by omega, by omega, by rw [← hts, sn_go hle (by omega) hpt]⟩, by omega, ⟨rfl, rfl, rfl, rfl, rfl, trivial⟩, ((hsub (.cons_cons _ (.refl _))).trans (hsub_pick [0] rfl))⟩
          · have hfin := hts.symm.trans (sn_stop (p := (dnP a d1)) (d := d1) (.inr hc1))
            refine C_exit ?_
            exact ⟨t, ⟨ht1, ht2, hfin⟩, ⟨rfl, rfl, rfl, rfl, rfl, trivial⟩, ((hsub (.cons_cons _ (.refl _))).trans (hsub_pick [0] rfl))⟩
        · have hle : ¬ i ≤ t := by have := of_decide_eq_false hg5_4; omega
          have hfin := hts.symm.trans (sn_stop (p := (dnP a d1)) (d := d1) (.inl hle))
          refine HK 4 rfl (HSub.refl _) rfl ?_
          refine HK 5 rfl (HSub.refl _) rfl ?_
          refine HK 6 rfl (HSub.refl _) rfl ?_
          refine HK 7 rfl (HSub.refl _) rfl ?_
          refine HK 8 rfl (HSub.refl _) rfl ?_
          refine HK 9 rfl (HSub.refl _) rfl ?_
          refine HK 10 rfl (HSub.refl _) rfl ?_
          refine HK 11 rfl (HSub.refl _) rfl ?_
          refine HK 12 rfl (HSub.refl _) rfl ?_
          refine HK 13 rfl (HSub.refl _) rfl ?_
          refine HY 14 rfl (HSub.refl _) rfl (y_pick_f rfl rfl) ?_
          refine H_done (by kernel_rfl) ?_
          refine C_cond_f rfl (C_exit ?_)
          exact ⟨t, ⟨ht1, ht2, hfin⟩, ⟨rfl, rfl, rfl, rfl, rfl, trivial⟩, ((hsub (.cons_cons _ (.refl _))).trans (hsub_pick [0] rfl))⟩
      · rename Nat => j
        obtain ⟨qj0, qj1, hj⟩ := ht
        refine C_seq (C_seq (C_region (LY rfl (y_move rfl) (LY rfl (y_move rfl) ?_))))
        refine LY rfl (y_gtr rfl rfl) ?_
        refine L_nil ?_
        refine C_cond rfl (fun hc2 => ?_) (fun hc2 => ?_)
        · replace hc2 : j < i := by have := of_decide_eq_true hc2; omega
          refine C_seq ?_
          refine C_regionH H (by kernel_rfl) ?_
          refine HY 0 rfl ((hsub (.cons _ (.refl _)))) rfl (y_move rfl) ?_
          refine HY 1 rfl ((hsub (.cons _ (.refl _)))) rfl (y_move rfl) ?_
          refine HY 2 rfl ((hsub (.cons _ (.refl _)))) rfl (y_move rfl) ?_
          refine HY 3 rfl ((hsub (.cons _ (.refl _)))) rfl (y_move rfl) ?_
          refine HY 4 rfl ((hsub (.cons _ (.refl _)))) rfl (y_move rfl) ?_
          refine HY 5 rfl ((hsub (.cons _ (.refl _)))) rfl (y_move rfl) ?_
          refine HY 6 rfl ((hsub (.cons _ (.refl _)))) rfl (y_indexS rfl rfl Try.underlying33 sz_48 (by omega) (by omega) (ix0 (a))) ?_
          refine HY 8 rfl ((hsub (.cons _ (.refl _)))) rfl (y_move rfl) ?_
          refine HY 9 rfl ((hsub (.cons _ (.refl _)))) rfl (y_move rfl) ?_
          refine HY 10 rfl ((hsub (.cons _ (.refl _)))) rfl (y_indexS rfl rfl Try.underlying33 sz_48 (by omega) (by omega) (ix0 (j))) ?_
          refine H_two 7 11 rfl rfl (by kernel_rfl) rfl rfl ?_ ?_
          · refine op_y (y_load rfl ag_48 (sees 0 0 rfl) (us_at (by omega))) rfl ?_
            refine ⟨(hsub (.cons _ (.refl _))), ?_⟩
            refine H_one 11 rfl (by kernel_rfl) rfl (op_y (y_load rfl ag_48 (sees 0 0 rfl) (us_at (by omega))) rfl ?_)
            refine ⟨(hsub (.cons _ (.refl _))), ?_⟩
            refine HY 12 rfl ((hsub (.cons _ (.refl _)))) rfl (y_indexS rfl rfl Try.underlying33 sz_48 (by omega) (by omega) (ix0 (j))) ?_
            refine H_one 13 rfl (by kernel_rfl) rfl (op_store1 0 0 rfl rfl rfl sz_48 rfl (us_lt (by omega)) ?_)
            refine ⟨(hsub (.cons _ (.refl _))), ?_⟩
            refine HY 14 rfl ((hsub (.cons _ (.refl _)))) rfl (y_indexS rfl rfl Try.underlying33 sz_48 (by omega) (by omega) (ix0 (a))) ?_
            refine H_one 15 rfl (by kernel_rfl) rfl (op_store1 0 0 rfl rfl rfl sz_48 rfl (by rw [List.length_set]; exact us_lt (by omega)) ?_)
            refine ⟨(hsub (.cons _ (.refl _))), ?_⟩
            refine H_done (by kernel_rfl) ?_
            rw [us_swp (by omega) (by omega)]
            refine C_seq (C_region (LY rfl (y_move rfl) (LY rfl (y_assign rfl) (LY rfl (y_assign rfl) (L_nil (C_ret ?_))))))
            refine B_ret (rv_tmp rfl (rv_tmp rfl rv_nil)) ((hsub (.cons_cons _ (.refl _))).trans (hsub_pick [0] rfl)) ?_
            first
            | (rw [pt_t hd1 hi hj hc2]; exact ⟨rfl, rfl⟩)
            | (rw [pt_f (j2 := v2) (d2 := d3) hd1 hi hj hc2 (by rw [← hd2, ← hr3]; exact pl_stop hu2 hv2 hc5)]; exact ⟨rfl, rfl⟩)
          · refine op_y (y_load rfl ag_48 (sees 0 0 rfl) (us_at (by omega))) rfl ?_
            refine ⟨(hsub (.cons _ (.refl _))), ?_⟩
            refine H_one 7 rfl (by kernel_rfl) rfl (op_y (y_load rfl ag_48 (sees 0 0 rfl) (us_at (by omega))) rfl ?_)
            refine ⟨(hsub (.cons _ (.refl _))), ?_⟩
            refine HY 12 rfl ((hsub (.cons _ (.refl _)))) rfl (y_indexS rfl rfl Try.underlying33 sz_48 (by omega) (by omega) (ix0 (j))) ?_
            refine H_one 13 rfl (by kernel_rfl) rfl (op_store1 0 0 rfl rfl rfl sz_48 rfl (us_lt (by omega)) ?_)
            refine ⟨(hsub (.cons _ (.refl _))), ?_⟩
            refine HY 14 rfl ((hsub (.cons _ (.refl _)))) rfl (y_indexS rfl rfl Try.underlying33 sz_48 (by omega) (by omega) (ix0 (a))) ?_
            refine H_one 15 rfl (by kernel_rfl) rfl (op_store1 0 0 rfl rfl rfl sz_48 rfl (by rw [List.length_set]; exact us_lt (by omega)) ?_)
            refine ⟨(hsub (.cons _ (.refl _))), ?_⟩
            refine H_done (by kernel_rfl) ?_
            rw [us_swp (by omega) (by omega)]
            refine C_seq (C_region (LY rfl (y_move rfl) (LY rfl (y_assign rfl) (LY rfl (y_assign rfl) (L_nil (C_ret ?_))))))
            refine B_ret (rv_tmp rfl (rv_tmp rfl rv_nil)) ((hsub (.cons_cons _ (.refl _))).trans (hsub_pick [0] rfl)) ?_
            first
            | (rw [pt_t hd1 hi hj hc2]; exact ⟨rfl, rfl⟩)
            | (rw [pt_f (j2 := v2) (d2 := d3) hd1 hi hj hc2 (by rw [← hd2, ← hr3]; exact pl_stop hu2 hv2 hc5)]; exact ⟨rfl, rfl⟩)
        · replace hc2 : ¬ j < i := by have := of_decide_eq_false hc2; omega
          refine C_skip (C_seq ?_)
          refine C_regionH H (by kernel_rfl) ?_
          refine HY 0 rfl ((hsub (.cons _ (.refl _)))) rfl (y_move rfl) ?_
          refine HY 1 rfl ((hsub (.cons _ (.refl _)))) rfl (y_move rfl) ?_
          refine HY 2 rfl ((hsub (.cons _ (.refl _)))) rfl (y_move rfl) ?_
          refine HY 3 rfl ((hsub (.cons _ (.refl _)))) rfl (y_move rfl) ?_
          refine HY 4 rfl ((hsub (.cons _ (.refl _)))) rfl (y_move rfl) ?_
          refine HY 5 rfl ((hsub (.cons _ (.refl _)))) rfl (y_move rfl) ?_
          refine HY 6 rfl ((hsub (.cons _ (.refl _)))) rfl (y_indexS rfl rfl Try.underlying33 sz_48 (by omega) (by omega) (ix0 (j))) ?_
          refine HY 8 rfl ((hsub (.cons _ (.refl _)))) rfl (y_move rfl) ?_
          refine HY 9 rfl ((hsub (.cons _ (.refl _)))) rfl (y_move rfl) ?_
          refine HY 10 rfl ((hsub (.cons _ (.refl _)))) rfl (y_indexS rfl rfl Try.underlying33 sz_48 (by omega) (by omega) (ix0 (i))) ?_
          refine H_two 7 11 rfl rfl (by kernel_rfl) rfl rfl ?_ ?_
          · refine op_y (y_load rfl ag_48 (sees 0 0 rfl) (us_at (by omega))) rfl ?_
            refine ⟨(hsub (.cons _ (.refl _))), ?_⟩
            refine H_one 11 rfl (by kernel_rfl) rfl (op_y (y_load rfl ag_48 (sees 0 0 rfl) (us_at (by omega))) rfl ?_)
            refine ⟨(hsub (.cons _ (.refl _))), ?_⟩
            refine HY 12 rfl ((hsub (.cons _ (.refl _)))) rfl (y_indexS rfl rfl Try.underlying33 sz_48 (by omega) (by omega) (ix0 (i))) ?_
            refine H_one 13 rfl (by kernel_rfl) rfl (op_store1 0 0 rfl rfl rfl sz_48 rfl (us_lt (by omega)) ?_)
            refine ⟨(hsub (.cons _ (.refl _))), ?_⟩
            refine HY 14 rfl ((hsub (.cons _ (.refl _)))) rfl (y_indexS rfl rfl Try.underlying33 sz_48 (by omega) (by omega) (ix0 (j))) ?_
            refine H_one 15 rfl (by kernel_rfl) rfl (op_store1 0 0 rfl rfl rfl sz_48 rfl (by rw [List.length_set]; exact us_lt (by omega)) ?_)
            refine ⟨(hsub (.cons _ (.refl _))), ?_⟩
            refine H_done (by kernel_rfl) ?_
            rw [us_swp (by omega) (by omega)]
            obtain ⟨d2, hd2⟩ : ∃ y, y = Go.Sort.swp d1 i j := ⟨_, rfl⟩
            rw [← hd2]
            have hsd2 : d2.size = n := by rw [hd2, swp_size]; omega
            refine C_seq (C_region (LY rfl (y_move rfl) ?_))
            refine LY rfl (y_add rfl rfl (show _ = ((i + 1 : Nat) : Int) from by rw [wi64 (by omega) (by omega)]; omega)) ?_
            refine LY rfl (y_assign rfl) (L_nil (C_seq (C_region (LY rfl (y_move rfl) ?_))))
            refine LY rfl (y_sub rfl rfl (show _ = ((j - 1 : Nat) : Int) from by rw [wi64 (by omega) (by omega)]; omega)) ?_
            refine LY rfl (y_assign rfl) (L_nil (C_seq (C_block ?_)))
            refine C_loop (ι := Array Nat × Nat × Nat) (fun x => [(0, (.slice (some ⟨sb, 0, none⟩) n cap)), (1, .int .i64 ((a : Nat) : Int)), (2, .int .i64 ((b : Nat) : Int)), (10, .int .i64 ((x.2.1 : Nat) : Int)), (11, .int .i64 ((x.2.2 : Nat) : Int))]) (fun x => useg 48 sb x.1 sp :: H) (fun x => x.1.size = n ∧ a < x.2.1 ∧ x.2.1 ≤ b ∧ x.2.2 < b ∧ Go.Sort.partLoop ltN a x.2.1 x.2.2 x.1 = Go.Sort.partLoop ltN a (i + 1) (j - 1) d2) (fun x => x.2.2 + 1 - x.2.1) (d2, i + 1, j - 1) ⟨hsd2, by simp only; omega, by simp only; omega, by simp only; omega, rfl⟩ ⟨rfl, rfl, rfl, rfl, rfl, trivial⟩ ((hsub (.cons_cons _ (.refl _))).trans (hsub_pick [0] rfl)) (fun x hx => ?_)
            obtain ⟨d3, u, v⟩ := x
            obtain ⟨hs3, hu1, hu2, hv1, hr3⟩ := hx
            try simp only at hs3 hu1 hu2 hv1 hr3
            try dsimp only
            refine C_block ?_
            refine C_cutG (ι := Nat) (fun t => a < t ∧ t ≤ b ∧ u ≤ t ∧ Go.Sort.scanUp (upP a d3) d3 v u = t) (fun t => [(0, (.slice (some ⟨sb, 0, none⟩) n cap)), (1, .int .i64 ((a : Nat) : Int)), (2, .int .i64 ((b : Nat) : Int)), (10, .int .i64 ((t : Nat) : Int)), (11, .int .i64 ((v : Nat) : Int))]) (fun t => useg 48 sb d3 sp :: H) ?_ (fun t ht => ?_)
            · refine C_block ?_
              refine C_loop (ι := Nat) (fun t => [(0, (.slice (some ⟨sb, 0, none⟩) n cap)), (1, .int .i64 ((a : Nat) : Int)), (2, .int .i64 ((b : Nat) : Int)), (10, .int .i64 ((t : Nat) : Int)), (11, .int .i64 ((v : Nat) : Int))]) (fun t => useg 48 sb d3 sp :: H) (fun t => a < t ∧ t ≤ b ∧ u ≤ t ∧ Go.Sort.scanUp (upP a d3) d3 v t = Go.Sort.scanUp (upP a d3) d3 v u) (fun t => v + 1 - t) u (by refine ⟨by omega, by omega, by omega, rfl⟩ <;> omega) ⟨rfl, rfl, rfl, rfl, rfl, trivial⟩ ((hsub (.cons_cons _ (.refl _))).trans (hsub_pick [0] rfl)) (fun t ht => ?_)
              obtain ⟨ht1, ht2, ht3, hts⟩ := ht
              refine C_seq (C_seq ?_)
              refine C_regionH0 (by kernel_rfl) ?_
              refine HY 0 rfl (HSub.refl _) rfl (y_move rfl) ?_
              refine HY 1 rfl (HSub.refl _) rfl (y_move rfl) ?_
              refine HY 2 rfl (HSub.refl _) rfl (y_leq rfl rfl) ?_
              refine HY 3 rfl (HSub.refl _) rfl (y_move rfl) ?_
              refine H_case 102 rfl (fun hg13_4 => ?_) (fun hg13_4 => ?_)
              · have hle : t ≤ v := by have := of_decide_eq_true hg13_4; omega
                refine HY 4 rfl (HSub.refl _) rfl (y_move rfl) ?_
                refine HY 5 rfl (HSub.refl _) rfl (y_move rfl) ?_
                refine HY 6 rfl (HSub.refl _) rfl (y_indexS rfl rfl Try.underlying33 sz_48 (by omega) (by omega) (ix0 (t))) ?_
                refine HY 7 rfl (HSub.refl _) rfl (y_load rfl ag_48 (sees 0 0 rfl) (us_at (by omega))) ?_
                refine HY 8 rfl (HSub.refl _) rfl (y_move rfl) ?_
                refine HY 9 rfl (HSub.refl _) rfl (y_move rfl) ?_
                refine HY 10 rfl (HSub.refl _) rfl (y_indexS rfl rfl Try.underlying33 sz_48 (by omega) (by omega) (ix0 (a))) ?_
                refine HY 11 rfl (HSub.refl _) rfl (y_load rfl ag_48 (sees 0 0 rfl) (us_at (by omega))) ?_
                refine H_one 12 rfl (by kernel_rfl) rfl (op_call rfl rfl (fun a w => Try.call89 a w) rfl ?_)
                refine (less_u (d3[t]!) (d3[a]!)).mono ?_
                rintro _ _ ⟨rfl, e⟩
                obtain rfl := e.symm
                clear e
                refine ⟨_, rfl, ?_⟩
                refine ⟨HSub.refl _, ?_⟩
                refine HY 13 rfl (HSub.refl _) rfl (y_pick_t rfl rfl) ?_
                refine H_done (by kernel_rfl) ?_
                refine C_cond rfl (fun hc3 => ?_) (fun hc3 => ?_)
                · have hpt : (upP a d3) d3[t]! = true := hc3
                  refine C_skip (C_block (C_region (LY rfl (y_move rfl) ?_)))
                  refine LY rfl (y_add rfl rfl (show _ = ((t + 1 : Nat) : Int) from by rw [wi64 (by omega) (by omega)]; omega)) ?_
                  refine LY rfl (y_assign rfl) (L_nil ?_)
                  exact ⟨t + 1, ⟨by omega, by omega, by omega, by rw [← hts, su_go hle hpt]⟩, by omega, ⟨rfl, rfl, rfl, rfl, rfl, trivial⟩, ((hsub (.cons_cons _ (.refl _))).trans (hsub_pick [0] rfl))⟩
                · have hfin := hts.symm.trans (su_stop (p := (upP a d3)) (d := d3) (.inr hc3))
                  refine C_exit ?_
                  exact ⟨t, ⟨ht1, ht2, ht3, hfin⟩, ⟨rfl, rfl, rfl, rfl, rfl, trivial⟩, ((hsub (.cons_cons _ (.refl _))).trans (hsub_pick [0] rfl))⟩
              · have hle : ¬ t ≤ v := by have := of_decide_eq_false hg13_4; omega
                have hfin := hts.symm.trans (su_stop (p := (upP a d3)) (d := d3) (.inl hle))
                refine HK 4 rfl (HSub.refl _) rfl ?_
                refine HK 5 rfl (HSub.refl _) rfl ?_
                refine HK 6 rfl (HSub.refl _) rfl ?_
                refine HK 7 rfl (HSub.refl _) rfl ?_
                refine HK 8 rfl (HSub.refl _) rfl ?_
                refine HK 9 rfl (HSub.refl _) rfl ?_
                refine HK 10 rfl (HSub.refl _) rfl ?_
                refine HK 11 rfl (HSub.refl _) rfl ?_
                refine HK 12 rfl (HSub.refl _) rfl ?_
                refine HY 13 rfl (HSub.refl _) rfl (y_pick_f rfl rfl) ?_
                refine H_done (by kernel_rfl) ?_
                refine C_cond_f rfl (C_exit ?_)
                exact ⟨t, ⟨ht1, ht2, ht3, hfin⟩, ⟨rfl, rfl, rfl, rfl, rfl, trivial⟩, ((hsub (.cons_cons _ (.refl _))).trans (hsub_pick [0] rfl))⟩
            · rename Nat => u2
              obtain ⟨qu20, qu21, qu22, hu2⟩ := ht
              refine C_cutG (ι := Nat) (fun t => t < b ∧ t ≤ v ∧ Go.Sort.scanDown (dnP a d3) d3 u2 v = t) (fun t => [(0, (.slice (some ⟨sb, 0, none⟩) n cap)), (1, .int .i64 ((a : Nat) : Int)), (2, .int .i64 ((b : Nat) : Int)), (10, .int .i64 ((u2 : Nat) : Int)), (11, .int .i64 ((t : Nat) : Int))]) (fun t => useg 48 sb d3 sp :: H) ?_ (fun t ht => ?_)
              · refine C_block ?_
                refine C_loop (ι := Nat) (fun t => [(0, (.slice (some ⟨sb, 0, none⟩) n cap)), (1, .int .i64 ((a : Nat) : Int)), (2, .int .i64 ((b : Nat) : Int)), (10, .int .i64 ((u2 : Nat) : Int)), (11, .int .i64 ((t : Nat) : Int))]) (fun t => useg 48 sb d3 sp :: H) (fun t => t < b ∧ t ≤ v ∧ Go.Sort.scanDown (dnP a d3) d3 u2 t = Go.Sort.scanDown (dnP a d3) d3 u2 v) (fun t => t) v (by refine ⟨by omega, by omega, rfl⟩ <;> omega) ⟨rfl, rfl, rfl, rfl, rfl, trivial⟩ ((hsub (.cons_cons _ (.refl _))).trans (hsub_pick [0] rfl)) (fun t ht => ?_)
                obtain ⟨ht1, ht2, hts⟩ := ht
                refine C_seq (C_seq ?_)
                refine C_regionH0 (by kernel_rfl) ?_
                refine HY 0 rfl (HSub.refl _) rfl (y_move rfl) ?_
                refine HY 1 rfl (HSub.refl _) rfl (y_move rfl) ?_
                refine HY 2 rfl (HSub.refl _) rfl (y_leq rfl rfl) ?_
                refine HY 3 rfl (HSub.refl _) rfl (y_move rfl) ?_
                refine H_case 118 rfl (fun hg15_4 => ?_) (fun hg15_4 => ?_)
                · have hle : u2 ≤ t := by have := of_decide_eq_true hg15_4; omega
                  refine HY 4 rfl (HSub.refl _) rfl (y_move rfl) ?_
                  refine HY 5 rfl (HSub.refl _) rfl (y_move rfl) ?_
                  refine HY 6 rfl (HSub.refl _) rfl (y_indexS rfl rfl Try.underlying33 sz_48 (by omega) (by omega) (ix0 (t))) ?_
                  refine HY 7 rfl (HSub.refl _) rfl (y_load rfl ag_48 (sees 0 0 rfl) (us_at (by omega))) ?_
                  refine HY 8 rfl (HSub.refl _) rfl (y_move rfl) ?_
                  refine HY 9 rfl (HSub.refl _) rfl (y_move rfl) ?_
                  refine HY 10 rfl (HSub.refl _) rfl (y_indexS rfl rfl Try.underlying33 sz_48 (by omega) (by omega) (ix0 (a))) ?_
                  refine HY 11 rfl (HSub.refl _) rfl (y_load rfl ag_48 (sees 0 0 rfl) (us_at (by omega))) ?_
                  refine H_one 12 rfl (by kernel_rfl) rfl (op_call rfl rfl (fun a w => Try.call89 a w) rfl ?_)
                  refine (less_u (d3[t]!) (d3[a]!)).mono ?_
                  rintro _ _ ⟨rfl, e⟩
                  obtain rfl := e.symm
                  clear e
                  refine ⟨_, rfl, ?_⟩
                  refine ⟨HSub.refl _, ?_⟩
                  refine HY 13 rfl (HSub.refl _) rfl (y_not rfl) ?_
                  refine HY 14 rfl (HSub.refl _) rfl (y_pick_t rfl rfl) ?_
                  refine H_done (by kernel_rfl) ?_
                  refine C_cond rfl (fun hc4 => ?_) (fun hc4 => ?_)
                  · have hpt : (dnP a d3) d3[t]! = true := hc4
                    refine C_skip (C_block (C_region (LY rfl (y_move rfl) ?_)))
                    refine LY rfl (y_sub rfl rfl (show _ = ((t - 1 : Nat) : Int) from by rw [wi64 (by omega) (by omega)]; omega)) ?_
                    refine LY rfl (y_assign rfl) (L_nil ?_)
                    exact ⟨t - 1, ⟨by omega, by omega, by rw [← hts, sn_go hle (by omega) hpt]⟩, by omega, ⟨rfl, rfl, rfl, rfl, rfl, trivial⟩, ((hsub (.cons_cons _ (.refl _))).trans (hsub_pick [0] rfl))⟩
                  · have hfin := hts.symm.trans (sn_stop (p := (dnP a d3)) (d := d3) (.inr hc4))
                    refine C_exit ?_
                    exact ⟨t, ⟨ht1, ht2, hfin⟩, ⟨rfl, rfl, rfl, rfl, rfl, trivial⟩, ((hsub (.cons_cons _ (.refl _))).trans (hsub_pick [0] rfl))⟩
                · have hle : ¬ u2 ≤ t := by have := of_decide_eq_false hg15_4; omega
                  have hfin := hts.symm.trans (sn_stop (p := (dnP a d3)) (d := d3) (.inl hle))
                  refine HK 4 rfl (HSub.refl _) rfl ?_
                  refine HK 5 rfl (HSub.refl _) rfl ?_
                  refine HK 6 rfl (HSub.refl _) rfl ?_
                  refine HK 7 rfl (HSub.refl _) rfl ?_
                  refine HK 8 rfl (HSub.refl _) rfl ?_
                  refine HK 9 rfl (HSub.refl _) rfl ?_
                  refine HK 10 rfl (HSub.refl _) rfl ?_
                  refine HK 11 rfl (HSub.refl _) rfl ?_
                  refine HK 12 rfl (HSub.refl _) rfl ?_
                  refine HK 13 rfl (HSub.refl _) rfl ?_
                  refine HY 14 rfl (HSub.refl _) rfl (y_pick_f rfl rfl) ?_
                  refine H_done (by kernel_rfl) ?_
                  refine C_cond_f rfl (C_exit ?_)
                  exact ⟨t, ⟨ht1, ht2, hfin⟩, ⟨rfl, rfl, rfl, rfl, rfl, trivial⟩, ((hsub (.cons_cons _ (.refl _))).trans (hsub_pick [0] rfl))⟩
              · rename Nat => v2
                obtain ⟨qv20, qv21, hv2⟩ := ht
                refine C_seq (C_seq (C_region (LY rfl (y_move rfl) (LY rfl (y_move rfl) ?_))))
                refine LY rfl (y_gtr rfl rfl) ?_
                refine L_nil ?_
                refine C_cond rfl (fun hc5 => ?_) (fun hc5 => ?_)
                · replace hc5 : v2 < u2 := by have := of_decide_eq_true hc5; omega
                  refine C_exit (C_seq ?_)
                  refine C_regionH H (by kernel_rfl) ?_
                  refine HY 0 rfl ((hsub (.cons _ (.refl _)))) rfl (y_move rfl) ?_
                  refine HY 1 rfl ((hsub (.cons _ (.refl _)))) rfl (y_move rfl) ?_
                  refine HY 2 rfl ((hsub (.cons _ (.refl _)))) rfl (y_move rfl) ?_
                  refine HY 3 rfl ((hsub (.cons _ (.refl _)))) rfl (y_move rfl) ?_
                  refine HY 4 rfl ((hsub (.cons _ (.refl _)))) rfl (y_move rfl) ?_
                  refine HY 5 rfl ((hsub (.cons _ (.refl _)))) rfl (y_move rfl) ?_
                  refine HY 6 rfl ((hsub (.cons _ (.refl _)))) rfl (y_indexS rfl rfl Try.underlying33 sz_48 (by omega) (by omega) (ix0 (a))) ?_
                  refine HY 8 rfl ((hsub (.cons _ (.refl _)))) rfl (y_move rfl) ?_
                  refine HY 9 rfl ((hsub (.cons _ (.refl _)))) rfl (y_move rfl) ?_
                  refine HY 10 rfl ((hsub (.cons _ (.refl _)))) rfl (y_indexS rfl rfl Try.underlying33 sz_48 (by omega) (by omega) (ix0 (v2))) ?_
                  refine H_two 7 11 rfl rfl (by kernel_rfl) rfl rfl ?_ ?_
                  · refine op_y (y_load rfl ag_48 (sees 0 0 rfl) (us_at (by omega))) rfl ?_
                    refine ⟨(hsub (.cons _ (.refl _))), ?_⟩
                    refine H_one 11 rfl (by kernel_rfl) rfl (op_y (y_load rfl ag_48 (sees 0 0 rfl) (us_at (by omega))) rfl ?_)
                    refine ⟨(hsub (.cons _ (.refl _))), ?_⟩
                    refine HY 12 rfl ((hsub (.cons _ (.refl _)))) rfl (y_indexS rfl rfl Try.underlying33 sz_48 (by omega) (by omega) (ix0 (v2))) ?_
                    refine H_one 13 rfl (by kernel_rfl) rfl (op_store1 0 0 rfl rfl rfl sz_48 rfl (us_lt (by omega)) ?_)
                    refine ⟨(hsub (.cons _ (.refl _))), ?_⟩
                    refine HY 14 rfl ((hsub (.cons _ (.refl _)))) rfl (y_indexS rfl rfl Try.underlying33 sz_48 (by omega) (by omega) (ix0 (a))) ?_
                    refine H_one 15 rfl (by kernel_rfl) rfl (op_store1 0 0 rfl rfl rfl sz_48 rfl (by rw [List.length_set]; exact us_lt (by omega)) ?_)
                    refine ⟨(hsub (.cons _ (.refl _))), ?_⟩
                    refine H_done (by kernel_rfl) ?_
                    rw [us_swp (by omega) (by omega)]
                    refine C_seq (C_region (LY rfl (y_move rfl) (LY rfl (y_assign rfl) (LY rfl (y_assign rfl) (L_nil (C_ret ?_))))))
                    refine B_ret (rv_tmp rfl (rv_tmp rfl rv_nil)) ((hsub (.cons_cons _ (.refl _))).trans (hsub_pick [0] rfl)) ?_
                    first
                    | (rw [pt_t hd1 hi hj hc2]; exact ⟨rfl, rfl⟩)
                    | (rw [pt_f (j2 := v2) (d2 := d3) hd1 hi hj hc2 (by rw [← hd2, ← hr3]; exact pl_stop hu2 hv2 hc5)]; exact ⟨rfl, rfl⟩)
                  · refine op_y (y_load rfl ag_48 (sees 0 0 rfl) (us_at (by omega))) rfl ?_
                    refine ⟨(hsub (.cons _ (.refl _))), ?_⟩
                    refine H_one 7 rfl (by kernel_rfl) rfl (op_y (y_load rfl ag_48 (sees 0 0 rfl) (us_at (by omega))) rfl ?_)
                    refine ⟨(hsub (.cons _ (.refl _))), ?_⟩
                    refine HY 12 rfl ((hsub (.cons _ (.refl _)))) rfl (y_indexS rfl rfl Try.underlying33 sz_48 (by omega) (by omega) (ix0 (v2))) ?_
                    refine H_one 13 rfl (by kernel_rfl) rfl (op_store1 0 0 rfl rfl rfl sz_48 rfl (us_lt (by omega)) ?_)
                    refine ⟨(hsub (.cons _ (.refl _))), ?_⟩
                    refine HY 14 rfl ((hsub (.cons _ (.refl _)))) rfl (y_indexS rfl rfl Try.underlying33 sz_48 (by omega) (by omega) (ix0 (a))) ?_
                    refine H_one 15 rfl (by kernel_rfl) rfl (op_store1 0 0 rfl rfl rfl sz_48 rfl (by rw [List.length_set]; exact us_lt (by omega)) ?_)
                    refine ⟨(hsub (.cons _ (.refl _))), ?_⟩
                    refine H_done (by kernel_rfl) ?_
                    rw [us_swp (by omega) (by omega)]
                    refine C_seq (C_region (LY rfl (y_move rfl) (LY rfl (y_assign rfl) (LY rfl (y_assign rfl) (L_nil (C_ret ?_))))))
                    refine B_ret (rv_tmp rfl (rv_tmp rfl rv_nil)) ((hsub (.cons_cons _ (.refl _))).trans (hsub_pick [0] rfl)) ?_
                    first
                    | (rw [pt_t hd1 hi hj hc2]; exact ⟨rfl, rfl⟩)
                    | (rw [pt_f (j2 := v2) (d2 := d3) hd1 hi hj hc2 (by rw [← hd2, ← hr3]; exact pl_stop hu2 hv2 hc5)]; exact ⟨rfl, rfl⟩)
                · replace hc5 : ¬ v2 < u2 := by have := of_decide_eq_false hc5; omega
                  refine C_skip (C_seq ?_)
                  refine C_regionH H (by kernel_rfl) ?_
                  refine HY 0 rfl ((hsub (.cons _ (.refl _)))) rfl (y_move rfl) ?_
                  refine HY 1 rfl ((hsub (.cons _ (.refl _)))) rfl (y_move rfl) ?_
                  refine HY 2 rfl ((hsub (.cons _ (.refl _)))) rfl (y_move rfl) ?_
                  refine HY 3 rfl ((hsub (.cons _ (.refl _)))) rfl (y_move rfl) ?_
                  refine HY 4 rfl ((hsub (.cons _ (.refl _)))) rfl (y_move rfl) ?_
                  refine HY 5 rfl ((hsub (.cons _ (.refl _)))) rfl (y_move rfl) ?_
                  refine HY 6 rfl ((hsub (.cons _ (.refl _)))) rfl (y_indexS rfl rfl Try.underlying33 sz_48 (by omega) (by omega) (ix0 (v2))) ?_
                  refine HY 8 rfl ((hsub (.cons _ (.refl _)))) rfl (y_move rfl) ?_
                  refine HY 9 rfl ((hsub (.cons _ (.refl _)))) rfl (y_move rfl) ?_
                  refine HY 10 rfl ((hsub (.cons _ (.refl _)))) rfl (y_indexS rfl rfl Try.underlying33 sz_48 (by omega) (by omega) (ix0 (u2))) ?_
                  refine H_two 7 11 rfl rfl (by kernel_rfl) rfl rfl ?_ ?_
                  · refine op_y (y_load rfl ag_48 (sees 0 0 rfl) (us_at (by omega))) rfl ?_
                    refine ⟨(hsub (.cons _ (.refl _))), ?_⟩
                    refine H_one 11 rfl (by kernel_rfl) rfl (op_y (y_load rfl ag_48 (sees 0 0 rfl) (us_at (by omega))) rfl ?_)
                    refine ⟨(hsub (.cons _ (.refl _))), ?_⟩
                    refine HY 12 rfl ((hsub (.cons _ (.refl _)))) rfl (y_indexS rfl rfl Try.underlying33 sz_48 (by omega) (by omega) (ix0 (u2))) ?_
                    refine H_one 13 rfl (by kernel_rfl) rfl (op_store1 0 0 rfl rfl rfl sz_48 rfl (us_lt (by omega)) ?_)
                    refine ⟨(hsub (.cons _ (.refl _))), ?_⟩
                    refine HY 14 rfl ((hsub (.cons _ (.refl _)))) rfl (y_indexS rfl rfl Try.underlying33 sz_48 (by omega) (by omega) (ix0 (v2))) ?_
                    refine H_one 15 rfl (by kernel_rfl) rfl (op_store1 0 0 rfl rfl rfl sz_48 rfl (by rw [List.length_set]; exact us_lt (by omega)) ?_)
                    refine ⟨(hsub (.cons _ (.refl _))), ?_⟩
                    refine H_done (by kernel_rfl) ?_
                    rw [us_swp (by omega) (by omega)]
                    refine C_seq (C_region (LY rfl (y_move rfl) ?_))
                    refine LY rfl (y_add rfl rfl (show _ = ((u2 + 1 : Nat) : Int) from by rw [wi64 (by omega) (by omega)]; omega)) ?_
                    refine LY rfl (y_assign rfl) (L_nil (C_region (LY rfl (y_move rfl) ?_)))
                    refine LY rfl (y_sub rfl rfl (show _ = ((v2 - 1 : Nat) : Int) from by rw [wi64 (by omega) (by omega)]; omega)) ?_
                    refine LY rfl (y_assign rfl) (L_nil ?_)
                    exact ⟨(Go.Sort.swp d3 u2 v2, u2 + 1, v2 - 1), ⟨by simp only; rw [swp_size]; exact hs3, by simp only; omega, by simp only; omega, by simp only; omega, by simp only; rw [← hr3, pl_go hu2 hv2 hc5]⟩, by simp only; omega, ⟨rfl, rfl, rfl, rfl, rfl, trivial⟩, ((hsub (.cons_cons _ (.refl _))).trans (hsub_pick [0] rfl))⟩
                  · refine op_y (y_load rfl ag_48 (sees 0 0 rfl) (us_at (by omega))) rfl ?_
                    refine ⟨(hsub (.cons _ (.refl _))), ?_⟩
                    refine H_one 7 rfl (by kernel_rfl) rfl (op_y (y_load rfl ag_48 (sees 0 0 rfl) (us_at (by omega))) rfl ?_)
                    refine ⟨(hsub (.cons _ (.refl _))), ?_⟩
                    refine HY 12 rfl ((hsub (.cons _ (.refl _)))) rfl (y_indexS rfl rfl Try.underlying33 sz_48 (by omega) (by omega) (ix0 (u2))) ?_
                    refine H_one 13 rfl (by kernel_rfl) rfl (op_store1 0 0 rfl rfl rfl sz_48 rfl (us_lt (by omega)) ?_)
                    refine ⟨(hsub (.cons _ (.refl _))), ?_⟩
                    refine HY 14 rfl ((hsub (.cons _ (.refl _)))) rfl (y_indexS rfl rfl Try.underlying33 sz_48 (by omega) (by omega) (ix0 (v2))) ?_
                    refine H_one 15 rfl (by kernel_rfl) rfl (op_store1 0 0 rfl rfl rfl sz_48 rfl (by rw [List.length_set]; exact us_lt (by omega)) ?_)
                    refine ⟨(hsub (.cons _ (.refl _))), ?_⟩
                    refine H_done (by kernel_rfl) ?_
                    rw [us_swp (by omega) (by omega)]
                    refine C_seq (C_region (LY rfl (y_move rfl) ?_))
                    refine LY rfl (y_add rfl rfl (show _ = ((u2 + 1 : Nat) : Int) from by rw [wi64 (by omega) (by omega)]; omega)) ?_
                    refine LY rfl (y_assign rfl) (L_nil (C_region (LY rfl (y_move rfl) ?_)))
                    refine LY rfl (y_sub rfl rfl (show _ = ((v2 - 1 : Nat) : Int) from by rw [wi64 (by omega) (by omega)]; omega)) ?_
                    refine LY rfl (y_assign rfl) (L_nil ?_)
                    exact ⟨(Go.Sort.swp d3 u2 v2, u2 + 1, v2 - 1), ⟨by simp only; rw [swp_size]; exact hs3, by simp only; omega, by simp only; omega, by simp only; omega, by simp only; rw [← hr3, pl_go hu2 hv2 hc5]⟩, by simp only; omega, ⟨rfl, rfl, rfl, rfl, rfl, trivial⟩, ((hsub (.cons_cons _ (.refl _))).trans (hsub_pick [0] rfl))⟩
          · refine op_y (y_load rfl ag_48 (sees 0 0 rfl) (us_at (by omega))) rfl ?_
            refine ⟨(hsub (.cons _ (.refl _))), ?_⟩
            refine H_one 7 rfl (by kernel_rfl) rfl (op_y (y_load rfl ag_48 (sees 0 0 rfl) (us_at (by omega))) rfl ?_)
            refine ⟨(hsub (.cons _ (.refl _))), ?_⟩
            refine HY 12 rfl ((hsub (.cons _ (.refl _)))) rfl (y_indexS rfl rfl Try.underlying33 sz_48 (by omega) (by omega) (ix0 (i))) ?_
            refine H_one 13 rfl (by kernel_rfl) rfl (op_store1 0 0 rfl rfl rfl sz_48 rfl (us_lt (by omega)) ?_)
            refine ⟨(hsub (.cons _ (.refl _))), ?_⟩
            refine HY 14 rfl ((hsub (.cons _ (.refl _)))) rfl (y_indexS rfl rfl Try.underlying33 sz_48 (by omega) (by omega) (ix0 (j))) ?_
            refine H_one 15 rfl (by kernel_rfl) rfl (op_store1 0 0 rfl rfl rfl sz_48 rfl (by rw [List.length_set]; exact us_lt (by omega)) ?_)
            refine ⟨(hsub (.cons _ (.refl _))), ?_⟩
            refine H_done (by kernel_rfl) ?_
            rw [us_swp (by omega) (by omega)]
            obtain ⟨d2, hd2⟩ : ∃ y, y = Go.Sort.swp d1 i j := ⟨_, rfl⟩
            rw [← hd2]
            have hsd2 : d2.size = n := by rw [hd2, swp_size]; omega
            refine C_seq (C_region (LY rfl (y_move rfl) ?_))
            refine LY rfl (y_add rfl rfl (show _ = ((i + 1 : Nat) : Int) from by rw [wi64 (by omega) (by omega)]; omega)) ?_
            refine LY rfl (y_assign rfl) (L_nil (C_seq (C_region (LY rfl (y_move rfl) ?_))))
            refine LY rfl (y_sub rfl rfl (show _ = ((j - 1 : Nat) : Int) from by rw [wi64 (by omega) (by omega)]; omega)) ?_
            refine LY rfl (y_assign rfl) (L_nil (C_seq (C_block ?_)))
            refine C_loop (ι := Array Nat × Nat × Nat) (fun x => [(0, (.slice (some ⟨sb, 0, none⟩) n cap)), (1, .int .i64 ((a : Nat) : Int)), (2, .int .i64 ((b : Nat) : Int)), (10, .int .i64 ((x.2.1 : Nat) : Int)), (11, .int .i64 ((x.2.2 : Nat) : Int))]) (fun x => useg 48 sb x.1 sp :: H) (fun x => x.1.size = n ∧ a < x.2.1 ∧ x.2.1 ≤ b ∧ x.2.2 < b ∧ Go.Sort.partLoop ltN a x.2.1 x.2.2 x.1 = Go.Sort.partLoop ltN a (i + 1) (j - 1) d2) (fun x => x.2.2 + 1 - x.2.1) (d2, i + 1, j - 1) ⟨hsd2, by simp only; omega, by simp only; omega, by simp only; omega, rfl⟩ ⟨rfl, rfl, rfl, rfl, rfl, trivial⟩ ((hsub (.cons_cons _ (.refl _))).trans (hsub_pick [0] rfl)) (fun x hx => ?_)
            obtain ⟨d3, u, v⟩ := x
            obtain ⟨hs3, hu1, hu2, hv1, hr3⟩ := hx
            try simp only at hs3 hu1 hu2 hv1 hr3
            try dsimp only
            refine C_block ?_
            refine C_cutG (ι := Nat) (fun t => a < t ∧ t ≤ b ∧ u ≤ t ∧ Go.Sort.scanUp (upP a d3) d3 v u = t) (fun t => [(0, (.slice (some ⟨sb, 0, none⟩) n cap)), (1, .int .i64 ((a : Nat) : Int)), (2, .int .i64 ((b : Nat) : Int)), (10, .int .i64 ((t : Nat) : Int)), (11, .int .i64 ((v : Nat) : Int))]) (fun t => useg 48 sb d3 sp :: H) ?_ (fun t ht => ?_)
            · refine C_block ?_
              refine C_loop (ι := Nat) (fun t => [(0, (.slice (some ⟨sb, 0, none⟩) n cap)), (1, .int .i64 ((a : Nat) : Int)), (2, .int .i64 ((b : Nat) : Int)), (10, .int .i64 ((t : Nat) : Int)), (11, .int .i64 ((v : Nat) : Int))]) (fun t => useg 48 sb d3 sp :: H) (fun t => a < t ∧ t ≤ b ∧ u ≤ t ∧ Go.Sort.scanUp (upP a d3) d3 v t = Go.Sort.scanUp (upP a d3) d3 v u) (fun t => v + 1 - t) u (by refine ⟨by omega, by omega, by omega, rfl⟩ <;> omega) ⟨rfl, rfl, rfl, rfl, rfl, trivial⟩ ((hsub (.cons_cons _ (.refl _))).trans (hsub_pick [0] rfl)) (fun t ht => ?_)
              obtain ⟨ht1, ht2, ht3, hts⟩ := ht
              refine C_seq (C_seq ?_)
              refine C_regionH0 (by kernel_rfl) ?_
              refine HY 0 rfl (HSub.refl _) rfl (y_move rfl) ?_
              refine HY 1 rfl (HSub.refl _) rfl (y_move rfl) ?_
              refine HY 2 rfl (HSub.refl _) rfl (y_leq rfl rfl) ?_
              refine HY 3 rfl (HSub.refl _) rfl (y_move rfl) ?_
              refine H_case 102 rfl (fun hg13_4 => ?_) (fun hg13_4 => ?_)
              · have hle : t ≤ v := by have := of_decide_eq_true hg13_4; omega
                refine HY 4 rfl (HSub.refl _) rfl (y_move rfl) ?_
                refine HY 5 rfl (HSub.refl _) rfl (y_move rfl) ?_
                refine HY 6 rfl (HSub.refl _) rfl (y_indexS rfl rfl Try.underlying33 sz_48 (by omega) (by omega) (ix0 (t))) ?_
                refine HY 7 rfl (HSub.refl _) rfl (y_load rfl ag_48 (sees 0 0 rfl) (us_at (by omega))) ?_
                refine HY 8 rfl (HSub.refl _) rfl (y_move rfl) ?_
                refine HY 9 rfl (HSub.refl _) rfl (y_move rfl) ?_
                refine HY 10 rfl (HSub.refl _) rfl (y_indexS rfl rfl Try.underlying33 sz_48 (by omega) (by omega) (ix0 (a))) ?_
                refine HY 11 rfl (HSub.refl _) rfl (y_load rfl ag_48 (sees 0 0 rfl) (us_at (by omega))) ?_
                refine H_one 12 rfl (by kernel_rfl) rfl (op_call rfl rfl (fun a w => Try.call89 a w) rfl ?_)
                refine (less_u (d3[t]!) (d3[a]!)).mono ?_
                rintro _ _ ⟨rfl, e⟩
                obtain rfl := e.symm
                clear e
                refine ⟨_, rfl, ?_⟩
                refine ⟨HSub.refl _, ?_⟩
                refine HY 13 rfl (HSub.refl _) rfl (y_pick_t rfl rfl) ?_
                refine H_done (by kernel_rfl) ?_
                refine C_cond rfl (fun hc3 => ?_) (fun hc3 => ?_)
                · have hpt : (upP a d3) d3[t]! = true := hc3
                  refine C_skip (C_block (C_region (LY rfl (y_move rfl) ?_)))
                  refine LY rfl (y_add rfl rfl (show _ = ((t + 1 : Nat) : Int) from by rw [wi64 (by omega) (by omega)]; omega)) ?_
                  refine LY rfl (y_assign rfl) (L_nil ?_)
                  exact ⟨t + 1, ⟨by omega, by omega, by omega, by rw [← hts, su_go hle hpt]⟩, by omega, ⟨rfl, rfl, rfl, rfl, rfl, trivial⟩, ((hsub (.cons_cons _ (.refl _))).trans (hsub_pick [0] rfl))⟩
                · have hfin := hts.symm.trans (su_stop (p := (upP a d3)) (d := d3) (.inr hc3))
                  refine C_exit ?_
                  exact ⟨t, ⟨ht1, ht2, ht3, hfin⟩, ⟨rfl, rfl, rfl, rfl, rfl, trivial⟩, ((hsub (.cons_cons _ (.refl _))).trans (hsub_pick [0] rfl))⟩
              · have hle : ¬ t ≤ v := by have := of_decide_eq_false hg13_4; omega
                have hfin := hts.symm.trans (su_stop (p := (upP a d3)) (d := d3) (.inl hle))
                refine HK 4 rfl (HSub.refl _) rfl ?_
                refine HK 5 rfl (HSub.refl _) rfl ?_
                refine HK 6 rfl (HSub.refl _) rfl ?_
                refine HK 7 rfl (HSub.refl _) rfl ?_
                refine HK 8 rfl (HSub.refl _) rfl ?_
                refine HK 9 rfl (HSub.refl _) rfl ?_
                refine HK 10 rfl (HSub.refl _) rfl ?_
                refine HK 11 rfl (HSub.refl _) rfl ?_
                refine HK 12 rfl (HSub.refl _) rfl ?_
                refine HY 13 rfl (HSub.refl _) rfl (y_pick_f rfl rfl) ?_
                refine H_done (by kernel_rfl) ?_
                refine C_cond_f rfl (C_exit ?_)
                exact ⟨t, ⟨ht1, ht2, ht3, hfin⟩, ⟨rfl, rfl, rfl, rfl, rfl, trivial⟩, ((hsub (.cons_cons _ (.refl _))).trans (hsub_pick [0] rfl))⟩
            · rename Nat => u2
              obtain ⟨qu20, qu21, qu22, hu2⟩ := ht
              refine C_cutG (ι := Nat) (fun t => t < b ∧ t ≤ v ∧ Go.Sort.scanDown (dnP a d3) d3 u2 v = t) (fun t => [(0, (.slice (some ⟨sb, 0, none⟩) n cap)), (1, .int .i64 ((a : Nat) : Int)), (2, .int .i64 ((b : Nat) : Int)), (10, .int .i64 ((u2 : Nat) : Int)), (11, .int .i64 ((t : Nat) : Int))]) (fun t => useg 48 sb d3 sp :: H) ?_ (fun t ht => ?_)
              · refine C_block ?_
                refine C_loop (ι := Nat) (fun t => [(0, (.slice (some ⟨sb, 0, none⟩) n cap)), (1, .int .i64 ((a : Nat) : Int)), (2, .int .i64 ((b : Nat) : Int)), (10, .int .i64 ((u2 : Nat) : Int)), (11, .int .i64 ((t : Nat) : Int))]) (fun t => useg 48 sb d3 sp :: H) (fun t => t < b ∧ t ≤ v ∧ Go.Sort.scanDown (dnP a d3) d3 u2 t = Go.Sort.scanDown (dnP a d3) d3 u2 v) (fun t => t) v (by refine ⟨by omega, by omega, rfl⟩ <;> omega) ⟨rfl, rfl, rfl, rfl, rfl, trivial⟩ ((hsub (.cons_cons _ (.refl _))).trans (hsub_pick [0] rfl)) (fun t ht => ?_)
                obtain ⟨ht1, ht2, hts⟩ := ht
                refine C_seq (C_seq ?_)
                refine C_regionH0 (by kernel_rfl) ?_
                refine HY 0 rfl (HSub.refl _) rfl (y_move rfl) ?_
                refine HY 1 rfl (HSub.refl _) rfl (y_move rfl) ?_
                refine HY 2 rfl (HSub.refl _) rfl (y_leq rfl rfl) ?_
                refine HY 3 rfl (HSub.refl _) rfl (y_move rfl) ?_
                refine H_case 118 rfl (fun hg15_4 => ?_) (fun hg15_4 => ?_)
                · have hle : u2 ≤ t := by have := of_decide_eq_true hg15_4; omega
                  refine HY 4 rfl (HSub.refl _) rfl (y_move rfl) ?_
                  refine HY 5 rfl (HSub.refl _) rfl (y_move rfl) ?_
                  refine HY 6 rfl (HSub.refl _) rfl (y_indexS rfl rfl Try.underlying33 sz_48 (by omega) (by omega) (ix0 (t))) ?_
                  refine HY 7 rfl (HSub.refl _) rfl (y_load rfl ag_48 (sees 0 0 rfl) (us_at (by omega))) ?_
                  refine HY 8 rfl (HSub.refl _) rfl (y_move rfl) ?_
                  refine HY 9 rfl (HSub.refl _) rfl (y_move rfl) ?_
                  refine HY 10 rfl (HSub.refl _) rfl (y_indexS rfl rfl Try.underlying33 sz_48 (by omega) (by omega) (ix0 (a))) ?_
                  refine HY 11 rfl (HSub.refl _) rfl (y_load rfl ag_48 (sees 0 0 rfl) (us_at (by omega))) ?_
                  refine H_one 12 rfl (by kernel_rfl) rfl (op_call rfl rfl (fun a w => Try.call89 a w) rfl ?_)
                  refine (less_u (d3[t]!) (d3[a]!)).mono ?_
                  rintro _ _ ⟨rfl, e⟩
                  obtain rfl := e.symm
                  clear e
                  refine ⟨_, rfl, ?_⟩
                  refine ⟨HSub.refl _, ?_⟩
                  refine HY 13 rfl (HSub.refl _) rfl (y_not rfl) ?_
                  refine HY 14 rfl (HSub.refl _) rfl (y_pick_t rfl rfl) ?_
                  refine H_done (by kernel_rfl) ?_
                  refine C_cond rfl (fun hc4 => ?_) (fun hc4 => ?_)
                  · have hpt : (dnP a d3) d3[t]! = true := hc4
                    refine C_skip (C_block (C_region (LY rfl (y_move rfl) ?_)))
                    refine LY rfl (y_sub rfl rfl (show _ = ((t - 1 : Nat) : Int) from by rw [wi64 (by omega) (by omega)]; omega)) ?_
                    refine LY rfl (y_assign rfl) (L_nil ?_)
                    exact ⟨t - 1, ⟨by omega, by omega, by rw [← hts, sn_go hle (by omega) hpt]⟩, by omega, ⟨rfl, rfl, rfl, rfl, rfl, trivial⟩, ((hsub (.cons_cons _ (.refl _))).trans (hsub_pick [0] rfl))⟩
                  · have hfin := hts.symm.trans (sn_stop (p := (dnP a d3)) (d := d3) (.inr hc4))
                    refine C_exit ?_
                    exact ⟨t, ⟨ht1, ht2, hfin⟩, ⟨rfl, rfl, rfl, rfl, rfl, trivial⟩, ((hsub (.cons_cons _ (.refl _))).trans (hsub_pick [0] rfl))⟩
                · have hle : ¬ u2 ≤ t := by have := of_decide_eq_false hg15_4; omega
                  have hfin := hts.symm.trans (sn_stop (p := (dnP a d3)) (d := d3) (.inl hle))
                  refine HK 4 rfl (HSub.refl _) rfl ?_
                  refine HK 5 rfl (HSub.refl _) rfl ?_
                  refine HK 6 rfl (HSub.refl _) rfl ?_
                  refine HK 7 rfl (HSub.refl _) rfl ?_
                  refine HK 8 rfl (HSub.refl _) rfl ?_
                  refine HK 9 rfl (HSub.refl _) rfl ?_
                  refine HK 10 rfl (HSub.refl _) rfl ?_
                  refine HK 11 rfl (HSub.refl _) rfl ?_
                  refine HK 12 rfl (HSub.refl _) rfl ?_
                  refine HK 13 rfl (HSub.refl _) rfl ?_
                  refine HY 14 rfl (HSub.refl _) rfl (y_pick_f rfl rfl) ?_
                  refine H_done (by kernel_rfl) ?_
                  refine C_cond_f rfl (C_exit ?_)
                  exact ⟨t, ⟨ht1, ht2, hfin⟩, ⟨rfl, rfl, rfl, rfl, rfl, trivial⟩, ((hsub (.cons_cons _ (.refl _))).trans (hsub_pick [0] rfl))⟩
              · rename Nat => v2
                obtain ⟨qv20, qv21, hv2⟩ := ht
                refine C_seq (C_seq (C_region (LY rfl (y_move rfl) (LY rfl (y_move rfl) ?_))))
                refine LY rfl (y_gtr rfl rfl) ?_
                refine L_nil ?_
                refine C_cond rfl (fun hc5 => ?_) (fun hc5 => ?_)
                · replace hc5 : v2 < u2 := by have := of_decide_eq_true hc5; omega
                  refine C_exit (C_seq ?_)
                  refine C_regionH H (by kernel_rfl) ?_
                  refine HY 0 rfl ((hsub (.cons _ (.refl _)))) rfl (y_move rfl) ?_
                  refine HY 1 rfl ((hsub (.cons _ (.refl _)))) rfl (y_move rfl) ?_
                  refine HY 2 rfl ((hsub (.cons _ (.refl _)))) rfl (y_move rfl) ?_
                  refine HY 3 rfl ((hsub (.cons _ (.refl _)))) rfl (y_move rfl) ?_
                  refine HY 4 rfl ((hsub (.cons _ (.refl _)))) rfl (y_move rfl) ?_
                  refine HY 5 rfl ((hsub (.cons _ (.refl _)))) rfl (y_move rfl) ?_
                  refine HY 6 rfl ((hsub (.cons _ (.refl _)))) rfl (y_indexS rfl rfl Try.underlying33 sz_48 (by omega) (by omega) (ix0 (a))) ?_
                  refine HY 8 rfl ((hsub (.cons _ (.refl _)))) rfl (y_move rfl) ?_
                  refine HY 9 rfl ((hsub (.cons _ (.refl _)))) rfl (y_move rfl) ?_
                  refine HY 10 rfl ((hsub (.cons _ (.refl _)))) rfl (y_indexS rfl rfl Try.underlying33 sz_48 (by omega) (by omega) (ix0 (v2))) ?_
                  refine H_two 7 11 rfl rfl (by kernel_rfl) rfl rfl ?_ ?_
                  · refine op_y (y_load rfl ag_48 (sees 0 0 rfl) (us_at (by omega))) rfl ?_
                    refine ⟨(hsub (.cons _ (.refl _))), ?_⟩
                    refine H_one 11 rfl (by kernel_rfl) rfl (op_y (y_load rfl ag_48 (sees 0 0 rfl) (us_at (by omega))) rfl ?_)
                    refine ⟨(hsub (.cons _ (.refl _))), ?_⟩
                    refine HY 12 rfl ((hsub (.cons _ (.refl _)))) rfl (y_indexS rfl rfl Try.underlying33 sz_48 (by omega) (by omega) (ix0 (v2))) ?_
                    refine H_one 13 rfl (by kernel_rfl) rfl (op_store1 0 0 rfl rfl rfl sz_48 rfl (us_lt (by omega)) ?_)
                    refine ⟨(hsub (.cons _ (.refl _))), ?_⟩
                    refine HY 14 rfl ((hsub (.cons _ (.refl _)))) rfl (y_indexS rfl rfl Try.underlying33 sz_48 (by omega) (by omega) (ix0 (a))) ?_
                    refine H_one 15 rfl (by kernel_rfl) rfl (op_store1 0 0 rfl rfl rfl sz_48 rfl (by rw [List.length_set]; exact us_lt (by omega)) ?_)
                    refine ⟨(hsub (.cons _ (.refl _))), ?_⟩
                    refine H_done (by kernel_rfl) ?_
                    rw [us_swp (by omega) (by omega)]
                    refine C_seq (C_region (LY rfl (y_move rfl) (LY rfl (y_assign rfl) (LY rfl (y_assign rfl) (L_nil (C_ret ?_))))))
                    refine B_ret (rv_tmp rfl (rv_tmp rfl rv_nil)) ((hsub (.cons_cons _ (.refl _))).trans (hsub_pick [0] rfl)) ?_
                    first
                    | (rw [pt_t hd1 hi hj hc2]; exact ⟨rfl, rfl⟩)
                    | (rw [pt_f (j2 := v2) (d2 := d3) hd1 hi hj hc2 (by rw [← hd2, ← hr3]; exact pl_stop hu2 hv2 hc5)]; exact ⟨rfl, rfl⟩)
                  · refine op_y (y_load rfl ag_48 (sees 0 0 rfl) (us_at (by omega))) rfl ?_
                    refine ⟨(hsub (.cons _ (.refl _))), ?_⟩
                    refine H_one 7 rfl (by kernel_rfl) rfl (op_y (y_load rfl ag_48 (sees 0 0 rfl) (us_at (by omega))) rfl ?_)
                    refine ⟨(hsub (.cons _ (.refl _))), ?_⟩
                    refine HY 12 rfl ((hsub (.cons _ (.refl _)))) rfl (y_indexS rfl rfl Try.underlying33 sz_48 (by omega) (by omega) (ix0 (v2))) ?_
                    refine H_one 13 rfl (by kernel_rfl) rfl (op_store1 0 0 rfl rfl rfl sz_48 rfl (us_lt (by omega)) ?_)
                    refine ⟨(hsub (.cons _ (.refl _))), ?_⟩
                    refine HY 14 rfl ((hsub (.cons _ (.refl _)))) rfl (y_indexS rfl rfl Try.underlying33 sz_48 (by omega) (by omega) (ix0 (a))) ?_
                    refine H_one 15 rfl (by kernel_rfl) rfl (op_store1 0 0 rfl rfl rfl sz_48 rfl (by rw [List.length_set]; exact us_lt (by omega)) ?_)
                    refine ⟨(hsub (.cons _ (.refl _))), ?_⟩
                    refine H_done (by kernel_rfl) ?_
                    rw [us_swp (by omega) (by omega)]
                    refine C_seq (C_region (LY rfl (y_move rfl) (LY rfl (y_assign rfl) (LY rfl (y_assign rfl) (L_nil (C_ret ?_))))))
                    refine B_ret (rv_tmp rfl (rv_tmp rfl rv_nil)) ((hsub (.cons_cons _ (.refl _))).trans (hsub_pick [0] rfl)) ?_
                    first
                    | (rw [pt_t hd1 hi hj hc2]; exact ⟨rfl, rfl⟩)
                    | (rw [pt_f (j2 := v2) (d2 := d3) hd1 hi hj hc2 (by rw [← hd2, ← hr3]; exact pl_stop hu2 hv2 hc5)]; exact ⟨rfl, rfl⟩)
                · replace hc5 : ¬ v2 < u2 := by have := of_decide_eq_false hc5; omega
                  refine C_skip (C_seq ?_)
                  refine C_regionH H (by kernel_rfl) ?_
                  refine HY 0 rfl ((hsub (.cons _ (.refl _)))) rfl (y_move rfl) ?_
                  refine HY 1 rfl ((hsub (.cons _ (.refl _)))) rfl (y_move rfl) ?_
                  refine HY 2 rfl ((hsub (.cons _ (.refl _)))) rfl (y_move rfl) ?_
                  refine HY 3 rfl ((hsub (.cons _ (.refl _)))) rfl (y_move rfl) ?_
                  refine HY 4 rfl ((hsub (.cons _ (.refl _)))) rfl (y_move rfl) ?_
                  refine HY 5 rfl ((hsub (.cons _ (.refl _)))) rfl (y_move rfl) ?_
                  refine HY 6 rfl ((hsub (.cons _ (.refl _)))) rfl (y_indexS rfl rfl Try.underlying33 sz_48 (by omega) (by omega) (ix0 (v2))) ?_
                  refine HY 8 rfl ((hsub (.cons _ (.refl _)))) rfl (y_move rfl) ?_
                  refine HY 9 rfl ((hsub (.cons _ (.refl _)))) rfl (y_move rfl) ?_
                  refine HY 10 rfl ((hsub (.cons _ (.refl _)))) rfl (y_indexS rfl rfl Try.underlying33 sz_48 (by omega) (by omega) (ix0 (u2))) ?_
                  refine H_two 7 11 rfl rfl (by kernel_rfl) rfl rfl ?_ ?_
                  · refine op_y (y_load rfl ag_48 (sees 0 0 rfl) (us_at (by omega))) rfl ?_
                    refine ⟨(hsub (.cons _ (.refl _))), ?_⟩
                    refine H_one 11 rfl (by kernel_rfl) rfl (op_y (y_load rfl ag_48 (sees 0 0 rfl) (us_at (by omega))) rfl ?_)
                    refine ⟨(hsub (.cons _ (.refl _))), ?_⟩
                    refine HY 12 rfl ((hsub (.cons _ (.refl _)))) rfl (y_indexS rfl rfl Try.underlying33 sz_48 (by omega) (by omega) (ix0 (u2))) ?_
                    refine H_one 13 rfl (by kernel_rfl) rfl (op_store1 0 0 rfl rfl rfl sz_48 rfl (us_lt (by omega)) ?_)
                    refine ⟨(hsub (.cons _ (.refl _))), ?_⟩
                    refine HY 14 rfl ((hsub (.cons _ (.refl _)))) rfl (y_indexS rfl rfl Try.underlying33 sz_48 (by omega) (by omega) (ix0 (v2))) ?_
                    refine H_one 15 rfl (by kernel_rfl) rfl (op_store1 0 0 rfl rfl rfl sz_48 rfl (by rw [List.length_set]; exact us_lt (by omega)) ?_)
                    refine ⟨(hsub (.cons _ (.refl _))), ?_⟩
                    refine H_done (by kernel_rfl) ?_
                    rw [us_swp (by omega) (by omega)]
                    refine C_seq (C_region (LY rfl (y_move rfl) ?_))
                    refine LY rfl (y_add rfl rfl (show _ = ((u2 + 1 : Nat) : Int) from by rw [wi64 (by omega) (by omega)]; omega)) ?_
                    refine LY rfl (y_assign rfl) (L_nil (C_region (LY rfl (y_move rfl) ?_)))
                    refine LY rfl (y_sub rfl rfl (show _ = ((v2 - 1 : Nat) : Int) from by rw [wi64 (by omega) (by omega)]; omega)) ?_
                    refine LY rfl (y_assign rfl) (L_nil ?_)
                    exact ⟨(Go.Sort.swp d3 u2 v2, u2 + 1, v2 - 1), ⟨by simp only; rw [swp_size]; exact hs3, by simp only; omega, by simp only; omega, by simp only; omega, by simp only; rw [← hr3, pl_go hu2 hv2 hc5]⟩, by simp only; omega, ⟨rfl, rfl, rfl, rfl, rfl, trivial⟩, ((hsub (.cons_cons _ (.refl _))).trans (hsub_pick [0] rfl))⟩
                  · refine op_y (y_load rfl ag_48 (sees 0 0 rfl) (us_at (by omega))) rfl ?_
                    refine ⟨(hsub (.cons _ (.refl _))), ?_⟩
                    refine H_one 7 rfl (by kernel_rfl) rfl (op_y (y_load rfl ag_48 (sees 0 0 rfl) (us_at (by omega))) rfl ?_)
                    refine ⟨(hsub (.cons _ (.refl _))), ?_⟩
                    refine HY 12 rfl ((hsub (.cons _ (.refl _)))) rfl (y_indexS rfl rfl Try.underlying33 sz_48 (by omega) (by omega) (ix0 (u2))) ?_
                    refine H_one 13 rfl (by kernel_rfl) rfl (op_store1 0 0 rfl rfl rfl sz_48 rfl (us_lt (by omega)) ?_)
                    refine ⟨(hsub (.cons _ (.refl _))), ?_⟩
                    refine HY 14 rfl ((hsub (.cons _ (.refl _)))) rfl (y_indexS rfl rfl Try.underlying33 sz_48 (by omega) (by omega) (ix0 (v2))) ?_
                    refine H_one 15 rfl (by kernel_rfl) rfl (op_store1 0 0 rfl rfl rfl sz_48 rfl (by rw [List.length_set]; exact us_lt (by omega)) ?_)
                    refine ⟨(hsub (.cons _ (.refl _))), ?_⟩
                    refine H_done (by kernel_rfl) ?_
                    rw [us_swp (by omega) (by omega)]
                    refine C_seq (C_region (LY rfl (y_move rfl) ?_))
                    refine LY rfl (y_add rfl rfl (show _ = ((u2 + 1 : Nat) : Int) from by rw [wi64 (by omega) (by omega)]; omega)) ?_
                    refine LY rfl (y_assign rfl) (L_nil (C_region (LY rfl (y_move rfl) ?_)))
                    refine LY rfl (y_sub rfl rfl (show _ = ((v2 - 1 : Nat) : Int) from by rw [wi64 (by omega) (by omega)]; omega)) ?_
                    refine LY rfl (y_assign rfl) (L_nil ?_)
                    exact ⟨(Go.Sort.swp d3 u2 v2, u2 + 1, v2 - 1), ⟨by simp only; rw [swp_size]; exact hs3, by simp only; omega, by simp only; omega, by simp only; omega, by simp only; rw [← hr3, pl_go hu2 hv2 hc5]⟩, by simp only; omega, ⟨rfl, rfl, rfl, rfl, rfl, trivial⟩, ((hsub (.cons_cons _ (.refl _))).trans (hsub_pick [0] rfl))⟩

set_option maxHeartbeats 2000000 in

theorem parteq_u {w0 : World} {H : Hp} {sb n cap : Nat} {sp : List Value} (d : Array Nat) (hd : d.size = n) (hn : n < 4611686018427387904) (a b pivot : Nat) (hap : a ≤ pivot) (hpb : pivot < b) (hb : b ≤ n) : FnS Try.prog w0 90 #[(.slice (some ⟨sb, 0, none⟩) n cap), .int .i64 ((a : Nat) : Int), .int .i64 ((b : Nat) : Int), .int .i64 ((pivot : Nat) : Int)] (useg 48 sb d sp :: H) (fun e H' => e = .returned (.int .i64 ((Go.Sort.partitionEqual ltN d a b pivot).1 : Int)) ∧ H' = useg 48 sb (Go.Sort.partitionEqual ltN d a b pivot).2 sp :: H) := by
  refine FnS_intro (n := 84) (rs := [.tmp 8]) (vs := [(.slice (some ⟨sb, 0, none⟩) n cap), .int .i64 ((a : Nat) : Int), .int .i64 ((b : Nat) : Int), .int .i64 ((pivot : Nat) : Int)]) Try.func90 rfl Try.ntmps90 rfl rfl ?_
  refine C_seq (C_region (LY rfl (y_assign rfl) (L_nil (C_seq ?_))))
  refine C_regionH H (by kernel_rfl) ?_
  refine HY 0 rfl ((hsub (.cons _ (.refl _)))) rfl (y_move rfl) ?_
  refine HY 1 rfl ((hsub (.cons _ (.refl _)))) rfl (y_move rfl) ?_
  refine HY 2 rfl ((hsub (.cons _ (.refl _)))) rfl (y_move rfl) ?_
  refine HY 3 rfl ((hsub (.cons _ (.refl _)))) rfl (y_move rfl) ?_
  refine HY 4 rfl ((hsub (.cons _ (.refl _)))) rfl (y_move rfl) ?_
  refine HY 5 rfl ((hsub (.cons _ (.refl _)))) rfl (y_move rfl) ?_
  refine HY 6 rfl ((hsub (.cons _ (.refl _)))) rfl (y_indexS rfl rfl Try.underlying33 sz_48 (by omega) (by omega) (ix0 (pivot))) ?_
  refine HY 8 rfl ((hsub (.cons _ (.refl _)))) rfl (y_move rfl) ?_
  refine HY 9 rfl ((hsub (.cons _ (.refl _)))) rfl (y_move rfl) ?_
  refine HY 10 rfl ((hsub (.cons _ (.refl _)))) rfl (y_indexS rfl rfl Try.underlying33 sz_48 (by omega) (by omega) (ix0 (a))) ?_
  refine H_two 7 11 rfl rfl (by kernel_rfl) rfl rfl ?_ ?_
  · refine op_y (y_load rfl ag_48 (sees 0 0 rfl) (us_at (by omega))) rfl ?_
    refine ⟨(hsub (.cons _ (.refl _))), ?_⟩
    refine H_one 11 rfl (by kernel_rfl) rfl (op_y (y_load rfl ag_48 (sees 0 0 rfl) (us_at (by omega))) rfl ?_)
    refine ⟨(hsub (.cons _ (.refl _))), ?_⟩
    refine HY 12 rfl ((hsub (.cons _ (.refl _)))) rfl (y_indexS rfl rfl Try.underlying33 sz_48 (by omega) (by omega) (ix0 (a))) ?_
    refine H_one 13 rfl (by kernel_rfl) rfl (op_store1 0 0 rfl rfl rfl sz_48 rfl (us_lt (by omega)) ?_)
    refine ⟨(hsub (.cons _ (.refl _))), ?_⟩
    refine HY 14 rfl ((hsub (.cons _ (.refl _)))) rfl (y_indexS rfl rfl Try.underlying33 sz_48 (by omega) (by omega) (ix0 (pivot))) ?_
    refine H_one 15 rfl (by kernel_rfl) rfl (op_store1 0 0 rfl rfl rfl sz_48 rfl (by rw [List.length_set]; exact us_lt (by omega)) ?_)
    refine ⟨(hsub (.cons _ (.refl _))), ?_⟩
    refine H_done (by kernel_rfl) ?_
    rw [us_swp (by omega) (by omega)]
    obtain ⟨d1, hd1⟩ : ∃ y, y = Go.Sort.swp d a pivot := ⟨_, rfl⟩
    rw [← hd1]
    have hsd1 : d1.size = n := by rw [hd1, swp_size]; omega
    refine C_seq (C_region (LY rfl (y_move rfl) ?_))
    refine LY rfl (y_add rfl rfl (show _ = ((a + 1 : Nat) : Int) from by rw [wi64 (by omega) (by omega)]; omega)) ?_
    refine LY rfl (y_move rfl) ?_
    refine LY rfl (y_sub rfl rfl (show _ = ((b - 1 : Nat) : Int) from by rw [wi64 (by omega) (by omega)]; omega)) ?_
    refine LY rfl (y_assign rfl) (LY rfl (y_assign rfl) (L_nil (C_seq (C_block ?_))))
    refine C_loop (ι := Array Nat × Nat × Nat) (fun x => [(0, (.slice (some ⟨sb, 0, none⟩) n cap)), (1, .int .i64 ((a : Nat) : Int)), (2, .int .i64 ((b : Nat) : Int)), (9, .int .i64 ((x.2.1 : Nat) : Int)), (10, .int .i64 ((x.2.2 : Nat) : Int))]) (fun x => useg 48 sb x.1 sp :: H) (fun x => x.1.size = n ∧ a < x.2.1 ∧ x.2.1 ≤ b ∧ x.2.2 < b ∧ Go.Sort.partEqLoop ltN a x.2.1 x.2.2 x.1 = Go.Sort.partitionEqual ltN d a b pivot) (fun x => x.2.2 + 1 - x.2.1) (d1, a + 1, b - 1) ⟨hsd1, by simp only; omega, by simp only; omega, by simp only; omega, (pq_eq hd1).symm⟩ ⟨rfl, rfl, rfl, rfl, rfl, trivial⟩ ((hsub (.cons_cons _ (.refl _))).trans (hsub_pick [0] rfl)) (fun x hx => ?_)
    obtain ⟨d3, u, v⟩ := x
    obtain ⟨hs3, hu1, hu2, hv1, hr3⟩ := hx
    try simp only at hs3 hu1 hu2 hv1 hr3
    try dsimp only
    refine C_block ?_
    refine C_cutG (ι := Nat) (fun t => a < t ∧ t ≤ b ∧ u ≤ t ∧ Go.Sort.scanUp (upE a d3) d3 v u = t) (fun t => [(0, (.slice (some ⟨sb, 0, none⟩) n cap)), (1, .int .i64 ((a : Nat) : Int)), (2, .int .i64 ((b : Nat) : Int)), (9, .int .i64 ((t : Nat) : Int)), (10, .int .i64 ((v : Nat) : Int))]) (fun t => useg 48 sb d3 sp :: H) ?_ (fun t ht => ?_)
    · refine C_block ?_
      refine C_loop (ι := Nat) (fun t => [(0, (.slice (some ⟨sb, 0, none⟩) n cap)), (1, .int .i64 ((a : Nat) : Int)), (2, .int .i64 ((b : Nat) : Int)), (9, .int .i64 ((t : Nat) : Int)), (10, .int .i64 ((v : Nat) : Int))]) (fun t => useg 48 sb d3 sp :: H) (fun t => a < t ∧ t ≤ b ∧ u ≤ t ∧ Go.Sort.scanUp (upE a d3) d3 v t = Go.Sort.scanUp (upE a d3) d3 v u) (fun t => v + 1 - t) u (by refine ⟨by omega, by omega, by omega, rfl⟩ <;> omega) ⟨rfl, rfl, rfl, rfl, rfl, trivial⟩ ((hsub (.cons_cons _ (.refl _))).trans (hsub_pick [0] rfl)) (fun t ht => ?_)
      obtain ⟨ht1, ht2, ht3, hts⟩ := ht
      refine C_seq (C_seq ?_)
      refine C_regionH0 (by kernel_rfl) ?_
      refine HY 0 rfl (HSub.refl _) rfl (y_move rfl) ?_
      refine HY 1 rfl (HSub.refl _) rfl (y_move rfl) ?_
      refine HY 2 rfl (HSub.refl _) rfl (y_leq rfl rfl) ?_
      refine HY 3 rfl (HSub.refl _) rfl (y_move rfl) ?_
      refine H_case 32 rfl (fun hg3_4 => ?_) (fun hg3_4 => ?_)
      · have hle : t ≤ v := by have := of_decide_eq_true hg3_4; omega
        refine HY 4 rfl (HSub.refl _) rfl (y_move rfl) ?_
        refine HY 5 rfl (HSub.refl _) rfl (y_move rfl) ?_
        refine HY 6 rfl (HSub.refl _) rfl (y_indexS rfl rfl Try.underlying33 sz_48 (by omega) (by omega) (ix0 (a))) ?_
        refine HY 7 rfl (HSub.refl _) rfl (y_load rfl ag_48 (sees 0 0 rfl) (us_at (by omega))) ?_
        refine HY 8 rfl (HSub.refl _) rfl (y_move rfl) ?_
        refine HY 9 rfl (HSub.refl _) rfl (y_move rfl) ?_
        refine HY 10 rfl (HSub.refl _) rfl (y_indexS rfl rfl Try.underlying33 sz_48 (by omega) (by omega) (ix0 (t))) ?_
        refine HY 11 rfl (HSub.refl _) rfl (y_load rfl ag_48 (sees 0 0 rfl) (us_at (by omega))) ?_
        refine H_one 12 rfl (by kernel_rfl) rfl (op_call rfl rfl (fun a w => Try.call89 a w) rfl ?_)
        refine (less_u (d3[a]!) (d3[t]!)).mono ?_
        rintro _ _ ⟨rfl, e⟩
        obtain rfl := e.symm
        clear e
        refine ⟨_, rfl, ?_⟩
        refine ⟨HSub.refl _, ?_⟩
        refine HY 13 rfl (HSub.refl _) rfl (y_not rfl) ?_
        refine HY 14 rfl (HSub.refl _) rfl (y_pick_t rfl rfl) ?_
        refine H_done (by kernel_rfl) ?_
        refine C_cond rfl (fun hc0 => ?_) (fun hc0 => ?_)
        · have hpt : (upE a d3) d3[t]! = true := hc0
          refine C_skip (C_block (C_region (LY rfl (y_move rfl) ?_)))
          refine LY rfl (y_add rfl rfl (show _ = ((t + 1 : Nat) : Int) from by rw [wi64 (by omega) (by omega)]; omega)) ?_
          refine LY rfl (y_assign rfl) (L_nil ?_)
          exact ⟨t + 1, ⟨by omega, by omega, by omega, by rw [← hts, su_go hle hpt]⟩, by omega, ⟨rfl, rfl, rfl, rfl, rfl, trivial⟩, ((hsub (.cons_cons _ (.refl _))).trans (hsub_pick [0] rfl))⟩
        · have hfin := hts.symm.trans (su_stop (p := (upE a d3)) (d := d3) (.inr hc0))
          refine C_exit ?_
          exact ⟨t, ⟨ht1, ht2, ht3, hfin⟩, ⟨rfl, rfl, rfl, rfl, rfl, trivial⟩, ((hsub (.cons_cons _ (.refl _))).trans (hsub_pick [0] rfl))⟩
      · have hle : ¬ t ≤ v := by have := of_decide_eq_false hg3_4; omega
        have hfin := hts.symm.trans (su_stop (p := (upE a d3)) (d := d3) (.inl hle))
        refine HK 4 rfl (HSub.refl _) rfl ?_
        refine HK 5 rfl (HSub.refl _) rfl ?_
        refine HK 6 rfl (HSub.refl _) rfl ?_
        refine HK 7 rfl (HSub.refl _) rfl ?_
        refine HK 8 rfl (HSub.refl _) rfl ?_
        refine HK 9 rfl (HSub.refl _) rfl ?_
        refine HK 10 rfl (HSub.refl _) rfl ?_
        refine HK 11 rfl (HSub.refl _) rfl ?_
        refine HK 12 rfl (HSub.refl _) rfl ?_
        refine HK 13 rfl (HSub.refl _) rfl ?_
        refine HY 14 rfl (HSub.refl _) rfl (y_pick_f rfl rfl) ?_
        refine H_done (by kernel_rfl) ?_
        refine C_cond_f rfl (C_exit ?_)
        exact ⟨t, ⟨ht1, ht2, ht3, hfin⟩, ⟨rfl, rfl, rfl, rfl, rfl, trivial⟩, ((hsub (.cons_cons _ (.refl _))).trans (hsub_pick [0] rfl))⟩
    · rename Nat => u2
      obtain ⟨qu20, qu21, qu22, hu2⟩ := ht
      refine C_cutG (ι := Nat) (fun t => t < b ∧ t ≤ v ∧ Go.Sort.scanDown (dnE a d3) d3 u2 v = t) (fun t => [(0, (.slice (some ⟨sb, 0, none⟩) n cap)), (1, .int .i64 ((a : Nat) : Int)), (2, .int .i64 ((b : Nat) : Int)), (9, .int .i64 ((u2 : Nat) : Int)), (10, .int .i64 ((t : Nat) : Int))]) (fun t => useg 48 sb d3 sp :: H) ?_ (fun t ht => ?_)
      · refine C_block ?_
        refine C_loop (ι := Nat) (fun t => [(0, (.slice (some ⟨sb, 0, none⟩) n cap)), (1, .int .i64 ((a : Nat) : Int)), (2, .int .i64 ((b : Nat) : Int)), (9, .int .i64 ((u2 : Nat) : Int)), (10, .int .i64 ((t : Nat) : Int))]) (fun t => useg 48 sb d3 sp :: H) (fun t => t < b ∧ t ≤ v ∧ Go.Sort.scanDown (dnE a d3) d3 u2 t = Go.Sort.scanDown (dnE a d3) d3 u2 v) (fun t => t) v (by refine ⟨by omega, by omega, rfl⟩ <;> omega) ⟨rfl, rfl, rfl, rfl, rfl, trivial⟩ ((hsub (.cons_cons _ (.refl _))).trans (hsub_pick [0] rfl)) (fun t ht => ?_)
        obtain ⟨ht1, ht2, hts⟩ := ht
        refine C_seq (C_seq ?_)
        refine C_regionH0 (by kernel_rfl) ?_
        refine HY 0 rfl (HSub.refl _) rfl (y_move rfl) ?_
        refine HY 1 rfl (HSub.refl _) rfl (y_move rfl) ?_
        refine HY 2 rfl (HSub.refl _) rfl (y_leq rfl rfl) ?_
        refine HY 3 rfl (HSub.refl _) rfl (y_move rfl) ?_
        refine H_case 49 rfl (fun hg5_4 => ?_) (fun hg5_4 => ?_)
        · have hle : u2 ≤ t := by have := of_decide_eq_true hg5_4; omega
          refine HY 4 rfl (HSub.refl _) rfl (y_move rfl) ?_
          refine HY 5 rfl (HSub.refl _) rfl (y_move rfl) ?_
          refine HY 6 rfl (HSub.refl _) rfl (y_indexS rfl rfl Try.underlying33 sz_48 (by omega) (by omega) (ix0 (a))) ?_
          refine HY 7 rfl (HSub.refl _) rfl (y_load rfl ag_48 (sees 0 0 rfl) (us_at (by omega))) ?_
          refine HY 8 rfl (HSub.refl _) rfl (y_move rfl) ?_
          refine HY 9 rfl (HSub.refl _) rfl (y_move rfl) ?_
          refine HY 10 rfl (HSub.refl _) rfl (y_indexS rfl rfl Try.underlying33 sz_48 (by omega) (by omega) (ix0 (t))) ?_
          refine HY 11 rfl (HSub.refl _) rfl (y_load rfl ag_48 (sees 0 0 rfl) (us_at (by omega))) ?_
          refine H_one 12 rfl (by kernel_rfl) rfl (op_call rfl rfl (fun a w => Try.call89 a w) rfl ?_)
          refine (less_u (d3[a]!) (d3[t]!)).mono ?_
          rintro _ _ ⟨rfl, e⟩
          obtain rfl := e.symm
          clear e
          refine ⟨_, rfl, ?_⟩
          refine ⟨HSub.refl _, ?_⟩
          refine HY 13 rfl (HSub.refl _) rfl (y_pick_t rfl rfl) ?_
          refine H_done (by kernel_rfl) ?_
          refine C_cond rfl (fun hc1 => ?_) (fun hc1 => ?_)
          · have hpt : (dnE a d3) d3[t]! = true := hc1
            refine C_skip (C_block (C_region (LY rfl (y_move rfl) ?_)))
            refine LY rfl (y_sub rfl rfl (show _ = ((t - 1 : Nat) : Int) from by rw [wi64 (by omega) (by omega)]; omega)) ?_
            refine LY rfl (y_assign rfl) (L_nil ?_)
            exact ⟨t - 1, ⟨by omega, by omega, by rw [← hts, sn_go hle (by omega) hpt]⟩, by omega, ⟨rfl, rfl, rfl, rfl, rfl, trivial⟩, ((hsub (.cons_cons _ (.refl _))).trans (hsub_pick [0] rfl))⟩
          · have hfin := hts.symm.trans (sn_stop (p := (dnE a d3)) (d := d3) (.inr hc1))
            refine C_exit ?_
            exact ⟨t, ⟨ht1, ht2, hfin⟩, ⟨rfl, rfl, rfl, rfl, rfl, trivial⟩, ((hsub (.cons_cons _ (.refl _))).trans (hsub_pick [0] rfl))⟩
        · have hle : ¬ u2 ≤ t := by have := of_decide_eq_false hg5_4; omega
          have hfin := hts.symm.trans (sn_stop (p := (dnE a d3)) (d := d3) (.inl hle))
          refine HK 4 rfl (HSub.refl _) rfl ?_
          refine HK 5 rfl (HSub.refl _) rfl ?_
          refine HK 6 rfl (HSub.refl _) rfl ?_
          refine HK 7 rfl (HSub.refl _) rfl ?_
          refine HK 8 rfl (HSub.refl _) rfl ?_
          refine HK 9 rfl (HSub.refl _) rfl ?_
          refine HK 10 rfl (HSub.refl _) rfl ?_
          refine HK 11 rfl (HSub.refl _) rfl ?_
          refine HK 12 rfl (HSub.refl _) rfl ?_
          refine HY 13 rfl (HSub.refl _) rfl (y_pick_f rfl rfl) ?_
          refine H_done (by kernel_rfl) ?_
          refine C_cond_f rfl (C_exit ?_)
          exact ⟨t, ⟨ht1, ht2, hfin⟩, ⟨rfl, rfl, rfl, rfl, rfl, trivial⟩, ((hsub (.cons_cons _ (.refl _))).trans (hsub_pick [0] rfl))⟩
      · rename Nat => v2
        obtain ⟨qv20, qv21, hv2⟩ := ht
        refine C_seq (C_seq (C_region (LY rfl (y_move rfl) (LY rfl (y_move rfl) ?_))))
        refine LY rfl (y_gtr rfl rfl) ?_
        refine L_nil ?_
        refine C_cond rfl (fun hc2 => ?_) (fun hc2 => ?_)
        · replace hc2 : v2 < u2 := by have := of_decide_eq_true hc2; omega
          refine C_exit (C_seq (C_region (LY rfl (y_move rfl) (LY rfl (y_assign rfl) (L_nil (C_ret ?_))))))
          refine B_ret (rv_tmp rfl rv_nil) ((hsub (.cons_cons _ (.refl _))).trans (hsub_pick [0] rfl)) ?_
          rw [← hr3, pe_stop hu2 hv2 hc2]
          exact ⟨rfl, rfl⟩
        · replace hc2 : ¬ v2 < u2 := by have := of_decide_eq_false hc2; omega
          refine C_skip (C_seq ?_)
          refine C_regionH H (by kernel_rfl) ?_
          refine HY 0 rfl ((hsub (.cons _ (.refl _)))) rfl (y_move rfl) ?_
          refine HY 1 rfl ((hsub (.cons _ (.refl _)))) rfl (y_move rfl) ?_
          refine HY 2 rfl ((hsub (.cons _ (.refl _)))) rfl (y_move rfl) ?_
          refine HY 3 rfl ((hsub (.cons _ (.refl _)))) rfl (y_move rfl) ?_
          refine HY 4 rfl ((hsub (.cons _ (.refl _)))) rfl (y_move rfl) ?_
          refine HY 5 rfl ((hsub (.cons _ (.refl _)))) rfl (y_move rfl) ?_
          refine HY 6 rfl ((hsub (.cons _ (.refl _)))) rfl (y_indexS rfl rfl Try.underlying33 sz_48 (by omega) (by omega) (ix0 (v2))) ?_
          refine HY 8 rfl ((hsub (.cons _ (.refl _)))) rfl (y_move rfl) ?_
          refine HY 9 rfl ((hsub (.cons _ (.refl _)))) rfl (y_move rfl) ?_
          refine HY 10 rfl ((hsub (.cons _ (.refl _)))) rfl (y_indexS rfl rfl Try.underlying33 sz_48 (by omega) (by omega) (ix0 (u2))) ?_
          refine H_two 7 11 rfl rfl (by kernel_rfl) rfl rfl ?_ ?_
          · refine op_y (y_load rfl ag_48 (sees 0 0 rfl) (us_at (by omega))) rfl ?_
            refine ⟨(hsub (.cons _ (.refl _))), ?_⟩
            refine H_one 11 rfl (by kernel_rfl) rfl (op_y (y_load rfl ag_48 (sees 0 0 rfl) (us_at (by omega))) rfl ?_)
            refine ⟨(hsub (.cons _ (.refl _))), ?_⟩
            refine HY 12 rfl ((hsub (.cons _ (.refl _)))) rfl (y_indexS rfl rfl Try.underlying33 sz_48 (by omega) (by omega) (ix0 (u2))) ?_
            refine H_one 13 rfl (by kernel_rfl) rfl (op_store1 0 0 rfl rfl rfl sz_48 rfl (us_lt (by omega)) ?_)
            refine ⟨(hsub (.cons _ (.refl _))), ?_⟩
            refine HY 14 rfl ((hsub (.cons _ (.refl _)))) rfl (y_indexS rfl rfl Try.underlying33 sz_48 (by omega) (by omega) (ix0 (v2))) ?_
            refine H_one 15 rfl (by kernel_rfl) rfl (op_store1 0 0 rfl rfl rfl sz_48 rfl (by rw [List.length_set]; exact us_lt (by omega)) ?_)
            refine ⟨(hsub (.cons _ (.refl _))), ?_⟩
            refine H_done (by kernel_rfl) ?_
            rw [us_swp (by omega) (by omega)]
            refine C_seq (C_region (LY rfl (y_move rfl) ?_))
            refine LY rfl (y_add rfl rfl (show _ = ((u2 + 1 : Nat) : Int) from by rw [wi64 (by omega) (by omega)]; omega)) ?_
            refine LY rfl (y_assign rfl) (L_nil (C_region (LY rfl (y_move rfl) ?_)))
            refine LY rfl (y_sub rfl rfl (show _ = ((v2 - 1 : Nat) : Int) from by rw [wi64 (by omega) (by omega)]; omega)) ?_
            refine LY rfl (y_assign rfl) (L_nil ?_)
            exact ⟨(Go.Sort.swp d3 u2 v2, u2 + 1, v2 - 1), ⟨by simp only; rw [swp_size]; exact hs3, by simp only; omega, by simp only; omega, by simp only; omega, by simp only; rw [← hr3, pe_go hu2 hv2 hc2]⟩, by simp only; omega, ⟨rfl, rfl, rfl, rfl, rfl, trivial⟩, ((hsub (.cons_cons _ (.refl _))).trans (hsub_pick [0] rfl))⟩
          · refine op_y (y_load rfl ag_48 (sees 0 0 rfl) (us_at (by omega))) rfl ?_
            refine ⟨(hsub (.cons _ (.refl _))), ?_⟩
            refine H_one 7 rfl (by kernel_rfl) rfl (op_y (y_load rfl ag_48 (sees 0 0 rfl) (us_at (by omega))) rfl ?_)
            refine ⟨(hsub (.cons _ (.refl _))), ?_⟩
            refine HY 12 rfl ((hsub (.cons _ (.refl _)))) rfl (y_indexS rfl rfl Try.underlying33 sz_48 (by omega) (by omega) (ix0 (u2))) ?_
            refine H_one 13 rfl (by kernel_rfl) rfl (op_store1 0 0 rfl rfl rfl sz_48 rfl (us_lt (by omega)) ?_)
            refine ⟨(hsub (.cons _ (.refl _))), ?_⟩
            refine HY 14 rfl ((hsub (.cons _ (.refl _)))) rfl (y_indexS rfl rfl Try.underlying33 sz_48 (by omega) (by omega) (ix0 (v2))) ?_
            refine H_one 15 rfl (by kernel_rfl) rfl (op_store1 0 0 rfl rfl rfl sz_48 rfl (by rw [List.length_set]; exact us_lt (by omega)) ?_)
            refine ⟨(hsub (.cons _ (.refl _))), ?_⟩
            refine H_done (by kernel_rfl) ?_
            rw [us_swp (by omega) (by omega)]
            refine C_seq (C_region (LY rfl (y_move rfl) ?_))
            refine LY rfl (y_add rfl rfl (show _ = ((u2 + 1 : Nat) : Int) from by rw [wi64 (by omega) (by omega)]; omega)) ?_
            refine LY rfl (y_assign rfl) (L_nil (C_region (LY rfl (y_move rfl) ?_)))
            refine LY rfl (y_sub rfl rfl (show _ = ((v2 - 1 : Nat) : Int) from by rw [wi64 (by omega) (by omega)]; omega)) ?_
            refine LY rfl (y_assign rfl) (L_nil ?_)
            exact ⟨(Go.Sort.swp d3 u2 v2, u2 + 1, v2 - 1), ⟨by simp only; rw [swp_size]; exact hs3, by simp only; omega, by simp only; omega, by simp only; omega, by simp only; rw [← hr3, pe_go hu2 hv2 hc2]⟩, by simp only; omega, ⟨rfl, rfl, rfl, rfl, rfl, trivial⟩, ((hsub (.cons_cons _ (.refl _))).trans (hsub_pick [0] rfl))⟩
  · refine op_y (y_load rfl ag_48 (sees 0 0 rfl) (us_at (by omega))) rfl ?_
    refine ⟨(hsub (.cons _ (.refl _))), ?_⟩
    refine H_one 7 rfl (by kernel_rfl) rfl (op_y (y_load rfl ag_48 (sees 0 0 rfl) (us_at (by omega))) rfl ?_)
    refine ⟨(hsub (.cons _ (.refl _))), ?_⟩
    refine HY 12 rfl ((hsub (.cons _ (.refl _)))) rfl (y_indexS rfl rfl Try.underlying33 sz_48 (by omega) (by omega) (ix0 (a))) ?_
    refine H_one 13 rfl (by kernel_rfl) rfl (op_store1 0 0 rfl rfl rfl sz_48 rfl (us_lt (by omega)) ?_)
    refine ⟨(hsub (.cons _ (.refl _))), ?_⟩
    refine HY 14 rfl ((hsub (.cons _ (.refl _)))) rfl (y_indexS rfl rfl Try.underlying33 sz_48 (by omega) (by omega) (ix0 (pivot))) ?_
    refine H_one 15 rfl (by kernel_rfl) rfl (op_store1 0 0 rfl rfl rfl sz_48 rfl (by rw [List.length_set]; exact us_lt (by omega)) ?_)
    refine ⟨(hsub (.cons _ (.refl _))), ?_⟩
    refine H_done (by kernel_rfl) ?_
    rw [us_swp (by omega) (by omega)]
    obtain ⟨d1, hd1⟩ : ∃ y, y = Go.Sort.swp d a pivot := ⟨_, rfl⟩
    rw [← hd1]
    have hsd1 : d1.size = n := by rw [hd1, swp_size]; omega
    refine C_seq (C_region (LY rfl (y_move rfl) ?_))
    refine LY rfl (y_add rfl rfl (show _ = ((a + 1 : Nat) : Int) from by rw [wi64 (by omega) (by omega)]; omega)) ?_
    refine LY rfl (y_move rfl) ?_
    refine LY rfl (y_sub rfl rfl (show _ = ((b - 1 : Nat) : Int) from by rw [wi64 (by omega) (by omega)]; omega)) ?_
    refine LY rfl (y_assign rfl) (LY rfl (y_assign rfl) (L_nil (C_seq (C_block ?_))))
    refine C_loop (ι := Array Nat × Nat × Nat) (fun x => [(0, (.slice (some ⟨sb, 0, none⟩) n cap)), (1, .int .i64 ((a : Nat) : Int)), (2, .int .i64 ((b : Nat) : Int)), (9, .int .i64 ((x.2.1 : Nat) : Int)), (10, .int .i64 ((x.2.2 : Nat) : Int))]) (fun x => useg 48 sb x.1 sp :: H) (fun x => x.1.size = n ∧ a < x.2.1 ∧ x.2.1 ≤ b ∧ x.2.2 < b ∧ Go.Sort.partEqLoop ltN a x.2.1 x.2.2 x.1 = Go.Sort.partitionEqual ltN d a b pivot) (fun x => x.2.2 + 1 - x.2.1) (d1, a + 1, b - 1) ⟨hsd1, by simp only; omega, by simp only; omega, by simp only; omega, (pq_eq hd1).symm⟩ ⟨rfl, rfl, rfl, rfl, rfl, trivial⟩ ((hsub (.cons_cons _ (.refl _))).trans (hsub_pick [0] rfl)) (fun x hx => ?_)
    obtain ⟨d3, u, v⟩ := x
    obtain ⟨hs3, hu1, hu2, hv1, hr3⟩ := hx
    try simp only at hs3 hu1 hu2 hv1 hr3
    try dsimp only
    refine C_block ?_
    refine C_cutG (ι := Nat) (fun t => a < t ∧ t ≤ b ∧ u ≤ t ∧ Go.Sort.scanUp (upE a d3) d3 v u = t) (fun t => [(0, (.slice (some ⟨sb, 0, none⟩) n cap)), (1, .int .i64 ((a : Nat) : Int)), (2, .int .i64 ((b : Nat) : Int)), (9, .int .i64 ((t : Nat) : Int)), (10, .int .i64 ((v : Nat) : Int))]) (fun t => useg 48 sb d3 sp :: H) ?_ (fun t ht => ?_)
    · refine C_block ?_
      refine C_loop (ι := Nat) (fun t => [(0, (.slice (some ⟨sb, 0, none⟩) n cap)), (1, .int .i64 ((a : Nat) : Int)), (2, .int .i64 ((b : Nat) : Int)), (9, .int .i64 ((t : Nat) : Int)), (10, .int .i64 ((v : Nat) : Int))]) (fun t => useg 48 sb d3 sp :: H) (fun t => a < t ∧ t ≤ b ∧ u ≤ t ∧ Go.Sort.scanUp (upE a d3) d3 v t = Go.Sort.scanUp (upE a d3) d3 v u) (fun t => v + 1 - t) u (by refine ⟨by omega, by omega, by omega, rfl⟩ <;> omega) ⟨rfl, rfl, rfl, rfl, rfl, trivial⟩ ((hsub (.cons_cons _ (.refl _))).trans (hsub_pick [0] rfl)) (fun t ht => ?_)
      obtain ⟨ht1, ht2, ht3, hts⟩ := ht
      refine C_seq (C_seq ?_)
      refine C_regionH0 (by kernel_rfl) ?_
      refine HY 0 rfl (HSub.refl _) rfl (y_move rfl) ?_
      refine HY 1 rfl (HSub.refl _) rfl (y_move rfl) ?_
      refine HY 2 rfl (HSub.refl _) rfl (y_leq rfl rfl) ?_
      refine HY 3 rfl (HSub.refl _) rfl (y_move rfl) ?_
      refine H_case 32 rfl (fun hg3_4 => ?_) (fun hg3_4 => ?_)
      · have hle : t ≤ v := by have := of_decide_eq_true hg3_4; omega
        refine HY 4 rfl (HSub.refl _) rfl (y_move rfl) ?_
        refine HY 5 rfl (HSub.refl _) rfl (y_move rfl) ?_
        refine HY 6 rfl (HSub.refl _) rfl (y_indexS rfl rfl Try.underlying33 sz_48 (by omega) (by omega) (ix0 (a))) ?_
        refine HY 7 rfl (HSub.refl _) rfl (y_load rfl ag_48 (sees 0 0 rfl) (us_at (by omega))) ?_
        refine HY 8 rfl (HSub.refl _) rfl (y_move rfl) ?_
        refine HY 9 rfl (HSub.refl _) rfl (y_move rfl) ?_
        refine HY 10 rfl (HSub.refl _) rfl (y_indexS rfl rfl Try.underlying33 sz_48 (by omega) (by omega) (ix0 (t))) ?_
        refine HY 11 rfl (HSub.refl _) rfl (y_load rfl ag_48 (sees 0 0 rfl) (us_at (by omega))) ?_
        refine H_one 12 rfl (by kernel_rfl) rfl (op_call rfl rfl (fun a w => Try.call89 a w) rfl ?_)
        refine (less_u (d3[a]!) (d3[t]!)).mono ?_
        rintro _ _ ⟨rfl, e⟩
        obtain rfl := e.symm
        clear e
        refine ⟨_, rfl, ?_⟩
        refine ⟨HSub.refl _, ?_⟩
        refine HY 13 rfl (HSub.refl _) rfl (y_not rfl) ?_
        refine HY 14 rfl (HSub.refl _) rfl (y_pick_t rfl rfl) ?_
        refine H_done (by kernel_rfl) ?_
        refine C_cond rfl (fun hc0 => ?_) (fun hc0 => ?_)
        · have hpt : (upE a d3) d3[t]! = true := hc0
          refine C_skip (C_block (C_region (LY rfl (y_move rfl) ?_)))
          refine LY rfl (y_add rfl rfl (show _ = ((t + 1 : Nat) : Int) from by rw [wi64 (by omega) (by omega)]; omega)) ?_
          refine LY rfl (y_assign rfl) (L_nil ?_)
          exact ⟨t + 1, ⟨by omega, by omega, by omega, by rw [← hts, su_go hle hpt]⟩, by omega, ⟨rfl, rfl, rfl, rfl, rfl, trivial⟩, ((hsub (.cons_cons _ (.refl _))).trans (hsub_pick [0] rfl))⟩
        · have hfin := hts.symm.trans (su_stop (p := (upE a d3)) (d := d3) (.inr hc0))
          refine C_exit ?_
          exact ⟨t, ⟨ht1, ht2, ht3, hfin⟩, ⟨rfl, rfl, rfl, rfl, rfl, trivial⟩, ((hsub (.cons_cons _ (.refl _))).trans (hsub_pick [0] rfl))⟩
      · have hle : ¬ t ≤ v := by have := of_decide_eq_false hg3_4; omega
        have hfin := hts.symm.trans (su_stop (p := (upE a d3)) (d := d3) (.inl hle))
        refine HK 4 rfl (HSub.refl _) rfl ?_
        refine HK 5 rfl (HSub.refl _) rfl ?_
        refine HK 6 rfl (HSub.refl _) rfl ?_
        refine HK 7 rfl (HSub.refl _) rfl ?_
        refine HK 8 rfl (HSub.refl _) rfl ?_
        refine HK 9 rfl (HSub.refl _) rfl ?_
        refine HK 10 rfl (HSub.refl _) rfl ?_
        refine HK 11 rfl (HSub.refl _) rfl ?_
        refine HK 12 rfl (HSub.refl _) rfl ?_
        refine HK 13 rfl (HSub.refl _) rfl ?_
        refine HY 14 rfl (HSub.refl _) rfl (y_pick_f rfl rfl) ?_
        refine H_done (by kernel_rfl) ?_
        refine C_cond_f rfl (C_exit ?_)
        exact ⟨t, ⟨ht1, ht2, ht3, hfin⟩, ⟨rfl, rfl, rfl, rfl, rfl, trivial⟩, ((hsub (.cons_cons _ (.refl _))).trans (hsub_pick [0] rfl))⟩
    · rename Nat => u2
      obtain ⟨qu20, qu21, qu22, hu2⟩ := ht
      refine C_cutG (ι := Nat) (fun t => t < b ∧ t ≤ v ∧ Go.Sort.scanDown (dnE a d3) d3 u2 v = t) (fun t => [(0, (.slice (some ⟨sb, 0, none⟩) n cap)), (1, .int .i64 ((a : Nat) : Int)), (2, .int .i64 ((b : Nat) : Int)), (9, .int .i64 ((u2 : Nat) : Int)), (10, .int .i64 ((t : Nat) : Int))]) (fun t => useg 48 sb d3 sp :: H) ?_ (fun t ht => ?_)
      · refine C_block ?_
        refine C_loop (ι := Nat) (fun t => [(0, (.slice (some ⟨sb, 0, none⟩) n cap)), (1, .int .i64 ((a : Nat) : Int)), (2, .int .i64 ((b : Nat) : Int)), (9, .int .i64 ((u2 : Nat) : Int)), (10, .int .i64 ((t : Nat) : Int))]) (fun t => useg 48 sb d3 sp :: H) (fun t => t < b ∧ t ≤ v ∧ Go.Sort.scanDown (dnE a d3) d3 u2 t = Go.Sort.scanDown (dnE a d3) d3 u2 v) (fun t => t) v (by refine ⟨by omega, by omega, rfl⟩ <;> omega) ⟨rfl, rfl, rfl, rfl, rfl, trivial⟩ ((hsub (.cons_cons _ (.refl _))).trans (hsub_pick [0] rfl)) (fun t ht => ?_)
        obtain ⟨ht1, ht2, hts⟩ := ht
        refine C_seq (C_seq ?_)
        refine C_regionH0 (by kernel_rfl) ?_
        refine HY 0 rfl (HSub.refl _) rfl (y_move rfl) ?_
        refine HY 1 rfl (HSub.refl _) rfl (y_move rfl) ?_
        refine HY 2 rfl (HSub.refl _) rfl (y_leq rfl rfl) ?_
        refine HY 3 rfl (HSub.refl _) rfl (y_move rfl) ?_
        refine H_case 49 rfl (fun hg5_4 => ?_) (fun hg5_4 => ?_)
        · have hle : u2 ≤ t := by have := of_decide_eq_true hg5_4; omega
          refine HY 4 rfl (HSub.refl _) rfl (y_move rfl) ?_
          refine HY 5 rfl (HSub.refl _) rfl (y_move rfl) ?_
          refine HY 6 rfl (HSub.refl _) rfl (y_indexS rfl rfl Try.underlying33 sz_48 (by omega) (by omega) (ix0 (a))) ?_
          refine HY 7 rfl (HSub.refl _) rfl (y_load rfl ag_48 (sees 0 0 rfl) (us_at (by omega))) ?_
          refine HY 8 rfl (HSub.refl _) rfl (y_move rfl) ?_
          refine HY 9 rfl (HSub.refl _) rfl (y_move rfl) ?_
          refine HY 10 rfl (HSub.refl _) rfl (y_indexS rfl rfl Try.underlying33 sz_48 (by omega) (by omega) (ix0 (t))) ?_
          refine HY 11 rfl (HSub.refl _) rfl (y_load rfl ag_48 (sees 0 0 rfl) (us_at (by omega))) ?_
          refine H_one 12 rfl (by kernel_rfl) rfl (op_call rfl rfl (fun a w => Try.call89 a w) rfl ?_)
          refine (less_u (d3[a]!) (d3[t]!)).mono ?_
          rintro _ _ ⟨rfl, e⟩
          obtain rfl := e.symm
          clear e
          refine ⟨_, rfl, ?_⟩
          refine ⟨HSub.refl _, ?_⟩
          refine HY 13 rfl (HSub.refl _) rfl (y_pick_t rfl rfl) ?_
          refine H_done (by kernel_rfl) ?_
          refine C_cond rfl (fun hc1 => ?_) (fun hc1 => ?_)
          · have hpt : (dnE a d3) d3[t]! = true := hc1
            refine C_skip (C_block (C_region (LY rfl (y_move rfl) ?_)))
            refine LY rfl (y_sub rfl rfl (show _ = ((t - 1 : Nat) : Int) from by rw [wi64 (by omega) (by omega)]; omega)) ?_
            refine LY rfl (y_assign rfl) (L_nil ?_)
            exact ⟨t - 1, ⟨by omega, by omega, by rw [← hts, sn_go hle (by omega) hpt]⟩, by omega, ⟨rfl, rfl, rfl, rfl, rfl, trivial⟩, ((hsub (.cons_cons _ (.refl _))).trans (hsub_pick [0] rfl))⟩
          · have hfin := hts.symm.trans (sn_stop (p := (dnE a d3)) (d := d3) (.inr hc1))
            refine C_exit ?_
            exact ⟨t, ⟨ht1, ht2, hfin⟩, ⟨rfl, rfl, rfl, rfl, rfl, trivial⟩, ((hsub (.cons_cons _ (.refl _))).trans (hsub_pick [0] rfl))⟩
        · have hle : ¬ u2 ≤ t := by have := of_decide_eq_false hg5_4; omega
          have hfin := hts.symm.trans (sn_stop (p := (dnE a d3)) (d := d3) (.inl hle))
          refine HK 4 rfl (HSub.refl _) rfl ?_
          refine HK 5 rfl (HSub.refl _) rfl ?_
          refine HK 6 rfl (HSub.refl _) rfl ?_
          refine HK 7 rfl (HSub.refl _) rfl ?_
          refine HK 8 rfl (HSub.refl _) rfl ?_
          refine HK 9 rfl (HSub.refl _) rfl ?_
          refine HK 10 rfl (HSub.refl _) rfl ?_
          refine HK 11 rfl (HSub.refl _) rfl ?_
          refine HK 12 rfl (HSub.refl _) rfl ?_
          refine HY 13 rfl (HSub.refl _) rfl (y_pick_f rfl rfl) ?_
          refine H_done (by kernel_rfl) ?_
          refine C_cond_f rfl (C_exit ?_)
          exact ⟨t, ⟨ht1, ht2, hfin⟩, ⟨rfl, rfl, rfl, rfl, rfl, trivial⟩, ((hsub (.cons_cons _ (.refl _))).trans (hsub_pick [0] rfl))⟩
      · rename Nat => v2
        obtain ⟨qv20, qv21, hv2⟩ := ht
        refine C_seq (C_seq (C_region (LY rfl (y_move rfl) (LY rfl (y_move rfl) ?_))))
        refine LY rfl (y_gtr rfl rfl) ?_
        refine L_nil ?_
        refine C_cond rfl (fun hc2 => ?_) (fun hc2 => ?_)
        · replace hc2 : v2 < u2 := by have := of_decide_eq_true hc2; omega
          refine C_exit (C_seq (C_region (LY rfl (y_move rfl) (LY rfl (y_assign rfl) (L_nil (C_ret ?_))))))
          refine B_ret (rv_tmp rfl rv_nil) ((hsub (.cons_cons _ (.refl _))).trans (hsub_pick [0] rfl)) ?_
          rw [← hr3, pe_stop hu2 hv2 hc2]
          exact ⟨rfl, rfl⟩
        · replace hc2 : ¬ v2 < u2 := by have := of_decide_eq_false hc2; omega
          refine C_skip (C_seq ?_)
          refine C_regionH H (by kernel_rfl) ?_
          refine HY 0 rfl ((hsub (.cons _ (.refl _)))) rfl (y_move rfl) ?_
          refine HY 1 rfl ((hsub (.cons _ (.refl _)))) rfl (y_move rfl) ?_
          refine HY 2 rfl ((hsub (.cons _ (.refl _)))) rfl (y_move rfl) ?_
          refine HY 3 rfl ((hsub (.cons _ (.refl _)))) rfl (y_move rfl) ?_
          refine HY 4 rfl ((hsub (.cons _ (.refl _)))) rfl (y_move rfl) ?_
          refine HY 5 rfl ((hsub (.cons _ (.refl _)))) rfl (y_move rfl) ?_
          refine HY 6 rfl ((hsub (.cons _ (.refl _)))) rfl (y_indexS rfl rfl Try.underlying33 sz_48 (by omega) (by omega) (ix0 (v2))) ?_
          refine HY 8 rfl ((hsub (.cons _ (.refl _)))) rfl (y_move rfl) ?_
          refine HY 9 rfl ((hsub (.cons _ (.refl _)))) rfl (y_move rfl) ?_
          refine HY 10 rfl ((hsub (.cons _ (.refl _)))) rfl (y_indexS rfl rfl Try.underlying33 sz_48 (by omega) (by omega) (ix0 (u2))) ?_
          refine H_two 7 11 rfl rfl (by kernel_rfl) rfl rfl ?_ ?_
          · refine op_y (y_load rfl ag_48 (sees 0 0 rfl) (us_at (by omega))) rfl ?_
            refine ⟨(hsub (.cons _ (.refl _))), ?_⟩
            refine H_one 11 rfl (by kernel_rfl) rfl (op_y (y_load rfl ag_48 (sees 0 0 rfl) (us_at (by omega))) rfl ?_)
            refine ⟨(hsub (.cons _ (.refl _))), ?_⟩
            refine HY 12 rfl ((hsub (.cons _ (.refl _)))) rfl (y_indexS rfl rfl Try.underlying33 sz_48 (by omega) (by omega) (ix0 (u2))) ?_
            refine H_one 13 rfl (by kernel_rfl) rfl (op_store1 0 0 rfl rfl rfl sz_48 rfl (us_lt (by omega)) ?_)
            refine ⟨(hsub (.cons _ (.refl _))), ?_⟩
            refine HY 14 rfl ((hsub (.cons _ (.refl _)))) rfl (y_indexS rfl rfl Try.underlying33 sz_48 (by omega) (by omega) (ix0 (v2))) ?_
            refine H_one 15 rfl (by kernel_rfl) rfl (op_store1 0 0 rfl rfl rfl sz_48 rfl (by rw [List.length_set]; exact us_lt (by omega)) ?_)
            refine ⟨(hsub (.cons _ (.refl _))), ?_⟩
            refine H_done (by kernel_rfl) ?_
            rw [us_swp (by omega) (by omega)]
            refine C_seq (C_region (LY rfl (y_move rfl) ?_))
            refine LY rfl (y_add rfl rfl (show _ = ((u2 + 1 : Nat) : Int) from by rw [wi64 (by omega) (by omega)]; omega)) ?_
            refine LY rfl (y_assign rfl) (L_nil (C_region (LY rfl (y_move rfl) ?_)))
            refine LY rfl (y_sub rfl rfl (show _ = ((v2 - 1 : Nat) : Int) from by rw [wi64 (by omega) (by omega)]; omega)) ?_
            refine LY rfl (y_assign rfl) (L_nil ?_)
            exact ⟨(Go.Sort.swp d3 u2 v2, u2 + 1, v2 - 1), ⟨by simp only; rw [swp_size]; exact hs3, by simp only; omega, by simp only; omega, by simp only; omega, by simp only; rw [← hr3, pe_go hu2 hv2 hc2]⟩, by simp only; omega, ⟨rfl, rfl, rfl, rfl, rfl, trivial⟩, ((hsub (.cons_cons _ (.refl _))).trans (hsub_pick [0] rfl))⟩
          · refine op_y (y_load rfl ag_48 (sees 0 0 rfl) (us_at (by omega))) rfl ?_
            refine ⟨(hsub (.cons _ (.refl _))), ?_⟩
            refine H_one 7 rfl (by kernel_rfl) rfl (op_y (y_load rfl ag_48 (sees 0 0 rfl) (us_at (by omega))) rfl ?_)
            refine ⟨(hsub (.cons _ (.refl _))), ?_⟩
            refine HY 12 rfl ((hsub (.cons _ (.refl _)))) rfl (y_indexS rfl rfl Try.underlying33 sz_48 (by omega) (by omega) (ix0 (u2))) ?_
            refine H_one 13 rfl (by kernel_rfl) rfl (op_store1 0 0 rfl rfl rfl sz_48 rfl (us_lt (by omega)) ?_)
            refine ⟨(hsub (.cons _ (.refl _))), ?_⟩
            refine HY 14 rfl ((hsub (.cons _ (.refl _)))) rfl (y_indexS rfl rfl Try.underlying33 sz_48 (by omega) (by omega) (ix0 (v2))) ?_
            refine H_one 15 rfl (by kernel_rfl) rfl (op_store1 0 0 rfl rfl rfl sz_48 rfl (by rw [List.length_set]; exact us_lt (by omega)) ?_)
            refine ⟨(hsub (.cons _ (.refl _))), ?_⟩
            refine H_done (by kernel_rfl) ?_
            rw [us_swp (by omega) (by omega)]
            refine C_seq (C_region (LY rfl (y_move rfl) ?_))
            refine LY rfl (y_add rfl rfl (show _ = ((u2 + 1 : Nat) : Int) from by rw [wi64 (by omega) (by omega)]; omega)) ?_
            refine LY rfl (y_assign rfl) (L_nil (C_region (LY rfl (y_move rfl) ?_)))
            refine LY rfl (y_sub rfl rfl (show _ = ((v2 - 1 : Nat) : Int) from by rw [wi64 (by omega) (by omega)]; omega)) ?_
            refine LY rfl (y_assign rfl) (L_nil ?_)
            exact ⟨(Go.Sort.swp d3 u2 v2, u2 + 1, v2 - 1), ⟨by simp only; rw [swp_size]; exact hs3, by simp only; omega, by simp only; omega, by simp only; omega, by simp only; rw [← hr3, pe_go hu2 hv2 hc2]⟩, by simp only; omega, ⟨rfl, rfl, rfl, rfl, rfl, trivial⟩, ((hsub (.cons_cons _ (.refl _))).trans (hsub_pick [0] rfl))⟩

end Go.Proofs.Ytighbhplfjjgpaa

/- walks (own work; the walks' lines by a program of this repo). -/
set_option linter.unusedVariables false
set_option linter.unusedSimpArgs false
set_option maxRecDepth 20000
namespace Go.Proofs.Ytighbhplfjjgpaa
open Go.Sl
attribute [local irreducible] BodyQ WpC WpL WpS WpH OpW FnS



set_option maxHeartbeats 2000000 in

theorem partial_u {w0 : World} {H : Hp} {sb n cap : Nat} {sp : List Value} (d : Array Nat) (hd : d.size = n) (hn : n < 4611686018427387904) (a b : Nat) (hab : a < b) (hb : b ≤ n) : FnS Try.prog w0 88 #[(.slice (some ⟨sb, 0, none⟩) n cap), .int .i64 ((a : Nat) : Int), .int .i64 ((b : Nat) : Int)] (useg 48 sb d sp :: H) (fun e H' => e = .returned (.bool (Go.Sort.partialInsertionSort ltN d a b).2) ∧ H' = useg 48 sb (Go.Sort.partialInsertionSort ltN d a b).1 sp :: H) := by
  refine FnS_intro (n := 133) (rs := [.tmp 6]) (vs := [(.slice (some ⟨sb, 0, none⟩) n cap), .int .i64 ((a : Nat) : Int), .int .i64 ((b : Nat) : Int)]) Try.func88 rfl Try.ntmps88 rfl rfl ?_
  refine C_seq (C_region (LY rfl (y_assign rfl) (L_nil (C_seq (C_region (LY rfl (y_move rfl) ?_))))))
  refine LY rfl (y_add rfl rfl (show _ = ((a + 1 : Nat) : Int) from by rw [wi64 (by omega) (by omega)]; omega)) ?_
  refine LY rfl (y_assign rfl) (L_nil (C_seq (C_seq (C_region (LY rfl (y_assign rfl) (L_nil (C_block ?_)))))))
  refine C_loop (ι := Array Nat × Nat × Nat) (fun x => [(0, (.slice (some ⟨sb, 0, none⟩) n cap)), (1, .int .i64 ((a : Nat) : Int)), (2, .int .i64 ((b : Nat) : Int)), (7, .int .i64 ((x.2.1 : Nat) : Int)), (8, .int .i64 ((5 : Int) - (x.2.2 : Int)))]) (fun x => useg 48 sb x.1 sp :: H) (fun x => x.1.size = n ∧ a < x.2.1 ∧ x.2.1 ≤ b ∧ x.2.2 ≤ 5 ∧ Go.Sort.partialIns ltN a b x.2.2 x.2.1 x.1 = Go.Sort.partialInsertionSort ltN d a b) (fun x => x.2.2) (d, a + 1, 5) ⟨hd, by simp only; omega, by simp only; omega, Nat.le_refl _, rfl⟩ ⟨rfl, rfl, rfl, rfl, rfl, trivial⟩ ((hsub (.cons_cons _ (.refl _))).trans (hsub_pick [0] rfl)) (fun x hx => ?_)
  obtain ⟨d1, i, s⟩ := x
  obtain ⟨hs1, hai, hib, hs5, hr1⟩ := hx
  try simp only at hs1 hai hib hs5 hr1
  try dsimp only
  refine C_seq (C_seq (C_region (LY rfl (y_move rfl) (LY rfl (y_lss rfl rfl) (L_nil ?_)))))
  refine C_cond rfl (fun hc0 => ?_) (fun hc0 => ?_)
  · obtain ⟨s, rfl⟩ : ∃ m, s = m + 1 := ⟨s - 1, by have := of_decide_eq_true hc0; omega⟩
    refine C_skip ?_
    refine C_cutG (ι := Nat × Array Nat) (fun z => z.2.size = n ∧ a < z.1 ∧ z.1 ≤ b ∧ Go.Sort.partialIns ltN a b (s + 1) i d1 = Go.Sort.partialIns ltN a b s z.1 z.2) (fun z => [(0, (.slice (some ⟨sb, 0, none⟩) n cap)), (1, .int .i64 ((a : Nat) : Int)), (2, .int .i64 ((b : Nat) : Int)), (8, .int .i64 ((5 : Int) - ((s + 1 : Nat) : Int))), (7, .int .i64 ((z.1 : Nat) : Int))]) (fun z => useg 48 sb z.2 sp :: H) ?_ (fun z hz => ?_)
    · refine C_block ?_
      refine C_cutG (ι := Nat) (fun t => a < t ∧ t ≤ b ∧ Go.Sort.scanSorted ltN d1 b i = t) (fun t => [(0, (.slice (some ⟨sb, 0, none⟩) n cap)), (1, .int .i64 ((a : Nat) : Int)), (2, .int .i64 ((b : Nat) : Int)), (8, .int .i64 ((5 : Int) - ((s + 1 : Nat) : Int))), (7, .int .i64 ((t : Nat) : Int))]) (fun t => useg 48 sb d1 sp :: H) ?_ (fun k hk => ?_)
      · refine C_block ?_
        refine C_loop (ι := Nat) (fun t => [(0, (.slice (some ⟨sb, 0, none⟩) n cap)), (1, .int .i64 ((a : Nat) : Int)), (2, .int .i64 ((b : Nat) : Int)), (8, .int .i64 ((5 : Int) - ((s + 1 : Nat) : Int))), (7, .int .i64 ((t : Nat) : Int))]) (fun t => useg 48 sb d1 sp :: H) (fun t => a < t ∧ t ≤ b ∧ Go.Sort.scanSorted ltN d1 b t = Go.Sort.scanSorted ltN d1 b i) (fun t => b - t) i ⟨hai, hib, rfl⟩ ⟨rfl, rfl, rfl, rfl, rfl, trivial⟩ ((hsub (.cons_cons _ (.refl _))).trans (hsub_pick [0] rfl)) (fun t ht => ?_)
        obtain ⟨ht1, ht2, hts⟩ := ht
        refine C_seq (C_seq ?_)
        refine C_regionH0 (by kernel_rfl) ?_
        refine HY 0 rfl (HSub.refl _) rfl (y_move rfl) ?_
        refine HY 1 rfl (HSub.refl _) rfl (y_move rfl) ?_
        refine HY 2 rfl (HSub.refl _) rfl (y_lss rfl rfl) ?_
        refine HY 3 rfl (HSub.refl _) rfl (y_move rfl) ?_
        refine H_case 20 rfl (fun hg5_4 => ?_) (fun hg5_4 => ?_)
        · have hle : t < b := by have := of_decide_eq_true hg5_4; omega
          refine HY 4 rfl (HSub.refl _) rfl (y_move rfl) ?_
          refine HY 5 rfl (HSub.refl _) rfl (y_move rfl) ?_
          refine HY 6 rfl (HSub.refl _) rfl (y_indexS rfl rfl Try.underlying33 sz_48 (by omega) (by omega) (ix0 (t))) ?_
          refine HY 7 rfl (HSub.refl _) rfl (y_load rfl ag_48 (sees 0 0 rfl) (us_at (by omega))) ?_
          refine HY 8 rfl (HSub.refl _) rfl (y_move rfl) ?_
          refine HY 9 rfl (HSub.refl _) rfl (y_move rfl) ?_
          refine HY 10 rfl (HSub.refl _) rfl (y_sub rfl rfl (show _ = ((t - 1 : Nat) : Int) from by rw [wi64 (by omega) (by omega)]; omega)) ?_
          refine HY 11 rfl (HSub.refl _) rfl (y_indexS rfl rfl Try.underlying33 sz_48 (by omega) (by omega) (ix0 (t - 1))) ?_
          refine HY 12 rfl (HSub.refl _) rfl (y_load rfl ag_48 (sees 0 0 rfl) (us_at (by omega))) ?_
          refine H_one 13 rfl (by kernel_rfl) rfl (op_call rfl rfl (fun a w => Try.call89 a w) rfl ?_)
          refine (less_u (d1[t]!) (d1[t - 1]!)).mono ?_
          rintro _ _ ⟨rfl, e⟩
          obtain rfl := e.symm
          clear e
          refine ⟨_, rfl, ?_⟩
          refine ⟨HSub.refl _, ?_⟩
          refine HY 14 rfl (HSub.refl _) rfl (y_not rfl) ?_
          refine HY 15 rfl (HSub.refl _) rfl (y_pick_t rfl rfl) ?_
          refine H_done (by kernel_rfl) ?_
          refine C_cond rfl (fun hc1 => ?_) (fun hc1 => ?_)
          · have hpt : ltN d1[t]! d1[t - 1]! = false := by simpa using hc1
            refine C_skip (C_block (C_region (LY rfl (y_move rfl) ?_)))
            refine LY rfl (y_add rfl rfl (show _ = ((t + 1 : Nat) : Int) from by rw [wi64 (by omega) (by omega)]; omega)) ?_
            refine LY rfl (y_assign rfl) (L_nil ?_)
            exact ⟨t + 1, ⟨by omega, by omega, by rw [← hts, ss_go hle hpt]⟩, by omega, ⟨rfl, rfl, rfl, rfl, rfl, trivial⟩, ((hsub (.cons_cons _ (.refl _))).trans (hsub_pick [0] rfl))⟩
          · have hfin := hts.symm.trans (ss_stop (d := d1) (.inr (by simpa using hc1)))
            refine C_exit ?_
            exact ⟨t, ⟨ht1, ht2, hfin⟩, ⟨rfl, rfl, rfl, rfl, rfl, trivial⟩, ((hsub (.cons_cons _ (.refl _))).trans (hsub_pick [0] rfl))⟩
        · have hle : ¬ t < b := by have := of_decide_eq_false hg5_4; omega
          have hfin := hts.symm.trans (ss_stop (d := d1) (.inl hle))
          refine HK 4 rfl (HSub.refl _) rfl ?_
          refine HK 5 rfl (HSub.refl _) rfl ?_
          refine HK 6 rfl (HSub.refl _) rfl ?_
          refine HK 7 rfl (HSub.refl _) rfl ?_
          refine HK 8 rfl (HSub.refl _) rfl ?_
          refine HK 9 rfl (HSub.refl _) rfl ?_
          refine HK 10 rfl (HSub.refl _) rfl ?_
          refine HK 11 rfl (HSub.refl _) rfl ?_
          refine HK 12 rfl (HSub.refl _) rfl ?_
          refine HK 13 rfl (HSub.refl _) rfl ?_
          refine HK 14 rfl (HSub.refl _) rfl ?_
          refine HY 15 rfl (HSub.refl _) rfl (y_pick_f rfl rfl) ?_
          refine H_done (by kernel_rfl) ?_
          refine C_cond_f rfl (C_exit ?_)
          exact ⟨t, ⟨ht1, ht2, hfin⟩, ⟨rfl, rfl, rfl, rfl, rfl, trivial⟩, ((hsub (.cons_cons _ (.refl _))).trans (hsub_pick [0] rfl))⟩
      · obtain ⟨hk1, hk2, hk⟩ := hk
        refine C_seq (C_seq (C_region (LY rfl (y_move rfl) (LY rfl (y_move rfl) (LY rfl (y_eqi rfl rfl) (L_nil ?_))))))
        refine C_cond rfl (fun hc2 => ?_) (fun hc2 => ?_)
        · replace hc2 : k = b := by have := of_decide_eq_true hc2; omega
          refine C_seq (C_region (LY rfl (y_assign rfl) (L_nil (C_ret ?_))))
          refine B_ret (rv_tmp rfl rv_nil) ((hsub (.cons_cons _ (.refl _))).trans (hsub_pick [0] rfl)) ?_
          rw [← hr1]
          first
          | (rw [pi_true hk hc2]; exact ⟨rfl, rfl⟩)
          | (rw [pi_short hk hc2 hc3]; exact ⟨rfl, rfl⟩)
          | exact ⟨rfl, rfl⟩
        · replace hc2 : ¬ k = b := by have := of_decide_eq_false hc2; omega
          refine C_skip (C_seq (C_seq (C_region (LY rfl (y_move rfl) (LY rfl (y_move rfl) ?_)))))
          refine LY rfl (y_sub rfl rfl (show _ = ((b - a : Nat) : Int) from by rw [wi64 (by omega) (by omega)]; omega)) ?_
          refine LY rfl (y_lss rfl rfl) (L_nil ?_)
          refine C_cond rfl (fun hc3 => ?_) (fun hc3 => ?_)
          · replace hc3 : b - a < 50 := by have := of_decide_eq_true hc3; omega
            refine C_seq (C_region (LY rfl (y_assign rfl) (L_nil (C_ret ?_))))
            refine B_ret (rv_tmp rfl rv_nil) ((hsub (.cons_cons _ (.refl _))).trans (hsub_pick [0] rfl)) ?_
            rw [← hr1]
            first
            | (rw [pi_true hk hc2]; exact ⟨rfl, rfl⟩)
            | (rw [pi_short hk hc2 hc3]; exact ⟨rfl, rfl⟩)
            | exact ⟨rfl, rfl⟩
          · replace hc3 : ¬ b - a < 50 := by have := of_decide_eq_false hc3; omega
            refine C_skip (C_seq ?_)
            refine C_regionH H (by kernel_rfl) ?_
            refine HY 0 rfl ((hsub (.cons _ (.refl _)))) rfl (y_move rfl) ?_
            refine HY 1 rfl ((hsub (.cons _ (.refl _)))) rfl (y_move rfl) ?_
            refine HY 2 rfl ((hsub (.cons _ (.refl _)))) rfl (y_move rfl) ?_
            refine HY 3 rfl ((hsub (.cons _ (.refl _)))) rfl (y_move rfl) ?_
            refine HY 4 rfl ((hsub (.cons _ (.refl _)))) rfl (y_sub rfl rfl (show _ = ((k - 1 : Nat) : Int) from by rw [wi64 (by omega) (by omega)]; omega)) ?_
            refine HY 5 rfl ((hsub (.cons _ (.refl _)))) rfl (y_move rfl) ?_
            refine HY 6 rfl ((hsub (.cons _ (.refl _)))) rfl (y_move rfl) ?_
            refine HY 7 rfl ((hsub (.cons _ (.refl _)))) rfl (y_sub rfl rfl (show _ = ((k - 1 : Nat) : Int) from by rw [wi64 (by omega) (by omega)]; omega)) ?_
            refine HY 8 rfl ((hsub (.cons _ (.refl _)))) rfl (y_indexS rfl rfl Try.underlying33 sz_48 (by omega) (by omega) (ix0 ((k - 1)))) ?_
            refine HY 10 rfl ((hsub (.cons _ (.refl _)))) rfl (y_move rfl) ?_
            refine HY 11 rfl ((hsub (.cons _ (.refl _)))) rfl (y_move rfl) ?_
            refine HY 12 rfl ((hsub (.cons _ (.refl _)))) rfl (y_indexS rfl rfl Try.underlying33 sz_48 (by omega) (by omega) (ix0 (k))) ?_
            refine H_two 9 13 rfl rfl (by kernel_rfl) rfl rfl ?_ ?_
            · refine op_y (y_load rfl ag_48 (sees 0 0 rfl) (us_at (by omega))) rfl ?_
              refine ⟨(hsub (.cons _ (.refl _))), ?_⟩
              refine H_one 13 rfl (by kernel_rfl) rfl (op_y (y_load rfl ag_48 (sees 0 0 rfl) (us_at (by omega))) rfl ?_)
              refine ⟨(hsub (.cons _ (.refl _))), ?_⟩
              refine HY 14 rfl ((hsub (.cons _ (.refl _)))) rfl (y_indexS rfl rfl Try.underlying33 sz_48 (by omega) (by omega) (ix0 (k))) ?_
              refine H_one 15 rfl (by kernel_rfl) rfl (op_store1 0 0 rfl rfl rfl sz_48 rfl (us_lt (by omega)) ?_)
              refine ⟨(hsub (.cons _ (.refl _))), ?_⟩
              refine HY 16 rfl ((hsub (.cons _ (.refl _)))) rfl (y_indexS rfl rfl Try.underlying33 sz_48 (by omega) (by omega) (ix0 ((k - 1)))) ?_
              refine H_one 17 rfl (by kernel_rfl) rfl (op_store1 0 0 rfl rfl rfl sz_48 rfl (by rw [List.length_set]; exact us_lt (by omega)) ?_)
              refine ⟨(hsub (.cons _ (.refl _))), ?_⟩
              refine H_done (by kernel_rfl) ?_
              rw [us_swp (by omega) (by omega)]
              obtain ⟨d2, hd2⟩ : ∃ y, y = Go.Sort.swp d1 k (k - 1) := ⟨_, rfl⟩
              rw [← hd2]
              have hsd2 : d2.size = n := by rw [hd2, swp_size]; omega
              refine C_cutG (ι := Array Nat) (fun x => x.size = n ∧ x = if 2 ≤ k - a then Go.Sort.shiftDown ltN (k - 1) d2 else d2) (fun x => [(0, (.slice (some ⟨sb, 0, none⟩) n cap)), (1, .int .i64 ((a : Nat) : Int)), (2, .int .i64 ((b : Nat) : Int)), (8, .int .i64 ((5 : Int) - ((s + 1 : Nat) : Int))), (7, .int .i64 ((k : Nat) : Int))]) (fun x => useg 48 sb x sp :: H) ?_ (fun d3 hd3 => ?_)
              · refine C_seq (C_region (LY rfl (y_move rfl) (LY rfl (y_move rfl) ?_)))
                refine LY rfl (y_sub rfl rfl (show _ = ((k - a : Nat) : Int) from by rw [wi64 (by omega) (by omega)]; omega)) ?_
                refine LY rfl (y_geq rfl rfl) ?_
                refine L_nil ?_
                refine C_cond rfl (fun hc4 => ?_) (fun hc4 => ?_)
                · replace hc4 : 2 ≤ k - a := by have := of_decide_eq_true hc4; omega
                  refine C_seq (C_region (LY rfl (y_move rfl) ?_))
                  refine LY rfl (y_sub rfl rfl (show _ = ((k - 1 : Nat) : Int) from by rw [wi64 (by omega) (by omega)]; omega)) ?_
                  refine LY rfl (y_assign rfl) (L_nil (C_block ?_))
                  refine C_loop (ι := Array Nat × Nat) (fun y => [(0, (.slice (some ⟨sb, 0, none⟩) n cap)), (1, .int .i64 ((a : Nat) : Int)), (2, .int .i64 ((b : Nat) : Int)), (8, .int .i64 ((5 : Int) - ((s + 1 : Nat) : Int))), (7, .int .i64 ((k : Nat) : Int)), (9, .int .i64 ((y.2 : Nat) : Int))]) (fun y => useg 48 sb y.1 sp :: H) (fun y => y.1.size = n ∧ y.2 < k ∧ Go.Sort.shiftDown ltN y.2 y.1 = Go.Sort.shiftDown ltN (k - 1) d2) (fun y => y.2) (d2, k - 1) ⟨hsd2, by simp only; omega, rfl⟩ ⟨rfl, rfl, rfl, rfl, rfl, rfl, trivial⟩ ((hsub (.cons_cons _ (.refl _))).trans (hsub_pick [0] rfl)) (fun y hy => ?_)
                  obtain ⟨e1, j⟩ := y
                  obtain ⟨hse, hjk, hre⟩ := hy
                  try simp only at hse hjk hre
                  try dsimp only
                  refine C_seq (C_seq (C_region (LY rfl (y_move rfl) ?_)))
                  refine LY rfl (y_geq rfl rfl) ?_
                  refine L_nil ?_
                  refine C_cond rfl (fun hc5 => ?_) (fun hc5 => ?_)
                  · have hj1 : 1 ≤ j := by have := of_decide_eq_true hc5; omega
                    refine C_skip (C_seq (C_block (C_seq (C_seq ?_))))
                    refine C_regionH0 (by kernel_rfl) ?_
                    refine HY 0 rfl (HSub.refl _) rfl (y_move rfl) ?_
                    refine HY 1 rfl (HSub.refl _) rfl (y_move rfl) ?_
                    refine HY 2 rfl (HSub.refl _) rfl (y_indexS rfl rfl Try.underlying33 sz_48 (by omega) (by omega) (ix0 (j))) ?_
                    refine HY 3 rfl (HSub.refl _) rfl (y_load rfl ag_48 (sees 0 0 rfl) (us_at (by omega))) ?_
                    refine HY 4 rfl (HSub.refl _) rfl (y_move rfl) ?_
                    refine HY 5 rfl (HSub.refl _) rfl (y_move rfl) ?_
                    refine HY 6 rfl (HSub.refl _) rfl (y_sub rfl rfl (show _ = ((j - 1 : Nat) : Int) from by rw [wi64 (by omega) (by omega)]; omega)) ?_
                    refine HY 7 rfl (HSub.refl _) rfl (y_indexS rfl rfl Try.underlying33 sz_48 (by omega) (by omega) (ix0 (j - 1))) ?_
                    refine HY 8 rfl (HSub.refl _) rfl (y_load rfl ag_48 (sees 0 0 rfl) (us_at (by omega))) ?_
                    refine H_one 9 rfl (by kernel_rfl) rfl (op_call rfl rfl (fun a w => Try.call89 a w) rfl ?_)
                    refine (less_u (e1[j]!) (e1[j - 1]!)).mono ?_
                    rintro _ _ ⟨rfl, e⟩
                    obtain rfl := e.symm
                    clear e
                    refine ⟨_, rfl, ?_⟩
                    refine ⟨HSub.refl _, ?_⟩
                    refine HY 10 rfl (HSub.refl _) rfl (y_not rfl) ?_
                    refine H_done (by kernel_rfl) ?_
                    refine C_cond rfl (fun hc6 => ?_) (fun hc6 => ?_)
                    · have hfin2 : Go.Sort.shiftDown ltN j e1 = e1 := sw_stop (.inr (by simpa using hc6))
                      refine C_exit ?_
                      exact ⟨e1, ⟨hse, by rw [if_pos hc4, ← hre, hfin2]⟩, ⟨rfl, rfl, rfl, rfl, rfl, trivial⟩, ((hsub (.cons_cons _ (.refl _))).trans (hsub_pick [0] rfl))⟩
                    · have hl6 : ltN e1[j]! e1[j - 1]! = true := by simpa using hc6
                      refine C_skip ?_
                      refine C_regionH H (by kernel_rfl) ?_
                      refine HY 0 rfl ((hsub (.cons _ (.refl _)))) rfl (y_move rfl) ?_
                      refine HY 1 rfl ((hsub (.cons _ (.refl _)))) rfl (y_move rfl) ?_
                      refine HY 2 rfl ((hsub (.cons _ (.refl _)))) rfl (y_move rfl) ?_
                      refine HY 3 rfl ((hsub (.cons _ (.refl _)))) rfl (y_move rfl) ?_
                      refine HY 4 rfl ((hsub (.cons _ (.refl _)))) rfl (y_sub rfl rfl (show _ = ((j - 1 : Nat) : Int) from by rw [wi64 (by omega) (by omega)]; omega)) ?_
                      refine HY 5 rfl ((hsub (.cons _ (.refl _)))) rfl (y_move rfl) ?_
                      refine HY 6 rfl ((hsub (.cons _ (.refl _)))) rfl (y_move rfl) ?_
                      refine HY 7 rfl ((hsub (.cons _ (.refl _)))) rfl (y_sub rfl rfl (show _ = ((j - 1 : Nat) : Int) from by rw [wi64 (by omega) (by omega)]; omega)) ?_
                      refine HY 8 rfl ((hsub (.cons _ (.refl _)))) rfl (y_indexS rfl rfl Try.underlying33 sz_48 (by omega) (by omega) (ix0 ((j - 1)))) ?_
                      refine HY 10 rfl ((hsub (.cons _ (.refl _)))) rfl (y_move rfl) ?_
                      refine HY 11 rfl ((hsub (.cons _ (.refl _)))) rfl (y_move rfl) ?_
                      refine HY 12 rfl ((hsub (.cons _ (.refl _)))) rfl (y_indexS rfl rfl Try.underlying33 sz_48 (by omega) (by omega) (ix0 (j))) ?_
                      refine H_two 9 13 rfl rfl (by kernel_rfl) rfl rfl ?_ ?_
                      · refine op_y (y_load rfl ag_48 (sees 0 0 rfl) (us_at (by omega))) rfl ?_
                        refine ⟨(hsub (.cons _ (.refl _))), ?_⟩
                        refine H_one 13 rfl (by kernel_rfl) rfl (op_y (y_load rfl ag_48 (sees 0 0 rfl) (us_at (by omega))) rfl ?_)
                        refine ⟨(hsub (.cons _ (.refl _))), ?_⟩
                        refine HY 14 rfl ((hsub (.cons _ (.refl _)))) rfl (y_indexS rfl rfl Try.underlying33 sz_48 (by omega) (by omega) (ix0 (j))) ?_
                        refine H_one 15 rfl (by kernel_rfl) rfl (op_store1 0 0 rfl rfl rfl sz_48 rfl (us_lt (by omega)) ?_)
                        refine ⟨(hsub (.cons _ (.refl _))), ?_⟩
                        refine HY 16 rfl ((hsub (.cons _ (.refl _)))) rfl (y_indexS rfl rfl Try.underlying33 sz_48 (by omega) (by omega) (ix0 ((j - 1)))) ?_
                        refine H_one 17 rfl (by kernel_rfl) rfl (op_store1 0 0 rfl rfl rfl sz_48 rfl (by rw [List.length_set]; exact us_lt (by omega)) ?_)
                        refine ⟨(hsub (.cons _ (.refl _))), ?_⟩
                        refine H_done (by kernel_rfl) ?_
                        rw [us_swp (by omega) (by omega)]
                        refine C_region (LY rfl (y_move rfl) ?_)
                        refine LY rfl (y_sub rfl rfl (show _ = ((j - 1 : Nat) : Int) from by rw [wi64 (by omega) (by omega)]; omega)) ?_
                        refine LY rfl (y_assign rfl) (L_nil ?_)
                        exact ⟨(Go.Sort.swp e1 j (j - 1), j - 1), ⟨by simp only; rw [swp_size]; exact hse, by simp only; omega, by simp only; rw [← hre, sw_go hj1 hl6]⟩, by simp only; omega, ⟨rfl, rfl, rfl, rfl, rfl, rfl, trivial⟩, ((hsub (.cons_cons _ (.refl _))).trans (hsub_pick [0] rfl))⟩
                      · refine op_y (y_load rfl ag_48 (sees 0 0 rfl) (us_at (by omega))) rfl ?_
                        refine ⟨(hsub (.cons _ (.refl _))), ?_⟩
                        refine H_one 9 rfl (by kernel_rfl) rfl (op_y (y_load rfl ag_48 (sees 0 0 rfl) (us_at (by omega))) rfl ?_)
                        refine ⟨(hsub (.cons _ (.refl _))), ?_⟩
                        refine HY 14 rfl ((hsub (.cons _ (.refl _)))) rfl (y_indexS rfl rfl Try.underlying33 sz_48 (by omega) (by omega) (ix0 (j))) ?_
                        refine H_one 15 rfl (by kernel_rfl) rfl (op_store1 0 0 rfl rfl rfl sz_48 rfl (us_lt (by omega)) ?_)
                        refine ⟨(hsub (.cons _ (.refl _))), ?_⟩
                        refine HY 16 rfl ((hsub (.cons _ (.refl _)))) rfl (y_indexS rfl rfl Try.underlying33 sz_48 (by omega) (by omega) (ix0 ((j - 1)))) ?_
                        refine H_one 17 rfl (by kernel_rfl) rfl (op_store1 0 0 rfl rfl rfl sz_48 rfl (by rw [List.length_set]; exact us_lt (by omega)) ?_)
                        refine ⟨(hsub (.cons _ (.refl _))), ?_⟩
                        refine H_done (by kernel_rfl) ?_
                        rw [us_swp (by omega) (by omega)]
                        refine C_region (LY rfl (y_move rfl) ?_)
                        refine LY rfl (y_sub rfl rfl (show _ = ((j - 1 : Nat) : Int) from by rw [wi64 (by omega) (by omega)]; omega)) ?_
                        refine LY rfl (y_assign rfl) (L_nil ?_)
                        exact ⟨(Go.Sort.swp e1 j (j - 1), j - 1), ⟨by simp only; rw [swp_size]; exact hse, by simp only; omega, by simp only; rw [← hre, sw_go hj1 hl6]⟩, by simp only; omega, ⟨rfl, rfl, rfl, rfl, rfl, rfl, trivial⟩, ((hsub (.cons_cons _ (.refl _))).trans (hsub_pick [0] rfl))⟩
                  · have hj1 : ¬ 1 ≤ j := by have := of_decide_eq_false hc5; omega
                    have hfin2 : Go.Sort.shiftDown ltN j e1 = e1 := sw_stop (.inl (by omega))
                    refine C_exit ?_
                    exact ⟨e1, ⟨hse, by rw [if_pos hc4, ← hre, hfin2]⟩, ⟨rfl, rfl, rfl, rfl, rfl, trivial⟩, ((hsub (.cons_cons _ (.refl _))).trans (hsub_pick [0] rfl))⟩
                · replace hc4 : ¬ 2 ≤ k - a := by have := of_decide_eq_false hc4; omega
                  refine C_skip ?_
                  exact ⟨d2, ⟨hsd2, by rw [if_neg hc4]⟩, ⟨rfl, rfl, rfl, rfl, rfl, trivial⟩, ((hsub (.cons_cons _ (.refl _))).trans (hsub_pick [0] rfl))⟩
              · obtain ⟨hs3, hd3⟩ := hd3
                refine C_seq (C_region (LY rfl (y_move rfl) (LY rfl (y_move rfl) ?_)))
                refine LY rfl (y_sub rfl rfl (show _ = ((b - k : Nat) : Int) from by rw [wi64 (by omega) (by omega)]; omega)) ?_
                refine LY rfl (y_geq rfl rfl) ?_
                refine L_nil ?_
                refine C_cond rfl (fun hc7 => ?_) (fun hc7 => ?_)
                · replace hc7 : 2 ≤ b - k := by have := of_decide_eq_true hc7; omega
                  refine C_seq (C_region (LY rfl (y_move rfl) ?_))
                  refine LY rfl (y_add rfl rfl (show _ = ((k + 1 : Nat) : Int) from by rw [wi64 (by omega) (by omega)]; omega)) ?_
                  refine LY rfl (y_assign rfl) (L_nil (C_block ?_))
                  refine C_loop (ι := Array Nat × Nat) (fun y => [(0, (.slice (some ⟨sb, 0, none⟩) n cap)), (1, .int .i64 ((a : Nat) : Int)), (2, .int .i64 ((b : Nat) : Int)), (8, .int .i64 ((5 : Int) - ((s + 1 : Nat) : Int))), (7, .int .i64 ((k : Nat) : Int)), (10, .int .i64 ((y.2 : Nat) : Int))]) (fun y => useg 48 sb y.1 sp :: H) (fun y => y.1.size = n ∧ k < y.2 ∧ y.2 ≤ b ∧ Go.Sort.shiftUp ltN b y.2 y.1 = Go.Sort.shiftUp ltN b (k + 1) d3) (fun y => b - y.2) (d3, k + 1) ⟨hs3, by simp only; omega, by simp only; omega, rfl⟩ ⟨rfl, rfl, rfl, rfl, rfl, rfl, trivial⟩ ((hsub (.cons_cons _ (.refl _))).trans (hsub_pick [0] rfl)) (fun y hy => ?_)
                  obtain ⟨e2, j⟩ := y
                  obtain ⟨hse, hjk, hjb, hre⟩ := hy
                  try simp only at hse hjk hjb hre
                  try dsimp only
                  refine C_seq (C_seq (C_region (LY rfl (y_move rfl) (LY rfl (y_move rfl) (LY rfl (y_lss rfl rfl) (L_nil ?_))))))
                  refine C_cond rfl (fun hc8 => ?_) (fun hc8 => ?_)
                  · have hj1 : j < b := by have := of_decide_eq_true hc8; omega
                    refine C_skip (C_seq (C_block (C_seq (C_seq ?_))))
                    refine C_regionH0 (by kernel_rfl) ?_
                    refine HY 0 rfl (HSub.refl _) rfl (y_move rfl) ?_
                    refine HY 1 rfl (HSub.refl _) rfl (y_move rfl) ?_
                    refine HY 2 rfl (HSub.refl _) rfl (y_indexS rfl rfl Try.underlying33 sz_48 (by omega) (by omega) (ix0 (j))) ?_
                    refine HY 3 rfl (HSub.refl _) rfl (y_load rfl ag_48 (sees 0 0 rfl) (us_at (by omega))) ?_
                    refine HY 4 rfl (HSub.refl _) rfl (y_move rfl) ?_
                    refine HY 5 rfl (HSub.refl _) rfl (y_move rfl) ?_
                    refine HY 6 rfl (HSub.refl _) rfl (y_sub rfl rfl (show _ = ((j - 1 : Nat) : Int) from by rw [wi64 (by omega) (by omega)]; omega)) ?_
                    refine HY 7 rfl (HSub.refl _) rfl (y_indexS rfl rfl Try.underlying33 sz_48 (by omega) (by omega) (ix0 (j - 1))) ?_
                    refine HY 8 rfl (HSub.refl _) rfl (y_load rfl ag_48 (sees 0 0 rfl) (us_at (by omega))) ?_
                    refine H_one 9 rfl (by kernel_rfl) rfl (op_call rfl rfl (fun a w => Try.call89 a w) rfl ?_)
                    refine (less_u (e2[j]!) (e2[j - 1]!)).mono ?_
                    rintro _ _ ⟨rfl, e⟩
                    obtain rfl := e.symm
                    clear e
                    refine ⟨_, rfl, ?_⟩
                    refine ⟨HSub.refl _, ?_⟩
                    refine HY 10 rfl (HSub.refl _) rfl (y_not rfl) ?_
                    refine H_done (by kernel_rfl) ?_
                    refine C_cond rfl (fun hc9 => ?_) (fun hc9 => ?_)
                    · have hfin2 : Go.Sort.shiftUp ltN b j e2 = e2 := sp_stop (.inr (by simpa using hc9))
                      refine C_exit ?_
                      exact ⟨(k, e2), ⟨hse, hk1, hk2, pi_go hk hc2 hc3 hd2 hd3 (by rw [if_pos hc7, ← hre, hfin2])⟩, ⟨rfl, rfl, rfl, rfl, rfl, trivial⟩, ((hsub (.cons_cons _ (.refl _))).trans (hsub_pick [0] rfl))⟩
                    · have hl9 : ltN e2[j]! e2[j - 1]! = true := by simpa using hc9
                      refine C_skip ?_
                      refine C_regionH H (by kernel_rfl) ?_
                      refine HY 0 rfl ((hsub (.cons _ (.refl _)))) rfl (y_move rfl) ?_
                      refine HY 1 rfl ((hsub (.cons _ (.refl _)))) rfl (y_move rfl) ?_
                      refine HY 2 rfl ((hsub (.cons _ (.refl _)))) rfl (y_move rfl) ?_
                      refine HY 3 rfl ((hsub (.cons _ (.refl _)))) rfl (y_move rfl) ?_
                      refine HY 4 rfl ((hsub (.cons _ (.refl _)))) rfl (y_sub rfl rfl (show _ = ((j - 1 : Nat) : Int) from by rw [wi64 (by omega) (by omega)]; omega)) ?_
                      refine HY 5 rfl ((hsub (.cons _ (.refl _)))) rfl (y_move rfl) ?_
                      refine HY 6 rfl ((hsub (.cons _ (.refl _)))) rfl (y_move rfl) ?_
                      refine HY 7 rfl ((hsub (.cons _ (.refl _)))) rfl (y_sub rfl rfl (show _ = ((j - 1 : Nat) : Int) from by rw [wi64 (by omega) (by omega)]; omega)) ?_
                      refine HY 8 rfl ((hsub (.cons _ (.refl _)))) rfl (y_indexS rfl rfl Try.underlying33 sz_48 (by omega) (by omega) (ix0 ((j - 1)))) ?_
                      refine HY 10 rfl ((hsub (.cons _ (.refl _)))) rfl (y_move rfl) ?_
                      refine HY 11 rfl ((hsub (.cons _ (.refl _)))) rfl (y_move rfl) ?_
                      refine HY 12 rfl ((hsub (.cons _ (.refl _)))) rfl (y_indexS rfl rfl Try.underlying33 sz_48 (by omega) (by omega) (ix0 (j))) ?_
                      refine H_two 9 13 rfl rfl (by kernel_rfl) rfl rfl ?_ ?_
                      · refine op_y (y_load rfl ag_48 (sees 0 0 rfl) (us_at (by omega))) rfl ?_
                        refine ⟨(hsub (.cons _ (.refl _))), ?_⟩
                        refine H_one 13 rfl (by kernel_rfl) rfl (op_y (y_load rfl ag_48 (sees 0 0 rfl) (us_at (by omega))) rfl ?_)
                        refine ⟨(hsub (.cons _ (.refl _))), ?_⟩
                        refine HY 14 rfl ((hsub (.cons _ (.refl _)))) rfl (y_indexS rfl rfl Try.underlying33 sz_48 (by omega) (by omega) (ix0 (j))) ?_
                        refine H_one 15 rfl (by kernel_rfl) rfl (op_store1 0 0 rfl rfl rfl sz_48 rfl (us_lt (by omega)) ?_)
                        refine ⟨(hsub (.cons _ (.refl _))), ?_⟩
                        refine HY 16 rfl ((hsub (.cons _ (.refl _)))) rfl (y_indexS rfl rfl Try.underlying33 sz_48 (by omega) (by omega) (ix0 ((j - 1)))) ?_
                        refine H_one 17 rfl (by kernel_rfl) rfl (op_store1 0 0 rfl rfl rfl sz_48 rfl (by rw [List.length_set]; exact us_lt (by omega)) ?_)
                        refine ⟨(hsub (.cons _ (.refl _))), ?_⟩
                        refine H_done (by kernel_rfl) ?_
                        rw [us_swp (by omega) (by omega)]
                        refine C_region (LY rfl (y_move rfl) ?_)
                        refine LY rfl (y_add rfl rfl (show _ = ((j + 1 : Nat) : Int) from by rw [wi64 (by omega) (by omega)]; omega)) ?_
                        refine LY rfl (y_assign rfl) (L_nil ?_)
                        exact ⟨(Go.Sort.swp e2 j (j - 1), j + 1), ⟨by simp only; rw [swp_size]; exact hse, by simp only; omega, by simp only; omega, by simp only; rw [← hre, sp_go hj1 hl9]⟩, by simp only; omega, ⟨rfl, rfl, rfl, rfl, rfl, rfl, trivial⟩, ((hsub (.cons_cons _ (.refl _))).trans (hsub_pick [0] rfl))⟩
                      · refine op_y (y_load rfl ag_48 (sees 0 0 rfl) (us_at (by omega))) rfl ?_
                        refine ⟨(hsub (.cons _ (.refl _))), ?_⟩
                        refine H_one 9 rfl (by kernel_rfl) rfl (op_y (y_load rfl ag_48 (sees 0 0 rfl) (us_at (by omega))) rfl ?_)
                        refine ⟨(hsub (.cons _ (.refl _))), ?_⟩
                        refine HY 14 rfl ((hsub (.cons _ (.refl _)))) rfl (y_indexS rfl rfl Try.underlying33 sz_48 (by omega) (by omega) (ix0 (j))) ?_
                        refine H_one 15 rfl (by kernel_rfl) rfl (op_store1 0 0 rfl rfl rfl sz_48 rfl (us_lt (by omega)) ?_)
                        refine ⟨(hsub (.cons _ (.refl _))), ?_⟩
                        refine HY 16 rfl ((hsub (.cons _ (.refl _)))) rfl (y_indexS rfl rfl Try.underlying33 sz_48 (by omega) (by omega) (ix0 ((j - 1)))) ?_
                        refine H_one 17 rfl (by kernel_rfl) rfl (op_store1 0 0 rfl rfl rfl sz_48 rfl (by rw [List.length_set]; exact us_lt (by omega)) ?_)
                        refine ⟨(hsub (.cons _ (.refl _))), ?_⟩
                        refine H_done (by kernel_rfl) ?_
                        rw [us_swp (by omega) (by omega)]
                        refine C_region (LY rfl (y_move rfl) ?_)
                        refine LY rfl (y_add rfl rfl (show _ = ((j + 1 : Nat) : Int) from by rw [wi64 (by omega) (by omega)]; omega)) ?_
                        refine LY rfl (y_assign rfl) (L_nil ?_)
                        exact ⟨(Go.Sort.swp e2 j (j - 1), j + 1), ⟨by simp only; rw [swp_size]; exact hse, by simp only; omega, by simp only; omega, by simp only; rw [← hre, sp_go hj1 hl9]⟩, by simp only; omega, ⟨rfl, rfl, rfl, rfl, rfl, rfl, trivial⟩, ((hsub (.cons_cons _ (.refl _))).trans (hsub_pick [0] rfl))⟩
                  · have hj1 : ¬ j < b := by have := of_decide_eq_false hc8; omega
                    have hfin2 : Go.Sort.shiftUp ltN b j e2 = e2 := sp_stop (.inl hj1)
                    refine C_exit ?_
                    exact ⟨(k, e2), ⟨hse, hk1, hk2, pi_go hk hc2 hc3 hd2 hd3 (by rw [if_pos hc7, ← hre, hfin2])⟩, ⟨rfl, rfl, rfl, rfl, rfl, trivial⟩, ((hsub (.cons_cons _ (.refl _))).trans (hsub_pick [0] rfl))⟩
                · replace hc7 : ¬ 2 ≤ b - k := by have := of_decide_eq_false hc7; omega
                  refine C_skip ?_
                  exact ⟨(k, d3), ⟨hs3, hk1, hk2, pi_go hk hc2 hc3 hd2 hd3 (by rw [if_neg hc7])⟩, ⟨rfl, rfl, rfl, rfl, rfl, trivial⟩, ((hsub (.cons_cons _ (.refl _))).trans (hsub_pick [0] rfl))⟩
            · refine op_y (y_load rfl ag_48 (sees 0 0 rfl) (us_at (by omega))) rfl ?_
              refine ⟨(hsub (.cons _ (.refl _))), ?_⟩
              refine H_one 9 rfl (by kernel_rfl) rfl (op_y (y_load rfl ag_48 (sees 0 0 rfl) (us_at (by omega))) rfl ?_)
              refine ⟨(hsub (.cons _ (.refl _))), ?_⟩
              refine HY 14 rfl ((hsub (.cons _ (.refl _)))) rfl (y_indexS rfl rfl Try.underlying33 sz_48 (by omega) (by omega) (ix0 (k))) ?_
              refine H_one 15 rfl (by kernel_rfl) rfl (op_store1 0 0 rfl rfl rfl sz_48 rfl (us_lt (by omega)) ?_)
              refine ⟨(hsub (.cons _ (.refl _))), ?_⟩
              refine HY 16 rfl ((hsub (.cons _ (.refl _)))) rfl (y_indexS rfl rfl Try.underlying33 sz_48 (by omega) (by omega) (ix0 ((k - 1)))) ?_
              refine H_one 17 rfl (by kernel_rfl) rfl (op_store1 0 0 rfl rfl rfl sz_48 rfl (by rw [List.length_set]; exact us_lt (by omega)) ?_)
              refine ⟨(hsub (.cons _ (.refl _))), ?_⟩
              refine H_done (by kernel_rfl) ?_
              rw [us_swp (by omega) (by omega)]
              obtain ⟨d2, hd2⟩ : ∃ y, y = Go.Sort.swp d1 k (k - 1) := ⟨_, rfl⟩
              rw [← hd2]
              have hsd2 : d2.size = n := by rw [hd2, swp_size]; omega
              refine C_cutG (ι := Array Nat) (fun x => x.size = n ∧ x = if 2 ≤ k - a then Go.Sort.shiftDown ltN (k - 1) d2 else d2) (fun x => [(0, (.slice (some ⟨sb, 0, none⟩) n cap)), (1, .int .i64 ((a : Nat) : Int)), (2, .int .i64 ((b : Nat) : Int)), (8, .int .i64 ((5 : Int) - ((s + 1 : Nat) : Int))), (7, .int .i64 ((k : Nat) : Int))]) (fun x => useg 48 sb x sp :: H) ?_ (fun d3 hd3 => ?_)
              · refine C_seq (C_region (LY rfl (y_move rfl) (LY rfl (y_move rfl) ?_)))
                refine LY rfl (y_sub rfl rfl (show _ = ((k - a : Nat) : Int) from by rw [wi64 (by omega) (by omega)]; omega)) ?_
                refine LY rfl (y_geq rfl rfl) ?_
                refine L_nil ?_
                refine C_cond rfl (fun hc4 => ?_) (fun hc4 => ?_)
                · replace hc4 : 2 ≤ k - a := by have := of_decide_eq_true hc4; omega
                  refine C_seq (C_region (LY rfl (y_move rfl) ?_))
                  refine LY rfl (y_sub rfl rfl (show _ = ((k - 1 : Nat) : Int) from by rw [wi64 (by omega) (by omega)]; omega)) ?_
                  refine LY rfl (y_assign rfl) (L_nil (C_block ?_))
                  refine C_loop (ι := Array Nat × Nat) (fun y => [(0, (.slice (some ⟨sb, 0, none⟩) n cap)), (1, .int .i64 ((a : Nat) : Int)), (2, .int .i64 ((b : Nat) : Int)), (8, .int .i64 ((5 : Int) - ((s + 1 : Nat) : Int))), (7, .int .i64 ((k : Nat) : Int)), (9, .int .i64 ((y.2 : Nat) : Int))]) (fun y => useg 48 sb y.1 sp :: H) (fun y => y.1.size = n ∧ y.2 < k ∧ Go.Sort.shiftDown ltN y.2 y.1 = Go.Sort.shiftDown ltN (k - 1) d2) (fun y => y.2) (d2, k - 1) ⟨hsd2, by simp only; omega, rfl⟩ ⟨rfl, rfl, rfl, rfl, rfl, rfl, trivial⟩ ((hsub (.cons_cons _ (.refl _))).trans (hsub_pick [0] rfl)) (fun y hy => ?_)
                  obtain ⟨e1, j⟩ := y
                  obtain ⟨hse, hjk, hre⟩ := hy
                  try simp only at hse hjk hre
                  try dsimp only
                  refine C_seq (C_seq (C_region (LY rfl (y_move rfl) ?_)))
                  refine LY rfl (y_geq rfl rfl) ?_
                  refine L_nil ?_
                  refine C_cond rfl (fun hc5 => ?_) (fun hc5 => ?_)
                  · have hj1 : 1 ≤ j := by have := of_decide_eq_true hc5; omega
                    refine C_skip (C_seq (C_block (C_seq (C_seq ?_))))
                    refine C_regionH0 (by kernel_rfl) ?_
                    refine HY 0 rfl (HSub.refl _) rfl (y_move rfl) ?_
                    refine HY 1 rfl (HSub.refl _) rfl (y_move rfl) ?_
                    refine HY 2 rfl (HSub.refl _) rfl (y_indexS rfl rfl Try.underlying33 sz_48 (by omega) (by omega) (ix0 (j))) ?_
                    refine HY 3 rfl (HSub.refl _) rfl (y_load rfl ag_48 (sees 0 0 rfl) (us_at (by omega))) ?_
                    refine HY 4 rfl (HSub.refl _) rfl (y_move rfl) ?_
                    refine HY 5 rfl (HSub.refl _) rfl (y_move rfl) ?_
                    refine HY 6 rfl (HSub.refl _) rfl (y_sub rfl rfl (show _ = ((j - 1 : Nat) : Int) from by rw [wi64 (by omega) (by omega)]; omega)) ?_
                    refine HY 7 rfl (HSub.refl _) rfl (y_indexS rfl rfl Try.underlying33 sz_48 (by omega) (by omega) (ix0 (j - 1))) ?_
                    refine HY 8 rfl (HSub.refl _) rfl (y_load rfl ag_48 (sees 0 0 rfl) (us_at (by omega))) ?_
                    refine H_one 9 rfl (by kernel_rfl) rfl (op_call rfl rfl (fun a w => Try.call89 a w) rfl ?_)
                    refine (less_u (e1[j]!) (e1[j - 1]!)).mono ?_
                    rintro _ _ ⟨rfl, e⟩
                    obtain rfl := e.symm
                    clear e
                    refine ⟨_, rfl, ?_⟩
                    refine ⟨HSub.refl _, ?_⟩
                    refine HY 10 rfl (HSub.refl _) rfl (y_not rfl) ?_
                    refine H_done (by kernel_rfl) ?_
                    refine C_cond rfl (fun hc6 => ?_) (fun hc6 => ?_)
                    · have hfin2 : Go.Sort.shiftDown ltN j e1 = e1 := sw_stop (.inr (by simpa using hc6))
                      refine C_exit ?_
                      exact ⟨e1, ⟨hse, by rw [if_pos hc4, ← hre, hfin2]⟩, ⟨rfl, rfl, rfl, rfl, rfl, trivial⟩, ((hsub (.cons_cons _ (.refl _))).trans (hsub_pick [0] rfl))⟩
                    · have hl6 : ltN e1[j]! e1[j - 1]! = true := by simpa using hc6
                      refine C_skip ?_
                      refine C_regionH H (by kernel_rfl) ?_
                      refine HY 0 rfl ((hsub (.cons _ (.refl _)))) rfl (y_move rfl) ?_
                      refine HY 1 rfl ((hsub (.cons _ (.refl _)))) rfl (y_move rfl) ?_
                      refine HY 2 rfl ((hsub (.cons _ (.refl _)))) rfl (y_move rfl) ?_
                      refine HY 3 rfl ((hsub (.cons _ (.refl _)))) rfl (y_move rfl) ?_
                      refine HY 4 rfl ((hsub (.cons _ (.refl _)))) rfl (y_sub rfl rfl (show _ = ((j - 1 : Nat) : Int) from by rw [wi64 (by omega) (by omega)]; omega)) ?_
                      refine HY 5 rfl ((hsub (.cons _ (.refl _)))) rfl (y_move rfl) ?_
                      refine HY 6 rfl ((hsub (.cons _ (.refl _)))) rfl (y_move rfl) ?_
                      refine HY 7 rfl ((hsub (.cons _ (.refl _)))) rfl (y_sub rfl rfl (show _ = ((j - 1 : Nat) : Int) from by rw [wi64 (by omega) (by omega)]; omega)) ?_
                      refine HY 8 rfl ((hsub (.cons _ (.refl _)))) rfl (y_indexS rfl rfl Try.underlying33 sz_48 (by omega) (by omega) (ix0 ((j - 1)))) ?_
                      refine HY 10 rfl ((hsub (.cons _ (.refl _)))) rfl (y_move rfl) ?_
                      refine HY 11 rfl ((hsub (.cons _ (.refl _)))) rfl (y_move rfl) ?_
                      refine HY 12 rfl ((hsub (.cons _ (.refl _)))) rfl (y_indexS rfl rfl Try.underlying33 sz_48 (by omega) (by omega) (ix0 (j))) ?_
                      refine H_two 9 13 rfl rfl (by kernel_rfl) rfl rfl ?_ ?_
                      · refine op_y (y_load rfl ag_48 (sees 0 0 rfl) (us_at (by omega))) rfl ?_
                        refine ⟨(hsub (.cons _ (.refl _))), ?_⟩
                        refine H_one 13 rfl (by kernel_rfl) rfl (op_y (y_load rfl ag_48 (sees 0 0 rfl) (us_at (by omega))) rfl ?_)
                        refine ⟨(hsub (.cons _ (.refl _))), ?_⟩
                        refine HY 14 rfl ((hsub (.cons _ (.refl _)))) rfl (y_indexS rfl rfl Try.underlying33 sz_48 (by omega) (by omega) (ix0 (j))) ?_
                        refine H_one 15 rfl (by kernel_rfl) rfl (op_store1 0 0 rfl rfl rfl sz_48 rfl (us_lt (by omega)) ?_)
                        refine ⟨(hsub (.cons _ (.refl _))), ?_⟩
                        refine HY 16 rfl ((hsub (.cons _ (.refl _)))) rfl (y_indexS rfl rfl Try.underlying33 sz_48 (by omega) (by omega) (ix0 ((j - 1)))) ?_
                        refine H_one 17 rfl (by kernel_rfl) rfl (op_store1 0 0 rfl rfl rfl sz_48 rfl (by rw [List.length_set]; exact us_lt (by omega)) ?_)
                        refine ⟨(hsub (.cons _ (.refl _))), ?_⟩
                        refine H_done (by kernel_rfl) ?_
                        rw [us_swp (by omega) (by omega)]
                        refine C_region (LY rfl (y_move rfl) ?_)
                        refine LY rfl (y_sub rfl rfl (show _ = ((j - 1 : Nat) : Int) from by rw [wi64 (by omega) (by omega)]; omega)) ?_
                        refine LY rfl (y_assign rfl) (L_nil ?_)
                        exact ⟨(Go.Sort.swp e1 j (j - 1), j - 1), ⟨by simp only; rw [swp_size]; exact hse, by simp only; omega, by simp only; rw [← hre, sw_go hj1 hl6]⟩, by simp only; omega, ⟨rfl, rfl, rfl, rfl, rfl, rfl, trivial⟩, ((hsub (.cons_cons _ (.refl _))).trans (hsub_pick [0] rfl))⟩
                      · refine op_y (y_load rfl ag_48 (sees 0 0 rfl) (us_at (by omega))) rfl ?_
                        refine ⟨(hsub (.cons _ (.refl _))), ?_⟩
                        refine H_one 9 rfl (by kernel_rfl) rfl (op_y (y_load rfl ag_48 (sees 0 0 rfl) (us_at (by omega))) rfl ?_)
                        refine ⟨(hsub (.cons _ (.refl _))), ?_⟩
                        refine HY 14 rfl ((hsub (.cons _ (.refl _)))) rfl (y_indexS rfl rfl Try.underlying33 sz_48 (by omega) (by omega) (ix0 (j))) ?_
                        refine H_one 15 rfl (by kernel_rfl) rfl (op_store1 0 0 rfl rfl rfl sz_48 rfl (us_lt (by omega)) ?_)
                        refine ⟨(hsub (.cons _ (.refl _))), ?_⟩
                        refine HY 16 rfl ((hsub (.cons _ (.refl _)))) rfl (y_indexS rfl rfl Try.underlying33 sz_48 (by omega) (by omega) (ix0 ((j - 1)))) ?_
                        refine H_one 17 rfl (by kernel_rfl) rfl (op_store1 0 0 rfl rfl rfl sz_48 rfl (by rw [List.length_set]; exact us_lt (by omega)) ?_)
                        refine ⟨(hsub (.cons _ (.refl _))), ?_⟩
                        refine H_done (by kernel_rfl) ?_
                        rw [us_swp (by omega) (by omega)]
                        refine C_region (LY rfl (y_move rfl) ?_)
                        refine LY rfl (y_sub rfl rfl (show _ = ((j - 1 : Nat) : Int) from by rw [wi64 (by omega) (by omega)]; omega)) ?_
                        refine LY rfl (y_assign rfl) (L_nil ?_)
                        exact ⟨(Go.Sort.swp e1 j (j - 1), j - 1), ⟨by simp only; rw [swp_size]; exact hse, by simp only; omega, by simp only; rw [← hre, sw_go hj1 hl6]⟩, by simp only; omega, ⟨rfl, rfl, rfl, rfl, rfl, rfl, trivial⟩, ((hsub (.cons_cons _ (.refl _))).trans (hsub_pick [0] rfl))⟩
                  · have hj1 : ¬ 1 ≤ j := by have := of_decide_eq_false hc5; omega
                    have hfin2 : Go.Sort.shiftDown ltN j e1 = e1 := sw_stop (.inl (by omega))
                    refine C_exit ?_
                    exact ⟨e1, ⟨hse, by rw [if_pos hc4, ← hre, hfin2]⟩, ⟨rfl, rfl, rfl, rfl, rfl, trivial⟩, ((hsub (.cons_cons _ (.refl _))).trans (hsub_pick [0] rfl))⟩
                · replace hc4 : ¬ 2 ≤ k - a := by have := of_decide_eq_false hc4; omega
                  refine C_skip ?_
                  exact ⟨d2, ⟨hsd2, by rw [if_neg hc4]⟩, ⟨rfl, rfl, rfl, rfl, rfl, trivial⟩, ((hsub (.cons_cons _ (.refl _))).trans (hsub_pick [0] rfl))⟩
              · obtain ⟨hs3, hd3⟩ := hd3
                refine C_seq (C_region (LY rfl (y_move rfl) (LY rfl (y_move rfl) ?_)))
                refine LY rfl (y_sub rfl rfl (show _ = ((b - k : Nat) : Int) from by rw [wi64 (by omega) (by omega)]; omega)) ?_
                refine LY rfl (y_geq rfl rfl) ?_
                refine L_nil ?_
                refine C_cond rfl (fun hc7 => ?_) (fun hc7 => ?_)
                · replace hc7 : 2 ≤ b - k := by have := of_decide_eq_true hc7; omega
                  refine C_seq (C_region (LY rfl (y_move rfl) ?_))
                  refine LY rfl (y_add rfl rfl (show _ = ((k + 1 : Nat) : Int) from by rw [wi64 (by omega) (by omega)]; omega)) ?_
                  refine LY rfl (y_assign rfl) (L_nil (C_block ?_))
                  refine C_loop (ι := Array Nat × Nat) (fun y => [(0, (.slice (some ⟨sb, 0, none⟩) n cap)), (1, .int .i64 ((a : Nat) : Int)), (2, .int .i64 ((b : Nat) : Int)), (8, .int .i64 ((5 : Int) - ((s + 1 : Nat) : Int))), (7, .int .i64 ((k : Nat) : Int)), (10, .int .i64 ((y.2 : Nat) : Int))]) (fun y => useg 48 sb y.1 sp :: H) (fun y => y.1.size = n ∧ k < y.2 ∧ y.2 ≤ b ∧ Go.Sort.shiftUp ltN b y.2 y.1 = Go.Sort.shiftUp ltN b (k + 1) d3) (fun y => b - y.2) (d3, k + 1) ⟨hs3, by simp only; omega, by simp only; omega, rfl⟩ ⟨rfl, rfl, rfl, rfl, rfl, rfl, trivial⟩ ((hsub (.cons_cons _ (.refl _))).trans (hsub_pick [0] rfl)) (fun y hy => ?_)
                  obtain ⟨e2, j⟩ := y
                  obtain ⟨hse, hjk, hjb, hre⟩ := hy
                  try simp only at hse hjk hjb hre
                  try dsimp only
                  refine C_seq (C_seq (C_region (LY rfl (y_move rfl) (LY rfl (y_move rfl) (LY rfl (y_lss rfl rfl) (L_nil ?_))))))
                  refine C_cond rfl (fun hc8 => ?_) (fun hc8 => ?_)
                  · have hj1 : j < b := by have := of_decide_eq_true hc8; omega
                    refine C_skip (C_seq (C_block (C_seq (C_seq ?_))))
                    refine C_regionH0 (by kernel_rfl) ?_
                    refine HY 0 rfl (HSub.refl _) rfl (y_move rfl) ?_
                    refine HY 1 rfl (HSub.refl _) rfl (y_move rfl) ?_
                    refine HY 2 rfl (HSub.refl _) rfl (y_indexS rfl rfl Try.underlying33 sz_48 (by omega) (by omega) (ix0 (j))) ?_
                    refine HY 3 rfl (HSub.refl _) rfl (y_load rfl ag_48 (sees 0 0 rfl) (us_at (by omega))) ?_
                    refine HY 4 rfl (HSub.refl _) rfl (y_move rfl) ?_
                    refine HY 5 rfl (HSub.refl _) rfl (y_move rfl) ?_
                    refine HY 6 rfl (HSub.refl _) rfl (y_sub rfl rfl (show _ = ((j - 1 : Nat) : Int) from by rw [wi64 (by omega) (by omega)]; omega)) ?_
                    refine HY 7 rfl (HSub.refl _) rfl (y_indexS rfl rfl Try.underlying33 sz_48 (by omega) (by omega) (ix0 (j - 1))) ?_
                    refine HY 8 rfl (HSub.refl _) rfl (y_load rfl ag_48 (sees 0 0 rfl) (us_at (by omega))) ?_
                    refine H_one 9 rfl (by kernel_rfl) rfl (op_call rfl rfl (fun a w => Try.call89 a w) rfl ?_)
                    refine (less_u (e2[j]!) (e2[j - 1]!)).mono ?_
                    rintro _ _ ⟨rfl, e⟩
                    obtain rfl := e.symm
                    clear e
                    refine ⟨_, rfl, ?_⟩
                    refine ⟨HSub.refl _, ?_⟩
                    refine HY 10 rfl (HSub.refl _) rfl (y_not rfl) ?_
                    refine H_done (by kernel_rfl) ?_
                    refine C_cond rfl (fun hc9 => ?_) (fun hc9 => ?_)
                    · have hfin2 : Go.Sort.shiftUp ltN b j e2 = e2 := sp_stop (.inr (by simpa using hc9))
                      refine C_exit ?_
                      exact ⟨(k, e2), ⟨hse, hk1, hk2, pi_go hk hc2 hc3 hd2 hd3 (by rw [if_pos hc7, ← hre, hfin2])⟩, ⟨rfl, rfl, rfl, rfl, rfl, trivial⟩, ((hsub (.cons_cons _ (.refl _))).trans (hsub_pick [0] rfl))⟩
                    · have hl9 : ltN e2[j]! e2[j - 1]! = true := by simpa using hc9
                      refine C_skip ?_
                      refine C_regionH H (by kernel_rfl) ?_
                      refine HY 0 rfl ((hsub (.cons _ (.refl _)))) rfl (y_move rfl) ?_
                      refine HY 1 rfl ((hsub (.cons _ (.refl _)))) rfl (y_move rfl) ?_
                      refine HY 2 rfl ((hsub (.cons _ (.refl _)))) rfl (y_move rfl) ?_
                      refine HY 3 rfl ((hsub (.cons _ (.refl _)))) rfl (y_move rfl) ?_
                      refine HY 4 rfl ((hsub (.cons _ (.refl _)))) rfl (y_sub rfl rfl (show _ = ((j - 1 : Nat) : Int) from by rw [wi64 (by omega) (by omega)]; omega)) ?_
                      refine HY 5 rfl ((hsub (.cons _ (.refl _)))) rfl (y_move rfl) ?_
                      refine HY 6 rfl ((hsub (.cons _ (.refl _)))) rfl (y_move rfl) ?_
                      refine HY 7 rfl ((hsub (.cons _ (.refl _)))) rfl (y_sub rfl rfl (show _ = ((j - 1 : Nat) : Int) from by rw [wi64 (by omega) (by omega)]; omega)) ?_
                      refine HY 8 rfl ((hsub (.cons _ (.refl _)))) rfl (y_indexS rfl rfl Try.underlying33 sz_48 (by omega) (by omega) (ix0 ((j - 1)))) ?_
                      refine HY 10 rfl ((hsub (.cons _ (.refl _)))) rfl (y_move rfl) ?_
                      refine HY 11 rfl ((hsub (.cons _ (.refl _)))) rfl (y_move rfl) ?_
                      refine HY 12 rfl ((hsub (.cons _ (.refl _)))) rfl (y_indexS rfl rfl Try.underlying33 sz_48 (by omega) (by omega) (ix0 (j))) ?_
                      refine H_two 9 13 rfl rfl (by kernel_rfl) rfl rfl ?_ ?_
                      · refine op_y (y_load rfl ag_48 (sees 0 0 rfl) (us_at (by omega))) rfl ?_
                        refine ⟨(hsub (.cons _ (.refl _))), ?_⟩
                        refine H_one 13 rfl (by kernel_rfl) rfl (op_y (y_load rfl ag_48 (sees 0 0 rfl) (us_at (by omega))) rfl ?_)
                        refine ⟨(hsub (.cons _ (.refl _))), ?_⟩
                        refine HY 14 rfl ((hsub (.cons _ (.refl _)))) rfl (y_indexS rfl rfl Try.underlying33 sz_48 (by omega) (by omega) (ix0 (j))) ?_
                        refine H_one 15 rfl (by kernel_rfl) rfl (op_store1 0 0 rfl rfl rfl sz_48 rfl (us_lt (by omega)) ?_)
                        refine ⟨(hsub (.cons _ (.refl _))), ?_⟩
                        refine HY 16 rfl ((hsub (.cons _ (.refl _)))) rfl (y_indexS rfl rfl Try.underlying33 sz_48 (by omega) (by omega) (ix0 ((j - 1)))) ?_
                        refine H_one 17 rfl (by kernel_rfl) rfl (op_store1 0 0 rfl rfl rfl sz_48 rfl (by rw [List.length_set]; exact us_lt (by omega)) ?_)
                        refine ⟨(hsub (.cons _ (.refl _))), ?_⟩
                        refine H_done (by kernel_rfl) ?_
                        rw [us_swp (by omega) (by omega)]
                        refine C_region (LY rfl (y_move rfl) ?_)
                        refine LY rfl (y_add rfl rfl (show _ = ((j + 1 : Nat) : Int) from by rw [wi64 (by omega) (by omega)]; omega)) ?_
                        refine LY rfl (y_assign rfl) (L_nil ?_)
                        exact ⟨(Go.Sort.swp e2 j (j - 1), j + 1), ⟨by simp only; rw [swp_size]; exact hse, by simp only; omega, by simp only; omega, by simp only; rw [← hre, sp_go hj1 hl9]⟩, by simp only; omega, ⟨rfl, rfl, rfl, rfl, rfl, rfl, trivial⟩, ((hsub (.cons_cons _ (.refl _))).trans (hsub_pick [0] rfl))⟩
                      · refine op_y (y_load rfl ag_48 (sees 0 0 rfl) (us_at (by omega))) rfl ?_
                        refine ⟨(hsub (.cons _ (.refl _))), ?_⟩
                        refine H_one 9 rfl (by kernel_rfl) rfl (op_y (y_load rfl ag_48 (sees 0 0 rfl) (us_at (by omega))) rfl ?_)
                        refine ⟨(hsub (.cons _ (.refl _))), ?_⟩
                        refine HY 14 rfl ((hsub (.cons _ (.refl _)))) rfl (y_indexS rfl rfl Try.underlying33 sz_48 (by omega) (by omega) (ix0 (j))) ?_
                        refine H_one 15 rfl (by kernel_rfl) rfl (op_store1 0 0 rfl rfl rfl sz_48 rfl (us_lt (by omega)) ?_)
                        refine ⟨(hsub (.cons _ (.refl _))), ?_⟩
                        refine HY 16 rfl ((hsub (.cons _ (.refl _)))) rfl (y_indexS rfl rfl Try.underlying33 sz_48 (by omega) (by omega) (ix0 ((j - 1)))) ?_
                        refine H_one 17 rfl (by kernel_rfl) rfl (op_store1 0 0 rfl rfl rfl sz_48 rfl (by rw [List.length_set]; exact us_lt (by omega)) ?_)
                        refine ⟨(hsub (.cons _ (.refl _))), ?_⟩
                        refine H_done (by kernel_rfl) ?_
                        rw [us_swp (by omega) (by omega)]
                        refine C_region (LY rfl (y_move rfl) ?_)
                        refine LY rfl (y_add rfl rfl (show _ = ((j + 1 : Nat) : Int) from by rw [wi64 (by omega) (by omega)]; omega)) ?_
                        refine LY rfl (y_assign rfl) (L_nil ?_)
                        exact ⟨(Go.Sort.swp e2 j (j - 1), j + 1), ⟨by simp only; rw [swp_size]; exact hse, by simp only; omega, by simp only; omega, by simp only; rw [← hre, sp_go hj1 hl9]⟩, by simp only; omega, ⟨rfl, rfl, rfl, rfl, rfl, rfl, trivial⟩, ((hsub (.cons_cons _ (.refl _))).trans (hsub_pick [0] rfl))⟩
                  · have hj1 : ¬ j < b := by have := of_decide_eq_false hc8; omega
                    have hfin2 : Go.Sort.shiftUp ltN b j e2 = e2 := sp_stop (.inl hj1)
                    refine C_exit ?_
                    exact ⟨(k, e2), ⟨hse, hk1, hk2, pi_go hk hc2 hc3 hd2 hd3 (by rw [if_pos hc7, ← hre, hfin2])⟩, ⟨rfl, rfl, rfl, rfl, rfl, trivial⟩, ((hsub (.cons_cons _ (.refl _))).trans (hsub_pick [0] rfl))⟩
                · replace hc7 : ¬ 2 ≤ b - k := by have := of_decide_eq_false hc7; omega
                  refine C_skip ?_
                  exact ⟨(k, d3), ⟨hs3, hk1, hk2, pi_go hk hc2 hc3 hd2 hd3 (by rw [if_neg hc7])⟩, ⟨rfl, rfl, rfl, rfl, rfl, trivial⟩, ((hsub (.cons_cons _ (.refl _))).trans (hsub_pick [0] rfl))⟩
    · obtain ⟨k, d4⟩ := z
      obtain ⟨hs4, hk1, hk2, hr4⟩ := hz
      try simp only at hs4 hk1 hk2 hr4
      try dsimp only
      refine C_region (LY rfl (y_move rfl) ?_)
      refine LY rfl (y_add rfl rfl (show _ = ((5 : Int) - ((s + 1 : Nat) : Int) + 1) from by rw [wi64 (by omega) (by omega)])) ?_
      refine LY rfl (y_assign rfl) (L_nil ?_)
      exact ⟨(d4, k, s), ⟨hs4, by simp only; omega, by simp only; omega, by simp only; omega, by simp only; rw [← hr1, hr4]⟩, by simp only; omega, ⟨rfl, rfl, rfl, rfl, by show some _ = some _; rw [show ((5 : Int) - (s : Int)) = 5 - ((s + 1 : Nat) : Int) + 1 by omega], trivial⟩, ((hsub (.cons_cons _ (.refl _))).trans (hsub_pick [0] rfl))⟩
  · obtain rfl : s = 0 := by have := of_decide_eq_false hc0; omega
    refine C_exit (C_seq (C_region (LY rfl (y_assign rfl) (L_nil (C_ret ?_)))))
    refine B_ret (rv_tmp rfl rv_nil) ((hsub (.cons_cons _ (.refl _))).trans (hsub_pick [0] rfl)) ?_
    rw [← hr1]
    first
    | (rw [pi_true hk hc2]; exact ⟨rfl, rfl⟩)
    | (rw [pi_short hk hc2 hc3]; exact ⟨rfl, rfl⟩)
    | exact ⟨rfl, rfl⟩

end Go.Proofs.Ytighbhplfjjgpaa

/- walks (own work; the walks' lines by a program of this repo). -/
set_option linter.unusedVariables false
set_option linter.unusedSimpArgs false
set_option maxRecDepth 20000
namespace Go.Proofs.Ytighbhplfjjgpaa
open Go.Sl
attribute [local irreducible] BodyQ WpC WpL WpS WpH OpW FnS



set_option maxHeartbeats 1000000 in

theorem reverse_u {w0 : World} {H : Hp} {sb n cap : Nat} {sp : List Value} (d : Array Nat) (hd : d.size = n) (hn : n < 4611686018427387904) (a b : Nat) (hab : a < b) (hb : b ≤ n) : FnS Try.prog w0 87 #[(.slice (some ⟨sb, 0, none⟩) n cap), .int .i64 ((a : Nat) : Int), .int .i64 ((b : Nat) : Int)] (useg 48 sb d sp :: H) (fun e H' => e = .returned (.tuple #[]) ∧ H' = useg 48 sb (Go.Sort.reverseRange d a b) sp :: H) := by
  refine FnS_intro (n := 32) (rs := []) (vs := [(.slice (some ⟨sb, 0, none⟩) n cap), .int .i64 ((a : Nat) : Int), .int .i64 ((b : Nat) : Int)]) Try.func87 rfl Try.ntmps87 rfl rfl ?_
  refine C_seq (C_region (LY rfl (y_move rfl) (LY rfl (y_assign rfl) (L_nil (C_seq (C_region (LY rfl (y_move rfl) ?_)))))))
  refine LY rfl (y_sub rfl rfl (show _ = ((b - 1 : Nat) : Int) from by rw [wi64 (by omega) (by omega)]; omega)) ?_
  refine LY rfl (y_assign rfl) (L_nil (C_block ?_))
  refine C_loop (ι := Array Nat × Nat × Nat) (fun y => [(0, (.slice (some ⟨sb, 0, none⟩) n cap)), (6, .int .i64 ((y.2.1 : Nat) : Int)), (7, .int .i64 ((y.2.2 : Nat) : Int))]) (fun y => useg 48 sb y.1 sp :: H) (fun y => y.1.size = n ∧ y.2.1 ≤ n ∧ y.2.2 < n ∧ Go.Sort.reverseLoop y.2.1 y.2.2 y.1 = Go.Sort.reverseRange d a b) (fun y => y.2.2 - y.2.1) (d, a, b - 1) ⟨hd, by simp only; omega, by simp only; omega, rfl⟩ ⟨rfl, rfl, rfl, trivial⟩ ((hsub (.cons_cons _ (.refl _))).trans (hsub_pick [0] rfl)) (fun y hy => ?_)
  obtain ⟨e1, i, j⟩ := y
  obtain ⟨hse, hin, hjn, hre⟩ := hy
  try simp only at hse hin hjn hre
  try dsimp only
  refine C_seq (C_seq (C_region (LY rfl (y_move rfl) (LY rfl (y_move rfl) (LY rfl (y_lss rfl rfl) (L_nil ?_))))))
  refine C_cond rfl (fun hc0 => ?_) (fun hc0 => ?_)
  · replace hc0 : i < j := by have := of_decide_eq_true hc0; omega
    refine C_skip (C_block (C_seq ?_))
    refine C_regionH H (by kernel_rfl) ?_
    refine HY 0 rfl ((hsub (.cons _ (.refl _)))) rfl (y_move rfl) ?_
    refine HY 1 rfl ((hsub (.cons _ (.refl _)))) rfl (y_move rfl) ?_
    refine HY 2 rfl ((hsub (.cons _ (.refl _)))) rfl (y_move rfl) ?_
    refine HY 3 rfl ((hsub (.cons _ (.refl _)))) rfl (y_move rfl) ?_
    refine HY 4 rfl ((hsub (.cons _ (.refl _)))) rfl (y_move rfl) ?_
    refine HY 5 rfl ((hsub (.cons _ (.refl _)))) rfl (y_move rfl) ?_
    refine HY 6 rfl ((hsub (.cons _ (.refl _)))) rfl (y_indexS rfl rfl Try.underlying33 sz_48 (by omega) (by omega) (ix0 (j))) ?_
    refine HY 8 rfl ((hsub (.cons _ (.refl _)))) rfl (y_move rfl) ?_
    refine HY 9 rfl ((hsub (.cons _ (.refl _)))) rfl (y_move rfl) ?_
    refine HY 10 rfl ((hsub (.cons _ (.refl _)))) rfl (y_indexS rfl rfl Try.underlying33 sz_48 (by omega) (by omega) (ix0 (i))) ?_
    refine H_two 7 11 rfl rfl (by kernel_rfl) rfl rfl ?_ ?_
    · refine op_y (y_load rfl ag_48 (sees 0 0 rfl) (us_at (by omega))) rfl ?_
      refine ⟨(hsub (.cons _ (.refl _))), ?_⟩
      refine H_one 11 rfl (by kernel_rfl) rfl (op_y (y_load rfl ag_48 (sees 0 0 rfl) (us_at (by omega))) rfl ?_)
      refine ⟨(hsub (.cons _ (.refl _))), ?_⟩
      refine HY 12 rfl ((hsub (.cons _ (.refl _)))) rfl (y_indexS rfl rfl Try.underlying33 sz_48 (by omega) (by omega) (ix0 (i))) ?_
      refine H_one 13 rfl (by kernel_rfl) rfl (op_store1 0 0 rfl rfl rfl sz_48 rfl (us_lt (by omega)) ?_)
      refine ⟨(hsub (.cons _ (.refl _))), ?_⟩
      refine HY 14 rfl ((hsub (.cons _ (.refl _)))) rfl (y_indexS rfl rfl Try.underlying33 sz_48 (by omega) (by omega) (ix0 (j))) ?_
      refine H_one 15 rfl (by kernel_rfl) rfl (op_store1 0 0 rfl rfl rfl sz_48 rfl (by rw [List.length_set]; exact us_lt (by omega)) ?_)
      refine ⟨(hsub (.cons _ (.refl _))), ?_⟩
      refine H_done (by kernel_rfl) ?_
      rw [us_swp (by omega) (by omega)]
      refine C_seq (C_region (LY rfl (y_move rfl) ?_))
      refine LY rfl (y_add rfl rfl (show _ = ((i + 1 : Nat) : Int) from by rw [wi64 (by omega) (by omega)]; omega)) ?_
      refine LY rfl (y_assign rfl) (L_nil (C_region (LY rfl (y_move rfl) ?_)))
      refine LY rfl (y_sub rfl rfl (show _ = ((j - 1 : Nat) : Int) from by rw [wi64 (by omega) (by omega)]; omega)) ?_
      refine LY rfl (y_assign rfl) (L_nil ?_)
      exact ⟨(Go.Sort.swp e1 i j, i + 1, j - 1), ⟨by simp only; rw [swp_size]; exact hse, by simp only; omega, by simp only; omega, by simp only; rw [← hre, rev_go hc0]⟩, by simp only; omega, ⟨rfl, rfl, rfl, trivial⟩, ((hsub (.cons_cons _ (.refl _))).trans (hsub_pick [0] rfl))⟩
    · refine op_y (y_load rfl ag_48 (sees 0 0 rfl) (us_at (by omega))) rfl ?_
      refine ⟨(hsub (.cons _ (.refl _))), ?_⟩
      refine H_one 7 rfl (by kernel_rfl) rfl (op_y (y_load rfl ag_48 (sees 0 0 rfl) (us_at (by omega))) rfl ?_)
      refine ⟨(hsub (.cons _ (.refl _))), ?_⟩
      refine HY 12 rfl ((hsub (.cons _ (.refl _)))) rfl (y_indexS rfl rfl Try.underlying33 sz_48 (by omega) (by omega) (ix0 (i))) ?_
      refine H_one 13 rfl (by kernel_rfl) rfl (op_store1 0 0 rfl rfl rfl sz_48 rfl (us_lt (by omega)) ?_)
      refine ⟨(hsub (.cons _ (.refl _))), ?_⟩
      refine HY 14 rfl ((hsub (.cons _ (.refl _)))) rfl (y_indexS rfl rfl Try.underlying33 sz_48 (by omega) (by omega) (ix0 (j))) ?_
      refine H_one 15 rfl (by kernel_rfl) rfl (op_store1 0 0 rfl rfl rfl sz_48 rfl (by rw [List.length_set]; exact us_lt (by omega)) ?_)
      refine ⟨(hsub (.cons _ (.refl _))), ?_⟩
      refine H_done (by kernel_rfl) ?_
      rw [us_swp (by omega) (by omega)]
      refine C_seq (C_region (LY rfl (y_move rfl) ?_))
      refine LY rfl (y_add rfl rfl (show _ = ((i + 1 : Nat) : Int) from by rw [wi64 (by omega) (by omega)]; omega)) ?_
      refine LY rfl (y_assign rfl) (L_nil (C_region (LY rfl (y_move rfl) ?_)))
      refine LY rfl (y_sub rfl rfl (show _ = ((j - 1 : Nat) : Int) from by rw [wi64 (by omega) (by omega)]; omega)) ?_
      refine LY rfl (y_assign rfl) (L_nil ?_)
      exact ⟨(Go.Sort.swp e1 i j, i + 1, j - 1), ⟨by simp only; rw [swp_size]; exact hse, by simp only; omega, by simp only; omega, by simp only; rw [← hre, rev_go hc0]⟩, by simp only; omega, ⟨rfl, rfl, rfl, trivial⟩, ((hsub (.cons_cons _ (.refl _))).trans (hsub_pick [0] rfl))⟩
  · replace hc0 : ¬ i < j := by have := of_decide_eq_false hc0; omega
    refine C_exit ?_
    refine B_end rv_nil ((hsub (.cons_cons _ (.refl _))).trans (hsub_pick [0] rfl)) ?_
    refine ⟨rfl, ?_⟩
    rw [← hre, rev_stop hc0]
    rfl

theorem order2_u {w0 : World} {H : Hp} {sb n cap : Nat} {sp : List Value} (d : Array Nat) (hd : d.size = n) (hn : n < 4611686018427387904) {sw : Nat} (s : Int) (a b : Nat) (ha : a < n) (hb : b < n) : FnS Try.prog w0 102 #[(.slice (some ⟨sb, 0, none⟩) n cap), .int .i64 ((a : Nat) : Int), .int .i64 ((b : Nat) : Int), ptr sw] (useg 48 sb d sp :: [(sw, .cells [Value.int .i64 s].toArray 3)] :: H) (fun e H' => ∃ x0 x1 s', ((x0 = a ∧ x1 = b) ∨ (x0 = b ∧ x1 = a)) ∧ e = .returned (.tuple #[.int .i64 ((x0 : Nat) : Int), .int .i64 ((x1 : Nat) : Int)]) ∧ H' = useg 48 sb d sp :: [(sw, .cells [Value.int .i64 s'].toArray 3)] :: H) := by
  refine FnS_intro (n := 28) (rs := [.tmp 8, .tmp 9]) (vs := [(.slice (some ⟨sb, 0, none⟩) n cap), .int .i64 ((a : Nat) : Int), .int .i64 ((b : Nat) : Int), ptr sw]) Try.func102 rfl Try.ntmps102 rfl rfl ?_
  refine C_seq (C_region (LY rfl (y_assign rfl) (LY rfl (y_assign rfl) (L_nil (C_seq (C_seq ?_))))))
  refine C_regionH0 (by kernel_rfl) ?_
  refine HY 0 rfl (HSub.refl _) rfl (y_move rfl) ?_
  refine HY 1 rfl (HSub.refl _) rfl (y_move rfl) ?_
  refine HY 2 rfl (HSub.refl _) rfl (y_indexS rfl rfl Try.underlying33 sz_48 (by omega) (by omega) (ix0 (b))) ?_
  refine HY 3 rfl (HSub.refl _) rfl (y_load rfl ag_48 (sees 0 0 rfl) (us_at (by omega))) ?_
  refine HY 4 rfl (HSub.refl _) rfl (y_move rfl) ?_
  refine HY 5 rfl (HSub.refl _) rfl (y_move rfl) ?_
  refine HY 6 rfl (HSub.refl _) rfl (y_indexS rfl rfl Try.underlying33 sz_48 (by omega) (by omega) (ix0 (a))) ?_
  refine HY 7 rfl (HSub.refl _) rfl (y_load rfl ag_48 (sees 0 0 rfl) (us_at (by omega))) ?_
  refine H_one 8 rfl (by kernel_rfl) rfl (op_call rfl rfl (fun a w => Try.call89 a w) rfl ?_)
  refine (less_u (d[b]!) (d[a]!)).mono ?_
  rintro _ _ ⟨rfl, e⟩
  obtain rfl := e.symm
  clear e
  refine ⟨_, rfl, ?_⟩
  refine ⟨HSub.refl _, ?_⟩
  refine H_done (by kernel_rfl) ?_
  refine C_cond rfl (fun hc0 => ?_) (fun hc0 => ?_)
  · skip
    refine C_seq (C_region (LY rfl (y_move rfl) (LY rfl (y_nilCheck rfl) (LY rfl (y_load rfl ag_3 (sees 1 0 rfl) rfl) ?_))))
    refine LY rfl (y_add rfl rfl rfl) ?_
    refine LY rfl (y_nilCheck rfl) ?_
    refine L_op rfl (op_store1 1 0 rfl rfl rfl sz_3 rfl (Nat.le_of_ble_eq_true rfl) ?_)
    refine L_nil (C_seq (C_region (LY rfl (y_move rfl) (LY rfl (y_move rfl) (LY rfl (y_assign rfl) (LY rfl (y_assign rfl) (L_nil (C_ret ?_))))))))
    refine B_ret (rv_tmp rfl (rv_tmp rfl rv_nil)) ((hsub (.cons_cons _ (.cons_cons _ (.refl _)))).trans (hsub_pick [0, 0] rfl)) ?_
    first
    | exact ⟨b, a, _, .inr ⟨rfl, rfl⟩, rfl, rfl⟩
    | exact ⟨a, b, _, .inl ⟨rfl, rfl⟩, rfl, rfl⟩
  · skip
    refine C_skip (C_seq (C_region (LY rfl (y_move rfl) (LY rfl (y_move rfl) (LY rfl (y_assign rfl) (LY rfl (y_assign rfl) (L_nil (C_ret ?_))))))))
    refine B_ret (rv_tmp rfl (rv_tmp rfl rv_nil)) ((hsub (.cons_cons _ (.cons_cons _ (.refl _)))).trans (hsub_pick [0, 0] rfl)) ?_
    first
    | exact ⟨b, a, _, .inr ⟨rfl, rfl⟩, rfl, rfl⟩
    | exact ⟨a, b, _, .inl ⟨rfl, rfl⟩, rfl, rfl⟩

theorem median_u {w0 : World} {H : Hp} {sb n cap : Nat} {sp : List Value} (d : Array Nat) (hd : d.size = n) (hn : n < 4611686018427387904) {sw : Nat} (s : Int) (a b c : Nat) (ha : a < n) (hb : b < n) (hc : c < n) : FnS Try.prog w0 100 #[(.slice (some ⟨sb, 0, none⟩) n cap), .int .i64 ((a : Nat) : Int), .int .i64 ((b : Nat) : Int), .int .i64 ((c : Nat) : Int), ptr sw] (useg 48 sb d sp :: [(sw, .cells [Value.int .i64 s].toArray 3)] :: H) (fun e H' => ∃ x0 s', (x0 = a ∨ x0 = b ∨ x0 = c) ∧ e = .returned (.int .i64 ((x0 : Nat) : Int)) ∧ H' = useg 48 sb d sp :: [(sw, .cells [Value.int .i64 s'].toArray 3)] :: H) := by
  refine FnS_intro (n := 36) (rs := [.tmp 10]) (vs := [(.slice (some ⟨sb, 0, none⟩) n cap), .int .i64 ((a : Nat) : Int), .int .i64 ((b : Nat) : Int), .int .i64 ((c : Nat) : Int), ptr sw]) Try.func100 rfl Try.ntmps100 rfl rfl ?_
  refine C_seq (C_region (LY rfl (y_assign rfl) (L_nil (C_seq (C_region (LY rfl (y_move rfl) (LY rfl (y_move rfl) (LY rfl (y_move rfl) (LY rfl (y_move rfl) ?_)))))))))
  refine L_op rfl (op_call rfl rfl (fun a w => Try.call102 a w) rfl ?_)
  refine (order2_u d hd hn _ a b ha hb).mono ?_
  rintro _ _ ⟨p0, p1, sp, hp, rfl, rfl⟩
  refine ⟨_, rfl, ?_⟩
  refine LY rfl (y_move rfl) (LY rfl (y_extract rfl rfl) (LY rfl (y_extract rfl rfl) (LY rfl (y_assign rfl) (LY rfl (y_assign rfl) (L_nil (C_seq (C_region (LY rfl (y_move rfl) (LY rfl (y_move rfl) (LY rfl (y_move rfl) (LY rfl (y_move rfl) ?_)))))))))))
  refine L_op rfl (op_call rfl rfl (fun a w => Try.call102 a w) rfl ?_)
  refine (order2_u d hd hn _ p1 c (by omega) hc).mono ?_
  rintro _ _ ⟨q0, q1, sq, hq, rfl, rfl⟩
  refine ⟨_, rfl, ?_⟩
  refine LY rfl (y_move rfl) (LY rfl (y_extract rfl rfl) (LY rfl (y_extract rfl rfl) (LY rfl (y_assign rfl) (LY rfl (y_assign rfl) (L_nil (C_seq (C_region (LY rfl (y_move rfl) (LY rfl (y_move rfl) (LY rfl (y_move rfl) (LY rfl (y_move rfl) ?_)))))))))))
  refine L_op rfl (op_call rfl rfl (fun a w => Try.call102 a w) rfl ?_)
  refine (order2_u d hd hn _ p0 q0 (by omega) (by omega)).mono ?_
  rintro _ _ ⟨r0, r1, sr, hr, rfl, rfl⟩
  refine ⟨_, rfl, ?_⟩
  refine LY rfl (y_move rfl) (LY rfl (y_extract rfl rfl) (LY rfl (y_extract rfl rfl) (LY rfl (y_assign rfl) (LY rfl (y_assign rfl) (L_nil (C_seq (C_region (LY rfl (y_move rfl) (LY rfl (y_assign rfl) (L_nil (C_ret ?_)))))))))))
  refine B_ret (rv_tmp rfl rv_nil) ((hsub (.cons_cons _ (.cons_cons _ (.refl _)))).trans (hsub_pick [0, 0] rfl)) ?_
  exact ⟨r1, _, by omega, rfl, rfl⟩

theorem medadj_u {w0 : World} {H : Hp} {sb n cap : Nat} {sp : List Value} (d : Array Nat) (hd : d.size = n) (hn : n < 4611686018427387904) {sw : Nat} (s : Int) (a : Nat) (ha : 1 ≤ a) (hb : a + 1 < n) : FnS Try.prog w0 99 #[(.slice (some ⟨sb, 0, none⟩) n cap), .int .i64 ((a : Nat) : Int), ptr sw] (useg 48 sb d sp :: [(sw, .cells [Value.int .i64 s].toArray 3)] :: H) (fun e H' => ∃ x0 s', (a - 1 ≤ x0 ∧ x0 ≤ a + 1) ∧ e = .returned (.int .i64 ((x0 : Nat) : Int)) ∧ H' = useg 48 sb d sp :: [(sw, .cells [Value.int .i64 s'].toArray 3)] :: H) := by
  refine FnS_intro (n := 15) (rs := [.tmp 6]) (vs := [(.slice (some ⟨sb, 0, none⟩) n cap), .int .i64 ((a : Nat) : Int), ptr sw]) Try.func99 rfl Try.ntmps99 rfl rfl ?_
  refine C_seq (C_region (LY rfl (y_assign rfl) (L_nil (C_seq (C_region (LY rfl (y_move rfl) (LY rfl (y_move rfl) ?_)))))))
  refine LY rfl (y_sub rfl rfl (show _ = ((a - 1 : Nat) : Int) from by rw [wi64 (by omega) (by omega)]; omega)) ?_
  refine LY rfl (y_move rfl) (LY rfl (y_move rfl) ?_)
  refine LY rfl (y_add rfl rfl (show _ = ((a + 1 : Nat) : Int) from by rw [wi64 (by omega) (by omega)]; omega)) ?_
  refine LY rfl (y_move rfl) ?_
  refine L_op rfl (op_call rfl rfl (fun a w => Try.call100 a w) rfl ?_)
  refine (median_u d hd hn _ (a - 1) a (a + 1) (by omega) (by omega) (by omega)).mono ?_
  rintro _ _ ⟨p, sp, hp, rfl, rfl⟩
  refine ⟨_, rfl, ?_⟩
  refine LY rfl (y_assign rfl) (L_nil (C_ret ?_))
  refine B_ret (rv_tmp rfl rv_nil) ((hsub (.cons_cons _ (.cons_cons _ (.refl _)))).trans (hsub_pick [0, 0] rfl)) ?_
  exact ⟨p, _, by omega, rfl, rfl⟩

set_option maxHeartbeats 1000000 in

theorem choose_u {w0 : World} {H : Hp} {sb n cap : Nat} {sp : List Value} (d : Array Nat) (hd : d.size = n) (hn : n < 4611686018427387904) (a b : Nat) (hab : 12 < b - a) (hb : b ≤ n) : FnS Try.prog w0 86 #[(.slice (some ⟨sb, 0, none⟩) n cap), .int .i64 ((a : Nat) : Int), .int .i64 ((b : Nat) : Int)] (useg 48 sb d sp :: H) (fun e H' => ∃ (p : Nat) (h : Int), a ≤ p ∧ p < b ∧ e = .returned (.tuple #[.int .i64 (p : Int), .int .i64 h]) ∧ H' = useg 48 sb d sp :: H) := by
  obtain ⟨i_, hi_⟩ : ∃ y, y = a + (b - a) / 4 * 1 := ⟨_, rfl⟩
  obtain ⟨j_, hj_⟩ : ∃ y, y = a + (b - a) / 4 * 2 := ⟨_, rfl⟩
  obtain ⟨k_, hk_⟩ : ∃ y, y = a + (b - a) / 4 * 3 := ⟨_, rfl⟩
  refine FnS_intro (n := 57) (rs := [.tmp 6, .tmp 7]) (vs := [(.slice (some ⟨sb, 0, none⟩) n cap), .int .i64 ((a : Nat) : Int), .int .i64 ((b : Nat) : Int)]) Try.func86 rfl Try.ntmps86 rfl rfl ?_
  refine C_seq (C_region (LY rfl (y_assign rfl) (LY rfl (y_assign rfl) (L_nil (C_seq (C_region (LY rfl (y_move rfl) (LY rfl (y_move rfl) ?_))))))))
  refine LY rfl (y_sub rfl rfl (show _ = ((b - a : Nat) : Int) from by rw [wi64 (by omega) (by omega)]; omega)) ?_
  refine LY rfl (y_assign rfl) (L_nil (C_seq (C_region ?_)))
  refine L_op rfl (op_alloc zl_3 rfl (fun B1 => ?_))
  refine L_nil (C_seq (C_region (LY rfl (y_move rfl) (LY rfl (y_move rfl) ?_))))
  refine LY rfl (y_quo rfl rfl (by omega) (show _ = (((b - a) / 4 : Nat) : Int) from by rw [Int.tdiv_eq_ediv_of_nonneg (by omega), wi64 (by omega) (by omega)]; omega)) ?_
  refine LY rfl (y_mul rfl rfl (show _ = (((b - a) / 4 * 1 : Nat) : Int) from by rw [wi64 (by omega) (by omega)]; omega)) ?_
  refine LY rfl (y_add rfl rfl (show _ = ((i_ : Nat) : Int) from by rw [wi64 (by omega) (by omega)]; omega)) ?_
  refine LY rfl (y_assign rfl) (L_nil (C_seq (C_region (LY rfl (y_move rfl) (LY rfl (y_move rfl) ?_)))))
  refine LY rfl (y_quo rfl rfl (by omega) (show _ = (((b - a) / 4 : Nat) : Int) from by rw [Int.tdiv_eq_ediv_of_nonneg (by omega), wi64 (by omega) (by omega)]; omega)) ?_
  refine LY rfl (y_mul rfl rfl (show _ = (((b - a) / 4 * 2 : Nat) : Int) from by rw [wi64 (by omega) (by omega)]; omega)) ?_
  refine LY rfl (y_add rfl rfl (show _ = ((j_ : Nat) : Int) from by rw [wi64 (by omega) (by omega)]; omega)) ?_
  refine LY rfl (y_assign rfl) (L_nil (C_seq (C_region (LY rfl (y_move rfl) (LY rfl (y_move rfl) ?_)))))
  refine LY rfl (y_quo rfl rfl (by omega) (show _ = (((b - a) / 4 : Nat) : Int) from by rw [Int.tdiv_eq_ediv_of_nonneg (by omega), wi64 (by omega) (by omega)]; omega)) ?_
  refine LY rfl (y_mul rfl rfl (show _ = (((b - a) / 4 * 3 : Nat) : Int) from by rw [wi64 (by omega) (by omega)]; omega)) ?_
  refine LY rfl (y_add rfl rfl (show _ = ((k_ : Nat) : Int) from by rw [wi64 (by omega) (by omega)]; omega)) ?_
  refine LY rfl (y_assign rfl) (L_nil (C_seq (C_seq (C_region (LY rfl (y_move rfl) ?_)))))
  refine LY rfl (y_geq rfl rfl) ?_
  refine L_nil ?_
  refine C_cond rfl (fun hc0 => ?_) (fun hc0 => absurd hc0 (by simp <;> omega))
  refine C_seq (C_seq (C_region (LY rfl (y_move rfl) ?_)))
  refine LY rfl (y_geq rfl rfl) ?_
  refine L_nil ?_
  refine C_cond rfl (fun hc1 => ?_) (fun hc1 => ?_)
  · replace hc1 : 50 ≤ b - a := by have := of_decide_eq_true hc1; omega
    refine C_seq (C_region (LY rfl (y_move rfl) (LY rfl (y_move rfl) ?_)))
    refine L_op rfl (op_call rfl rfl (fun a w => Try.call99 a w) rfl ?_)
    refine (FnS.sub (hsub_pick [1] rfl) (medadj_u d hd hn _ i_ (by omega) (by omega))).mono ?_
    rintro _ _ ⟨p1, sp1, hp1, rfl, rfl⟩
    refine ⟨_, rfl, ?_⟩
    refine LY rfl (y_assign rfl) (L_nil (C_seq (C_region (LY rfl (y_move rfl) (LY rfl (y_move rfl) ?_)))))
    refine L_op rfl (op_call rfl rfl (fun a w => Try.call99 a w) rfl ?_)
    refine (FnS.sub (hsub_pick [0] rfl) (medadj_u d hd hn _ j_ (by omega) (by omega))).mono ?_
    rintro _ _ ⟨p2, sp2, hp2, rfl, rfl⟩
    refine ⟨_, rfl, ?_⟩
    refine LY rfl (y_assign rfl) (L_nil (C_region (LY rfl (y_move rfl) (LY rfl (y_move rfl) ?_))))
    refine L_op rfl (op_call rfl rfl (fun a w => Try.call99 a w) rfl ?_)
    refine (FnS.sub (hsub_pick [0] rfl) (medadj_u d hd hn _ k_ (by omega) (by omega))).mono ?_
    rintro _ _ ⟨p3, sp3, hp3, rfl, rfl⟩
    refine ⟨_, rfl, ?_⟩
    refine LY rfl (y_assign rfl) (L_nil (C_region (LY rfl (y_move rfl) (LY rfl (y_move rfl) (LY rfl (y_move rfl) (LY rfl (y_move rfl) ?_))))))
    refine L_op rfl (op_call rfl rfl (fun a w => Try.call100 a w) rfl ?_)
    refine (FnS.sub (hsub_pick [0] rfl) (median_u d hd hn _ p1 p2 p3 (by omega) (by omega) (by omega))).mono ?_
    rintro _ _ ⟨pm, spm, hpm, rfl, rfl⟩
    refine ⟨_, rfl, ?_⟩
    refine LY rfl (y_assign rfl) (L_nil (C_seq (C_region (LY rfl (y_load rfl ag_3 (sees 1 0 rfl) rfl) (L_nil (C_block (C_seq (C_region (LY rfl (y_eqi rfl rfl) (LY rfl (y_assign rfl) (L_nil ?_)))))))))))
    refine C_cond rfl (fun hc2 => ?_) (fun hc2 => ?_)
    · replace hc2 := of_decide_eq_true hc2
      refine C_seq (C_region (LY rfl (y_move rfl) (LY rfl (y_assign rfl) (LY rfl (y_assign rfl) (L_nil (C_ret ?_))))))
      refine B_ret (rv_tmp rfl (rv_tmp rfl rv_nil)) ((hsub (.cons_cons _ (.cons _ (.refl _)))).trans (hsub_pick [0] rfl)) ?_
      exact ⟨pm, _, by omega, by omega, rfl, rfl⟩
    · replace hc2 := of_decide_eq_false hc2
      refine C_seq (C_region (LY rfl (y_eqi rfl rfl) (LY rfl (y_assign rfl) (L_nil ?_))))
      refine C_cond rfl (fun hc3 => ?_) (fun hc3 => ?_)
      · replace hc3 := of_decide_eq_true hc3
        refine C_seq (C_region (LY rfl (y_move rfl) (LY rfl (y_assign rfl) (LY rfl (y_assign rfl) (L_nil (C_ret ?_))))))
        refine B_ret (rv_tmp rfl (rv_tmp rfl rv_nil)) ((hsub (.cons_cons _ (.cons _ (.refl _)))).trans (hsub_pick [0] rfl)) ?_
        exact ⟨pm, _, by omega, by omega, rfl, rfl⟩
      · replace hc3 := of_decide_eq_false hc3
        refine C_seq (C_region (LY rfl (y_move rfl) (LY rfl (y_assign rfl) (LY rfl (y_assign rfl) (L_nil (C_ret ?_))))))
        refine B_ret (rv_tmp rfl (rv_tmp rfl rv_nil)) ((hsub (.cons_cons _ (.cons _ (.refl _)))).trans (hsub_pick [0] rfl)) ?_
        exact ⟨pm, _, by omega, by omega, rfl, rfl⟩
  · replace hc1 : ¬ 50 ≤ b - a := by have := of_decide_eq_false hc1; omega
    refine C_skip (C_region (LY rfl (y_move rfl) (LY rfl (y_move rfl) (LY rfl (y_move rfl) (LY rfl (y_move rfl) ?_)))))
    refine L_op rfl (op_call rfl rfl (fun a w => Try.call100 a w) rfl ?_)
    refine (FnS.sub (hsub_pick [1] rfl) (median_u d hd hn _ i_ j_ k_ (by omega) (by omega) (by omega))).mono ?_
    rintro _ _ ⟨pm, spm, hpm, rfl, rfl⟩
    refine ⟨_, rfl, ?_⟩
    refine LY rfl (y_assign rfl) (L_nil (C_seq (C_region (LY rfl (y_load rfl ag_3 (sees 1 0 rfl) rfl) (L_nil (C_block (C_seq (C_region (LY rfl (y_eqi rfl rfl) (LY rfl (y_assign rfl) (L_nil ?_)))))))))))
    refine C_cond rfl (fun hc2 => ?_) (fun hc2 => ?_)
    · replace hc2 := of_decide_eq_true hc2
      refine C_seq (C_region (LY rfl (y_move rfl) (LY rfl (y_assign rfl) (LY rfl (y_assign rfl) (L_nil (C_ret ?_))))))
      refine B_ret (rv_tmp rfl (rv_tmp rfl rv_nil)) ((hsub (.cons_cons _ (.cons _ (.refl _)))).trans (hsub_pick [0] rfl)) ?_
      exact ⟨pm, _, by omega, by omega, rfl, rfl⟩
    · replace hc2 := of_decide_eq_false hc2
      refine C_seq (C_region (LY rfl (y_eqi rfl rfl) (LY rfl (y_assign rfl) (L_nil ?_))))
      refine C_cond rfl (fun hc3 => ?_) (fun hc3 => ?_)
      · replace hc3 := of_decide_eq_true hc3
        refine C_seq (C_region (LY rfl (y_move rfl) (LY rfl (y_assign rfl) (LY rfl (y_assign rfl) (L_nil (C_ret ?_))))))
        refine B_ret (rv_tmp rfl (rv_tmp rfl rv_nil)) ((hsub (.cons_cons _ (.cons _ (.refl _)))).trans (hsub_pick [0] rfl)) ?_
        exact ⟨pm, _, by omega, by omega, rfl, rfl⟩
      · replace hc3 := of_decide_eq_false hc3
        refine C_seq (C_region (LY rfl (y_move rfl) (LY rfl (y_assign rfl) (LY rfl (y_assign rfl) (L_nil (C_ret ?_))))))
        refine B_ret (rv_tmp rfl (rv_tmp rfl rv_nil)) ((hsub (.cons_cons _ (.cons _ (.refl _)))).trans (hsub_pick [0] rfl)) ?_
        exact ⟨pm, _, by omega, by omega, rfl, rfl⟩

end Go.Proofs.Ytighbhplfjjgpaa

/- walks (own work; the walks' lines by a program of this repo). -/
set_option linter.unusedVariables false
set_option linter.unusedSimpArgs false
set_option maxRecDepth 20000
namespace Go.Proofs.Ytighbhplfjjgpaa
open Go.Sl
attribute [local irreducible] BodyQ WpC WpL WpS WpH OpW FnS


theorem len64_1 {w0 : World} {H : Hp} (x : Nat) (hx : x < 256) : FnS Try.prog w0 93 #[.int .u64 (x : Int)] H (fun e H' => e = .returned (.int .i64 (Go.Sort.bitsLen x : Int)) ∧ H' = H) := by
  have hb := bits_small hx
  refine FnS_intro (n := 25) (rs := [.tmp 2]) (vs := [.int .u64 (x : Int)]) Try.func93 rfl Try.ntmps93 rfl rfl ?_
  refine C_seq (C_region (LY rfl (y_assign rfl) (L_nil (C_seq (C_seq (C_region (LY rfl (y_move rfl) ?_)))))))
  refine LY rfl (y_geq rfl rfl) ?_
  refine L_nil ?_
  refine C_cond rfl (fun hc0 => absurd hc0 (by simp <;> omega)) (fun hc0 => ?_)
  refine C_skip (C_seq (C_seq (C_region (LY rfl (y_move rfl) ?_))))
  refine LY rfl (y_geq rfl rfl) ?_
  refine L_nil ?_
  refine C_cond rfl (fun hc1 => absurd hc1 (by simp <;> omega)) (fun hc1 => ?_)
  refine C_skip (C_seq (C_seq (C_region (LY rfl (y_move rfl) ?_))))
  refine LY rfl (y_geq rfl rfl) ?_
  refine L_nil ?_
  refine C_cond rfl (fun hc2 => absurd hc2 (by simp <;> omega)) (fun hc2 => ?_)
  refine C_skip (C_seq (C_region (LY rfl (y_move rfl) (LY rfl (y_move rfl) ?_))))
  refine LY rfl (y_conv rfl us_48 Try.underlying5 (show _ = ((x : Nat) : Int) from by rw [wu8 (by omega) (by omega)])) ?_
  refine LY rfl (y_indexStr (show _ = some (Value.string len8) from by kernel_rfl) rfl Try.underlying9 (by omega) (len8_at (i := x) (by omega))) ?_
  refine LY rfl (y_conv rfl us_5 Try.underlying3 (show _ = ((Go.Sort.bitsLen x : Nat) : Int) from by rw [show (UInt8.ofNat (Go.Sort.bitsLen x)).toNat = Go.Sort.bitsLen x from by rw [UInt8.toNat_ofNat']; omega]; exact wi64 (by omega) (by omega))) ?_
  refine LY rfl (y_add rfl rfl (show _ = ((Go.Sort.bitsLen x : Nat) : Int) from by rw [wi64 (by omega) (by omega)]; omega)) ?_
  refine LY rfl (y_assign rfl) (L_nil (C_ret ?_))
  refine B_ret (rv_tmp rfl rv_nil) (HSub.refl _) ?_
  exact ⟨rfl, rfl⟩

theorem len64_2 {w0 : World} {H : Hp} (x : Nat) (hx : x < 65536) (hx2 : 256 ≤ x) : FnS Try.prog w0 93 #[.int .u64 (x : Int)] H (fun e H' => e = .returned (.int .i64 (Go.Sort.bitsLen x : Int)) ∧ H' = H) := by
  have hb := bits_small (show x / 256 < 256 by omega)
  have hs := bits_shift hx2
  refine FnS_intro (n := 25) (rs := [.tmp 2]) (vs := [.int .u64 (x : Int)]) Try.func93 rfl Try.ntmps93 rfl rfl ?_
  refine C_seq (C_region (LY rfl (y_assign rfl) (L_nil (C_seq (C_seq (C_region (LY rfl (y_move rfl) ?_)))))))
  refine LY rfl (y_geq rfl rfl) ?_
  refine L_nil ?_
  refine C_cond rfl (fun hc0 => absurd hc0 (by simp <;> omega)) (fun hc0 => ?_)
  refine C_skip (C_seq (C_seq (C_region (LY rfl (y_move rfl) ?_))))
  refine LY rfl (y_geq rfl rfl) ?_
  refine L_nil ?_
  refine C_cond rfl (fun hc1 => absurd hc1 (by simp <;> omega)) (fun hc1 => ?_)
  refine C_skip (C_seq (C_seq (C_region (LY rfl (y_move rfl) ?_))))
  refine LY rfl (y_geq rfl rfl) ?_
  refine L_nil ?_
  refine C_cond rfl (fun hc2 => ?_) (fun hc2 => absurd hc2 (by simp <;> omega))
  refine C_seq (C_region (LY rfl (y_move rfl) ?_))
  refine LY rfl (y_shr rfl rfl (by omega) (show _ = ((x / 256 : Nat) : Int) from by show Int.fdiv (x : Int) 256 = _; rw [Int.fdiv_eq_ediv_of_nonneg _ (by decide)]; omega)) ?_
  refine LY rfl (y_assign rfl) (L_nil (C_region (LY rfl (y_move rfl) ?_)))
  refine LY rfl (y_add rfl rfl (show _ = (8 : Int) from rfl)) ?_
  refine LY rfl (y_assign rfl) (L_nil (C_seq (C_region (LY rfl (y_move rfl) (LY rfl (y_move rfl) ?_)))))
  refine LY rfl (y_conv rfl us_48 Try.underlying5 (show _ = (((x / 256) : Nat) : Int) from by rw [wu8 (by omega) (by omega)])) ?_
  refine LY rfl (y_indexStr (show _ = some (Value.string len8) from by kernel_rfl) rfl Try.underlying9 (by omega) (len8_at (i := (x / 256)) (by omega))) ?_
  refine LY rfl (y_conv rfl us_5 Try.underlying3 (show _ = ((Go.Sort.bitsLen (x / 256) : Nat) : Int) from by rw [show (UInt8.ofNat (Go.Sort.bitsLen (x / 256))).toNat = Go.Sort.bitsLen (x / 256) from by rw [UInt8.toNat_ofNat']; omega]; exact wi64 (by omega) (by omega))) ?_
  refine LY rfl (y_add rfl rfl (show _ = ((Go.Sort.bitsLen x : Nat) : Int) from by rw [wi64 (by omega) (by omega)]; omega)) ?_
  refine LY rfl (y_assign rfl) (L_nil (C_ret ?_))
  refine B_ret (rv_tmp rfl rv_nil) (HSub.refl _) ?_
  exact ⟨rfl, rfl⟩

theorem len64_u {w0 : World} {H : Hp} (x : Nat) (hx : x < 65536) : FnS Try.prog w0 93 #[.int .u64 (x : Int)] H (fun e H' => e = .returned (.int .i64 (Go.Sort.bitsLen x : Int)) ∧ H' = H) := by
  by_cases h : x < 256
  · exact len64_1 x h
  · exact len64_2 x hx (by omega)

theorem len_u {w0 : World} {H : Hp} (x : Nat) (hx : x < 65536) : FnS Try.prog w0 73 #[.int .u64 (x : Int)] H (fun e H' => e = .returned (.int .i64 (Go.Sort.bitsLen x : Int)) ∧ H' = H) := by
  refine FnS_intro (n := 8) (rs := [.tmp 2]) (vs := [.int .u64 (x : Int)]) Try.func73 rfl Try.ntmps73 rfl rfl ?_
  refine C_seq (C_region (LY rfl (y_assign rfl) (L_nil (C_seq (C_cond_f rfl (C_skip (C_seq (C_region (LY rfl (y_move rfl) ?_)))))))))
  refine L_op rfl (op_call rfl rfl (fun a w => Try.call93 a w) rfl ?_)
  refine (len64_u x hx).mono ?_
  rintro _ _ ⟨rfl, e⟩
  obtain rfl := e.symm
  clear e
  refine ⟨_, rfl, ?_⟩
  refine LY rfl (y_assign rfl) (L_nil (C_ret ?_))
  refine B_ret (rv_tmp rfl rv_nil) (HSub.refl _) ?_
  exact ⟨rfl, rfl⟩

end Go.Proofs.Ytighbhplfjjgpaa

