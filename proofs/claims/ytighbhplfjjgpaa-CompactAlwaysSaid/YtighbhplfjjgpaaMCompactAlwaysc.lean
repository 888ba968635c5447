/- Own work: texts G4W, G5W, SlU, G1W, G6W, G7W, E2W, K1W, Rl, Rd8, Cg, K2W, Fr, E4W, Dw, Du, Mi, E5W, put together. -/
import Derived.Test.YtighbhplfjjgpaaProg
import Derived.Test.YtighbhplfjjgpaaMCompactAlwaysb
/- walks (own work; the walks' lines by a program of this repo). -/
set_option linter.unusedVariables false
set_option linter.unusedSimpArgs false
set_option maxRecDepth 20000
namespace Go.Proofs.Ytighbhplfjjgpaa
open Go.Sl
attribute [local irreducible] BodyQ WpC WpL WpS WpH OpW FnS



set_option maxHeartbeats 2000000 in

theorem partial_u {w0 : World} {H : Hp} {sb n cap : Nat} {sp : List Value} (d : Array Nat) (hd : d.size = n) (hn : n < 4611686018427387904) (a b : Nat) (hab : a < b) (hb : b ≤ n) : FnS Try.prog w0 88 #[(.slice (some ⟨sb, 0, none⟩) n cap), .int .i64 ((a : Nat) : Int), .int .i64 ((b : Nat) : Int)] (useg 48 sb d sp :: H) (fun e H' => e = .returned (.bool (Go.Sort.partialInsertionSort ltN d a b).2) ∧ H' = useg 48 sb (Go.Sort.partialInsertionSort ltN d a b).1 sp :: H) := by
  refine FnS_intro (n := 133) (rs := [.tmp 6]) (vs := [(.slice (some ⟨sb, 0, none⟩) n cap), .int .i64 ((a : Nat) : Int), .int .i64 ((b : Nat) : Int)]) Try.func88 rfl Try.ntmps88 rfl rfl ?_
  refine C_seq ?_
  refine C_region ?_
  refine L_y rfl (y_assign rfl) rfl ?_
  refine L_nil ?_
  refine C_seq ?_
  refine C_region ?_
  refine L_y rfl (y_move rfl) rfl ?_
  refine L_y rfl (y_add rfl rfl (show _ = ((a + 1 : Nat) : Int) from by rw [wi64 (by omega) (by omega)]; omega)) rfl ?_
  refine L_y rfl (y_assign rfl) rfl ?_
  refine L_nil ?_
  refine C_seq ?_
  refine C_seq ?_
  refine C_region ?_
  refine L_y rfl (y_assign rfl) rfl ?_
  refine L_nil ?_
  refine C_block ?_
  refine C_loop (ι := Array Nat × Nat × Nat) (fun x => [(0, (.slice (some ⟨sb, 0, none⟩) n cap)), (1, .int .i64 ((a : Nat) : Int)), (2, .int .i64 ((b : Nat) : Int)), (7, .int .i64 ((x.2.1 : Nat) : Int)), (8, .int .i64 ((5 : Int) - (x.2.2 : Int)))]) (fun x => useg 48 sb x.1 sp :: H) (fun x => x.1.size = n ∧ a < x.2.1 ∧ x.2.1 ≤ b ∧ x.2.2 ≤ 5 ∧ Go.Sort.partialIns ltN a b x.2.2 x.2.1 x.1 = Go.Sort.partialInsertionSort ltN d a b) (fun x => x.2.2) (d, a + 1, 5) ⟨hd, by simp only; omega, by simp only; omega, Nat.le_refl _, rfl⟩ ⟨rfl, rfl, rfl, rfl, rfl, trivial⟩ ((hsub (.cons_cons _ (.refl _))).trans (hsub_pick [0] rfl)) (fun x hx => ?_)
  obtain ⟨d1, i, s⟩ := x
  obtain ⟨hs1, hai, hib, hs5, hr1⟩ := hx
  try simp only at hs1 hai hib hs5 hr1
  try dsimp only
  refine C_seq ?_
  refine C_seq ?_
  refine C_region ?_
  refine L_y rfl (y_move rfl) rfl ?_
  refine L_y rfl (y_lss rfl rfl) rfl ?_
  refine L_nil ?_
  refine C_cond rfl (fun hc0 => ?_) (fun hc0 => ?_)
  · obtain ⟨s, rfl⟩ : ∃ m, s = m + 1 := ⟨s - 1, by have := of_decide_eq_true hc0; omega⟩
    refine C_skip ?_
    refine C_cutG (ι := Nat × Array Nat) (fun z => z.2.size = n ∧ a < z.1 ∧ z.1 ≤ b ∧ Go.Sort.partialIns ltN a b (s + 1) i d1 = Go.Sort.partialIns ltN a b s z.1 z.2) (fun z => [(0, (.slice (some ⟨sb, 0, none⟩) n cap)), (1, .int .i64 ((a : Nat) : Int)), (2, .int .i64 ((b : Nat) : Int)), (8, .int .i64 ((5 : Int) - ((s + 1 : Nat) : Int))), (7, .int .i64 ((z.1 : Nat) : Int))]) (fun z => useg 48 sb z.2 sp :: H) ?_ (fun z hz => ?_)
    · refine C_block ?_
      refine C_cutG (ι := Nat) (fun t => a < t ∧ t ≤ b ∧ Go.Sort.scanSorted ltN d1 b i = t) (fun t => [(0, (.slice (some ⟨sb, 0, none⟩) n cap)), (1, .int .i64 ((a : Nat) : Int)), (2, .int .i64 ((b : Nat) : Int)), (8, .int .i64 ((5 : Int) - ((s + 1 : Nat) : Int))), (7, .int .i64 ((t : Nat) : Int))]) (fun t => useg 48 sb d1 sp :: H) ?_ (fun k hk => ?_)
      · refine C_block ?_
        refine C_loop (ι := Nat) (fun t => [(0, (.slice (some ⟨sb, 0, none⟩) n cap)), (1, .int .i64 ((a : Nat) : Int)), (2, .int .i64 ((b : Nat) : Int)), (8, .int .i64 ((5 : Int) - ((s + 1 : Nat) : Int))), (7, .int .i64 ((t : Nat) : Int))]) (fun t => useg 48 sb d1 sp :: H) (fun t => a < t ∧ t ≤ b ∧ Go.Sort.scanSorted ltN d1 b t = Go.Sort.scanSorted ltN d1 b i) (fun t => b - t) i ⟨hai, hib, rfl⟩ ⟨rfl, rfl, rfl, rfl, rfl, trivial⟩ ((hsub (.cons_cons _ (.refl _))).trans (hsub_pick [0] rfl)) (fun t ht => ?_)
        obtain ⟨ht1, ht2, hts⟩ := ht
        refine C_seq ?_
        refine C_seq ?_
        refine C_regionH0 (by kernel_rfl) ?_
        refine H_y 0 rfl (by kernel_rfl) (by kernel_rfl) (by kernel_rfl) (HSub.refl _) rfl (y_move rfl) rfl ?_
        refine H_y 1 rfl (by kernel_rfl) (by kernel_rfl) (by kernel_rfl) (HSub.refl _) rfl (y_move rfl) rfl ?_
        refine H_y 2 rfl (by kernel_rfl) (by kernel_rfl) (by kernel_rfl) (HSub.refl _) rfl (y_lss rfl rfl) rfl ?_
        refine H_y 3 rfl (by kernel_rfl) (by kernel_rfl) (by kernel_rfl) (HSub.refl _) rfl (y_move rfl) rfl ?_
        refine H_case 20 rfl (fun hg5_4 => ?_) (fun hg5_4 => ?_)
        · have hle : t < b := by have := of_decide_eq_true hg5_4; omega
          refine H_y 4 rfl (by kernel_rfl) (by kernel_rfl) (by kernel_rfl) (HSub.refl _) rfl (y_move rfl) rfl ?_
          refine H_y 5 rfl (by kernel_rfl) (by kernel_rfl) (by kernel_rfl) (HSub.refl _) rfl (y_move rfl) rfl ?_
          refine H_y 6 rfl (by kernel_rfl) (by kernel_rfl) (by kernel_rfl) (HSub.refl _) rfl (y_indexS rfl rfl Try.underlying33 sz_48 (by omega) (by omega) (ix0 (t))) rfl ?_
          refine H_y 7 rfl (by kernel_rfl) (by kernel_rfl) (by kernel_rfl) (HSub.refl _) rfl (y_load rfl ag_48 (sees 0 0 rfl) (us_at (by omega))) rfl ?_
          refine H_y 8 rfl (by kernel_rfl) (by kernel_rfl) (by kernel_rfl) (HSub.refl _) rfl (y_move rfl) rfl ?_
          refine H_y 9 rfl (by kernel_rfl) (by kernel_rfl) (by kernel_rfl) (HSub.refl _) rfl (y_move rfl) rfl ?_
          refine H_y 10 rfl (by kernel_rfl) (by kernel_rfl) (by kernel_rfl) (HSub.refl _) rfl (y_sub rfl rfl (show _ = ((t - 1 : Nat) : Int) from by rw [wi64 (by omega) (by omega)]; omega)) rfl ?_
          refine H_y 11 rfl (by kernel_rfl) (by kernel_rfl) (by kernel_rfl) (HSub.refl _) rfl (y_indexS rfl rfl Try.underlying33 sz_48 (by omega) (by omega) (ix0 (t - 1))) rfl ?_
          refine H_y 12 rfl (by kernel_rfl) (by kernel_rfl) (by kernel_rfl) (HSub.refl _) rfl (y_load rfl ag_48 (sees 0 0 rfl) (us_at (by omega))) rfl ?_
          refine H_one 13 rfl (by kernel_rfl) rfl (op_call rfl rfl (fun a w => Try.call89 a w) rfl ?_)
          refine (less_u (d1[t]!) (d1[t - 1]!)).mono ?_
          rintro _ _ ⟨rfl, e⟩
          obtain rfl := e.symm
          clear e
          refine ⟨_, rfl, ?_⟩
          refine ⟨HSub.refl _, ?_⟩
          refine H_y 14 rfl (by kernel_rfl) (by kernel_rfl) (by kernel_rfl) (HSub.refl _) rfl (y_not rfl) rfl ?_
          refine H_y 15 rfl (by kernel_rfl) (by kernel_rfl) (by kernel_rfl) (HSub.refl _) rfl (y_pick_t rfl rfl) rfl ?_
          refine H_done (by kernel_rfl) ?_
          refine C_cond rfl (fun hc1 => ?_) (fun hc1 => ?_)
          · have hpt : ltN d1[t]! d1[t - 1]! = false := by simpa using hc1
            refine C_skip ?_
            refine C_block ?_
            refine C_region ?_
            refine L_y rfl (y_move rfl) rfl ?_
            refine L_y rfl (y_add rfl rfl (show _ = ((t + 1 : Nat) : Int) from by rw [wi64 (by omega) (by omega)]; omega)) rfl ?_
            refine L_y rfl (y_assign rfl) rfl ?_
            refine L_nil ?_
            exact ⟨t + 1, ⟨by omega, by omega, by rw [← hts, ss_go hle hpt]⟩, by omega, ⟨rfl, rfl, rfl, rfl, rfl, trivial⟩, ((hsub (.cons_cons _ (.refl _))).trans (hsub_pick [0] rfl))⟩
          · have hfin := hts.symm.trans (ss_stop (d := d1) (.inr (by simpa using hc1)))
            refine C_exit ?_
            exact ⟨t, ⟨ht1, ht2, hfin⟩, ⟨rfl, rfl, rfl, rfl, rfl, trivial⟩, ((hsub (.cons_cons _ (.refl _))).trans (hsub_pick [0] rfl))⟩
        · have hle : ¬ t < b := by have := of_decide_eq_false hg5_4; omega
          have hfin := hts.symm.trans (ss_stop (d := d1) (.inl hle))
          refine H_skip 4 rfl (by kernel_rfl) (by kernel_rfl) (by kernel_rfl) (HSub.refl _) rfl rfl ?_
          refine H_skip 5 rfl (by kernel_rfl) (by kernel_rfl) (by kernel_rfl) (HSub.refl _) rfl rfl ?_
          refine H_skip 6 rfl (by kernel_rfl) (by kernel_rfl) (by kernel_rfl) (HSub.refl _) rfl rfl ?_
          refine H_skip 7 rfl (by kernel_rfl) (by kernel_rfl) (by kernel_rfl) (HSub.refl _) rfl rfl ?_
          refine H_skip 8 rfl (by kernel_rfl) (by kernel_rfl) (by kernel_rfl) (HSub.refl _) rfl rfl ?_
          refine H_skip 9 rfl (by kernel_rfl) (by kernel_rfl) (by kernel_rfl) (HSub.refl _) rfl rfl ?_
          refine H_skip 10 rfl (by kernel_rfl) (by kernel_rfl) (by kernel_rfl) (HSub.refl _) rfl rfl ?_
          refine H_skip 11 rfl (by kernel_rfl) (by kernel_rfl) (by kernel_rfl) (HSub.refl _) rfl rfl ?_
          refine H_skip 12 rfl (by kernel_rfl) (by kernel_rfl) (by kernel_rfl) (HSub.refl _) rfl rfl ?_
          refine H_skip 13 rfl (by kernel_rfl) (by kernel_rfl) (by kernel_rfl) (HSub.refl _) rfl rfl ?_
          refine H_skip 14 rfl (by kernel_rfl) (by kernel_rfl) (by kernel_rfl) (HSub.refl _) rfl rfl ?_
          refine H_y 15 rfl (by kernel_rfl) (by kernel_rfl) (by kernel_rfl) (HSub.refl _) rfl (y_pick_f rfl rfl) rfl ?_
          refine H_done (by kernel_rfl) ?_
          refine C_cond_f rfl ?_
          refine C_exit ?_
          exact ⟨t, ⟨ht1, ht2, hfin⟩, ⟨rfl, rfl, rfl, rfl, rfl, trivial⟩, ((hsub (.cons_cons _ (.refl _))).trans (hsub_pick [0] rfl))⟩
      · obtain ⟨hk1, hk2, hk⟩ := hk
        refine C_seq ?_
        refine C_seq ?_
        refine C_region ?_
        refine L_y rfl (y_move rfl) rfl ?_
        refine L_y rfl (y_move rfl) rfl ?_
        refine L_y rfl (y_eqi rfl rfl) rfl ?_
        refine L_nil ?_
        refine C_cond rfl (fun hc2 => ?_) (fun hc2 => ?_)
        · replace hc2 : k = b := by have := of_decide_eq_true hc2; omega
          refine C_seq ?_
          refine C_region ?_
          refine L_y rfl (y_assign rfl) rfl ?_
          refine L_nil ?_
          refine C_ret ?_
          refine B_ret (rv_tmp rfl rv_nil) ((hsub (.cons_cons _ (.refl _))).trans (hsub_pick [0] rfl)) ?_
          rw [← hr1]
          first
          | (rw [pi_true hk hc2]; exact ⟨rfl, rfl⟩)
          | (rw [pi_short hk hc2 hc3]; exact ⟨rfl, rfl⟩)
          | exact ⟨rfl, rfl⟩
        · replace hc2 : ¬ k = b := by have := of_decide_eq_false hc2; omega
          refine C_skip ?_
          refine C_seq ?_
          refine C_seq ?_
          refine C_region ?_
          refine L_y rfl (y_move rfl) rfl ?_
          refine L_y rfl (y_move rfl) rfl ?_
          refine L_y rfl (y_sub rfl rfl (show _ = ((b - a : Nat) : Int) from by rw [wi64 (by omega) (by omega)]; omega)) rfl ?_
          refine L_y rfl (y_lss rfl rfl) rfl ?_
          refine L_nil ?_
          refine C_cond rfl (fun hc3 => ?_) (fun hc3 => ?_)
          · replace hc3 : b - a < 50 := by have := of_decide_eq_true hc3; omega
            refine C_seq ?_
            refine C_region ?_
            refine L_y rfl (y_assign rfl) rfl ?_
            refine L_nil ?_
            refine C_ret ?_
            refine B_ret (rv_tmp rfl rv_nil) ((hsub (.cons_cons _ (.refl _))).trans (hsub_pick [0] rfl)) ?_
            rw [← hr1]
            first
            | (rw [pi_true hk hc2]; exact ⟨rfl, rfl⟩)
            | (rw [pi_short hk hc2 hc3]; exact ⟨rfl, rfl⟩)
            | exact ⟨rfl, rfl⟩
          · replace hc3 : ¬ b - a < 50 := by have := of_decide_eq_false hc3; omega
            refine C_skip ?_
            refine C_seq ?_
            refine C_regionH H (by kernel_rfl) ?_
            refine H_y 0 rfl (by kernel_rfl) (by kernel_rfl) (by kernel_rfl) ((hsub (.cons _ (.refl _)))) rfl (y_move rfl) rfl ?_
            refine H_y 1 rfl (by kernel_rfl) (by kernel_rfl) (by kernel_rfl) ((hsub (.cons _ (.refl _)))) rfl (y_move rfl) rfl ?_
            refine H_y 2 rfl (by kernel_rfl) (by kernel_rfl) (by kernel_rfl) ((hsub (.cons _ (.refl _)))) rfl (y_move rfl) rfl ?_
            refine H_y 3 rfl (by kernel_rfl) (by kernel_rfl) (by kernel_rfl) ((hsub (.cons _ (.refl _)))) rfl (y_move rfl) rfl ?_
            refine H_y 4 rfl (by kernel_rfl) (by kernel_rfl) (by kernel_rfl) ((hsub (.cons _ (.refl _)))) rfl (y_sub rfl rfl (show _ = ((k - 1 : Nat) : Int) from by rw [wi64 (by omega) (by omega)]; omega)) rfl ?_
            refine H_y 5 rfl (by kernel_rfl) (by kernel_rfl) (by kernel_rfl) ((hsub (.cons _ (.refl _)))) rfl (y_move rfl) rfl ?_
            refine H_y 6 rfl (by kernel_rfl) (by kernel_rfl) (by kernel_rfl) ((hsub (.cons _ (.refl _)))) rfl (y_move rfl) rfl ?_
            refine H_y 7 rfl (by kernel_rfl) (by kernel_rfl) (by kernel_rfl) ((hsub (.cons _ (.refl _)))) rfl (y_sub rfl rfl (show _ = ((k - 1 : Nat) : Int) from by rw [wi64 (by omega) (by omega)]; omega)) rfl ?_
            refine H_y 8 rfl (by kernel_rfl) (by kernel_rfl) (by kernel_rfl) ((hsub (.cons _ (.refl _)))) rfl (y_indexS rfl rfl Try.underlying33 sz_48 (by omega) (by omega) (ix0 ((k - 1)))) rfl ?_
            refine H_y 10 rfl (by kernel_rfl) (by kernel_rfl) (by kernel_rfl) ((hsub (.cons _ (.refl _)))) rfl (y_move rfl) rfl ?_
            refine H_y 11 rfl (by kernel_rfl) (by kernel_rfl) (by kernel_rfl) ((hsub (.cons _ (.refl _)))) rfl (y_move rfl) rfl ?_
            refine H_y 12 rfl (by kernel_rfl) (by kernel_rfl) (by kernel_rfl) ((hsub (.cons _ (.refl _)))) rfl (y_indexS rfl rfl Try.underlying33 sz_48 (by omega) (by omega) (ix0 (k))) rfl ?_
            refine H_two 9 13 rfl rfl (by kernel_rfl) rfl rfl ?_ ?_
            · refine op_y (y_load rfl ag_48 (sees 0 0 rfl) (us_at (by omega))) rfl ?_
              refine ⟨(hsub (.cons _ (.refl _))), ?_⟩
              refine H_one 13 rfl (by kernel_rfl) rfl (op_y (y_load rfl ag_48 (sees 0 0 rfl) (us_at (by omega))) rfl ?_)
              refine ⟨(hsub (.cons _ (.refl _))), ?_⟩
              refine H_y 14 rfl (by kernel_rfl) (by kernel_rfl) (by kernel_rfl) ((hsub (.cons _ (.refl _)))) rfl (y_indexS rfl rfl Try.underlying33 sz_48 (by omega) (by omega) (ix0 (k))) rfl ?_
              refine H_one 15 rfl (by kernel_rfl) rfl (op_store1 0 0 rfl rfl rfl sz_48 rfl (us_lt (by omega)) ?_)
              refine ⟨(hsub (.cons _ (.refl _))), ?_⟩
              refine H_y 16 rfl (by kernel_rfl) (by kernel_rfl) (by kernel_rfl) ((hsub (.cons _ (.refl _)))) rfl (y_indexS rfl rfl Try.underlying33 sz_48 (by omega) (by omega) (ix0 ((k - 1)))) rfl ?_
              refine H_one 17 rfl (by kernel_rfl) rfl (op_store1 0 0 rfl rfl rfl sz_48 rfl (by rw [List.length_set]; exact us_lt (by omega)) ?_)
              refine ⟨(hsub (.cons _ (.refl _))), ?_⟩
              refine H_done (by kernel_rfl) ?_
              rw [us_swp (by omega) (by omega)]
              obtain ⟨d2, hd2⟩ : ∃ y, y = Go.Sort.swp d1 k (k - 1) := ⟨_, rfl⟩
              rw [← hd2]
              have hsd2 : d2.size = n := by rw [hd2, swp_size]; omega
              refine C_cutG (ι := Array Nat) (fun x => x.size = n ∧ x = if 2 ≤ k - a then Go.Sort.shiftDown ltN (k - 1) d2 else d2) (fun x => [(0, (.slice (some ⟨sb, 0, none⟩) n cap)), (1, .int .i64 ((a : Nat) : Int)), (2, .int .i64 ((b : Nat) : Int)), (8, .int .i64 ((5 : Int) - ((s + 1 : Nat) : Int))), (7, .int .i64 ((k : Nat) : Int))]) (fun x => useg 48 sb x sp :: H) ?_ (fun d3 hd3 => ?_)
              · refine C_seq ?_
                refine C_region ?_
                refine L_y rfl (y_move rfl) rfl ?_
                refine L_y rfl (y_move rfl) rfl ?_
                refine L_y rfl (y_sub rfl rfl (show _ = ((k - a : Nat) : Int) from by rw [wi64 (by omega) (by omega)]; omega)) rfl ?_
                refine L_y rfl (y_geq rfl rfl) rfl ?_
                refine L_nil ?_
                refine C_cond rfl (fun hc4 => ?_) (fun hc4 => ?_)
                · replace hc4 : 2 ≤ k - a := by have := of_decide_eq_true hc4; omega
                  refine C_seq ?_
                  refine C_region ?_
                  refine L_y rfl (y_move rfl) rfl ?_
                  refine L_y rfl (y_sub rfl rfl (show _ = ((k - 1 : Nat) : Int) from by rw [wi64 (by omega) (by omega)]; omega)) rfl ?_
                  refine L_y rfl (y_assign rfl) rfl ?_
                  refine L_nil ?_
                  refine C_block ?_
                  refine C_loop (ι := Array Nat × Nat) (fun y => [(0, (.slice (some ⟨sb, 0, none⟩) n cap)), (1, .int .i64 ((a : Nat) : Int)), (2, .int .i64 ((b : Nat) : Int)), (8, .int .i64 ((5 : Int) - ((s + 1 : Nat) : Int))), (7, .int .i64 ((k : Nat) : Int)), (9, .int .i64 ((y.2 : Nat) : Int))]) (fun y => useg 48 sb y.1 sp :: H) (fun y => y.1.size = n ∧ y.2 < k ∧ Go.Sort.shiftDown ltN y.2 y.1 = Go.Sort.shiftDown ltN (k - 1) d2) (fun y => y.2) (d2, k - 1) ⟨hsd2, by simp only; omega, rfl⟩ ⟨rfl, rfl, rfl, rfl, rfl, rfl, trivial⟩ ((hsub (.cons_cons _ (.refl _))).trans (hsub_pick [0] rfl)) (fun y hy => ?_)
                  obtain ⟨e1, j⟩ := y
                  obtain ⟨hse, hjk, hre⟩ := hy
                  try simp only at hse hjk hre
                  try dsimp only
                  refine C_seq ?_
                  refine C_seq ?_
                  refine C_region ?_
                  refine L_y rfl (y_move rfl) rfl ?_
                  refine L_y rfl (y_geq rfl rfl) rfl ?_
                  refine L_nil ?_
                  refine C_cond rfl (fun hc5 => ?_) (fun hc5 => ?_)
                  · have hj1 : 1 ≤ j := by have := of_decide_eq_true hc5; omega
                    refine C_skip ?_
                    refine C_seq ?_
                    refine C_block ?_
                    refine C_seq ?_
                    refine C_seq ?_
                    refine C_regionH0 (by kernel_rfl) ?_
                    refine H_y 0 rfl (by kernel_rfl) (by kernel_rfl) (by kernel_rfl) (HSub.refl _) rfl (y_move rfl) rfl ?_
                    refine H_y 1 rfl (by kernel_rfl) (by kernel_rfl) (by kernel_rfl) (HSub.refl _) rfl (y_move rfl) rfl ?_
                    refine H_y 2 rfl (by kernel_rfl) (by kernel_rfl) (by kernel_rfl) (HSub.refl _) rfl (y_indexS rfl rfl Try.underlying33 sz_48 (by omega) (by omega) (ix0 (j))) rfl ?_
                    refine H_y 3 rfl (by kernel_rfl) (by kernel_rfl) (by kernel_rfl) (HSub.refl _) rfl (y_load rfl ag_48 (sees 0 0 rfl) (us_at (by omega))) rfl ?_
                    refine H_y 4 rfl (by kernel_rfl) (by kernel_rfl) (by kernel_rfl) (HSub.refl _) rfl (y_move rfl) rfl ?_
                    refine H_y 5 rfl (by kernel_rfl) (by kernel_rfl) (by kernel_rfl) (HSub.refl _) rfl (y_move rfl) rfl ?_
                    refine H_y 6 rfl (by kernel_rfl) (by kernel_rfl) (by kernel_rfl) (HSub.refl _) rfl (y_sub rfl rfl (show _ = ((j - 1 : Nat) : Int) from by rw [wi64 (by omega) (by omega)]; omega)) rfl ?_
                    refine H_y 7 rfl (by kernel_rfl) (by kernel_rfl) (by kernel_rfl) (HSub.refl _) rfl (y_indexS rfl rfl Try.underlying33 sz_48 (by omega) (by omega) (ix0 (j - 1))) rfl ?_
                    refine H_y 8 rfl (by kernel_rfl) (by kernel_rfl) (by kernel_rfl) (HSub.refl _) rfl (y_load rfl ag_48 (sees 0 0 rfl) (us_at (by omega))) rfl ?_
                    refine H_one 9 rfl (by kernel_rfl) rfl (op_call rfl rfl (fun a w => Try.call89 a w) rfl ?_)
                    refine (less_u (e1[j]!) (e1[j - 1]!)).mono ?_
                    rintro _ _ ⟨rfl, e⟩
                    obtain rfl := e.symm
                    clear e
                    refine ⟨_, rfl, ?_⟩
                    refine ⟨HSub.refl _, ?_⟩
                    refine H_y 10 rfl (by kernel_rfl) (by kernel_rfl) (by kernel_rfl) (HSub.refl _) rfl (y_not rfl) rfl ?_
                    refine H_done (by kernel_rfl) ?_
                    refine C_cond rfl (fun hc6 => ?_) (fun hc6 => ?_)
                    · have hfin2 : Go.Sort.shiftDown ltN j e1 = e1 := sw_stop (.inr (by simpa using hc6))
                      refine C_exit ?_
                      exact ⟨e1, ⟨hse, by rw [if_pos hc4, ← hre, hfin2]⟩, ⟨rfl, rfl, rfl, rfl, rfl, trivial⟩, ((hsub (.cons_cons _ (.refl _))).trans (hsub_pick [0] rfl))⟩
                    · have hl6 : ltN e1[j]! e1[j - 1]! = true := by simpa using hc6
                      refine C_skip ?_
                      refine C_regionH H (by kernel_rfl) ?_
                      refine H_y 0 rfl (by kernel_rfl) (by kernel_rfl) (by kernel_rfl) ((hsub (.cons _ (.refl _)))) rfl (y_move rfl) rfl ?_
                      refine H_y 1 rfl (by kernel_rfl) (by kernel_rfl) (by kernel_rfl) ((hsub (.cons _ (.refl _)))) rfl (y_move rfl) rfl ?_
                      refine H_y 2 rfl (by kernel_rfl) (by kernel_rfl) (by kernel_rfl) ((hsub (.cons _ (.refl _)))) rfl (y_move rfl) rfl ?_
                      refine H_y 3 rfl (by kernel_rfl) (by kernel_rfl) (by kernel_rfl) ((hsub (.cons _ (.refl _)))) rfl (y_move rfl) rfl ?_
                      refine H_y 4 rfl (by kernel_rfl) (by kernel_rfl) (by kernel_rfl) ((hsub (.cons _ (.refl _)))) rfl (y_sub rfl rfl (show _ = ((j - 1 : Nat) : Int) from by rw [wi64 (by omega) (by omega)]; omega)) rfl ?_
                      refine H_y 5 rfl (by kernel_rfl) (by kernel_rfl) (by kernel_rfl) ((hsub (.cons _ (.refl _)))) rfl (y_move rfl) rfl ?_
                      refine H_y 6 rfl (by kernel_rfl) (by kernel_rfl) (by kernel_rfl) ((hsub (.cons _ (.refl _)))) rfl (y_move rfl) rfl ?_
                      refine H_y 7 rfl (by kernel_rfl) (by kernel_rfl) (by kernel_rfl) ((hsub (.cons _ (.refl _)))) rfl (y_sub rfl rfl (show _ = ((j - 1 : Nat) : Int) from by rw [wi64 (by omega) (by omega)]; omega)) rfl ?_
                      refine H_y 8 rfl (by kernel_rfl) (by kernel_rfl) (by kernel_rfl) ((hsub (.cons _ (.refl _)))) rfl (y_indexS rfl rfl Try.underlying33 sz_48 (by omega) (by omega) (ix0 ((j - 1)))) rfl ?_
                      refine H_y 10 rfl (by kernel_rfl) (by kernel_rfl) (by kernel_rfl) ((hsub (.cons _ (.refl _)))) rfl (y_move rfl) rfl ?_
                      refine H_y 11 rfl (by kernel_rfl) (by kernel_rfl) (by kernel_rfl) ((hsub (.cons _ (.refl _)))) rfl (y_move rfl) rfl ?_
                      refine H_y 12 rfl (by kernel_rfl) (by kernel_rfl) (by kernel_rfl) ((hsub (.cons _ (.refl _)))) rfl (y_indexS rfl rfl Try.underlying33 sz_48 (by omega) (by omega) (ix0 (j))) rfl ?_
                      refine H_two 9 13 rfl rfl (by kernel_rfl) rfl rfl ?_ ?_
                      · refine op_y (y_load rfl ag_48 (sees 0 0 rfl) (us_at (by omega))) rfl ?_
                        refine ⟨(hsub (.cons _ (.refl _))), ?_⟩
                        refine H_one 13 rfl (by kernel_rfl) rfl (op_y (y_load rfl ag_48 (sees 0 0 rfl) (us_at (by omega))) rfl ?_)
                        refine ⟨(hsub (.cons _ (.refl _))), ?_⟩
                        refine H_y 14 rfl (by kernel_rfl) (by kernel_rfl) (by kernel_rfl) ((hsub (.cons _ (.refl _)))) rfl (y_indexS rfl rfl Try.underlying33 sz_48 (by omega) (by omega) (ix0 (j))) rfl ?_
                        refine H_one 15 rfl (by kernel_rfl) rfl (op_store1 0 0 rfl rfl rfl sz_48 rfl (us_lt (by omega)) ?_)
                        refine ⟨(hsub (.cons _ (.refl _))), ?_⟩
                        refine H_y 16 rfl (by kernel_rfl) (by kernel_rfl) (by kernel_rfl) ((hsub (.cons _ (.refl _)))) rfl (y_indexS rfl rfl Try.underlying33 sz_48 (by omega) (by omega) (ix0 ((j - 1)))) rfl ?_
                        refine H_one 17 rfl (by kernel_rfl) rfl (op_store1 0 0 rfl rfl rfl sz_48 rfl (by rw [List.length_set]; exact us_lt (by omega)) ?_)
                        refine ⟨(hsub (.cons _ (.refl _))), ?_⟩
                        refine H_done (by kernel_rfl) ?_
                        rw [us_swp (by omega) (by omega)]
                        refine C_region ?_
                        refine L_y rfl (y_move rfl) rfl ?_
                        refine L_y rfl (y_sub rfl rfl (show _ = ((j - 1 : Nat) : Int) from by rw [wi64 (by omega) (by omega)]; omega)) rfl ?_
                        refine L_y rfl (y_assign rfl) rfl ?_
                        refine L_nil ?_
                        exact ⟨(Go.Sort.swp e1 j (j - 1), j - 1), ⟨by simp only; rw [swp_size]; exact hse, by simp only; omega, by simp only; rw [← hre, sw_go hj1 hl6]⟩, by simp only; omega, ⟨rfl, rfl, rfl, rfl, rfl, rfl, trivial⟩, ((hsub (.cons_cons _ (.refl _))).trans (hsub_pick [0] rfl))⟩
                      · refine op_y (y_load rfl ag_48 (sees 0 0 rfl) (us_at (by omega))) rfl ?_
                        refine ⟨(hsub (.cons _ (.refl _))), ?_⟩
                        refine H_one 9 rfl (by kernel_rfl) rfl (op_y (y_load rfl ag_48 (sees 0 0 rfl) (us_at (by omega))) rfl ?_)
                        refine ⟨(hsub (.cons _ (.refl _))), ?_⟩
                        refine H_y 14 rfl (by kernel_rfl) (by kernel_rfl) (by kernel_rfl) ((hsub (.cons _ (.refl _)))) rfl (y_indexS rfl rfl Try.underlying33 sz_48 (by omega) (by omega) (ix0 (j))) rfl ?_
                        refine H_one 15 rfl (by kernel_rfl) rfl (op_store1 0 0 rfl rfl rfl sz_48 rfl (us_lt (by omega)) ?_)
                        refine ⟨(hsub (.cons _ (.refl _))), ?_⟩
                        refine H_y 16 rfl (by kernel_rfl) (by kernel_rfl) (by kernel_rfl) ((hsub (.cons _ (.refl _)))) rfl (y_indexS rfl rfl Try.underlying33 sz_48 (by omega) (by omega) (ix0 ((j - 1)))) rfl ?_
                        refine H_one 17 rfl (by kernel_rfl) rfl (op_store1 0 0 rfl rfl rfl sz_48 rfl (by rw [List.length_set]; exact us_lt (by omega)) ?_)
                        refine ⟨(hsub (.cons _ (.refl _))), ?_⟩
                        refine H_done (by kernel_rfl) ?_
                        rw [us_swp (by omega) (by omega)]
                        refine C_region ?_
                        refine L_y rfl (y_move rfl) rfl ?_
                        refine L_y rfl (y_sub rfl rfl (show _ = ((j - 1 : Nat) : Int) from by rw [wi64 (by omega) (by omega)]; omega)) rfl ?_
                        refine L_y rfl (y_assign rfl) rfl ?_
                        refine L_nil ?_
                        exact ⟨(Go.Sort.swp e1 j (j - 1), j - 1), ⟨by simp only; rw [swp_size]; exact hse, by simp only; omega, by simp only; rw [← hre, sw_go hj1 hl6]⟩, by simp only; omega, ⟨rfl, rfl, rfl, rfl, rfl, rfl, trivial⟩, ((hsub (.cons_cons _ (.refl _))).trans (hsub_pick [0] rfl))⟩
                  · have hj1 : ¬ 1 ≤ j := by have := of_decide_eq_false hc5; omega
                    have hfin2 : Go.Sort.shiftDown ltN j e1 = e1 := sw_stop (.inl (by omega))
                    refine C_exit ?_
                    exact ⟨e1, ⟨hse, by rw [if_pos hc4, ← hre, hfin2]⟩, ⟨rfl, rfl, rfl, rfl, rfl, trivial⟩, ((hsub (.cons_cons _ (.refl _))).trans (hsub_pick [0] rfl))⟩
                · replace hc4 : ¬ 2 ≤ k - a := by have := of_decide_eq_false hc4; omega
                  refine C_skip ?_
                  exact ⟨d2, ⟨hsd2, by rw [if_neg hc4]⟩, ⟨rfl, rfl, rfl, rfl, rfl, trivial⟩, ((hsub (.cons_cons _ (.refl _))).trans (hsub_pick [0] rfl))⟩
              · obtain ⟨hs3, hd3⟩ := hd3
                refine C_seq ?_
                refine C_region ?_
                refine L_y rfl (y_move rfl) rfl ?_
                refine L_y rfl (y_move rfl) rfl ?_
                refine L_y rfl (y_sub rfl rfl (show _ = ((b - k : Nat) : Int) from by rw [wi64 (by omega) (by omega)]; omega)) rfl ?_
                refine L_y rfl (y_geq rfl rfl) rfl ?_
                refine L_nil ?_
                refine C_cond rfl (fun hc7 => ?_) (fun hc7 => ?_)
                · replace hc7 : 2 ≤ b - k := by have := of_decide_eq_true hc7; omega
                  refine C_seq ?_
                  refine C_region ?_
                  refine L_y rfl (y_move rfl) rfl ?_
                  refine L_y rfl (y_add rfl rfl (show _ = ((k + 1 : Nat) : Int) from by rw [wi64 (by omega) (by omega)]; omega)) rfl ?_
                  refine L_y rfl (y_assign rfl) rfl ?_
                  refine L_nil ?_
                  refine C_block ?_
                  refine C_loop (ι := Array Nat × Nat) (fun y => [(0, (.slice (some ⟨sb, 0, none⟩) n cap)), (1, .int .i64 ((a : Nat) : Int)), (2, .int .i64 ((b : Nat) : Int)), (8, .int .i64 ((5 : Int) - ((s + 1 : Nat) : Int))), (7, .int .i64 ((k : Nat) : Int)), (10, .int .i64 ((y.2 : Nat) : Int))]) (fun y => useg 48 sb y.1 sp :: H) (fun y => y.1.size = n ∧ k < y.2 ∧ y.2 ≤ b ∧ Go.Sort.shiftUp ltN b y.2 y.1 = Go.Sort.shiftUp ltN b (k + 1) d3) (fun y => b - y.2) (d3, k + 1) ⟨hs3, by simp only; omega, by simp only; omega, rfl⟩ ⟨rfl, rfl, rfl, rfl, rfl, rfl, trivial⟩ ((hsub (.cons_cons _ (.refl _))).trans (hsub_pick [0] rfl)) (fun y hy => ?_)
                  obtain ⟨e2, j⟩ := y
                  obtain ⟨hse, hjk, hjb, hre⟩ := hy
                  try simp only at hse hjk hjb hre
                  try dsimp only
                  refine C_seq ?_
                  refine C_seq ?_
                  refine C_region ?_
                  refine L_y rfl (y_move rfl) rfl ?_
                  refine L_y rfl (y_move rfl) rfl ?_
                  refine L_y rfl (y_lss rfl rfl) rfl ?_
                  refine L_nil ?_
                  refine C_cond rfl (fun hc8 => ?_) (fun hc8 => ?_)
                  · have hj1 : j < b := by have := of_decide_eq_true hc8; omega
                    refine C_skip ?_
                    refine C_seq ?_
                    refine C_block ?_
                    refine C_seq ?_
                    refine C_seq ?_
                    refine C_regionH0 (by kernel_rfl) ?_
                    refine H_y 0 rfl (by kernel_rfl) (by kernel_rfl) (by kernel_rfl) (HSub.refl _) rfl (y_move rfl) rfl ?_
                    refine H_y 1 rfl (by kernel_rfl) (by kernel_rfl) (by kernel_rfl) (HSub.refl _) rfl (y_move rfl) rfl ?_
                    refine H_y 2 rfl (by kernel_rfl) (by kernel_rfl) (by kernel_rfl) (HSub.refl _) rfl (y_indexS rfl rfl Try.underlying33 sz_48 (by omega) (by omega) (ix0 (j))) rfl ?_
                    refine H_y 3 rfl (by kernel_rfl) (by kernel_rfl) (by kernel_rfl) (HSub.refl _) rfl (y_load rfl ag_48 (sees 0 0 rfl) (us_at (by omega))) rfl ?_
                    refine H_y 4 rfl (by kernel_rfl) (by kernel_rfl) (by kernel_rfl) (HSub.refl _) rfl (y_move rfl) rfl ?_
                    refine H_y 5 rfl (by kernel_rfl) (by kernel_rfl) (by kernel_rfl) (HSub.refl _) rfl (y_move rfl) rfl ?_
                    refine H_y 6 rfl (by kernel_rfl) (by kernel_rfl) (by kernel_rfl) (HSub.refl _) rfl (y_sub rfl rfl (show _ = ((j - 1 : Nat) : Int) from by rw [wi64 (by omega) (by omega)]; omega)) rfl ?_
                    refine H_y 7 rfl (by kernel_rfl) (by kernel_rfl) (by kernel_rfl) (HSub.refl _) rfl (y_indexS rfl rfl Try.underlying33 sz_48 (by omega) (by omega) (ix0 (j - 1))) rfl ?_
                    refine H_y 8 rfl (by kernel_rfl) (by kernel_rfl) (by kernel_rfl) (HSub.refl _) rfl (y_load rfl ag_48 (sees 0 0 rfl) (us_at (by omega))) rfl ?_
                    refine H_one 9 rfl (by kernel_rfl) rfl (op_call rfl rfl (fun a w => Try.call89 a w) rfl ?_)
                    refine (less_u (e2[j]!) (e2[j - 1]!)).mono ?_
                    rintro _ _ ⟨rfl, e⟩
                    obtain rfl := e.symm
                    clear e
                    refine ⟨_, rfl, ?_⟩
                    refine ⟨HSub.refl _, ?_⟩
                    refine H_y 10 rfl (by kernel_rfl) (by kernel_rfl) (by kernel_rfl) (HSub.refl _) rfl (y_not rfl) rfl ?_
                    refine H_done (by kernel_rfl) ?_
                    refine C_cond rfl (fun hc9 => ?_) (fun hc9 => ?_)
                    · have hfin2 : Go.Sort.shiftUp ltN b j e2 = e2 := sp_stop (.inr (by simpa using hc9))
                      refine C_exit ?_
                      exact ⟨(k, e2), ⟨hse, hk1, hk2, pi_go hk hc2 hc3 hd2 hd3 (by rw [if_pos hc7, ← hre, hfin2])⟩, ⟨rfl, rfl, rfl, rfl, rfl, trivial⟩, ((hsub (.cons_cons _ (.refl _))).trans (hsub_pick [0] rfl))⟩
                    · have hl9 : ltN e2[j]! e2[j - 1]! = true := by simpa using hc9
                      refine C_skip ?_
                      refine C_regionH H (by kernel_rfl) ?_
                      refine H_y 0 rfl (by kernel_rfl) (by kernel_rfl) (by kernel_rfl) ((hsub (.cons _ (.refl _)))) rfl (y_move rfl) rfl ?_
                      refine H_y 1 rfl (by kernel_rfl) (by kernel_rfl) (by kernel_rfl) ((hsub (.cons _ (.refl _)))) rfl (y_move rfl) rfl ?_
                      refine H_y 2 rfl (by kernel_rfl) (by kernel_rfl) (by kernel_rfl) ((hsub (.cons _ (.refl _)))) rfl (y_move rfl) rfl ?_
                      refine H_y 3 rfl (by kernel_rfl) (by kernel_rfl) (by kernel_rfl) ((hsub (.cons _ (.refl _)))) rfl (y_move rfl) rfl ?_
                      refine H_y 4 rfl (by kernel_rfl) (by kernel_rfl) (by kernel_rfl) ((hsub (.cons _ (.refl _)))) rfl (y_sub rfl rfl (show _ = ((j - 1 : Nat) : Int) from by rw [wi64 (by omega) (by omega)]; omega)) rfl ?_
                      refine H_y 5 rfl (by kernel_rfl) (by kernel_rfl) (by kernel_rfl) ((hsub (.cons _ (.refl _)))) rfl (y_move rfl) rfl ?_
                      refine H_y 6 rfl (by kernel_rfl) (by kernel_rfl) (by kernel_rfl) ((hsub (.cons _ (.refl _)))) rfl (y_move rfl) rfl ?_
                      refine H_y 7 rfl (by kernel_rfl) (by kernel_rfl) (by kernel_rfl) ((hsub (.cons _ (.refl _)))) rfl (y_sub rfl rfl (show _ = ((j - 1 : Nat) : Int) from by rw [wi64 (by omega) (by omega)]; omega)) rfl ?_
                      refine H_y 8 rfl (by kernel_rfl) (by kernel_rfl) (by kernel_rfl) ((hsub (.cons _ (.refl _)))) rfl (y_indexS rfl rfl Try.underlying33 sz_48 (by omega) (by omega) (ix0 ((j - 1)))) rfl ?_
                      refine H_y 10 rfl (by kernel_rfl) (by kernel_rfl) (by kernel_rfl) ((hsub (.cons _ (.refl _)))) rfl (y_move rfl) rfl ?_
                      refine H_y 11 rfl (by kernel_rfl) (by kernel_rfl) (by kernel_rfl) ((hsub (.cons _ (.refl _)))) rfl (y_move rfl) rfl ?_
                      refine H_y 12 rfl (by kernel_rfl) (by kernel_rfl) (by kernel_rfl) ((hsub (.cons _ (.refl _)))) rfl (y_indexS rfl rfl Try.underlying33 sz_48 (by omega) (by omega) (ix0 (j))) rfl ?_
                      refine H_two 9 13 rfl rfl (by kernel_rfl) rfl rfl ?_ ?_
                      · refine op_y (y_load rfl ag_48 (sees 0 0 rfl) (us_at (by omega))) rfl ?_
                        refine ⟨(hsub (.cons _ (.refl _))), ?_⟩
                        refine H_one 13 rfl (by kernel_rfl) rfl (op_y (y_load rfl ag_48 (sees 0 0 rfl) (us_at (by omega))) rfl ?_)
                        refine ⟨(hsub (.cons _ (.refl _))), ?_⟩
                        refine H_y 14 rfl (by kernel_rfl) (by kernel_rfl) (by kernel_rfl) ((hsub (.cons _ (.refl _)))) rfl (y_indexS rfl rfl Try.underlying33 sz_48 (by omega) (by omega) (ix0 (j))) rfl ?_
                        refine H_one 15 rfl (by kernel_rfl) rfl (op_store1 0 0 rfl rfl rfl sz_48 rfl (us_lt (by omega)) ?_)
                        refine ⟨(hsub (.cons _ (.refl _))), ?_⟩
                        refine H_y 16 rfl (by kernel_rfl) (by kernel_rfl) (by kernel_rfl) ((hsub (.cons _ (.refl _)))) rfl (y_indexS rfl rfl Try.underlying33 sz_48 (by omega) (by omega) (ix0 ((j - 1)))) rfl ?_
                        refine H_one 17 rfl (by kernel_rfl) rfl (op_store1 0 0 rfl rfl rfl sz_48 rfl (by rw [List.length_set]; exact us_lt (by omega)) ?_)
                        refine ⟨(hsub (.cons _ (.refl _))), ?_⟩
                        refine H_done (by kernel_rfl) ?_
                        rw [us_swp (by omega) (by omega)]
                        refine C_region ?_
                        refine L_y rfl (y_move rfl) rfl ?_
                        refine L_y rfl (y_add rfl rfl (show _ = ((j + 1 : Nat) : Int) from by rw [wi64 (by omega) (by omega)]; omega)) rfl ?_
                        refine L_y rfl (y_assign rfl) rfl ?_
                        refine L_nil ?_
                        exact ⟨(Go.Sort.swp e2 j (j - 1), j + 1), ⟨by simp only; rw [swp_size]; exact hse, by simp only; omega, by simp only; omega, by simp only; rw [← hre, sp_go hj1 hl9]⟩, by simp only; omega, ⟨rfl, rfl, rfl, rfl, rfl, rfl, trivial⟩, ((hsub (.cons_cons _ (.refl _))).trans (hsub_pick [0] rfl))⟩
                      · refine op_y (y_load rfl ag_48 (sees 0 0 rfl) (us_at (by omega))) rfl ?_
                        refine ⟨(hsub (.cons _ (.refl _))), ?_⟩
                        refine H_one 9 rfl (by kernel_rfl) rfl (op_y (y_load rfl ag_48 (sees 0 0 rfl) (us_at (by omega))) rfl ?_)
                        refine ⟨(hsub (.cons _ (.refl _))), ?_⟩
                        refine H_y 14 rfl (by kernel_rfl) (by kernel_rfl) (by kernel_rfl) ((hsub (.cons _ (.refl _)))) rfl (y_indexS rfl rfl Try.underlying33 sz_48 (by omega) (by omega) (ix0 (j))) rfl ?_
                        refine H_one 15 rfl (by kernel_rfl) rfl (op_store1 0 0 rfl rfl rfl sz_48 rfl (us_lt (by omega)) ?_)
                        refine ⟨(hsub (.cons _ (.refl _))), ?_⟩
                        refine H_y 16 rfl (by kernel_rfl) (by kernel_rfl) (by kernel_rfl) ((hsub (.cons _ (.refl _)))) rfl (y_indexS rfl rfl Try.underlying33 sz_48 (by omega) (by omega) (ix0 ((j - 1)))) rfl ?_
                        refine H_one 17 rfl (by kernel_rfl) rfl (op_store1 0 0 rfl rfl rfl sz_48 rfl (by rw [List.length_set]; exact us_lt (by omega)) ?_)
                        refine ⟨(hsub (.cons _ (.refl _))), ?_⟩
                        refine H_done (by kernel_rfl) ?_
                        rw [us_swp (by omega) (by omega)]
                        refine C_region ?_
                        refine L_y rfl (y_move rfl) rfl ?_
                        refine L_y rfl (y_add rfl rfl (show _ = ((j + 1 : Nat) : Int) from by rw [wi64 (by omega) (by omega)]; omega)) rfl ?_
                        refine L_y rfl (y_assign rfl) rfl ?_
                        refine L_nil ?_
                        exact ⟨(Go.Sort.swp e2 j (j - 1), j + 1), ⟨by simp only; rw [swp_size]; exact hse, by simp only; omega, by simp only; omega, by simp only; rw [← hre, sp_go hj1 hl9]⟩, by simp only; omega, ⟨rfl, rfl, rfl, rfl, rfl, rfl, trivial⟩, ((hsub (.cons_cons _ (.refl _))).trans (hsub_pick [0] rfl))⟩
                  · have hj1 : ¬ j < b := by have := of_decide_eq_false hc8; omega
                    have hfin2 : Go.Sort.shiftUp ltN b j e2 = e2 := sp_stop (.inl hj1)
                    refine C_exit ?_
                    exact ⟨(k, e2), ⟨hse, hk1, hk2, pi_go hk hc2 hc3 hd2 hd3 (by rw [if_pos hc7, ← hre, hfin2])⟩, ⟨rfl, rfl, rfl, rfl, rfl, trivial⟩, ((hsub (.cons_cons _ (.refl _))).trans (hsub_pick [0] rfl))⟩
                · replace hc7 : ¬ 2 ≤ b - k := by have := of_decide_eq_false hc7; omega
                  refine C_skip ?_
                  exact ⟨(k, d3), ⟨hs3, hk1, hk2, pi_go hk hc2 hc3 hd2 hd3 (by rw [if_neg hc7])⟩, ⟨rfl, rfl, rfl, rfl, rfl, trivial⟩, ((hsub (.cons_cons _ (.refl _))).trans (hsub_pick [0] rfl))⟩
            · refine op_y (y_load rfl ag_48 (sees 0 0 rfl) (us_at (by omega))) rfl ?_
              refine ⟨(hsub (.cons _ (.refl _))), ?_⟩
              refine H_one 9 rfl (by kernel_rfl) rfl (op_y (y_load rfl ag_48 (sees 0 0 rfl) (us_at (by omega))) rfl ?_)
              refine ⟨(hsub (.cons _ (.refl _))), ?_⟩
              refine H_y 14 rfl (by kernel_rfl) (by kernel_rfl) (by kernel_rfl) ((hsub (.cons _ (.refl _)))) rfl (y_indexS rfl rfl Try.underlying33 sz_48 (by omega) (by omega) (ix0 (k))) rfl ?_
              refine H_one 15 rfl (by kernel_rfl) rfl (op_store1 0 0 rfl rfl rfl sz_48 rfl (us_lt (by omega)) ?_)
              refine ⟨(hsub (.cons _ (.refl _))), ?_⟩
              refine H_y 16 rfl (by kernel_rfl) (by kernel_rfl) (by kernel_rfl) ((hsub (.cons _ (.refl _)))) rfl (y_indexS rfl rfl Try.underlying33 sz_48 (by omega) (by omega) (ix0 ((k - 1)))) rfl ?_
              refine H_one 17 rfl (by kernel_rfl) rfl (op_store1 0 0 rfl rfl rfl sz_48 rfl (by rw [List.length_set]; exact us_lt (by omega)) ?_)
              refine ⟨(hsub (.cons _ (.refl _))), ?_⟩
              refine H_done (by kernel_rfl) ?_
              rw [us_swp (by omega) (by omega)]
              obtain ⟨d2, hd2⟩ : ∃ y, y = Go.Sort.swp d1 k (k - 1) := ⟨_, rfl⟩
              rw [← hd2]
              have hsd2 : d2.size = n := by rw [hd2, swp_size]; omega
              refine C_cutG (ι := Array Nat) (fun x => x.size = n ∧ x = if 2 ≤ k - a then Go.Sort.shiftDown ltN (k - 1) d2 else d2) (fun x => [(0, (.slice (some ⟨sb, 0, none⟩) n cap)), (1, .int .i64 ((a : Nat) : Int)), (2, .int .i64 ((b : Nat) : Int)), (8, .int .i64 ((5 : Int) - ((s + 1 : Nat) : Int))), (7, .int .i64 ((k : Nat) : Int))]) (fun x => useg 48 sb x sp :: H) ?_ (fun d3 hd3 => ?_)
              · refine C_seq ?_
                refine C_region ?_
                refine L_y rfl (y_move rfl) rfl ?_
                refine L_y rfl (y_move rfl) rfl ?_
                refine L_y rfl (y_sub rfl rfl (show _ = ((k - a : Nat) : Int) from by rw [wi64 (by omega) (by omega)]; omega)) rfl ?_
                refine L_y rfl (y_geq rfl rfl) rfl ?_
                refine L_nil ?_
                refine C_cond rfl (fun hc4 => ?_) (fun hc4 => ?_)
                · replace hc4 : 2 ≤ k - a := by have := of_decide_eq_true hc4; omega
                  refine C_seq ?_
                  refine C_region ?_
                  refine L_y rfl (y_move rfl) rfl ?_
                  refine L_y rfl (y_sub rfl rfl (show _ = ((k - 1 : Nat) : Int) from by rw [wi64 (by omega) (by omega)]; omega)) rfl ?_
                  refine L_y rfl (y_assign rfl) rfl ?_
                  refine L_nil ?_
                  refine C_block ?_
                  refine C_loop (ι := Array Nat × Nat) (fun y => [(0, (.slice (some ⟨sb, 0, none⟩) n cap)), (1, .int .i64 ((a : Nat) : Int)), (2, .int .i64 ((b : Nat) : Int)), (8, .int .i64 ((5 : Int) - ((s + 1 : Nat) : Int))), (7, .int .i64 ((k : Nat) : Int)), (9, .int .i64 ((y.2 : Nat) : Int))]) (fun y => useg 48 sb y.1 sp :: H) (fun y => y.1.size = n ∧ y.2 < k ∧ Go.Sort.shiftDown ltN y.2 y.1 = Go.Sort.shiftDown ltN (k - 1) d2) (fun y => y.2) (d2, k - 1) ⟨hsd2, by simp only; omega, rfl⟩ ⟨rfl, rfl, rfl, rfl, rfl, rfl, trivial⟩ ((hsub (.cons_cons _ (.refl _))).trans (hsub_pick [0] rfl)) (fun y hy => ?_)
                  obtain ⟨e1, j⟩ := y
                  obtain ⟨hse, hjk, hre⟩ := hy
                  try simp only at hse hjk hre
                  try dsimp only
                  refine C_seq ?_
                  refine C_seq ?_
                  refine C_region ?_
                  refine L_y rfl (y_move rfl) rfl ?_
                  refine L_y rfl (y_geq rfl rfl) rfl ?_
                  refine L_nil ?_
                  refine C_cond rfl (fun hc5 => ?_) (fun hc5 => ?_)
                  · have hj1 : 1 ≤ j := by have := of_decide_eq_true hc5; omega
                    refine C_skip ?_
                    refine C_seq ?_
                    refine C_block ?_
                    refine C_seq ?_
                    refine C_seq ?_
                    refine C_regionH0 (by kernel_rfl) ?_
                    refine H_y 0 rfl (by kernel_rfl) (by kernel_rfl) (by kernel_rfl) (HSub.refl _) rfl (y_move rfl) rfl ?_
                    refine H_y 1 rfl (by kernel_rfl) (by kernel_rfl) (by kernel_rfl) (HSub.refl _) rfl (y_move rfl) rfl ?_
                    refine H_y 2 rfl (by kernel_rfl) (by kernel_rfl) (by kernel_rfl) (HSub.refl _) rfl (y_indexS rfl rfl Try.underlying33 sz_48 (by omega) (by omega) (ix0 (j))) rfl ?_
                    refine H_y 3 rfl (by kernel_rfl) (by kernel_rfl) (by kernel_rfl) (HSub.refl _) rfl (y_load rfl ag_48 (sees 0 0 rfl) (us_at (by omega))) rfl ?_
                    refine H_y 4 rfl (by kernel_rfl) (by kernel_rfl) (by kernel_rfl) (HSub.refl _) rfl (y_move rfl) rfl ?_
                    refine H_y 5 rfl (by kernel_rfl) (by kernel_rfl) (by kernel_rfl) (HSub.refl _) rfl (y_move rfl) rfl ?_
                    refine H_y 6 rfl (by kernel_rfl) (by kernel_rfl) (by kernel_rfl) (HSub.refl _) rfl (y_sub rfl rfl (show _ = ((j - 1 : Nat) : Int) from by rw [wi64 (by omega) (by omega)]; omega)) rfl ?_
                    refine H_y 7 rfl (by kernel_rfl) (by kernel_rfl) (by kernel_rfl) (HSub.refl _) rfl (y_indexS rfl rfl Try.underlying33 sz_48 (by omega) (by omega) (ix0 (j - 1))) rfl ?_
                    refine H_y 8 rfl (by kernel_rfl) (by kernel_rfl) (by kernel_rfl) (HSub.refl _) rfl (y_load rfl ag_48 (sees 0 0 rfl) (us_at (by omega))) rfl ?_
                    refine H_one 9 rfl (by kernel_rfl) rfl (op_call rfl rfl (fun a w => Try.call89 a w) rfl ?_)
                    refine (less_u (e1[j]!) (e1[j - 1]!)).mono ?_
                    rintro _ _ ⟨rfl, e⟩
                    obtain rfl := e.symm
                    clear e
                    refine ⟨_, rfl, ?_⟩
                    refine ⟨HSub.refl _, ?_⟩
                    refine H_y 10 rfl (by kernel_rfl) (by kernel_rfl) (by kernel_rfl) (HSub.refl _) rfl (y_not rfl) rfl ?_
                    refine H_done (by kernel_rfl) ?_
                    refine C_cond rfl (fun hc6 => ?_) (fun hc6 => ?_)
                    · have hfin2 : Go.Sort.shiftDown ltN j e1 = e1 := sw_stop (.inr (by simpa using hc6))
                      refine C_exit ?_
                      exact ⟨e1, ⟨hse, by rw [if_pos hc4, ← hre, hfin2]⟩, ⟨rfl, rfl, rfl, rfl, rfl, trivial⟩, ((hsub (.cons_cons _ (.refl _))).trans (hsub_pick [0] rfl))⟩
                    · have hl6 : ltN e1[j]! e1[j - 1]! = true := by simpa using hc6
                      refine C_skip ?_
                      refine C_regionH H (by kernel_rfl) ?_
                      refine H_y 0 rfl (by kernel_rfl) (by kernel_rfl) (by kernel_rfl) ((hsub (.cons _ (.refl _)))) rfl (y_move rfl) rfl ?_
                      refine H_y 1 rfl (by kernel_rfl) (by kernel_rfl) (by kernel_rfl) ((hsub (.cons _ (.refl _)))) rfl (y_move rfl) rfl ?_
                      refine H_y 2 rfl (by kernel_rfl) (by kernel_rfl) (by kernel_rfl) ((hsub (.cons _ (.refl _)))) rfl (y_move rfl) rfl ?_
                      refine H_y 3 rfl (by kernel_rfl) (by kernel_rfl) (by kernel_rfl) ((hsub (.cons _ (.refl _)))) rfl (y_move rfl) rfl ?_
                      refine H_y 4 rfl (by kernel_rfl) (by kernel_rfl) (by kernel_rfl) ((hsub (.cons _ (.refl _)))) rfl (y_sub rfl rfl (show _ = ((j - 1 : Nat) : Int) from by rw [wi64 (by omega) (by omega)]; omega)) rfl ?_
                      refine H_y 5 rfl (by kernel_rfl) (by kernel_rfl) (by kernel_rfl) ((hsub (.cons _ (.refl _)))) rfl (y_move rfl) rfl ?_
                      refine H_y 6 rfl (by kernel_rfl) (by kernel_rfl) (by kernel_rfl) ((hsub (.cons _ (.refl _)))) rfl (y_move rfl) rfl ?_
                      refine H_y 7 rfl (by kernel_rfl) (by kernel_rfl) (by kernel_rfl) ((hsub (.cons _ (.refl _)))) rfl (y_sub rfl rfl (show _ = ((j - 1 : Nat) : Int) from by rw [wi64 (by omega) (by omega)]; omega)) rfl ?_
                      refine H_y 8 rfl (by kernel_rfl) (by kernel_rfl) (by kernel_rfl) ((hsub (.cons _ (.refl _)))) rfl (y_indexS rfl rfl Try.underlying33 sz_48 (by omega) (by omega) (ix0 ((j - 1)))) rfl ?_
                      refine H_y 10 rfl (by kernel_rfl) (by kernel_rfl) (by kernel_rfl) ((hsub (.cons _ (.refl _)))) rfl (y_move rfl) rfl ?_
                      refine H_y 11 rfl (by kernel_rfl) (by kernel_rfl) (by kernel_rfl) ((hsub (.cons _ (.refl _)))) rfl (y_move rfl) rfl ?_
                      refine H_y 12 rfl (by kernel_rfl) (by kernel_rfl) (by kernel_rfl) ((hsub (.cons _ (.refl _)))) rfl (y_indexS rfl rfl Try.underlying33 sz_48 (by omega) (by omega) (ix0 (j))) rfl ?_
                      refine H_two 9 13 rfl rfl (by kernel_rfl) rfl rfl ?_ ?_
                      · refine op_y (y_load rfl ag_48 (sees 0 0 rfl) (us_at (by omega))) rfl ?_
                        refine ⟨(hsub (.cons _ (.refl _))), ?_⟩
                        refine H_one 13 rfl (by kernel_rfl) rfl (op_y (y_load rfl ag_48 (sees 0 0 rfl) (us_at (by omega))) rfl ?_)
                        refine ⟨(hsub (.cons _ (.refl _))), ?_⟩
                        refine H_y 14 rfl (by kernel_rfl) (by kernel_rfl) (by kernel_rfl) ((hsub (.cons _ (.refl _)))) rfl (y_indexS rfl rfl Try.underlying33 sz_48 (by omega) (by omega) (ix0 (j))) rfl ?_
                        refine H_one 15 rfl (by kernel_rfl) rfl (op_store1 0 0 rfl rfl rfl sz_48 rfl (us_lt (by omega)) ?_)
                        refine ⟨(hsub (.cons _ (.refl _))), ?_⟩
                        refine H_y 16 rfl (by kernel_rfl) (by kernel_rfl) (by kernel_rfl) ((hsub (.cons _ (.refl _)))) rfl (y_indexS rfl rfl Try.underlying33 sz_48 (by omega) (by omega) (ix0 ((j - 1)))) rfl ?_
                        refine H_one 17 rfl (by kernel_rfl) rfl (op_store1 0 0 rfl rfl rfl sz_48 rfl (by rw [List.length_set]; exact us_lt (by omega)) ?_)
                        refine ⟨(hsub (.cons _ (.refl _))), ?_⟩
                        refine H_done (by kernel_rfl) ?_
                        rw [us_swp (by omega) (by omega)]
                        refine C_region ?_
                        refine L_y rfl (y_move rfl) rfl ?_
                        refine L_y rfl (y_sub rfl rfl (show _ = ((j - 1 : Nat) : Int) from by rw [wi64 (by omega) (by omega)]; omega)) rfl ?_
                        refine L_y rfl (y_assign rfl) rfl ?_
                        refine L_nil ?_
                        exact ⟨(Go.Sort.swp e1 j (j - 1), j - 1), ⟨by simp only; rw [swp_size]; exact hse, by simp only; omega, by simp only; rw [← hre, sw_go hj1 hl6]⟩, by simp only; omega, ⟨rfl, rfl, rfl, rfl, rfl, rfl, trivial⟩, ((hsub (.cons_cons _ (.refl _))).trans (hsub_pick [0] rfl))⟩
                      · refine op_y (y_load rfl ag_48 (sees 0 0 rfl) (us_at (by omega))) rfl ?_
                        refine ⟨(hsub (.cons _ (.refl _))), ?_⟩
                        refine H_one 9 rfl (by kernel_rfl) rfl (op_y (y_load rfl ag_48 (sees 0 0 rfl) (us_at (by omega))) rfl ?_)
                        refine ⟨(hsub (.cons _ (.refl _))), ?_⟩
                        refine H_y 14 rfl (by kernel_rfl) (by kernel_rfl) (by kernel_rfl) ((hsub (.cons _ (.refl _)))) rfl (y_indexS rfl rfl Try.underlying33 sz_48 (by omega) (by omega) (ix0 (j))) rfl ?_
                        refine H_one 15 rfl (by kernel_rfl) rfl (op_store1 0 0 rfl rfl rfl sz_48 rfl (us_lt (by omega)) ?_)
                        refine ⟨(hsub (.cons _ (.refl _))), ?_⟩
                        refine H_y 16 rfl (by kernel_rfl) (by kernel_rfl) (by kernel_rfl) ((hsub (.cons _ (.refl _)))) rfl (y_indexS rfl rfl Try.underlying33 sz_48 (by omega) (by omega) (ix0 ((j - 1)))) rfl ?_
                        refine H_one 17 rfl (by kernel_rfl) rfl (op_store1 0 0 rfl rfl rfl sz_48 rfl (by rw [List.length_set]; exact us_lt (by omega)) ?_)
                        refine ⟨(hsub (.cons _ (.refl _))), ?_⟩
                        refine H_done (by kernel_rfl) ?_
                        rw [us_swp (by omega) (by omega)]
                        refine C_region ?_
                        refine L_y rfl (y_move rfl) rfl ?_
                        refine L_y rfl (y_sub rfl rfl (show _ = ((j - 1 : Nat) : Int) from by rw [wi64 (by omega) (by omega)]; omega)) rfl ?_
                        refine L_y rfl (y_assign rfl) rfl ?_
                        refine L_nil ?_
                        exact ⟨(Go.Sort.swp e1 j (j - 1), j - 1), ⟨by simp only; rw [swp_size]; exact hse, by simp only; omega, by simp only; rw [← hre, sw_go hj1 hl6]⟩, by simp only; omega, ⟨rfl, rfl, rfl, rfl, rfl, rfl, trivial⟩, ((hsub (.cons_cons _ (.refl _))).trans (hsub_pick [0] rfl))⟩
                  · have hj1 : ¬ 1 ≤ j := by have := of_decide_eq_false hc5; omega
                    have hfin2 : Go.Sort.shiftDown ltN j e1 = e1 := sw_stop (.inl (by omega))
                    refine C_exit ?_
                    exact ⟨e1, ⟨hse, by rw [if_pos hc4, ← hre, hfin2]⟩, ⟨rfl, rfl, rfl, rfl, rfl, trivial⟩, ((hsub (.cons_cons _ (.refl _))).trans (hsub_pick [0] rfl))⟩
                · replace hc4 : ¬ 2 ≤ k - a := by have := of_decide_eq_false hc4; omega
                  refine C_skip ?_
                  exact ⟨d2, ⟨hsd2, by rw [if_neg hc4]⟩, ⟨rfl, rfl, rfl, rfl, rfl, trivial⟩, ((hsub (.cons_cons _ (.refl _))).trans (hsub_pick [0] rfl))⟩
              · obtain ⟨hs3, hd3⟩ := hd3
                refine C_seq ?_
                refine C_region ?_
                refine L_y rfl (y_move rfl) rfl ?_
                refine L_y rfl (y_move rfl) rfl ?_
                refine L_y rfl (y_sub rfl rfl (show _ = ((b - k : Nat) : Int) from by rw [wi64 (by omega) (by omega)]; omega)) rfl ?_
                refine L_y rfl (y_geq rfl rfl) rfl ?_
                refine L_nil ?_
                refine C_cond rfl (fun hc7 => ?_) (fun hc7 => ?_)
                · replace hc7 : 2 ≤ b - k := by have := of_decide_eq_true hc7; omega
                  refine C_seq ?_
                  refine C_region ?_
                  refine L_y rfl (y_move rfl) rfl ?_
                  refine L_y rfl (y_add rfl rfl (show _ = ((k + 1 : Nat) : Int) from by rw [wi64 (by omega) (by omega)]; omega)) rfl ?_
                  refine L_y rfl (y_assign rfl) rfl ?_
                  refine L_nil ?_
                  refine C_block ?_
                  refine C_loop (ι := Array Nat × Nat) (fun y => [(0, (.slice (some ⟨sb, 0, none⟩) n cap)), (1, .int .i64 ((a : Nat) : Int)), (2, .int .i64 ((b : Nat) : Int)), (8, .int .i64 ((5 : Int) - ((s + 1 : Nat) : Int))), (7, .int .i64 ((k : Nat) : Int)), (10, .int .i64 ((y.2 : Nat) : Int))]) (fun y => useg 48 sb y.1 sp :: H) (fun y => y.1.size = n ∧ k < y.2 ∧ y.2 ≤ b ∧ Go.Sort.shiftUp ltN b y.2 y.1 = Go.Sort.shiftUp ltN b (k + 1) d3) (fun y => b - y.2) (d3, k + 1) ⟨hs3, by simp only; omega, by simp only; omega, rfl⟩ ⟨rfl, rfl, rfl, rfl, rfl, rfl, trivial⟩ ((hsub (.cons_cons _ (.refl _))).trans (hsub_pick [0] rfl)) (fun y hy => ?_)
                  obtain ⟨e2, j⟩ := y
                  obtain ⟨hse, hjk, hjb, hre⟩ := hy
                  try simp only at hse hjk hjb hre
                  try dsimp only
                  refine C_seq ?_
                  refine C_seq ?_
                  refine C_region ?_
                  refine L_y rfl (y_move rfl) rfl ?_
                  refine L_y rfl (y_move rfl) rfl ?_
                  refine L_y rfl (y_lss rfl rfl) rfl ?_
                  refine L_nil ?_
                  refine C_cond rfl (fun hc8 => ?_) (fun hc8 => ?_)
                  · have hj1 : j < b := by have := of_decide_eq_true hc8; omega
                    refine C_skip ?_
                    refine C_seq ?_
                    refine C_block ?_
                    refine C_seq ?_
                    refine C_seq ?_
                    refine C_regionH0 (by kernel_rfl) ?_
                    refine H_y 0 rfl (by kernel_rfl) (by kernel_rfl) (by kernel_rfl) (HSub.refl _) rfl (y_move rfl) rfl ?_
                    refine H_y 1 rfl (by kernel_rfl) (by kernel_rfl) (by kernel_rfl) (HSub.refl _) rfl (y_move rfl) rfl ?_
                    refine H_y 2 rfl (by kernel_rfl) (by kernel_rfl) (by kernel_rfl) (HSub.refl _) rfl (y_indexS rfl rfl Try.underlying33 sz_48 (by omega) (by omega) (ix0 (j))) rfl ?_
                    refine H_y 3 rfl (by kernel_rfl) (by kernel_rfl) (by kernel_rfl) (HSub.refl _) rfl (y_load rfl ag_48 (sees 0 0 rfl) (us_at (by omega))) rfl ?_
                    refine H_y 4 rfl (by kernel_rfl) (by kernel_rfl) (by kernel_rfl) (HSub.refl _) rfl (y_move rfl) rfl ?_
                    refine H_y 5 rfl (by kernel_rfl) (by kernel_rfl) (by kernel_rfl) (HSub.refl _) rfl (y_move rfl) rfl ?_
                    refine H_y 6 rfl (by kernel_rfl) (by kernel_rfl) (by kernel_rfl) (HSub.refl _) rfl (y_sub rfl rfl (show _ = ((j - 1 : Nat) : Int) from by rw [wi64 (by omega) (by omega)]; omega)) rfl ?_
                    refine H_y 7 rfl (by kernel_rfl) (by kernel_rfl) (by kernel_rfl) (HSub.refl _) rfl (y_indexS rfl rfl Try.underlying33 sz_48 (by omega) (by omega) (ix0 (j - 1))) rfl ?_
                    refine H_y 8 rfl (by kernel_rfl) (by kernel_rfl) (by kernel_rfl) (HSub.refl _) rfl (y_load rfl ag_48 (sees 0 0 rfl) (us_at (by omega))) rfl ?_
                    refine H_one 9 rfl (by kernel_rfl) rfl (op_call rfl rfl (fun a w => Try.call89 a w) rfl ?_)
                    refine (less_u (e2[j]!) (e2[j - 1]!)).mono ?_
                    rintro _ _ ⟨rfl, e⟩
                    obtain rfl := e.symm
                    clear e
                    refine ⟨_, rfl, ?_⟩
                    refine ⟨HSub.refl _, ?_⟩
                    refine H_y 10 rfl (by kernel_rfl) (by kernel_rfl) (by kernel_rfl) (HSub.refl _) rfl (y_not rfl) rfl ?_
                    refine H_done (by kernel_rfl) ?_
                    refine C_cond rfl (fun hc9 => ?_) (fun hc9 => ?_)
                    · have hfin2 : Go.Sort.shiftUp ltN b j e2 = e2 := sp_stop (.inr (by simpa using hc9))
                      refine C_exit ?_
                      exact ⟨(k, e2), ⟨hse, hk1, hk2, pi_go hk hc2 hc3 hd2 hd3 (by rw [if_pos hc7, ← hre, hfin2])⟩, ⟨rfl, rfl, rfl, rfl, rfl, trivial⟩, ((hsub (.cons_cons _ (.refl _))).trans (hsub_pick [0] rfl))⟩
                    · have hl9 : ltN e2[j]! e2[j - 1]! = true := by simpa using hc9
                      refine C_skip ?_
                      refine C_regionH H (by kernel_rfl) ?_
                      refine H_y 0 rfl (by kernel_rfl) (by kernel_rfl) (by kernel_rfl) ((hsub (.cons _ (.refl _)))) rfl (y_move rfl) rfl ?_
                      refine H_y 1 rfl (by kernel_rfl) (by kernel_rfl) (by kernel_rfl) ((hsub (.cons _ (.refl _)))) rfl (y_move rfl) rfl ?_
                      refine H_y 2 rfl (by kernel_rfl) (by kernel_rfl) (by kernel_rfl) ((hsub (.cons _ (.refl _)))) rfl (y_move rfl) rfl ?_
                      refine H_y 3 rfl (by kernel_rfl) (by kernel_rfl) (by kernel_rfl) ((hsub (.cons _ (.refl _)))) rfl (y_move rfl) rfl ?_
                      refine H_y 4 rfl (by kernel_rfl) (by kernel_rfl) (by kernel_rfl) ((hsub (.cons _ (.refl _)))) rfl (y_sub rfl rfl (show _ = ((j - 1 : Nat) : Int) from by rw [wi64 (by omega) (by omega)]; omega)) rfl ?_
                      refine H_y 5 rfl (by kernel_rfl) (by kernel_rfl) (by kernel_rfl) ((hsub (.cons _ (.refl _)))) rfl (y_move rfl) rfl ?_
                      refine H_y 6 rfl (by kernel_rfl) (by kernel_rfl) (by kernel_rfl) ((hsub (.cons _ (.refl _)))) rfl (y_move rfl) rfl ?_
                      refine H_y 7 rfl (by kernel_rfl) (by kernel_rfl) (by kernel_rfl) ((hsub (.cons _ (.refl _)))) rfl (y_sub rfl rfl (show _ = ((j - 1 : Nat) : Int) from by rw [wi64 (by omega) (by omega)]; omega)) rfl ?_
                      refine H_y 8 rfl (by kernel_rfl) (by kernel_rfl) (by kernel_rfl) ((hsub (.cons _ (.refl _)))) rfl (y_indexS rfl rfl Try.underlying33 sz_48 (by omega) (by omega) (ix0 ((j - 1)))) rfl ?_
                      refine H_y 10 rfl (by kernel_rfl) (by kernel_rfl) (by kernel_rfl) ((hsub (.cons _ (.refl _)))) rfl (y_move rfl) rfl ?_
                      refine H_y 11 rfl (by kernel_rfl) (by kernel_rfl) (by kernel_rfl) ((hsub (.cons _ (.refl _)))) rfl (y_move rfl) rfl ?_
                      refine H_y 12 rfl (by kernel_rfl) (by kernel_rfl) (by kernel_rfl) ((hsub (.cons _ (.refl _)))) rfl (y_indexS rfl rfl Try.underlying33 sz_48 (by omega) (by omega) (ix0 (j))) rfl ?_
                      refine H_two 9 13 rfl rfl (by kernel_rfl) rfl rfl ?_ ?_
                      · refine op_y (y_load rfl ag_48 (sees 0 0 rfl) (us_at (by omega))) rfl ?_
                        refine ⟨(hsub (.cons _ (.refl _))), ?_⟩
                        refine H_one 13 rfl (by kernel_rfl) rfl (op_y (y_load rfl ag_48 (sees 0 0 rfl) (us_at (by omega))) rfl ?_)
                        refine ⟨(hsub (.cons _ (.refl _))), ?_⟩
                        refine H_y 14 rfl (by kernel_rfl) (by kernel_rfl) (by kernel_rfl) ((hsub (.cons _ (.refl _)))) rfl (y_indexS rfl rfl Try.underlying33 sz_48 (by omega) (by omega) (ix0 (j))) rfl ?_
                        refine H_one 15 rfl (by kernel_rfl) rfl (op_store1 0 0 rfl rfl rfl sz_48 rfl (us_lt (by omega)) ?_)
                        refine ⟨(hsub (.cons _ (.refl _))), ?_⟩
                        refine H_y 16 rfl (by kernel_rfl) (by kernel_rfl) (by kernel_rfl) ((hsub (.cons _ (.refl _)))) rfl (y_indexS rfl rfl Try.underlying33 sz_48 (by omega) (by omega) (ix0 ((j - 1)))) rfl ?_
                        refine H_one 17 rfl (by kernel_rfl) rfl (op_store1 0 0 rfl rfl rfl sz_48 rfl (by rw [List.length_set]; exact us_lt (by omega)) ?_)
                        refine ⟨(hsub (.cons _ (.refl _))), ?_⟩
                        refine H_done (by kernel_rfl) ?_
                        rw [us_swp (by omega) (by omega)]
                        refine C_region ?_
                        refine L_y rfl (y_move rfl) rfl ?_
                        refine L_y rfl (y_add rfl rfl (show _ = ((j + 1 : Nat) : Int) from by rw [wi64 (by omega) (by omega)]; omega)) rfl ?_
                        refine L_y rfl (y_assign rfl) rfl ?_
                        refine L_nil ?_
                        exact ⟨(Go.Sort.swp e2 j (j - 1), j + 1), ⟨by simp only; rw [swp_size]; exact hse, by simp only; omega, by simp only; omega, by simp only; rw [← hre, sp_go hj1 hl9]⟩, by simp only; omega, ⟨rfl, rfl, rfl, rfl, rfl, rfl, trivial⟩, ((hsub (.cons_cons _ (.refl _))).trans (hsub_pick [0] rfl))⟩
                      · refine op_y (y_load rfl ag_48 (sees 0 0 rfl) (us_at (by omega))) rfl ?_
                        refine ⟨(hsub (.cons _ (.refl _))), ?_⟩
                        refine H_one 9 rfl (by kernel_rfl) rfl (op_y (y_load rfl ag_48 (sees 0 0 rfl) (us_at (by omega))) rfl ?_)
                        refine ⟨(hsub (.cons _ (.refl _))), ?_⟩
                        refine H_y 14 rfl (by kernel_rfl) (by kernel_rfl) (by kernel_rfl) ((hsub (.cons _ (.refl _)))) rfl (y_indexS rfl rfl Try.underlying33 sz_48 (by omega) (by omega) (ix0 (j))) rfl ?_
                        refine H_one 15 rfl (by kernel_rfl) rfl (op_store1 0 0 rfl rfl rfl sz_48 rfl (us_lt (by omega)) ?_)
                        refine ⟨(hsub (.cons _ (.refl _))), ?_⟩
                        refine H_y 16 rfl (by kernel_rfl) (by kernel_rfl) (by kernel_rfl) ((hsub (.cons _ (.refl _)))) rfl (y_indexS rfl rfl Try.underlying33 sz_48 (by omega) (by omega) (ix0 ((j - 1)))) rfl ?_
                        refine H_one 17 rfl (by kernel_rfl) rfl (op_store1 0 0 rfl rfl rfl sz_48 rfl (by rw [List.length_set]; exact us_lt (by omega)) ?_)
                        refine ⟨(hsub (.cons _ (.refl _))), ?_⟩
                        refine H_done (by kernel_rfl) ?_
                        rw [us_swp (by omega) (by omega)]
                        refine C_region ?_
                        refine L_y rfl (y_move rfl) rfl ?_
                        refine L_y rfl (y_add rfl rfl (show _ = ((j + 1 : Nat) : Int) from by rw [wi64 (by omega) (by omega)]; omega)) rfl ?_
                        refine L_y rfl (y_assign rfl) rfl ?_
                        refine L_nil ?_
                        exact ⟨(Go.Sort.swp e2 j (j - 1), j + 1), ⟨by simp only; rw [swp_size]; exact hse, by simp only; omega, by simp only; omega, by simp only; rw [← hre, sp_go hj1 hl9]⟩, by simp only; omega, ⟨rfl, rfl, rfl, rfl, rfl, rfl, trivial⟩, ((hsub (.cons_cons _ (.refl _))).trans (hsub_pick [0] rfl))⟩
                  · have hj1 : ¬ j < b := by have := of_decide_eq_false hc8; omega
                    have hfin2 : Go.Sort.shiftUp ltN b j e2 = e2 := sp_stop (.inl hj1)
                    refine C_exit ?_
                    exact ⟨(k, e2), ⟨hse, hk1, hk2, pi_go hk hc2 hc3 hd2 hd3 (by rw [if_pos hc7, ← hre, hfin2])⟩, ⟨rfl, rfl, rfl, rfl, rfl, trivial⟩, ((hsub (.cons_cons _ (.refl _))).trans (hsub_pick [0] rfl))⟩
                · replace hc7 : ¬ 2 ≤ b - k := by have := of_decide_eq_false hc7; omega
                  refine C_skip ?_
                  exact ⟨(k, d3), ⟨hs3, hk1, hk2, pi_go hk hc2 hc3 hd2 hd3 (by rw [if_neg hc7])⟩, ⟨rfl, rfl, rfl, rfl, rfl, trivial⟩, ((hsub (.cons_cons _ (.refl _))).trans (hsub_pick [0] rfl))⟩
    · obtain ⟨k, d4⟩ := z
      obtain ⟨hs4, hk1, hk2, hr4⟩ := hz
      try simp only at hs4 hk1 hk2 hr4
      try dsimp only
      refine C_region ?_
      refine L_y rfl (y_move rfl) rfl ?_
      refine L_y rfl (y_add rfl rfl (show _ = ((5 : Int) - ((s + 1 : Nat) : Int) + 1) from by rw [wi64 (by omega) (by omega)])) rfl ?_
      refine L_y rfl (y_assign rfl) rfl ?_
      refine L_nil ?_
      exact ⟨(d4, k, s), ⟨hs4, by simp only; omega, by simp only; omega, by simp only; omega, by simp only; rw [← hr1, hr4]⟩, by simp only; omega, ⟨rfl, rfl, rfl, rfl, by show some _ = some _; rw [show ((5 : Int) - (s : Int)) = 5 - ((s + 1 : Nat) : Int) + 1 by omega], trivial⟩, ((hsub (.cons_cons _ (.refl _))).trans (hsub_pick [0] rfl))⟩
  · obtain rfl : s = 0 := by have := of_decide_eq_false hc0; omega
    refine C_exit ?_
    refine C_seq ?_
    refine C_region ?_
    refine L_y rfl (y_assign rfl) rfl ?_
    refine L_nil ?_
    refine C_ret ?_
    refine B_ret (rv_tmp rfl rv_nil) ((hsub (.cons_cons _ (.refl _))).trans (hsub_pick [0] rfl)) ?_
    rw [← hr1]
    first
    | (rw [pi_true hk hc2]; exact ⟨rfl, rfl⟩)
    | (rw [pi_short hk hc2 hc3]; exact ⟨rfl, rfl⟩)
    | exact ⟨rfl, rfl⟩

end Go.Proofs.Ytighbhplfjjgpaa

/- walks (own work; the walks' lines by a program of this repo). -/
set_option linter.unusedVariables false
set_option linter.unusedSimpArgs false
set_option maxRecDepth 20000
namespace Go.Proofs.Ytighbhplfjjgpaa
open Go.Sl
attribute [local irreducible] BodyQ WpC WpL WpS WpH OpW FnS



set_option maxHeartbeats 1000000 in

theorem reverse_u {w0 : World} {H : Hp} {sb n cap : Nat} {sp : List Value} (d : Array Nat) (hd : d.size = n) (hn : n < 4611686018427387904) (a b : Nat) (hab : a < b) (hb : b ≤ n) : FnS Try.prog w0 87 #[(.slice (some ⟨sb, 0, none⟩) n cap), .int .i64 ((a : Nat) : Int), .int .i64 ((b : Nat) : Int)] (useg 48 sb d sp :: H) (fun e H' => e = .returned (.tuple #[]) ∧ H' = useg 48 sb (Go.Sort.reverseRange d a b) sp :: H) := by
  refine FnS_intro (n := 32) (rs := []) (vs := [(.slice (some ⟨sb, 0, none⟩) n cap), .int .i64 ((a : Nat) : Int), .int .i64 ((b : Nat) : Int)]) Try.func87 rfl Try.ntmps87 rfl rfl ?_
  refine C_seq ?_
  refine C_region ?_
  refine L_y rfl (y_move rfl) rfl ?_
  refine L_y rfl (y_assign rfl) rfl ?_
  refine L_nil ?_
  refine C_seq ?_
  refine C_region ?_
  refine L_y rfl (y_move rfl) rfl ?_
  refine L_y rfl (y_sub rfl rfl (show _ = ((b - 1 : Nat) : Int) from by rw [wi64 (by omega) (by omega)]; omega)) rfl ?_
  refine L_y rfl (y_assign rfl) rfl ?_
  refine L_nil ?_
  refine C_block ?_
  refine C_loop (ι := Array Nat × Nat × Nat) (fun y => [(0, (.slice (some ⟨sb, 0, none⟩) n cap)), (6, .int .i64 ((y.2.1 : Nat) : Int)), (7, .int .i64 ((y.2.2 : Nat) : Int))]) (fun y => useg 48 sb y.1 sp :: H) (fun y => y.1.size = n ∧ y.2.1 ≤ n ∧ y.2.2 < n ∧ Go.Sort.reverseLoop y.2.1 y.2.2 y.1 = Go.Sort.reverseRange d a b) (fun y => y.2.2 - y.2.1) (d, a, b - 1) ⟨hd, by simp only; omega, by simp only; omega, rfl⟩ ⟨rfl, rfl, rfl, trivial⟩ ((hsub (.cons_cons _ (.refl _))).trans (hsub_pick [0] rfl)) (fun y hy => ?_)
  obtain ⟨e1, i, j⟩ := y
  obtain ⟨hse, hin, hjn, hre⟩ := hy
  try simp only at hse hin hjn hre
  try dsimp only
  refine C_seq ?_
  refine C_seq ?_
  refine C_region ?_
  refine L_y rfl (y_move rfl) rfl ?_
  refine L_y rfl (y_move rfl) rfl ?_
  refine L_y rfl (y_lss rfl rfl) rfl ?_
  refine L_nil ?_
  refine C_cond rfl (fun hc0 => ?_) (fun hc0 => ?_)
  · replace hc0 : i < j := by have := of_decide_eq_true hc0; omega
    refine C_skip ?_
    refine C_block ?_
    refine C_seq ?_
    refine C_regionH H (by kernel_rfl) ?_
    refine H_y 0 rfl (by kernel_rfl) (by kernel_rfl) (by kernel_rfl) ((hsub (.cons _ (.refl _)))) rfl (y_move rfl) rfl ?_
    refine H_y 1 rfl (by kernel_rfl) (by kernel_rfl) (by kernel_rfl) ((hsub (.cons _ (.refl _)))) rfl (y_move rfl) rfl ?_
    refine H_y 2 rfl (by kernel_rfl) (by kernel_rfl) (by kernel_rfl) ((hsub (.cons _ (.refl _)))) rfl (y_move rfl) rfl ?_
    refine H_y 3 rfl (by kernel_rfl) (by kernel_rfl) (by kernel_rfl) ((hsub (.cons _ (.refl _)))) rfl (y_move rfl) rfl ?_
    refine H_y 4 rfl (by kernel_rfl) (by kernel_rfl) (by kernel_rfl) ((hsub (.cons _ (.refl _)))) rfl (y_move rfl) rfl ?_
    refine H_y 5 rfl (by kernel_rfl) (by kernel_rfl) (by kernel_rfl) ((hsub (.cons _ (.refl _)))) rfl (y_move rfl) rfl ?_
    refine H_y 6 rfl (by kernel_rfl) (by kernel_rfl) (by kernel_rfl) ((hsub (.cons _ (.refl _)))) rfl (y_indexS rfl rfl Try.underlying33 sz_48 (by omega) (by omega) (ix0 (j))) rfl ?_
    refine H_y 8 rfl (by kernel_rfl) (by kernel_rfl) (by kernel_rfl) ((hsub (.cons _ (.refl _)))) rfl (y_move rfl) rfl ?_
    refine H_y 9 rfl (by kernel_rfl) (by kernel_rfl) (by kernel_rfl) ((hsub (.cons _ (.refl _)))) rfl (y_move rfl) rfl ?_
    refine H_y 10 rfl (by kernel_rfl) (by kernel_rfl) (by kernel_rfl) ((hsub (.cons _ (.refl _)))) rfl (y_indexS rfl rfl Try.underlying33 sz_48 (by omega) (by omega) (ix0 (i))) rfl ?_
    refine H_two 7 11 rfl rfl (by kernel_rfl) rfl rfl ?_ ?_
    · refine op_y (y_load rfl ag_48 (sees 0 0 rfl) (us_at (by omega))) rfl ?_
      refine ⟨(hsub (.cons _ (.refl _))), ?_⟩
      refine H_one 11 rfl (by kernel_rfl) rfl (op_y (y_load rfl ag_48 (sees 0 0 rfl) (us_at (by omega))) rfl ?_)
      refine ⟨(hsub (.cons _ (.refl _))), ?_⟩
      refine H_y 12 rfl (by kernel_rfl) (by kernel_rfl) (by kernel_rfl) ((hsub (.cons _ (.refl _)))) rfl (y_indexS rfl rfl Try.underlying33 sz_48 (by omega) (by omega) (ix0 (i))) rfl ?_
      refine H_one 13 rfl (by kernel_rfl) rfl (op_store1 0 0 rfl rfl rfl sz_48 rfl (us_lt (by omega)) ?_)
      refine ⟨(hsub (.cons _ (.refl _))), ?_⟩
      refine H_y 14 rfl (by kernel_rfl) (by kernel_rfl) (by kernel_rfl) ((hsub (.cons _ (.refl _)))) rfl (y_indexS rfl rfl Try.underlying33 sz_48 (by omega) (by omega) (ix0 (j))) rfl ?_
      refine H_one 15 rfl (by kernel_rfl) rfl (op_store1 0 0 rfl rfl rfl sz_48 rfl (by rw [List.length_set]; exact us_lt (by omega)) ?_)
      refine ⟨(hsub (.cons _ (.refl _))), ?_⟩
      refine H_done (by kernel_rfl) ?_
      rw [us_swp (by omega) (by omega)]
      refine C_seq ?_
      refine C_region ?_
      refine L_y rfl (y_move rfl) rfl ?_
      refine L_y rfl (y_add rfl rfl (show _ = ((i + 1 : Nat) : Int) from by rw [wi64 (by omega) (by omega)]; omega)) rfl ?_
      refine L_y rfl (y_assign rfl) rfl ?_
      refine L_nil ?_
      refine C_region ?_
      refine L_y rfl (y_move rfl) rfl ?_
      refine L_y rfl (y_sub rfl rfl (show _ = ((j - 1 : Nat) : Int) from by rw [wi64 (by omega) (by omega)]; omega)) rfl ?_
      refine L_y rfl (y_assign rfl) rfl ?_
      refine L_nil ?_
      exact ⟨(Go.Sort.swp e1 i j, i + 1, j - 1), ⟨by simp only; rw [swp_size]; exact hse, by simp only; omega, by simp only; omega, by simp only; rw [← hre, rev_go hc0]⟩, by simp only; omega, ⟨rfl, rfl, rfl, trivial⟩, ((hsub (.cons_cons _ (.refl _))).trans (hsub_pick [0] rfl))⟩
    · refine op_y (y_load rfl ag_48 (sees 0 0 rfl) (us_at (by omega))) rfl ?_
      refine ⟨(hsub (.cons _ (.refl _))), ?_⟩
      refine H_one 7 rfl (by kernel_rfl) rfl (op_y (y_load rfl ag_48 (sees 0 0 rfl) (us_at (by omega))) rfl ?_)
      refine ⟨(hsub (.cons _ (.refl _))), ?_⟩
      refine H_y 12 rfl (by kernel_rfl) (by kernel_rfl) (by kernel_rfl) ((hsub (.cons _ (.refl _)))) rfl (y_indexS rfl rfl Try.underlying33 sz_48 (by omega) (by omega) (ix0 (i))) rfl ?_
      refine H_one 13 rfl (by kernel_rfl) rfl (op_store1 0 0 rfl rfl rfl sz_48 rfl (us_lt (by omega)) ?_)
      refine ⟨(hsub (.cons _ (.refl _))), ?_⟩
      refine H_y 14 rfl (by kernel_rfl) (by kernel_rfl) (by kernel_rfl) ((hsub (.cons _ (.refl _)))) rfl (y_indexS rfl rfl Try.underlying33 sz_48 (by omega) (by omega) (ix0 (j))) rfl ?_
      refine H_one 15 rfl (by kernel_rfl) rfl (op_store1 0 0 rfl rfl rfl sz_48 rfl (by rw [List.length_set]; exact us_lt (by omega)) ?_)
      refine ⟨(hsub (.cons _ (.refl _))), ?_⟩
      refine H_done (by kernel_rfl) ?_
      rw [us_swp (by omega) (by omega)]
      refine C_seq ?_
      refine C_region ?_
      refine L_y rfl (y_move rfl) rfl ?_
      refine L_y rfl (y_add rfl rfl (show _ = ((i + 1 : Nat) : Int) from by rw [wi64 (by omega) (by omega)]; omega)) rfl ?_
      refine L_y rfl (y_assign rfl) rfl ?_
      refine L_nil ?_
      refine C_region ?_
      refine L_y rfl (y_move rfl) rfl ?_
      refine L_y rfl (y_sub rfl rfl (show _ = ((j - 1 : Nat) : Int) from by rw [wi64 (by omega) (by omega)]; omega)) rfl ?_
      refine L_y rfl (y_assign rfl) rfl ?_
      refine L_nil ?_
      exact ⟨(Go.Sort.swp e1 i j, i + 1, j - 1), ⟨by simp only; rw [swp_size]; exact hse, by simp only; omega, by simp only; omega, by simp only; rw [← hre, rev_go hc0]⟩, by simp only; omega, ⟨rfl, rfl, rfl, trivial⟩, ((hsub (.cons_cons _ (.refl _))).trans (hsub_pick [0] rfl))⟩
  · replace hc0 : ¬ i < j := by have := of_decide_eq_false hc0; omega
    refine C_exit ?_
    refine B_end rv_nil ((hsub (.cons_cons _ (.refl _))).trans (hsub_pick [0] rfl)) ?_
    refine ⟨rfl, ?_⟩
    rw [← hre, rev_stop hc0]
    rfl

theorem order2_u {w0 : World} {H : Hp} {sb n cap : Nat} {sp : List Value} (d : Array Nat) (hd : d.size = n) (hn : n < 4611686018427387904) {sw : Nat} (s : Int) (a b : Nat) (ha : a < n) (hb : b < n) : FnS Try.prog w0 102 #[(.slice (some ⟨sb, 0, none⟩) n cap), .int .i64 ((a : Nat) : Int), .int .i64 ((b : Nat) : Int), ptr sw] (useg 48 sb d sp :: [(sw, .cells [Value.int .i64 s].toArray 3)] :: H) (fun e H' => ∃ x0 x1 s', ((x0 = a ∧ x1 = b) ∨ (x0 = b ∧ x1 = a)) ∧ e = .returned (.tuple #[.int .i64 ((x0 : Nat) : Int), .int .i64 ((x1 : Nat) : Int)]) ∧ H' = useg 48 sb d sp :: [(sw, .cells [Value.int .i64 s'].toArray 3)] :: H) := by
  refine FnS_intro (n := 28) (rs := [.tmp 8, .tmp 9]) (vs := [(.slice (some ⟨sb, 0, none⟩) n cap), .int .i64 ((a : Nat) : Int), .int .i64 ((b : Nat) : Int), ptr sw]) Try.func102 rfl Try.ntmps102 rfl rfl ?_
  refine C_seq ?_
  refine C_region ?_
  refine L_y rfl (y_assign rfl) rfl ?_
  refine L_y rfl (y_assign rfl) rfl ?_
  refine L_nil ?_
  refine C_seq ?_
  refine C_seq ?_
  refine C_regionH0 (by kernel_rfl) ?_
  refine H_y 0 rfl (by kernel_rfl) (by kernel_rfl) (by kernel_rfl) (HSub.refl _) rfl (y_move rfl) rfl ?_
  refine H_y 1 rfl (by kernel_rfl) (by kernel_rfl) (by kernel_rfl) (HSub.refl _) rfl (y_move rfl) rfl ?_
  refine H_y 2 rfl (by kernel_rfl) (by kernel_rfl) (by kernel_rfl) (HSub.refl _) rfl (y_indexS rfl rfl Try.underlying33 sz_48 (by omega) (by omega) (ix0 (b))) rfl ?_
  refine H_y 3 rfl (by kernel_rfl) (by kernel_rfl) (by kernel_rfl) (HSub.refl _) rfl (y_load rfl ag_48 (sees 0 0 rfl) (us_at (by omega))) rfl ?_
  refine H_y 4 rfl (by kernel_rfl) (by kernel_rfl) (by kernel_rfl) (HSub.refl _) rfl (y_move rfl) rfl ?_
  refine H_y 5 rfl (by kernel_rfl) (by kernel_rfl) (by kernel_rfl) (HSub.refl _) rfl (y_move rfl) rfl ?_
  refine H_y 6 rfl (by kernel_rfl) (by kernel_rfl) (by kernel_rfl) (HSub.refl _) rfl (y_indexS rfl rfl Try.underlying33 sz_48 (by omega) (by omega) (ix0 (a))) rfl ?_
  refine H_y 7 rfl (by kernel_rfl) (by kernel_rfl) (by kernel_rfl) (HSub.refl _) rfl (y_load rfl ag_48 (sees 0 0 rfl) (us_at (by omega))) rfl ?_
  refine H_one 8 rfl (by kernel_rfl) rfl (op_call rfl rfl (fun a w => Try.call89 a w) rfl ?_)
  refine (less_u (d[b]!) (d[a]!)).mono ?_
  rintro _ _ ⟨rfl, e⟩
  obtain rfl := e.symm
  clear e
  refine ⟨_, rfl, ?_⟩
  refine ⟨HSub.refl _, ?_⟩
  refine H_done (by kernel_rfl) ?_
  refine C_cond rfl (fun hc0 => ?_) (fun hc0 => ?_)
  · skip
    refine C_seq ?_
    refine C_region ?_
    refine L_y rfl (y_move rfl) rfl ?_
    refine L_y rfl (y_nilCheck rfl) rfl ?_
    refine L_y rfl (y_load rfl ag_3 (sees 1 0 rfl) rfl) rfl ?_
    refine L_y rfl (y_add rfl rfl rfl) rfl ?_
    refine L_y rfl (y_nilCheck rfl) rfl ?_
    refine L_op rfl (op_store1 1 0 rfl rfl rfl sz_3 rfl (Nat.le_of_ble_eq_true rfl) ?_)
    refine L_nil ?_
    refine C_seq ?_
    refine C_region ?_
    refine L_y rfl (y_move rfl) rfl ?_
    refine L_y rfl (y_move rfl) rfl ?_
    refine L_y rfl (y_assign rfl) rfl ?_
    refine L_y rfl (y_assign rfl) rfl ?_
    refine L_nil ?_
    refine C_ret ?_
    refine B_ret (rv_tmp rfl (rv_tmp rfl rv_nil)) ((hsub (.cons_cons _ (.cons_cons _ (.refl _)))).trans (hsub_pick [0, 0] rfl)) ?_
    first
    | exact ⟨b, a, _, .inr ⟨rfl, rfl⟩, rfl, rfl⟩
    | exact ⟨a, b, _, .inl ⟨rfl, rfl⟩, rfl, rfl⟩
  · skip
    refine C_skip ?_
    refine C_seq ?_
    refine C_region ?_
    refine L_y rfl (y_move rfl) rfl ?_
    refine L_y rfl (y_move rfl) rfl ?_
    refine L_y rfl (y_assign rfl) rfl ?_
    refine L_y rfl (y_assign rfl) rfl ?_
    refine L_nil ?_
    refine C_ret ?_
    refine B_ret (rv_tmp rfl (rv_tmp rfl rv_nil)) ((hsub (.cons_cons _ (.cons_cons _ (.refl _)))).trans (hsub_pick [0, 0] rfl)) ?_
    first
    | exact ⟨b, a, _, .inr ⟨rfl, rfl⟩, rfl, rfl⟩
    | exact ⟨a, b, _, .inl ⟨rfl, rfl⟩, rfl, rfl⟩

theorem median_u {w0 : World} {H : Hp} {sb n cap : Nat} {sp : List Value} (d : Array Nat) (hd : d.size = n) (hn : n < 4611686018427387904) {sw : Nat} (s : Int) (a b c : Nat) (ha : a < n) (hb : b < n) (hc : c < n) : FnS Try.prog w0 100 #[(.slice (some ⟨sb, 0, none⟩) n cap), .int .i64 ((a : Nat) : Int), .int .i64 ((b : Nat) : Int), .int .i64 ((c : Nat) : Int), ptr sw] (useg 48 sb d sp :: [(sw, .cells [Value.int .i64 s].toArray 3)] :: H) (fun e H' => ∃ x0 s', (x0 = a ∨ x0 = b ∨ x0 = c) ∧ e = .returned (.int .i64 ((x0 : Nat) : Int)) ∧ H' = useg 48 sb d sp :: [(sw, .cells [Value.int .i64 s'].toArray 3)] :: H) := by
  refine FnS_intro (n := 36) (rs := [.tmp 10]) (vs := [(.slice (some ⟨sb, 0, none⟩) n cap), .int .i64 ((a : Nat) : Int), .int .i64 ((b : Nat) : Int), .int .i64 ((c : Nat) : Int), ptr sw]) Try.func100 rfl Try.ntmps100 rfl rfl ?_
  refine C_seq ?_
  refine C_region ?_
  refine L_y rfl (y_assign rfl) rfl ?_
  refine L_nil ?_
  refine C_seq ?_
  refine C_region ?_
  refine L_y rfl (y_move rfl) rfl ?_
  refine L_y rfl (y_move rfl) rfl ?_
  refine L_y rfl (y_move rfl) rfl ?_
  refine L_y rfl (y_move rfl) rfl ?_
  refine L_op rfl (op_call rfl rfl (fun a w => Try.call102 a w) rfl ?_)
  refine (order2_u d hd hn _ a b ha hb).mono ?_
  rintro _ _ ⟨p0, p1, sp, hp, rfl, rfl⟩
  refine ⟨_, rfl, ?_⟩
  refine L_y rfl (y_move rfl) rfl ?_
  refine L_y rfl (y_extract rfl rfl) rfl ?_
  refine L_y rfl (y_extract rfl rfl) rfl ?_
  refine L_y rfl (y_assign rfl) rfl ?_
  refine L_y rfl (y_assign rfl) rfl ?_
  refine L_nil ?_
  refine C_seq ?_
  refine C_region ?_
  refine L_y rfl (y_move rfl) rfl ?_
  refine L_y rfl (y_move rfl) rfl ?_
  refine L_y rfl (y_move rfl) rfl ?_
  refine L_y rfl (y_move rfl) rfl ?_
  refine L_op rfl (op_call rfl rfl (fun a w => Try.call102 a w) rfl ?_)
  refine (order2_u d hd hn _ p1 c (by omega) hc).mono ?_
  rintro _ _ ⟨q0, q1, sq, hq, rfl, rfl⟩
  refine ⟨_, rfl, ?_⟩
  refine L_y rfl (y_move rfl) rfl ?_
  refine L_y rfl (y_extract rfl rfl) rfl ?_
  refine L_y rfl (y_extract rfl rfl) rfl ?_
  refine L_y rfl (y_assign rfl) rfl ?_
  refine L_y rfl (y_assign rfl) rfl ?_
  refine L_nil ?_
  refine C_seq ?_
  refine C_region ?_
  refine L_y rfl (y_move rfl) rfl ?_
  refine L_y rfl (y_move rfl) rfl ?_
  refine L_y rfl (y_move rfl) rfl ?_
  refine L_y rfl (y_move rfl) rfl ?_
  refine L_op rfl (op_call rfl rfl (fun a w => Try.call102 a w) rfl ?_)
  refine (order2_u d hd hn _ p0 q0 (by omega) (by omega)).mono ?_
  rintro _ _ ⟨r0, r1, sr, hr, rfl, rfl⟩
  refine ⟨_, rfl, ?_⟩
  refine L_y rfl (y_move rfl) rfl ?_
  refine L_y rfl (y_extract rfl rfl) rfl ?_
  refine L_y rfl (y_extract rfl rfl) rfl ?_
  refine L_y rfl (y_assign rfl) rfl ?_
  refine L_y rfl (y_assign rfl) rfl ?_
  refine L_nil ?_
  refine C_seq ?_
  refine C_region ?_
  refine L_y rfl (y_move rfl) rfl ?_
  refine L_y rfl (y_assign rfl) rfl ?_
  refine L_nil ?_
  refine C_ret ?_
  refine B_ret (rv_tmp rfl rv_nil) ((hsub (.cons_cons _ (.cons_cons _ (.refl _)))).trans (hsub_pick [0, 0] rfl)) ?_
  exact ⟨r1, _, by omega, rfl, rfl⟩

theorem medadj_u {w0 : World} {H : Hp} {sb n cap : Nat} {sp : List Value} (d : Array Nat) (hd : d.size = n) (hn : n < 4611686018427387904) {sw : Nat} (s : Int) (a : Nat) (ha : 1 ≤ a) (hb : a + 1 < n) : FnS Try.prog w0 99 #[(.slice (some ⟨sb, 0, none⟩) n cap), .int .i64 ((a : Nat) : Int), ptr sw] (useg 48 sb d sp :: [(sw, .cells [Value.int .i64 s].toArray 3)] :: H) (fun e H' => ∃ x0 s', (a - 1 ≤ x0 ∧ x0 ≤ a + 1) ∧ e = .returned (.int .i64 ((x0 : Nat) : Int)) ∧ H' = useg 48 sb d sp :: [(sw, .cells [Value.int .i64 s'].toArray 3)] :: H) := by
  refine FnS_intro (n := 15) (rs := [.tmp 6]) (vs := [(.slice (some ⟨sb, 0, none⟩) n cap), .int .i64 ((a : Nat) : Int), ptr sw]) Try.func99 rfl Try.ntmps99 rfl rfl ?_
  refine C_seq ?_
  refine C_region ?_
  refine L_y rfl (y_assign rfl) rfl ?_
  refine L_nil ?_
  refine C_seq ?_
  refine C_region ?_
  refine L_y rfl (y_move rfl) rfl ?_
  refine L_y rfl (y_move rfl) rfl ?_
  refine L_y rfl (y_sub rfl rfl (show _ = ((a - 1 : Nat) : Int) from by rw [wi64 (by omega) (by omega)]; omega)) rfl ?_
  refine L_y rfl (y_move rfl) rfl ?_
  refine L_y rfl (y_move rfl) rfl ?_
  refine L_y rfl (y_add rfl rfl (show _ = ((a + 1 : Nat) : Int) from by rw [wi64 (by omega) (by omega)]; omega)) rfl ?_
  refine L_y rfl (y_move rfl) rfl ?_
  refine L_op rfl (op_call rfl rfl (fun a w => Try.call100 a w) rfl ?_)
  refine (median_u d hd hn _ (a - 1) a (a + 1) (by omega) (by omega) (by omega)).mono ?_
  rintro _ _ ⟨p, sp, hp, rfl, rfl⟩
  refine ⟨_, rfl, ?_⟩
  refine L_y rfl (y_assign rfl) rfl ?_
  refine L_nil ?_
  refine C_ret ?_
  refine B_ret (rv_tmp rfl rv_nil) ((hsub (.cons_cons _ (.cons_cons _ (.refl _)))).trans (hsub_pick [0, 0] rfl)) ?_
  exact ⟨p, _, by omega, rfl, rfl⟩

set_option maxHeartbeats 1000000 in

theorem choose_u {w0 : World} {H : Hp} {sb n cap : Nat} {sp : List Value} (d : Array Nat) (hd : d.size = n) (hn : n < 4611686018427387904) (a b : Nat) (hab : 12 < b - a) (hb : b ≤ n) : FnS Try.prog w0 86 #[(.slice (some ⟨sb, 0, none⟩) n cap), .int .i64 ((a : Nat) : Int), .int .i64 ((b : Nat) : Int)] (useg 48 sb d sp :: H) (fun e H' => ∃ (p : Nat) (h : Int), a ≤ p ∧ p < b ∧ e = .returned (.tuple #[.int .i64 (p : Int), .int .i64 h]) ∧ H' = useg 48 sb d sp :: H) := by
  obtain ⟨i_, hi_⟩ : ∃ y, y = a + (b - a) / 4 * 1 := ⟨_, rfl⟩
  obtain ⟨j_, hj_⟩ : ∃ y, y = a + (b - a) / 4 * 2 := ⟨_, rfl⟩
  obtain ⟨k_, hk_⟩ : ∃ y, y = a + (b - a) / 4 * 3 := ⟨_, rfl⟩
  refine FnS_intro (n := 57) (rs := [.tmp 6, .tmp 7]) (vs := [(.slice (some ⟨sb, 0, none⟩) n cap), .int .i64 ((a : Nat) : Int), .int .i64 ((b : Nat) : Int)]) Try.func86 rfl Try.ntmps86 rfl rfl ?_
  refine C_seq ?_
  refine C_region ?_
  refine L_y rfl (y_assign rfl) rfl ?_
  refine L_y rfl (y_assign rfl) rfl ?_
  refine L_nil ?_
  refine C_seq ?_
  refine C_region ?_
  refine L_y rfl (y_move rfl) rfl ?_
  refine L_y rfl (y_move rfl) rfl ?_
  refine L_y rfl (y_sub rfl rfl (show _ = ((b - a : Nat) : Int) from by rw [wi64 (by omega) (by omega)]; omega)) rfl ?_
  refine L_y rfl (y_assign rfl) rfl ?_
  refine L_nil ?_
  refine C_seq ?_
  refine C_region ?_
  refine L_op rfl (op_alloc zl_3 rfl (fun B1 => ?_))
  refine L_nil ?_
  refine C_seq ?_
  refine C_region ?_
  refine L_y rfl (y_move rfl) rfl ?_
  refine L_y rfl (y_move rfl) rfl ?_
  refine L_y rfl (y_quo rfl rfl (by omega) (show _ = (((b - a) / 4 : Nat) : Int) from by rw [Int.tdiv_eq_ediv_of_nonneg (by omega), wi64 (by omega) (by omega)]; omega)) rfl ?_
  refine L_y rfl (y_mul rfl rfl (show _ = (((b - a) / 4 * 1 : Nat) : Int) from by rw [wi64 (by omega) (by omega)]; omega)) rfl ?_
  refine L_y rfl (y_add rfl rfl (show _ = ((i_ : Nat) : Int) from by rw [wi64 (by omega) (by omega)]; omega)) rfl ?_
  refine L_y rfl (y_assign rfl) rfl ?_
  refine L_nil ?_
  refine C_seq ?_
  refine C_region ?_
  refine L_y rfl (y_move rfl) rfl ?_
  refine L_y rfl (y_move rfl) rfl ?_
  refine L_y rfl (y_quo rfl rfl (by omega) (show _ = (((b - a) / 4 : Nat) : Int) from by rw [Int.tdiv_eq_ediv_of_nonneg (by omega), wi64 (by omega) (by omega)]; omega)) rfl ?_
  refine L_y rfl (y_mul rfl rfl (show _ = (((b - a) / 4 * 2 : Nat) : Int) from by rw [wi64 (by omega) (by omega)]; omega)) rfl ?_
  refine L_y rfl (y_add rfl rfl (show _ = ((j_ : Nat) : Int) from by rw [wi64 (by omega) (by omega)]; omega)) rfl ?_
  refine L_y rfl (y_assign rfl) rfl ?_
  refine L_nil ?_
  refine C_seq ?_
  refine C_region ?_
  refine L_y rfl (y_move rfl) rfl ?_
  refine L_y rfl (y_move rfl) rfl ?_
  refine L_y rfl (y_quo rfl rfl (by omega) (show _ = (((b - a) / 4 : Nat) : Int) from by rw [Int.tdiv_eq_ediv_of_nonneg (by omega), wi64 (by omega) (by omega)]; omega)) rfl ?_
  refine L_y rfl (y_mul rfl rfl (show _ = (((b - a) / 4 * 3 : Nat) : Int) from by rw [wi64 (by omega) (by omega)]; omega)) rfl ?_
  refine L_y rfl (y_add rfl rfl (show _ = ((k_ : Nat) : Int) from by rw [wi64 (by omega) (by omega)]; omega)) rfl ?_
  refine L_y rfl (y_assign rfl) rfl ?_
  refine L_nil ?_
  refine C_seq ?_
  refine C_seq ?_
  refine C_region ?_
  refine L_y rfl (y_move rfl) rfl ?_
  refine L_y rfl (y_geq rfl rfl) rfl ?_
  refine L_nil ?_
  refine C_cond rfl (fun hc0 => ?_) (fun hc0 => absurd hc0 (by simp <;> omega))
  refine C_seq ?_
  refine C_seq ?_
  refine C_region ?_
  refine L_y rfl (y_move rfl) rfl ?_
  refine L_y rfl (y_geq rfl rfl) rfl ?_
  refine L_nil ?_
  refine C_cond rfl (fun hc1 => ?_) (fun hc1 => ?_)
  · replace hc1 : 50 ≤ b - a := by have := of_decide_eq_true hc1; omega
    refine C_seq ?_
    refine C_region ?_
    refine L_y rfl (y_move rfl) rfl ?_
    refine L_y rfl (y_move rfl) rfl ?_
    refine L_op rfl (op_call rfl rfl (fun a w => Try.call99 a w) rfl ?_)
    refine (FnS.sub (hsub_pick [1] rfl) (medadj_u d hd hn _ i_ (by omega) (by omega))).mono ?_
    rintro _ _ ⟨p1, sp1, hp1, rfl, rfl⟩
    refine ⟨_, rfl, ?_⟩
    refine L_y rfl (y_assign rfl) rfl ?_
    refine L_nil ?_
    refine C_seq ?_
    refine C_region ?_
    refine L_y rfl (y_move rfl) rfl ?_
    refine L_y rfl (y_move rfl) rfl ?_
    refine L_op rfl (op_call rfl rfl (fun a w => Try.call99 a w) rfl ?_)
    refine (FnS.sub (hsub_pick [0] rfl) (medadj_u d hd hn _ j_ (by omega) (by omega))).mono ?_
    rintro _ _ ⟨p2, sp2, hp2, rfl, rfl⟩
    refine ⟨_, rfl, ?_⟩
    refine L_y rfl (y_assign rfl) rfl ?_
    refine L_nil ?_
    refine C_region ?_
    refine L_y rfl (y_move rfl) rfl ?_
    refine L_y rfl (y_move rfl) rfl ?_
    refine L_op rfl (op_call rfl rfl (fun a w => Try.call99 a w) rfl ?_)
    refine (FnS.sub (hsub_pick [0] rfl) (medadj_u d hd hn _ k_ (by omega) (by omega))).mono ?_
    rintro _ _ ⟨p3, sp3, hp3, rfl, rfl⟩
    refine ⟨_, rfl, ?_⟩
    refine L_y rfl (y_assign rfl) rfl ?_
    refine L_nil ?_
    refine C_region ?_
    refine L_y rfl (y_move rfl) rfl ?_
    refine L_y rfl (y_move rfl) rfl ?_
    refine L_y rfl (y_move rfl) rfl ?_
    refine L_y rfl (y_move rfl) rfl ?_
    refine L_op rfl (op_call rfl rfl (fun a w => Try.call100 a w) rfl ?_)
    refine (FnS.sub (hsub_pick [0] rfl) (median_u d hd hn _ p1 p2 p3 (by omega) (by omega) (by omega))).mono ?_
    rintro _ _ ⟨pm, spm, hpm, rfl, rfl⟩
    refine ⟨_, rfl, ?_⟩
    refine L_y rfl (y_assign rfl) rfl ?_
    refine L_nil ?_
    refine C_seq ?_
    refine C_region ?_
    refine L_y rfl (y_load rfl ag_3 (sees 1 0 rfl) rfl) rfl ?_
    refine L_nil ?_
    refine C_block ?_
    refine C_seq ?_
    refine C_region ?_
    refine L_y rfl (y_eqi rfl rfl) rfl ?_
    refine L_y rfl (y_assign rfl) rfl ?_
    refine L_nil ?_
    refine C_cond rfl (fun hc2 => ?_) (fun hc2 => ?_)
    · replace hc2 := of_decide_eq_true hc2
      refine C_seq ?_
      refine C_region ?_
      refine L_y rfl (y_move rfl) rfl ?_
      refine L_y rfl (y_assign rfl) rfl ?_
      refine L_y rfl (y_assign rfl) rfl ?_
      refine L_nil ?_
      refine C_ret ?_
      refine B_ret (rv_tmp rfl (rv_tmp rfl rv_nil)) ((hsub (.cons_cons _ (.cons _ (.refl _)))).trans (hsub_pick [0] rfl)) ?_
      exact ⟨pm, _, by omega, by omega, rfl, rfl⟩
    · replace hc2 := of_decide_eq_false hc2
      refine C_seq ?_
      refine C_region ?_
      refine L_y rfl (y_eqi rfl rfl) rfl ?_
      refine L_y rfl (y_assign rfl) rfl ?_
      refine L_nil ?_
      refine C_cond rfl (fun hc3 => ?_) (fun hc3 => ?_)
      · replace hc3 := of_decide_eq_true hc3
        refine C_seq ?_
        refine C_region ?_
        refine L_y rfl (y_move rfl) rfl ?_
        refine L_y rfl (y_assign rfl) rfl ?_
        refine L_y rfl (y_assign rfl) rfl ?_
        refine L_nil ?_
        refine C_ret ?_
        refine B_ret (rv_tmp rfl (rv_tmp rfl rv_nil)) ((hsub (.cons_cons _ (.cons _ (.refl _)))).trans (hsub_pick [0] rfl)) ?_
        exact ⟨pm, _, by omega, by omega, rfl, rfl⟩
      · replace hc3 := of_decide_eq_false hc3
        refine C_seq ?_
        refine C_region ?_
        refine L_y rfl (y_move rfl) rfl ?_
        refine L_y rfl (y_assign rfl) rfl ?_
        refine L_y rfl (y_assign rfl) rfl ?_
        refine L_nil ?_
        refine C_ret ?_
        refine B_ret (rv_tmp rfl (rv_tmp rfl rv_nil)) ((hsub (.cons_cons _ (.cons _ (.refl _)))).trans (hsub_pick [0] rfl)) ?_
        exact ⟨pm, _, by omega, by omega, rfl, rfl⟩
  · replace hc1 : ¬ 50 ≤ b - a := by have := of_decide_eq_false hc1; omega
    refine C_skip ?_
    refine C_region ?_
    refine L_y rfl (y_move rfl) rfl ?_
    refine L_y rfl (y_move rfl) rfl ?_
    refine L_y rfl (y_move rfl) rfl ?_
    refine L_y rfl (y_move rfl) rfl ?_
    refine L_op rfl (op_call rfl rfl (fun a w => Try.call100 a w) rfl ?_)
    refine (FnS.sub (hsub_pick [1] rfl) (median_u d hd hn _ i_ j_ k_ (by omega) (by omega) (by omega))).mono ?_
    rintro _ _ ⟨pm, spm, hpm, rfl, rfl⟩
    refine ⟨_, rfl, ?_⟩
    refine L_y rfl (y_assign rfl) rfl ?_
    refine L_nil ?_
    refine C_seq ?_
    refine C_region ?_
    refine L_y rfl (y_load rfl ag_3 (sees 1 0 rfl) rfl) rfl ?_
    refine L_nil ?_
    refine C_block ?_
    refine C_seq ?_
    refine C_region ?_
    refine L_y rfl (y_eqi rfl rfl) rfl ?_
    refine L_y rfl (y_assign rfl) rfl ?_
    refine L_nil ?_
    refine C_cond rfl (fun hc2 => ?_) (fun hc2 => ?_)
    · replace hc2 := of_decide_eq_true hc2
      refine C_seq ?_
      refine C_region ?_
      refine L_y rfl (y_move rfl) rfl ?_
      refine L_y rfl (y_assign rfl) rfl ?_
      refine L_y rfl (y_assign rfl) rfl ?_
      refine L_nil ?_
      refine C_ret ?_
      refine B_ret (rv_tmp rfl (rv_tmp rfl rv_nil)) ((hsub (.cons_cons _ (.cons _ (.refl _)))).trans (hsub_pick [0] rfl)) ?_
      exact ⟨pm, _, by omega, by omega, rfl, rfl⟩
    · replace hc2 := of_decide_eq_false hc2
      refine C_seq ?_
      refine C_region ?_
      refine L_y rfl (y_eqi rfl rfl) rfl ?_
      refine L_y rfl (y_assign rfl) rfl ?_
      refine L_nil ?_
      refine C_cond rfl (fun hc3 => ?_) (fun hc3 => ?_)
      · replace hc3 := of_decide_eq_true hc3
        refine C_seq ?_
        refine C_region ?_
        refine L_y rfl (y_move rfl) rfl ?_
        refine L_y rfl (y_assign rfl) rfl ?_
        refine L_y rfl (y_assign rfl) rfl ?_
        refine L_nil ?_
        refine C_ret ?_
        refine B_ret (rv_tmp rfl (rv_tmp rfl rv_nil)) ((hsub (.cons_cons _ (.cons _ (.refl _)))).trans (hsub_pick [0] rfl)) ?_
        exact ⟨pm, _, by omega, by omega, rfl, rfl⟩
      · replace hc3 := of_decide_eq_false hc3
        refine C_seq ?_
        refine C_region ?_
        refine L_y rfl (y_move rfl) rfl ?_
        refine L_y rfl (y_assign rfl) rfl ?_
        refine L_y rfl (y_assign rfl) rfl ?_
        refine L_nil ?_
        refine C_ret ?_
        refine B_ret (rv_tmp rfl (rv_tmp rfl rv_nil)) ((hsub (.cons_cons _ (.cons _ (.refl _)))).trans (hsub_pick [0] rfl)) ?_
        exact ⟨pm, _, by omega, by omega, rfl, rfl⟩

end Go.Proofs.Ytighbhplfjjgpaa

/- Loops round by round (own work). -/
set_option linter.unusedVariables false
namespace Go.Sl
variable {P : Program} {n : FN} {w0 : World} {Q : Post} {E : Env} {H : Hp}
/-- Within a loop, ahead of a round. -/
def WpIn (P : Program) (n : FN) (w0 : World) (c : Code) (Q : Post) (E : Env) (H : Hp) : Prop := ∀ a w, FrOk n E a → St w0 w H → ∀ b k cs,
  ∃ e a' w', lift n w0 Q e a' w' ∧ Arrives P (lone (b.at a (.code c :: .inLoop c :: k)) cs w) b k cs e a' w'
theorem C_loopIn {c : Code} (h : WpIn P n w0 c Q E H) : WpC P n w0 (.loop c) Q E H := by
  intro a w ha hw b k cs
  obtain ⟨e, a', w', hq, harr⟩ := h a w ha hw b k cs
  exact ⟨e, a', w', hq, .of_steps (.one step_loop) harr⟩
theorem In_round {c : Code} (h : WpC P n w0 c (thenQ (fun E' H' => WpIn P n w0 c Q E' H') Q) E H) : WpIn P n w0 c Q E H := by
  intro a w ha hw b k cs
  obtain ⟨e, a₁, w₁, hq, harr⟩ := h a w ha hw b (.inLoop c :: k) cs
  obtain ⟨E₁, H₁, f1, s1, q⟩ := hq
  cases e with
  | normal =>
    obtain ⟨e₂, a₂, w₂, hq₂, harr₂⟩ := q a₁ w₁ (f1.2 rfl) s1 b k cs
    exact ⟨e₂, a₂, w₂, hq₂, .of_steps (Steps.trans harr (.one step_inLoop)) harr₂⟩
  | exit id => exact ⟨_, a₁, w₁, ⟨E₁, H₁, f1, s1, q⟩, .pass (x := .inLoop c) rfl (fun _ _ => .inl (by simp)) harr⟩
  | goto l => exact ⟨_, a₁, w₁, ⟨E₁, H₁, f1, s1, q⟩, .pass (x := .inLoop c) rfl (fun _ _ => .inl (by simp)) harr⟩
  | ret => exact ⟨_, a₁, w₁, ⟨E₁, H₁, f1, s1, q⟩, .pass (x := .inLoop c) rfl (fun _ _ => .inl (by simp)) harr⟩
  | panic ch => exact ⟨_, a₁, w₁, ⟨E₁, H₁, f1, s1, q⟩, .pass (x := .inLoop c) rfl (fun _ _ => .inl (by simp)) harr⟩
  | outgrown => exact ⟨_, a₁, w₁, ⟨E₁, H₁, f1, s1, q⟩, .pass (x := .inLoop c) rfl (fun _ _ => .inl (by simp)) harr⟩
/-- Any of these loud operations may come up. -/
def HAll (P : Program) (n : FN) (w0 : World) (ops : List Oper) (Q : Post) (HS : Hp) (fuel : Nat) (listed : List Bool) (E : Env) (H : Hp) : List Nat → Prop
  | [] => True
  | k :: ks => (∃ o, ops[k]? = some o ∧ wE ops E o.guard = some true ∧ OpW P n w0 Q o E H (fun E' H' => HSub HS H' ∧ WpH P n w0 ops Q HS fuel (listed.set k true) E' H')) ∧ HAll P n w0 ops Q HS fuel listed E H ks
end Go.Sl

/- walks (own work; the walks' lines by a program of this repo). -/
set_option linter.unusedVariables false
set_option linter.unusedSimpArgs false
set_option maxRecDepth 20000
namespace Go.Proofs.Ytighbhplfjjgpaa
open Go.Sl
attribute [local irreducible] BodyQ WpC WpL WpS WpH OpW FnS


theorem len64_1 {w0 : World} {H : Hp} (x : Nat) (hx : x < 256) : FnS Try.prog w0 93 #[.int .u64 (x : Int)] H (fun e H' => e = .returned (.int .i64 (Go.Sort.bitsLen x : Int)) ∧ H' = H) := by
  have hb := bits_small hx
  refine FnS_intro (n := 25) (rs := [.tmp 2]) (vs := [.int .u64 (x : Int)]) Try.func93 rfl Try.ntmps93 rfl rfl ?_
  refine C_seq ?_
  refine C_region ?_
  refine L_y rfl (y_assign rfl) rfl ?_
  refine L_nil ?_
  refine C_seq ?_
  refine C_seq ?_
  refine C_region ?_
  refine L_y rfl (y_move rfl) rfl ?_
  refine L_y rfl (y_geq rfl rfl) rfl ?_
  refine L_nil ?_
  refine C_cond rfl (fun hc0 => absurd hc0 (by simp <;> omega)) (fun hc0 => ?_)
  refine C_skip ?_
  refine C_seq ?_
  refine C_seq ?_
  refine C_region ?_
  refine L_y rfl (y_move rfl) rfl ?_
  refine L_y rfl (y_geq rfl rfl) rfl ?_
  refine L_nil ?_
  refine C_cond rfl (fun hc1 => absurd hc1 (by simp <;> omega)) (fun hc1 => ?_)
  refine C_skip ?_
  refine C_seq ?_
  refine C_seq ?_
  refine C_region ?_
  refine L_y rfl (y_move rfl) rfl ?_
  refine L_y rfl (y_geq rfl rfl) rfl ?_
  refine L_nil ?_
  refine C_cond rfl (fun hc2 => absurd hc2 (by simp <;> omega)) (fun hc2 => ?_)
  refine C_skip ?_
  refine C_seq ?_
  refine C_region ?_
  refine L_y rfl (y_move rfl) rfl ?_
  refine L_y rfl (y_move rfl) rfl ?_
  refine L_y rfl (y_conv rfl us_48 Try.underlying5 (show _ = ((x : Nat) : Int) from by rw [wu8 (by omega) (by omega)])) rfl ?_
  refine L_y rfl (y_indexStr (show _ = some (Value.string len8) from by kernel_rfl) rfl Try.underlying9 (by omega) (len8_at (i := x) (by omega))) rfl ?_
  refine L_y rfl (y_conv rfl us_5 Try.underlying3 (show _ = ((Go.Sort.bitsLen x : Nat) : Int) from by rw [show (UInt8.ofNat (Go.Sort.bitsLen x)).toNat = Go.Sort.bitsLen x from by rw [UInt8.toNat_ofNat']; omega]; exact wi64 (by omega) (by omega))) rfl ?_
  refine L_y rfl (y_add rfl rfl (show _ = ((Go.Sort.bitsLen x : Nat) : Int) from by rw [wi64 (by omega) (by omega)]; omega)) rfl ?_
  refine L_y rfl (y_assign rfl) rfl ?_
  refine L_nil ?_
  refine C_ret ?_
  refine B_ret (rv_tmp rfl rv_nil) (HSub.refl _) ?_
  exact ⟨rfl, rfl⟩

theorem len64_2 {w0 : World} {H : Hp} (x : Nat) (hx : x < 65536) (hx2 : 256 ≤ x) : FnS Try.prog w0 93 #[.int .u64 (x : Int)] H (fun e H' => e = .returned (.int .i64 (Go.Sort.bitsLen x : Int)) ∧ H' = H) := by
  have hb := bits_small (show x / 256 < 256 by omega)
  have hs := bits_shift hx2
  refine FnS_intro (n := 25) (rs := [.tmp 2]) (vs := [.int .u64 (x : Int)]) Try.func93 rfl Try.ntmps93 rfl rfl ?_
  refine C_seq ?_
  refine C_region ?_
  refine L_y rfl (y_assign rfl) rfl ?_
  refine L_nil ?_
  refine C_seq ?_
  refine C_seq ?_
  refine C_region ?_
  refine L_y rfl (y_move rfl) rfl ?_
  refine L_y rfl (y_geq rfl rfl) rfl ?_
  refine L_nil ?_
  refine C_cond rfl (fun hc0 => absurd hc0 (by simp <;> omega)) (fun hc0 => ?_)
  refine C_skip ?_
  refine C_seq ?_
  refine C_seq ?_
  refine C_region ?_
  refine L_y rfl (y_move rfl) rfl ?_
  refine L_y rfl (y_geq rfl rfl) rfl ?_
  refine L_nil ?_
  refine C_cond rfl (fun hc1 => absurd hc1 (by simp <;> omega)) (fun hc1 => ?_)
  refine C_skip ?_
  refine C_seq ?_
  refine C_seq ?_
  refine C_region ?_
  refine L_y rfl (y_move rfl) rfl ?_
  refine L_y rfl (y_geq rfl rfl) rfl ?_
  refine L_nil ?_
  refine C_cond rfl (fun hc2 => ?_) (fun hc2 => absurd hc2 (by simp <;> omega))
  refine C_seq ?_
  refine C_region ?_
  refine L_y rfl (y_move rfl) rfl ?_
  refine L_y rfl (y_shr rfl rfl (by omega) (show _ = ((x / 256 : Nat) : Int) from by show Int.fdiv (x : Int) 256 = _; rw [Int.fdiv_eq_ediv_of_nonneg _ (by decide)]; omega)) rfl ?_
  refine L_y rfl (y_assign rfl) rfl ?_
  refine L_nil ?_
  refine C_region ?_
  refine L_y rfl (y_move rfl) rfl ?_
  refine L_y rfl (y_add rfl rfl (show _ = (8 : Int) from rfl)) rfl ?_
  refine L_y rfl (y_assign rfl) rfl ?_
  refine L_nil ?_
  refine C_seq ?_
  refine C_region ?_
  refine L_y rfl (y_move rfl) rfl ?_
  refine L_y rfl (y_move rfl) rfl ?_
  refine L_y rfl (y_conv rfl us_48 Try.underlying5 (show _ = (((x / 256) : Nat) : Int) from by rw [wu8 (by omega) (by omega)])) rfl ?_
  refine L_y rfl (y_indexStr (show _ = some (Value.string len8) from by kernel_rfl) rfl Try.underlying9 (by omega) (len8_at (i := (x / 256)) (by omega))) rfl ?_
  refine L_y rfl (y_conv rfl us_5 Try.underlying3 (show _ = ((Go.Sort.bitsLen (x / 256) : Nat) : Int) from by rw [show (UInt8.ofNat (Go.Sort.bitsLen (x / 256))).toNat = Go.Sort.bitsLen (x / 256) from by rw [UInt8.toNat_ofNat']; omega]; exact wi64 (by omega) (by omega))) rfl ?_
  refine L_y rfl (y_add rfl rfl (show _ = ((Go.Sort.bitsLen x : Nat) : Int) from by rw [wi64 (by omega) (by omega)]; omega)) rfl ?_
  refine L_y rfl (y_assign rfl) rfl ?_
  refine L_nil ?_
  refine C_ret ?_
  refine B_ret (rv_tmp rfl rv_nil) (HSub.refl _) ?_
  exact ⟨rfl, rfl⟩

theorem len64_u {w0 : World} {H : Hp} (x : Nat) (hx : x < 65536) : FnS Try.prog w0 93 #[.int .u64 (x : Int)] H (fun e H' => e = .returned (.int .i64 (Go.Sort.bitsLen x : Int)) ∧ H' = H) := by
  by_cases h : x < 256
  · exact len64_1 x h
  · exact len64_2 x hx (by omega)

theorem len_u {w0 : World} {H : Hp} (x : Nat) (hx : x < 65536) : FnS Try.prog w0 73 #[.int .u64 (x : Int)] H (fun e H' => e = .returned (.int .i64 (Go.Sort.bitsLen x : Int)) ∧ H' = H) := by
  refine FnS_intro (n := 8) (rs := [.tmp 2]) (vs := [.int .u64 (x : Int)]) Try.func73 rfl Try.ntmps73 rfl rfl ?_
  refine C_seq ?_
  refine C_region ?_
  refine L_y rfl (y_assign rfl) rfl ?_
  refine L_nil ?_
  refine C_seq ?_
  refine C_cond_f rfl ?_
  refine C_skip ?_
  refine C_seq ?_
  refine C_region ?_
  refine L_y rfl (y_move rfl) rfl ?_
  refine L_op rfl (op_call rfl rfl (fun a w => Try.call93 a w) rfl ?_)
  refine (len64_u x hx).mono ?_
  rintro _ _ ⟨rfl, e⟩
  obtain rfl := e.symm
  clear e
  refine ⟨_, rfl, ?_⟩
  refine L_y rfl (y_assign rfl) rfl ?_
  refine L_nil ?_
  refine C_ret ?_
  refine B_ret (rv_tmp rfl rv_nil) (HSub.refl _) ?_
  exact ⟨rfl, rfl⟩

end Go.Proofs.Ytighbhplfjjgpaa

/- walks (own work; the walks' lines by a program of this repo). -/
set_option linter.unusedVariables false
set_option linter.unusedSimpArgs false
set_option maxRecDepth 20000
namespace Go.Proofs.Ytighbhplfjjgpaa
open Go.Sl
attribute [local irreducible] BodyQ WpC WpL WpS WpH OpW FnS


theorem npow_u {w0 : World} {H : Hp} (x : Nat) (hx : x < 65536) : FnS Try.prog w0 97 #[.int .i64 ((x : Nat) : Int)] H (fun e H' => e = .returned (.int .u64 ((2 ^ Go.Sort.bitsLen x : Nat) : Int)) ∧ H' = H) := by
  have hbl := bits_le hx
  refine FnS_intro (n := 7) (rs := [.tmp 2]) (vs := [.int .i64 ((x : Nat) : Int)]) Try.func97 rfl Try.ntmps97 rfl rfl ?_
  refine C_seq ?_
  refine C_region ?_
  refine L_y rfl (y_assign rfl) rfl ?_
  refine L_nil ?_
  refine C_seq ?_
  refine C_region ?_
  refine L_y rfl (y_move rfl) rfl ?_
  refine L_y rfl (y_conv rfl us_3 Try.underlying144 (show _ = ((x : Nat) : Int) from wu64 (by omega) (by omega))) rfl ?_
  refine L_op rfl (op_call rfl rfl (fun a w => Try.call73 a w) rfl ?_)
  refine (len_u x hx).mono ?_
  rintro _ _ ⟨rfl, e⟩
  obtain rfl := e.symm
  clear e
  refine ⟨_, rfl, ?_⟩
  refine L_y rfl (y_shl rfl rfl (by omega) (show _ = ((2 ^ Go.Sort.bitsLen x : Nat) : Int) from by rw [Int.toNat_natCast, show min (Go.Sort.bitsLen x) (IntKind.bits .u64) = Go.Sort.bitsLen x from Nat.min_eq_left (Nat.le_trans hbl (by decide))]; have := (shl_u64 (x := 1) (k := Go.Sort.bitsLen x)); rw [Nat.one_mul, Nat.mod_eq_of_lt (Nat.lt_of_le_of_lt (Nat.pow_le_pow_right (by decide) hbl) (by decide))] at this; exact this)) rfl ?_
  refine L_y rfl (y_assign rfl) rfl ?_
  refine L_nil ?_
  refine C_ret ?_
  refine B_ret (rv_tmp rfl rv_nil) (HSub.refl _) ?_
  exact ⟨rfl, rfl⟩

set_option maxHeartbeats 1000000 in

theorem xnext_u {w0 : World} {H : Hp} {rb : Nat} (v : Nat) (hlv : v < 18446744073709551616) : FnS Try.prog w0 98 #[ptr rb] ([(rb, .cells [Value.int .u64 ((v : Nat) : Int)].toArray 168)] :: H) (fun e H' => ∃ v', v' < 18446744073709551616 ∧ e = .returned (.int .u64 ((v' : Nat) : Int)) ∧ H' = [(rb, .cells [Value.int .u64 ((v' : Nat) : Int)].toArray 168)] :: H) := by
  refine FnS_intro (n := 33) (rs := [.tmp 2]) (vs := [ptr rb]) Try.func98 rfl Try.ntmps98 rfl rfl ?_
  refine C_seq ?_
  refine C_region ?_
  refine L_y rfl (y_assign rfl) rfl ?_
  refine L_nil ?_
  refine C_seq ?_
  refine C_regionH H (by kernel_rfl) ?_
  refine H_y 0 rfl (by kernel_rfl) (by kernel_rfl) (by kernel_rfl) ((hsub (.cons _ (.refl _)))) rfl (y_move rfl) rfl ?_
  refine H_y 1 rfl (by kernel_rfl) (by kernel_rfl) (by kernel_rfl) ((hsub (.cons _ (.refl _)))) rfl (y_nilCheck rfl) rfl ?_
  refine H_y 3 rfl (by kernel_rfl) (by kernel_rfl) (by kernel_rfl) ((hsub (.cons _ (.refl _)))) rfl (y_move rfl) rfl ?_
  refine H_y 4 rfl (by kernel_rfl) (by kernel_rfl) (by kernel_rfl) ((hsub (.cons _ (.refl _)))) rfl (y_nilCheck rfl) rfl ?_
  refine H_two 2 5 rfl rfl (by kernel_rfl) rfl rfl ?_ ?_
  · refine op_y (y_load rfl ag_168 (sees 0 0 rfl) rfl) rfl ?_
    refine ⟨(hsub (.cons _ (.refl _))), ?_⟩
    refine H_one 5 rfl (by kernel_rfl) rfl (op_y (y_load rfl ag_168 (sees 0 0 rfl) rfl) rfl ?_)
    refine ⟨(hsub (.cons _ (.refl _))), ?_⟩
    refine H_y 6 rfl (by kernel_rfl) (by kernel_rfl) (by kernel_rfl) ((hsub (.cons _ (.refl _)))) rfl (y_shl rfl rfl (by omega) (show _ = ((v * 2 ^ 13 % 18446744073709551616 : Nat) : Int) from shl_u64)) rfl ?_
    refine H_y 7 rfl (by kernel_rfl) (by kernel_rfl) (by kernel_rfl) ((hsub (.cons _ (.refl _)))) rfl (y_xor rfl rfl (show _ = ((v ^^^ (v * 2 ^ 13 % 18446744073709551616) : Nat) : Int) from bits_xor_u64_nat _ _ (by omega) (by omega))) rfl ?_
    refine H_y 8 rfl (by kernel_rfl) (by kernel_rfl) (by kernel_rfl) ((hsub (.cons _ (.refl _)))) rfl (y_nilCheck rfl) rfl ?_
    refine H_one 9 rfl (by kernel_rfl) rfl (op_store1 0 0 rfl rfl rfl sz_168 rfl (Nat.le_of_ble_eq_true rfl) ?_)
    refine ⟨(hsub (.cons _ (.refl _))), ?_⟩
    refine H_done (by kernel_rfl) ?_
    obtain ⟨v1, hv1⟩ : ∃ z, z = v ^^^ (v * 2 ^ 13 % 18446744073709551616) := ⟨_, rfl⟩
    have hlv1 : v1 < 18446744073709551616 := by rw [hv1]; exact xor_u64 (by omega) (by omega)
    rw [← hv1]
    refine C_seq ?_
    refine C_regionH H (by kernel_rfl) ?_
    refine H_y 0 rfl (by kernel_rfl) (by kernel_rfl) (by kernel_rfl) ((hsub (.cons _ (.refl _)))) rfl (y_move rfl) rfl ?_
    refine H_y 1 rfl (by kernel_rfl) (by kernel_rfl) (by kernel_rfl) ((hsub (.cons _ (.refl _)))) rfl (y_nilCheck rfl) rfl ?_
    refine H_y 3 rfl (by kernel_rfl) (by kernel_rfl) (by kernel_rfl) ((hsub (.cons _ (.refl _)))) rfl (y_move rfl) rfl ?_
    refine H_y 4 rfl (by kernel_rfl) (by kernel_rfl) (by kernel_rfl) ((hsub (.cons _ (.refl _)))) rfl (y_nilCheck rfl) rfl ?_
    refine H_two 2 5 rfl rfl (by kernel_rfl) rfl rfl ?_ ?_
    · refine op_y (y_load rfl ag_168 (sees 0 0 rfl) rfl) rfl ?_
      refine ⟨(hsub (.cons _ (.refl _))), ?_⟩
      refine H_one 5 rfl (by kernel_rfl) rfl (op_y (y_load rfl ag_168 (sees 0 0 rfl) rfl) rfl ?_)
      refine ⟨(hsub (.cons _ (.refl _))), ?_⟩
      refine H_y 6 rfl (by kernel_rfl) (by kernel_rfl) (by kernel_rfl) ((hsub (.cons _ (.refl _)))) rfl (y_shr rfl rfl (by omega) (show _ = ((v1 / 2 ^ 7 : Nat) : Int) from by show Int.fdiv (v1 : Int) (2 ^ 7) = _; rw [Int.fdiv_eq_ediv_of_nonneg _ (by decide)]; omega)) rfl ?_
      refine H_y 7 rfl (by kernel_rfl) (by kernel_rfl) (by kernel_rfl) ((hsub (.cons _ (.refl _)))) rfl (y_xor rfl rfl (show _ = ((v1 ^^^ (v1 / 2 ^ 7) : Nat) : Int) from bits_xor_u64_nat _ _ (by omega) (by omega))) rfl ?_
      refine H_y 8 rfl (by kernel_rfl) (by kernel_rfl) (by kernel_rfl) ((hsub (.cons _ (.refl _)))) rfl (y_nilCheck rfl) rfl ?_
      refine H_one 9 rfl (by kernel_rfl) rfl (op_store1 0 0 rfl rfl rfl sz_168 rfl (Nat.le_of_ble_eq_true rfl) ?_)
      refine ⟨(hsub (.cons _ (.refl _))), ?_⟩
      refine H_done (by kernel_rfl) ?_
      obtain ⟨v2, hv2⟩ : ∃ z, z = v1 ^^^ (v1 / 2 ^ 7) := ⟨_, rfl⟩
      have hlv2 : v2 < 18446744073709551616 := by rw [hv2]; exact xor_u64 (by omega) (by omega)
      rw [← hv2]
      refine C_seq ?_
      refine C_regionH H (by kernel_rfl) ?_
      refine H_y 0 rfl (by kernel_rfl) (by kernel_rfl) (by kernel_rfl) ((hsub (.cons _ (.refl _)))) rfl (y_move rfl) rfl ?_
      refine H_y 1 rfl (by kernel_rfl) (by kernel_rfl) (by kernel_rfl) ((hsub (.cons _ (.refl _)))) rfl (y_nilCheck rfl) rfl ?_
      refine H_y 3 rfl (by kernel_rfl) (by kernel_rfl) (by kernel_rfl) ((hsub (.cons _ (.refl _)))) rfl (y_move rfl) rfl ?_
      refine H_y 4 rfl (by kernel_rfl) (by kernel_rfl) (by kernel_rfl) ((hsub (.cons _ (.refl _)))) rfl (y_nilCheck rfl) rfl ?_
      refine H_two 2 5 rfl rfl (by kernel_rfl) rfl rfl ?_ ?_
      · refine op_y (y_load rfl ag_168 (sees 0 0 rfl) rfl) rfl ?_
        refine ⟨(hsub (.cons _ (.refl _))), ?_⟩
        refine H_one 5 rfl (by kernel_rfl) rfl (op_y (y_load rfl ag_168 (sees 0 0 rfl) rfl) rfl ?_)
        refine ⟨(hsub (.cons _ (.refl _))), ?_⟩
        refine H_y 6 rfl (by kernel_rfl) (by kernel_rfl) (by kernel_rfl) ((hsub (.cons _ (.refl _)))) rfl (y_shl rfl rfl (by omega) (show _ = ((v2 * 2 ^ 17 % 18446744073709551616 : Nat) : Int) from shl_u64)) rfl ?_
        refine H_y 7 rfl (by kernel_rfl) (by kernel_rfl) (by kernel_rfl) ((hsub (.cons _ (.refl _)))) rfl (y_xor rfl rfl (show _ = ((v2 ^^^ (v2 * 2 ^ 17 % 18446744073709551616) : Nat) : Int) from bits_xor_u64_nat _ _ (by omega) (by omega))) rfl ?_
        refine H_y 8 rfl (by kernel_rfl) (by kernel_rfl) (by kernel_rfl) ((hsub (.cons _ (.refl _)))) rfl (y_nilCheck rfl) rfl ?_
        refine H_one 9 rfl (by kernel_rfl) rfl (op_store1 0 0 rfl rfl rfl sz_168 rfl (Nat.le_of_ble_eq_true rfl) ?_)
        refine ⟨(hsub (.cons _ (.refl _))), ?_⟩
        refine H_done (by kernel_rfl) ?_
        obtain ⟨v3, hv3⟩ : ∃ z, z = v2 ^^^ (v2 * 2 ^ 17 % 18446744073709551616) := ⟨_, rfl⟩
        have hlv3 : v3 < 18446744073709551616 := by rw [hv3]; exact xor_u64 (by omega) (by omega)
        rw [← hv3]
        refine C_seq ?_
        refine C_region ?_
        refine L_y rfl (y_move rfl) rfl ?_
        refine L_y rfl (y_nilCheck rfl) rfl ?_
        refine L_y rfl (y_load rfl ag_168 (sees 0 0 rfl) rfl) rfl ?_
        refine L_y rfl (y_assign rfl) rfl ?_
        refine L_nil ?_
        refine C_ret ?_
        refine B_ret (rv_tmp rfl rv_nil) ((hsub (.cons_cons _ (.refl _))).trans (hsub_pick [0] rfl)) ?_
        exact ⟨v3, hlv3, rfl, rfl⟩
      · refine op_y (y_load rfl ag_168 (sees 0 0 rfl) rfl) rfl ?_
        refine ⟨(hsub (.cons _ (.refl _))), ?_⟩
        refine H_y 6 rfl (by kernel_rfl) (by kernel_rfl) (by kernel_rfl) ((hsub (.cons _ (.refl _)))) rfl (y_shl rfl rfl (by omega) (show _ = ((v2 * 2 ^ 17 % 18446744073709551616 : Nat) : Int) from shl_u64)) rfl ?_
        refine H_one 2 rfl (by kernel_rfl) rfl (op_y (y_load rfl ag_168 (sees 0 0 rfl) rfl) rfl ?_)
        refine ⟨(hsub (.cons _ (.refl _))), ?_⟩
        refine H_y 7 rfl (by kernel_rfl) (by kernel_rfl) (by kernel_rfl) ((hsub (.cons _ (.refl _)))) rfl (y_xor rfl rfl (show _ = ((v2 ^^^ (v2 * 2 ^ 17 % 18446744073709551616) : Nat) : Int) from bits_xor_u64_nat _ _ (by omega) (by omega))) rfl ?_
        refine H_y 8 rfl (by kernel_rfl) (by kernel_rfl) (by kernel_rfl) ((hsub (.cons _ (.refl _)))) rfl (y_nilCheck rfl) rfl ?_
        refine H_one 9 rfl (by kernel_rfl) rfl (op_store1 0 0 rfl rfl rfl sz_168 rfl (Nat.le_of_ble_eq_true rfl) ?_)
        refine ⟨(hsub (.cons _ (.refl _))), ?_⟩
        refine H_done (by kernel_rfl) ?_
        obtain ⟨v3, hv3⟩ : ∃ z, z = v2 ^^^ (v2 * 2 ^ 17 % 18446744073709551616) := ⟨_, rfl⟩
        have hlv3 : v3 < 18446744073709551616 := by rw [hv3]; exact xor_u64 (by omega) (by omega)
        rw [← hv3]
        refine C_seq ?_
        refine C_region ?_
        refine L_y rfl (y_move rfl) rfl ?_
        refine L_y rfl (y_nilCheck rfl) rfl ?_
        refine L_y rfl (y_load rfl ag_168 (sees 0 0 rfl) rfl) rfl ?_
        refine L_y rfl (y_assign rfl) rfl ?_
        refine L_nil ?_
        refine C_ret ?_
        refine B_ret (rv_tmp rfl rv_nil) ((hsub (.cons_cons _ (.refl _))).trans (hsub_pick [0] rfl)) ?_
        exact ⟨v3, hlv3, rfl, rfl⟩
    · refine op_y (y_load rfl ag_168 (sees 0 0 rfl) rfl) rfl ?_
      refine ⟨(hsub (.cons _ (.refl _))), ?_⟩
      refine H_y 6 rfl (by kernel_rfl) (by kernel_rfl) (by kernel_rfl) ((hsub (.cons _ (.refl _)))) rfl (y_shr rfl rfl (by omega) (show _ = ((v1 / 2 ^ 7 : Nat) : Int) from by show Int.fdiv (v1 : Int) (2 ^ 7) = _; rw [Int.fdiv_eq_ediv_of_nonneg _ (by decide)]; omega)) rfl ?_
      refine H_one 2 rfl (by kernel_rfl) rfl (op_y (y_load rfl ag_168 (sees 0 0 rfl) rfl) rfl ?_)
      refine ⟨(hsub (.cons _ (.refl _))), ?_⟩
      refine H_y 7 rfl (by kernel_rfl) (by kernel_rfl) (by kernel_rfl) ((hsub (.cons _ (.refl _)))) rfl (y_xor rfl rfl (show _ = ((v1 ^^^ (v1 / 2 ^ 7) : Nat) : Int) from bits_xor_u64_nat _ _ (by omega) (by omega))) rfl ?_
      refine H_y 8 rfl (by kernel_rfl) (by kernel_rfl) (by kernel_rfl) ((hsub (.cons _ (.refl _)))) rfl (y_nilCheck rfl) rfl ?_
      refine H_one 9 rfl (by kernel_rfl) rfl (op_store1 0 0 rfl rfl rfl sz_168 rfl (Nat.le_of_ble_eq_true rfl) ?_)
      refine ⟨(hsub (.cons _ (.refl _))), ?_⟩
      refine H_done (by kernel_rfl) ?_
      obtain ⟨v2, hv2⟩ : ∃ z, z = v1 ^^^ (v1 / 2 ^ 7) := ⟨_, rfl⟩
      have hlv2 : v2 < 18446744073709551616 := by rw [hv2]; exact xor_u64 (by omega) (by omega)
      rw [← hv2]
      refine C_seq ?_
      refine C_regionH H (by kernel_rfl) ?_
      refine H_y 0 rfl (by kernel_rfl) (by kernel_rfl) (by kernel_rfl) ((hsub (.cons _ (.refl _)))) rfl (y_move rfl) rfl ?_
      refine H_y 1 rfl (by kernel_rfl) (by kernel_rfl) (by kernel_rfl) ((hsub (.cons _ (.refl _)))) rfl (y_nilCheck rfl) rfl ?_
      refine H_y 3 rfl (by kernel_rfl) (by kernel_rfl) (by kernel_rfl) ((hsub (.cons _ (.refl _)))) rfl (y_move rfl) rfl ?_
      refine H_y 4 rfl (by kernel_rfl) (by kernel_rfl) (by kernel_rfl) ((hsub (.cons _ (.refl _)))) rfl (y_nilCheck rfl) rfl ?_
      refine H_two 2 5 rfl rfl (by kernel_rfl) rfl rfl ?_ ?_
      · refine op_y (y_load rfl ag_168 (sees 0 0 rfl) rfl) rfl ?_
        refine ⟨(hsub (.cons _ (.refl _))), ?_⟩
        refine H_one 5 rfl (by kernel_rfl) rfl (op_y (y_load rfl ag_168 (sees 0 0 rfl) rfl) rfl ?_)
        refine ⟨(hsub (.cons _ (.refl _))), ?_⟩
        refine H_y 6 rfl (by kernel_rfl) (by kernel_rfl) (by kernel_rfl) ((hsub (.cons _ (.refl _)))) rfl (y_shl rfl rfl (by omega) (show _ = ((v2 * 2 ^ 17 % 18446744073709551616 : Nat) : Int) from shl_u64)) rfl ?_
        refine H_y 7 rfl (by kernel_rfl) (by kernel_rfl) (by kernel_rfl) ((hsub (.cons _ (.refl _)))) rfl (y_xor rfl rfl (show _ = ((v2 ^^^ (v2 * 2 ^ 17 % 18446744073709551616) : Nat) : Int) from bits_xor_u64_nat _ _ (by omega) (by omega))) rfl ?_
        refine H_y 8 rfl (by kernel_rfl) (by kernel_rfl) (by kernel_rfl) ((hsub (.cons _ (.refl _)))) rfl (y_nilCheck rfl) rfl ?_
        refine H_one 9 rfl (by kernel_rfl) rfl (op_store1 0 0 rfl rfl rfl sz_168 rfl (Nat.le_of_ble_eq_true rfl) ?_)
        refine ⟨(hsub (.cons _ (.refl _))), ?_⟩
        refine H_done (by kernel_rfl) ?_
        obtain ⟨v3, hv3⟩ : ∃ z, z = v2 ^^^ (v2 * 2 ^ 17 % 18446744073709551616) := ⟨_, rfl⟩
        have hlv3 : v3 < 18446744073709551616 := by rw [hv3]; exact xor_u64 (by omega) (by omega)
        rw [← hv3]
        refine C_seq ?_
        refine C_region ?_
        refine L_y rfl (y_move rfl) rfl ?_
        refine L_y rfl (y_nilCheck rfl) rfl ?_
        refine L_y rfl (y_load rfl ag_168 (sees 0 0 rfl) rfl) rfl ?_
        refine L_y rfl (y_assign rfl) rfl ?_
        refine L_nil ?_
        refine C_ret ?_
        refine B_ret (rv_tmp rfl rv_nil) ((hsub (.cons_cons _ (.refl _))).trans (hsub_pick [0] rfl)) ?_
        exact ⟨v3, hlv3, rfl, rfl⟩
      · refine op_y (y_load rfl ag_168 (sees 0 0 rfl) rfl) rfl ?_
        refine ⟨(hsub (.cons _ (.refl _))), ?_⟩
        refine H_y 6 rfl (by kernel_rfl) (by kernel_rfl) (by kernel_rfl) ((hsub (.cons _ (.refl _)))) rfl (y_shl rfl rfl (by omega) (show _ = ((v2 * 2 ^ 17 % 18446744073709551616 : Nat) : Int) from shl_u64)) rfl ?_
        refine H_one 2 rfl (by kernel_rfl) rfl (op_y (y_load rfl ag_168 (sees 0 0 rfl) rfl) rfl ?_)
        refine ⟨(hsub (.cons _ (.refl _))), ?_⟩
        refine H_y 7 rfl (by kernel_rfl) (by kernel_rfl) (by kernel_rfl) ((hsub (.cons _ (.refl _)))) rfl (y_xor rfl rfl (show _ = ((v2 ^^^ (v2 * 2 ^ 17 % 18446744073709551616) : Nat) : Int) from bits_xor_u64_nat _ _ (by omega) (by omega))) rfl ?_
        refine H_y 8 rfl (by kernel_rfl) (by kernel_rfl) (by kernel_rfl) ((hsub (.cons _ (.refl _)))) rfl (y_nilCheck rfl) rfl ?_
        refine H_one 9 rfl (by kernel_rfl) rfl (op_store1 0 0 rfl rfl rfl sz_168 rfl (Nat.le_of_ble_eq_true rfl) ?_)
        refine ⟨(hsub (.cons _ (.refl _))), ?_⟩
        refine H_done (by kernel_rfl) ?_
        obtain ⟨v3, hv3⟩ : ∃ z, z = v2 ^^^ (v2 * 2 ^ 17 % 18446744073709551616) := ⟨_, rfl⟩
        have hlv3 : v3 < 18446744073709551616 := by rw [hv3]; exact xor_u64 (by omega) (by omega)
        rw [← hv3]
        refine C_seq ?_
        refine C_region ?_
        refine L_y rfl (y_move rfl) rfl ?_
        refine L_y rfl (y_nilCheck rfl) rfl ?_
        refine L_y rfl (y_load rfl ag_168 (sees 0 0 rfl) rfl) rfl ?_
        refine L_y rfl (y_assign rfl) rfl ?_
        refine L_nil ?_
        refine C_ret ?_
        refine B_ret (rv_tmp rfl rv_nil) ((hsub (.cons_cons _ (.refl _))).trans (hsub_pick [0] rfl)) ?_
        exact ⟨v3, hlv3, rfl, rfl⟩
  · refine op_y (y_load rfl ag_168 (sees 0 0 rfl) rfl) rfl ?_
    refine ⟨(hsub (.cons _ (.refl _))), ?_⟩
    refine H_y 6 rfl (by kernel_rfl) (by kernel_rfl) (by kernel_rfl) ((hsub (.cons _ (.refl _)))) rfl (y_shl rfl rfl (by omega) (show _ = ((v * 2 ^ 13 % 18446744073709551616 : Nat) : Int) from shl_u64)) rfl ?_
    refine H_one 2 rfl (by kernel_rfl) rfl (op_y (y_load rfl ag_168 (sees 0 0 rfl) rfl) rfl ?_)
    refine ⟨(hsub (.cons _ (.refl _))), ?_⟩
    refine H_y 7 rfl (by kernel_rfl) (by kernel_rfl) (by kernel_rfl) ((hsub (.cons _ (.refl _)))) rfl (y_xor rfl rfl (show _ = ((v ^^^ (v * 2 ^ 13 % 18446744073709551616) : Nat) : Int) from bits_xor_u64_nat _ _ (by omega) (by omega))) rfl ?_
    refine H_y 8 rfl (by kernel_rfl) (by kernel_rfl) (by kernel_rfl) ((hsub (.cons _ (.refl _)))) rfl (y_nilCheck rfl) rfl ?_
    refine H_one 9 rfl (by kernel_rfl) rfl (op_store1 0 0 rfl rfl rfl sz_168 rfl (Nat.le_of_ble_eq_true rfl) ?_)
    refine ⟨(hsub (.cons _ (.refl _))), ?_⟩
    refine H_done (by kernel_rfl) ?_
    obtain ⟨v1, hv1⟩ : ∃ z, z = v ^^^ (v * 2 ^ 13 % 18446744073709551616) := ⟨_, rfl⟩
    have hlv1 : v1 < 18446744073709551616 := by rw [hv1]; exact xor_u64 (by omega) (by omega)
    rw [← hv1]
    refine C_seq ?_
    refine C_regionH H (by kernel_rfl) ?_
    refine H_y 0 rfl (by kernel_rfl) (by kernel_rfl) (by kernel_rfl) ((hsub (.cons _ (.refl _)))) rfl (y_move rfl) rfl ?_
    refine H_y 1 rfl (by kernel_rfl) (by kernel_rfl) (by kernel_rfl) ((hsub (.cons _ (.refl _)))) rfl (y_nilCheck rfl) rfl ?_
    refine H_y 3 rfl (by kernel_rfl) (by kernel_rfl) (by kernel_rfl) ((hsub (.cons _ (.refl _)))) rfl (y_move rfl) rfl ?_
    refine H_y 4 rfl (by kernel_rfl) (by kernel_rfl) (by kernel_rfl) ((hsub (.cons _ (.refl _)))) rfl (y_nilCheck rfl) rfl ?_
    refine H_two 2 5 rfl rfl (by kernel_rfl) rfl rfl ?_ ?_
    · refine op_y (y_load rfl ag_168 (sees 0 0 rfl) rfl) rfl ?_
      refine ⟨(hsub (.cons _ (.refl _))), ?_⟩
      refine H_one 5 rfl (by kernel_rfl) rfl (op_y (y_load rfl ag_168 (sees 0 0 rfl) rfl) rfl ?_)
      refine ⟨(hsub (.cons _ (.refl _))), ?_⟩
      refine H_y 6 rfl (by kernel_rfl) (by kernel_rfl) (by kernel_rfl) ((hsub (.cons _ (.refl _)))) rfl (y_shr rfl rfl (by omega) (show _ = ((v1 / 2 ^ 7 : Nat) : Int) from by show Int.fdiv (v1 : Int) (2 ^ 7) = _; rw [Int.fdiv_eq_ediv_of_nonneg _ (by decide)]; omega)) rfl ?_
      refine H_y 7 rfl (by kernel_rfl) (by kernel_rfl) (by kernel_rfl) ((hsub (.cons _ (.refl _)))) rfl (y_xor rfl rfl (show _ = ((v1 ^^^ (v1 / 2 ^ 7) : Nat) : Int) from bits_xor_u64_nat _ _ (by omega) (by omega))) rfl ?_
      refine H_y 8 rfl (by kernel_rfl) (by kernel_rfl) (by kernel_rfl) ((hsub (.cons _ (.refl _)))) rfl (y_nilCheck rfl) rfl ?_
      refine H_one 9 rfl (by kernel_rfl) rfl (op_store1 0 0 rfl rfl rfl sz_168 rfl (Nat.le_of_ble_eq_true rfl) ?_)
      refine ⟨(hsub (.cons _ (.refl _))), ?_⟩
      refine H_done (by kernel_rfl) ?_
      obtain ⟨v2, hv2⟩ : ∃ z, z = v1 ^^^ (v1 / 2 ^ 7) := ⟨_, rfl⟩
      have hlv2 : v2 < 18446744073709551616 := by rw [hv2]; exact xor_u64 (by omega) (by omega)
      rw [← hv2]
      refine C_seq ?_
      refine C_regionH H (by kernel_rfl) ?_
      refine H_y 0 rfl (by kernel_rfl) (by kernel_rfl) (by kernel_rfl) ((hsub (.cons _ (.refl _)))) rfl (y_move rfl) rfl ?_
      refine H_y 1 rfl (by kernel_rfl) (by kernel_rfl) (by kernel_rfl) ((hsub (.cons _ (.refl _)))) rfl (y_nilCheck rfl) rfl ?_
      refine H_y 3 rfl (by kernel_rfl) (by kernel_rfl) (by kernel_rfl) ((hsub (.cons _ (.refl _)))) rfl (y_move rfl) rfl ?_
      refine H_y 4 rfl (by kernel_rfl) (by kernel_rfl) (by kernel_rfl) ((hsub (.cons _ (.refl _)))) rfl (y_nilCheck rfl) rfl ?_
      refine H_two 2 5 rfl rfl (by kernel_rfl) rfl rfl ?_ ?_
      · refine op_y (y_load rfl ag_168 (sees 0 0 rfl) rfl) rfl ?_
        refine ⟨(hsub (.cons _ (.refl _))), ?_⟩
        refine H_one 5 rfl (by kernel_rfl) rfl (op_y (y_load rfl ag_168 (sees 0 0 rfl) rfl) rfl ?_)
        refine ⟨(hsub (.cons _ (.refl _))), ?_⟩
        refine H_y 6 rfl (by kernel_rfl) (by kernel_rfl) (by kernel_rfl) ((hsub (.cons _ (.refl _)))) rfl (y_shl rfl rfl (by omega) (show _ = ((v2 * 2 ^ 17 % 18446744073709551616 : Nat) : Int) from shl_u64)) rfl ?_
        refine H_y 7 rfl (by kernel_rfl) (by kernel_rfl) (by kernel_rfl) ((hsub (.cons _ (.refl _)))) rfl (y_xor rfl rfl (show _ = ((v2 ^^^ (v2 * 2 ^ 17 % 18446744073709551616) : Nat) : Int) from bits_xor_u64_nat _ _ (by omega) (by omega))) rfl ?_
        refine H_y 8 rfl (by kernel_rfl) (by kernel_rfl) (by kernel_rfl) ((hsub (.cons _ (.refl _)))) rfl (y_nilCheck rfl) rfl ?_
        refine H_one 9 rfl (by kernel_rfl) rfl (op_store1 0 0 rfl rfl rfl sz_168 rfl (Nat.le_of_ble_eq_true rfl) ?_)
        refine ⟨(hsub (.cons _ (.refl _))), ?_⟩
        refine H_done (by kernel_rfl) ?_
        obtain ⟨v3, hv3⟩ : ∃ z, z = v2 ^^^ (v2 * 2 ^ 17 % 18446744073709551616) := ⟨_, rfl⟩
        have hlv3 : v3 < 18446744073709551616 := by rw [hv3]; exact xor_u64 (by omega) (by omega)
        rw [← hv3]
        refine C_seq ?_
        refine C_region ?_
        refine L_y rfl (y_move rfl) rfl ?_
        refine L_y rfl (y_nilCheck rfl) rfl ?_
        refine L_y rfl (y_load rfl ag_168 (sees 0 0 rfl) rfl) rfl ?_
        refine L_y rfl (y_assign rfl) rfl ?_
        refine L_nil ?_
        refine C_ret ?_
        refine B_ret (rv_tmp rfl rv_nil) ((hsub (.cons_cons _ (.refl _))).trans (hsub_pick [0] rfl)) ?_
        exact ⟨v3, hlv3, rfl, rfl⟩
      · refine op_y (y_load rfl ag_168 (sees 0 0 rfl) rfl) rfl ?_
        refine ⟨(hsub (.cons _ (.refl _))), ?_⟩
        refine H_y 6 rfl (by kernel_rfl) (by kernel_rfl) (by kernel_rfl) ((hsub (.cons _ (.refl _)))) rfl (y_shl rfl rfl (by omega) (show _ = ((v2 * 2 ^ 17 % 18446744073709551616 : Nat) : Int) from shl_u64)) rfl ?_
        refine H_one 2 rfl (by kernel_rfl) rfl (op_y (y_load rfl ag_168 (sees 0 0 rfl) rfl) rfl ?_)
        refine ⟨(hsub (.cons _ (.refl _))), ?_⟩
        refine H_y 7 rfl (by kernel_rfl) (by kernel_rfl) (by kernel_rfl) ((hsub (.cons _ (.refl _)))) rfl (y_xor rfl rfl (show _ = ((v2 ^^^ (v2 * 2 ^ 17 % 18446744073709551616) : Nat) : Int) from bits_xor_u64_nat _ _ (by omega) (by omega))) rfl ?_
        refine H_y 8 rfl (by kernel_rfl) (by kernel_rfl) (by kernel_rfl) ((hsub (.cons _ (.refl _)))) rfl (y_nilCheck rfl) rfl ?_
        refine H_one 9 rfl (by kernel_rfl) rfl (op_store1 0 0 rfl rfl rfl sz_168 rfl (Nat.le_of_ble_eq_true rfl) ?_)
        refine ⟨(hsub (.cons _ (.refl _))), ?_⟩
        refine H_done (by kernel_rfl) ?_
        obtain ⟨v3, hv3⟩ : ∃ z, z = v2 ^^^ (v2 * 2 ^ 17 % 18446744073709551616) := ⟨_, rfl⟩
        have hlv3 : v3 < 18446744073709551616 := by rw [hv3]; exact xor_u64 (by omega) (by omega)
        rw [← hv3]
        refine C_seq ?_
        refine C_region ?_
        refine L_y rfl (y_move rfl) rfl ?_
        refine L_y rfl (y_nilCheck rfl) rfl ?_
        refine L_y rfl (y_load rfl ag_168 (sees 0 0 rfl) rfl) rfl ?_
        refine L_y rfl (y_assign rfl) rfl ?_
        refine L_nil ?_
        refine C_ret ?_
        refine B_ret (rv_tmp rfl rv_nil) ((hsub (.cons_cons _ (.refl _))).trans (hsub_pick [0] rfl)) ?_
        exact ⟨v3, hlv3, rfl, rfl⟩
    · refine op_y (y_load rfl ag_168 (sees 0 0 rfl) rfl) rfl ?_
      refine ⟨(hsub (.cons _ (.refl _))), ?_⟩
      refine H_y 6 rfl (by kernel_rfl) (by kernel_rfl) (by kernel_rfl) ((hsub (.cons _ (.refl _)))) rfl (y_shr rfl rfl (by omega) (show _ = ((v1 / 2 ^ 7 : Nat) : Int) from by show Int.fdiv (v1 : Int) (2 ^ 7) = _; rw [Int.fdiv_eq_ediv_of_nonneg _ (by decide)]; omega)) rfl ?_
      refine H_one 2 rfl (by kernel_rfl) rfl (op_y (y_load rfl ag_168 (sees 0 0 rfl) rfl) rfl ?_)
      refine ⟨(hsub (.cons _ (.refl _))), ?_⟩
      refine H_y 7 rfl (by kernel_rfl) (by kernel_rfl) (by kernel_rfl) ((hsub (.cons _ (.refl _)))) rfl (y_xor rfl rfl (show _ = ((v1 ^^^ (v1 / 2 ^ 7) : Nat) : Int) from bits_xor_u64_nat _ _ (by omega) (by omega))) rfl ?_
      refine H_y 8 rfl (by kernel_rfl) (by kernel_rfl) (by kernel_rfl) ((hsub (.cons _ (.refl _)))) rfl (y_nilCheck rfl) rfl ?_
      refine H_one 9 rfl (by kernel_rfl) rfl (op_store1 0 0 rfl rfl rfl sz_168 rfl (Nat.le_of_ble_eq_true rfl) ?_)
      refine ⟨(hsub (.cons _ (.refl _))), ?_⟩
      refine H_done (by kernel_rfl) ?_
      obtain ⟨v2, hv2⟩ : ∃ z, z = v1 ^^^ (v1 / 2 ^ 7) := ⟨_, rfl⟩
      have hlv2 : v2 < 18446744073709551616 := by rw [hv2]; exact xor_u64 (by omega) (by omega)
      rw [← hv2]
      refine C_seq ?_
      refine C_regionH H (by kernel_rfl) ?_
      refine H_y 0 rfl (by kernel_rfl) (by kernel_rfl) (by kernel_rfl) ((hsub (.cons _ (.refl _)))) rfl (y_move rfl) rfl ?_
      refine H_y 1 rfl (by kernel_rfl) (by kernel_rfl) (by kernel_rfl) ((hsub (.cons _ (.refl _)))) rfl (y_nilCheck rfl) rfl ?_
      refine H_y 3 rfl (by kernel_rfl) (by kernel_rfl) (by kernel_rfl) ((hsub (.cons _ (.refl _)))) rfl (y_move rfl) rfl ?_
      refine H_y 4 rfl (by kernel_rfl) (by kernel_rfl) (by kernel_rfl) ((hsub (.cons _ (.refl _)))) rfl (y_nilCheck rfl) rfl ?_
      refine H_two 2 5 rfl rfl (by kernel_rfl) rfl rfl ?_ ?_
      · refine op_y (y_load rfl ag_168 (sees 0 0 rfl) rfl) rfl ?_
        refine ⟨(hsub (.cons _ (.refl _))), ?_⟩
        refine H_one 5 rfl (by kernel_rfl) rfl (op_y (y_load rfl ag_168 (sees 0 0 rfl) rfl) rfl ?_)
        refine ⟨(hsub (.cons _ (.refl _))), ?_⟩
        refine H_y 6 rfl (by kernel_rfl) (by kernel_rfl) (by kernel_rfl) ((hsub (.cons _ (.refl _)))) rfl (y_shl rfl rfl (by omega) (show _ = ((v2 * 2 ^ 17 % 18446744073709551616 : Nat) : Int) from shl_u64)) rfl ?_
        refine H_y 7 rfl (by kernel_rfl) (by kernel_rfl) (by kernel_rfl) ((hsub (.cons _ (.refl _)))) rfl (y_xor rfl rfl (show _ = ((v2 ^^^ (v2 * 2 ^ 17 % 18446744073709551616) : Nat) : Int) from bits_xor_u64_nat _ _ (by omega) (by omega))) rfl ?_
        refine H_y 8 rfl (by kernel_rfl) (by kernel_rfl) (by kernel_rfl) ((hsub (.cons _ (.refl _)))) rfl (y_nilCheck rfl) rfl ?_
        refine H_one 9 rfl (by kernel_rfl) rfl (op_store1 0 0 rfl rfl rfl sz_168 rfl (Nat.le_of_ble_eq_true rfl) ?_)
        refine ⟨(hsub (.cons _ (.refl _))), ?_⟩
        refine H_done (by kernel_rfl) ?_
        obtain ⟨v3, hv3⟩ : ∃ z, z = v2 ^^^ (v2 * 2 ^ 17 % 18446744073709551616) := ⟨_, rfl⟩
        have hlv3 : v3 < 18446744073709551616 := by rw [hv3]; exact xor_u64 (by omega) (by omega)
        rw [← hv3]
        refine C_seq ?_
        refine C_region ?_
        refine L_y rfl (y_move rfl) rfl ?_
        refine L_y rfl (y_nilCheck rfl) rfl ?_
        refine L_y rfl (y_load rfl ag_168 (sees 0 0 rfl) rfl) rfl ?_
        refine L_y rfl (y_assign rfl) rfl ?_
        refine L_nil ?_
        refine C_ret ?_
        refine B_ret (rv_tmp rfl rv_nil) ((hsub (.cons_cons _ (.refl _))).trans (hsub_pick [0] rfl)) ?_
        exact ⟨v3, hlv3, rfl, rfl⟩
      · refine op_y (y_load rfl ag_168 (sees 0 0 rfl) rfl) rfl ?_
        refine ⟨(hsub (.cons _ (.refl _))), ?_⟩
        refine H_y 6 rfl (by kernel_rfl) (by kernel_rfl) (by kernel_rfl) ((hsub (.cons _ (.refl _)))) rfl (y_shl rfl rfl (by omega) (show _ = ((v2 * 2 ^ 17 % 18446744073709551616 : Nat) : Int) from shl_u64)) rfl ?_
        refine H_one 2 rfl (by kernel_rfl) rfl (op_y (y_load rfl ag_168 (sees 0 0 rfl) rfl) rfl ?_)
        refine ⟨(hsub (.cons _ (.refl _))), ?_⟩
        refine H_y 7 rfl (by kernel_rfl) (by kernel_rfl) (by kernel_rfl) ((hsub (.cons _ (.refl _)))) rfl (y_xor rfl rfl (show _ = ((v2 ^^^ (v2 * 2 ^ 17 % 18446744073709551616) : Nat) : Int) from bits_xor_u64_nat _ _ (by omega) (by omega))) rfl ?_
        refine H_y 8 rfl (by kernel_rfl) (by kernel_rfl) (by kernel_rfl) ((hsub (.cons _ (.refl _)))) rfl (y_nilCheck rfl) rfl ?_
        refine H_one 9 rfl (by kernel_rfl) rfl (op_store1 0 0 rfl rfl rfl sz_168 rfl (Nat.le_of_ble_eq_true rfl) ?_)
        refine ⟨(hsub (.cons _ (.refl _))), ?_⟩
        refine H_done (by kernel_rfl) ?_
        obtain ⟨v3, hv3⟩ : ∃ z, z = v2 ^^^ (v2 * 2 ^ 17 % 18446744073709551616) := ⟨_, rfl⟩
        have hlv3 : v3 < 18446744073709551616 := by rw [hv3]; exact xor_u64 (by omega) (by omega)
        rw [← hv3]
        refine C_seq ?_
        refine C_region ?_
        refine L_y rfl (y_move rfl) rfl ?_
        refine L_y rfl (y_nilCheck rfl) rfl ?_
        refine L_y rfl (y_load rfl ag_168 (sees 0 0 rfl) rfl) rfl ?_
        refine L_y rfl (y_assign rfl) rfl ?_
        refine L_nil ?_
        refine C_ret ?_
        refine B_ret (rv_tmp rfl rv_nil) ((hsub (.cons_cons _ (.refl _))).trans (hsub_pick [0] rfl)) ?_
        exact ⟨v3, hlv3, rfl, rfl⟩

set_option maxHeartbeats 2000000 in

theorem break_u {w0 : World} {H : Hp} {sb n cap : Nat} {sp : List Value} (d : Array Nat) (hd : d.size = n) (hn : n < 65536) (a b : Nat) (hab : 12 < b - a) (hb : b ≤ n) : FnS Try.prog w0 85 #[(.slice (some ⟨sb, 0, none⟩) n cap), .int .i64 ((a : Nat) : Int), .int .i64 ((b : Nat) : Int)] (useg 48 sb d sp :: H) (fun e H' => ∃ d', Go.Sort.PermIn a b d d' ∧ e = .returned (.tuple #[]) ∧ H' = useg 48 sb d' sp :: H) := by
  obtain ⟨hp1, hp2, hp3⟩ := pow_bits (x := b - a) (by omega) (by omega)
  have hbl := bits_le (show b - a < 65536 by omega)
  refine FnS_intro (n := 65) (rs := []) (vs := [(.slice (some ⟨sb, 0, none⟩) n cap), .int .i64 ((a : Nat) : Int), .int .i64 ((b : Nat) : Int)]) Try.func85 rfl Try.ntmps85 rfl rfl ?_
  refine C_seq ?_
  refine C_region ?_
  refine L_y rfl (y_move rfl) rfl ?_
  refine L_y rfl (y_move rfl) rfl ?_
  refine L_y rfl (y_sub rfl rfl (show _ = ((b - a : Nat) : Int) from by rw [wi64 (by omega) (by omega)]; omega)) rfl ?_
  refine L_y rfl (y_assign rfl) rfl ?_
  refine L_nil ?_
  refine C_seq ?_
  refine C_region ?_
  refine L_y rfl (y_move rfl) rfl ?_
  refine L_y rfl (y_geq rfl rfl) rfl ?_
  refine L_nil ?_
  refine C_cond rfl (fun hc0 => ?_) (fun hc0 => absurd hc0 (by simp <;> omega))
  refine C_seq ?_
  refine C_region ?_
  refine L_y rfl (y_move rfl) rfl ?_
  refine L_y rfl (y_conv rfl us_3 Try.underlying168 (show _ = ((b - a : Nat) : Int) from wu64 (by omega) (by omega))) rfl ?_
  refine L_op rfl (op_alloc zl_168 rfl (fun B1 => ?_))
  refine L_op rfl (op_store1 0 0 rfl rfl rfl sz_168 rfl (Nat.le_of_ble_eq_true rfl) ?_)
  refine L_nil ?_
  refine C_seq ?_
  refine C_region ?_
  refine L_y rfl (y_move rfl) rfl ?_
  refine L_op rfl (op_call rfl rfl (fun a w => Try.call97 a w) rfl ?_)
  refine (npow_u (b - a) (by omega)).mono ?_
  rintro _ _ ⟨rfl, e⟩
  obtain rfl := e.symm
  clear e
  refine ⟨_, rfl, ?_⟩
  refine L_y rfl (y_assign rfl) rfl ?_
  refine L_nil ?_
  refine C_seq ?_
  refine C_region ?_
  refine L_y rfl (y_move rfl) rfl ?_
  refine L_y rfl (y_move rfl) rfl ?_
  refine L_y rfl (y_quo rfl rfl (by omega) (show _ = (((b - a) / 4 : Nat) : Int) from by rw [Int.tdiv_eq_ediv_of_nonneg (by omega), wi64 (by omega) (by omega)]; omega)) rfl ?_
  refine L_y rfl (y_mul rfl rfl (show _ = (((b - a) / 4 * 2 : Nat) : Int) from by rw [wi64 (by omega) (by omega)]; omega)) rfl ?_
  refine L_y rfl (y_add rfl rfl (show _ = ((a + (b - a) / 4 * 2 : Nat) : Int) from by rw [wi64 (by omega) (by omega)]; omega)) rfl ?_
  refine L_y rfl (y_sub rfl rfl (show _ = ((a + (b - a) / 4 * 2 - 1 : Nat) : Int) from by rw [wi64 (by omega) (by omega)]; omega)) rfl ?_
  refine L_y rfl (y_assign rfl) rfl ?_
  refine L_nil ?_
  refine C_block ?_
  refine C_loop (ι := Array Nat × Nat × Nat) (fun y => [(0, (.slice (some ⟨sb, 0, none⟩) n cap)), (1, .int .i64 ((a : Nat) : Int)), (2, .int .i64 ((b : Nat) : Int)), (6, .int .i64 ((b - a : Nat) : Int)), (7, ptr B1), (8, .int .u64 ((2 ^ Go.Sort.bitsLen (b - a) : Nat) : Int)), (9, .int .i64 ((y.2.2 : Nat) : Int))]) (fun y => useg 48 sb y.1 sp :: [(B1, .cells [Value.int .u64 ((y.2.1 : Nat) : Int)].toArray 168)] :: H) (fun y => Go.Sort.PermIn a b d y.1 ∧ y.2.1 < 18446744073709551616 ∧ a ≤ y.2.2 ∧ y.2.2 ≤ a + (b - a) / 4 * 2 + 2) (fun y => a + (b - a) / 4 * 2 + 2 - y.2.2) (d, b - a, a + (b - a) / 4 * 2 - 1) ⟨Go.Sort.permIn_refl _ _ _, by simp only; omega, by simp only; omega, by simp only; omega⟩ ⟨rfl, rfl, rfl, rfl, rfl, rfl, rfl, trivial⟩ ((hsub (.cons_cons _ (.cons_cons _ (.refl _)))).trans (hsub_pick [1, 0] rfl)) (fun y hy => ?_)
  obtain ⟨e1, v, q⟩ := y
  obtain ⟨hpe, hv, hq1, hq2⟩ := hy
  try simp only at hpe hv hq1 hq2
  try dsimp only
  have hse : e1.size = n := by rw [hpe.1]; exact hd
  refine C_seq ?_
  refine C_seq ?_
  refine C_region ?_
  refine L_y rfl (y_move rfl) rfl ?_
  refine L_y rfl (y_move rfl) rfl ?_
  refine L_y rfl (y_move rfl) rfl ?_
  refine L_y rfl (y_quo rfl rfl (by omega) (show _ = (((b - a) / 4 : Nat) : Int) from by rw [Int.tdiv_eq_ediv_of_nonneg (by omega), wi64 (by omega) (by omega)]; omega)) rfl ?_
  refine L_y rfl (y_mul rfl rfl (show _ = (((b - a) / 4 * 2 : Nat) : Int) from by rw [wi64 (by omega) (by omega)]; omega)) rfl ?_
  refine L_y rfl (y_add rfl rfl (show _ = ((a + (b - a) / 4 * 2 : Nat) : Int) from by rw [wi64 (by omega) (by omega)]; omega)) rfl ?_
  refine L_y rfl (y_add rfl rfl (show _ = ((a + (b - a) / 4 * 2 + 1 : Nat) : Int) from by rw [wi64 (by omega) (by omega)]; omega)) rfl ?_
  refine L_y rfl (y_leq rfl rfl) rfl ?_
  refine L_nil ?_
  refine C_cond rfl (fun hc1 => ?_) (fun hc1 => ?_)
  · replace hc1 : q ≤ a + (b - a) / 4 * 2 + 1 := by have := of_decide_eq_true hc1; omega
    refine C_skip ?_
    refine C_seq ?_
    refine C_block ?_
    refine C_seq ?_
    refine C_region ?_
    refine L_op rfl (op_call rfl rfl (fun a w => Try.call98 a w) rfl ?_)
    refine (FnS.sub (hsub_pick [1] rfl) (xnext_u v hv)).mono ?_
    rintro _ _ ⟨v', hv', rfl, rfl⟩
    refine ⟨_, rfl, ?_⟩
    refine L_y rfl (y_move rfl) rfl ?_
    refine L_y rfl (y_sub rfl rfl (show _ = ((2 ^ Go.Sort.bitsLen (b - a) - 1 : Nat) : Int) from by rw [wu64 (by omega) (by omega)]; omega)) rfl ?_
    refine L_y rfl (y_and rfl rfl (show _ = ((v' &&& (2 ^ Go.Sort.bitsLen (b - a) - 1) : Nat) : Int) from bits_and_u64_nat _ _ (by omega) (by omega))) rfl ?_
    have hand : v' &&& (2 ^ Go.Sort.bitsLen (b - a) - 1) ≤ 2 ^ Go.Sort.bitsLen (b - a) - 1 := Nat.and_le_right
    obtain ⟨o0, ho0⟩ : ∃ z, z = v' &&& (2 ^ Go.Sort.bitsLen (b - a) - 1) := ⟨_, rfl⟩
    rw [← ho0] at hand ⊢
    refine L_y rfl (y_conv rfl us_144 Try.underlying3 (show _ = ((o0 : Nat) : Int) from by rw [wi64 (by omega) (by omega)])) rfl ?_
    refine L_y rfl (y_assign rfl) rfl ?_
    refine L_nil ?_
    refine C_cutG (ι := Nat) (fun w => w < b - a) (fun w => [(0, (.slice (some ⟨sb, 0, none⟩) n cap)), (1, .int .i64 ((a : Nat) : Int)), (2, .int .i64 ((b : Nat) : Int)), (6, .int .i64 ((b - a : Nat) : Int)), (7, ptr B1), (8, .int .u64 ((2 ^ Go.Sort.bitsLen (b - a) : Nat) : Int)), (9, .int .i64 ((q : Nat) : Int)), (10, .int .i64 ((w : Nat) : Int))]) (fun w => useg 48 sb e1 sp :: [(B1, .cells [Value.int .u64 ((v' : Nat) : Int)].toArray 168)] :: H) ?_ (fun w hw => ?_)
    · refine C_seq ?_
      refine C_region ?_
      refine L_y rfl (y_move rfl) rfl ?_
      refine L_y rfl (y_move rfl) rfl ?_
      refine L_y rfl (y_geq rfl rfl) rfl ?_
      refine L_nil ?_
      refine C_cond rfl (fun hc2 => ?_) (fun hc2 => ?_)
      · replace hc2 : b - a ≤ o0 := by have := of_decide_eq_true hc2; omega
        refine C_region ?_
        refine L_y rfl (y_move rfl) rfl ?_
        refine L_y rfl (y_move rfl) rfl ?_
        refine L_y rfl (y_sub rfl rfl (show _ = ((o0 - (b - a) : Nat) : Int) from by rw [wi64 (by omega) (by omega)]; omega)) rfl ?_
        refine L_y rfl (y_assign rfl) rfl ?_
        refine L_nil ?_
        exact ⟨_, (by omega), ⟨rfl, rfl, rfl, rfl, rfl, rfl, rfl, rfl, trivial⟩, ((hsub (.cons_cons _ (.cons_cons _ (.refl _)))).trans (hsub_pick [1, 0] rfl))⟩
      · replace hc2 : ¬ b - a ≤ o0 := by have := of_decide_eq_false hc2; omega
        refine C_skip ?_
        exact ⟨_, (by omega), ⟨rfl, rfl, rfl, rfl, rfl, rfl, rfl, rfl, trivial⟩, ((hsub (.cons_cons _ (.cons_cons _ (.refl _)))).trans (hsub_pick [1, 0] rfl))⟩
    · try dsimp only at hw ⊢
      refine C_regionH ([(B1, .cells [Value.int .u64 ((v' : Nat) : Int)].toArray 168)] :: H) (by kernel_rfl) ?_
      refine H_y 0 rfl (by kernel_rfl) (by kernel_rfl) (by kernel_rfl) ((hsub (.cons _ (.refl _)))) rfl (y_move rfl) rfl ?_
      refine H_y 1 rfl (by kernel_rfl) (by kernel_rfl) (by kernel_rfl) ((hsub (.cons _ (.refl _)))) rfl (y_move rfl) rfl ?_
      refine H_y 2 rfl (by kernel_rfl) (by kernel_rfl) (by kernel_rfl) ((hsub (.cons _ (.refl _)))) rfl (y_move rfl) rfl ?_
      refine H_y 3 rfl (by kernel_rfl) (by kernel_rfl) (by kernel_rfl) ((hsub (.cons _ (.refl _)))) rfl (y_move rfl) rfl ?_
      refine H_y 4 rfl (by kernel_rfl) (by kernel_rfl) (by kernel_rfl) ((hsub (.cons _ (.refl _)))) rfl (y_move rfl) rfl ?_
      refine H_y 5 rfl (by kernel_rfl) (by kernel_rfl) (by kernel_rfl) ((hsub (.cons _ (.refl _)))) rfl (y_add rfl rfl (show _ = ((a + w : Nat) : Int) from by rw [wi64 (by omega) (by omega)]; omega)) rfl ?_
      refine H_y 6 rfl (by kernel_rfl) (by kernel_rfl) (by kernel_rfl) ((hsub (.cons _ (.refl _)))) rfl (y_move rfl) rfl ?_
      refine H_y 7 rfl (by kernel_rfl) (by kernel_rfl) (by kernel_rfl) ((hsub (.cons _ (.refl _)))) rfl (y_move rfl) rfl ?_
      refine H_y 8 rfl (by kernel_rfl) (by kernel_rfl) (by kernel_rfl) ((hsub (.cons _ (.refl _)))) rfl (y_move rfl) rfl ?_
      refine H_y 9 rfl (by kernel_rfl) (by kernel_rfl) (by kernel_rfl) ((hsub (.cons _ (.refl _)))) rfl (y_add rfl rfl (show _ = ((a + w : Nat) : Int) from by rw [wi64 (by omega) (by omega)]; omega)) rfl ?_
      refine H_y 10 rfl (by kernel_rfl) (by kernel_rfl) (by kernel_rfl) ((hsub (.cons _ (.refl _)))) rfl (y_indexS rfl rfl Try.underlying33 sz_48 (by omega) (by omega) (ix0 ((a + w)))) rfl ?_
      refine H_y 12 rfl (by kernel_rfl) (by kernel_rfl) (by kernel_rfl) ((hsub (.cons _ (.refl _)))) rfl (y_move rfl) rfl ?_
      refine H_y 13 rfl (by kernel_rfl) (by kernel_rfl) (by kernel_rfl) ((hsub (.cons _ (.refl _)))) rfl (y_move rfl) rfl ?_
      refine H_y 14 rfl (by kernel_rfl) (by kernel_rfl) (by kernel_rfl) ((hsub (.cons _ (.refl _)))) rfl (y_indexS rfl rfl Try.underlying33 sz_48 (by omega) (by omega) (ix0 (q))) rfl ?_
      refine H_two 11 15 rfl rfl (by kernel_rfl) rfl rfl ?_ ?_
      · refine op_y (y_load rfl ag_48 (sees 0 0 rfl) (us_at (by omega))) rfl ?_
        refine ⟨(hsub (.cons _ (.refl _))), ?_⟩
        refine H_one 15 rfl (by kernel_rfl) rfl (op_y (y_load rfl ag_48 (sees 0 0 rfl) (us_at (by omega))) rfl ?_)
        refine ⟨(hsub (.cons _ (.refl _))), ?_⟩
        refine H_y 16 rfl (by kernel_rfl) (by kernel_rfl) (by kernel_rfl) ((hsub (.cons _ (.refl _)))) rfl (y_indexS rfl rfl Try.underlying33 sz_48 (by omega) (by omega) (ix0 (q))) rfl ?_
        refine H_one 17 rfl (by kernel_rfl) rfl (op_store1 0 0 rfl rfl rfl sz_48 rfl (us_lt (by omega)) ?_)
        refine ⟨(hsub (.cons _ (.refl _))), ?_⟩
        refine H_y 18 rfl (by kernel_rfl) (by kernel_rfl) (by kernel_rfl) ((hsub (.cons _ (.refl _)))) rfl (y_indexS rfl rfl Try.underlying33 sz_48 (by omega) (by omega) (ix0 ((a + w)))) rfl ?_
        refine H_one 19 rfl (by kernel_rfl) rfl (op_store1 0 0 rfl rfl rfl sz_48 rfl (by rw [List.length_set]; exact us_lt (by omega)) ?_)
        refine ⟨(hsub (.cons _ (.refl _))), ?_⟩
        refine H_done (by kernel_rfl) ?_
        rw [us_swp (by omega) (by omega)]
        refine C_region ?_
        refine L_y rfl (y_move rfl) rfl ?_
        refine L_y rfl (y_add rfl rfl (show _ = ((q + 1 : Nat) : Int) from by rw [wi64 (by omega) (by omega)]; omega)) rfl ?_
        refine L_y rfl (y_assign rfl) rfl ?_
        refine L_nil ?_
        exact ⟨(Go.Sort.swp e1 q (a + w), v', q + 1), ⟨Go.Sort.permIn_trans _ _ _ _ _ hpe (Go.Sort.swp_permIn _ _ _ _ _ (by omega) (by omega) (by omega) (by omega) (by omega)), hv', by simp only; omega, by simp only; omega⟩, by simp only; omega, ⟨rfl, rfl, rfl, rfl, rfl, rfl, rfl, trivial⟩, ((hsub (.cons_cons _ (.cons_cons _ (.refl _)))).trans (hsub_pick [0, 0] rfl))⟩
      · refine op_y (y_load rfl ag_48 (sees 0 0 rfl) (us_at (by omega))) rfl ?_
        refine ⟨(hsub (.cons _ (.refl _))), ?_⟩
        refine H_one 11 rfl (by kernel_rfl) rfl (op_y (y_load rfl ag_48 (sees 0 0 rfl) (us_at (by omega))) rfl ?_)
        refine ⟨(hsub (.cons _ (.refl _))), ?_⟩
        refine H_y 16 rfl (by kernel_rfl) (by kernel_rfl) (by kernel_rfl) ((hsub (.cons _ (.refl _)))) rfl (y_indexS rfl rfl Try.underlying33 sz_48 (by omega) (by omega) (ix0 (q))) rfl ?_
        refine H_one 17 rfl (by kernel_rfl) rfl (op_store1 0 0 rfl rfl rfl sz_48 rfl (us_lt (by omega)) ?_)
        refine ⟨(hsub (.cons _ (.refl _))), ?_⟩
        refine H_y 18 rfl (by kernel_rfl) (by kernel_rfl) (by kernel_rfl) ((hsub (.cons _ (.refl _)))) rfl (y_indexS rfl rfl Try.underlying33 sz_48 (by omega) (by omega) (ix0 ((a + w)))) rfl ?_
        refine H_one 19 rfl (by kernel_rfl) rfl (op_store1 0 0 rfl rfl rfl sz_48 rfl (by rw [List.length_set]; exact us_lt (by omega)) ?_)
        refine ⟨(hsub (.cons _ (.refl _))), ?_⟩
        refine H_done (by kernel_rfl) ?_
        rw [us_swp (by omega) (by omega)]
        refine C_region ?_
        refine L_y rfl (y_move rfl) rfl ?_
        refine L_y rfl (y_add rfl rfl (show _ = ((q + 1 : Nat) : Int) from by rw [wi64 (by omega) (by omega)]; omega)) rfl ?_
        refine L_y rfl (y_assign rfl) rfl ?_
        refine L_nil ?_
        exact ⟨(Go.Sort.swp e1 q (a + w), v', q + 1), ⟨Go.Sort.permIn_trans _ _ _ _ _ hpe (Go.Sort.swp_permIn _ _ _ _ _ (by omega) (by omega) (by omega) (by omega) (by omega)), hv', by simp only; omega, by simp only; omega⟩, by simp only; omega, ⟨rfl, rfl, rfl, rfl, rfl, rfl, rfl, trivial⟩, ((hsub (.cons_cons _ (.cons_cons _ (.refl _)))).trans (hsub_pick [0, 0] rfl))⟩
  · skip
    refine C_exit ?_
    refine B_end rv_nil ((hsub (.cons_cons _ (.cons _ (.refl _)))).trans (hsub_pick [0] rfl)) ?_
    exact ⟨e1, hpe, rfl, rfl⟩

end Go.Proofs.Ytighbhplfjjgpaa

/- walks (own work; the walks' lines by a program of this repo). -/
set_option linter.unusedVariables false
set_option linter.unusedSimpArgs false
set_option maxRecDepth 20000
namespace Go.Proofs.Ytighbhplfjjgpaa
open Go.Sl
attribute [local irreducible] BodyQ WpC WpL WpS WpH OpW FnS



set_option maxHeartbeats 4000000 in

theorem pdq_step {w0 : World} {H : Hp} {sb n cap : Nat} {sp : List Value} (hn : n < 65536) (m : Nat) (ih : ∀ (a b limit : Nat) (d : Array Nat), b - a < m → d.size = n → limit ≤ 64 → a ≤ b → b ≤ n → Go.Sort.Below ltN a b d → FnS Try.prog w0 72 #[(.slice (some ⟨sb, 0, none⟩) n cap), .int .i64 ((a : Nat) : Int), .int .i64 ((b : Nat) : Int), .int .i64 ((limit : Nat) : Int)] (useg 48 sb d sp :: H) (fun e H' => ∃ d', Srt a b d d' ∧ e = .returned (.tuple #[]) ∧ H' = useg 48 sb d' sp :: H)) (a b limit : Nat) (d : Array Nat) (hm : b - a ≤ m) (hd : d.size = n) (hlim : limit ≤ 64) (hab : a ≤ b) (hb : b ≤ n) (hB : Go.Sort.Below ltN a b d) : FnS Try.prog w0 72 #[(.slice (some ⟨sb, 0, none⟩) n cap), .int .i64 ((a : Nat) : Int), .int .i64 ((b : Nat) : Int), .int .i64 ((limit : Nat) : Int)] (useg 48 sb d sp :: H) (fun e H' => ∃ d', Srt a b d d' ∧ e = .returned (.tuple #[]) ∧ H' = useg 48 sb d' sp :: H) := by
  refine FnS_intro (n := 134) (rs := []) (vs := [(.slice (some ⟨sb, 0, none⟩) n cap), .int .i64 ((a : Nat) : Int), .int .i64 ((b : Nat) : Int), .int .i64 ((limit : Nat) : Int)]) Try.func72 rfl Try.ntmps72 rfl rfl ?_
  refine C_seq ?_
  refine C_region ?_
  refine L_y rfl (y_assign rfl) rfl ?_
  refine L_nil ?_
  refine C_seq ?_
  refine C_region ?_
  refine L_y rfl (y_assign rfl) rfl ?_
  refine L_nil ?_
  refine C_block ?_
  refine C_loop (ι := Array Nat × Nat × Nat × Nat × Bool × Bool) (fun x => [(0, (.slice (some ⟨sb, 0, none⟩) n cap)), (1, .int .i64 ((x.2.1 : Nat) : Int)), (2, .int .i64 ((x.2.2.1 : Nat) : Int)), (3, .int .i64 ((x.2.2.2.1 : Nat) : Int)), (8, .bool x.2.2.2.2.1), (9, .bool x.2.2.2.2.2)]) (fun x => useg 48 sb x.1 sp :: H) (fun x => x.1.size = n ∧ x.2.1 ≤ x.2.2.1 ∧ x.2.2.1 ≤ n ∧ x.2.2.2.1 ≤ 64 ∧ Go.Sort.Below ltN x.2.1 x.2.2.1 x.1 ∧ x.2.2.1 - x.2.1 ≤ m ∧ ∀ R, Go.Sort.PermIn x.2.1 x.2.2.1 x.1 R → Go.Sort.SortedIn ltN x.2.1 x.2.2.1 R → Srt a b d R) (fun x => x.2.2.1 - x.2.1) (d, a, b, limit, true, true) ⟨hd, hab, hb, hlim, hB, hm, fun R hR hs => ⟨hR, hs⟩⟩ ⟨rfl, rfl, rfl, rfl, rfl, rfl, trivial⟩ ((hsub (.cons_cons _ (.refl _))).trans (hsub_pick [0] rfl)) (fun x hx => ?_)
  obtain ⟨d1, a1, b1, l1, wb, wp⟩ := x
  obtain ⟨hs1, hab1, hb1, hl1, hB1, hm1, hk⟩ := hx
  try simp only at hs1 hab1 hb1 hl1 hB1 hm1 hk
  try dsimp only
  refine C_block ?_
  refine C_seq ?_
  refine C_region ?_
  refine L_y rfl (y_move rfl) rfl ?_
  refine L_y rfl (y_move rfl) rfl ?_
  refine L_y rfl (y_sub rfl rfl (show _ = ((b1 - a1 : Nat) : Int) from by rw [wi64 (by omega) (by omega)]; omega)) rfl ?_
  refine L_y rfl (y_assign rfl) rfl ?_
  refine L_nil ?_
  refine C_seq ?_
  refine C_seq ?_
  refine C_region ?_
  refine L_y rfl (y_move rfl) rfl ?_
  refine L_y rfl (y_leq rfl rfl) rfl ?_
  refine L_nil ?_
  refine C_cond rfl (fun hc0 => ?_) (fun hc0 => ?_)
  · replace hc0 : b1 - a1 ≤ 12 := by have := of_decide_eq_true hc0; omega
    have hfin := Go.Sort.insertionSort_holds swo_N d1 a1 b1 hab1 (by omega)
    refine C_seq ?_
    refine C_region ?_
    refine L_y rfl (y_move rfl) rfl ?_
    refine L_y rfl (y_move rfl) rfl ?_
    refine L_y rfl (y_move rfl) rfl ?_
    refine L_op rfl (op_call rfl rfl (fun a w => Try.call83 a w) rfl ?_)
    refine (insert_u d1 hs1 (by omega) a1 b1 hab1 hb1).mono ?_
    rintro _ _ ⟨rfl, rfl⟩
    refine ⟨_, rfl, ?_⟩
    refine L_nil ?_
    refine C_ret ?_
    refine B_ret rv_nil ((hsub (.cons_cons _ (.refl _))).trans (hsub_pick [0] rfl)) ?_
    exact ⟨_, hk _ hfin.1 hfin.2, rfl, rfl⟩
  · replace hc0 : 12 < b1 - a1 := by have := of_decide_eq_false hc0; omega
    refine C_skip ?_
    refine C_seq ?_
    refine C_seq ?_
    refine C_region ?_
    refine L_y rfl (y_move rfl) rfl ?_
    refine L_y rfl (y_eqi rfl rfl) rfl ?_
    refine L_nil ?_
    refine C_cond rfl (fun hc1 => ?_) (fun hc1 => ?_)
    · have hfin := Go.Sort.heapSort_holds swo_N d1 a1 b1 hab1 (by omega)
      refine C_seq ?_
      refine C_region ?_
      refine L_y rfl (y_move rfl) rfl ?_
      refine L_y rfl (y_move rfl) rfl ?_
      refine L_y rfl (y_move rfl) rfl ?_
      refine L_op rfl (op_call rfl rfl (fun a w => Try.call84 a w) rfl ?_)
      refine (heap_u d1 hs1 (by omega) a1 b1 (by omega) hb1).mono ?_
      rintro _ _ ⟨rfl, rfl⟩
      refine ⟨_, rfl, ?_⟩
      refine L_nil ?_
      refine C_ret ?_
      refine B_ret rv_nil ((hsub (.cons_cons _ (.refl _))).trans (hsub_pick [0] rfl)) ?_
      exact ⟨_, hk _ hfin.1 hfin.2, rfl, rfl⟩
    · replace hc1 : ¬ l1 = 0 := by have := of_decide_eq_false hc1; omega
      refine C_skip ?_
      refine C_cutG (ι := Array Nat × Nat) (fun y => Go.Sort.PermIn a1 b1 d1 y.1 ∧ y.2 ≤ 64) (fun y => [(0, (.slice (some ⟨sb, 0, none⟩) n cap)), (1, .int .i64 ((a1 : Nat) : Int)), (2, .int .i64 ((b1 : Nat) : Int)), (3, .int .i64 ((y.2 : Nat) : Int)), (8, .bool wb), (9, .bool wp), (10, .int .i64 ((b1 - a1 : Nat) : Int))]) (fun y => useg 48 sb y.1 sp :: H) ?_ (fun y hy => ?_)
      · refine C_seq ?_
        refine C_region ?_
        refine L_y rfl (y_move rfl) rfl ?_
        refine L_y rfl (y_not rfl) rfl ?_
        refine L_nil ?_
        refine C_cond rfl (fun hc2 => ?_) (fun hc2 => ?_)
        · skip
          refine C_seq ?_
          refine C_region ?_
          refine L_y rfl (y_move rfl) rfl ?_
          refine L_y rfl (y_move rfl) rfl ?_
          refine L_y rfl (y_move rfl) rfl ?_
          refine L_op rfl (op_call rfl rfl (fun a w => Try.call85 a w) rfl ?_)
          refine (break_u d1 hs1 hn a1 b1 hc0 hb1).mono ?_
          rintro _ _ ⟨e1, hpe, rfl, rfl⟩
          refine ⟨_, rfl, ?_⟩
          refine L_nil ?_
          refine C_region ?_
          refine L_y rfl (y_move rfl) rfl ?_
          refine L_y rfl (y_sub rfl rfl (show _ = ((l1 - 1 : Nat) : Int) from by rw [wi64 (by omega) (by omega)]; omega)) rfl ?_
          refine L_y rfl (y_assign rfl) rfl ?_
          refine L_nil ?_
          exact ⟨(e1, l1 - 1), ⟨hpe, by simp only; omega⟩, ⟨rfl, rfl, rfl, rfl, rfl, rfl, rfl, trivial⟩, ((hsub (.cons_cons _ (.refl _))).trans (hsub_pick [0] rfl))⟩
        · skip
          refine C_skip ?_
          exact ⟨(d1, l1), ⟨Go.Sort.permIn_refl _ _ _, hl1⟩, ⟨rfl, rfl, rfl, rfl, rfl, rfl, rfl, trivial⟩, ((hsub (.cons_cons _ (.refl _))).trans (hsub_pick [0] rfl))⟩
      · obtain ⟨d2, l2⟩ := y
        obtain ⟨hp2, hl2⟩ := hy
        try simp only at hp2 hl2
        try dsimp only
        have hs2 : d2.size = n := by rw [hp2.1]; exact hs1
        refine C_seq ?_
        refine C_region ?_
        refine L_y rfl (y_move rfl) rfl ?_
        refine L_y rfl (y_move rfl) rfl ?_
        refine L_y rfl (y_move rfl) rfl ?_
        refine L_op rfl (op_call rfl rfl (fun a w => Try.call86 a w) rfl ?_)
        refine (choose_u d2 hs2 (by omega) a1 b1 hc0 hb1).mono ?_
        rintro _ _ ⟨p, h, hpa, hpb, rfl, rfl⟩
        refine ⟨_, rfl, ?_⟩
        refine L_y rfl (y_move rfl) rfl ?_
        refine L_y rfl (y_extract rfl rfl) rfl ?_
        refine L_y rfl (y_extract rfl rfl) rfl ?_
        refine L_y rfl (y_assign rfl) rfl ?_
        refine L_y rfl (y_assign rfl) rfl ?_
        refine L_nil ?_
        refine C_cutG (ι := Array Nat × Nat × Int) (fun y => Go.Sort.PermIn a1 b1 d1 y.1 ∧ a1 ≤ y.2.1 ∧ y.2.1 < b1) (fun y => [(0, (.slice (some ⟨sb, 0, none⟩) n cap)), (1, .int .i64 ((a1 : Nat) : Int)), (2, .int .i64 ((b1 : Nat) : Int)), (3, .int .i64 ((l2 : Nat) : Int)), (8, .bool wb), (9, .bool wp), (10, .int .i64 ((b1 - a1 : Nat) : Int)), (11, .int .i64 ((y.2.1 : Nat) : Int)), (12, .int .i64 y.2.2)]) (fun y => useg 48 sb y.1 sp :: H) ?_ (fun y hy => ?_)
        · refine C_seq ?_
          refine C_region ?_
          refine L_y rfl (y_move rfl) rfl ?_
          refine L_y rfl (y_eqi rfl rfl) rfl ?_
          refine L_nil ?_
          refine C_cond rfl (fun hc3 => ?_) (fun hc3 => ?_)
          · skip
            refine C_seq ?_
            refine C_region ?_
            refine L_y rfl (y_move rfl) rfl ?_
            refine L_y rfl (y_move rfl) rfl ?_
            refine L_y rfl (y_move rfl) rfl ?_
            refine L_op rfl (op_call rfl rfl (fun a w => Try.call87 a w) rfl ?_)
            refine (reverse_u d2 hs2 (by omega) a1 b1 (by omega) hb1).mono ?_
            rintro _ _ ⟨rfl, rfl⟩
            refine ⟨_, rfl, ?_⟩
            refine L_nil ?_
            refine C_seq ?_
            refine C_region ?_
            refine L_y rfl (y_move rfl) rfl ?_
            refine L_y rfl (y_sub rfl rfl (show _ = ((b1 - 1 : Nat) : Int) from by rw [wi64 (by omega) (by omega)]; omega)) rfl ?_
            refine L_y rfl (y_move rfl) rfl ?_
            refine L_y rfl (y_move rfl) rfl ?_
            refine L_y rfl (y_sub rfl rfl (show _ = ((p - a1 : Nat) : Int) from by rw [wi64 (by omega) (by omega)]; omega)) rfl ?_
            refine L_y rfl (y_sub rfl rfl (show _ = (((b1 - 1) - (p - a1) : Nat) : Int) from by rw [wi64 (by omega) (by omega)]; omega)) rfl ?_
            refine L_y rfl (y_assign rfl) rfl ?_
            refine L_nil ?_
            refine C_region ?_
            refine L_y rfl (y_assign rfl) rfl ?_
            refine L_nil ?_
            exact ⟨(Go.Sort.reverseRange d2 a1 b1, (b1 - 1) - (p - a1), 1), ⟨Go.Sort.permIn_trans _ _ _ _ _ hp2 (Go.Sort.reverseRange_holds d2 a1 b1 hab1 (by omega)), by simp only; omega, by simp only; omega⟩, ⟨rfl, rfl, rfl, rfl, rfl, rfl, rfl, rfl, rfl, trivial⟩, ((hsub (.cons_cons _ (.refl _))).trans (hsub_pick [0] rfl))⟩
          · skip
            refine C_skip ?_
            exact ⟨(d2, p, h), ⟨hp2, hpa, hpb⟩, ⟨rfl, rfl, rfl, rfl, rfl, rfl, rfl, rfl, rfl, trivial⟩, ((hsub (.cons_cons _ (.refl _))).trans (hsub_pick [0] rfl))⟩
        · clear hpa hpb p h
          obtain ⟨d3, p, h⟩ := y
          obtain ⟨hp3, hpa, hpb⟩ := hy
          try simp only at hp3 hpa hpb
          try dsimp only
          have hs3 : d3.size = n := by rw [hp3.1]; exact hs1
          have hB3 : Go.Sort.Below ltN a1 b1 d3 := hB1.perm (by omega) hp3
          refine C_cutG (ι := Array Nat) (fun y => Go.Sort.PermIn a1 b1 d1 y) (fun y => [(0, (.slice (some ⟨sb, 0, none⟩) n cap)), (1, .int .i64 ((a1 : Nat) : Int)), (2, .int .i64 ((b1 : Nat) : Int)), (3, .int .i64 ((l2 : Nat) : Int)), (8, .bool wb), (9, .bool wp), (10, .int .i64 ((b1 - a1 : Nat) : Int)), (11, .int .i64 ((p : Nat) : Int)), (12, .int .i64 h)]) (fun y => useg 48 sb y sp :: H) ?_ (fun d4 hd4 => ?_)
          · refine C_seq ?_
            refine C_region ?_
            refine L_y rfl (y_move rfl) rfl ?_
            refine L_y rfl (y_move rfl) rfl ?_
            refine L_case 62 rfl (fun hg15_2 => ?_) (fun hg15_2 => ?_)
            · skip
              refine L_y rfl (y_move rfl) rfl ?_
              refine L_y rfl (y_pick_t rfl rfl) rfl ?_
              refine L_y rfl (y_move rfl) rfl ?_
              refine L_case 65 rfl (fun hg15_5 => ?_) (fun hg15_5 => ?_)
              · skip
                refine L_y rfl (y_move rfl) rfl ?_
                refine L_y rfl (y_eqi rfl rfl) rfl ?_
                refine L_y rfl (y_pick_t rfl rfl) rfl ?_
                refine L_nil ?_
                refine C_cond rfl (fun hc4 => ?_) (fun hc4 => ?_)
                · skip
                  refine C_seq ?_
                  refine C_region ?_
                  refine L_y rfl (y_move rfl) rfl ?_
                  refine L_y rfl (y_move rfl) rfl ?_
                  refine L_y rfl (y_move rfl) rfl ?_
                  refine L_op rfl (op_call rfl rfl (fun a w => Try.call88 a w) rfl ?_)
                  refine (partial_u d3 hs3 (by omega) a1 b1 (by omega) hb1).mono ?_
                  rintro _ _ ⟨rfl, rfl⟩
                  refine ⟨_, rfl, ?_⟩
                  refine L_nil ?_
                  refine C_cond rfl (fun hc5 => ?_) (fun hc5 => ?_)
                  · have hpi := Go.Sort.partialInsertionSort_holds swo_N d3 a1 b1 (by omega) (by omega) hB3
                    have hfin : Go.Sort.PermIn a1 b1 d1 (Go.Sort.partialInsertionSort ltN d3 a1 b1).1 ∧ Go.Sort.SortedIn ltN a1 b1 (Go.Sort.partialInsertionSort ltN d3 a1 b1).1 := ⟨Go.Sort.permIn_trans _ _ _ _ _ hp3 hpi.1, hpi.2 hc5⟩
                    refine C_ret ?_
                    refine B_ret rv_nil ((hsub (.cons_cons _ (.refl _))).trans (hsub_pick [0] rfl)) ?_
                    exact ⟨_, hk _ hfin.1 hfin.2, rfl, rfl⟩
                  · skip
                    refine C_skip ?_
                    exact ⟨(Go.Sort.partialInsertionSort ltN d3 a1 b1).1, (Go.Sort.permIn_trans _ _ _ _ _ hp3 (Go.Sort.partialInsertionSort_holds swo_N d3 a1 b1 (by omega) (by omega) hB3).1), ⟨rfl, rfl, rfl, rfl, rfl, rfl, rfl, rfl, rfl, trivial⟩, ((hsub (.cons_cons _ (.refl _))).trans (hsub_pick [0] rfl))⟩
                · skip
                  refine C_skip ?_
                  exact ⟨d3, hp3, ⟨rfl, rfl, rfl, rfl, rfl, rfl, rfl, rfl, rfl, trivial⟩, ((hsub (.cons_cons _ (.refl _))).trans (hsub_pick [0] rfl))⟩
              · skip
                refine L_skip rfl rfl ?_
                refine L_skip rfl rfl ?_
                refine L_y rfl (y_pick_f rfl rfl) rfl ?_
                refine L_nil ?_
                refine C_cond_f rfl ?_
                refine C_skip ?_
                exact ⟨d3, hp3, ⟨rfl, rfl, rfl, rfl, rfl, rfl, rfl, rfl, rfl, trivial⟩, ((hsub (.cons_cons _ (.refl _))).trans (hsub_pick [0] rfl))⟩
            · skip
              refine L_skip rfl rfl ?_
              refine L_y rfl (y_pick_f rfl rfl) rfl ?_
              refine L_y rfl (y_move rfl) rfl ?_
              refine L_skip rfl rfl ?_
              refine L_skip rfl rfl ?_
              refine L_y rfl (y_pick_f rfl rfl) rfl ?_
              refine L_nil ?_
              refine C_cond_f rfl ?_
              refine C_skip ?_
              exact ⟨d3, hp3, ⟨rfl, rfl, rfl, rfl, rfl, rfl, rfl, rfl, rfl, trivial⟩, ((hsub (.cons_cons _ (.refl _))).trans (hsub_pick [0] rfl))⟩
          · have hp4 : Go.Sort.PermIn a1 b1 d1 d4 := hd4
            have hs4 : d4.size = n := by rw [hp4.1]; exact hs1
            have hB4 : Go.Sort.Below ltN a1 b1 d4 := hB1.perm (by omega) hp4
            refine C_seq ?_
            refine C_seq ?_
            refine C_regionH0 (by kernel_rfl) ?_
            refine H_y 0 rfl (by kernel_rfl) (by kernel_rfl) (by kernel_rfl) (HSub.refl _) rfl (y_move rfl) rfl ?_
            refine H_y 1 rfl (by kernel_rfl) (by kernel_rfl) (by kernel_rfl) (HSub.refl _) rfl (y_gtr rfl rfl) rfl ?_
            refine H_y 2 rfl (by kernel_rfl) (by kernel_rfl) (by kernel_rfl) (HSub.refl _) rfl (y_move rfl) rfl ?_
            refine H_case 75 rfl (fun hg17_3 => ?_) (fun hg17_3 => ?_)
            · have h0 : 0 < a1 := by have := of_decide_eq_true hg17_3; omega
              refine H_y 3 rfl (by kernel_rfl) (by kernel_rfl) (by kernel_rfl) (HSub.refl _) rfl (y_move rfl) rfl ?_
              refine H_y 4 rfl (by kernel_rfl) (by kernel_rfl) (by kernel_rfl) (HSub.refl _) rfl (y_move rfl) rfl ?_
              refine H_y 5 rfl (by kernel_rfl) (by kernel_rfl) (by kernel_rfl) (HSub.refl _) rfl (y_sub rfl rfl (show _ = ((a1 - 1 : Nat) : Int) from by rw [wi64 (by omega) (by omega)]; omega)) rfl ?_
              refine H_y 6 rfl (by kernel_rfl) (by kernel_rfl) (by kernel_rfl) (HSub.refl _) rfl (y_indexS rfl rfl Try.underlying33 sz_48 (by omega) (by omega) (ix0 (a1 - 1))) rfl ?_
              refine H_y 7 rfl (by kernel_rfl) (by kernel_rfl) (by kernel_rfl) (HSub.refl _) rfl (y_load rfl ag_48 (sees 0 0 rfl) (us_at (by omega))) rfl ?_
              refine H_y 8 rfl (by kernel_rfl) (by kernel_rfl) (by kernel_rfl) (HSub.refl _) rfl (y_move rfl) rfl ?_
              refine H_y 9 rfl (by kernel_rfl) (by kernel_rfl) (by kernel_rfl) (HSub.refl _) rfl (y_move rfl) rfl ?_
              refine H_y 10 rfl (by kernel_rfl) (by kernel_rfl) (by kernel_rfl) (HSub.refl _) rfl (y_indexS rfl rfl Try.underlying33 sz_48 (by omega) (by omega) (ix0 (p))) rfl ?_
              refine H_y 11 rfl (by kernel_rfl) (by kernel_rfl) (by kernel_rfl) (HSub.refl _) rfl (y_load rfl ag_48 (sees 0 0 rfl) (us_at (by omega))) rfl ?_
              refine H_one 12 rfl (by kernel_rfl) rfl (op_call rfl rfl (fun a w => Try.call89 a w) rfl ?_)
              refine (less_u (d4[a1 - 1]!) (d4[p]!)).mono ?_
              rintro _ _ ⟨rfl, e⟩
              obtain rfl := e.symm
              clear e
              refine ⟨_, rfl, ?_⟩
              refine ⟨HSub.refl _, ?_⟩
              refine H_y 13 rfl (by kernel_rfl) (by kernel_rfl) (by kernel_rfl) (HSub.refl _) rfl (y_not rfl) rfl ?_
              refine H_y 14 rfl (by kernel_rfl) (by kernel_rfl) (by kernel_rfl) (HSub.refl _) rfl (y_pick_t rfl rfl) rfl ?_
              refine H_done (by kernel_rfl) ?_
              refine C_cond rfl (fun hc6 => ?_) (fun hc6 => ?_)
              · have hnl : ltN d4[a1 - 1]! d4[p]! = false := by simpa using hc6
                refine C_seq ?_
                refine C_region ?_
                refine L_y rfl (y_move rfl) rfl ?_
                refine L_y rfl (y_move rfl) rfl ?_
                refine L_y rfl (y_move rfl) rfl ?_
                refine L_y rfl (y_move rfl) rfl ?_
                refine L_op rfl (op_call rfl rfl (fun a w => Try.call90 a w) rfl ?_)
                refine (parteq_u d4 hs4 (by omega) a1 b1 p hpa hpb hb1).mono ?_
                rintro _ _ ⟨rfl, rfl⟩
                obtain ⟨⟨mid, d5⟩, hx⟩ : ∃ z, z = Go.Sort.partitionEqual ltN d4 a1 b1 p := ⟨_, rfl⟩
                rw [← hx]
                obtain ⟨q1, q2, q3, q4, q5⟩ := Go.Sort.round_eq swo_N (Go.Sort.partitionEqual_holds ltN) h0 hpa hpb (by omega) hB4 hnl hx.symm
                try dsimp only
                refine ⟨_, rfl, ?_⟩
                refine L_y rfl (y_assign rfl) rfl ?_
                refine L_nil ?_
                refine C_seq ?_
                refine C_region ?_
                refine L_y rfl (y_move rfl) rfl ?_
                refine L_y rfl (y_assign rfl) rfl ?_
                refine L_nil ?_
                refine C_exit ?_
                exact ⟨(d5, mid, b1, l2, wb, wp), ⟨by simp only; omega, q2, hb1, hl2, q4, by simp only; omega, fun R hR hs => hk R (Go.Sort.permIn_trans _ _ _ _ _ hp4 (q5 R hR hs).1) (q5 R hR hs).2⟩, by simp only; omega, ⟨rfl, rfl, rfl, rfl, rfl, rfl, trivial⟩, ((hsub (.cons_cons _ (.refl _))).trans (hsub_pick [0] rfl))⟩
              · skip
                refine C_skip ?_
                refine C_seq ?_
                refine C_region ?_
                refine L_y rfl (y_move rfl) rfl ?_
                refine L_y rfl (y_move rfl) rfl ?_
                refine L_y rfl (y_move rfl) rfl ?_
                refine L_y rfl (y_move rfl) rfl ?_
                refine L_op rfl (op_call rfl rfl (fun a w => Try.call91 a w) rfl ?_)
                refine (part_u d4 hs4 (by omega) a1 b1 p hpa hpb hb1).mono ?_
                rintro _ _ ⟨rfl, rfl⟩
                obtain ⟨⟨mid, ap, d5⟩, hx⟩ : ∃ z, z = Go.Sort.partition ltN d4 a1 b1 p := ⟨_, rfl⟩
                rw [← hx]
                obtain ⟨q1, q2, q3, q4, q5, q6, q7⟩ := Go.Sort.round_part swo_N (Go.Sort.partition_holds ltN) hpa hpb (by omega) hB4 hx.symm
                try dsimp only
                refine ⟨_, rfl, ?_⟩
                refine L_y rfl (y_move rfl) rfl ?_
                refine L_y rfl (y_extract rfl rfl) rfl ?_
                refine L_y rfl (y_extract rfl rfl) rfl ?_
                refine L_y rfl (y_assign rfl) rfl ?_
                refine L_y rfl (y_assign rfl) rfl ?_
                refine L_nil ?_
                refine C_seq ?_
                refine C_region ?_
                refine L_y rfl (y_move rfl) rfl ?_
                refine L_y rfl (y_assign rfl) rfl ?_
                refine L_nil ?_
                refine C_seq ?_
                refine C_region ?_
                refine L_y rfl (y_move rfl) rfl ?_
                refine L_y rfl (y_move rfl) rfl ?_
                refine L_y rfl (y_sub rfl rfl (show _ = ((mid - a1 : Nat) : Int) from by rw [wi64 (by omega) (by omega)]; omega)) rfl ?_
                refine L_y rfl (y_move rfl) rfl ?_
                refine L_y rfl (y_move rfl) rfl ?_
                refine L_y rfl (y_sub rfl rfl (show _ = ((b1 - mid : Nat) : Int) from by rw [wi64 (by omega) (by omega)]; omega)) rfl ?_
                refine L_y rfl (y_assign rfl) rfl ?_
                refine L_y rfl (y_assign rfl) rfl ?_
                refine L_nil ?_
                refine C_seq ?_
                refine C_region ?_
                refine L_y rfl (y_move rfl) rfl ?_
                refine L_y rfl (y_quo rfl rfl (by omega) (show _ = (((b1 - a1) / 8 : Nat) : Int) from by rw [Int.tdiv_eq_ediv_of_nonneg (by omega), wi64 (by omega) (by omega)]; omega)) rfl ?_
                refine L_y rfl (y_assign rfl) rfl ?_
                refine L_nil ?_
                refine C_seq ?_
                refine C_region ?_
                refine L_y rfl (y_move rfl) rfl ?_
                refine L_y rfl (y_move rfl) rfl ?_
                refine L_y rfl (y_lss rfl rfl) rfl ?_
                refine L_nil ?_
                refine C_cond rfl (fun hc7 => ?_) (fun hc7 => ?_)
                · skip
                  refine C_seq ?_
                  refine C_region ?_
                  refine L_y rfl (y_move rfl) rfl ?_
                  refine L_y rfl (y_move rfl) rfl ?_
                  refine L_y rfl (y_geq rfl rfl) rfl ?_
                  refine L_y rfl (y_assign rfl) rfl ?_
                  refine L_nil ?_
                  refine C_seq ?_
                  refine C_region ?_
                  refine L_y rfl (y_move rfl) rfl ?_
                  refine L_y rfl (y_move rfl) rfl ?_
                  refine L_y rfl (y_move rfl) rfl ?_
                  refine L_y rfl (y_move rfl) rfl ?_
                  refine L_op rfl (op_call rfl rfl (fun a w => Try.call72 a w) rfl ?_)
                  refine (ih a1 mid l2 d5 (by omega) (by omega) hl2 (by omega) (by omega) q4).mono ?_
                  rintro _ _ ⟨L, hL, rfl, rfl⟩
                  refine ⟨_, rfl, ?_⟩
                  refine L_nil ?_
                  refine C_region ?_
                  refine L_y rfl (y_move rfl) rfl ?_
                  refine L_y rfl (y_add rfl rfl (show _ = ((mid + 1 : Nat) : Int) from by rw [wi64 (by omega) (by omega)]; omega)) rfl ?_
                  refine L_y rfl (y_assign rfl) rfl ?_
                  refine L_nil ?_
                  exact ⟨(L, mid + 1, b1, l2, _, ap), ⟨by simp only; rw [hL.1.1]; omega, by simp only; omega, hb1, hl2, (q6 L hL.1 hL.2).1, by simp only; omega, fun R hR hs => hk R (Go.Sort.permIn_trans _ _ _ _ _ hp4 ((q6 L hL.1 hL.2).2 R hR hs).1) ((q6 L hL.1 hL.2).2 R hR hs).2⟩, by simp only; omega, ⟨rfl, rfl, rfl, rfl, rfl, rfl, trivial⟩, ((hsub (.cons_cons _ (.refl _))).trans (hsub_pick [0] rfl))⟩
                · skip
                  refine C_seq ?_
                  refine C_region ?_
                  refine L_y rfl (y_move rfl) rfl ?_
                  refine L_y rfl (y_move rfl) rfl ?_
                  refine L_y rfl (y_geq rfl rfl) rfl ?_
                  refine L_y rfl (y_assign rfl) rfl ?_
                  refine L_nil ?_
                  refine C_seq ?_
                  refine C_region ?_
                  refine L_y rfl (y_move rfl) rfl ?_
                  refine L_y rfl (y_move rfl) rfl ?_
                  refine L_y rfl (y_add rfl rfl (show _ = ((mid + 1 : Nat) : Int) from by rw [wi64 (by omega) (by omega)]; omega)) rfl ?_
                  refine L_y rfl (y_move rfl) rfl ?_
                  refine L_y rfl (y_move rfl) rfl ?_
                  refine L_op rfl (op_call rfl rfl (fun a w => Try.call72 a w) rfl ?_)
                  refine (ih (mid + 1) b1 l2 d5 (by omega) (by omega) hl2 (by omega) (by omega) q5).mono ?_
                  rintro _ _ ⟨L, hL, rfl, rfl⟩
                  refine ⟨_, rfl, ?_⟩
                  refine L_nil ?_
                  refine C_region ?_
                  refine L_y rfl (y_move rfl) rfl ?_
                  refine L_y rfl (y_assign rfl) rfl ?_
                  refine L_nil ?_
                  exact ⟨(L, a1, mid, l2, _, ap), ⟨by simp only; rw [hL.1.1]; omega, q1, by simp only; omega, hl2, (q7 L hL.1 hL.2).1, by simp only; omega, fun R hR hs => hk R (Go.Sort.permIn_trans _ _ _ _ _ hp4 ((q7 L hL.1 hL.2).2 R hR hs).1) ((q7 L hL.1 hL.2).2 R hR hs).2⟩, by simp only; omega, ⟨rfl, rfl, rfl, rfl, rfl, rfl, trivial⟩, ((hsub (.cons_cons _ (.refl _))).trans (hsub_pick [0] rfl))⟩
            · skip
              refine H_skip 3 rfl (by kernel_rfl) (by kernel_rfl) (by kernel_rfl) (HSub.refl _) rfl rfl ?_
              refine H_skip 4 rfl (by kernel_rfl) (by kernel_rfl) (by kernel_rfl) (HSub.refl _) rfl rfl ?_
              refine H_skip 5 rfl (by kernel_rfl) (by kernel_rfl) (by kernel_rfl) (HSub.refl _) rfl rfl ?_
              refine H_skip 6 rfl (by kernel_rfl) (by kernel_rfl) (by kernel_rfl) (HSub.refl _) rfl rfl ?_
              refine H_skip 7 rfl (by kernel_rfl) (by kernel_rfl) (by kernel_rfl) (HSub.refl _) rfl rfl ?_
              refine H_skip 8 rfl (by kernel_rfl) (by kernel_rfl) (by kernel_rfl) (HSub.refl _) rfl rfl ?_
              refine H_skip 9 rfl (by kernel_rfl) (by kernel_rfl) (by kernel_rfl) (HSub.refl _) rfl rfl ?_
              refine H_skip 10 rfl (by kernel_rfl) (by kernel_rfl) (by kernel_rfl) (HSub.refl _) rfl rfl ?_
              refine H_skip 11 rfl (by kernel_rfl) (by kernel_rfl) (by kernel_rfl) (HSub.refl _) rfl rfl ?_
              refine H_skip 12 rfl (by kernel_rfl) (by kernel_rfl) (by kernel_rfl) (HSub.refl _) rfl rfl ?_
              refine H_skip 13 rfl (by kernel_rfl) (by kernel_rfl) (by kernel_rfl) (HSub.refl _) rfl rfl ?_
              refine H_y 14 rfl (by kernel_rfl) (by kernel_rfl) (by kernel_rfl) (HSub.refl _) rfl (y_pick_f rfl rfl) rfl ?_
              refine H_done (by kernel_rfl) ?_
              refine C_cond_f rfl ?_
              refine C_skip ?_
              refine C_seq ?_
              refine C_region ?_
              refine L_y rfl (y_move rfl) rfl ?_
              refine L_y rfl (y_move rfl) rfl ?_
              refine L_y rfl (y_move rfl) rfl ?_
              refine L_y rfl (y_move rfl) rfl ?_
              refine L_op rfl (op_call rfl rfl (fun a w => Try.call91 a w) rfl ?_)
              refine (part_u d4 hs4 (by omega) a1 b1 p hpa hpb hb1).mono ?_
              rintro _ _ ⟨rfl, rfl⟩
              obtain ⟨⟨mid, ap, d5⟩, hx⟩ : ∃ z, z = Go.Sort.partition ltN d4 a1 b1 p := ⟨_, rfl⟩
              rw [← hx]
              obtain ⟨q1, q2, q3, q4, q5, q6, q7⟩ := Go.Sort.round_part swo_N (Go.Sort.partition_holds ltN) hpa hpb (by omega) hB4 hx.symm
              try dsimp only
              refine ⟨_, rfl, ?_⟩
              refine L_y rfl (y_move rfl) rfl ?_
              refine L_y rfl (y_extract rfl rfl) rfl ?_
              refine L_y rfl (y_extract rfl rfl) rfl ?_
              refine L_y rfl (y_assign rfl) rfl ?_
              refine L_y rfl (y_assign rfl) rfl ?_
              refine L_nil ?_
              refine C_seq ?_
              refine C_region ?_
              refine L_y rfl (y_move rfl) rfl ?_
              refine L_y rfl (y_assign rfl) rfl ?_
              refine L_nil ?_
              refine C_seq ?_
              refine C_region ?_
              refine L_y rfl (y_move rfl) rfl ?_
              refine L_y rfl (y_move rfl) rfl ?_
              refine L_y rfl (y_sub rfl rfl (show _ = ((mid - a1 : Nat) : Int) from by rw [wi64 (by omega) (by omega)]; omega)) rfl ?_
              refine L_y rfl (y_move rfl) rfl ?_
              refine L_y rfl (y_move rfl) rfl ?_
              refine L_y rfl (y_sub rfl rfl (show _ = ((b1 - mid : Nat) : Int) from by rw [wi64 (by omega) (by omega)]; omega)) rfl ?_
              refine L_y rfl (y_assign rfl) rfl ?_
              refine L_y rfl (y_assign rfl) rfl ?_
              refine L_nil ?_
              refine C_seq ?_
              refine C_region ?_
              refine L_y rfl (y_move rfl) rfl ?_
              refine L_y rfl (y_quo rfl rfl (by omega) (show _ = (((b1 - a1) / 8 : Nat) : Int) from by rw [Int.tdiv_eq_ediv_of_nonneg (by omega), wi64 (by omega) (by omega)]; omega)) rfl ?_
              refine L_y rfl (y_assign rfl) rfl ?_
              refine L_nil ?_
              refine C_seq ?_
              refine C_region ?_
              refine L_y rfl (y_move rfl) rfl ?_
              refine L_y rfl (y_move rfl) rfl ?_
              refine L_y rfl (y_lss rfl rfl) rfl ?_
              refine L_nil ?_
              refine C_cond rfl (fun hc7 => ?_) (fun hc7 => ?_)
              · skip
                refine C_seq ?_
                refine C_region ?_
                refine L_y rfl (y_move rfl) rfl ?_
                refine L_y rfl (y_move rfl) rfl ?_
                refine L_y rfl (y_geq rfl rfl) rfl ?_
                refine L_y rfl (y_assign rfl) rfl ?_
                refine L_nil ?_
                refine C_seq ?_
                refine C_region ?_
                refine L_y rfl (y_move rfl) rfl ?_
                refine L_y rfl (y_move rfl) rfl ?_
                refine L_y rfl (y_move rfl) rfl ?_
                refine L_y rfl (y_move rfl) rfl ?_
                refine L_op rfl (op_call rfl rfl (fun a w => Try.call72 a w) rfl ?_)
                refine (ih a1 mid l2 d5 (by omega) (by omega) hl2 (by omega) (by omega) q4).mono ?_
                rintro _ _ ⟨L, hL, rfl, rfl⟩
                refine ⟨_, rfl, ?_⟩
                refine L_nil ?_
                refine C_region ?_
                refine L_y rfl (y_move rfl) rfl ?_
                refine L_y rfl (y_add rfl rfl (show _ = ((mid + 1 : Nat) : Int) from by rw [wi64 (by omega) (by omega)]; omega)) rfl ?_
                refine L_y rfl (y_assign rfl) rfl ?_
                refine L_nil ?_
                exact ⟨(L, mid + 1, b1, l2, _, ap), ⟨by simp only; rw [hL.1.1]; omega, by simp only; omega, hb1, hl2, (q6 L hL.1 hL.2).1, by simp only; omega, fun R hR hs => hk R (Go.Sort.permIn_trans _ _ _ _ _ hp4 ((q6 L hL.1 hL.2).2 R hR hs).1) ((q6 L hL.1 hL.2).2 R hR hs).2⟩, by simp only; omega, ⟨rfl, rfl, rfl, rfl, rfl, rfl, trivial⟩, ((hsub (.cons_cons _ (.refl _))).trans (hsub_pick [0] rfl))⟩
              · skip
                refine C_seq ?_
                refine C_region ?_
                refine L_y rfl (y_move rfl) rfl ?_
                refine L_y rfl (y_move rfl) rfl ?_
                refine L_y rfl (y_geq rfl rfl) rfl ?_
                refine L_y rfl (y_assign rfl) rfl ?_
                refine L_nil ?_
                refine C_seq ?_
                refine C_region ?_
                refine L_y rfl (y_move rfl) rfl ?_
                refine L_y rfl (y_move rfl) rfl ?_
                refine L_y rfl (y_add rfl rfl (show _ = ((mid + 1 : Nat) : Int) from by rw [wi64 (by omega) (by omega)]; omega)) rfl ?_
                refine L_y rfl (y_move rfl) rfl ?_
                refine L_y rfl (y_move rfl) rfl ?_
                refine L_op rfl (op_call rfl rfl (fun a w => Try.call72 a w) rfl ?_)
                refine (ih (mid + 1) b1 l2 d5 (by omega) (by omega) hl2 (by omega) (by omega) q5).mono ?_
                rintro _ _ ⟨L, hL, rfl, rfl⟩
                refine ⟨_, rfl, ?_⟩
                refine L_nil ?_
                refine C_region ?_
                refine L_y rfl (y_move rfl) rfl ?_
                refine L_y rfl (y_assign rfl) rfl ?_
                refine L_nil ?_
                exact ⟨(L, a1, mid, l2, _, ap), ⟨by simp only; rw [hL.1.1]; omega, q1, by simp only; omega, hl2, (q7 L hL.1 hL.2).1, by simp only; omega, fun R hR hs => hk R (Go.Sort.permIn_trans _ _ _ _ _ hp4 ((q7 L hL.1 hL.2).2 R hR hs).1) ((q7 L hL.1 hL.2).2 R hR hs).2⟩, by simp only; omega, ⟨rfl, rfl, rfl, rfl, rfl, rfl, trivial⟩, ((hsub (.cons_cons _ (.refl _))).trans (hsub_pick [0] rfl))⟩

theorem pdq_u {w0 : World} {H : Hp} {sb n cap : Nat} {sp : List Value} (hn : n < 65536) : ∀ (m a b limit : Nat) (d : Array Nat), b - a ≤ m → d.size = n → limit ≤ 64 → a ≤ b → b ≤ n → Go.Sort.Below ltN a b d → FnS Try.prog w0 72 #[(.slice (some ⟨sb, 0, none⟩) n cap), .int .i64 ((a : Nat) : Int), .int .i64 ((b : Nat) : Int), .int .i64 ((limit : Nat) : Int)] (useg 48 sb d sp :: H) (fun e H' => ∃ d', Srt a b d d' ∧ e = .returned (.tuple #[]) ∧ H' = useg 48 sb d' sp :: H) := by
  intro m
  induction m with
  | zero => exact fun a b limit d hm hd hlim hab hb hB => pdq_step hn 0 (fun a b limit d h => absurd h (by omega)) a b limit d hm hd hlim hab hb hB
  | succ m ih => exact fun a b limit d hm hd hlim hab hb hB => pdq_step hn (m + 1) (fun a b limit d h => ih a b limit d (by omega)) a b limit d hm hd hlim hab hb hB

theorem sort_u {w0 : World} {H : Hp} {sb n cap : Nat} {sp : List Value} (d : Array Nat) (hd : d.size = n) (hn : n < 65536) : FnS Try.prog w0 57 #[(.slice (some ⟨sb, 0, none⟩) n cap)] (useg 48 sb d sp :: H) (fun e H' => ∃ d', Srt 0 n d d' ∧ e = .returned (.tuple #[]) ∧ H' = useg 48 sb d' sp :: H) := by
  refine FnS_intro (n := 11) (rs := []) (vs := [(.slice (some ⟨sb, 0, none⟩) n cap)]) Try.func57 rfl Try.ntmps57 rfl rfl ?_
  refine C_seq ?_
  refine C_region ?_
  refine L_y rfl (y_move rfl) rfl ?_
  refine L_y rfl (y_lenS rfl rfl Try.underlying33) rfl ?_
  refine L_y rfl (y_assign rfl) rfl ?_
  refine L_nil ?_
  refine C_region ?_
  refine L_y rfl (y_move rfl) rfl ?_
  refine L_y rfl (y_move rfl) rfl ?_
  refine L_y rfl (y_move rfl) rfl ?_
  refine L_y rfl (y_conv rfl us_3 Try.underlying144 (show _ = (n : Int) from wu64 (by omega) (by omega))) rfl ?_
  refine L_op rfl (op_call rfl rfl (fun a w => Try.call73 a w) rfl ?_)
  refine (len_u n hn).mono ?_
  rintro _ _ ⟨rfl, e⟩
  obtain rfl := e.symm
  clear e
  refine ⟨_, rfl, ?_⟩
  refine L_op rfl (op_call rfl rfl (fun a w => Try.call72 a w) rfl ?_)
  refine (pdq_u hn n 0 n (Go.Sort.bitsLen n) d (by omega) hd (by have := bits_le hn; omega) (Nat.zero_le _) (Nat.le_refl _) (.inl rfl)).mono ?_
  rintro _ _ ⟨d', hd', rfl, rfl⟩
  refine ⟨_, rfl, ?_⟩
  refine L_nil ?_
  refine B_end rv_nil ((hsub (.cons_cons _ (.refl _))).trans (hsub_pick [0] rfl)) ?_
  exact ⟨d', hd', rfl, rfl⟩

end Go.Proofs.Ytighbhplfjjgpaa

/- walks (own work; the walks' lines by a program of this repo). -/
set_option linter.unusedVariables false
set_option linter.unusedSimpArgs false
set_option maxRecDepth 20000
namespace Go.Proofs.Ytighbhplfjjgpaa
open Go.Sl
attribute [local irreducible] BodyQ WpC WpL WpS WpH OpW FnS



set_option maxHeartbeats 1000000 in

theorem xnums_s {w0 : World} {H : Hp} {o : Xo} {segs size : Int} {l : Xl} {A L : Gm} (h : Xm segs size l A L) (s : Int) (hl : l.length < 60000) : FnS Try.prog w0 32 #[ptr o.b, .int .i64 s] (o.seg 90 segs size A L :: H) (fun e H' => ∃ g, slOk 1 g (xnums segs size l s).length (us (xnums segs size l s)) ∧ e = .returned (slV g (xnums segs size l s).length) ∧ H' = slSeg 48 g (us (xnums segs size l s)) :: o.seg 90 segs size A L :: H) := by
  refine FnS_intro (n := 45) (rs := [.tmp 4]) (vs := [ptr o.b, .int .i64 s]) Try.func32 rfl Try.ntmps32 rfl rfl ?_
  refine C_seq ?_
  refine C_region ?_
  refine L_y rfl (y_assign rfl) rfl ?_
  refine L_nil ?_
  refine C_seq ?_
  refine C_seq ?_
  refine C_region ?_
  refine L_y rfl (y_move rfl) rfl ?_
  refine L_y rfl (y_move rfl) rfl ?_
  refine L_op rfl (op_call rfl rfl (fun a w => Try.call20 a w) rfl ?_)
  refine (xlive_s h s).mono ?_
  rintro _ _ ⟨rfl, rfl⟩
  refine ⟨_, rfl, ?_⟩
  refine L_y rfl (y_eqi rfl rfl) rfl ?_
  refine L_nil ?_
  refine C_cond rfl (fun hc0 => ?_) (fun hc0 => ?_)
  · replace hc0 := of_decide_eq_true hc0
    refine C_seq ?_
    refine C_region ?_
    refine L_y rfl (y_assign rfl) rfl ?_
    refine L_nil ?_
    refine C_ret ?_
    refine B_ret (rv_tmp rfl rv_nil) (hsub_flat (H' := [] :: o.seg 90 segs size A L :: H) rfl) ?_
    have hz : cnt18 segs size l s = 0 := by omega
    have hn0 : (xnums segs size l s) = [] := List.eq_nil_of_length_eq_zero (by rw [nums_len]; exact hz)
    rw [hn0]
    exact ⟨none, ⟨rfl, rfl⟩, rfl, rfl⟩
  · replace hc0 := of_decide_eq_false hc0
    refine C_skip ?_
    refine C_seq ?_
    refine C_region ?_
    refine L_y rfl (y_assign rfl) rfl ?_
    refine L_nil ?_
    refine C_seq ?_
    refine C_seq ?_
    refine C_region ?_
    refine L_y rfl (y_move rfl) rfl ?_
    refine L_y rfl (y_nilCheck rfl) rfl ?_
    refine L_y rfl (y_fieldAddr rfl fl_90_1) rfl ?_
    refine L_y rfl (y_load rfl ag_87 (sees 0 0 rfl) rfl) rfl ?_
    refine L_op rfl (op_rangeG rfl Try.underlying87 0 1 rfl rfl (fun B1 => ?_))
    refine L_nil ?_
    refine C_block ?_
    refine C_loop (ι := Xl × Array Nat × Option SlG) (fun i => [(0, ptr o.b), (1, .int .i64 s), (5, slV i.2.2 (xnums segs size i.1 s).length), (19, ptr B1)]) (fun i => [(B1, itO o.r1 A.ck i.2.1 A.ck)] :: slSeg 48 i.2.2 (us (xnums segs size i.1 s)) :: o.seg 90 segs size A L :: H) (fun i => (i.1.map xpair ++ (A.left i.2.1).map kv).Perm (l.map xpair) ∧ slOk 1 i.2.2 (xnums segs size i.1 s).length (us (xnums segs size i.1 s))) (fun i => (A.left i.2.1).length) ([], #[], none) ⟨left_start h.perm, rfl, rfl⟩ ⟨rfl, rfl, rfl, rfl, trivial⟩ (hsub_flat rfl) (fun i hi => ?_)
    obtain ⟨v, seen, g⟩ := i
    obtain ⟨hpm, hok⟩ := hi
    try simp only at hpm hok
    try dsimp only
    refine C_seq ?_
    refine C_region ?_
    refine L_op rfl (op_nextG 0 0 2 1 rfl rfl rfl (fun x hx => h.okA.lt x hx) (Nat.le_refl _) rfl (fun hnx => ?_) (fun en hen => ?_))
    · skip
      refine L_y rfl (y_extract rfl rfl) rfl ?_
      refine L_nil ?_
      refine C_seq ?_
      refine C_cond_f rfl ?_
      refine C_exit ?_
      refine C_seq ?_
      refine C_region ?_
      refine L_y rfl (y_move rfl) rfl ?_
      refine L_op rfl (op_call rfl rfl (fun a w => Try.call57 a w) rfl ?_)
      have hvp := left_end hpm hnx
      have hlen : (xnums segs size v s).length = (xnums segs size l s).length := (xnums_perm hvp s).length_eq
      have hcn := nums_len segs size l s
      cases g with
      | none => exact absurd hok.2 (by omega)
      | some g => ?_
      have hlx := cnt_le segs size l s
      refine (FnS.sub (hsub_pick [1] rfl) (sort_u (sb := g.b) (n := (xnums segs size v s).length) (cap := g.cap) (sp := g.sp) (xnums segs size v s).toArray (by simp) (by omega))).mono ?_
      rintro _ _ ⟨r9, hr9, rfl, rfl⟩
      refine ⟨_, rfl, ?_⟩
      refine L_nil ?_
      refine C_seq ?_
      refine C_region ?_
      refine L_y rfl (y_move rfl) rfl ?_
      refine L_y rfl (y_assign rfl) rfl ?_
      refine L_nil ?_
      refine C_ret ?_
      refine B_ret (rv_tmp rfl rv_nil) ((hsub (.cons_cons _ (.cons_cons _ (.cons _ (.refl _))))).trans (hsub_pick [0, 1] rfl)) ?_
      have hsz : ((xnums segs size v s).toArray).size = (xnums segs size v s).length := by simp
      have hr := sorted_list (d := (xnums segs size v s).toArray) (r := r9) (by rw [hsz]; exact hr9.1) (by rw [hsz]; exact hr9.2) (xnums_perm hvp s) (xnums_sorted h.s s)
      refine ⟨some g, ?_, ?_, ?_⟩
      · refine ⟨by rw [us_len, Nat.mul_one], ?_, ?_⟩
        · rw [us_len, ← hlen, ← us_len]; exact hok.2.1
        · rw [← hlen]; exact hok.2.2
      · rw [← hlen]; rfl
      · show useg 48 g.b _ g.sp :: _ = _
        unfold useg
        rw [hr]; rfl
    · obtain ⟨q, hq, eq1, eq2⟩ := left_in hpm hen
      obtain ⟨ek, ev_, eb⟩ := en
      simp only at eq1 eq2
      subst eq1 eq2
      obtain ⟨t, hb⟩ : ∃ t, ofS segs size q.2 = some t := by
        cases e : ofS segs size q.2 with
        | none => exact absurd e (h.valid q hq).2.2
        | some t => exact ⟨t, rfl⟩
      refine L_y rfl (y_extract rfl rfl) rfl ?_
      refine L_nil ?_
      refine C_seq ?_
      refine C_cond_t rfl ?_
      refine C_skip ?_
      refine C_block ?_
      refine C_seq ?_
      refine C_region ?_
      refine L_y rfl (y_entryG rfl (sees 0 0 rfl) (sees 2 1 rfl) h.okA (Gm.left_mem hen)) rfl ?_
      refine L_y rfl (y_extract rfl rfl) rfl ?_
      refine L_y rfl (y_extract rfl rfl) rfl ?_
      refine L_y rfl (y_assign rfl) rfl ?_
      refine L_y rfl (y_assign rfl) rfl ?_
      refine L_nil ?_
      refine C_seq ?_
      refine C_region ?_
      refine L_y rfl (y_move rfl) rfl ?_
      refine L_y rfl (y_nilCheck rfl) rfl ?_
      refine L_y rfl (y_fieldAddr rfl fl_90_0) rfl ?_
      refine L_y rfl (y_loadA rfl ag_23 sz_23 (sees 2 0 rfl) (Nat.le_of_ble_eq_true rfl) rfl) rfl ?_
      refine L_y rfl (y_move rfl) rfl ?_
      refine L_op rfl (op_call rfl rfl (fun a w => Try.call44 a w) rfl ?_)
      refine (of_s segs size q.2).mono ?_
      rw [hb]
      rintro _ _ ⟨rfl, rfl⟩
      refine ⟨_, rfl, ?_⟩
      refine L_y rfl (y_move rfl) rfl ?_
      refine L_y rfl (y_extract rfl rfl) rfl ?_
      refine L_y rfl (y_extract rfl rfl) rfl ?_
      refine L_y rfl (y_extract rfl rfl) rfl ?_
      refine L_y rfl (y_assign rfl) rfl ?_
      refine L_y rfl (y_assign rfl) rfl ?_
      refine L_y rfl (y_assign rfl) rfl ?_
      refine L_nil ?_
      refine C_seq ?_
      refine C_region ?_
      refine L_y rfl (y_move rfl) rfl ?_
      refine L_y rfl (y_move rfl) rfl ?_
      refine L_y rfl (y_eqi rfl rfl) rfl ?_
      refine L_nil ?_
      refine C_cond rfl (fun hc2 => ?_) (fun hc2 => ?_)
      · have hc1 : t = s := of_decide_eq_true hc2
        refine C_region ?_
        refine L_y rfl (y_move rfl) rfl ?_
        refine L_y rfl (y_move rfl) rfl ?_
        refine L_op rfl (op_buildSlice (vs := [(0, _)]) rfl Try.underlying33 sz_48 zl_48 rfl (by decide) rfl rfl (fun B2 => ?_))
        refine L_op rfl (op_append (gs := g) (len := (xnums segs size v s).length) (m := 1) (xs := us (xnums segs size v s)) (vs := us [q.1]) 2 rfl rfl rfl hok (src_slice (sees 0 0 rfl) (Nat.le_of_ble_eq_true rfl) rfl) rfl (fun v hv => by simp [us] at hv; subst hv; rfl) Try.underlying33 ni_33 sz_48 by_48 (by decide) zl_48 rfl (by rw [nums_len]; have := cnt_le segs size v s; have := left_len hpm; omega) rfl (fun g2 hg2 => ?_))
        rw [← us_append, show (xnums segs size v s) ++ [q.1] = xnums segs size (v ++ [q]) s from by rw [xnums_snoc, if_pos (by rw [hb, hc1])], show (xnums segs size v s).length + 1 = (xnums segs size (v ++ [q]) s).length from by rw [xnums_snoc, if_pos (by rw [hb, hc1]), List.length_append]; rfl] at hg2 ⊢
        refine L_y rfl (y_assign rfl) rfl ?_
        refine L_nil ?_
        refine ⟨(v ++ [q], _, g2), ⟨left_next h.okA hpm hen rfl rfl, hg2⟩, left_less h.okA hen, ⟨rfl, rfl, rfl, rfl, trivial⟩, ((hsub (.cons_cons _ (.cons_cons _ (.cons_cons _ (.cons _ (.refl _)))))).trans (hsub_pick [1, 1, 1] rfl))⟩
      · have hc1 : ¬ t = s := of_decide_eq_false hc2
        refine C_skip ?_
        have e9 : xnums segs size (v ++ [q]) s = xnums segs size v s := by rw [xnums_snoc, if_neg (by rw [hb]; intro e; exact hc1 (Option.some.inj e)), List.append_nil]
        refine ⟨(v ++ [q], _, g), ⟨left_next h.okA hpm hen rfl rfl, ?_⟩, left_less h.okA hen, ⟨rfl, rfl, ?_, rfl, trivial⟩, ?_⟩ <;> try simp only <;> try rw [e9]
        · exact hok
        · rfl
        · exact ((hsub (.cons_cons _ (.cons_cons _ (.cons_cons _ (.refl _))))).trans (hsub_pick [0, 0, 0] rfl))

end Go.Proofs.Ytighbhplfjjgpaa

/- walks (own work; the walks' lines by a program of this repo). -/
set_option linter.unusedVariables false
set_option linter.unusedSimpArgs false
set_option maxRecDepth 20000
namespace Go.Proofs.Ytighbhplfjjgpaa
open Go.Sl
attribute [local irreducible] BodyQ WpC WpL WpS WpH OpW FnS


theorem choose_y {w0 : World} {H : Hp} {o : Xo} {segs size : Int} {l : Xl} {A L : Gm} (h : Xm segs size l A L) {fu : Nat} {cu : List Value} {p : Nat → Bool} (head : Int) (hcf : ∀ args w, (callFunc fu args).run Try.prog w = .ok (.enter fu args) w) (hu : ∀ k : Nat, (k : Int) < segs → ∀ H1, HSub H H1 → FnS Try.prog w0 fu ([Value.int .i64 (k : Int)] ++ cu).toArray H1 (fun e H2 => e = .returned (.bool (p k)) ∧ H2 = H1)) (hm : mayG segs size = true) {v : Nat} (hv : vic (fun k : Nat => !decide ((k : Int) = head) && p k) (fun j => cnt18 segs size l (j : Int)) segs.toNat = some v) (hl : l.length < 60000) : FnS Try.prog w0 11 #[ptr o.b, (.func (.func fu) #[] cu.toArray), .int .i64 head] (o.seg 90 segs size A L :: H) (fun e H' => ∃ g, slOk 1 g (xnums segs size l (v : Int)).length (us (xnums segs size l (v : Int))) ∧ e = .returned (.tuple #[.agg [Value.int .i64 (v : Int), slV g (xnums segs size l (v : Int)).length].toArray, .bool true]) ∧ H' = slSeg 48 g (us (xnums segs size l (v : Int))) :: o.seg 90 segs size A L :: H) := by
  refine FnS_intro (n := 27) (rs := [.cell 6 35, .tmp 7]) (vs := [ptr o.b, (.func (.func fu) #[] cu.toArray), .int .i64 head]) Try.func11 rfl Try.ntmps11 rfl rfl ?_
  refine C_seq ?_
  refine C_region ?_
  refine L_op rfl (op_box rfl rfl rfl (fun B1 => ?_))
  refine L_op rfl (op_box rfl rfl rfl (fun B2 => ?_))
  refine L_op rfl (op_alloc zl_35 rfl (fun B3 => ?_))
  refine L_y rfl (y_assign rfl) rfl ?_
  refine L_nil ?_
  refine C_seq ?_
  refine C_seq ?_
  refine C_region ?_
  refine L_y rfl (y_load rfl ag_38 (sees 2 0 rfl) rfl) rfl ?_
  refine L_y rfl (y_eqfn rfl rfl Try.underlying38) rfl ?_
  refine L_nil ?_
  refine C_cond_f rfl ?_
  refine C_skip ?_
  refine C_seq ?_
  refine C_region ?_
  refine L_y rfl (y_move rfl) rfl ?_
  refine L_y rfl (y_makeFunc rfl rfl) rfl ?_
  refine L_op rfl (op_call rfl rfl (fun a w => Try.call40 a w) rfl ?_)
  refine (FnS.sub (hsub_nilx.trans (hsub_pick [3] rfl)) (victim_y h (f := 41) (cap := [ptr B2, ptr B1]) (C := fun _ => []) (p := (fun k : Nat => !decide ((k : Int) = head) && p k)) (fun a w => Try.call41 a w) (fun k hk H1 hs => choose1_s (head := head) (b := p k) (Sees.sub (by exact sees 1 0 rfl) (hs.trans (HSub.drop _ _))) (Sees.sub (by exact sees 2 0 rfl) (hs.trans (HSub.drop _ _))) hcf (hu k hk _ (HSub.trans (by exact hsub (.cons _ (.cons _ (.cons _ (.refl _))))) (hs.trans (HSub.drop _ _))))) hm)).mono ?_
  rw [hv]
  rintro _ _ ⟨rfl, rfl⟩
  refine ⟨_, rfl, ?_⟩
  refine L_y rfl (y_move rfl) rfl ?_
  refine L_y rfl (y_extract rfl rfl) rfl ?_
  refine L_y rfl (y_extract rfl rfl) rfl ?_
  refine L_y rfl (y_assign rfl) rfl ?_
  refine L_y rfl (y_assign rfl) rfl ?_
  refine L_nil ?_
  refine C_seq ?_
  refine C_seq ?_
  refine C_region ?_
  refine L_y rfl (y_move rfl) rfl ?_
  refine L_y rfl (y_not rfl) rfl ?_
  refine L_nil ?_
  refine C_cond_f rfl ?_
  refine C_skip ?_
  refine C_seq ?_
  refine C_region ?_
  refine L_y rfl (y_move rfl) rfl ?_
  refine L_y rfl (y_move rfl) rfl ?_
  refine L_y rfl (y_move rfl) rfl ?_
  refine L_op rfl (op_call rfl rfl (fun a w => Try.call32 a w) rfl ?_)
  refine (FnS.sub (hsub_pick [1] rfl) (xnums_s h (v : Int) hl)).mono ?_
  rintro _ _ ⟨g, hg, rfl, rfl⟩
  obtain ⟨ga, gc, ge1, _⟩ := holds_sl (w0 := w0) (H := [slSeg 48 g (us (xnums segs size l (v : Int)))]) (s := 0) rfl hg
  rw [ge1]
  refine ⟨_, rfl, ?_⟩
  refine L_y rfl (y_build (vs := [(0, _), (1, _)]) rfl pl_35 zl_35 (fill_cons (off := 0) (m := 1) (vs := [_]) rfl rfl rfl (Nat.le_of_ble_eq_true rfl) (fill_cons (off := 1) (m := 1) (vs := [_]) rfl rfl rfl (Nat.le_of_ble_eq_true rfl) rfl))) rfl ?_
  refine L_op rfl (op_store 3 0 rfl rfl rfl sz_35 rfl rfl (ones rfl) (by decide) ?_)
  skip
  refine L_y rfl (y_assign rfl) rfl ?_
  refine L_nil ?_
  refine C_ret ?_
  refine B_ret (rv_cellA rfl ag_35 sz_35 (sees 3 0 rfl) (Nat.le_of_ble_eq_true rfl) rfl (rv_tmp rfl rv_nil)) ((hsub (.cons_cons _ (.cons_cons _ (.cons _ (.cons _ (.cons _ (.cons _ (.refl _)))))))).trans (hsub_pick [0, 0] rfl)) ?_
  exact ⟨g, hg, by rw [ge1]; rfl, rfl⟩

end Go.Proofs.Ytighbhplfjjgpaa

/- The document's list of numbers, in memory (own work). -/
set_option linter.unusedVariables false
set_option linter.unusedSimpArgs false
namespace Go.Sl
/-- Pairs of numbers. -/
def pcs (l : List (Int × Int)) : List Value := (l.map fun x => [Value.int .i64 x.1, Value.int .i64 x.2]).flatten
theorem pcs_append (a b : List (Int × Int)) : pcs (a ++ b) = pcs a ++ pcs b := by simp [pcs]
theorem pcs_at {l : List (Int × Int)} {i : Nat} {x : Int × Int} {sp : List Value} (h : l[i]? = some x) : (pcs l ++ sp)[i * 2]? = some (.int .i64 x.1) := by
  induction l generalizing i with
  | nil => simp at h
  | cons y l ih =>
    cases i with
    | zero => simp at h; subst h; rfl
    | succ i =>
      simp only [List.getElem?_cons_succ] at h
      have := ih h
      rw [show pcs (y :: l) = [Value.int .i64 y.1, Value.int .i64 y.2] ++ pcs l from rfl, show (i + 1) * 2 = i * 2 + 2 by omega]
      simpa using this
/-- Where each sector lies, of the first ones. -/
def lieK (z k : Nat) : List (Int × Int) := [(-1, -1), (-1, -1)] ++ (List.range k).map fun i => (((i / z : Nat) : Int), ((i % z : Nat) : Int))
theorem lieK_next {z s j : Nat} (h : j < z) : lieK z (s * z + (j + 1)) = lieK z (s * z + j) ++ [((s : Int), (j : Int))] := by
  unfold lieK
  rw [show s * z + (j + 1) = (s * z + j) + 1 by omega, List.range_succ, List.map_append, List.append_assoc]
  have e1 : (s * z + j) / z = s := by rw [Nat.mul_comm, Nat.mul_add_div (by omega), Nat.div_eq_of_lt h]; rfl
  have e2 : (s * z + j) % z = j := by rw [Nat.mul_comm, Nat.mul_add_mod, Nat.mod_eq_of_lt h]
  simp only [List.map_cons, List.map_nil, e1, e2]
theorem lieK_at {z k i : Nat} (h : i < k + 2) : (lieK z k)[i]? = some (if i < 2 then (-1, -1) else ((((i - 2) / z : Nat) : Int), (((i - 2) % z : Nat) : Int))) := by
  unfold lieK
  match i, h with
  | 0, _ => rfl
  | 1, _ => rfl
  | i + 2, h =>
    rw [List.getElem?_append_right (by simp), if_neg (by omega), List.getElem?_map, show i + 2 - [((-1 : Int), (-1 : Int)), (-1, -1)].length = i from rfl, List.getElem?_range (by omega)]
    rfl
theorem may_nat {segs size : Int} (h : mayG segs size = true) : ∃ s z : Nat, segs = s ∧ size = z ∧ 3 ≤ s ∧ s ≤ 64 ∧ 1 ≤ z ∧ z ≤ 32 := by
  obtain ⟨h1, h2, h3, h4⟩ := mayG_spec h
  exact ⟨segs.toNat, size.toNat, by omega, by omega, by omega, by omega, by omega, by omega⟩
/-- The document's segment of a sector. -/
def seg18 (segs size a : Int) : Int := match ofS segs size a with | some s => s | none => -1
theorem seg18_no {segs size a : Int} (h : ofS segs size a = none) : seg18 segs size a = -1 := by unfold seg18; rw [h]
/-- Numbers with their sectors. -/
def lcs (l : Xl) : List Value := (l.map fun x => [Value.int .u64 (x.1 : Int), Value.int .i64 x.2]).flatten
theorem lcs_len (l : Xl) : (lcs l).length = l.length * 2 := by
  induction l with
  | nil => rfl
  | cons x l ih => simp only [lcs, List.map_cons, List.flatten_cons, List.length_append, List.length_cons] at ih ⊢; rw [ih]; simp; omega
theorem lcs_append (a b : Xl) : lcs (a ++ b) = lcs a ++ lcs b := by simp [lcs]
theorem lcs_at {l : Xl} {i : Nat} {x : Nat × Int} {sp : List Value} (h : l[i]? = some x) : (lcs l ++ sp)[i * 2]? = some (.int .u64 (x.1 : Int)) ∧ (lcs l ++ sp)[i * 2 + 1]? = some (.int .i64 x.2) ∧ ((lcs l ++ sp).drop (i * 2)).take 2 = [.int .u64 (x.1 : Int), .int .i64 x.2] := by
  induction l generalizing i with
  | nil => simp at h
  | cons y l ih =>
    cases i with
    | zero => simp at h; subst h; exact ⟨rfl, rfl, rfl⟩
    | succ i =>
      simp only [List.getElem?_cons_succ] at h
      have := ih h
      rw [show lcs (y :: l) = [Value.int .u64 (y.1 : Int), Value.int .i64 y.2] ++ lcs l from rfl, show (i + 1) * 2 = i * 2 + 2 by omega]
      simpa using this
/-- Where a number stands in the list. -/
def fnd (l : Xl) (n : Nat) : Int := match l.findIdx? (fun x => x.1 == n) with | some i => (i : Int) | none => -1
theorem fnd_at {l : Xl} {n i : Nat} {x : Nat × Int} (hi : l[i]? = some x) (hx : x.1 = n) (hno : ∀ j y, j < i → l[j]? = some y → y.1 ≠ n) : fnd l n = i := by
  unfold fnd
  obtain ⟨hlt, he⟩ := List.getElem?_eq_some_iff.1 hi
  have : l.findIdx? (fun x => x.1 == n) = some i := by
    rw [List.findIdx?_eq_some_iff_getElem]
    refine ⟨hlt, by rw [he]; simpa using hx, ?_⟩
    intro j hj
    have := hno j _ hj (List.getElem?_eq_getElem (by omega))
    simpa using this
  rw [this]
theorem fnd_no {l : Xl} {n : Nat} (hno : ∀ j y, j < l.length → l[j]? = some y → y.1 ≠ n) : fnd l n = -1 := by
  unfold fnd
  have : l.findIdx? (fun x => x.1 == n) = none := by
    rw [List.findIdx?_eq_none_iff]
    intro x hx
    obtain ⟨j, hj, rfl⟩ := List.getElem_of_mem hx
    have := hno j _ hj (List.getElem?_eq_getElem hj)
    simpa using this
  rw [this]
theorem fnd_none {l : Xl} {n : Nat} (h : xfind l n = none) : fnd l n = -1 := by
  refine fnd_no fun j y hj hy e => ?_
  unfold xfind at h
  rw [Option.map_eq_none_iff, List.find?_eq_none] at h
  exact h y (List.mem_of_getElem? hy) (by simp [e])
theorem fnd_some {l : Xl} (hs : Xs l) {n : Nat} {a : Int} (h : xfind l n = some a) : ∃ i, l[i]? = some (n, a) ∧ fnd l n = (i : Nat) ∧ i < l.length := by
  have hm := (xfind_mem hs).1 h
  obtain ⟨i, hi, e⟩ := List.getElem_of_mem hm
  have h1 : l[i]? = some (n, a) := by rw [List.getElem?_eq_getElem hi, e]
  refine ⟨i, h1, fnd_at h1 rfl ?_, hi⟩
  intro j y hj hy en
  have h3 := List.pairwise_iff_getElem.1 hs j i (by omega) hi hj
  rw [List.getElem?_eq_getElem (by omega)] at hy
  rw [Option.some.inj hy, e] at h3
  simp only at h3
  omega
/-! ### A number is laid among rising ones -/
def big (l : Xl) (n i : Nat) : Bool := (l.take i).any fun x => decide (n < x.1)
def outI (l : Xl) (n : Nat) (a : Int) (i : Nat) : Xl := if big l n i then xins (l.take i) n a else l.take i
theorem big_next {l : Xl} {n i : Nat} {x : Nat × Int} (h : l[i]? = some x) : big l n (i + 1) = (big l n i || decide (n < x.1)) := by
  unfold big
  rw [List.take_add_one, h]
  simp
theorem xins_end {l : Xl} {n : Nat} {a : Int} (h : ∀ x ∈ l, ¬ n < x.1) : xins l n a = l ++ [(n, a)] := by
  induction l with
  | nil => rfl
  | cons x l ih =>
    unfold xins
    rw [if_neg (h x (List.mem_cons_self ..)), ih fun y hy => h y (List.mem_cons_of_mem _ hy)]
    rfl
theorem xins_mid {l : Xl} {n : Nat} {a : Int} {x : Nat × Int} (h : ∀ x ∈ l, ¬ n < x.1) (hx : n < x.1) : xins (l ++ [x]) n a = l ++ [(n, a), x] := by
  induction l with
  | nil => show xins [x] n a = [(n, a), x]; rw [xins, if_pos hx]
  | cons y l ih =>
    rw [List.cons_append, xins, if_neg (h y (List.mem_cons_self ..)), ih fun z hz => h z (List.mem_cons_of_mem _ hz)]
    rfl
theorem xins_more {l : Xl} {n : Nat} {a : Int} {x : Nat × Int} (h : l.any (fun x => decide (n < x.1)) = true) : xins (l ++ [x]) n a = xins l n a ++ [x] := by
  induction l with
  | nil => cases h
  | cons y l ih =>
    rw [List.cons_append, xins]
    by_cases hy : n < y.1
    · rw [if_pos hy, xins, if_pos hy]; rfl
    · rw [if_neg hy, ih (by simpa [hy] using h)]
      rw [show xins (y :: l) n a = y :: xins l n a from by rw [xins, if_neg hy]]; rfl
section
variable {l : Xl} {n i : Nat} {a : Int} {x : Nat × Int}
theorem big_f (h : big l n i = false) : ∀ y ∈ l.take i, ¬ n < y.1 := by
  intro y hy hlt
  unfold big at h
  rw [List.any_eq_false] at h
  exact h y hy (by simpa using hlt)
theorem outI_0 : outI l n a 0 = [] := by unfold outI big; simp
theorem out_first (hb : big l n i = false) (hx : l[i]? = some x) (hlt : n < x.1) : outI l n a (i + 1) = outI l n a i ++ [(n, a)] ++ [x] := by
  unfold outI
  rw [big_next hx, hb, decide_eq_true hlt]
  simp only [Bool.or_true, if_true, Bool.false_eq_true, if_false]
  rw [List.take_add_one, hx, Option.toList_some, xins_mid (big_f hb) hlt]
  simp
theorem out_not (hb : big l n i = false) (hx : l[i]? = some x) (hlt : ¬ n < x.1) : outI l n a (i + 1) = outI l n a i ++ [x] := by
  unfold outI
  rw [big_next hx, hb, decide_eq_false hlt]
  simp only [Bool.or_false, Bool.false_eq_true, if_false]
  rw [List.take_add_one, hx]; rfl
theorem out_more (hb : big l n i = true) (hx : l[i]? = some x) : outI l n a (i + 1) = outI l n a i ++ [x] := by
  unfold outI
  rw [big_next hx, hb]
  simp only [Bool.true_or, if_true]
  rw [List.take_add_one, hx, Option.toList_some, xins_more hb]
theorem out_end (hb : big l n l.length = false) : outI l n a l.length ++ [(n, a)] = xins l n a := by
  have := big_f hb
  rw [List.take_length] at this
  rw [xins_end this]
  unfold outI
  rw [hb]; simp
theorem out_done (hb : big l n l.length = true) : outI l n a l.length = xins l n a := by
  unfold outI
  rw [hb, if_pos rfl, List.take_length]
theorem out_len (h : i ≤ l.length) : (outI l n a i).length ≤ l.length + 1 := by
  unfold outI
  split
  · rw [xins_len, List.length_take]; omega
  · rw [List.length_take]; omega
end
theorem lcs_one (l : Xl) : ∀ v ∈ lcs l, one v = true := by
  intro v hv
  unfold lcs at hv
  rw [List.mem_flatten] at hv
  obtain ⟨c, hc, hv⟩ := hv
  obtain ⟨x, _, rfl⟩ := List.mem_map.1 hc
  simp at hv
  rcases hv with rfl | rfl <;> rfl
end Go.Sl

/- Deeds on numbers (own work). -/
set_option linter.unusedVariables false
set_option linter.unusedSimpArgs false
namespace Go.Sl
/-- A deed: what the list is then, and the error. -/
def dd (segs size : Int) (l : Xl) (d n : Nat) (a : Int) : Xl × Int := if d % 4 = 2 then xput segs size l n a true else if d % 4 = 3 then xdrop l n else xput segs size l n a false
def bos (l : List Bool) : List Value := l.map Value.bool
theorem bos_len (l : List Bool) : (bos l).length = l.length := by simp [bos]
theorem us_hat {l : List Value} {off i : Nat} {u : List Nat} (hv : (l.drop off).take (us u).length = us u) (hi : i < u.length) : l[off + i * 1]? = some (Value.int .u64 ((u.getD i 0 : Nat) : Int)) := by
  have h1 : ((l.drop off).take (us u).length)[i]? = (us u)[i]? := by rw [hv]
  rw [List.getElem?_take_of_lt (by rw [us_len]; exact hi), List.getElem?_drop] at h1
  rw [Nat.mul_one, h1]
  simp [us, List.getD, hi]
theorem bos_hat {l : List Value} {off i : Nat} {u : List Bool} (hv : (l.drop off).take (bos u).length = bos u) (hi : i < u.length) : l[off + i * 1]? = some (Value.bool (u.getD i false)) := by
  have h1 : ((l.drop off).take (bos u).length)[i]? = (bos u)[i]? := by rw [hv]
  rw [List.getElem?_take_of_lt (by rw [bos_len]; exact hi), List.getElem?_drop] at h1
  rw [Nat.mul_one, h1]
  simp [bos, List.getD, hi]
end Go.Sl

/- What a plan gains (own work). -/
set_option linter.unusedVariables false
set_option linter.unusedSimpArgs false
namespace Go.Sl
/-- Does a number lie in the segment? -/
def liesIn (segs size : Int) (l : Xl) (seg : Int) (n : Nat) : Bool := match xfind l n with
  | some a => decide (ofS segs size a = some seg)
  | none => false
/-- The numbers that lie there, each once. -/
def gset (segs size : Int) (l : Xl) (seg : Int) (ns : List Nat) : List Nat := ns.foldl (fun acc n => if liesIn segs size l seg n && !acc.contains n then acc ++ [n] else acc) []
theorem gset_next {segs size : Int} {l : Xl} {seg : Int} {ns : List Nat} {i n : Nat} (h : ns[i]? = some n) : gset segs size l seg (ns.take (i + 1)) = if liesIn segs size l seg n && !(gset segs size l seg (ns.take i)).contains n then gset segs size l seg (ns.take i) ++ [n] else gset segs size l seg (ns.take i) := by
  unfold gset
  rw [List.take_add_one, h, Option.toList_some, List.foldl_append]
  rfl
/-- A map of numbers that has just these. -/
structure Gs (acc : List Nat) (G : Gm) : Prop where
  ok : G.ok
  has : ∀ n : Nat, (G.get (n : Int)).isSome = acc.contains n
  len : G.es.length = acc.length
theorem Gs.new : Gs [] Gm.new := ⟨Gm.new_ok, fun n => rfl, rfl⟩
theorem Gs.put {acc : List Nat} {G : Gm} (h : Gs acc G) (n : Nat) (v : Value) : Gs (if acc.contains n then acc else acc ++ [n]) (G.put (n : Int) v) where
  ok := Gm.put_ok h.ok _ _
  has m := by
    rw [Gm.get_put]
    by_cases e : (m : Int) = (n : Int)
    · have : m = n := by omega
      subst this
      rw [if_pos rfl]
      cases hc : acc.contains m
      · simp
      · simp only [if_true]; rw [hc]; rfl
    · rw [if_neg e, h.has]
      have : ¬ m = n := by omega
      split
      · rfl
      · simp [this]
  len := by
    rw [Gm.put_len, h.has, h.len]
    split <;> simp
theorem gset_len (segs size : Int) (l : Xl) (seg : Int) (ns : List Nat) (i : Nat) : (gset segs size l seg (ns.take i)).length ≤ ns.length := by
  have key : ∀ (ms acc : List Nat), (ms.foldl (fun acc n => if liesIn segs size l seg n && !acc.contains n then acc ++ [n] else acc) acc).length ≤ acc.length + ms.length := by
    intro ms
    induction ms with
    | nil => intro acc; simp
    | cons m ms ih =>
      intro acc
      rw [List.foldl_cons]
      refine Nat.le_trans (ih _) ?_
      split <;> simp <;> omega
  have := key (ns.take i) []
  unfold gset
  rw [List.length_take] at this
  simp at this ⊢
  omega
/-- Cells that are laid one by one. -/
def laidL (segs size : Int) (ll : Xl) : Xl := ll.foldl (fun x c => (xput segs size x c.1 c.2 false).1) []
theorem laid_next {segs size : Int} {ll : Xl} {i : Nat} {c : Nat × Int} (h : ll[i]? = some c) : laidL segs size (ll.take (i + 1)) = (xput segs size (laidL segs size (ll.take i)) c.1 c.2 false).1 := by
  unfold laidL
  rw [List.take_add_one, h, Option.toList_some, List.foldl_append]
  rfl
theorem lcs_hat {l : List Value} {off i : Nat} {al : Xl} {x : Nat × Int} (hv : (l.drop off).take (lcs al).length = lcs al) (hi : al[i]? = some x) : l[off + i * 2]? = some (.int .u64 (x.1 : Int)) ∧ l[off + i * 2 + 1]? = some (.int .i64 x.2) := by
  have hlt := (List.getElem?_eq_some_iff.1 hi).1
  have h := lcs_at (sp := []) hi
  rw [List.append_nil] at h
  have e : ∀ j, j < (lcs al).length → l[off + j]? = (lcs al)[j]? := fun j hj => by
    rw [← hv, List.getElem?_take_of_lt hj, List.getElem?_drop]
  have hl := lcs_len al
  exact ⟨by rw [e _ (by omega)]; exact h.1, by rw [Nat.add_assoc, e _ (by omega)]; exact h.2.1⟩
end Go.Sl

/- walks (own work; the walks' lines by a program of this repo). -/
set_option linter.unusedVariables false
set_option linter.unusedSimpArgs false
set_option maxRecDepth 20000
namespace Go.Proofs.Ytighbhplfjjgpaa
open Go.Sl
attribute [local irreducible] BodyQ WpC WpL WpS WpH OpW FnS


set_option maxHeartbeats 1000000 in

theorem gain_y {w0 : World} {H : Hp} {o : Xo} {segs size : Int} {l : Xl} {A L : Gm} (h : Xm segs size l A L) {pn : Option Addr} {cn : Nat} {ns : List Nat} (hN : Holds w0 H pn (us ns)) (hl : ns.length < 1000000) (seg : Int) (hm : mayG segs size = true) (hs : ¬ seg < 0) (hs2 : ¬ segs ≤ seg) : FnS Try.prog w0 17 #[ptr o.b, shV segs size, .agg [Value.int .i64 seg, .slice pn ns.length cn].toArray] (o.seg 90 segs size A L :: H) (fun e H' => e = .returned (.int .i64 (max (size - ((gset segs size l seg ns).length : Int)) 0)) ∧ H' = o.seg 90 segs size A L :: H) := by
  refine FnS_intro (n := 70) (rs := [.tmp 6]) (vs := [ptr o.b, shV segs size, .agg [Value.int .i64 seg, .slice pn ns.length cn].toArray]) Try.func17 rfl Try.ntmps17 rfl rfl ?_
  refine C_seq ?_
  refine C_region ?_
  refine L_op rfl (op_box rfl rfl rfl (fun B1 => ?_))
  refine L_op rfl (op_box rfl rfl rfl (fun B2 => ?_))
  refine L_y rfl (y_assign rfl) rfl ?_
  refine L_nil ?_
  refine C_seq ?_
  refine C_seq ?_
  refine C_region ?_
  refine L_y rfl (y_loadA rfl ag_23 sz_23 (sees 1 0 rfl) (Nat.le_of_ble_eq_true rfl) rfl) rfl ?_
  refine L_op rfl (op_call rfl rfl (fun a w => Try.call9 a w) rfl ?_)
  refine (check_s segs size).mono ?_
  rintro _ _ ⟨rfl, e⟩
  obtain rfl := e.symm
  clear e
  rw [show chkE segs size = 0 from by unfold chkE; rw [hm]; rfl]
  refine ⟨_, rfl, ?_⟩
  refine L_y rfl (y_nei rfl rfl) rfl ?_
  refine L_y rfl (y_move rfl) rfl ?_
  refine L_y rfl (y_fieldAddr rfl fl_35_0) rfl ?_
  refine L_y rfl (y_load rfl ag_3 (sees 0 0 rfl) rfl) rfl ?_
  refine L_y rfl (y_lss rfl rfl) rfl ?_
  refine L_y rfl (y_pick_f rfl rfl) rfl ?_
  refine L_y rfl (y_move rfl) rfl ?_
  refine L_case 23 rfl (fun hg1_9 => ?_) (fun hg1_9 => ?_)
  · exact absurd (of_decide_eq_true hg1_9) (by omega)
  · skip
    refine L_y rfl (y_fieldAddr rfl fl_35_0) rfl ?_
    refine L_y rfl (y_load rfl ag_3 (sees 0 0 rfl) rfl) rfl ?_
    refine L_y rfl (y_fieldAddr rfl fl_23_0) rfl ?_
    refine L_y rfl (y_load rfl ag_3 (sees 1 0 rfl) rfl) rfl ?_
    refine L_y rfl (y_geq rfl rfl) rfl ?_
    refine L_y rfl (y_pick_f rfl rfl) rfl ?_
    refine L_nil ?_
    refine C_cond rfl (fun hc0 => absurd hc0 (by simp <;> omega)) (fun hc0 => ?_)
    refine C_skip ?_
    refine C_seq ?_
    refine C_region ?_
    refine L_op rfl (op_makeMapG .u64 rfl (fun B3 => ?_))
    refine L_y rfl (y_assign rfl) rfl ?_
    refine L_nil ?_
    refine C_seq ?_
    refine C_seq ?_
    refine C_region ?_
    refine L_y rfl (y_fieldAddr rfl fl_35_1) rfl ?_
    refine L_y rfl (y_load rfl ag_33 (sees 1 0 rfl) rfl) rfl ?_
    refine L_y rfl (y_lenS rfl rfl Try.underlying33) rfl ?_
    refine L_y rfl (y_move rfl) rfl ?_
    refine L_nil ?_
    refine C_block ?_
    refine C_loop (ι := Nat × Gm) (fun i => [(0, ptr o.b), (4, ptr B1), (5, ptr B2), (7, .map (some B3)), (32, .slice pn ns.length cn), (33, .int .i64 (ns.length : Int)), (34, .int .i64 (i.1 : Int))]) (fun i => [(B3, i.2.obj .u64)] :: o.seg 90 segs size A L :: [(B1, .cells [Value.int .i64 segs, .int .i64 size].toArray 23)] :: [(B2, .cells [Value.int .i64 seg, .slice pn ns.length cn].toArray 35)] :: H) (fun i => i.1 ≤ ns.length ∧ Gs (gset segs size l seg (ns.take i.1)) i.2) (fun i => ns.length - i.1) (0, Gm.new) ⟨Nat.zero_le _, Gs.new⟩ ⟨rfl, rfl, rfl, rfl, rfl, rfl, rfl, trivial⟩ ((hsub (.cons_cons _ (.cons_cons _ (.cons_cons _ (.cons_cons _ (.refl _)))))).trans (hsub_pick [0, 2, 1, 0] rfl)) (fun i hi => ?_)
    obtain ⟨i, G⟩ := i
    obtain ⟨hi, hG⟩ := hi
    try simp only at hi hG
    try dsimp only
    refine C_seq ?_
    refine C_region ?_
    refine L_y rfl (y_lss rfl rfl) rfl ?_
    refine L_nil ?_
    refine C_seq ?_
    refine C_cond rfl (fun hc1 => ?_) (fun hc1 => ?_)
    · replace hc1 : i < ns.length := by have := of_decide_eq_true hc1; omega
      obtain ⟨n, hx⟩ : ∃ n, ns[i]? = some n := ⟨_, List.getElem?_eq_getElem hc1⟩
      obtain ⟨b1, o1, l1, T1, fr1, rfl, hs1, hle1, hv1⟩ := hN (by rw [us_len]; omega)
      rw [us_len] at hle1
      have hnn : ns.getD i 0 = n := by simp [List.getD, hx]
      refine C_skip ?_
      refine C_seq ?_
      refine C_block ?_
      refine C_seq ?_
      refine C_region ?_
      refine L_y rfl (y_indexS rfl rfl Try.underlying33 sz_48 (by omega) (by omega) (show _ = o1 + i * 1 from by simp)) rfl ?_
      refine L_y rfl (y_load rfl ag_48 (hs1.up.up.up.up) (show _ = some (Value.int .u64 (n : Int)) from by rw [← hnn]; exact us_hat hv1 hc1)) rfl ?_
      refine L_y rfl (y_assign rfl) rfl ?_
      refine L_nil ?_
      refine C_seq ?_
      refine C_region ?_
      refine L_y rfl (y_move rfl) rfl ?_
      refine L_y rfl (y_move rfl) rfl ?_
      refine L_op rfl (op_call rfl rfl (fun a w => Try.call33 a w) rfl ?_)
      refine (FnS.sub (hsub_pick [1] rfl) (xat_s h n)).mono ?_
      rintro _ _ ⟨rfl, rfl⟩
      refine ⟨_, rfl, ?_⟩
      refine L_y rfl (y_move rfl) rfl ?_
      refine L_y rfl (y_extract rfl rfl) rfl ?_
      refine L_y rfl (y_extract rfl rfl) rfl ?_
      refine L_y rfl (y_assign rfl) rfl ?_
      refine L_y rfl (y_assign rfl) rfl ?_
      refine L_nil ?_
      refine C_seq ?_
      refine C_region ?_
      refine L_y rfl (y_loadA rfl ag_23 sz_23 (sees 2 0 rfl) (Nat.le_of_ble_eq_true rfl) rfl) rfl ?_
      refine L_y rfl (y_move rfl) rfl ?_
      refine L_op rfl (op_call rfl rfl (fun a w => Try.call44 a w) rfl ?_)
      refine (of_s segs size _).mono ?_
      rintro _ _ ⟨rfl, e⟩
      obtain rfl := e.symm
      clear e
      refine ⟨_, rfl, ?_⟩
      refine L_y rfl (y_move rfl) rfl ?_
      refine L_y rfl (y_extract rfl rfl) rfl ?_
      refine L_y rfl (y_extract rfl rfl) rfl ?_
      refine L_y rfl (y_extract rfl rfl) rfl ?_
      refine L_y rfl (y_assign rfl) rfl ?_
      refine L_y rfl (y_assign rfl) rfl ?_
      refine L_y rfl (y_assign rfl) rfl ?_
      refine L_nil ?_
      refine C_seq ?_
      refine C_region ?_
      refine L_y rfl (y_move rfl) rfl ?_
      refine L_y rfl (y_move rfl) rfl ?_
      refine L_case 52 rfl (fun hg9_2 => ?_) (fun hg9_2 => ?_)
      · obtain ⟨a, hq⟩ : ∃ a, xfind l (n : Int) = some a := Option.isSome_iff_exists.1 hg9_2
        obtain ⟨t, hb⟩ := ofS_some h hq
        refine L_y rfl (y_move rfl) rfl ?_
        refine L_y rfl (y_pick_t rfl rfl) rfl ?_
        refine L_y rfl (y_move rfl) rfl ?_
        refine L_case 55 rfl (fun hg9_5 => ?_) (fun hg9_5 => ?_)
        · skip
          refine L_y rfl (y_move rfl) rfl ?_
          refine L_y rfl (y_fieldAddr rfl fl_35_0) rfl ?_
          refine L_y rfl (y_load rfl ag_3 (sees 3 0 rfl) rfl) rfl ?_
          refine L_y rfl (y_eqi rfl rfl) rfl ?_
          refine L_y rfl (y_pick_t rfl rfl) rfl ?_
          refine L_nil ?_
          refine C_cond rfl (fun hc2 => ?_) (fun hc2 => ?_)
          · have hin : ofS segs size a = some seg := by have h5 := of_decide_eq_true hc2; rw [hq, Option.getD_some, hb, Option.getD_some] at h5; rw [hb, h5]
            refine C_region ?_
            refine L_y rfl (y_move rfl) rfl ?_
            refine L_y rfl (y_move rfl) rfl ?_
            refine L_op rfl (op_mapUpdateG 1 0 rfl rfl rfl Try.underlying91 Try.underlying48 hG.ok rfl rfl ?_)
            refine L_nil ?_
            refine C_region ?_
            refine L_y rfl (y_add rfl rfl (show _ = ((i + 1 : Nat) : Int) from by rw [wi64 (by omega) (by omega)]; omega)) rfl ?_
            refine L_y rfl (y_move rfl) rfl ?_
            refine L_nil ?_
            have hz : (gset segs size l seg (ns.take (i + 1))) = (if (gset segs size l seg (ns.take i)).contains n then (gset segs size l seg (ns.take i)) else (gset segs size l seg (ns.take i)) ++ [n]) := by rw [gset_next hx, show liesIn segs size l seg n = true from by unfold liesIn; rw [hq]; exact decide_eq_true hin]; cases (gset segs size l seg (ns.take i)).contains n <;> rfl
            refine ⟨(i + 1, _), ⟨by simp only; omega, ?_⟩, by simp only; omega, ⟨rfl, rfl, rfl, rfl, rfl, rfl, rfl, trivial⟩, ((hsub (.cons_cons _ (.cons_cons _ (.cons_cons _ (.cons_cons _ (.refl _)))))).trans (hsub_pick [1, 0, 0, 0] rfl))⟩
            try simp only
            rw [hz]
            exact hG.put n _
          · have hin : ¬ ofS segs size a = some seg := by
              have h5 := of_decide_eq_false hc2
              rw [hq, Option.getD_some, hb, Option.getD_some] at h5
              rw [hb]; exact fun e => h5 (Option.some.inj e)
            refine C_skip ?_
            refine C_region ?_
            refine L_y rfl (y_add rfl rfl (show _ = ((i + 1 : Nat) : Int) from by rw [wi64 (by omega) (by omega)]; omega)) rfl ?_
            refine L_y rfl (y_move rfl) rfl ?_
            refine L_nil ?_
            have hz : (gset segs size l seg (ns.take (i + 1))) = (gset segs size l seg (ns.take i)) := by rw [gset_next hx, show liesIn segs size l seg n = false from by unfold liesIn; rw [hq] <;> first | rfl | exact decide_eq_false hin] <;> rfl
            refine ⟨(i + 1, G), ⟨by simp only; omega, ?_⟩, by simp only; omega, ⟨rfl, rfl, rfl, rfl, rfl, rfl, rfl, trivial⟩, ((hsub (.cons_cons _ (.cons_cons _ (.cons_cons _ (.cons_cons _ (.refl _)))))).trans (hsub_pick [1, 0, 0, 0] rfl))⟩
            try simp only
            rw [hz]
            exact hG
        · exact absurd hg9_5 (by rw [hq, Option.getD_some, hb]; simp)
      · have hq : xfind l (n : Int) = none := by cases e : xfind l (n : Int) with
          | none => rfl
          | some a => rw [e] at hg9_2; cases hg9_2
        refine L_skip rfl rfl ?_
        refine L_y rfl (y_pick_f rfl rfl) rfl ?_
        refine L_y rfl (y_move rfl) rfl ?_
        refine L_skip rfl rfl ?_
        refine L_skip rfl rfl ?_
        refine L_skip rfl rfl ?_
        refine L_skip rfl rfl ?_
        refine L_y rfl (y_pick_f rfl rfl) rfl ?_
        refine L_nil ?_
        refine C_cond_f rfl ?_
        refine C_skip ?_
        refine C_region ?_
        refine L_y rfl (y_add rfl rfl (show _ = ((i + 1 : Nat) : Int) from by rw [wi64 (by omega) (by omega)]; omega)) rfl ?_
        refine L_y rfl (y_move rfl) rfl ?_
        refine L_nil ?_
        have hz : (gset segs size l seg (ns.take (i + 1))) = (gset segs size l seg (ns.take i)) := by rw [gset_next hx, show liesIn segs size l seg n = false from by unfold liesIn; rw [hq] <;> first | rfl | exact decide_eq_false hin] <;> rfl
        refine ⟨(i + 1, G), ⟨by simp only; omega, ?_⟩, by simp only; omega, ⟨rfl, rfl, rfl, rfl, rfl, rfl, rfl, trivial⟩, ((hsub (.cons_cons _ (.cons_cons _ (.cons_cons _ (.cons_cons _ (.refl _)))))).trans (hsub_pick [1, 0, 0, 0] rfl))⟩
        try simp only
        rw [hz]
        exact hG
    · obtain rfl : i = ns.length := by have := of_decide_eq_false hc1; omega
      refine C_exit ?_
      refine C_seq ?_
      have hgl := hG.len
      obtain ⟨g1, g2, g3, g4⟩ := mayG_spec hm
      have hgb : (gset segs size l seg (ns.take ns.length)).length ≤ ns.length := gset_len ..
      rw [List.take_length] at hgl hgb
      refine C_region ?_
      refine L_y rfl (y_fieldAddr rfl fl_23_1) rfl ?_
      refine L_y rfl (y_load rfl ag_3 (sees 2 0 rfl) rfl) rfl ?_
      refine L_y rfl (y_move rfl) rfl ?_
      refine L_y rfl (y_lenG rfl rfl Try.underlying91 (sees 0 0 rfl)) rfl ?_
      refine L_y rfl (y_sub rfl rfl (wi64 (by omega) (by omega))) rfl ?_
      refine L_y rfl (y_max rfl rfl) rfl ?_
      refine L_y rfl (y_assign rfl) rfl ?_
      refine L_nil ?_
      refine C_ret ?_
      refine B_ret (rv_tmp rfl rv_nil) ((hsub (.cons_cons _ (.cons _ (.cons _ (.cons _ (.refl _)))))).trans (hsub_pick [1] rfl)) ?_
      exact ⟨by rw [hgl]; rfl, rfl⟩

end Go.Proofs.Ytighbhplfjjgpaa

/- Facts of the translation's types, for the kernel (own work, by a program of this repo). -/
namespace Go.Proofs.Ytighbhplfjjgpaa
open Go.Sl
theorem ag_128 : isAggT Try.prog 128 = some true := by kernel_rfl
theorem by_128 : byT Try.prog 128 = some 16 := by kernel_rfl
theorem by_150 : byT Try.prog 150 = some 16 := by kernel_rfl
theorem fl_128_0 : fldT Try.prog 128 0 = some 0 := by kernel_rfl
theorem ni_148 : notIntT Try.prog 148 = true := by kernel_rfl
theorem ni_30 : notIntT Try.prog 30 = true := by kernel_rfl
theorem pl_128 : placesT Try.prog 128 = some [(0, 1), (1, 1)] := by kernel_rfl
theorem sz_128 : szT Try.prog 128 = some 2 := by kernel_rfl
theorem sz_150 : szT Try.prog 150 = some 2 := by kernel_rfl
theorem zl_128 : zeroL Try.prog 128 = some ([.int .u64 0, .int .i64 0]) := by kernel_rfl
theorem zl_150 : zeroL Try.prog 150 = some (List.replicate 2 (.int .i64 0)) := by kernel_rfl
end Go.Proofs.Ytighbhplfjjgpaa

/- walks (own work; the walks' lines by a program of this repo). -/
set_option linter.unusedVariables false
set_option linter.unusedSimpArgs false
set_option maxRecDepth 20000
namespace Go.Proofs.Ytighbhplfjjgpaa
open Go.Sl
attribute [local irreducible] BodyQ WpC WpL WpS WpH OpW FnS


theorem may14_s {w0 : World} {H : Hp} (segs size : Int) : FnS Try.prog w0 77 #[.int .i64 segs, .int .i64 size] H (fun e H' => e = .returned (.bool (mayG segs size)) ∧ H' = H) := by
  refine FnS_intro (n := 19) (rs := [.tmp 4]) (vs := [.int .i64 segs, .int .i64 size]) Try.func77 rfl Try.ntmps77 rfl rfl ?_
  refine C_seq ?_
  refine C_region ?_
  refine L_y rfl (y_assign rfl) rfl ?_
  refine L_nil ?_
  refine C_seq ?_
  refine C_region ?_
  refine L_y rfl (y_move rfl) rfl ?_
  refine L_y rfl (y_geq rfl rfl) rfl ?_
  refine L_y rfl (y_move rfl) rfl ?_
  refine L_case 7 rfl (fun hg1_3 => ?_) (fun hg1_3 => ?_)
  · skip
    refine L_y rfl (y_move rfl) rfl ?_
    refine L_y rfl (y_leq rfl rfl) rfl ?_
    refine L_y rfl (y_pick_t rfl rfl) rfl ?_
    refine L_y rfl (y_move rfl) rfl ?_
    refine L_case 11 rfl (fun hg1_7 => ?_) (fun hg1_7 => ?_)
    · skip
      refine L_y rfl (y_move rfl) rfl ?_
      refine L_y rfl (y_geq rfl rfl) rfl ?_
      refine L_y rfl (y_pick_t rfl rfl) rfl ?_
      refine L_y rfl (y_move rfl) rfl ?_
      refine L_case 15 rfl (fun hg1_11 => ?_) (fun hg1_11 => ?_)
      · skip
        refine L_y rfl (y_move rfl) rfl ?_
        refine L_y rfl (y_leq rfl rfl) rfl ?_
        refine L_y rfl (y_pick_t rfl rfl) rfl ?_
        refine L_y rfl (y_assign rfl) rfl ?_
        refine L_nil ?_
        refine C_ret ?_
        refine B_ret (rv_tmp rfl rv_nil) (HSub.refl _) ?_
        refine ⟨congrArg (fun x => Ending.returned (Value.bool x)) ?_, rfl⟩
        unfold mayG
        simp_all
        try omega
      · skip
        refine L_skip rfl rfl ?_
        refine L_skip rfl rfl ?_
        refine L_y rfl (y_pick_f rfl rfl) rfl ?_
        refine L_y rfl (y_assign rfl) rfl ?_
        refine L_nil ?_
        refine C_ret ?_
        refine B_ret (rv_tmp rfl rv_nil) (HSub.refl _) ?_
        refine ⟨congrArg (fun x => Ending.returned (Value.bool x)) ?_, rfl⟩
        unfold mayG
        simp_all
        try omega
    · skip
      refine L_skip rfl rfl ?_
      refine L_skip rfl rfl ?_
      refine L_y rfl (y_pick_f rfl rfl) rfl ?_
      refine L_y rfl (y_move rfl) rfl ?_
      refine L_skip rfl rfl ?_
      refine L_skip rfl rfl ?_
      refine L_y rfl (y_pick_f rfl rfl) rfl ?_
      refine L_y rfl (y_assign rfl) rfl ?_
      refine L_nil ?_
      refine C_ret ?_
      refine B_ret (rv_tmp rfl rv_nil) (HSub.refl _) ?_
      refine ⟨congrArg (fun x => Ending.returned (Value.bool x)) ?_, rfl⟩
      unfold mayG
      simp_all
      try omega
  · skip
    refine L_skip rfl rfl ?_
    refine L_skip rfl rfl ?_
    refine L_y rfl (y_pick_f rfl rfl) rfl ?_
    refine L_y rfl (y_move rfl) rfl ?_
    refine L_skip rfl rfl ?_
    refine L_skip rfl rfl ?_
    refine L_y rfl (y_pick_f rfl rfl) rfl ?_
    refine L_y rfl (y_move rfl) rfl ?_
    refine L_skip rfl rfl ?_
    refine L_skip rfl rfl ?_
    refine L_y rfl (y_pick_f rfl rfl) rfl ?_
    refine L_y rfl (y_assign rfl) rfl ?_
    refine L_nil ?_
    refine C_ret ?_
    refine B_ret (rv_tmp rfl rv_nil) (HSub.refl _) ?_
    refine ⟨congrArg (fun x => Ending.returned (Value.bool x)) ?_, rfl⟩
    unfold mayG
    simp_all
    try omega

theorem mul_up {sN z s j : Nat} (h1 : sN ≤ 64) (h2 : z ≤ 32) (h3 : s < sN) (h4 : j < z) : s * z + j < 2048 := by
  have a1 : (s + 1) * z ≤ sN * z := Nat.mul_le_mul_right _ h3
  have a2 : sN * z ≤ 64 * 32 := Nat.mul_le_mul h1 h2
  rw [Nat.succ_mul] at a1
  omega

theorem lies14_s {w0 : World} {H : Hp} (sN z : Nat) (hsN : sN ≤ 64) (hz1 : 1 ≤ z) (hz2 : z ≤ 32) : FnS Try.prog w0 78 #[.int .i64 (sN : Int), .int .i64 (z : Int)] H (fun e H' => ∃ g, slOk 2 (some g) (sN * z + 2) (pcs (lieK z (sN * z))) ∧ e = .returned (slV (some g) (sN * z + 2)) ∧ H' = slSeg 150 (some g) (pcs (lieK z (sN * z))) :: H) := by
  refine FnS_intro (n := 28) (rs := [.tmp 4]) (vs := [.int .i64 (sN : Int), .int .i64 (z : Int)]) Try.func78 rfl Try.ntmps78 rfl rfl ?_
  refine C_seq ?_
  refine C_region ?_
  refine L_y rfl (y_assign rfl) rfl ?_
  refine L_nil ?_
  refine C_seq ?_
  refine C_region ?_
  refine L_y rfl (y_buildA (vs := [(0, _), (1, _)]) (l := [.int .i64 (-1), .int .i64 (-1)]) rfl Try.underlying150 sz_3 zl_150 (fill_cons (off := 0) (m := 1) (vs := [_]) rfl rfl rfl (Nat.le_of_ble_eq_true rfl) (fill_cons (off := 1) (m := 1) (vs := [_]) rfl rfl rfl (Nat.le_of_ble_eq_true rfl) rfl))) rfl ?_
  refine L_y rfl (y_buildA (vs := [(0, _), (1, _)]) (l := [.int .i64 (-1), .int .i64 (-1)]) rfl Try.underlying150 sz_3 zl_150 (fill_cons (off := 0) (m := 1) (vs := [_]) rfl rfl rfl (Nat.le_of_ble_eq_true rfl) (fill_cons (off := 1) (m := 1) (vs := [_]) rfl rfl rfl (Nat.le_of_ble_eq_true rfl) rfl))) rfl ?_
  refine L_op rfl (op_buildSlice (vs := [(0, _), (1, _)]) rfl Try.underlying148 sz_150 zl_150 rfl (by decide) (fill_cons (off := 0) (m := 2) (vs := [_, _]) rfl rfl rfl (Nat.le_of_ble_eq_true rfl) (fill_cons (off := 2) (m := 2) (vs := [_, _]) rfl rfl rfl (Nat.le_of_ble_eq_true rfl) rfl)) rfl (fun B1 => ?_))
  refine L_y rfl (y_assign rfl) rfl ?_
  refine L_nil ?_
  refine C_seq ?_
  refine C_seq ?_
  refine C_region ?_
  refine L_y rfl (y_assign rfl) rfl ?_
  refine L_nil ?_
  refine C_block ?_
  refine C_loop (ι := Nat × SlG) (fun s => [(0, .int .i64 (sN : Int)), (1, .int .i64 (z : Int)), (5, slV (some s.2) (s.1 * z + 2)), (6, .int .i64 (s.1 : Int))]) (fun s => slSeg 150 (some s.2) (pcs (lieK z (s.1 * z))) :: H) (fun s => s.1 ≤ sN ∧ slOk 2 (some s.2) (s.1 * z + 2) (pcs (lieK z (s.1 * z)))) (fun s => sN - s.1) (0, ⟨B1, 2, []⟩) ⟨Nat.zero_le _, by rw [Nat.zero_mul]; exact ⟨rfl, rfl, Nat.le_refl _⟩⟩ (by rw [Nat.zero_mul]; exact ⟨rfl, rfl, rfl, rfl, trivial⟩) (by rw [Nat.zero_mul]; exact ((hsub (.cons_cons _ (.refl _))).trans (hsub_pick [0] rfl))) (fun s hs => ?_)
  obtain ⟨s, g⟩ := s
  obtain ⟨hs, hok⟩ := hs
  try simp only at hs hok
  try dsimp only
  refine C_seq ?_
  refine C_seq ?_
  refine C_region ?_
  refine L_y rfl (y_move rfl) rfl ?_
  refine L_y rfl (y_move rfl) rfl ?_
  refine L_y rfl (y_lss rfl rfl) rfl ?_
  refine L_nil ?_
  refine C_cond rfl (fun hc0 => ?_) (fun hc0 => ?_)
  · have hs1 : s < sN := by have := of_decide_eq_true hc0; omega
    refine C_skip ?_
    refine C_seq ?_
    refine C_block ?_
    refine C_seq ?_
    refine C_region ?_
    refine L_y rfl (y_assign rfl) rfl ?_
    refine L_nil ?_
    refine C_block ?_
    refine C_loop (ι := Nat × SlG) (fun j => [(0, .int .i64 (sN : Int)), (1, .int .i64 (z : Int)), (5, slV (some j.2) (s * z + j.1 + 2)), (6, .int .i64 (s : Int)), (7, .int .i64 (j.1 : Int))]) (fun j => slSeg 150 (some j.2) (pcs (lieK z (s * z + j.1))) :: H) (fun j => j.1 ≤ z ∧ slOk 2 (some j.2) (s * z + j.1 + 2) (pcs (lieK z (s * z + j.1)))) (fun j => z - j.1) (0, g) ⟨Nat.zero_le _, hok⟩ ⟨rfl, rfl, rfl, rfl, rfl, trivial⟩ ((hsub (.cons_cons _ (.refl _))).trans (hsub_pick [0] rfl)) (fun j hj => ?_)
    obtain ⟨j, g2⟩ := j
    obtain ⟨hj, hok2⟩ := hj
    try simp only at hj hok2
    try dsimp only
    refine C_seq ?_
    refine C_seq ?_
    refine C_region ?_
    refine L_y rfl (y_move rfl) rfl ?_
    refine L_y rfl (y_move rfl) rfl ?_
    refine L_y rfl (y_lss rfl rfl) rfl ?_
    refine L_nil ?_
    refine C_cond rfl (fun hc1 => ?_) (fun hc1 => ?_)
    · have hj1 : j < z := by have := of_decide_eq_true hc1; omega
      refine C_skip ?_
      refine C_seq ?_
      refine C_block ?_
      refine C_region ?_
      refine L_y rfl (y_move rfl) rfl ?_
      refine L_y rfl (y_move rfl) rfl ?_
      refine L_y rfl (y_move rfl) rfl ?_
      refine L_y rfl (y_buildA (vs := [(0, _), (1, _)]) (l := [.int .i64 (s : Int), .int .i64 (j : Int)]) rfl Try.underlying150 sz_3 zl_150 (fill_cons (off := 0) (m := 1) (vs := [_]) rfl rfl rfl (Nat.le_of_ble_eq_true rfl) (fill_cons (off := 1) (m := 1) (vs := [_]) rfl rfl rfl (Nat.le_of_ble_eq_true rfl) rfl))) rfl ?_
      refine L_op rfl (op_buildSlice (vs := [(0, _)]) rfl Try.underlying148 sz_150 zl_150 rfl (by decide) (fill_one rfl rfl rfl) rfl (fun B2 => ?_))
      refine L_op rfl (op_append (gs := some g2) (len := s * z + j + 2) (m := 1) (xs := pcs (lieK z (s * z + j))) (vs := pcs [((s : Int), (j : Int))]) 1 rfl rfl rfl hok2 (src_slice (sees 0 0 rfl) (Nat.le_of_ble_eq_true rfl) rfl) rfl (ones rfl) Try.underlying148 ni_148 sz_150 by_150 (by decide) zl_150 rfl (by have := mul_up hsN hz2 hs1 hj1; omega) rfl (fun g3 hg3 => ?_))
      rw [← pcs_append, ← lieK_next hj1, show s * z + j + 2 + 1 = s * z + (j + 1) + 2 by omega] at hg3 ⊢
      cases g3 with
      | none => exact slOk_none hg3 (by omega)
      | some g3 => ?_
      refine L_y rfl (y_assign rfl) rfl ?_
      refine L_nil ?_
      refine C_region ?_
      refine L_y rfl (y_move rfl) rfl ?_
      refine L_y rfl (y_add rfl rfl (show _ = ((j + 1 : Nat) : Int) from by rw [wi64 (by omega) (by omega)]; omega)) rfl ?_
      refine L_y rfl (y_assign rfl) rfl ?_
      refine L_nil ?_
      exact ⟨(j + 1, g3), ⟨by simp only; omega, hg3⟩, by simp only; omega, ⟨rfl, rfl, rfl, rfl, rfl, trivial⟩, ((hsub (.cons_cons _ (.cons _ (.refl _)))).trans (hsub_pick [1] rfl))⟩
    · have hj2 : ¬ j < z := by have := of_decide_eq_false hc1; omega
      refine C_exit ?_
      refine C_region ?_
      refine L_y rfl (y_move rfl) rfl ?_
      refine L_y rfl (y_add rfl rfl (show _ = ((s + 1 : Nat) : Int) from by rw [wi64 (by omega) (by omega)]; omega)) rfl ?_
      refine L_y rfl (y_assign rfl) rfl ?_
      refine L_nil ?_
      obtain rfl : j = z := by omega
      have e9 : s * j + j = (s + 1) * j := by rw [Nat.succ_mul]
      rw [e9] at hok2
      refine ⟨(s + 1, g2), ⟨by simp only; omega, hok2⟩, by simp only; omega, ?_⟩
      try dsimp only
      rw [← e9]
      exact ⟨⟨rfl, rfl, rfl, rfl, trivial⟩, ((hsub (.cons_cons _ (.refl _))).trans (hsub_pick [0] rfl))⟩
  · obtain rfl : s = sN := by have := of_decide_eq_false hc0; omega
    refine C_exit ?_
    refine C_seq ?_
    refine C_region ?_
    refine L_y rfl (y_move rfl) rfl ?_
    refine L_y rfl (y_assign rfl) rfl ?_
    refine L_nil ?_
    refine C_ret ?_
    refine B_ret (rv_tmp rfl rv_nil) ((hsub (.cons_cons _ (.refl _))).trans (hsub_pick [0] rfl)) ?_
    exact ⟨g, hok, rfl, rfl⟩

theorem seg18_n {w0 : World} {H : Hp} (segs size a : Int) (hm : mayG segs size = false) : FnS Try.prog w0 59 #[.int .i64 segs, .int .i64 size, .int .i64 a] H (fun e H' => e = .returned (.int .i64 (seg18 segs size a)) ∧ H' = H) := by
  refine FnS_intro (n := 28) (rs := [.tmp 6]) (vs := [.int .i64 segs, .int .i64 size, .int .i64 a]) Try.func59 rfl Try.ntmps59 rfl rfl ?_
  refine C_seq ?_
  refine C_region ?_
  refine L_y rfl (y_assign rfl) rfl ?_
  refine L_nil ?_
  refine C_seq ?_
  refine C_seq ?_
  refine C_region ?_
  refine L_y rfl (y_move rfl) rfl ?_
  refine L_y rfl (y_move rfl) rfl ?_
  refine L_op rfl (op_call rfl rfl (fun a w => Try.call77 a w) rfl ?_)
  refine (may14_s segs size).mono ?_
  rintro _ _ ⟨rfl, e⟩
  obtain rfl := e.symm
  clear e
  rw [hm]
  refine ⟨_, rfl, ?_⟩
  refine L_y rfl (y_not rfl) rfl ?_
  refine L_y rfl (y_move rfl) rfl ?_
  refine L_skip rfl rfl ?_
  refine L_skip rfl rfl ?_
  refine L_y rfl (y_pick_t rfl rfl) rfl ?_
  refine L_nil ?_
  refine C_cond_t rfl ?_
  refine C_seq ?_
  refine C_region ?_
  refine L_y rfl (y_assign rfl) rfl ?_
  refine L_nil ?_
  refine C_ret ?_
  refine B_ret (rv_tmp rfl rv_nil) (HSub.refl _) ?_
  exact ⟨by rw [seg18_no (ofS_no (.inl hm))]; rfl, rfl⟩

theorem seg18_y {w0 : World} {H : Hp} (sN z : Nat) (a : Int) (hm : mayG sN z = true) (hs2 : sN ≤ 64) (hz1 : 1 ≤ z) (hz2 : z ≤ 32) : FnS Try.prog w0 59 #[.int .i64 (sN : Int), .int .i64 (z : Int), .int .i64 a] H (fun e H' => e = .returned (.int .i64 (seg18 sN z a)) ∧ H' = H) := by
  have hmz : sN * z ≤ 64 * 32 := Nat.mul_le_mul hs2 hz2
  have hmi : ((sN * z : Nat) : Int) = (sN : Int) * (z : Int) := Int.natCast_mul ..
  refine FnS_intro (n := 28) (rs := [.tmp 6]) (vs := [.int .i64 (sN : Int), .int .i64 (z : Int), .int .i64 a]) Try.func59 rfl Try.ntmps59 rfl rfl ?_
  refine C_seq ?_
  refine C_region ?_
  refine L_y rfl (y_assign rfl) rfl ?_
  refine L_nil ?_
  refine C_seq ?_
  refine C_seq ?_
  refine C_region ?_
  refine L_y rfl (y_move rfl) rfl ?_
  refine L_y rfl (y_move rfl) rfl ?_
  refine L_op rfl (op_call rfl rfl (fun a w => Try.call77 a w) rfl ?_)
  refine (may14_s sN z).mono ?_
  rintro _ _ ⟨rfl, e⟩
  obtain rfl := e.symm
  clear e
  rw [hm]
  refine ⟨_, rfl, ?_⟩
  refine L_y rfl (y_not rfl) rfl ?_
  refine L_y rfl (y_move rfl) rfl ?_
  refine L_y rfl (y_move rfl) rfl ?_
  refine L_y rfl (y_lss rfl rfl) rfl ?_
  refine L_y rfl (y_pick_f rfl rfl) rfl ?_
  refine L_nil ?_
  refine C_cond rfl (fun hc0 => ?_) (fun hc0 => ?_)
  · replace hc0 : a < 0 := of_decide_eq_true hc0
    refine C_seq ?_
    refine C_region ?_
    refine L_y rfl (y_assign rfl) rfl ?_
    refine L_nil ?_
    refine C_ret ?_
    refine B_ret (rv_tmp rfl rv_nil) (hsub (.refl _)) ?_
    refine ⟨?_, rfl⟩
    first
    | (rw [seg18_no (ofS_no (by omega))]; rfl)
    | (by_cases h2 : i < 2
       · rw [seg18_no (ofS_no (by omega)), if_pos h2]; rfl
       · rw [if_neg h2]
         have e5 : (((i - 2) / z : Nat) : Int) = ((i : Int) - 2) / (z : Int) := by
           rw [Int.natCast_ediv]
           congr 1
           omega
         unfold seg18
         rw [ofS_yes hm (by omega) (by omega)]
         simp only [e5]
         rfl)
  · replace hc0 : ¬ a < 0 := of_decide_eq_false hc0
    refine C_skip ?_
    refine C_seq ?_
    refine C_region ?_
    refine L_y rfl (y_move rfl) rfl ?_
    refine L_y rfl (y_move rfl) rfl ?_
    refine L_op rfl (op_call rfl rfl (fun a w => Try.call78 a w) rfl ?_)
    refine (lies14_s sN z hs2 hz1 hz2).mono ?_
    rintro _ _ ⟨g, hok, rfl, rfl⟩
    refine ⟨_, rfl, ?_⟩
    refine L_y rfl (y_assign rfl) rfl ?_
    refine L_nil ?_
    refine C_seq ?_
    refine C_seq ?_
    refine C_region ?_
    refine L_y rfl (y_move rfl) rfl ?_
    refine L_y rfl (y_move rfl) rfl ?_
    refine L_y rfl (y_lenS rfl rfl Try.underlying148) rfl ?_
    refine L_y rfl (y_geq rfl rfl) rfl ?_
    refine L_nil ?_
    refine C_cond rfl (fun hc1 => ?_) (fun hc1 => ?_)
    · replace hc1 : ((sN * z + 2 : Nat) : Int) ≤ a := of_decide_eq_true hc1
      refine C_seq ?_
      refine C_region ?_
      refine L_y rfl (y_assign rfl) rfl ?_
      refine L_nil ?_
      refine C_ret ?_
      refine B_ret (rv_tmp rfl rv_nil) (hsub (.cons _ (.refl _))) ?_
      refine ⟨?_, rfl⟩
      first
      | (rw [seg18_no (ofS_no (by omega))]; rfl)
      | (by_cases h2 : i < 2
         · rw [seg18_no (ofS_no (by omega)), if_pos h2]; rfl
         · rw [if_neg h2]
           have e5 : (((i - 2) / z : Nat) : Int) = ((i : Int) - 2) / (z : Int) := by
             rw [Int.natCast_ediv]
             congr 1
             omega
           unfold seg18
           rw [ofS_yes hm (by omega) (by omega)]
           simp only [e5]
           rfl)
    · replace hc1 : ¬ ((sN * z + 2 : Nat) : Int) ≤ a := of_decide_eq_false hc1
      obtain ⟨i, rfl⟩ : ∃ i : Nat, a = i := ⟨a.toNat, by omega⟩
      have hat := lieK_at (z := z) (k := sN * z) (i := i) (by omega)
      refine C_skip ?_
      refine C_seq ?_
      refine C_region ?_
      refine L_y rfl (y_move rfl) rfl ?_
      refine L_y rfl (y_move rfl) rfl ?_
      refine L_y rfl (y_indexS rfl rfl Try.underlying148 sz_150 (by omega) (by omega) (show _ = i * 2 from by simp)) rfl ?_
      refine L_y rfl (y_indexA rfl rfl Try.underlying150 sz_3 (by omega) (by omega) (show _ = i * 2 from by simp)) rfl ?_
      refine L_y rfl (y_load rfl ag_3 (sees 0 0 rfl) (pcs_at hat)) rfl ?_
      refine L_y rfl (y_assign rfl) rfl ?_
      refine L_nil ?_
      refine C_ret ?_
      refine B_ret (rv_tmp rfl rv_nil) (hsub (.cons _ (.refl _))) ?_
      refine ⟨?_, rfl⟩
      first
      | (rw [seg18_no (ofS_no (by omega))]; rfl)
      | (by_cases h2 : i < 2
         · rw [seg18_no (ofS_no (by omega)), if_pos h2]; rfl
         · rw [if_neg h2]
           have e5 : (((i - 2) / z : Nat) : Int) = ((i : Int) - 2) / (z : Int) := by
             rw [Int.natCast_ediv]
             congr 1
             omega
           unfold seg18
           rw [ofS_yes hm (by omega) (by omega)]
           simp only [e5]
           rfl)

theorem seg18_s {w0 : World} {H : Hp} (segs size a : Int) : FnS Try.prog w0 59 #[.int .i64 segs, .int .i64 size, .int .i64 a] H (fun e H' => e = .returned (.int .i64 (seg18 segs size a)) ∧ H' = H) := by
  cases hm : mayG segs size with
  | false => exact seg18_n segs size a hm
  | true =>
    obtain ⟨s, z, rfl, rfl, h1, h2, h3, h4⟩ := may_nat hm
    exact seg18_y s z a hm h2 h3 h4

end Go.Proofs.Ytighbhplfjjgpaa

/- Plain laws for the statements on devices (own work). -/
set_option linter.unusedVariables false
set_option linter.unusedSimpArgs false
namespace Go.Sl
/-! ### DeviceTears -/
def tq (m : Nat) : List (Nat × Sec) := (List.range m).map fun j => (j, secOf (UInt8.ofNat (j + 1)))
def tearA (K B m : Nat) : Ab := { (Ab.new 12).tear K B with Q := tq m }
def tearS (K B m : Nat) : List Sec := cutN (tearA K B m) m
def tsec (K B m i : Nat) : Sec := if i < m then (if i < K then secOf (UInt8.ofNat (i + 1)) else if i = K then (secOf (UInt8.ofNat (i + 1))).take (min B 128) ++ (secOf 0).drop (min B 128) else secOf 0) else secOf 0
def tbyte (K B m i j : Nat) : UInt8 := if i < m ∧ (i < K ∨ i = K ∧ j < B) then UInt8.ofNat (i + 1) else 0
/-! ### DeviceRots -/
abbrev q0 : Pa := ⟨false, 0, false⟩
def rq (c : UInt8) (m : Nat) : List (Nat × Sec) := (List.range m).map fun j => (j, secOf c)
def rotA (c : UInt8) (m : Nat) : Ab := { Ab.new 6 with Q := rq c m }
def rotS (c : UInt8) : List Sec := List.replicate 6 (secOf c)
def rotF (c : UInt8) : Ab := { Ab.new 6 with S := rotS c }
def rotT (c : UInt8) (n k : Nat) (m : UInt8) : List Sec := (rotS c).set n ((secOf c).set k (c ^^^ m))
def rotG (c : UInt8) (n k : Nat) (m : UInt8) : Ab := { rotF c with S := rotT c n k m }
def rbyte (c : UInt8) (n k : Nat) (m : UInt8) (i j : Nat) : UInt8 := if i = n ∧ j = k then c ^^^ m else c
/-! ### DeviceApart -/
def apS (c : UInt8) (K : Nat) : List Sec := (List.replicate K (secOf 0)).set 0 (secOf c)
def apF (c : UInt8) (K : Nat) : Ab := { Ab.new K with S := apS c K }
/-! ### Deeds -/
structure DeedM where
  on : Int
  kind : Int
  n : Int
  m : Int
  c : UInt8
def dcells (x : DeedM) : List Value := [.int .i64 x.on, .int .i64 x.kind, .int .i64 x.n, .int .i64 x.m, .int .u8 (x.c.toNat : Int)]
def deeds (ds : List DeedM) : List Value := (ds.map dcells).flatten
/-! ### What a flush makes stable is what was read -/
theorem lastW_snoc (Q : List (Nat × Sec)) (x : Nat × Sec) (k : Nat) : lastW (Q ++ [x]) k = if x.1 = k then some x.2 else lastW Q k := by
  unfold lastW
  rw [List.reverse_append, List.reverse_singleton, List.singleton_append, List.find?_cons]
  by_cases h : x.1 = k
  · simp [h]
  · have : (x.1 == k) = false := by simpa using h
    simp [h, this]
theorem flushN_get {a : Ab} (h : a.ok) {k : Nat} (hk : k < a.S.length) : ∀ m, m ≤ a.Q.length → (flushN a m)[k]? = some ((lastW (a.Q.take m) k).getD (a.S.getD k []))
  | 0, _ => by
    show a.S[k]? = _
    rw [List.take_zero, show lastW [] k = none from rfl, Option.getD_none]
    simp [List.getD, hk]
  | m + 1, hm => by
    have ih := flushN_get h hk m (by omega)
    obtain ⟨x, hx⟩ : ∃ x, a.Q[m]? = some x := ⟨_, List.getElem?_eq_getElem (by omega)⟩
    rw [flushN_s hx, show a.Q.take (m + 1) = a.Q.take m ++ [x] from by rw [List.take_add_one, hx]; rfl, lastW_snoc]
    by_cases e : x.1 = k
    · subst e
      rw [List.getElem?_set_self (by rw [(flushN_ok h m).2]; exact hk), if_pos rfl]; rfl
    · rw [List.getElem?_set_ne e, if_neg e, ih]
/-! ### DeviceLies -/
def okN (x : DeedM) : Prop := 0 ≤ x.n ∧ x.n < 20
instance (x : DeedM) : Decidable (okN x) := inferInstanceAs (Decidable (0 ≤ x.n ∧ x.n < 20))
def wq1 (x : DeedM) : List (Nat × Sec) := if okN x then [(x.n.toNat, secOf x.c)] else []
def lq (ds : List DeedM) (i : Nat) : List (Nat × Sec) := (ds.take i).flatMap wq1
def S20 : List Sec := List.replicate 20 (secOf 0)
def lA (ds : List DeedM) (i : Nat) : Ab := ⟨S20, lq ds i, 0, 0, true, false⟩
def nowS (ds : List DeedM) (k : Nat) : List Sec := (List.range k).map (lA ds ds.length).read
def lC (ds : List DeedM) : Ab := ⟨nowS ds 20, [], 0, 0, false, false⟩
/-! ### DeviceReads, DeviceFlushes: what is read behind a write, behind a flush -/
theorem read_push (a : Ab) (n : Nat) (s : Sec) (k : Nat) : (a.push n s).read k = if n = k then s else a.read k := by
  simp only [Ab.read, Ab.push, lastW_snoc]
  by_cases h : n = k
  · simp [h]
  · simp [h]
theorem read_flush {a : Ab} (h : a.ok) (hl : a.lies = false) {k : Nat} (hk : k < a.S.length) : a.flush.read k = a.read k := by
  have e := flushN_get h hk a.Q.length (Nat.le_refl _)
  rw [List.take_length] at e
  simp only [Ab.flush, hl, Bool.false_eq_true, if_false, Ab.read, show lastW [] k = none from rfl, Option.getD_none, List.getD, e, Option.getD_some]
theorem has_flush {a : Ab} (h : a.ok) (hl : a.lies = false) : a.flush.S.length = a.S.length := by
  simp only [Ab.flush, hl, Bool.false_eq_true, if_false, (flushN_ok h _).2]
/-- A device that is whole and is read as W. -/
structure RdW (K : Nat) (W : List Sec) (a : Ab) (m : Nat) : Prop where
  ok : a.ok
  len : a.S.length = K
  out : a.out = false
  lies : a.lies = false
  many : a.Q.length ≤ m
  wlen : W.length = K
  read : ∀ k s, W[k]? = some s → a.read k = s
theorem RdW.new {K : Nat} (h : K ≤ 4096) : RdW K (List.replicate K (secOf 0)) (Ab.new K) 0 := ⟨Ab.new_ok h, by simp [Ab.new], rfl, rfl, Nat.le_refl _, by simp, fun k s hs => by
  have : k < K := by have := (List.getElem?_eq_some_iff.1 hs).1; simpa using this
  rw [List.getElem?_replicate, if_pos this] at hs; cases hs
  simp [Ab.read, Ab.new, lastW, List.getD, this]⟩
theorem RdW.write {K n m : Nat} {W : List Sec} {a : Ab} {s : Sec} (h : RdW K W a m) (hn : n < K) (hs : s.length = 128) : RdW K (W.set n s) (a.push n s) (m + 1) := by
  obtain ⟨h1, h2, h3, h4, h5, h6, h7⟩ := h
  refine ⟨⟨h1.1, h1.2.1, fun x hx => ?_, h1.2.2.2⟩, h2, h3, h4, by simp [Ab.push]; omega, by simpa using h6, fun k t ht => ?_⟩
  · rcases List.mem_append.1 hx with hx | hx
    · exact h1.2.2.1 x hx
    · simp at hx; subst hx; exact ⟨by simp only [Ab.push]; omega, hs⟩
  · rw [read_push]
    by_cases e : n = k
    · subst e
      rw [List.getElem?_set_self (by omega)] at ht; cases ht; simp
    · rw [List.getElem?_set_ne e] at ht
      rw [if_neg e]; exact h7 k t ht
theorem RdW.flush {K m : Nat} {W : List Sec} {a : Ab} (h : RdW K W a m) : RdW K W a.flush 0 := by
  obtain ⟨h1, h2, h3, h4, h5, h6, h7⟩ := h
  refine ⟨Ab.flush_ok h1, by rw [has_flush h1 h4, h2], by simp [Ab.flush, h4, h3], by simp [Ab.flush, h4], by simp [Ab.flush, h4], h6, fun k t ht => ?_⟩
  rw [read_flush h1 h4 (by have := (List.getElem?_eq_some_iff.1 ht).1; omega)]
  exact h7 k t ht
theorem RdW.has {K m : Nat} {W : List Sec} {a : Ab} (h : RdW K W a m) (n : Int) : a.has n = (decide (0 ≤ n) && decide (n < K)) := by simp only [Ab.has, h.len]
theorem RdW.writes {K m : Nat} {W : List Sec} {a : Ab} (h : RdW K W a m) (n : Int) (s : Sec) : writeE a q0 n = (if 0 ≤ n ∧ n < K then 0 else 2) ∧ writeA a q0 n s = (if 0 ≤ n ∧ n < K then a.push n.toNat s else a) ∧ writeP a q0 n = q0 := by
  have hd : a.down q0 = false := by simp [Ab.down, h.out]
  have hf : q0.falls = false := rfl
  simp only [writeE, writeA, writeP, wgo, hd, h.has, hf, Ab.step, Bool.not_false, Bool.true_and, Bool.false_eq_true, if_false]
  by_cases hn : 0 ≤ n ∧ n < K
  · simp [hn]; rfl
  · have : (decide (0 ≤ n) && decide (n < (K : Int))) = false := by simp; omega
    simp [this, hn]
theorem RdW.reads {K m k : Nat} {W : List Sec} {a : Ab} {s : Sec} (h : RdW K W a m) (hk : W[k]? = some s) : readS a q0 (k : Int) = s ∧ readE a q0 (k : Int) = 0 := by
  have hd : a.down q0 = false := by simp [Ab.down, h.out]
  have hlt : k < K := by have := (List.getElem?_eq_some_iff.1 hk).1; have := h.wlen; omega
  have hh : a.has (k : Int) = true := by rw [h.has]; simp; omega
  simp only [readS, readE, hd, hh, Bool.false_eq_true, if_false, if_true, Int.toNat_natCast, and_true]
  exact h.read k s hk
theorem RdW.mono {K m m' : Nat} {W : List Sec} {a : Ab} (h : RdW K W a m) (hm : m ≤ m') : RdW K W a m' := ⟨h.ok, h.len, h.out, h.lies, Nat.le_trans h.many hm, h.wlen, h.read⟩
/-! ### DeviceFlushes -/
theorem RdW.stable {K : Nat} {W : List Sec} {a : Ab} (h : RdW K W a 0) : a.Q = [] ∧ a.S = W := by
  have hq : a.Q = [] := List.eq_nil_of_length_eq_zero (Nat.le_zero.1 h.many)
  refine ⟨hq, ?_⟩
  apply List.ext_getElem?
  intro k
  by_cases hk : k < K
  · have h1 : a.read k = W[k]'(by rw [h.wlen]; exact hk) := h.read k _ (List.getElem?_eq_getElem _)
    rw [List.getElem?_eq_getElem (show k < W.length from by rw [h.wlen]; exact hk), ← h1]
    simp only [Ab.read, hq, show lastW [] k = none from rfl, Option.getD_none, List.getD]
    rw [List.getElem?_eq_getElem (by rw [h.len]; exact hk)]; rfl
  · rw [List.getElem?_eq_none (by rw [h.len]; omega), List.getElem?_eq_none (by rw [h.wlen]; omega)]
abbrev qF : Pa := ⟨false, 0, true⟩
abbrev qX : Pa := ⟨true, 0, false⟩
/-- Power fails at a flush of what is flushed: nothing changes. -/
theorem RdW.fails {K : Nat} {W : List Sec} {a : Ab} (h : RdW K W a 0) (k m : Int) : flushE (a.tear k m) qF = 13 ∧ flushA (a.tear k m) qF = a.tear k m ∧ flushP (a.tear k m) qF = qX := by
  obtain ⟨hq, hs⟩ := h.stable
  have hd : (a.tear k m).down qF = false := by simp [Ab.down, Ab.tear, h.out]
  have hf : qF.falls = true := rfl
  have hc : (a.tear k m).cut = a.tear k m := by
    have ho : (a.tear k m).out = false := h.out
    have hq2 : (a.tear k m).Q = [] := hq
    generalize a.tear k m = y at ho hq2
    cases y
    simp only at ho hq2
    subst ho; subst hq2
    rfl
  simp only [flushE, flushA, flushP, hd, hf, hc, Bool.false_eq_true, if_false, if_true, true_and]
  rfl
theorem RdW.tear {K m : Nat} {W : List Sec} {a : Ab} (h : RdW K W a m) (k b : Int) : RdW K W (a.tear k b) m := ⟨Ab.tear_ok h.ok, h.len, h.out, h.lies, h.many, h.wlen, h.read⟩
end Go.Sl

/- Two devices, of one power or each of its own: one segment in memory, one abstract state (own work). -/
set_option linter.unusedVariables false
set_option linter.unusedSimpArgs false
namespace Go.Sl
structure Duo where
  x : Dv
  y : Dv
  p : Pw
  q : Option Pw
/-- The abstract state: two devices, a power, and the second one's own power. -/
structure Da where
  a : Ab
  b : Ab
  p : Pa
  q : Option Pa
def Duo.qs (t : DT) : Option Pw → Hp
  | none => []
  | some q => [q.o t, q.q t]
def Duo.hp (t : DT) (D : Duo) : Hp := [D.x.o t, D.x.t t, D.x.q t, D.p.o t, D.p.q t, D.y.o t, D.y.t t, D.y.q t] ++ Duo.qs t D.q
def Duo.seg (t : DT) (D : Duo) : List (Nat × Obj) := (D.hp t).flatten
def Duo.dev (D : Duo) : Bool → Dv
  | false => D.x
  | true => D.y
def Duo.pow (D : Duo) : Bool → Pw
  | false => D.p
  | true => D.q.getD D.p
def Duo.da (D : Duo) : Da := ⟨D.x.a, D.y.a, D.p.a, D.q.map (·.a)⟩
def Duo.ok (t : DT) (D : Duo) : Prop := match D.q with
  | none => GOk t D.p [] D.x [D.y]
  | some q => GOk t D.p [] D.x [] ∧ GOk t q [] D.y []
def Da.dev (A : Da) : Bool → Ab
  | false => A.a
  | true => A.b
def Da.pow (A : Da) : Bool → Pa
  | false => A.p
  | true => A.q.getD A.p
def Da.setd (A : Da) (i : Bool) (x : Ab) : Da := match i with
  | false => { A with a := x }
  | true => { A with b := x }
def Da.setp (A : Da) (i : Bool) (x : Pa) : Da := match i, A.q with
  | true, some _ => { A with q := some x }
  | _, _ => { A with p := x }
/-- The other device of the same power, behind an operation that was counted (c) or not. -/
def Da.oth (A : Da) (i c : Bool) : Da := if c && A.q.isNone then A.setd (!i) ((A.dev (!i)).step (A.pow i)) else A
def Da.write (A : Da) (i : Bool) (n : Int) (s : Sec) : Da := ((A.oth i (wgo (A.dev i) (A.pow i) n)).setd i (writeA (A.dev i) (A.pow i) n s)).setp i (writeP (A.dev i) (A.pow i) n)
def Da.flush (A : Da) (i : Bool) : Da := ((A.oth i (!(A.dev i).down (A.pow i))).setd i (flushA (A.dev i) (A.pow i))).setp i (flushP (A.dev i) (A.pow i))
def Da.wE (A : Da) (i : Bool) (n : Int) : Int := writeE (A.dev i) (A.pow i) n
def Da.fE (A : Da) (i : Bool) : Int := flushE (A.dev i) (A.pow i)
def Da.rS (A : Da) (i : Bool) (n : Int) : Sec := readS (A.dev i) (A.pow i) n
def Da.rE (A : Da) (i : Bool) (n : Int) : Int := readE (A.dev i) (A.pow i) n
theorem Duo.da_dev (D : Duo) (i : Bool) : (D.dev i).a = D.da.dev i := by cases i <;> rfl
theorem Duo.da_pow (D : Duo) (i : Bool) : (D.pow i).a = D.da.pow i := by
  obtain ⟨x, y, p, q⟩ := D
  cases i <;> cases q <;> rfl
theorem Duo.flat (t : DT) (D : Duo) (H : Hp) : (D.hp t ++ H).flatten = (D.seg t :: H).flatten := by rw [List.flatten_append]; rfl
theorem Duo.pick (t : DT) (D : Duo) {H Y : Hp} (is : List Nat) (e : pick is (D.hp t ++ H) = Y) : Y.flatten.Perm (D.seg t :: H).flatten := by
  subst e
  rw [← Duo.flat]
  exact (pick_perm is _).flatten.symm
/-- Two devices, at such blocks, of such an abstract state. -/
structure Two (t : DT) (D : Duo) (A : Da) (bx bys bp : Nat) : Prop where
  ok : D.ok t
  da : D.da = A
  x : D.x.b = bx
  y : D.y.b = bys
  p : D.p.b = bp
abbrev sel (bx bys : Nat) (i : Bool) : Nat := if i then bys else bx
theorem Two.b {t : DT} {D : Duo} {A : Da} {bx bys bp : Nat} (h : Two t D A bx bys bp) (i : Bool) : (D.dev i).b = sel bx bys i := by
  cases i
  · exact h.x
  · exact h.y
theorem Two.dev {t : DT} {D : Duo} {A : Da} {bx bys bp : Nat} (h : Two t D A bx bys bp) (i : Bool) : (D.dev i).a = A.dev i := by rw [D.da_dev, h.da]
theorem Two.pow {t : DT} {D : Duo} {A : Da} {bx bys bp : Nat} (h : Two t D A bx bys bp) (i : Bool) : (D.pow i).a = A.pow i := by rw [D.da_pow, h.da]
theorem Two.to {t : DT} {D : Duo} {A B : Da} {bx bys bp : Nat} (h : Two t D A bx bys bp) (e : A = B) : Two t D B bx bys bp := e ▸ h
/-- Power that doesn't fail. -/
def Da.calm (A : Da) : Prop := A.p.off = false ∧ A.p.fails = false ∧ ∀ q, A.q = some q → q.off = false ∧ q.fails = false
end Go.Sl

/- A mirror: what lies in memory, and the plain model (own work). -/
set_option linter.unusedVariables false
set_option linter.unusedSimpArgs false
namespace Go.Sl
section
variable {P : Program} {n : FN} {w0 : World} {Q : Post} {E E' : Env} {H H' HS : Hp} {K : Env → Hp → Prop}
variable {d : Option Nat} {ty t t2 : Nat} {ps : String} {af : Array Edge} {g : Option (Nat × Bool)} {x y c : Operand}
end
structure Mi where
  b : Nat
  r0 : Nat
  r1 : Nat
  bx : Nat
  bys : Nat
  n : Nat
  gv : Value
  k0 : List (Int × Nat)
  c0 : Nat
  k1 : List (Int × Nat)
  c1 : Nat
abbrev Mi.cells (m : Mi) : List Value := [ptr m.bx, .map (some m.r0), ptr m.bys, .map (some m.r1), .int .i64 (m.n : Int), m.gv]
abbrev Mi.seg (t : Nat) (m : Mi) : List (Nat × Obj) := [(m.b, .cells m.cells.toArray t), (m.r0, mapO m.k0 m.c0), (m.r1, mapO m.k1 m.c1)]
def Mi.has (m : Mi) (n : Int) : Bool := decide (0 ≤ n) && decide (n < m.n)
/-- Is a device there? -/
def thr (A : Da) (i : Bool) : Bool := !(A.dev i).down (A.pow i)
def pres (p q : Bool) : List Int := (if p then [0] else []) ++ (if q then [1] else [])
def intl (l : List Int) : List Value := l.map (Value.int .i64)
/-- A function that tells which sectors may stand where. -/
def GoodAt (P : Program) (w0 : World) (H : Hp) (gv : Value) (p : Int → Sec → Bool) : Prop :=
  (gv = .nilFunc ∧ p = fun _ _ => false) ∨ ∃ f cap, gv = .func (.func f) #[] (List.toArray cap) ∧ (∀ args w, (callFunc f args).run P w = .ok (.enter f args) w) ∧
    ∀ H' n s, HSub H H' → s.length = 128 → FnS P w0 f ([Value.int .i64 n, Value.agg (bs s).toArray] ++ cap).toArray H' (fun e H2 => e = .returned (.bool (p n s)) ∧ H2 = H')
theorem GoodAt.sub {P : Program} {w0 : World} {H H' : Hp} {gv : Value} {p : Int → Sec → Bool} (h : GoodAt P w0 H gv p) (hs : HSub H H') : GoodAt P w0 H' gv p := by
  rcases h with h | ⟨f, cap, h1, h2, h3⟩
  · exact .inl h
  · exact .inr ⟨f, cap, h1, h2, fun H2 n s hs2 hl => h3 H2 n s (hs.trans hs2) hl⟩
/-- Does the side i tell what stands at n? -/
def okAt (A : Da) (i : Bool) (ks : List (Int × Nat)) (p : Int → Sec → Bool) (n : Int) : Bool := decide (A.rE i n = 0) && !kHas ks n && p n (A.rS i n)
def mrE (m : Mi) (A : Da) (p : Int → Sec → Bool) (n : Int) : Int :=
  if m.has n then (if thr A false || thr A true then (if thr A false && okAt A false m.k0 p n then 0 else if thr A true && okAt A true m.k1 p n then 0 else 9) else 13) else 2
def mrS (m : Mi) (A : Da) (p : Int → Sec → Bool) (n : Int) : Sec :=
  if m.has n then (if thr A false && okAt A false m.k0 p n then A.rS false n else if thr A true && okAt A true m.k1 p n then A.rS true n else secOf 0) else secOf 0
/-! ### Writes to both -/
def pd (A : Da) (i : Bool) (ask : Da → Bool → Bool) (n : Int) : Bool := thr A i && (!ask A i || decide (A.wE i n = 0))
def pA (A : Da) (i : Bool) (ask : Da → Bool → Bool) (n : Int) (s : Sec) : Da := if thr A i && ask A i then A.write i n s else A
def putA (A : Da) (ask : Da → Bool → Bool) (n : Int) (s : Sec) : Da := pA (pA A false ask n s) true ask n s
def putD (A : Da) (ask : Da → Bool → Bool) (n : Int) (s : Sec) : Bool → Bool
  | false => pd A false ask n
  | true => pd (pA A false ask n s) true ask n
def Mi.mark (m : Mi) (n : Int) (x y : Bool) : Mi := { m with
  k0 := if x then kDel m.k0 n else kPut m.k0 m.c0 n, c0 := if x then m.c0 else kClk m.k0 m.c0 n
  k1 := if y then kDel m.k1 n else kPut m.k1 m.c1 n, c1 := if y then m.c1 else kClk m.k1 m.c1 n }
def putm (m : Mi) (A : Da) (ask : Da → Bool → Bool) (n : Int) (s : Sec) : Mi := if m.has n && (putD A ask n s false || putD A ask n s true) then m.mark n (putD A ask n s false) (putD A ask n s true) else m
def putE (m : Mi) (A : Da) (ask : Da → Bool → Bool) (n : Int) (s : Sec) : Int := if m.has n then (if putD A ask n s false || putD A ask n s true then 0 else 13) else 2
def putDa (m : Mi) (A : Da) (ask : Da → Bool → Bool) (n : Int) (s : Sec) : Da := if m.has n then putA A ask n s else A
/-- A function that tells whether a side is asked for it. -/
def AskAt (P : Program) (t : DT) (tm : Nat) (w0 : World) (H : Hp) (m : Mi) (bp : Nat) (fa : Nat) (cap : List Value) (ask : Da → Bool → Bool) : Prop :=
  (∀ args w, (callFunc fa args).run P w = .ok (.enter fa args) w) ∧ ∀ (i : Bool) D A X, Two t D A m.bx m.bys bp → HSub H X →
    FnS P w0 fa ([Value.pointer (some ⟨m.b, if i then 2 else 0, none⟩)] ++ cap).toArray (m.seg tm :: D.seg t :: X) (fun e H2 => e = .returned (.bool (ask A i)) ∧ H2 = m.seg tm :: D.seg t :: X)
theorem AskAt.sub {P : Program} {t : DT} {tm : Nat} {w0 : World} {H H' : Hp} {m : Mi} {bp fa : Nat} {cap : List Value} {ask : Da → Bool → Bool} (h : AskAt P t tm w0 H m bp fa cap ask) (hs : HSub H H') : AskAt P t tm w0 H' m bp fa cap ask :=
  ⟨h.1, fun i D A X h1 h2 => h.2 i D A X h1 (hs.trans h2)⟩
def askAll : Da → Bool → Bool := fun _ _ => true
def askNew (n : Int) (s : Sec) : Da → Bool → Bool := fun A i => !decide (A.rE i n = 0) || !decide (A.rS i n = s)
/-! ### A flush of both -/
def fl1 (q : Da × Int) (i : Bool) : Da × Int := (q.1.flush i, if q.1.fE i = 0 then q.2 else 13)
def mfl (A : Da) : Da × Int :=
  if thr A false then (if thr A true then fl1 (fl1 (A, 0) false) true else fl1 (A, 0) false) else (if thr A true then fl1 (A, 0) true else (A, 13))
/-! ### Heal -/
def hg0 (m : Mi) (A : Da) (p : Int → Sec → Bool) (n : Int) : Bool := !kHas m.k0 n && p n (A.rS false n)
def hg1 (m : Mi) (A : Da) (p : Int → Sec → Bool) (n : Int) : Bool := !kHas m.k1 n && p n (A.rS true n)
/-- What is done: none, or a write to a side. -/
def healTo (m : Mi) (A : Da) (p : Int → Sec → Bool) (n : Int) : Option Bool :=
  if m.has n && (thr A false && thr A true) then
    (if hg0 m A p n then (if hg1 m A p n && decide (A.rS false n = A.rS true n) then none else some true) else if hg1 m A p n then some false else none)
  else none
def healR (m : Mi) (A : Da) (p : Int → Sec → Bool) (n : Int) : Int × Int :=
  if m.has n then (if thr A false && thr A true then
    (if hg0 m A p n then (if hg1 m A p n && decide (A.rS false n = A.rS true n) then (0, 0) else (1, 0)) else if hg1 m A p n then (1, 0) else (2, 0))
  else (0, 13)) else (0, 2)
def healA (m : Mi) (A : Da) (p : Int → Sec → Bool) (n : Int) : Da := match healTo m A p n with
  | none => A
  | some i => A.write i n (A.rS (!i) n)
def healM (m : Mi) (A : Da) (p : Int → Sec → Bool) (n : Int) : Mi := match healTo m A p n with
  | none => m
  | some i => if A.wE i n = 0 then (if i then { m with k1 := kDel m.k1 n } else { m with k0 := kDel m.k0 n }) else m
/-! ### Both -/
def bothS (m : Mi) (A : Da) (p : Int → Sec → Bool) (n : Int) : List Sec :=
  if m.has n then (if thr A false && (decide (A.rE false n = 0) && p n (A.rS false n)) then [A.rS false n] else []) ++ (if thr A true && (decide (A.rE true n = 0) && p n (A.rS true n)) then [A.rS true n] else []) else []
/-! ### A new mirror -/
/-- What is stale of a side of which so many places were looked at. -/
def stN (j : Nat) : List (Int × Nat) := (List.range j).map fun (i : Nat) => ((i : Int), i)
def stale0 (t : Bool) (n : Nat) : List (Int × Nat) := if t then [] else stN n
def mnew (A : Da) (bx bys : Nat) (gv : Value) (b r0 r1 : Nat) : Mi :=
  ⟨b, r0, r1, bx, bys, min A.a.S.length A.b.S.length, gv, stale0 (thr A false) (min A.a.S.length A.b.S.length), (if thr A false then 0 else min A.a.S.length A.b.S.length), stale0 (thr A true) (min A.a.S.length A.b.S.length), (if thr A true then 0 else min A.a.S.length A.b.S.length)⟩
end Go.Sl

/- walks (own work; the walks' lines by a program of this repo). -/
set_option linter.unusedVariables false
set_option linter.unusedSimpArgs false
set_option maxRecDepth 20000
namespace Go.Proofs.Ytighbhplfjjgpaa
open Go.Sl
attribute [local irreducible] BodyQ WpC WpL WpS WpH OpW FnS


theorem find18_y {w0 : World} {H : Hp} {l : Xl} {g : SlG} (hok : slOk 2 (some g) l.length (lcs l)) (hl : l.length < 1000000) (n : Nat) : FnS Try.prog w0 60 #[slV (some g) l.length, .int .u64 (n : Int)] (slSeg 128 (some g) (lcs l) :: H) (fun e H' => e = .returned (.int .i64 (fnd l n)) ∧ H' = slSeg 128 (some g) (lcs l) :: H) := by
  refine FnS_intro (n := 20) (rs := [.tmp 4]) (vs := [slV (some g) l.length, .int .u64 (n : Int)]) Try.func60 rfl Try.ntmps60 rfl rfl ?_
  refine C_seq ?_
  refine C_region ?_
  refine L_y rfl (y_assign rfl) rfl ?_
  refine L_nil ?_
  refine C_seq ?_
  refine C_seq ?_
  refine C_region ?_
  refine L_y rfl (y_assign rfl) rfl ?_
  refine L_nil ?_
  refine C_block ?_
  refine C_loop (ι := Nat) (fun i => [(0, slV (some g) l.length), (1, .int .u64 (n : Int)), (5, .int .i64 (i : Int))]) (fun i => slSeg 128 (some g) (lcs l) :: H) (fun i => i ≤ l.length ∧ ∀ j y, j < i → l[j]? = some y → y.1 ≠ n) (fun i => l.length - i) 0 ⟨Nat.zero_le _, fun j y hj => absurd hj (by omega)⟩ ⟨rfl, rfl, rfl, trivial⟩ ((hsub (.cons_cons _ (.refl _))).trans (hsub_pick [0] rfl)) (fun i hi => ?_)
  obtain ⟨hi, hno⟩ := hi
  refine C_seq ?_
  refine C_seq ?_
  refine C_region ?_
  refine L_y rfl (y_move rfl) rfl ?_
  refine L_y rfl (y_move rfl) rfl ?_
  refine L_y rfl (y_lenS rfl rfl Try.underlying30) rfl ?_
  refine L_y rfl (y_lss rfl rfl) rfl ?_
  refine L_nil ?_
  refine C_cond rfl (fun hc0 => ?_) (fun hc0 => ?_)
  · replace hc0 : i < l.length := by have := of_decide_eq_true hc0; omega
    obtain ⟨x, hx⟩ : ∃ x, l[i]? = some x := ⟨_, List.getElem?_eq_getElem hc0⟩
    refine C_skip ?_
    refine C_seq ?_
    refine C_block ?_
    refine C_seq ?_
    refine C_region ?_
    refine L_y rfl (y_move rfl) rfl ?_
    refine L_y rfl (y_move rfl) rfl ?_
    refine L_y rfl (y_indexS rfl rfl Try.underlying30 sz_128 (by omega) (by omega) (show _ = i * 2 from by simp)) rfl ?_
    refine L_y rfl (y_fieldAddr rfl fl_128_0) rfl ?_
    refine L_y rfl (y_load rfl ag_48 (sees 0 0 rfl) (lcs_at hx).1) rfl ?_
    refine L_y rfl (y_move rfl) rfl ?_
    refine L_y rfl (y_eqi rfl rfl) rfl ?_
    refine L_nil ?_
    refine C_cond rfl (fun hc1 => ?_) (fun hc1 => ?_)
    · have hxn : x.1 = n := by have := of_decide_eq_true hc1; omega
      refine C_seq ?_
      refine C_region ?_
      refine L_y rfl (y_move rfl) rfl ?_
      refine L_y rfl (y_assign rfl) rfl ?_
      refine L_nil ?_
      refine C_ret ?_
      refine B_ret (rv_tmp rfl rv_nil) ((hsub (.cons_cons _ (.refl _))).trans (hsub_pick [0] rfl)) ?_
      refine ⟨?_, rfl⟩
      first
      | (rw [fnd_at hx hxn hno]; rfl)
      | (rw [fnd_no hno]; rfl)
    · have hxn : ¬ x.1 = n := by have := of_decide_eq_false hc1; omega
      refine C_skip ?_
      refine C_region ?_
      refine L_y rfl (y_move rfl) rfl ?_
      refine L_y rfl (y_add rfl rfl (show _ = ((i + 1 : Nat) : Int) from by rw [wi64 (by omega) (by omega)]; omega)) rfl ?_
      refine L_y rfl (y_assign rfl) rfl ?_
      refine L_nil ?_
      refine ⟨i + 1, ⟨by omega, fun j y hj hy => ?_⟩, by omega, ⟨rfl, rfl, rfl, trivial⟩, ((hsub (.cons_cons _ (.refl _))).trans (hsub_pick [0] rfl))⟩
      rcases Nat.lt_or_ge j i with h | h
      · exact hno j y h hy
      · have : j = i := by omega
        subst this
        rw [hx] at hy
        rw [← Option.some.inj hy]
        exact hxn
  · obtain rfl : i = l.length := by have := of_decide_eq_false hc0; omega
    refine C_exit ?_
    refine C_seq ?_
    refine C_region ?_
    refine L_y rfl (y_assign rfl) rfl ?_
    refine L_nil ?_
    refine C_ret ?_
    refine B_ret (rv_tmp rfl rv_nil) ((hsub (.cons_cons _ (.refl _))).trans (hsub_pick [0] rfl)) ?_
    refine ⟨?_, rfl⟩
    first
    | (rw [fnd_at hx hxn hno]; rfl)
    | (rw [fnd_no hno]; rfl)

theorem find18_0 {w0 : World} {H : Hp} {c : Value} : FnS Try.prog w0 60 #[.slice none 0 0, c] H (fun e H' => e = .returned (.int .i64 (-1)) ∧ H' = H) := by
  refine FnS_intro (n := 20) (rs := [.tmp 4]) (vs := [.slice none 0 0, c]) Try.func60 rfl Try.ntmps60 rfl rfl ?_
  refine C_seq ?_
  refine C_region ?_
  refine L_y rfl (y_assign rfl) rfl ?_
  refine L_nil ?_
  refine C_seq ?_
  refine C_seq ?_
  refine C_region ?_
  refine L_y rfl (y_assign rfl) rfl ?_
  refine L_nil ?_
  refine C_block ?_
  refine C_loopIn (In_round ?_)
  refine C_seq ?_
  refine C_seq ?_
  refine C_region ?_
  refine L_y rfl (y_move rfl) rfl ?_
  refine L_y rfl (y_move rfl) rfl ?_
  refine L_y rfl (y_lenS rfl rfl Try.underlying30) rfl ?_
  refine L_y rfl (y_lss rfl rfl) rfl ?_
  refine L_nil ?_
  refine C_cond rfl (fun hc0 => absurd hc0 (by simp)) (fun hc0 => ?_)
  refine C_exit ?_
  refine C_seq ?_
  refine C_region ?_
  refine L_y rfl (y_assign rfl) rfl ?_
  refine L_nil ?_
  refine C_ret ?_
  refine B_ret (rv_tmp rfl rv_nil) (HSub.refl _) ?_
  exact ⟨rfl, rfl⟩

theorem find18_s {w0 : World} {H : Hp} {l : Xl} {g : Option SlG} (hok : slOk 2 g l.length (lcs l)) (hl : l.length < 1000000) (n : Nat) : FnS Try.prog w0 60 #[slV g l.length, .int .u64 (n : Int)] (slSeg 128 g (lcs l) :: H) (fun e H' => e = .returned (.int .i64 (fnd l n)) ∧ H' = slSeg 128 g (lcs l) :: H) := by
  cases g with
  | some g => exact find18_y hok hl n
  | none =>
    obtain rfl := List.eq_nil_of_length_eq_zero hok.2
    exact find18_0

end Go.Proofs.Ytighbhplfjjgpaa

