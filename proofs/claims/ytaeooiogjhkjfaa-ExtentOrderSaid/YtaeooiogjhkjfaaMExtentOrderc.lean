/- Own work: texts G4W, G5W, G1W, G6W, G7W, E2W, Ol, N0W, E8W, E3W, E9W, N4W, Rw, Rg, Re, Wi, Xc, Rs, put together. -/
import Derived.ShutString
import Derived.OpenShut
import Derived.Carry
import Derived.Deep.Slices
import Derived.Test.YtaeooiogjhkjfaaMExtentOrderb
/- walks (own work; the walks' lines by a program of this repo). -/
set_option linter.unusedVariables false
set_option linter.unusedSimpArgs false
set_option maxRecDepth 20000
namespace Go.Proofs.Ytaeooiogjhkjfaa
open Go.Sl
attribute [local irreducible] BodyQ WpC WpL WpS WpH OpW FnS



set_option maxHeartbeats 2000000 in

theorem partial_u {w0 : World} {H : Hp} {sb n cap : Nat} {sp : List Value} (d : Array Nat) (hd : d.size = n) (hn : n < 4611686018427387904) (a b : Nat) (hab : a < b) (hb : b ≤ n) : FnS Try.prog w0 107 #[(.slice (some ⟨sb, 0, none⟩) n cap), .int .i64 ((a : Nat) : Int), .int .i64 ((b : Nat) : Int)] (useg 58 sb d sp :: H) (fun e H' => e = .returned (.bool (Go.Sort.partialInsertionSort ltN d a b).2) ∧ H' = useg 58 sb (Go.Sort.partialInsertionSort ltN d a b).1 sp :: H) := by
  refine FnS_intro (n := 133) (rs := [.tmp 6]) (vs := [(.slice (some ⟨sb, 0, none⟩) n cap), .int .i64 ((a : Nat) : Int), .int .i64 ((b : Nat) : Int)]) Try.func107 rfl Try.ntmps107 rfl rfl ?_
  refine C_seq ?_
  refine C_region ?_
  refine L_y rfl (y_assign rfl) rfl ?_
  refine L_nil ?_
  refine C_seq ?_
  refine C_region ?_
  refine L_y rfl (y_move rfl) rfl ?_
  refine L_y rfl (y_add rfl rfl (show _ = ((a + 1 : Nat) : Int) from by rw [wi64 (by omega) (by omega)]; omega)) rfl ?_
  refine L_y rfl (y_assign rfl) rfl ?_
  refine L_nil ?_
  refine C_seq ?_
  refine C_seq ?_
  refine C_region ?_
  refine L_y rfl (y_assign rfl) rfl ?_
  refine L_nil ?_
  refine C_block ?_
  refine C_loop (ι := Array Nat × Nat × Nat) (fun x => [(0, (.slice (some ⟨sb, 0, none⟩) n cap)), (1, .int .i64 ((a : Nat) : Int)), (2, .int .i64 ((b : Nat) : Int)), (7, .int .i64 ((x.2.1 : Nat) : Int)), (8, .int .i64 ((5 : Int) - (x.2.2 : Int)))]) (fun x => useg 58 sb x.1 sp :: H) (fun x => x.1.size = n ∧ a < x.2.1 ∧ x.2.1 ≤ b ∧ x.2.2 ≤ 5 ∧ Go.Sort.partialIns ltN a b x.2.2 x.2.1 x.1 = Go.Sort.partialInsertionSort ltN d a b) (fun x => x.2.2) (d, a + 1, 5) ⟨hd, by simp only; omega, by simp only; omega, Nat.le_refl _, rfl⟩ ⟨rfl, rfl, rfl, rfl, rfl, trivial⟩ ((hsub (.cons_cons _ (.refl _))).trans (hsub_pick [0] rfl)) (fun x hx => ?_)
  obtain ⟨d1, i, s⟩ := x
  obtain ⟨hs1, hai, hib, hs5, hr1⟩ := hx
  try simp only at hs1 hai hib hs5 hr1
  try dsimp only
  refine C_seq ?_
  refine C_seq ?_
  refine C_region ?_
  refine L_y rfl (y_move rfl) rfl ?_
  refine L_y rfl (y_lss rfl rfl) rfl ?_
  refine L_nil ?_
  refine C_cond rfl (fun hc0 => ?_) (fun hc0 => ?_)
  · obtain ⟨s, rfl⟩ : ∃ m, s = m + 1 := ⟨s - 1, by have := of_decide_eq_true hc0; omega⟩
    refine C_skip ?_
    refine C_cutG (ι := Nat × Array Nat) (fun z => z.2.size = n ∧ a < z.1 ∧ z.1 ≤ b ∧ Go.Sort.partialIns ltN a b (s + 1) i d1 = Go.Sort.partialIns ltN a b s z.1 z.2) (fun z => [(0, (.slice (some ⟨sb, 0, none⟩) n cap)), (1, .int .i64 ((a : Nat) : Int)), (2, .int .i64 ((b : Nat) : Int)), (8, .int .i64 ((5 : Int) - ((s + 1 : Nat) : Int))), (7, .int .i64 ((z.1 : Nat) : Int))]) (fun z => useg 58 sb z.2 sp :: H) ?_ (fun z hz => ?_)
    · refine C_block ?_
      refine C_cutG (ι := Nat) (fun t => a < t ∧ t ≤ b ∧ Go.Sort.scanSorted ltN d1 b i = t) (fun t => [(0, (.slice (some ⟨sb, 0, none⟩) n cap)), (1, .int .i64 ((a : Nat) : Int)), (2, .int .i64 ((b : Nat) : Int)), (8, .int .i64 ((5 : Int) - ((s + 1 : Nat) : Int))), (7, .int .i64 ((t : Nat) : Int))]) (fun t => useg 58 sb d1 sp :: H) ?_ (fun k hk => ?_)
      · refine C_block ?_
        refine C_loop (ι := Nat) (fun t => [(0, (.slice (some ⟨sb, 0, none⟩) n cap)), (1, .int .i64 ((a : Nat) : Int)), (2, .int .i64 ((b : Nat) : Int)), (8, .int .i64 ((5 : Int) - ((s + 1 : Nat) : Int))), (7, .int .i64 ((t : Nat) : Int))]) (fun t => useg 58 sb d1 sp :: H) (fun t => a < t ∧ t ≤ b ∧ Go.Sort.scanSorted ltN d1 b t = Go.Sort.scanSorted ltN d1 b i) (fun t => b - t) i ⟨hai, hib, rfl⟩ ⟨rfl, rfl, rfl, rfl, rfl, trivial⟩ ((hsub (.cons_cons _ (.refl _))).trans (hsub_pick [0] rfl)) (fun t ht => ?_)
        obtain ⟨ht1, ht2, hts⟩ := ht
        refine C_seq ?_
        refine C_seq ?_
        refine C_regionH0 (by kernel_rfl) ?_
        refine H_y 0 rfl (by kernel_rfl) (by kernel_rfl) (by kernel_rfl) (HSub.refl _) rfl (y_move rfl) rfl ?_
        refine H_y 1 rfl (by kernel_rfl) (by kernel_rfl) (by kernel_rfl) (HSub.refl _) rfl (y_move rfl) rfl ?_
        refine H_y 2 rfl (by kernel_rfl) (by kernel_rfl) (by kernel_rfl) (HSub.refl _) rfl (y_lss rfl rfl) rfl ?_
        refine H_y 3 rfl (by kernel_rfl) (by kernel_rfl) (by kernel_rfl) (HSub.refl _) rfl (y_move rfl) rfl ?_
        refine H_case 20 rfl (fun hg5_4 => ?_) (fun hg5_4 => ?_)
        · have hle : t < b := by have := of_decide_eq_true hg5_4; omega
          refine H_y 4 rfl (by kernel_rfl) (by kernel_rfl) (by kernel_rfl) (HSub.refl _) rfl (y_move rfl) rfl ?_
          refine H_y 5 rfl (by kernel_rfl) (by kernel_rfl) (by kernel_rfl) (HSub.refl _) rfl (y_move rfl) rfl ?_
          refine H_y 6 rfl (by kernel_rfl) (by kernel_rfl) (by kernel_rfl) (HSub.refl _) rfl (y_indexS rfl rfl Try.underlying63 sz_58 (by omega) (by omega) (ix0 (t))) rfl ?_
          refine H_y 7 rfl (by kernel_rfl) (by kernel_rfl) (by kernel_rfl) (HSub.refl _) rfl (y_load rfl ag_58 (sees 0 0 rfl) (us_at (by omega))) rfl ?_
          refine H_y 8 rfl (by kernel_rfl) (by kernel_rfl) (by kernel_rfl) (HSub.refl _) rfl (y_move rfl) rfl ?_
          refine H_y 9 rfl (by kernel_rfl) (by kernel_rfl) (by kernel_rfl) (HSub.refl _) rfl (y_move rfl) rfl ?_
          refine H_y 10 rfl (by kernel_rfl) (by kernel_rfl) (by kernel_rfl) (HSub.refl _) rfl (y_sub rfl rfl (show _ = ((t - 1 : Nat) : Int) from by rw [wi64 (by omega) (by omega)]; omega)) rfl ?_
          refine H_y 11 rfl (by kernel_rfl) (by kernel_rfl) (by kernel_rfl) (HSub.refl _) rfl (y_indexS rfl rfl Try.underlying63 sz_58 (by omega) (by omega) (ix0 (t - 1))) rfl ?_
          refine H_y 12 rfl (by kernel_rfl) (by kernel_rfl) (by kernel_rfl) (HSub.refl _) rfl (y_load rfl ag_58 (sees 0 0 rfl) (us_at (by omega))) rfl ?_
          refine H_one 13 rfl (by kernel_rfl) rfl (op_call rfl rfl (fun a w => Try.call108 a w) rfl ?_)
          refine (less_u (d1[t]!) (d1[t - 1]!)).mono ?_
          rintro _ _ ⟨rfl, e⟩
          obtain rfl := e.symm
          clear e
          refine ⟨_, rfl, ?_⟩
          refine ⟨HSub.refl _, ?_⟩
          refine H_y 14 rfl (by kernel_rfl) (by kernel_rfl) (by kernel_rfl) (HSub.refl _) rfl (y_not rfl) rfl ?_
          refine H_y 15 rfl (by kernel_rfl) (by kernel_rfl) (by kernel_rfl) (HSub.refl _) rfl (y_pick_t rfl rfl) rfl ?_
          refine H_done (by kernel_rfl) ?_
          refine C_cond rfl (fun hc1 => ?_) (fun hc1 => ?_)
          · have hpt : ltN d1[t]! d1[t - 1]! = false := by simpa using hc1
            refine C_skip ?_
            refine C_block ?_
            refine C_region ?_
            refine L_y rfl (y_move rfl) rfl ?_
            refine L_y rfl (y_add rfl rfl (show _ = ((t + 1 : Nat) : Int) from by rw [wi64 (by omega) (by omega)]; omega)) rfl ?_
            refine L_y rfl (y_assign rfl) rfl ?_
            refine L_nil ?_
            exact ⟨t + 1, ⟨by omega, by omega, by rw [← hts, ss_go hle hpt]⟩, by omega, ⟨rfl, rfl, rfl, rfl, rfl, trivial⟩, ((hsub (.cons_cons _ (.refl _))).trans (hsub_pick [0] rfl))⟩
          · have hfin := hts.symm.trans (ss_stop (d := d1) (.inr (by simpa using hc1)))
            refine C_exit ?_
            exact ⟨t, ⟨ht1, ht2, hfin⟩, ⟨rfl, rfl, rfl, rfl, rfl, trivial⟩, ((hsub (.cons_cons _ (.refl _))).trans (hsub_pick [0] rfl))⟩
        · have hle : ¬ t < b := by have := of_decide_eq_false hg5_4; omega
          have hfin := hts.symm.trans (ss_stop (d := d1) (.inl hle))
          refine H_skip 4 rfl (by kernel_rfl) (by kernel_rfl) (by kernel_rfl) (HSub.refl _) rfl rfl ?_
          refine H_skip 5 rfl (by kernel_rfl) (by kernel_rfl) (by kernel_rfl) (HSub.refl _) rfl rfl ?_
          refine H_skip 6 rfl (by kernel_rfl) (by kernel_rfl) (by kernel_rfl) (HSub.refl _) rfl rfl ?_
          refine H_skip 7 rfl (by kernel_rfl) (by kernel_rfl) (by kernel_rfl) (HSub.refl _) rfl rfl ?_
          refine H_skip 8 rfl (by kernel_rfl) (by kernel_rfl) (by kernel_rfl) (HSub.refl _) rfl rfl ?_
          refine H_skip 9 rfl (by kernel_rfl) (by kernel_rfl) (by kernel_rfl) (HSub.refl _) rfl rfl ?_
          refine H_skip 10 rfl (by kernel_rfl) (by kernel_rfl) (by kernel_rfl) (HSub.refl _) rfl rfl ?_
          refine H_skip 11 rfl (by kernel_rfl) (by kernel_rfl) (by kernel_rfl) (HSub.refl _) rfl rfl ?_
          refine H_skip 12 rfl (by kernel_rfl) (by kernel_rfl) (by kernel_rfl) (HSub.refl _) rfl rfl ?_
          refine H_skip 13 rfl (by kernel_rfl) (by kernel_rfl) (by kernel_rfl) (HSub.refl _) rfl rfl ?_
          refine H_skip 14 rfl (by kernel_rfl) (by kernel_rfl) (by kernel_rfl) (HSub.refl _) rfl rfl ?_
          refine H_y 15 rfl (by kernel_rfl) (by kernel_rfl) (by kernel_rfl) (HSub.refl _) rfl (y_pick_f rfl rfl) rfl ?_
          refine H_done (by kernel_rfl) ?_
          refine C_cond_f rfl ?_
          refine C_exit ?_
          exact ⟨t, ⟨ht1, ht2, hfin⟩, ⟨rfl, rfl, rfl, rfl, rfl, trivial⟩, ((hsub (.cons_cons _ (.refl _))).trans (hsub_pick [0] rfl))⟩
      · obtain ⟨hk1, hk2, hk⟩ := hk
        refine C_seq ?_
        refine C_seq ?_
        refine C_region ?_
        refine L_y rfl (y_move rfl) rfl ?_
        refine L_y rfl (y_move rfl) rfl ?_
        refine L_y rfl (y_eqi rfl rfl) rfl ?_
        refine L_nil ?_
        refine C_cond rfl (fun hc2 => ?_) (fun hc2 => ?_)
        · replace hc2 : k = b := by have := of_decide_eq_true hc2; omega
          refine C_seq ?_
          refine C_region ?_
          refine L_y rfl (y_assign rfl) rfl ?_
          refine L_nil ?_
          refine C_ret ?_
          refine B_ret (rv_tmp rfl rv_nil) ((hsub (.cons_cons _ (.refl _))).trans (hsub_pick [0] rfl)) ?_
          rw [← hr1]
          first
          | (rw [pi_true hk hc2]; exact ⟨rfl, rfl⟩)
          | (rw [pi_short hk hc2 hc3]; exact ⟨rfl, rfl⟩)
          | exact ⟨rfl, rfl⟩
        · replace hc2 : ¬ k = b := by have := of_decide_eq_false hc2; omega
          refine C_skip ?_
          refine C_seq ?_
          refine C_seq ?_
          refine C_region ?_
          refine L_y rfl (y_move rfl) rfl ?_
          refine L_y rfl (y_move rfl) rfl ?_
          refine L_y rfl (y_sub rfl rfl (show _ = ((b - a : Nat) : Int) from by rw [wi64 (by omega) (by omega)]; omega)) rfl ?_
          refine L_y rfl (y_lss rfl rfl) rfl ?_
          refine L_nil ?_
          refine C_cond rfl (fun hc3 => ?_) (fun hc3 => ?_)
          · replace hc3 : b - a < 50 := by have := of_decide_eq_true hc3; omega
            refine C_seq ?_
            refine C_region ?_
            refine L_y rfl (y_assign rfl) rfl ?_
            refine L_nil ?_
            refine C_ret ?_
            refine B_ret (rv_tmp rfl rv_nil) ((hsub (.cons_cons _ (.refl _))).trans (hsub_pick [0] rfl)) ?_
            rw [← hr1]
            first
            | (rw [pi_true hk hc2]; exact ⟨rfl, rfl⟩)
            | (rw [pi_short hk hc2 hc3]; exact ⟨rfl, rfl⟩)
            | exact ⟨rfl, rfl⟩
          · replace hc3 : ¬ b - a < 50 := by have := of_decide_eq_false hc3; omega
            refine C_skip ?_
            refine C_seq ?_
            refine C_regionH H (by kernel_rfl) ?_
            refine H_y 0 rfl (by kernel_rfl) (by kernel_rfl) (by kernel_rfl) ((hsub (.cons _ (.refl _)))) rfl (y_move rfl) rfl ?_
            refine H_y 1 rfl (by kernel_rfl) (by kernel_rfl) (by kernel_rfl) ((hsub (.cons _ (.refl _)))) rfl (y_move rfl) rfl ?_
            refine H_y 2 rfl (by kernel_rfl) (by kernel_rfl) (by kernel_rfl) ((hsub (.cons _ (.refl _)))) rfl (y_move rfl) rfl ?_
            refine H_y 3 rfl (by kernel_rfl) (by kernel_rfl) (by kernel_rfl) ((hsub (.cons _ (.refl _)))) rfl (y_move rfl) rfl ?_
            refine H_y 4 rfl (by kernel_rfl) (by kernel_rfl) (by kernel_rfl) ((hsub (.cons _ (.refl _)))) rfl (y_sub rfl rfl (show _ = ((k - 1 : Nat) : Int) from by rw [wi64 (by omega) (by omega)]; omega)) rfl ?_
            refine H_y 5 rfl (by kernel_rfl) (by kernel_rfl) (by kernel_rfl) ((hsub (.cons _ (.refl _)))) rfl (y_move rfl) rfl ?_
            refine H_y 6 rfl (by kernel_rfl) (by kernel_rfl) (by kernel_rfl) ((hsub (.cons _ (.refl _)))) rfl (y_move rfl) rfl ?_
            refine H_y 7 rfl (by kernel_rfl) (by kernel_rfl) (by kernel_rfl) ((hsub (.cons _ (.refl _)))) rfl (y_sub rfl rfl (show _ = ((k - 1 : Nat) : Int) from by rw [wi64 (by omega) (by omega)]; omega)) rfl ?_
            refine H_y 8 rfl (by kernel_rfl) (by kernel_rfl) (by kernel_rfl) ((hsub (.cons _ (.refl _)))) rfl (y_indexS rfl rfl Try.underlying63 sz_58 (by omega) (by omega) (ix0 ((k - 1)))) rfl ?_
            refine H_y 10 rfl (by kernel_rfl) (by kernel_rfl) (by kernel_rfl) ((hsub (.cons _ (.refl _)))) rfl (y_move rfl) rfl ?_
            refine H_y 11 rfl (by kernel_rfl) (by kernel_rfl) (by kernel_rfl) ((hsub (.cons _ (.refl _)))) rfl (y_move rfl) rfl ?_
            refine H_y 12 rfl (by kernel_rfl) (by kernel_rfl) (by kernel_rfl) ((hsub (.cons _ (.refl _)))) rfl (y_indexS rfl rfl Try.underlying63 sz_58 (by omega) (by omega) (ix0 (k))) rfl ?_
            refine H_two 9 13 rfl rfl (by kernel_rfl) rfl rfl ?_ ?_
            · refine op_y (y_load rfl ag_58 (sees 0 0 rfl) (us_at (by omega))) rfl ?_
              refine ⟨(hsub (.cons _ (.refl _))), ?_⟩
              refine H_one 13 rfl (by kernel_rfl) rfl (op_y (y_load rfl ag_58 (sees 0 0 rfl) (us_at (by omega))) rfl ?_)
              refine ⟨(hsub (.cons _ (.refl _))), ?_⟩
              refine H_y 14 rfl (by kernel_rfl) (by kernel_rfl) (by kernel_rfl) ((hsub (.cons _ (.refl _)))) rfl (y_indexS rfl rfl Try.underlying63 sz_58 (by omega) (by omega) (ix0 (k))) rfl ?_
              refine H_one 15 rfl (by kernel_rfl) rfl (op_store1 0 0 rfl rfl rfl sz_58 rfl (us_lt (by omega)) ?_)
              refine ⟨(hsub (.cons _ (.refl _))), ?_⟩
              refine H_y 16 rfl (by kernel_rfl) (by kernel_rfl) (by kernel_rfl) ((hsub (.cons _ (.refl _)))) rfl (y_indexS rfl rfl Try.underlying63 sz_58 (by omega) (by omega) (ix0 ((k - 1)))) rfl ?_
              refine H_one 17 rfl (by kernel_rfl) rfl (op_store1 0 0 rfl rfl rfl sz_58 rfl (by rw [List.length_set]; exact us_lt (by omega)) ?_)
              refine ⟨(hsub (.cons _ (.refl _))), ?_⟩
              refine H_done (by kernel_rfl) ?_
              rw [us_swp (by omega) (by omega)]
              obtain ⟨d2, hd2⟩ : ∃ y, y = Go.Sort.swp d1 k (k - 1) := ⟨_, rfl⟩
              rw [← hd2]
              have hsd2 : d2.size = n := by rw [hd2, swp_size]; omega
              refine C_cutG (ι := Array Nat) (fun x => x.size = n ∧ x = if 2 ≤ k - a then Go.Sort.shiftDown ltN (k - 1) d2 else d2) (fun x => [(0, (.slice (some ⟨sb, 0, none⟩) n cap)), (1, .int .i64 ((a : Nat) : Int)), (2, .int .i64 ((b : Nat) : Int)), (8, .int .i64 ((5 : Int) - ((s + 1 : Nat) : Int))), (7, .int .i64 ((k : Nat) : Int))]) (fun x => useg 58 sb x sp :: H) ?_ (fun d3 hd3 => ?_)
              · refine C_seq ?_
                refine C_region ?_
                refine L_y rfl (y_move rfl) rfl ?_
                refine L_y rfl (y_move rfl) rfl ?_
                refine L_y rfl (y_sub rfl rfl (show _ = ((k - a : Nat) : Int) from by rw [wi64 (by omega) (by omega)]; omega)) rfl ?_
                refine L_y rfl (y_geq rfl rfl) rfl ?_
                refine L_nil ?_
                refine C_cond rfl (fun hc4 => ?_) (fun hc4 => ?_)
                · replace hc4 : 2 ≤ k - a := by have := of_decide_eq_true hc4; omega
                  refine C_seq ?_
                  refine C_region ?_
                  refine L_y rfl (y_move rfl) rfl ?_
                  refine L_y rfl (y_sub rfl rfl (show _ = ((k - 1 : Nat) : Int) from by rw [wi64 (by omega) (by omega)]; omega)) rfl ?_
                  refine L_y rfl (y_assign rfl) rfl ?_
                  refine L_nil ?_
                  refine C_block ?_
                  refine C_loop (ι := Array Nat × Nat) (fun y => [(0, (.slice (some ⟨sb, 0, none⟩) n cap)), (1, .int .i64 ((a : Nat) : Int)), (2, .int .i64 ((b : Nat) : Int)), (8, .int .i64 ((5 : Int) - ((s + 1 : Nat) : Int))), (7, .int .i64 ((k : Nat) : Int)), (9, .int .i64 ((y.2 : Nat) : Int))]) (fun y => useg 58 sb y.1 sp :: H) (fun y => y.1.size = n ∧ y.2 < k ∧ Go.Sort.shiftDown ltN y.2 y.1 = Go.Sort.shiftDown ltN (k - 1) d2) (fun y => y.2) (d2, k - 1) ⟨hsd2, by simp only; omega, rfl⟩ ⟨rfl, rfl, rfl, rfl, rfl, rfl, trivial⟩ ((hsub (.cons_cons _ (.refl _))).trans (hsub_pick [0] rfl)) (fun y hy => ?_)
                  obtain ⟨e1, j⟩ := y
                  obtain ⟨hse, hjk, hre⟩ := hy
                  try simp only at hse hjk hre
                  try dsimp only
                  refine C_seq ?_
                  refine C_seq ?_
                  refine C_region ?_
                  refine L_y rfl (y_move rfl) rfl ?_
                  refine L_y rfl (y_geq rfl rfl) rfl ?_
                  refine L_nil ?_
                  refine C_cond rfl (fun hc5 => ?_) (fun hc5 => ?_)
                  · have hj1 : 1 ≤ j := by have := of_decide_eq_true hc5; omega
                    refine C_skip ?_
                    refine C_seq ?_
                    refine C_block ?_
                    refine C_seq ?_
                    refine C_seq ?_
                    refine C_regionH0 (by kernel_rfl) ?_
                    refine H_y 0 rfl (by kernel_rfl) (by kernel_rfl) (by kernel_rfl) (HSub.refl _) rfl (y_move rfl) rfl ?_
                    refine H_y 1 rfl (by kernel_rfl) (by kernel_rfl) (by kernel_rfl) (HSub.refl _) rfl (y_move rfl) rfl ?_
                    refine H_y 2 rfl (by kernel_rfl) (by kernel_rfl) (by kernel_rfl) (HSub.refl _) rfl (y_indexS rfl rfl Try.underlying63 sz_58 (by omega) (by omega) (ix0 (j))) rfl ?_
                    refine H_y 3 rfl (by kernel_rfl) (by kernel_rfl) (by kernel_rfl) (HSub.refl _) rfl (y_load rfl ag_58 (sees 0 0 rfl) (us_at (by omega))) rfl ?_
                    refine H_y 4 rfl (by kernel_rfl) (by kernel_rfl) (by kernel_rfl) (HSub.refl _) rfl (y_move rfl) rfl ?_
                    refine H_y 5 rfl (by kernel_rfl) (by kernel_rfl) (by kernel_rfl) (HSub.refl _) rfl (y_move rfl) rfl ?_
                    refine H_y 6 rfl (by kernel_rfl) (by kernel_rfl) (by kernel_rfl) (HSub.refl _) rfl (y_sub rfl rfl (show _ = ((j - 1 : Nat) : Int) from by rw [wi64 (by omega) (by omega)]; omega)) rfl ?_
                    refine H_y 7 rfl (by kernel_rfl) (by kernel_rfl) (by kernel_rfl) (HSub.refl _) rfl (y_indexS rfl rfl Try.underlying63 sz_58 (by omega) (by omega) (ix0 (j - 1))) rfl ?_
                    refine H_y 8 rfl (by kernel_rfl) (by kernel_rfl) (by kernel_rfl) (HSub.refl _) rfl (y_load rfl ag_58 (sees 0 0 rfl) (us_at (by omega))) rfl ?_
                    refine H_one 9 rfl (by kernel_rfl) rfl (op_call rfl rfl (fun a w => Try.call108 a w) rfl ?_)
                    refine (less_u (e1[j]!) (e1[j - 1]!)).mono ?_
                    rintro _ _ ⟨rfl, e⟩
                    obtain rfl := e.symm
                    clear e
                    refine ⟨_, rfl, ?_⟩
                    refine ⟨HSub.refl _, ?_⟩
                    refine H_y 10 rfl (by kernel_rfl) (by kernel_rfl) (by kernel_rfl) (HSub.refl _) rfl (y_not rfl) rfl ?_
                    refine H_done (by kernel_rfl) ?_
                    refine C_cond rfl (fun hc6 => ?_) (fun hc6 => ?_)
                    · have hfin2 : Go.Sort.shiftDown ltN j e1 = e1 := sw_stop (.inr (by simpa using hc6))
                      refine C_exit ?_
                      exact ⟨e1, ⟨hse, by rw [if_pos hc4, ← hre, hfin2]⟩, ⟨rfl, rfl, rfl, rfl, rfl, trivial⟩, ((hsub (.cons_cons _ (.refl _))).trans (hsub_pick [0] rfl))⟩
                    · have hl6 : ltN e1[j]! e1[j - 1]! = true := by simpa using hc6
                      refine C_skip ?_
                      refine C_regionH H (by kernel_rfl) ?_
                      refine H_y 0 rfl (by kernel_rfl) (by kernel_rfl) (by kernel_rfl) ((hsub (.cons _ (.refl _)))) rfl (y_move rfl) rfl ?_
                      refine H_y 1 rfl (by kernel_rfl) (by kernel_rfl) (by kernel_rfl) ((hsub (.cons _ (.refl _)))) rfl (y_move rfl) rfl ?_
                      refine H_y 2 rfl (by kernel_rfl) (by kernel_rfl) (by kernel_rfl) ((hsub (.cons _ (.refl _)))) rfl (y_move rfl) rfl ?_
                      refine H_y 3 rfl (by kernel_rfl) (by kernel_rfl) (by kernel_rfl) ((hsub (.cons _ (.refl _)))) rfl (y_move rfl) rfl ?_
                      refine H_y 4 rfl (by kernel_rfl) (by kernel_rfl) (by kernel_rfl) ((hsub (.cons _ (.refl _)))) rfl (y_sub rfl rfl (show _ = ((j - 1 : Nat) : Int) from by rw [wi64 (by omega) (by omega)]; omega)) rfl ?_
                      refine H_y 5 rfl (by kernel_rfl) (by kernel_rfl) (by kernel_rfl) ((hsub (.cons _ (.refl _)))) rfl (y_move rfl) rfl ?_
                      refine H_y 6 rfl (by kernel_rfl) (by kernel_rfl) (by kernel_rfl) ((hsub (.cons _ (.refl _)))) rfl (y_move rfl) rfl ?_
                      refine H_y 7 rfl (by kernel_rfl) (by kernel_rfl) (by kernel_rfl) ((hsub (.cons _ (.refl _)))) rfl (y_sub rfl rfl (show _ = ((j - 1 : Nat) : Int) from by rw [wi64 (by omega) (by omega)]; omega)) rfl ?_
                      refine H_y 8 rfl (by kernel_rfl) (by kernel_rfl) (by kernel_rfl) ((hsub (.cons _ (.refl _)))) rfl (y_indexS rfl rfl Try.underlying63 sz_58 (by omega) (by omega) (ix0 ((j - 1)))) rfl ?_
                      refine H_y 10 rfl (by kernel_rfl) (by kernel_rfl) (by kernel_rfl) ((hsub (.cons _ (.refl _)))) rfl (y_move rfl) rfl ?_
                      refine H_y 11 rfl (by kernel_rfl) (by kernel_rfl) (by kernel_rfl) ((hsub (.cons _ (.refl _)))) rfl (y_move rfl) rfl ?_
                      refine H_y 12 rfl (by kernel_rfl) (by kernel_rfl) (by kernel_rfl) ((hsub (.cons _ (.refl _)))) rfl (y_indexS rfl rfl Try.underlying63 sz_58 (by omega) (by omega) (ix0 (j))) rfl ?_
                      refine H_two 9 13 rfl rfl (by kernel_rfl) rfl rfl ?_ ?_
                      · refine op_y (y_load rfl ag_58 (sees 0 0 rfl) (us_at (by omega))) rfl ?_
                        refine ⟨(hsub (.cons _ (.refl _))), ?_⟩
                        refine H_one 13 rfl (by kernel_rfl) rfl (op_y (y_load rfl ag_58 (sees 0 0 rfl) (us_at (by omega))) rfl ?_)
                        refine ⟨(hsub (.cons _ (.refl _))), ?_⟩
                        refine H_y 14 rfl (by kernel_rfl) (by kernel_rfl) (by kernel_rfl) ((hsub (.cons _ (.refl _)))) rfl (y_indexS rfl rfl Try.underlying63 sz_58 (by omega) (by omega) (ix0 (j))) rfl ?_
                        refine H_one 15 rfl (by kernel_rfl) rfl (op_store1 0 0 rfl rfl rfl sz_58 rfl (us_lt (by omega)) ?_)
                        refine ⟨(hsub (.cons _ (.refl _))), ?_⟩
                        refine H_y 16 rfl (by kernel_rfl) (by kernel_rfl) (by kernel_rfl) ((hsub (.cons _ (.refl _)))) rfl (y_indexS rfl rfl Try.underlying63 sz_58 (by omega) (by omega) (ix0 ((j - 1)))) rfl ?_
                        refine H_one 17 rfl (by kernel_rfl) rfl (op_store1 0 0 rfl rfl rfl sz_58 rfl (by rw [List.length_set]; exact us_lt (by omega)) ?_)
                        refine ⟨(hsub (.cons _ (.refl _))), ?_⟩
                        refine H_done (by kernel_rfl) ?_
                        rw [us_swp (by omega) (by omega)]
                        refine C_region ?_
                        refine L_y rfl (y_move rfl) rfl ?_
                        refine L_y rfl (y_sub rfl rfl (show _ = ((j - 1 : Nat) : Int) from by rw [wi64 (by omega) (by omega)]; omega)) rfl ?_
                        refine L_y rfl (y_assign rfl) rfl ?_
                        refine L_nil ?_
                        exact ⟨(Go.Sort.swp e1 j (j - 1), j - 1), ⟨by simp only; rw [swp_size]; exact hse, by simp only; omega, by simp only; rw [← hre, sw_go hj1 hl6]⟩, by simp only; omega, ⟨rfl, rfl, rfl, rfl, rfl, rfl, trivial⟩, ((hsub (.cons_cons _ (.refl _))).trans (hsub_pick [0] rfl))⟩
                      · refine op_y (y_load rfl ag_58 (sees 0 0 rfl) (us_at (by omega))) rfl ?_
                        refine ⟨(hsub (.cons _ (.refl _))), ?_⟩
                        refine H_one 9 rfl (by kernel_rfl) rfl (op_y (y_load rfl ag_58 (sees 0 0 rfl) (us_at (by omega))) rfl ?_)
                        refine ⟨(hsub (.cons _ (.refl _))), ?_⟩
                        refine H_y 14 rfl (by kernel_rfl) (by kernel_rfl) (by kernel_rfl) ((hsub (.cons _ (.refl _)))) rfl (y_indexS rfl rfl Try.underlying63 sz_58 (by omega) (by omega) (ix0 (j))) rfl ?_
                        refine H_one 15 rfl (by kernel_rfl) rfl (op_store1 0 0 rfl rfl rfl sz_58 rfl (us_lt (by omega)) ?_)
                        refine ⟨(hsub (.cons _ (.refl _))), ?_⟩
                        refine H_y 16 rfl (by kernel_rfl) (by kernel_rfl) (by kernel_rfl) ((hsub (.cons _ (.refl _)))) rfl (y_indexS rfl rfl Try.underlying63 sz_58 (by omega) (by omega) (ix0 ((j - 1)))) rfl ?_
                        refine H_one 17 rfl (by kernel_rfl) rfl (op_store1 0 0 rfl rfl rfl sz_58 rfl (by rw [List.length_set]; exact us_lt (by omega)) ?_)
                        refine ⟨(hsub (.cons _ (.refl _))), ?_⟩
                        refine H_done (by kernel_rfl) ?_
                        rw [us_swp (by omega) (by omega)]
                        refine C_region ?_
                        refine L_y rfl (y_move rfl) rfl ?_
                        refine L_y rfl (y_sub rfl rfl (show _ = ((j - 1 : Nat) : Int) from by rw [wi64 (by omega) (by omega)]; omega)) rfl ?_
                        refine L_y rfl (y_assign rfl) rfl ?_
                        refine L_nil ?_
                        exact ⟨(Go.Sort.swp e1 j (j - 1), j - 1), ⟨by simp only; rw [swp_size]; exact hse, by simp only; omega, by simp only; rw [← hre, sw_go hj1 hl6]⟩, by simp only; omega, ⟨rfl, rfl, rfl, rfl, rfl, rfl, trivial⟩, ((hsub (.cons_cons _ (.refl _))).trans (hsub_pick [0] rfl))⟩
                  · have hj1 : ¬ 1 ≤ j := by have := of_decide_eq_false hc5; omega
                    have hfin2 : Go.Sort.shiftDown ltN j e1 = e1 := sw_stop (.inl (by omega))
                    refine C_exit ?_
                    exact ⟨e1, ⟨hse, by rw [if_pos hc4, ← hre, hfin2]⟩, ⟨rfl, rfl, rfl, rfl, rfl, trivial⟩, ((hsub (.cons_cons _ (.refl _))).trans (hsub_pick [0] rfl))⟩
                · replace hc4 : ¬ 2 ≤ k - a := by have := of_decide_eq_false hc4; omega
                  refine C_skip ?_
                  exact ⟨d2, ⟨hsd2, by rw [if_neg hc4]⟩, ⟨rfl, rfl, rfl, rfl, rfl, trivial⟩, ((hsub (.cons_cons _ (.refl _))).trans (hsub_pick [0] rfl))⟩
              · obtain ⟨hs3, hd3⟩ := hd3
                refine C_seq ?_
                refine C_region ?_
                refine L_y rfl (y_move rfl) rfl ?_
                refine L_y rfl (y_move rfl) rfl ?_
                refine L_y rfl (y_sub rfl rfl (show _ = ((b - k : Nat) : Int) from by rw [wi64 (by omega) (by omega)]; omega)) rfl ?_
                refine L_y rfl (y_geq rfl rfl) rfl ?_
                refine L_nil ?_
                refine C_cond rfl (fun hc7 => ?_) (fun hc7 => ?_)
                · replace hc7 : 2 ≤ b - k := by have := of_decide_eq_true hc7; omega
                  refine C_seq ?_
                  refine C_region ?_
                  refine L_y rfl (y_move rfl) rfl ?_
                  refine L_y rfl (y_add rfl rfl (show _ = ((k + 1 : Nat) : Int) from by rw [wi64 (by omega) (by omega)]; omega)) rfl ?_
                  refine L_y rfl (y_assign rfl) rfl ?_
                  refine L_nil ?_
                  refine C_block ?_
                  refine C_loop (ι := Array Nat × Nat) (fun y => [(0, (.slice (some ⟨sb, 0, none⟩) n cap)), (1, .int .i64 ((a : Nat) : Int)), (2, .int .i64 ((b : Nat) : Int)), (8, .int .i64 ((5 : Int) - ((s + 1 : Nat) : Int))), (7, .int .i64 ((k : Nat) : Int)), (10, .int .i64 ((y.2 : Nat) : Int))]) (fun y => useg 58 sb y.1 sp :: H) (fun y => y.1.size = n ∧ k < y.2 ∧ y.2 ≤ b ∧ Go.Sort.shiftUp ltN b y.2 y.1 = Go.Sort.shiftUp ltN b (k + 1) d3) (fun y => b - y.2) (d3, k + 1) ⟨hs3, by simp only; omega, by simp only; omega, rfl⟩ ⟨rfl, rfl, rfl, rfl, rfl, rfl, trivial⟩ ((hsub (.cons_cons _ (.refl _))).trans (hsub_pick [0] rfl)) (fun y hy => ?_)
                  obtain ⟨e2, j⟩ := y
                  obtain ⟨hse, hjk, hjb, hre⟩ := hy
                  try simp only at hse hjk hjb hre
                  try dsimp only
                  refine C_seq ?_
                  refine C_seq ?_
                  refine C_region ?_
                  refine L_y rfl (y_move rfl) rfl ?_
                  refine L_y rfl (y_move rfl) rfl ?_
                  refine L_y rfl (y_lss rfl rfl) rfl ?_
                  refine L_nil ?_
                  refine C_cond rfl (fun hc8 => ?_) (fun hc8 => ?_)
                  · have hj1 : j < b := by have := of_decide_eq_true hc8; omega
                    refine C_skip ?_
                    refine C_seq ?_
                    refine C_block ?_
                    refine C_seq ?_
                    refine C_seq ?_
                    refine C_regionH0 (by kernel_rfl) ?_
                    refine H_y 0 rfl (by kernel_rfl) (by kernel_rfl) (by kernel_rfl) (HSub.refl _) rfl (y_move rfl) rfl ?_
                    refine H_y 1 rfl (by kernel_rfl) (by kernel_rfl) (by kernel_rfl) (HSub.refl _) rfl (y_move rfl) rfl ?_
                    refine H_y 2 rfl (by kernel_rfl) (by kernel_rfl) (by kernel_rfl) (HSub.refl _) rfl (y_indexS rfl rfl Try.underlying63 sz_58 (by omega) (by omega) (ix0 (j))) rfl ?_
                    refine H_y 3 rfl (by kernel_rfl) (by kernel_rfl) (by kernel_rfl) (HSub.refl _) rfl (y_load rfl ag_58 (sees 0 0 rfl) (us_at (by omega))) rfl ?_
                    refine H_y 4 rfl (by kernel_rfl) (by kernel_rfl) (by kernel_rfl) (HSub.refl _) rfl (y_move rfl) rfl ?_
                    refine H_y 5 rfl (by kernel_rfl) (by kernel_rfl) (by kernel_rfl) (HSub.refl _) rfl (y_move rfl) rfl ?_
                    refine H_y 6 rfl (by kernel_rfl) (by kernel_rfl) (by kernel_rfl) (HSub.refl _) rfl (y_sub rfl rfl (show _ = ((j - 1 : Nat) : Int) from by rw [wi64 (by omega) (by omega)]; omega)) rfl ?_
                    refine H_y 7 rfl (by kernel_rfl) (by kernel_rfl) (by kernel_rfl) (HSub.refl _) rfl (y_indexS rfl rfl Try.underlying63 sz_58 (by omega) (by omega) (ix0 (j - 1))) rfl ?_
                    refine H_y 8 rfl (by kernel_rfl) (by kernel_rfl) (by kernel_rfl) (HSub.refl _) rfl (y_load rfl ag_58 (sees 0 0 rfl) (us_at (by omega))) rfl ?_
                    refine H_one 9 rfl (by kernel_rfl) rfl (op_call rfl rfl (fun a w => Try.call108 a w) rfl ?_)
                    refine (less_u (e2[j]!) (e2[j - 1]!)).mono ?_
                    rintro _ _ ⟨rfl, e⟩
                    obtain rfl := e.symm
                    clear e
                    refine ⟨_, rfl, ?_⟩
                    refine ⟨HSub.refl _, ?_⟩
                    refine H_y 10 rfl (by kernel_rfl) (by kernel_rfl) (by kernel_rfl) (HSub.refl _) rfl (y_not rfl) rfl ?_
                    refine H_done (by kernel_rfl) ?_
                    refine C_cond rfl (fun hc9 => ?_) (fun hc9 => ?_)
                    · have hfin2 : Go.Sort.shiftUp ltN b j e2 = e2 := sp_stop (.inr (by simpa using hc9))
                      refine C_exit ?_
                      exact ⟨(k, e2), ⟨hse, hk1, hk2, pi_go hk hc2 hc3 hd2 hd3 (by rw [if_pos hc7, ← hre, hfin2])⟩, ⟨rfl, rfl, rfl, rfl, rfl, trivial⟩, ((hsub (.cons_cons _ (.refl _))).trans (hsub_pick [0] rfl))⟩
                    · have hl9 : ltN e2[j]! e2[j - 1]! = true := by simpa using hc9
                      refine C_skip ?_
                      refine C_regionH H (by kernel_rfl) ?_
                      refine H_y 0 rfl (by kernel_rfl) (by kernel_rfl) (by kernel_rfl) ((hsub (.cons _ (.refl _)))) rfl (y_move rfl) rfl ?_
                      refine H_y 1 rfl (by kernel_rfl) (by kernel_rfl) (by kernel_rfl) ((hsub (.cons _ (.refl _)))) rfl (y_move rfl) rfl ?_
                      refine H_y 2 rfl (by kernel_rfl) (by kernel_rfl) (by kernel_rfl) ((hsub (.cons _ (.refl _)))) rfl (y_move rfl) rfl ?_
                      refine H_y 3 rfl (by kernel_rfl) (by kernel_rfl) (by kernel_rfl) ((hsub (.cons _ (.refl _)))) rfl (y_move rfl) rfl ?_
                      refine H_y 4 rfl (by kernel_rfl) (by kernel_rfl) (by kernel_rfl) ((hsub (.cons _ (.refl _)))) rfl (y_sub rfl rfl (show _ = ((j - 1 : Nat) : Int) from by rw [wi64 (by omega) (by omega)]; omega)) rfl ?_
                      refine H_y 5 rfl (by kernel_rfl) (by kernel_rfl) (by kernel_rfl) ((hsub (.cons _ (.refl _)))) rfl (y_move rfl) rfl ?_
                      refine H_y 6 rfl (by kernel_rfl) (by kernel_rfl) (by kernel_rfl) ((hsub (.cons _ (.refl _)))) rfl (y_move rfl) rfl ?_
                      refine H_y 7 rfl (by kernel_rfl) (by kernel_rfl) (by kernel_rfl) ((hsub (.cons _ (.refl _)))) rfl (y_sub rfl rfl (show _ = ((j - 1 : Nat) : Int) from by rw [wi64 (by omega) (by omega)]; omega)) rfl ?_
                      refine H_y 8 rfl (by kernel_rfl) (by kernel_rfl) (by kernel_rfl) ((hsub (.cons _ (.refl _)))) rfl (y_indexS rfl rfl Try.underlying63 sz_58 (by omega) (by omega) (ix0 ((j - 1)))) rfl ?_
                      refine H_y 10 rfl (by kernel_rfl) (by kernel_rfl) (by kernel_rfl) ((hsub (.cons _ (.refl _)))) rfl (y_move rfl) rfl ?_
                      refine H_y 11 rfl (by kernel_rfl) (by kernel_rfl) (by kernel_rfl) ((hsub (.cons _ (.refl _)))) rfl (y_move rfl) rfl ?_
                      refine H_y 12 rfl (by kernel_rfl) (by kernel_rfl) (by kernel_rfl) ((hsub (.cons _ (.refl _)))) rfl (y_indexS rfl rfl Try.underlying63 sz_58 (by omega) (by omega) (ix0 (j))) rfl ?_
                      refine H_two 9 13 rfl rfl (by kernel_rfl) rfl rfl ?_ ?_
                      · refine op_y (y_load rfl ag_58 (sees 0 0 rfl) (us_at (by omega))) rfl ?_
                        refine ⟨(hsub (.cons _ (.refl _))), ?_⟩
                        refine H_one 13 rfl (by kernel_rfl) rfl (op_y (y_load rfl ag_58 (sees 0 0 rfl) (us_at (by omega))) rfl ?_)
                        refine ⟨(hsub (.cons _ (.refl _))), ?_⟩
                        refine H_y 14 rfl (by kernel_rfl) (by kernel_rfl) (by kernel_rfl) ((hsub (.cons _ (.refl _)))) rfl (y_indexS rfl rfl Try.underlying63 sz_58 (by omega) (by omega) (ix0 (j))) rfl ?_
                        refine H_one 15 rfl (by kernel_rfl) rfl (op_store1 0 0 rfl rfl rfl sz_58 rfl (us_lt (by omega)) ?_)
                        refine ⟨(hsub (.cons _ (.refl _))), ?_⟩
                        refine H_y 16 rfl (by kernel_rfl) (by kernel_rfl) (by kernel_rfl) ((hsub (.cons _ (.refl _)))) rfl (y_indexS rfl rfl Try.underlying63 sz_58 (by omega) (by omega) (ix0 ((j - 1)))) rfl ?_
                        refine H_one 17 rfl (by kernel_rfl) rfl (op_store1 0 0 rfl rfl rfl sz_58 rfl (by rw [List.length_set]; exact us_lt (by omega)) ?_)
                        refine ⟨(hsub (.cons _ (.refl _))), ?_⟩
                        refine H_done (by kernel_rfl) ?_
                        rw [us_swp (by omega) (by omega)]
                        refine C_region ?_
                        refine L_y rfl (y_move rfl) rfl ?_
                        refine L_y rfl (y_add rfl rfl (show _ = ((j + 1 : Nat) : Int) from by rw [wi64 (by omega) (by omega)]; omega)) rfl ?_
                        refine L_y rfl (y_assign rfl) rfl ?_
                        refine L_nil ?_
                        exact ⟨(Go.Sort.swp e2 j (j - 1), j + 1), ⟨by simp only; rw [swp_size]; exact hse, by simp only; omega, by simp only; omega, by simp only; rw [← hre, sp_go hj1 hl9]⟩, by simp only; omega, ⟨rfl, rfl, rfl, rfl, rfl, rfl, trivial⟩, ((hsub (.cons_cons _ (.refl _))).trans (hsub_pick [0] rfl))⟩
                      · refine op_y (y_load rfl ag_58 (sees 0 0 rfl) (us_at (by omega))) rfl ?_
                        refine ⟨(hsub (.cons _ (.refl _))), ?_⟩
                        refine H_one 9 rfl (by kernel_rfl) rfl (op_y (y_load rfl ag_58 (sees 0 0 rfl) (us_at (by omega))) rfl ?_)
                        refine ⟨(hsub (.cons _ (.refl _))), ?_⟩
                        refine H_y 14 rfl (by kernel_rfl) (by kernel_rfl) (by kernel_rfl) ((hsub (.cons _ (.refl _)))) rfl (y_indexS rfl rfl Try.underlying63 sz_58 (by omega) (by omega) (ix0 (j))) rfl ?_
                        refine H_one 15 rfl (by kernel_rfl) rfl (op_store1 0 0 rfl rfl rfl sz_58 rfl (us_lt (by omega)) ?_)
                        refine ⟨(hsub (.cons _ (.refl _))), ?_⟩
                        refine H_y 16 rfl (by kernel_rfl) (by kernel_rfl) (by kernel_rfl) ((hsub (.cons _ (.refl _)))) rfl (y_indexS rfl rfl Try.underlying63 sz_58 (by omega) (by omega) (ix0 ((j - 1)))) rfl ?_
                        refine H_one 17 rfl (by kernel_rfl) rfl (op_store1 0 0 rfl rfl rfl sz_58 rfl (by rw [List.length_set]; exact us_lt (by omega)) ?_)
                        refine ⟨(hsub (.cons _ (.refl _))), ?_⟩
                        refine H_done (by kernel_rfl) ?_
                        rw [us_swp (by omega) (by omega)]
                        refine C_region ?_
                        refine L_y rfl (y_move rfl) rfl ?_
                        refine L_y rfl (y_add rfl rfl (show _ = ((j + 1 : Nat) : Int) from by rw [wi64 (by omega) (by omega)]; omega)) rfl ?_
                        refine L_y rfl (y_assign rfl) rfl ?_
                        refine L_nil ?_
                        exact ⟨(Go.Sort.swp e2 j (j - 1), j + 1), ⟨by simp only; rw [swp_size]; exact hse, by simp only; omega, by simp only; omega, by simp only; rw [← hre, sp_go hj1 hl9]⟩, by simp only; omega, ⟨rfl, rfl, rfl, rfl, rfl, rfl, trivial⟩, ((hsub (.cons_cons _ (.refl _))).trans (hsub_pick [0] rfl))⟩
                  · have hj1 : ¬ j < b := by have := of_decide_eq_false hc8; omega
                    have hfin2 : Go.Sort.shiftUp ltN b j e2 = e2 := sp_stop (.inl hj1)
                    refine C_exit ?_
                    exact ⟨(k, e2), ⟨hse, hk1, hk2, pi_go hk hc2 hc3 hd2 hd3 (by rw [if_pos hc7, ← hre, hfin2])⟩, ⟨rfl, rfl, rfl, rfl, rfl, trivial⟩, ((hsub (.cons_cons _ (.refl _))).trans (hsub_pick [0] rfl))⟩
                · replace hc7 : ¬ 2 ≤ b - k := by have := of_decide_eq_false hc7; omega
                  refine C_skip ?_
                  exact ⟨(k, d3), ⟨hs3, hk1, hk2, pi_go hk hc2 hc3 hd2 hd3 (by rw [if_neg hc7])⟩, ⟨rfl, rfl, rfl, rfl, rfl, trivial⟩, ((hsub (.cons_cons _ (.refl _))).trans (hsub_pick [0] rfl))⟩
            · refine op_y (y_load rfl ag_58 (sees 0 0 rfl) (us_at (by omega))) rfl ?_
              refine ⟨(hsub (.cons _ (.refl _))), ?_⟩
              refine H_one 9 rfl (by kernel_rfl) rfl (op_y (y_load rfl ag_58 (sees 0 0 rfl) (us_at (by omega))) rfl ?_)
              refine ⟨(hsub (.cons _ (.refl _))), ?_⟩
              refine H_y 14 rfl (by kernel_rfl) (by kernel_rfl) (by kernel_rfl) ((hsub (.cons _ (.refl _)))) rfl (y_indexS rfl rfl Try.underlying63 sz_58 (by omega) (by omega) (ix0 (k))) rfl ?_
              refine H_one 15 rfl (by kernel_rfl) rfl (op_store1 0 0 rfl rfl rfl sz_58 rfl (us_lt (by omega)) ?_)
              refine ⟨(hsub (.cons _ (.refl _))), ?_⟩
              refine H_y 16 rfl (by kernel_rfl) (by kernel_rfl) (by kernel_rfl) ((hsub (.cons _ (.refl _)))) rfl (y_indexS rfl rfl Try.underlying63 sz_58 (by omega) (by omega) (ix0 ((k - 1)))) rfl ?_
              refine H_one 17 rfl (by kernel_rfl) rfl (op_store1 0 0 rfl rfl rfl sz_58 rfl (by rw [List.length_set]; exact us_lt (by omega)) ?_)
              refine ⟨(hsub (.cons _ (.refl _))), ?_⟩
              refine H_done (by kernel_rfl) ?_
              rw [us_swp (by omega) (by omega)]
              obtain ⟨d2, hd2⟩ : ∃ y, y = Go.Sort.swp d1 k (k - 1) := ⟨_, rfl⟩
              rw [← hd2]
              have hsd2 : d2.size = n := by rw [hd2, swp_size]; omega
              refine C_cutG (ι := Array Nat) (fun x => x.size = n ∧ x = if 2 ≤ k - a then Go.Sort.shiftDown ltN (k - 1) d2 else d2) (fun x => [(0, (.slice (some ⟨sb, 0, none⟩) n cap)), (1, .int .i64 ((a : Nat) : Int)), (2, .int .i64 ((b : Nat) : Int)), (8, .int .i64 ((5 : Int) - ((s + 1 : Nat) : Int))), (7, .int .i64 ((k : Nat) : Int))]) (fun x => useg 58 sb x sp :: H) ?_ (fun d3 hd3 => ?_)
              · refine C_seq ?_
                refine C_region ?_
                refine L_y rfl (y_move rfl) rfl ?_
                refine L_y rfl (y_move rfl) rfl ?_
                refine L_y rfl (y_sub rfl rfl (show _ = ((k - a : Nat) : Int) from by rw [wi64 (by omega) (by omega)]; omega)) rfl ?_
                refine L_y rfl (y_geq rfl rfl) rfl ?_
                refine L_nil ?_
                refine C_cond rfl (fun hc4 => ?_) (fun hc4 => ?_)
                · replace hc4 : 2 ≤ k - a := by have := of_decide_eq_true hc4; omega
                  refine C_seq ?_
                  refine C_region ?_
                  refine L_y rfl (y_move rfl) rfl ?_
                  refine L_y rfl (y_sub rfl rfl (show _ = ((k - 1 : Nat) : Int) from by rw [wi64 (by omega) (by omega)]; omega)) rfl ?_
                  refine L_y rfl (y_assign rfl) rfl ?_
                  refine L_nil ?_
                  refine C_block ?_
                  refine C_loop (ι := Array Nat × Nat) (fun y => [(0, (.slice (some ⟨sb, 0, none⟩) n cap)), (1, .int .i64 ((a : Nat) : Int)), (2, .int .i64 ((b : Nat) : Int)), (8, .int .i64 ((5 : Int) - ((s + 1 : Nat) : Int))), (7, .int .i64 ((k : Nat) : Int)), (9, .int .i64 ((y.2 : Nat) : Int))]) (fun y => useg 58 sb y.1 sp :: H) (fun y => y.1.size = n ∧ y.2 < k ∧ Go.Sort.shiftDown ltN y.2 y.1 = Go.Sort.shiftDown ltN (k - 1) d2) (fun y => y.2) (d2, k - 1) ⟨hsd2, by simp only; omega, rfl⟩ ⟨rfl, rfl, rfl, rfl, rfl, rfl, trivial⟩ ((hsub (.cons_cons _ (.refl _))).trans (hsub_pick [0] rfl)) (fun y hy => ?_)
                  obtain ⟨e1, j⟩ := y
                  obtain ⟨hse, hjk, hre⟩ := hy
                  try simp only at hse hjk hre
                  try dsimp only
                  refine C_seq ?_
                  refine C_seq ?_
                  refine C_region ?_
                  refine L_y rfl (y_move rfl) rfl ?_
                  refine L_y rfl (y_geq rfl rfl) rfl ?_
                  refine L_nil ?_
                  refine C_cond rfl (fun hc5 => ?_) (fun hc5 => ?_)
                  · have hj1 : 1 ≤ j := by have := of_decide_eq_true hc5; omega
                    refine C_skip ?_
                    refine C_seq ?_
                    refine C_block ?_
                    refine C_seq ?_
                    refine C_seq ?_
                    refine C_regionH0 (by kernel_rfl) ?_
                    refine H_y 0 rfl (by kernel_rfl) (by kernel_rfl) (by kernel_rfl) (HSub.refl _) rfl (y_move rfl) rfl ?_
                    refine H_y 1 rfl (by kernel_rfl) (by kernel_rfl) (by kernel_rfl) (HSub.refl _) rfl (y_move rfl) rfl ?_
                    refine H_y 2 rfl (by kernel_rfl) (by kernel_rfl) (by kernel_rfl) (HSub.refl _) rfl (y_indexS rfl rfl Try.underlying63 sz_58 (by omega) (by omega) (ix0 (j))) rfl ?_
                    refine H_y 3 rfl (by kernel_rfl) (by kernel_rfl) (by kernel_rfl) (HSub.refl _) rfl (y_load rfl ag_58 (sees 0 0 rfl) (us_at (by omega))) rfl ?_
                    refine H_y 4 rfl (by kernel_rfl) (by kernel_rfl) (by kernel_rfl) (HSub.refl _) rfl (y_move rfl) rfl ?_
                    refine H_y 5 rfl (by kernel_rfl) (by kernel_rfl) (by kernel_rfl) (HSub.refl _) rfl (y_move rfl) rfl ?_
                    refine H_y 6 rfl (by kernel_rfl) (by kernel_rfl) (by kernel_rfl) (HSub.refl _) rfl (y_sub rfl rfl (show _ = ((j - 1 : Nat) : Int) from by rw [wi64 (by omega) (by omega)]; omega)) rfl ?_
                    refine H_y 7 rfl (by kernel_rfl) (by kernel_rfl) (by kernel_rfl) (HSub.refl _) rfl (y_indexS rfl rfl Try.underlying63 sz_58 (by omega) (by omega) (ix0 (j - 1))) rfl ?_
                    refine H_y 8 rfl (by kernel_rfl) (by kernel_rfl) (by kernel_rfl) (HSub.refl _) rfl (y_load rfl ag_58 (sees 0 0 rfl) (us_at (by omega))) rfl ?_
                    refine H_one 9 rfl (by kernel_rfl) rfl (op_call rfl rfl (fun a w => Try.call108 a w) rfl ?_)
                    refine (less_u (e1[j]!) (e1[j - 1]!)).mono ?_
                    rintro _ _ ⟨rfl, e⟩
                    obtain rfl := e.symm
                    clear e
                    refine ⟨_, rfl, ?_⟩
                    refine ⟨HSub.refl _, ?_⟩
                    refine H_y 10 rfl (by kernel_rfl) (by kernel_rfl) (by kernel_rfl) (HSub.refl _) rfl (y_not rfl) rfl ?_
                    refine H_done (by kernel_rfl) ?_
                    refine C_cond rfl (fun hc6 => ?_) (fun hc6 => ?_)
                    · have hfin2 : Go.Sort.shiftDown ltN j e1 = e1 := sw_stop (.inr (by simpa using hc6))
                      refine C_exit ?_
                      exact ⟨e1, ⟨hse, by rw [if_pos hc4, ← hre, hfin2]⟩, ⟨rfl, rfl, rfl, rfl, rfl, trivial⟩, ((hsub (.cons_cons _ (.refl _))).trans (hsub_pick [0] rfl))⟩
                    · have hl6 : ltN e1[j]! e1[j - 1]! = true := by simpa using hc6
                      refine C_skip ?_
                      refine C_regionH H (by kernel_rfl) ?_
                      refine H_y 0 rfl (by kernel_rfl) (by kernel_rfl) (by kernel_rfl) ((hsub (.cons _ (.refl _)))) rfl (y_move rfl) rfl ?_
                      refine H_y 1 rfl (by kernel_rfl) (by kernel_rfl) (by kernel_rfl) ((hsub (.cons _ (.refl _)))) rfl (y_move rfl) rfl ?_
                      refine H_y 2 rfl (by kernel_rfl) (by kernel_rfl) (by kernel_rfl) ((hsub (.cons _ (.refl _)))) rfl (y_move rfl) rfl ?_
                      refine H_y 3 rfl (by kernel_rfl) (by kernel_rfl) (by kernel_rfl) ((hsub (.cons _ (.refl _)))) rfl (y_move rfl) rfl ?_
                      refine H_y 4 rfl (by kernel_rfl) (by kernel_rfl) (by kernel_rfl) ((hsub (.cons _ (.refl _)))) rfl (y_sub rfl rfl (show _ = ((j - 1 : Nat) : Int) from by rw [wi64 (by omega) (by omega)]; omega)) rfl ?_
                      refine H_y 5 rfl (by kernel_rfl) (by kernel_rfl) (by kernel_rfl) ((hsub (.cons _ (.refl _)))) rfl (y_move rfl) rfl ?_
                      refine H_y 6 rfl (by kernel_rfl) (by kernel_rfl) (by kernel_rfl) ((hsub (.cons _ (.refl _)))) rfl (y_move rfl) rfl ?_
                      refine H_y 7 rfl (by kernel_rfl) (by kernel_rfl) (by kernel_rfl) ((hsub (.cons _ (.refl _)))) rfl (y_sub rfl rfl (show _ = ((j - 1 : Nat) : Int) from by rw [wi64 (by omega) (by omega)]; omega)) rfl ?_
                      refine H_y 8 rfl (by kernel_rfl) (by kernel_rfl) (by kernel_rfl) ((hsub (.cons _ (.refl _)))) rfl (y_indexS rfl rfl Try.underlying63 sz_58 (by omega) (by omega) (ix0 ((j - 1)))) rfl ?_
                      refine H_y 10 rfl (by kernel_rfl) (by kernel_rfl) (by kernel_rfl) ((hsub (.cons _ (.refl _)))) rfl (y_move rfl) rfl ?_
                      refine H_y 11 rfl (by kernel_rfl) (by kernel_rfl) (by kernel_rfl) ((hsub (.cons _ (.refl _)))) rfl (y_move rfl) rfl ?_
                      refine H_y 12 rfl (by kernel_rfl) (by kernel_rfl) (by kernel_rfl) ((hsub (.cons _ (.refl _)))) rfl (y_indexS rfl rfl Try.underlying63 sz_58 (by omega) (by omega) (ix0 (j))) rfl ?_
                      refine H_two 9 13 rfl rfl (by kernel_rfl) rfl rfl ?_ ?_
                      · refine op_y (y_load rfl ag_58 (sees 0 0 rfl) (us_at (by omega))) rfl ?_
                        refine ⟨(hsub (.cons _ (.refl _))), ?_⟩
                        refine H_one 13 rfl (by kernel_rfl) rfl (op_y (y_load rfl ag_58 (sees 0 0 rfl) (us_at (by omega))) rfl ?_)
                        refine ⟨(hsub (.cons _ (.refl _))), ?_⟩
                        refine H_y 14 rfl (by kernel_rfl) (by kernel_rfl) (by kernel_rfl) ((hsub (.cons _ (.refl _)))) rfl (y_indexS rfl rfl Try.underlying63 sz_58 (by omega) (by omega) (ix0 (j))) rfl ?_
                        refine H_one 15 rfl (by kernel_rfl) rfl (op_store1 0 0 rfl rfl rfl sz_58 rfl (us_lt (by omega)) ?_)
                        refine ⟨(hsub (.cons _ (.refl _))), ?_⟩
                        refine H_y 16 rfl (by kernel_rfl) (by kernel_rfl) (by kernel_rfl) ((hsub (.cons _ (.refl _)))) rfl (y_indexS rfl rfl Try.underlying63 sz_58 (by omega) (by omega) (ix0 ((j - 1)))) rfl ?_
                        refine H_one 17 rfl (by kernel_rfl) rfl (op_store1 0 0 rfl rfl rfl sz_58 rfl (by rw [List.length_set]; exact us_lt (by omega)) ?_)
                        refine ⟨(hsub (.cons _ (.refl _))), ?_⟩
                        refine H_done (by kernel_rfl) ?_
                        rw [us_swp (by omega) (by omega)]
                        refine C_region ?_
                        refine L_y rfl (y_move rfl) rfl ?_
                        refine L_y rfl (y_sub rfl rfl (show _ = ((j - 1 : Nat) : Int) from by rw [wi64 (by omega) (by omega)]; omega)) rfl ?_
                        refine L_y rfl (y_assign rfl) rfl ?_
                        refine L_nil ?_
                        exact ⟨(Go.Sort.swp e1 j (j - 1), j - 1), ⟨by simp only; rw [swp_size]; exact hse, by simp only; omega, by simp only; rw [← hre, sw_go hj1 hl6]⟩, by simp only; omega, ⟨rfl, rfl, rfl, rfl, rfl, rfl, trivial⟩, ((hsub (.cons_cons _ (.refl _))).trans (hsub_pick [0] rfl))⟩
                      · refine op_y (y_load rfl ag_58 (sees 0 0 rfl) (us_at (by omega))) rfl ?_
                        refine ⟨(hsub (.cons _ (.refl _))), ?_⟩
                        refine H_one 9 rfl (by kernel_rfl) rfl (op_y (y_load rfl ag_58 (sees 0 0 rfl) (us_at (by omega))) rfl ?_)
                        refine ⟨(hsub (.cons _ (.refl _))), ?_⟩
                        refine H_y 14 rfl (by kernel_rfl) (by kernel_rfl) (by kernel_rfl) ((hsub (.cons _ (.refl _)))) rfl (y_indexS rfl rfl Try.underlying63 sz_58 (by omega) (by omega) (ix0 (j))) rfl ?_
                        refine H_one 15 rfl (by kernel_rfl) rfl (op_store1 0 0 rfl rfl rfl sz_58 rfl (us_lt (by omega)) ?_)
                        refine ⟨(hsub (.cons _ (.refl _))), ?_⟩
                        refine H_y 16 rfl (by kernel_rfl) (by kernel_rfl) (by kernel_rfl) ((hsub (.cons _ (.refl _)))) rfl (y_indexS rfl rfl Try.underlying63 sz_58 (by omega) (by omega) (ix0 ((j - 1)))) rfl ?_
                        refine H_one 17 rfl (by kernel_rfl) rfl (op_store1 0 0 rfl rfl rfl sz_58 rfl (by rw [List.length_set]; exact us_lt (by omega)) ?_)
                        refine ⟨(hsub (.cons _ (.refl _))), ?_⟩
                        refine H_done (by kernel_rfl) ?_
                        rw [us_swp (by omega) (by omega)]
                        refine C_region ?_
                        refine L_y rfl (y_move rfl) rfl ?_
                        refine L_y rfl (y_sub rfl rfl (show _ = ((j - 1 : Nat) : Int) from by rw [wi64 (by omega) (by omega)]; omega)) rfl ?_
                        refine L_y rfl (y_assign rfl) rfl ?_
                        refine L_nil ?_
                        exact ⟨(Go.Sort.swp e1 j (j - 1), j - 1), ⟨by simp only; rw [swp_size]; exact hse, by simp only; omega, by simp only; rw [← hre, sw_go hj1 hl6]⟩, by simp only; omega, ⟨rfl, rfl, rfl, rfl, rfl, rfl, trivial⟩, ((hsub (.cons_cons _ (.refl _))).trans (hsub_pick [0] rfl))⟩
                  · have hj1 : ¬ 1 ≤ j := by have := of_decide_eq_false hc5; omega
                    have hfin2 : Go.Sort.shiftDown ltN j e1 = e1 := sw_stop (.inl (by omega))
                    refine C_exit ?_
                    exact ⟨e1, ⟨hse, by rw [if_pos hc4, ← hre, hfin2]⟩, ⟨rfl, rfl, rfl, rfl, rfl, trivial⟩, ((hsub (.cons_cons _ (.refl _))).trans (hsub_pick [0] rfl))⟩
                · replace hc4 : ¬ 2 ≤ k - a := by have := of_decide_eq_false hc4; omega
                  refine C_skip ?_
                  exact ⟨d2, ⟨hsd2, by rw [if_neg hc4]⟩, ⟨rfl, rfl, rfl, rfl, rfl, trivial⟩, ((hsub (.cons_cons _ (.refl _))).trans (hsub_pick [0] rfl))⟩
              · obtain ⟨hs3, hd3⟩ := hd3
                refine C_seq ?_
                refine C_region ?_
                refine L_y rfl (y_move rfl) rfl ?_
                refine L_y rfl (y_move rfl) rfl ?_
                refine L_y rfl (y_sub rfl rfl (show _ = ((b - k : Nat) : Int) from by rw [wi64 (by omega) (by omega)]; omega)) rfl ?_
                refine L_y rfl (y_geq rfl rfl) rfl ?_
                refine L_nil ?_
                refine C_cond rfl (fun hc7 => ?_) (fun hc7 => ?_)
                · replace hc7 : 2 ≤ b - k := by have := of_decide_eq_true hc7; omega
                  refine C_seq ?_
                  refine C_region ?_
                  refine L_y rfl (y_move rfl) rfl ?_
                  refine L_y rfl (y_add rfl rfl (show _ = ((k + 1 : Nat) : Int) from by rw [wi64 (by omega) (by omega)]; omega)) rfl ?_
                  refine L_y rfl (y_assign rfl) rfl ?_
                  refine L_nil ?_
                  refine C_block ?_
                  refine C_loop (ι := Array Nat × Nat) (fun y => [(0, (.slice (some ⟨sb, 0, none⟩) n cap)), (1, .int .i64 ((a : Nat) : Int)), (2, .int .i64 ((b : Nat) : Int)), (8, .int .i64 ((5 : Int) - ((s + 1 : Nat) : Int))), (7, .int .i64 ((k : Nat) : Int)), (10, .int .i64 ((y.2 : Nat) : Int))]) (fun y => useg 58 sb y.1 sp :: H) (fun y => y.1.size = n ∧ k < y.2 ∧ y.2 ≤ b ∧ Go.Sort.shiftUp ltN b y.2 y.1 = Go.Sort.shiftUp ltN b (k + 1) d3) (fun y => b - y.2) (d3, k + 1) ⟨hs3, by simp only; omega, by simp only; omega, rfl⟩ ⟨rfl, rfl, rfl, rfl, rfl, rfl, trivial⟩ ((hsub (.cons_cons _ (.refl _))).trans (hsub_pick [0] rfl)) (fun y hy => ?_)
                  obtain ⟨e2, j⟩ := y
                  obtain ⟨hse, hjk, hjb, hre⟩ := hy
                  try simp only at hse hjk hjb hre
                  try dsimp only
                  refine C_seq ?_
                  refine C_seq ?_
                  refine C_region ?_
                  refine L_y rfl (y_move rfl) rfl ?_
                  refine L_y rfl (y_move rfl) rfl ?_
                  refine L_y rfl (y_lss rfl rfl) rfl ?_
                  refine L_nil ?_
                  refine C_cond rfl (fun hc8 => ?_) (fun hc8 => ?_)
                  · have hj1 : j < b := by have := of_decide_eq_true hc8; omega
                    refine C_skip ?_
                    refine C_seq ?_
                    refine C_block ?_
                    refine C_seq ?_
                    refine C_seq ?_
                    refine C_regionH0 (by kernel_rfl) ?_
                    refine H_y 0 rfl (by kernel_rfl) (by kernel_rfl) (by kernel_rfl) (HSub.refl _) rfl (y_move rfl) rfl ?_
                    refine H_y 1 rfl (by kernel_rfl) (by kernel_rfl) (by kernel_rfl) (HSub.refl _) rfl (y_move rfl) rfl ?_
                    refine H_y 2 rfl (by kernel_rfl) (by kernel_rfl) (by kernel_rfl) (HSub.refl _) rfl (y_indexS rfl rfl Try.underlying63 sz_58 (by omega) (by omega) (ix0 (j))) rfl ?_
                    refine H_y 3 rfl (by kernel_rfl) (by kernel_rfl) (by kernel_rfl) (HSub.refl _) rfl (y_load rfl ag_58 (sees 0 0 rfl) (us_at (by omega))) rfl ?_
                    refine H_y 4 rfl (by kernel_rfl) (by kernel_rfl) (by kernel_rfl) (HSub.refl _) rfl (y_move rfl) rfl ?_
                    refine H_y 5 rfl (by kernel_rfl) (by kernel_rfl) (by kernel_rfl) (HSub.refl _) rfl (y_move rfl) rfl ?_
                    refine H_y 6 rfl (by kernel_rfl) (by kernel_rfl) (by kernel_rfl) (HSub.refl _) rfl (y_sub rfl rfl (show _ = ((j - 1 : Nat) : Int) from by rw [wi64 (by omega) (by omega)]; omega)) rfl ?_
                    refine H_y 7 rfl (by kernel_rfl) (by kernel_rfl) (by kernel_rfl) (HSub.refl _) rfl (y_indexS rfl rfl Try.underlying63 sz_58 (by omega) (by omega) (ix0 (j - 1))) rfl ?_
                    refine H_y 8 rfl (by kernel_rfl) (by kernel_rfl) (by kernel_rfl) (HSub.refl _) rfl (y_load rfl ag_58 (sees 0 0 rfl) (us_at (by omega))) rfl ?_
                    refine H_one 9 rfl (by kernel_rfl) rfl (op_call rfl rfl (fun a w => Try.call108 a w) rfl ?_)
                    refine (less_u (e2[j]!) (e2[j - 1]!)).mono ?_
                    rintro _ _ ⟨rfl, e⟩
                    obtain rfl := e.symm
                    clear e
                    refine ⟨_, rfl, ?_⟩
                    refine ⟨HSub.refl _, ?_⟩
                    refine H_y 10 rfl (by kernel_rfl) (by kernel_rfl) (by kernel_rfl) (HSub.refl _) rfl (y_not rfl) rfl ?_
                    refine H_done (by kernel_rfl) ?_
                    refine C_cond rfl (fun hc9 => ?_) (fun hc9 => ?_)
                    · have hfin2 : Go.Sort.shiftUp ltN b j e2 = e2 := sp_stop (.inr (by simpa using hc9))
                      refine C_exit ?_
                      exact ⟨(k, e2), ⟨hse, hk1, hk2, pi_go hk hc2 hc3 hd2 hd3 (by rw [if_pos hc7, ← hre, hfin2])⟩, ⟨rfl, rfl, rfl, rfl, rfl, trivial⟩, ((hsub (.cons_cons _ (.refl _))).trans (hsub_pick [0] rfl))⟩
                    · have hl9 : ltN e2[j]! e2[j - 1]! = true := by simpa using hc9
                      refine C_skip ?_
                      refine C_regionH H (by kernel_rfl) ?_
                      refine H_y 0 rfl (by kernel_rfl) (by kernel_rfl) (by kernel_rfl) ((hsub (.cons _ (.refl _)))) rfl (y_move rfl) rfl ?_
                      refine H_y 1 rfl (by kernel_rfl) (by kernel_rfl) (by kernel_rfl) ((hsub (.cons _ (.refl _)))) rfl (y_move rfl) rfl ?_
                      refine H_y 2 rfl (by kernel_rfl) (by kernel_rfl) (by kernel_rfl) ((hsub (.cons _ (.refl _)))) rfl (y_move rfl) rfl ?_
                      refine H_y 3 rfl (by kernel_rfl) (by kernel_rfl) (by kernel_rfl) ((hsub (.cons _ (.refl _)))) rfl (y_move rfl) rfl ?_
                      refine H_y 4 rfl (by kernel_rfl) (by kernel_rfl) (by kernel_rfl) ((hsub (.cons _ (.refl _)))) rfl (y_sub rfl rfl (show _ = ((j - 1 : Nat) : Int) from by rw [wi64 (by omega) (by omega)]; omega)) rfl ?_
                      refine H_y 5 rfl (by kernel_rfl) (by kernel_rfl) (by kernel_rfl) ((hsub (.cons _ (.refl _)))) rfl (y_move rfl) rfl ?_
                      refine H_y 6 rfl (by kernel_rfl) (by kernel_rfl) (by kernel_rfl) ((hsub (.cons _ (.refl _)))) rfl (y_move rfl) rfl ?_
                      refine H_y 7 rfl (by kernel_rfl) (by kernel_rfl) (by kernel_rfl) ((hsub (.cons _ (.refl _)))) rfl (y_sub rfl rfl (show _ = ((j - 1 : Nat) : Int) from by rw [wi64 (by omega) (by omega)]; omega)) rfl ?_
                      refine H_y 8 rfl (by kernel_rfl) (by kernel_rfl) (by kernel_rfl) ((hsub (.cons _ (.refl _)))) rfl (y_indexS rfl rfl Try.underlying63 sz_58 (by omega) (by omega) (ix0 ((j - 1)))) rfl ?_
                      refine H_y 10 rfl (by kernel_rfl) (by kernel_rfl) (by kernel_rfl) ((hsub (.cons _ (.refl _)))) rfl (y_move rfl) rfl ?_
                      refine H_y 11 rfl (by kernel_rfl) (by kernel_rfl) (by kernel_rfl) ((hsub (.cons _ (.refl _)))) rfl (y_move rfl) rfl ?_
                      refine H_y 12 rfl (by kernel_rfl) (by kernel_rfl) (by kernel_rfl) ((hsub (.cons _ (.refl _)))) rfl (y_indexS rfl rfl Try.underlying63 sz_58 (by omega) (by omega) (ix0 (j))) rfl ?_
                      refine H_two 9 13 rfl rfl (by kernel_rfl) rfl rfl ?_ ?_
                      · refine op_y (y_load rfl ag_58 (sees 0 0 rfl) (us_at (by omega))) rfl ?_
                        refine ⟨(hsub (.cons _ (.refl _))), ?_⟩
                        refine H_one 13 rfl (by kernel_rfl) rfl (op_y (y_load rfl ag_58 (sees 0 0 rfl) (us_at (by omega))) rfl ?_)
                        refine ⟨(hsub (.cons _ (.refl _))), ?_⟩
                        refine H_y 14 rfl (by kernel_rfl) (by kernel_rfl) (by kernel_rfl) ((hsub (.cons _ (.refl _)))) rfl (y_indexS rfl rfl Try.underlying63 sz_58 (by omega) (by omega) (ix0 (j))) rfl ?_
                        refine H_one 15 rfl (by kernel_rfl) rfl (op_store1 0 0 rfl rfl rfl sz_58 rfl (us_lt (by omega)) ?_)
                        refine ⟨(hsub (.cons _ (.refl _))), ?_⟩
                        refine H_y 16 rfl (by kernel_rfl) (by kernel_rfl) (by kernel_rfl) ((hsub (.cons _ (.refl _)))) rfl (y_indexS rfl rfl Try.underlying63 sz_58 (by omega) (by omega) (ix0 ((j - 1)))) rfl ?_
                        refine H_one 17 rfl (by kernel_rfl) rfl (op_store1 0 0 rfl rfl rfl sz_58 rfl (by rw [List.length_set]; exact us_lt (by omega)) ?_)
                        refine ⟨(hsub (.cons _ (.refl _))), ?_⟩
                        refine H_done (by kernel_rfl) ?_
                        rw [us_swp (by omega) (by omega)]
                        refine C_region ?_
                        refine L_y rfl (y_move rfl) rfl ?_
                        refine L_y rfl (y_add rfl rfl (show _ = ((j + 1 : Nat) : Int) from by rw [wi64 (by omega) (by omega)]; omega)) rfl ?_
                        refine L_y rfl (y_assign rfl) rfl ?_
                        refine L_nil ?_
                        exact ⟨(Go.Sort.swp e2 j (j - 1), j + 1), ⟨by simp only; rw [swp_size]; exact hse, by simp only; omega, by simp only; omega, by simp only; rw [← hre, sp_go hj1 hl9]⟩, by simp only; omega, ⟨rfl, rfl, rfl, rfl, rfl, rfl, trivial⟩, ((hsub (.cons_cons _ (.refl _))).trans (hsub_pick [0] rfl))⟩
                      · refine op_y (y_load rfl ag_58 (sees 0 0 rfl) (us_at (by omega))) rfl ?_
                        refine ⟨(hsub (.cons _ (.refl _))), ?_⟩
                        refine H_one 9 rfl (by kernel_rfl) rfl (op_y (y_load rfl ag_58 (sees 0 0 rfl) (us_at (by omega))) rfl ?_)
                        refine ⟨(hsub (.cons _ (.refl _))), ?_⟩
                        refine H_y 14 rfl (by kernel_rfl) (by kernel_rfl) (by kernel_rfl) ((hsub (.cons _ (.refl _)))) rfl (y_indexS rfl rfl Try.underlying63 sz_58 (by omega) (by omega) (ix0 (j))) rfl ?_
                        refine H_one 15 rfl (by kernel_rfl) rfl (op_store1 0 0 rfl rfl rfl sz_58 rfl (us_lt (by omega)) ?_)
                        refine ⟨(hsub (.cons _ (.refl _))), ?_⟩
                        refine H_y 16 rfl (by kernel_rfl) (by kernel_rfl) (by kernel_rfl) ((hsub (.cons _ (.refl _)))) rfl (y_indexS rfl rfl Try.underlying63 sz_58 (by omega) (by omega) (ix0 ((j - 1)))) rfl ?_
                        refine H_one 17 rfl (by kernel_rfl) rfl (op_store1 0 0 rfl rfl rfl sz_58 rfl (by rw [List.length_set]; exact us_lt (by omega)) ?_)
                        refine ⟨(hsub (.cons _ (.refl _))), ?_⟩
                        refine H_done (by kernel_rfl) ?_
                        rw [us_swp (by omega) (by omega)]
                        refine C_region ?_
                        refine L_y rfl (y_move rfl) rfl ?_
                        refine L_y rfl (y_add rfl rfl (show _ = ((j + 1 : Nat) : Int) from by rw [wi64 (by omega) (by omega)]; omega)) rfl ?_
                        refine L_y rfl (y_assign rfl) rfl ?_
                        refine L_nil ?_
                        exact ⟨(Go.Sort.swp e2 j (j - 1), j + 1), ⟨by simp only; rw [swp_size]; exact hse, by simp only; omega, by simp only; omega, by simp only; rw [← hre, sp_go hj1 hl9]⟩, by simp only; omega, ⟨rfl, rfl, rfl, rfl, rfl, rfl, trivial⟩, ((hsub (.cons_cons _ (.refl _))).trans (hsub_pick [0] rfl))⟩
                  · have hj1 : ¬ j < b := by have := of_decide_eq_false hc8; omega
                    have hfin2 : Go.Sort.shiftUp ltN b j e2 = e2 := sp_stop (.inl hj1)
                    refine C_exit ?_
                    exact ⟨(k, e2), ⟨hse, hk1, hk2, pi_go hk hc2 hc3 hd2 hd3 (by rw [if_pos hc7, ← hre, hfin2])⟩, ⟨rfl, rfl, rfl, rfl, rfl, trivial⟩, ((hsub (.cons_cons _ (.refl _))).trans (hsub_pick [0] rfl))⟩
                · replace hc7 : ¬ 2 ≤ b - k := by have := of_decide_eq_false hc7; omega
                  refine C_skip ?_
                  exact ⟨(k, d3), ⟨hs3, hk1, hk2, pi_go hk hc2 hc3 hd2 hd3 (by rw [if_neg hc7])⟩, ⟨rfl, rfl, rfl, rfl, rfl, trivial⟩, ((hsub (.cons_cons _ (.refl _))).trans (hsub_pick [0] rfl))⟩
    · obtain ⟨k, d4⟩ := z
      obtain ⟨hs4, hk1, hk2, hr4⟩ := hz
      try simp only at hs4 hk1 hk2 hr4
      try dsimp only
      refine C_region ?_
      refine L_y rfl (y_move rfl) rfl ?_
      refine L_y rfl (y_add rfl rfl (show _ = ((5 : Int) - ((s + 1 : Nat) : Int) + 1) from by rw [wi64 (by omega) (by omega)])) rfl ?_
      refine L_y rfl (y_assign rfl) rfl ?_
      refine L_nil ?_
      exact ⟨(d4, k, s), ⟨hs4, by simp only; omega, by simp only; omega, by simp only; omega, by simp only; rw [← hr1, hr4]⟩, by simp only; omega, ⟨rfl, rfl, rfl, rfl, by show some _ = some _; rw [show ((5 : Int) - (s : Int)) = 5 - ((s + 1 : Nat) : Int) + 1 by omega], trivial⟩, ((hsub (.cons_cons _ (.refl _))).trans (hsub_pick [0] rfl))⟩
  · obtain rfl : s = 0 := by have := of_decide_eq_false hc0; omega
    refine C_exit ?_
    refine C_seq ?_
    refine C_region ?_
    refine L_y rfl (y_assign rfl) rfl ?_
    refine L_nil ?_
    refine C_ret ?_
    refine B_ret (rv_tmp rfl rv_nil) ((hsub (.cons_cons _ (.refl _))).trans (hsub_pick [0] rfl)) ?_
    rw [← hr1]
    first
    | (rw [pi_true hk hc2]; exact ⟨rfl, rfl⟩)
    | (rw [pi_short hk hc2 hc3]; exact ⟨rfl, rfl⟩)
    | exact ⟨rfl, rfl⟩

end Go.Proofs.Ytaeooiogjhkjfaa

/- walks (own work; the walks' lines by a program of this repo). -/
set_option linter.unusedVariables false
set_option linter.unusedSimpArgs false
set_option maxRecDepth 20000
namespace Go.Proofs.Ytaeooiogjhkjfaa
open Go.Sl
attribute [local irreducible] BodyQ WpC WpL WpS WpH OpW FnS



set_option maxHeartbeats 1000000 in

theorem reverse_u {w0 : World} {H : Hp} {sb n cap : Nat} {sp : List Value} (d : Array Nat) (hd : d.size = n) (hn : n < 4611686018427387904) (a b : Nat) (hab : a < b) (hb : b ≤ n) : FnS Try.prog w0 106 #[(.slice (some ⟨sb, 0, none⟩) n cap), .int .i64 ((a : Nat) : Int), .int .i64 ((b : Nat) : Int)] (useg 58 sb d sp :: H) (fun e H' => e = .returned (.tuple #[]) ∧ H' = useg 58 sb (Go.Sort.reverseRange d a b) sp :: H) := by
  refine FnS_intro (n := 32) (rs := []) (vs := [(.slice (some ⟨sb, 0, none⟩) n cap), .int .i64 ((a : Nat) : Int), .int .i64 ((b : Nat) : Int)]) Try.func106 rfl Try.ntmps106 rfl rfl ?_
  refine C_seq ?_
  refine C_region ?_
  refine L_y rfl (y_move rfl) rfl ?_
  refine L_y rfl (y_assign rfl) rfl ?_
  refine L_nil ?_
  refine C_seq ?_
  refine C_region ?_
  refine L_y rfl (y_move rfl) rfl ?_
  refine L_y rfl (y_sub rfl rfl (show _ = ((b - 1 : Nat) : Int) from by rw [wi64 (by omega) (by omega)]; omega)) rfl ?_
  refine L_y rfl (y_assign rfl) rfl ?_
  refine L_nil ?_
  refine C_block ?_
  refine C_loop (ι := Array Nat × Nat × Nat) (fun y => [(0, (.slice (some ⟨sb, 0, none⟩) n cap)), (6, .int .i64 ((y.2.1 : Nat) : Int)), (7, .int .i64 ((y.2.2 : Nat) : Int))]) (fun y => useg 58 sb y.1 sp :: H) (fun y => y.1.size = n ∧ y.2.1 ≤ n ∧ y.2.2 < n ∧ Go.Sort.reverseLoop y.2.1 y.2.2 y.1 = Go.Sort.reverseRange d a b) (fun y => y.2.2 - y.2.1) (d, a, b - 1) ⟨hd, by simp only; omega, by simp only; omega, rfl⟩ ⟨rfl, rfl, rfl, trivial⟩ ((hsub (.cons_cons _ (.refl _))).trans (hsub_pick [0] rfl)) (fun y hy => ?_)
  obtain ⟨e1, i, j⟩ := y
  obtain ⟨hse, hin, hjn, hre⟩ := hy
  try simp only at hse hin hjn hre
  try dsimp only
  refine C_seq ?_
  refine C_seq ?_
  refine C_region ?_
  refine L_y rfl (y_move rfl) rfl ?_
  refine L_y rfl (y_move rfl) rfl ?_
  refine L_y rfl (y_lss rfl rfl) rfl ?_
  refine L_nil ?_
  refine C_cond rfl (fun hc0 => ?_) (fun hc0 => ?_)
  · replace hc0 : i < j := by have := of_decide_eq_true hc0; omega
    refine C_skip ?_
    refine C_block ?_
    refine C_seq ?_
    refine C_regionH H (by kernel_rfl) ?_
    refine H_y 0 rfl (by kernel_rfl) (by kernel_rfl) (by kernel_rfl) ((hsub (.cons _ (.refl _)))) rfl (y_move rfl) rfl ?_
    refine H_y 1 rfl (by kernel_rfl) (by kernel_rfl) (by kernel_rfl) ((hsub (.cons _ (.refl _)))) rfl (y_move rfl) rfl ?_
    refine H_y 2 rfl (by kernel_rfl) (by kernel_rfl) (by kernel_rfl) ((hsub (.cons _ (.refl _)))) rfl (y_move rfl) rfl ?_
    refine H_y 3 rfl (by kernel_rfl) (by kernel_rfl) (by kernel_rfl) ((hsub (.cons _ (.refl _)))) rfl (y_move rfl) rfl ?_
    refine H_y 4 rfl (by kernel_rfl) (by kernel_rfl) (by kernel_rfl) ((hsub (.cons _ (.refl _)))) rfl (y_move rfl) rfl ?_
    refine H_y 5 rfl (by kernel_rfl) (by kernel_rfl) (by kernel_rfl) ((hsub (.cons _ (.refl _)))) rfl (y_move rfl) rfl ?_
    refine H_y 6 rfl (by kernel_rfl) (by kernel_rfl) (by kernel_rfl) ((hsub (.cons _ (.refl _)))) rfl (y_indexS rfl rfl Try.underlying63 sz_58 (by omega) (by omega) (ix0 (j))) rfl ?_
    refine H_y 8 rfl (by kernel_rfl) (by kernel_rfl) (by kernel_rfl) ((hsub (.cons _ (.refl _)))) rfl (y_move rfl) rfl ?_
    refine H_y 9 rfl (by kernel_rfl) (by kernel_rfl) (by kernel_rfl) ((hsub (.cons _ (.refl _)))) rfl (y_move rfl) rfl ?_
    refine H_y 10 rfl (by kernel_rfl) (by kernel_rfl) (by kernel_rfl) ((hsub (.cons _ (.refl _)))) rfl (y_indexS rfl rfl Try.underlying63 sz_58 (by omega) (by omega) (ix0 (i))) rfl ?_
    refine H_two 7 11 rfl rfl (by kernel_rfl) rfl rfl ?_ ?_
    · refine op_y (y_load rfl ag_58 (sees 0 0 rfl) (us_at (by omega))) rfl ?_
      refine ⟨(hsub (.cons _ (.refl _))), ?_⟩
      refine H_one 11 rfl (by kernel_rfl) rfl (op_y (y_load rfl ag_58 (sees 0 0 rfl) (us_at (by omega))) rfl ?_)
      refine ⟨(hsub (.cons _ (.refl _))), ?_⟩
      refine H_y 12 rfl (by kernel_rfl) (by kernel_rfl) (by kernel_rfl) ((hsub (.cons _ (.refl _)))) rfl (y_indexS rfl rfl Try.underlying63 sz_58 (by omega) (by omega) (ix0 (i))) rfl ?_
      refine H_one 13 rfl (by kernel_rfl) rfl (op_store1 0 0 rfl rfl rfl sz_58 rfl (us_lt (by omega)) ?_)
      refine ⟨(hsub (.cons _ (.refl _))), ?_⟩
      refine H_y 14 rfl (by kernel_rfl) (by kernel_rfl) (by kernel_rfl) ((hsub (.cons _ (.refl _)))) rfl (y_indexS rfl rfl Try.underlying63 sz_58 (by omega) (by omega) (ix0 (j))) rfl ?_
      refine H_one 15 rfl (by kernel_rfl) rfl (op_store1 0 0 rfl rfl rfl sz_58 rfl (by rw [List.length_set]; exact us_lt (by omega)) ?_)
      refine ⟨(hsub (.cons _ (.refl _))), ?_⟩
      refine H_done (by kernel_rfl) ?_
      rw [us_swp (by omega) (by omega)]
      refine C_seq ?_
      refine C_region ?_
      refine L_y rfl (y_move rfl) rfl ?_
      refine L_y rfl (y_add rfl rfl (show _ = ((i + 1 : Nat) : Int) from by rw [wi64 (by omega) (by omega)]; omega)) rfl ?_
      refine L_y rfl (y_assign rfl) rfl ?_
      refine L_nil ?_
      refine C_region ?_
      refine L_y rfl (y_move rfl) rfl ?_
      refine L_y rfl (y_sub rfl rfl (show _ = ((j - 1 : Nat) : Int) from by rw [wi64 (by omega) (by omega)]; omega)) rfl ?_
      refine L_y rfl (y_assign rfl) rfl ?_
      refine L_nil ?_
      exact ⟨(Go.Sort.swp e1 i j, i + 1, j - 1), ⟨by simp only; rw [swp_size]; exact hse, by simp only; omega, by simp only; omega, by simp only; rw [← hre, rev_go hc0]⟩, by simp only; omega, ⟨rfl, rfl, rfl, trivial⟩, ((hsub (.cons_cons _ (.refl _))).trans (hsub_pick [0] rfl))⟩
    · refine op_y (y_load rfl ag_58 (sees 0 0 rfl) (us_at (by omega))) rfl ?_
      refine ⟨(hsub (.cons _ (.refl _))), ?_⟩
      refine H_one 7 rfl (by kernel_rfl) rfl (op_y (y_load rfl ag_58 (sees 0 0 rfl) (us_at (by omega))) rfl ?_)
      refine ⟨(hsub (.cons _ (.refl _))), ?_⟩
      refine H_y 12 rfl (by kernel_rfl) (by kernel_rfl) (by kernel_rfl) ((hsub (.cons _ (.refl _)))) rfl (y_indexS rfl rfl Try.underlying63 sz_58 (by omega) (by omega) (ix0 (i))) rfl ?_
      refine H_one 13 rfl (by kernel_rfl) rfl (op_store1 0 0 rfl rfl rfl sz_58 rfl (us_lt (by omega)) ?_)
      refine ⟨(hsub (.cons _ (.refl _))), ?_⟩
      refine H_y 14 rfl (by kernel_rfl) (by kernel_rfl) (by kernel_rfl) ((hsub (.cons _ (.refl _)))) rfl (y_indexS rfl rfl Try.underlying63 sz_58 (by omega) (by omega) (ix0 (j))) rfl ?_
      refine H_one 15 rfl (by kernel_rfl) rfl (op_store1 0 0 rfl rfl rfl sz_58 rfl (by rw [List.length_set]; exact us_lt (by omega)) ?_)
      refine ⟨(hsub (.cons _ (.refl _))), ?_⟩
      refine H_done (by kernel_rfl) ?_
      rw [us_swp (by omega) (by omega)]
      refine C_seq ?_
      refine C_region ?_
      refine L_y rfl (y_move rfl) rfl ?_
      refine L_y rfl (y_add rfl rfl (show _ = ((i + 1 : Nat) : Int) from by rw [wi64 (by omega) (by omega)]; omega)) rfl ?_
      refine L_y rfl (y_assign rfl) rfl ?_
      refine L_nil ?_
      refine C_region ?_
      refine L_y rfl (y_move rfl) rfl ?_
      refine L_y rfl (y_sub rfl rfl (show _ = ((j - 1 : Nat) : Int) from by rw [wi64 (by omega) (by omega)]; omega)) rfl ?_
      refine L_y rfl (y_assign rfl) rfl ?_
      refine L_nil ?_
      exact ⟨(Go.Sort.swp e1 i j, i + 1, j - 1), ⟨by simp only; rw [swp_size]; exact hse, by simp only; omega, by simp only; omega, by simp only; rw [← hre, rev_go hc0]⟩, by simp only; omega, ⟨rfl, rfl, rfl, trivial⟩, ((hsub (.cons_cons _ (.refl _))).trans (hsub_pick [0] rfl))⟩
  · replace hc0 : ¬ i < j := by have := of_decide_eq_false hc0; omega
    refine C_exit ?_
    refine B_end rv_nil ((hsub (.cons_cons _ (.refl _))).trans (hsub_pick [0] rfl)) ?_
    refine ⟨rfl, ?_⟩
    rw [← hre, rev_stop hc0]
    rfl

theorem order2_u {w0 : World} {H : Hp} {sb n cap : Nat} {sp : List Value} (d : Array Nat) (hd : d.size = n) (hn : n < 4611686018427387904) {sw : Nat} (s : Int) (a b : Nat) (ha : a < n) (hb : b < n) : FnS Try.prog w0 119 #[(.slice (some ⟨sb, 0, none⟩) n cap), .int .i64 ((a : Nat) : Int), .int .i64 ((b : Nat) : Int), ptr sw] (useg 58 sb d sp :: [(sw, .cells [Value.int .i64 s].toArray 3)] :: H) (fun e H' => ∃ x0 x1 s', ((x0 = a ∧ x1 = b) ∨ (x0 = b ∧ x1 = a)) ∧ e = .returned (.tuple #[.int .i64 ((x0 : Nat) : Int), .int .i64 ((x1 : Nat) : Int)]) ∧ H' = useg 58 sb d sp :: [(sw, .cells [Value.int .i64 s'].toArray 3)] :: H) := by
  refine FnS_intro (n := 28) (rs := [.tmp 8, .tmp 9]) (vs := [(.slice (some ⟨sb, 0, none⟩) n cap), .int .i64 ((a : Nat) : Int), .int .i64 ((b : Nat) : Int), ptr sw]) Try.func119 rfl Try.ntmps119 rfl rfl ?_
  refine C_seq ?_
  refine C_region ?_
  refine L_y rfl (y_assign rfl) rfl ?_
  refine L_y rfl (y_assign rfl) rfl ?_
  refine L_nil ?_
  refine C_seq ?_
  refine C_seq ?_
  refine C_regionH0 (by kernel_rfl) ?_
  refine H_y 0 rfl (by kernel_rfl) (by kernel_rfl) (by kernel_rfl) (HSub.refl _) rfl (y_move rfl) rfl ?_
  refine H_y 1 rfl (by kernel_rfl) (by kernel_rfl) (by kernel_rfl) (HSub.refl _) rfl (y_move rfl) rfl ?_
  refine H_y 2 rfl (by kernel_rfl) (by kernel_rfl) (by kernel_rfl) (HSub.refl _) rfl (y_indexS rfl rfl Try.underlying63 sz_58 (by omega) (by omega) (ix0 (b))) rfl ?_
  refine H_y 3 rfl (by kernel_rfl) (by kernel_rfl) (by kernel_rfl) (HSub.refl _) rfl (y_load rfl ag_58 (sees 0 0 rfl) (us_at (by omega))) rfl ?_
  refine H_y 4 rfl (by kernel_rfl) (by kernel_rfl) (by kernel_rfl) (HSub.refl _) rfl (y_move rfl) rfl ?_
  refine H_y 5 rfl (by kernel_rfl) (by kernel_rfl) (by kernel_rfl) (HSub.refl _) rfl (y_move rfl) rfl ?_
  refine H_y 6 rfl (by kernel_rfl) (by kernel_rfl) (by kernel_rfl) (HSub.refl _) rfl (y_indexS rfl rfl Try.underlying63 sz_58 (by omega) (by omega) (ix0 (a))) rfl ?_
  refine H_y 7 rfl (by kernel_rfl) (by kernel_rfl) (by kernel_rfl) (HSub.refl _) rfl (y_load rfl ag_58 (sees 0 0 rfl) (us_at (by omega))) rfl ?_
  refine H_one 8 rfl (by kernel_rfl) rfl (op_call rfl rfl (fun a w => Try.call108 a w) rfl ?_)
  refine (less_u (d[b]!) (d[a]!)).mono ?_
  rintro _ _ ⟨rfl, e⟩
  obtain rfl := e.symm
  clear e
  refine ⟨_, rfl, ?_⟩
  refine ⟨HSub.refl _, ?_⟩
  refine H_done (by kernel_rfl) ?_
  refine C_cond rfl (fun hc0 => ?_) (fun hc0 => ?_)
  · skip
    refine C_seq ?_
    refine C_region ?_
    refine L_y rfl (y_move rfl) rfl ?_
    refine L_y rfl (y_nilCheck rfl) rfl ?_
    refine L_y rfl (y_load rfl ag_3 (sees 1 0 rfl) rfl) rfl ?_
    refine L_y rfl (y_add rfl rfl rfl) rfl ?_
    refine L_y rfl (y_nilCheck rfl) rfl ?_
    refine L_op rfl (op_store1 1 0 rfl rfl rfl sz_3 rfl (Nat.le_of_ble_eq_true rfl) ?_)
    refine L_nil ?_
    refine C_seq ?_
    refine C_region ?_
    refine L_y rfl (y_move rfl) rfl ?_
    refine L_y rfl (y_move rfl) rfl ?_
    refine L_y rfl (y_assign rfl) rfl ?_
    refine L_y rfl (y_assign rfl) rfl ?_
    refine L_nil ?_
    refine C_ret ?_
    refine B_ret (rv_tmp rfl (rv_tmp rfl rv_nil)) ((hsub (.cons_cons _ (.cons_cons _ (.refl _)))).trans (hsub_pick [0, 0] rfl)) ?_
    first
    | exact ⟨b, a, _, .inr ⟨rfl, rfl⟩, rfl, rfl⟩
    | exact ⟨a, b, _, .inl ⟨rfl, rfl⟩, rfl, rfl⟩
  · skip
    refine C_skip ?_
    refine C_seq ?_
    refine C_region ?_
    refine L_y rfl (y_move rfl) rfl ?_
    refine L_y rfl (y_move rfl) rfl ?_
    refine L_y rfl (y_assign rfl) rfl ?_
    refine L_y rfl (y_assign rfl) rfl ?_
    refine L_nil ?_
    refine C_ret ?_
    refine B_ret (rv_tmp rfl (rv_tmp rfl rv_nil)) ((hsub (.cons_cons _ (.cons_cons _ (.refl _)))).trans (hsub_pick [0, 0] rfl)) ?_
    first
    | exact ⟨b, a, _, .inr ⟨rfl, rfl⟩, rfl, rfl⟩
    | exact ⟨a, b, _, .inl ⟨rfl, rfl⟩, rfl, rfl⟩

theorem median_u {w0 : World} {H : Hp} {sb n cap : Nat} {sp : List Value} (d : Array Nat) (hd : d.size = n) (hn : n < 4611686018427387904) {sw : Nat} (s : Int) (a b c : Nat) (ha : a < n) (hb : b < n) (hc : c < n) : FnS Try.prog w0 117 #[(.slice (some ⟨sb, 0, none⟩) n cap), .int .i64 ((a : Nat) : Int), .int .i64 ((b : Nat) : Int), .int .i64 ((c : Nat) : Int), ptr sw] (useg 58 sb d sp :: [(sw, .cells [Value.int .i64 s].toArray 3)] :: H) (fun e H' => ∃ x0 s', (x0 = a ∨ x0 = b ∨ x0 = c) ∧ e = .returned (.int .i64 ((x0 : Nat) : Int)) ∧ H' = useg 58 sb d sp :: [(sw, .cells [Value.int .i64 s'].toArray 3)] :: H) := by
  refine FnS_intro (n := 36) (rs := [.tmp 10]) (vs := [(.slice (some ⟨sb, 0, none⟩) n cap), .int .i64 ((a : Nat) : Int), .int .i64 ((b : Nat) : Int), .int .i64 ((c : Nat) : Int), ptr sw]) Try.func117 rfl Try.ntmps117 rfl rfl ?_
  refine C_seq ?_
  refine C_region ?_
  refine L_y rfl (y_assign rfl) rfl ?_
  refine L_nil ?_
  refine C_seq ?_
  refine C_region ?_
  refine L_y rfl (y_move rfl) rfl ?_
  refine L_y rfl (y_move rfl) rfl ?_
  refine L_y rfl (y_move rfl) rfl ?_
  refine L_y rfl (y_move rfl) rfl ?_
  refine L_op rfl (op_call rfl rfl (fun a w => Try.call119 a w) rfl ?_)
  refine (order2_u d hd hn _ a b ha hb).mono ?_
  rintro _ _ ⟨p0, p1, sp, hp, rfl, rfl⟩
  refine ⟨_, rfl, ?_⟩
  refine L_y rfl (y_move rfl) rfl ?_
  refine L_y rfl (y_extract rfl rfl) rfl ?_
  refine L_y rfl (y_extract rfl rfl) rfl ?_
  refine L_y rfl (y_assign rfl) rfl ?_
  refine L_y rfl (y_assign rfl) rfl ?_
  refine L_nil ?_
  refine C_seq ?_
  refine C_region ?_
  refine L_y rfl (y_move rfl) rfl ?_
  refine L_y rfl (y_move rfl) rfl ?_
  refine L_y rfl (y_move rfl) rfl ?_
  refine L_y rfl (y_move rfl) rfl ?_
  refine L_op rfl (op_call rfl rfl (fun a w => Try.call119 a w) rfl ?_)
  refine (order2_u d hd hn _ p1 c (by omega) hc).mono ?_
  rintro _ _ ⟨q0, q1, sq, hq, rfl, rfl⟩
  refine ⟨_, rfl, ?_⟩
  refine L_y rfl (y_move rfl) rfl ?_
  refine L_y rfl (y_extract rfl rfl) rfl ?_
  refine L_y rfl (y_extract rfl rfl) rfl ?_
  refine L_y rfl (y_assign rfl) rfl ?_
  refine L_y rfl (y_assign rfl) rfl ?_
  refine L_nil ?_
  refine C_seq ?_
  refine C_region ?_
  refine L_y rfl (y_move rfl) rfl ?_
  refine L_y rfl (y_move rfl) rfl ?_
  refine L_y rfl (y_move rfl) rfl ?_
  refine L_y rfl (y_move rfl) rfl ?_
  refine L_op rfl (op_call rfl rfl (fun a w => Try.call119 a w) rfl ?_)
  refine (order2_u d hd hn _ p0 q0 (by omega) (by omega)).mono ?_
  rintro _ _ ⟨r0, r1, sr, hr, rfl, rfl⟩
  refine ⟨_, rfl, ?_⟩
  refine L_y rfl (y_move rfl) rfl ?_
  refine L_y rfl (y_extract rfl rfl) rfl ?_
  refine L_y rfl (y_extract rfl rfl) rfl ?_
  refine L_y rfl (y_assign rfl) rfl ?_
  refine L_y rfl (y_assign rfl) rfl ?_
  refine L_nil ?_
  refine C_seq ?_
  refine C_region ?_
  refine L_y rfl (y_move rfl) rfl ?_
  refine L_y rfl (y_assign rfl) rfl ?_
  refine L_nil ?_
  refine C_ret ?_
  refine B_ret (rv_tmp rfl rv_nil) ((hsub (.cons_cons _ (.cons_cons _ (.refl _)))).trans (hsub_pick [0, 0] rfl)) ?_
  exact ⟨r1, _, by omega, rfl, rfl⟩

theorem medadj_u {w0 : World} {H : Hp} {sb n cap : Nat} {sp : List Value} (d : Array Nat) (hd : d.size = n) (hn : n < 4611686018427387904) {sw : Nat} (s : Int) (a : Nat) (ha : 1 ≤ a) (hb : a + 1 < n) : FnS Try.prog w0 116 #[(.slice (some ⟨sb, 0, none⟩) n cap), .int .i64 ((a : Nat) : Int), ptr sw] (useg 58 sb d sp :: [(sw, .cells [Value.int .i64 s].toArray 3)] :: H) (fun e H' => ∃ x0 s', (a - 1 ≤ x0 ∧ x0 ≤ a + 1) ∧ e = .returned (.int .i64 ((x0 : Nat) : Int)) ∧ H' = useg 58 sb d sp :: [(sw, .cells [Value.int .i64 s'].toArray 3)] :: H) := by
  refine FnS_intro (n := 15) (rs := [.tmp 6]) (vs := [(.slice (some ⟨sb, 0, none⟩) n cap), .int .i64 ((a : Nat) : Int), ptr sw]) Try.func116 rfl Try.ntmps116 rfl rfl ?_
  refine C_seq ?_
  refine C_region ?_
  refine L_y rfl (y_assign rfl) rfl ?_
  refine L_nil ?_
  refine C_seq ?_
  refine C_region ?_
  refine L_y rfl (y_move rfl) rfl ?_
  refine L_y rfl (y_move rfl) rfl ?_
  refine L_y rfl (y_sub rfl rfl (show _ = ((a - 1 : Nat) : Int) from by rw [wi64 (by omega) (by omega)]; omega)) rfl ?_
  refine L_y rfl (y_move rfl) rfl ?_
  refine L_y rfl (y_move rfl) rfl ?_
  refine L_y rfl (y_add rfl rfl (show _ = ((a + 1 : Nat) : Int) from by rw [wi64 (by omega) (by omega)]; omega)) rfl ?_
  refine L_y rfl (y_move rfl) rfl ?_
  refine L_op rfl (op_call rfl rfl (fun a w => Try.call117 a w) rfl ?_)
  refine (median_u d hd hn _ (a - 1) a (a + 1) (by omega) (by omega) (by omega)).mono ?_
  rintro _ _ ⟨p, sp, hp, rfl, rfl⟩
  refine ⟨_, rfl, ?_⟩
  refine L_y rfl (y_assign rfl) rfl ?_
  refine L_nil ?_
  refine C_ret ?_
  refine B_ret (rv_tmp rfl rv_nil) ((hsub (.cons_cons _ (.cons_cons _ (.refl _)))).trans (hsub_pick [0, 0] rfl)) ?_
  exact ⟨p, _, by omega, rfl, rfl⟩

set_option maxHeartbeats 1000000 in

theorem choose_u {w0 : World} {H : Hp} {sb n cap : Nat} {sp : List Value} (d : Array Nat) (hd : d.size = n) (hn : n < 4611686018427387904) (a b : Nat) (hab : 12 < b - a) (hb : b ≤ n) : FnS Try.prog w0 105 #[(.slice (some ⟨sb, 0, none⟩) n cap), .int .i64 ((a : Nat) : Int), .int .i64 ((b : Nat) : Int)] (useg 58 sb d sp :: H) (fun e H' => ∃ (p : Nat) (h : Int), a ≤ p ∧ p < b ∧ e = .returned (.tuple #[.int .i64 (p : Int), .int .i64 h]) ∧ H' = useg 58 sb d sp :: H) := by
  obtain ⟨i_, hi_⟩ : ∃ y, y = a + (b - a) / 4 * 1 := ⟨_, rfl⟩
  obtain ⟨j_, hj_⟩ : ∃ y, y = a + (b - a) / 4 * 2 := ⟨_, rfl⟩
  obtain ⟨k_, hk_⟩ : ∃ y, y = a + (b - a) / 4 * 3 := ⟨_, rfl⟩
  refine FnS_intro (n := 57) (rs := [.tmp 6, .tmp 7]) (vs := [(.slice (some ⟨sb, 0, none⟩) n cap), .int .i64 ((a : Nat) : Int), .int .i64 ((b : Nat) : Int)]) Try.func105 rfl Try.ntmps105 rfl rfl ?_
  refine C_seq ?_
  refine C_region ?_
  refine L_y rfl (y_assign rfl) rfl ?_
  refine L_y rfl (y_assign rfl) rfl ?_
  refine L_nil ?_
  refine C_seq ?_
  refine C_region ?_
  refine L_y rfl (y_move rfl) rfl ?_
  refine L_y rfl (y_move rfl) rfl ?_
  refine L_y rfl (y_sub rfl rfl (show _ = ((b - a : Nat) : Int) from by rw [wi64 (by omega) (by omega)]; omega)) rfl ?_
  refine L_y rfl (y_assign rfl) rfl ?_
  refine L_nil ?_
  refine C_seq ?_
  refine C_region ?_
  refine L_op rfl (op_alloc zl_3 rfl (fun B1 => ?_))
  refine L_nil ?_
  refine C_seq ?_
  refine C_region ?_
  refine L_y rfl (y_move rfl) rfl ?_
  refine L_y rfl (y_move rfl) rfl ?_
  refine L_y rfl (y_quo rfl rfl (by omega) (show _ = (((b - a) / 4 : Nat) : Int) from by rw [Int.tdiv_eq_ediv_of_nonneg (by omega), wi64 (by omega) (by omega)]; omega)) rfl ?_
  refine L_y rfl (y_mul rfl rfl (show _ = (((b - a) / 4 * 1 : Nat) : Int) from by rw [wi64 (by omega) (by omega)]; omega)) rfl ?_
  refine L_y rfl (y_add rfl rfl (show _ = ((i_ : Nat) : Int) from by rw [wi64 (by omega) (by omega)]; omega)) rfl ?_
  refine L_y rfl (y_assign rfl) rfl ?_
  refine L_nil ?_
  refine C_seq ?_
  refine C_region ?_
  refine L_y rfl (y_move rfl) rfl ?_
  refine L_y rfl (y_move rfl) rfl ?_
  refine L_y rfl (y_quo rfl rfl (by omega) (show _ = (((b - a) / 4 : Nat) : Int) from by rw [Int.tdiv_eq_ediv_of_nonneg (by omega), wi64 (by omega) (by omega)]; omega)) rfl ?_
  refine L_y rfl (y_mul rfl rfl (show _ = (((b - a) / 4 * 2 : Nat) : Int) from by rw [wi64 (by omega) (by omega)]; omega)) rfl ?_
  refine L_y rfl (y_add rfl rfl (show _ = ((j_ : Nat) : Int) from by rw [wi64 (by omega) (by omega)]; omega)) rfl ?_
  refine L_y rfl (y_assign rfl) rfl ?_
  refine L_nil ?_
  refine C_seq ?_
  refine C_region ?_
  refine L_y rfl (y_move rfl) rfl ?_
  refine L_y rfl (y_move rfl) rfl ?_
  refine L_y rfl (y_quo rfl rfl (by omega) (show _ = (((b - a) / 4 : Nat) : Int) from by rw [Int.tdiv_eq_ediv_of_nonneg (by omega), wi64 (by omega) (by omega)]; omega)) rfl ?_
  refine L_y rfl (y_mul rfl rfl (show _ = (((b - a) / 4 * 3 : Nat) : Int) from by rw [wi64 (by omega) (by omega)]; omega)) rfl ?_
  refine L_y rfl (y_add rfl rfl (show _ = ((k_ : Nat) : Int) from by rw [wi64 (by omega) (by omega)]; omega)) rfl ?_
  refine L_y rfl (y_assign rfl) rfl ?_
  refine L_nil ?_
  refine C_seq ?_
  refine C_seq ?_
  refine C_region ?_
  refine L_y rfl (y_move rfl) rfl ?_
  refine L_y rfl (y_geq rfl rfl) rfl ?_
  refine L_nil ?_
  refine C_cond rfl (fun hc0 => ?_) (fun hc0 => absurd hc0 (by simp <;> omega))
  refine C_seq ?_
  refine C_seq ?_
  refine C_region ?_
  refine L_y rfl (y_move rfl) rfl ?_
  refine L_y rfl (y_geq rfl rfl) rfl ?_
  refine L_nil ?_
  refine C_cond rfl (fun hc1 => ?_) (fun hc1 => ?_)
  · replace hc1 : 50 ≤ b - a := by have := of_decide_eq_true hc1; omega
    refine C_seq ?_
    refine C_region ?_
    refine L_y rfl (y_move rfl) rfl ?_
    refine L_y rfl (y_move rfl) rfl ?_
    refine L_op rfl (op_call rfl rfl (fun a w => Try.call116 a w) rfl ?_)
    refine (FnS.sub (hsub_pick [1] rfl) (medadj_u d hd hn _ i_ (by omega) (by omega))).mono ?_
    rintro _ _ ⟨p1, sp1, hp1, rfl, rfl⟩
    refine ⟨_, rfl, ?_⟩
    refine L_y rfl (y_assign rfl) rfl ?_
    refine L_nil ?_
    refine C_seq ?_
    refine C_region ?_
    refine L_y rfl (y_move rfl) rfl ?_
    refine L_y rfl (y_move rfl) rfl ?_
    refine L_op rfl (op_call rfl rfl (fun a w => Try.call116 a w) rfl ?_)
    refine (FnS.sub (hsub_pick [0] rfl) (medadj_u d hd hn _ j_ (by omega) (by omega))).mono ?_
    rintro _ _ ⟨p2, sp2, hp2, rfl, rfl⟩
    refine ⟨_, rfl, ?_⟩
    refine L_y rfl (y_assign rfl) rfl ?_
    refine L_nil ?_
    refine C_region ?_
    refine L_y rfl (y_move rfl) rfl ?_
    refine L_y rfl (y_move rfl) rfl ?_
    refine L_op rfl (op_call rfl rfl (fun a w => Try.call116 a w) rfl ?_)
    refine (FnS.sub (hsub_pick [0] rfl) (medadj_u d hd hn _ k_ (by omega) (by omega))).mono ?_
    rintro _ _ ⟨p3, sp3, hp3, rfl, rfl⟩
    refine ⟨_, rfl, ?_⟩
    refine L_y rfl (y_assign rfl) rfl ?_
    refine L_nil ?_
    refine C_region ?_
    refine L_y rfl (y_move rfl) rfl ?_
    refine L_y rfl (y_move rfl) rfl ?_
    refine L_y rfl (y_move rfl) rfl ?_
    refine L_y rfl (y_move rfl) rfl ?_
    refine L_op rfl (op_call rfl rfl (fun a w => Try.call117 a w) rfl ?_)
    refine (FnS.sub (hsub_pick [0] rfl) (median_u d hd hn _ p1 p2 p3 (by omega) (by omega) (by omega))).mono ?_
    rintro _ _ ⟨pm, spm, hpm, rfl, rfl⟩
    refine ⟨_, rfl, ?_⟩
    refine L_y rfl (y_assign rfl) rfl ?_
    refine L_nil ?_
    refine C_seq ?_
    refine C_region ?_
    refine L_y rfl (y_load rfl ag_3 (sees 1 0 rfl) rfl) rfl ?_
    refine L_nil ?_
    refine C_block ?_
    refine C_seq ?_
    refine C_region ?_
    refine L_y rfl (y_eqi rfl rfl) rfl ?_
    refine L_y rfl (y_assign rfl) rfl ?_
    refine L_nil ?_
    refine C_cond rfl (fun hc2 => ?_) (fun hc2 => ?_)
    · replace hc2 := of_decide_eq_true hc2
      refine C_seq ?_
      refine C_region ?_
      refine L_y rfl (y_move rfl) rfl ?_
      refine L_y rfl (y_assign rfl) rfl ?_
      refine L_y rfl (y_assign rfl) rfl ?_
      refine L_nil ?_
      refine C_ret ?_
      refine B_ret (rv_tmp rfl (rv_tmp rfl rv_nil)) ((hsub (.cons_cons _ (.cons _ (.refl _)))).trans (hsub_pick [0] rfl)) ?_
      exact ⟨pm, _, by omega, by omega, rfl, rfl⟩
    · replace hc2 := of_decide_eq_false hc2
      refine C_seq ?_
      refine C_region ?_
      refine L_y rfl (y_eqi rfl rfl) rfl ?_
      refine L_y rfl (y_assign rfl) rfl ?_
      refine L_nil ?_
      refine C_cond rfl (fun hc3 => ?_) (fun hc3 => ?_)
      · replace hc3 := of_decide_eq_true hc3
        refine C_seq ?_
        refine C_region ?_
        refine L_y rfl (y_move rfl) rfl ?_
        refine L_y rfl (y_assign rfl) rfl ?_
        refine L_y rfl (y_assign rfl) rfl ?_
        refine L_nil ?_
        refine C_ret ?_
        refine B_ret (rv_tmp rfl (rv_tmp rfl rv_nil)) ((hsub (.cons_cons _ (.cons _ (.refl _)))).trans (hsub_pick [0] rfl)) ?_
        exact ⟨pm, _, by omega, by omega, rfl, rfl⟩
      · replace hc3 := of_decide_eq_false hc3
        refine C_seq ?_
        refine C_region ?_
        refine L_y rfl (y_move rfl) rfl ?_
        refine L_y rfl (y_assign rfl) rfl ?_
        refine L_y rfl (y_assign rfl) rfl ?_
        refine L_nil ?_
        refine C_ret ?_
        refine B_ret (rv_tmp rfl (rv_tmp rfl rv_nil)) ((hsub (.cons_cons _ (.cons _ (.refl _)))).trans (hsub_pick [0] rfl)) ?_
        exact ⟨pm, _, by omega, by omega, rfl, rfl⟩
  · replace hc1 : ¬ 50 ≤ b - a := by have := of_decide_eq_false hc1; omega
    refine C_skip ?_
    refine C_region ?_
    refine L_y rfl (y_move rfl) rfl ?_
    refine L_y rfl (y_move rfl) rfl ?_
    refine L_y rfl (y_move rfl) rfl ?_
    refine L_y rfl (y_move rfl) rfl ?_
    refine L_op rfl (op_call rfl rfl (fun a w => Try.call117 a w) rfl ?_)
    refine (FnS.sub (hsub_pick [1] rfl) (median_u d hd hn _ i_ j_ k_ (by omega) (by omega) (by omega))).mono ?_
    rintro _ _ ⟨pm, spm, hpm, rfl, rfl⟩
    refine ⟨_, rfl, ?_⟩
    refine L_y rfl (y_assign rfl) rfl ?_
    refine L_nil ?_
    refine C_seq ?_
    refine C_region ?_
    refine L_y rfl (y_load rfl ag_3 (sees 1 0 rfl) rfl) rfl ?_
    refine L_nil ?_
    refine C_block ?_
    refine C_seq ?_
    refine C_region ?_
    refine L_y rfl (y_eqi rfl rfl) rfl ?_
    refine L_y rfl (y_assign rfl) rfl ?_
    refine L_nil ?_
    refine C_cond rfl (fun hc2 => ?_) (fun hc2 => ?_)
    · replace hc2 := of_decide_eq_true hc2
      refine C_seq ?_
      refine C_region ?_
      refine L_y rfl (y_move rfl) rfl ?_
      refine L_y rfl (y_assign rfl) rfl ?_
      refine L_y rfl (y_assign rfl) rfl ?_
      refine L_nil ?_
      refine C_ret ?_
      refine B_ret (rv_tmp rfl (rv_tmp rfl rv_nil)) ((hsub (.cons_cons _ (.cons _ (.refl _)))).trans (hsub_pick [0] rfl)) ?_
      exact ⟨pm, _, by omega, by omega, rfl, rfl⟩
    · replace hc2 := of_decide_eq_false hc2
      refine C_seq ?_
      refine C_region ?_
      refine L_y rfl (y_eqi rfl rfl) rfl ?_
      refine L_y rfl (y_assign rfl) rfl ?_
      refine L_nil ?_
      refine C_cond rfl (fun hc3 => ?_) (fun hc3 => ?_)
      · replace hc3 := of_decide_eq_true hc3
        refine C_seq ?_
        refine C_region ?_
        refine L_y rfl (y_move rfl) rfl ?_
        refine L_y rfl (y_assign rfl) rfl ?_
        refine L_y rfl (y_assign rfl) rfl ?_
        refine L_nil ?_
        refine C_ret ?_
        refine B_ret (rv_tmp rfl (rv_tmp rfl rv_nil)) ((hsub (.cons_cons _ (.cons _ (.refl _)))).trans (hsub_pick [0] rfl)) ?_
        exact ⟨pm, _, by omega, by omega, rfl, rfl⟩
      · replace hc3 := of_decide_eq_false hc3
        refine C_seq ?_
        refine C_region ?_
        refine L_y rfl (y_move rfl) rfl ?_
        refine L_y rfl (y_assign rfl) rfl ?_
        refine L_y rfl (y_assign rfl) rfl ?_
        refine L_nil ?_
        refine C_ret ?_
        refine B_ret (rv_tmp rfl (rv_tmp rfl rv_nil)) ((hsub (.cons_cons _ (.cons _ (.refl _)))).trans (hsub_pick [0] rfl)) ?_
        exact ⟨pm, _, by omega, by omega, rfl, rfl⟩

end Go.Proofs.Ytaeooiogjhkjfaa

/- walks (own work; the walks' lines by a program of this repo). -/
set_option linter.unusedVariables false
set_option linter.unusedSimpArgs false
set_option maxRecDepth 20000
namespace Go.Proofs.Ytaeooiogjhkjfaa
open Go.Sl
attribute [local irreducible] BodyQ WpC WpL WpS WpH OpW FnS


theorem len64_1 {w0 : World} {H : Hp} (x : Nat) (hx : x < 256) : FnS Try.prog w0 112 #[.int .u64 (x : Int)] H (fun e H' => e = .returned (.int .i64 (Go.Sort.bitsLen x : Int)) ∧ H' = H) := by
  have hb := bits_small hx
  refine FnS_intro (n := 25) (rs := [.tmp 2]) (vs := [.int .u64 (x : Int)]) Try.func112 rfl Try.ntmps112 rfl rfl ?_
  refine C_seq ?_
  refine C_region ?_
  refine L_y rfl (y_assign rfl) rfl ?_
  refine L_nil ?_
  refine C_seq ?_
  refine C_seq ?_
  refine C_region ?_
  refine L_y rfl (y_move rfl) rfl ?_
  refine L_y rfl (y_geq rfl rfl) rfl ?_
  refine L_nil ?_
  refine C_cond rfl (fun hc0 => absurd hc0 (by simp <;> omega)) (fun hc0 => ?_)
  refine C_skip ?_
  refine C_seq ?_
  refine C_seq ?_
  refine C_region ?_
  refine L_y rfl (y_move rfl) rfl ?_
  refine L_y rfl (y_geq rfl rfl) rfl ?_
  refine L_nil ?_
  refine C_cond rfl (fun hc1 => absurd hc1 (by simp <;> omega)) (fun hc1 => ?_)
  refine C_skip ?_
  refine C_seq ?_
  refine C_seq ?_
  refine C_region ?_
  refine L_y rfl (y_move rfl) rfl ?_
  refine L_y rfl (y_geq rfl rfl) rfl ?_
  refine L_nil ?_
  refine C_cond rfl (fun hc2 => absurd hc2 (by simp <;> omega)) (fun hc2 => ?_)
  refine C_skip ?_
  refine C_seq ?_
  refine C_region ?_
  refine L_y rfl (y_move rfl) rfl ?_
  refine L_y rfl (y_move rfl) rfl ?_
  refine L_y rfl (y_conv rfl us_58 Try.underlying5 (show _ = ((x : Nat) : Int) from by rw [wu8 (by omega) (by omega)])) rfl ?_
  refine L_y rfl (y_indexStr (show _ = some (Value.string len8) from by kernel_rfl) rfl Try.underlying9 (by omega) (len8_at (i := x) (by omega))) rfl ?_
  refine L_y rfl (y_conv rfl us_5 Try.underlying3 (show _ = ((Go.Sort.bitsLen x : Nat) : Int) from by rw [show (UInt8.ofNat (Go.Sort.bitsLen x)).toNat = Go.Sort.bitsLen x from by rw [UInt8.toNat_ofNat']; omega]; exact wi64 (by omega) (by omega))) rfl ?_
  refine L_y rfl (y_add rfl rfl (show _ = ((Go.Sort.bitsLen x : Nat) : Int) from by rw [wi64 (by omega) (by omega)]; omega)) rfl ?_
  refine L_y rfl (y_assign rfl) rfl ?_
  refine L_nil ?_
  refine C_ret ?_
  refine B_ret (rv_tmp rfl rv_nil) (HSub.refl _) ?_
  exact ⟨rfl, rfl⟩

theorem len64_2 {w0 : World} {H : Hp} (x : Nat) (hx : x < 65536) (hx2 : 256 ≤ x) : FnS Try.prog w0 112 #[.int .u64 (x : Int)] H (fun e H' => e = .returned (.int .i64 (Go.Sort.bitsLen x : Int)) ∧ H' = H) := by
  have hb := bits_small (show x / 256 < 256 by omega)
  have hs := bits_shift hx2
  refine FnS_intro (n := 25) (rs := [.tmp 2]) (vs := [.int .u64 (x : Int)]) Try.func112 rfl Try.ntmps112 rfl rfl ?_
  refine C_seq ?_
  refine C_region ?_
  refine L_y rfl (y_assign rfl) rfl ?_
  refine L_nil ?_
  refine C_seq ?_
  refine C_seq ?_
  refine C_region ?_
  refine L_y rfl (y_move rfl) rfl ?_
  refine L_y rfl (y_geq rfl rfl) rfl ?_
  refine L_nil ?_
  refine C_cond rfl (fun hc0 => absurd hc0 (by simp <;> omega)) (fun hc0 => ?_)
  refine C_skip ?_
  refine C_seq ?_
  refine C_seq ?_
  refine C_region ?_
  refine L_y rfl (y_move rfl) rfl ?_
  refine L_y rfl (y_geq rfl rfl) rfl ?_
  refine L_nil ?_
  refine C_cond rfl (fun hc1 => absurd hc1 (by simp <;> omega)) (fun hc1 => ?_)
  refine C_skip ?_
  refine C_seq ?_
  refine C_seq ?_
  refine C_region ?_
  refine L_y rfl (y_move rfl) rfl ?_
  refine L_y rfl (y_geq rfl rfl) rfl ?_
  refine L_nil ?_
  refine C_cond rfl (fun hc2 => ?_) (fun hc2 => absurd hc2 (by simp <;> omega))
  refine C_seq ?_
  refine C_region ?_
  refine L_y rfl (y_move rfl) rfl ?_
  refine L_y rfl (y_shr rfl rfl (by omega) (show _ = ((x / 256 : Nat) : Int) from by show Int.fdiv (x : Int) 256 = _; rw [Int.fdiv_eq_ediv_of_nonneg _ (by decide)]; omega)) rfl ?_
  refine L_y rfl (y_assign rfl) rfl ?_
  refine L_nil ?_
  refine C_region ?_
  refine L_y rfl (y_move rfl) rfl ?_
  refine L_y rfl (y_add rfl rfl (show _ = (8 : Int) from rfl)) rfl ?_
  refine L_y rfl (y_assign rfl) rfl ?_
  refine L_nil ?_
  refine C_seq ?_
  refine C_region ?_
  refine L_y rfl (y_move rfl) rfl ?_
  refine L_y rfl (y_move rfl) rfl ?_
  refine L_y rfl (y_conv rfl us_58 Try.underlying5 (show _ = (((x / 256) : Nat) : Int) from by rw [wu8 (by omega) (by omega)])) rfl ?_
  refine L_y rfl (y_indexStr (show _ = some (Value.string len8) from by kernel_rfl) rfl Try.underlying9 (by omega) (len8_at (i := (x / 256)) (by omega))) rfl ?_
  refine L_y rfl (y_conv rfl us_5 Try.underlying3 (show _ = ((Go.Sort.bitsLen (x / 256) : Nat) : Int) from by rw [show (UInt8.ofNat (Go.Sort.bitsLen (x / 256))).toNat = Go.Sort.bitsLen (x / 256) from by rw [UInt8.toNat_ofNat']; omega]; exact wi64 (by omega) (by omega))) rfl ?_
  refine L_y rfl (y_add rfl rfl (show _ = ((Go.Sort.bitsLen x : Nat) : Int) from by rw [wi64 (by omega) (by omega)]; omega)) rfl ?_
  refine L_y rfl (y_assign rfl) rfl ?_
  refine L_nil ?_
  refine C_ret ?_
  refine B_ret (rv_tmp rfl rv_nil) (HSub.refl _) ?_
  exact ⟨rfl, rfl⟩

theorem len64_u {w0 : World} {H : Hp} (x : Nat) (hx : x < 65536) : FnS Try.prog w0 112 #[.int .u64 (x : Int)] H (fun e H' => e = .returned (.int .i64 (Go.Sort.bitsLen x : Int)) ∧ H' = H) := by
  by_cases h : x < 256
  · exact len64_1 x h
  · exact len64_2 x hx (by omega)

theorem len_u {w0 : World} {H : Hp} (x : Nat) (hx : x < 65536) : FnS Try.prog w0 96 #[.int .u64 (x : Int)] H (fun e H' => e = .returned (.int .i64 (Go.Sort.bitsLen x : Int)) ∧ H' = H) := by
  refine FnS_intro (n := 8) (rs := [.tmp 2]) (vs := [.int .u64 (x : Int)]) Try.func96 rfl Try.ntmps96 rfl rfl ?_
  refine C_seq ?_
  refine C_region ?_
  refine L_y rfl (y_assign rfl) rfl ?_
  refine L_nil ?_
  refine C_seq ?_
  refine C_cond_f rfl ?_
  refine C_skip ?_
  refine C_seq ?_
  refine C_region ?_
  refine L_y rfl (y_move rfl) rfl ?_
  refine L_op rfl (op_call rfl rfl (fun a w => Try.call112 a w) rfl ?_)
  refine (len64_u x hx).mono ?_
  rintro _ _ ⟨rfl, e⟩
  obtain rfl := e.symm
  clear e
  refine ⟨_, rfl, ?_⟩
  refine L_y rfl (y_assign rfl) rfl ?_
  refine L_nil ?_
  refine C_ret ?_
  refine B_ret (rv_tmp rfl rv_nil) (HSub.refl _) ?_
  exact ⟨rfl, rfl⟩

end Go.Proofs.Ytaeooiogjhkjfaa

/- walks (own work; the walks' lines by a program of this repo). -/
set_option linter.unusedVariables false
set_option linter.unusedSimpArgs false
set_option maxRecDepth 20000
namespace Go.Proofs.Ytaeooiogjhkjfaa
open Go.Sl
attribute [local irreducible] BodyQ WpC WpL WpS WpH OpW FnS


theorem npow_u {w0 : World} {H : Hp} (x : Nat) (hx : x < 65536) : FnS Try.prog w0 114 #[.int .i64 ((x : Nat) : Int)] H (fun e H' => e = .returned (.int .u64 ((2 ^ Go.Sort.bitsLen x : Nat) : Int)) ∧ H' = H) := by
  have hbl := bits_le hx
  refine FnS_intro (n := 7) (rs := [.tmp 2]) (vs := [.int .i64 ((x : Nat) : Int)]) Try.func114 rfl Try.ntmps114 rfl rfl ?_
  refine C_seq ?_
  refine C_region ?_
  refine L_y rfl (y_assign rfl) rfl ?_
  refine L_nil ?_
  refine C_seq ?_
  refine C_region ?_
  refine L_y rfl (y_move rfl) rfl ?_
  refine L_y rfl (y_conv rfl us_3 Try.underlying152 (show _ = ((x : Nat) : Int) from wu64 (by omega) (by omega))) rfl ?_
  refine L_op rfl (op_call rfl rfl (fun a w => Try.call96 a w) rfl ?_)
  refine (len_u x hx).mono ?_
  rintro _ _ ⟨rfl, e⟩
  obtain rfl := e.symm
  clear e
  refine ⟨_, rfl, ?_⟩
  refine L_y rfl (y_shl rfl rfl (by omega) (show _ = ((2 ^ Go.Sort.bitsLen x : Nat) : Int) from by rw [Int.toNat_natCast, show min (Go.Sort.bitsLen x) (IntKind.bits .u64) = Go.Sort.bitsLen x from Nat.min_eq_left (Nat.le_trans hbl (by decide))]; have := (shl_u64 (x := 1) (k := Go.Sort.bitsLen x)); rw [Nat.one_mul, Nat.mod_eq_of_lt (Nat.lt_of_le_of_lt (Nat.pow_le_pow_right (by decide) hbl) (by decide))] at this; exact this)) rfl ?_
  refine L_y rfl (y_assign rfl) rfl ?_
  refine L_nil ?_
  refine C_ret ?_
  refine B_ret (rv_tmp rfl rv_nil) (HSub.refl _) ?_
  exact ⟨rfl, rfl⟩

set_option maxHeartbeats 1000000 in

theorem xnext_u {w0 : World} {H : Hp} {rb : Nat} (v : Nat) (hlv : v < 18446744073709551616) : FnS Try.prog w0 115 #[ptr rb] ([(rb, .cells [Value.int .u64 ((v : Nat) : Int)].toArray 169)] :: H) (fun e H' => ∃ v', v' < 18446744073709551616 ∧ e = .returned (.int .u64 ((v' : Nat) : Int)) ∧ H' = [(rb, .cells [Value.int .u64 ((v' : Nat) : Int)].toArray 169)] :: H) := by
  refine FnS_intro (n := 33) (rs := [.tmp 2]) (vs := [ptr rb]) Try.func115 rfl Try.ntmps115 rfl rfl ?_
  refine C_seq ?_
  refine C_region ?_
  refine L_y rfl (y_assign rfl) rfl ?_
  refine L_nil ?_
  refine C_seq ?_
  refine C_regionH H (by kernel_rfl) ?_
  refine H_y 0 rfl (by kernel_rfl) (by kernel_rfl) (by kernel_rfl) ((hsub (.cons _ (.refl _)))) rfl (y_move rfl) rfl ?_
  refine H_y 1 rfl (by kernel_rfl) (by kernel_rfl) (by kernel_rfl) ((hsub (.cons _ (.refl _)))) rfl (y_nilCheck rfl) rfl ?_
  refine H_y 3 rfl (by kernel_rfl) (by kernel_rfl) (by kernel_rfl) ((hsub (.cons _ (.refl _)))) rfl (y_move rfl) rfl ?_
  refine H_y 4 rfl (by kernel_rfl) (by kernel_rfl) (by kernel_rfl) ((hsub (.cons _ (.refl _)))) rfl (y_nilCheck rfl) rfl ?_
  refine H_two 2 5 rfl rfl (by kernel_rfl) rfl rfl ?_ ?_
  · refine op_y (y_load rfl ag_169 (sees 0 0 rfl) rfl) rfl ?_
    refine ⟨(hsub (.cons _ (.refl _))), ?_⟩
    refine H_one 5 rfl (by kernel_rfl) rfl (op_y (y_load rfl ag_169 (sees 0 0 rfl) rfl) rfl ?_)
    refine ⟨(hsub (.cons _ (.refl _))), ?_⟩
    refine H_y 6 rfl (by kernel_rfl) (by kernel_rfl) (by kernel_rfl) ((hsub (.cons _ (.refl _)))) rfl (y_shl rfl rfl (by omega) (show _ = ((v * 2 ^ 13 % 18446744073709551616 : Nat) : Int) from shl_u64)) rfl ?_
    refine H_y 7 rfl (by kernel_rfl) (by kernel_rfl) (by kernel_rfl) ((hsub (.cons _ (.refl _)))) rfl (y_xor rfl rfl (show _ = ((v ^^^ (v * 2 ^ 13 % 18446744073709551616) : Nat) : Int) from bits_xor_u64_nat _ _ (by omega) (by omega))) rfl ?_
    refine H_y 8 rfl (by kernel_rfl) (by kernel_rfl) (by kernel_rfl) ((hsub (.cons _ (.refl _)))) rfl (y_nilCheck rfl) rfl ?_
    refine H_one 9 rfl (by kernel_rfl) rfl (op_store1 0 0 rfl rfl rfl sz_169 rfl (Nat.le_of_ble_eq_true rfl) ?_)
    refine ⟨(hsub (.cons _ (.refl _))), ?_⟩
    refine H_done (by kernel_rfl) ?_
    obtain ⟨v1, hv1⟩ : ∃ z, z = v ^^^ (v * 2 ^ 13 % 18446744073709551616) := ⟨_, rfl⟩
    have hlv1 : v1 < 18446744073709551616 := by rw [hv1]; exact xor_u64 (by omega) (by omega)
    rw [← hv1]
    refine C_seq ?_
    refine C_regionH H (by kernel_rfl) ?_
    refine H_y 0 rfl (by kernel_rfl) (by kernel_rfl) (by kernel_rfl) ((hsub (.cons _ (.refl _)))) rfl (y_move rfl) rfl ?_
    refine H_y 1 rfl (by kernel_rfl) (by kernel_rfl) (by kernel_rfl) ((hsub (.cons _ (.refl _)))) rfl (y_nilCheck rfl) rfl ?_
    refine H_y 3 rfl (by kernel_rfl) (by kernel_rfl) (by kernel_rfl) ((hsub (.cons _ (.refl _)))) rfl (y_move rfl) rfl ?_
    refine H_y 4 rfl (by kernel_rfl) (by kernel_rfl) (by kernel_rfl) ((hsub (.cons _ (.refl _)))) rfl (y_nilCheck rfl) rfl ?_
    refine H_two 2 5 rfl rfl (by kernel_rfl) rfl rfl ?_ ?_
    · refine op_y (y_load rfl ag_169 (sees 0 0 rfl) rfl) rfl ?_
      refine ⟨(hsub (.cons _ (.refl _))), ?_⟩
      refine H_one 5 rfl (by kernel_rfl) rfl (op_y (y_load rfl ag_169 (sees 0 0 rfl) rfl) rfl ?_)
      refine ⟨(hsub (.cons _ (.refl _))), ?_⟩
      refine H_y 6 rfl (by kernel_rfl) (by kernel_rfl) (by kernel_rfl) ((hsub (.cons _ (.refl _)))) rfl (y_shr rfl rfl (by omega) (show _ = ((v1 / 2 ^ 7 : Nat) : Int) from by show Int.fdiv (v1 : Int) (2 ^ 7) = _; rw [Int.fdiv_eq_ediv_of_nonneg _ (by decide)]; omega)) rfl ?_
      refine H_y 7 rfl (by kernel_rfl) (by kernel_rfl) (by kernel_rfl) ((hsub (.cons _ (.refl _)))) rfl (y_xor rfl rfl (show _ = ((v1 ^^^ (v1 / 2 ^ 7) : Nat) : Int) from bits_xor_u64_nat _ _ (by omega) (by omega))) rfl ?_
      refine H_y 8 rfl (by kernel_rfl) (by kernel_rfl) (by kernel_rfl) ((hsub (.cons _ (.refl _)))) rfl (y_nilCheck rfl) rfl ?_
      refine H_one 9 rfl (by kernel_rfl) rfl (op_store1 0 0 rfl rfl rfl sz_169 rfl (Nat.le_of_ble_eq_true rfl) ?_)
      refine ⟨(hsub (.cons _ (.refl _))), ?_⟩
      refine H_done (by kernel_rfl) ?_
      obtain ⟨v2, hv2⟩ : ∃ z, z = v1 ^^^ (v1 / 2 ^ 7) := ⟨_, rfl⟩
      have hlv2 : v2 < 18446744073709551616 := by rw [hv2]; exact xor_u64 (by omega) (by omega)
      rw [← hv2]
      refine C_seq ?_
      refine C_regionH H (by kernel_rfl) ?_
      refine H_y 0 rfl (by kernel_rfl) (by kernel_rfl) (by kernel_rfl) ((hsub (.cons _ (.refl _)))) rfl (y_move rfl) rfl ?_
      refine H_y 1 rfl (by kernel_rfl) (by kernel_rfl) (by kernel_rfl) ((hsub (.cons _ (.refl _)))) rfl (y_nilCheck rfl) rfl ?_
      refine H_y 3 rfl (by kernel_rfl) (by kernel_rfl) (by kernel_rfl) ((hsub (.cons _ (.refl _)))) rfl (y_move rfl) rfl ?_
      refine H_y 4 rfl (by kernel_rfl) (by kernel_rfl) (by kernel_rfl) ((hsub (.cons _ (.refl _)))) rfl (y_nilCheck rfl) rfl ?_
      refine H_two 2 5 rfl rfl (by kernel_rfl) rfl rfl ?_ ?_
      · refine op_y (y_load rfl ag_169 (sees 0 0 rfl) rfl) rfl ?_
        refine ⟨(hsub (.cons _ (.refl _))), ?_⟩
        refine H_one 5 rfl (by kernel_rfl) rfl (op_y (y_load rfl ag_169 (sees 0 0 rfl) rfl) rfl ?_)
        refine ⟨(hsub (.cons _ (.refl _))), ?_⟩
        refine H_y 6 rfl (by kernel_rfl) (by kernel_rfl) (by kernel_rfl) ((hsub (.cons _ (.refl _)))) rfl (y_shl rfl rfl (by omega) (show _ = ((v2 * 2 ^ 17 % 18446744073709551616 : Nat) : Int) from shl_u64)) rfl ?_
        refine H_y 7 rfl (by kernel_rfl) (by kernel_rfl) (by kernel_rfl) ((hsub (.cons _ (.refl _)))) rfl (y_xor rfl rfl (show _ = ((v2 ^^^ (v2 * 2 ^ 17 % 18446744073709551616) : Nat) : Int) from bits_xor_u64_nat _ _ (by omega) (by omega))) rfl ?_
        refine H_y 8 rfl (by kernel_rfl) (by kernel_rfl) (by kernel_rfl) ((hsub (.cons _ (.refl _)))) rfl (y_nilCheck rfl) rfl ?_
        refine H_one 9 rfl (by kernel_rfl) rfl (op_store1 0 0 rfl rfl rfl sz_169 rfl (Nat.le_of_ble_eq_true rfl) ?_)
        refine ⟨(hsub (.cons _ (.refl _))), ?_⟩
        refine H_done (by kernel_rfl) ?_
        obtain ⟨v3, hv3⟩ : ∃ z, z = v2 ^^^ (v2 * 2 ^ 17 % 18446744073709551616) := ⟨_, rfl⟩
        have hlv3 : v3 < 18446744073709551616 := by rw [hv3]; exact xor_u64 (by omega) (by omega)
        rw [← hv3]
        refine C_seq ?_
        refine C_region ?_
        refine L_y rfl (y_move rfl) rfl ?_
        refine L_y rfl (y_nilCheck rfl) rfl ?_
        refine L_y rfl (y_load rfl ag_169 (sees 0 0 rfl) rfl) rfl ?_
        refine L_y rfl (y_assign rfl) rfl ?_
        refine L_nil ?_
        refine C_ret ?_
        refine B_ret (rv_tmp rfl rv_nil) ((hsub (.cons_cons _ (.refl _))).trans (hsub_pick [0] rfl)) ?_
        exact ⟨v3, hlv3, rfl, rfl⟩
      · refine op_y (y_load rfl ag_169 (sees 0 0 rfl) rfl) rfl ?_
        refine ⟨(hsub (.cons _ (.refl _))), ?_⟩
        refine H_y 6 rfl (by kernel_rfl) (by kernel_rfl) (by kernel_rfl) ((hsub (.cons _ (.refl _)))) rfl (y_shl rfl rfl (by omega) (show _ = ((v2 * 2 ^ 17 % 18446744073709551616 : Nat) : Int) from shl_u64)) rfl ?_
        refine H_one 2 rfl (by kernel_rfl) rfl (op_y (y_load rfl ag_169 (sees 0 0 rfl) rfl) rfl ?_)
        refine ⟨(hsub (.cons _ (.refl _))), ?_⟩
        refine H_y 7 rfl (by kernel_rfl) (by kernel_rfl) (by kernel_rfl) ((hsub (.cons _ (.refl _)))) rfl (y_xor rfl rfl (show _ = ((v2 ^^^ (v2 * 2 ^ 17 % 18446744073709551616) : Nat) : Int) from bits_xor_u64_nat _ _ (by omega) (by omega))) rfl ?_
        refine H_y 8 rfl (by kernel_rfl) (by kernel_rfl) (by kernel_rfl) ((hsub (.cons _ (.refl _)))) rfl (y_nilCheck rfl) rfl ?_
        refine H_one 9 rfl (by kernel_rfl) rfl (op_store1 0 0 rfl rfl rfl sz_169 rfl (Nat.le_of_ble_eq_true rfl) ?_)
        refine ⟨(hsub (.cons _ (.refl _))), ?_⟩
        refine H_done (by kernel_rfl) ?_
        obtain ⟨v3, hv3⟩ : ∃ z, z = v2 ^^^ (v2 * 2 ^ 17 % 18446744073709551616) := ⟨_, rfl⟩
        have hlv3 : v3 < 18446744073709551616 := by rw [hv3]; exact xor_u64 (by omega) (by omega)
        rw [← hv3]
        refine C_seq ?_
        refine C_region ?_
        refine L_y rfl (y_move rfl) rfl ?_
        refine L_y rfl (y_nilCheck rfl) rfl ?_
        refine L_y rfl (y_load rfl ag_169 (sees 0 0 rfl) rfl) rfl ?_
        refine L_y rfl (y_assign rfl) rfl ?_
        refine L_nil ?_
        refine C_ret ?_
        refine B_ret (rv_tmp rfl rv_nil) ((hsub (.cons_cons _ (.refl _))).trans (hsub_pick [0] rfl)) ?_
        exact ⟨v3, hlv3, rfl, rfl⟩
    · refine op_y (y_load rfl ag_169 (sees 0 0 rfl) rfl) rfl ?_
      refine ⟨(hsub (.cons _ (.refl _))), ?_⟩
      refine H_y 6 rfl (by kernel_rfl) (by kernel_rfl) (by kernel_rfl) ((hsub (.cons _ (.refl _)))) rfl (y_shr rfl rfl (by omega) (show _ = ((v1 / 2 ^ 7 : Nat) : Int) from by show Int.fdiv (v1 : Int) (2 ^ 7) = _; rw [Int.fdiv_eq_ediv_of_nonneg _ (by decide)]; omega)) rfl ?_
      refine H_one 2 rfl (by kernel_rfl) rfl (op_y (y_load rfl ag_169 (sees 0 0 rfl) rfl) rfl ?_)
      refine ⟨(hsub (.cons _ (.refl _))), ?_⟩
      refine H_y 7 rfl (by kernel_rfl) (by kernel_rfl) (by kernel_rfl) ((hsub (.cons _ (.refl _)))) rfl (y_xor rfl rfl (show _ = ((v1 ^^^ (v1 / 2 ^ 7) : Nat) : Int) from bits_xor_u64_nat _ _ (by omega) (by omega))) rfl ?_
      refine H_y 8 rfl (by kernel_rfl) (by kernel_rfl) (by kernel_rfl) ((hsub (.cons _ (.refl _)))) rfl (y_nilCheck rfl) rfl ?_
      refine H_one 9 rfl (by kernel_rfl) rfl (op_store1 0 0 rfl rfl rfl sz_169 rfl (Nat.le_of_ble_eq_true rfl) ?_)
      refine ⟨(hsub (.cons _ (.refl _))), ?_⟩
      refine H_done (by kernel_rfl) ?_
      obtain ⟨v2, hv2⟩ : ∃ z, z = v1 ^^^ (v1 / 2 ^ 7) := ⟨_, rfl⟩
      have hlv2 : v2 < 18446744073709551616 := by rw [hv2]; exact xor_u64 (by omega) (by omega)
      rw [← hv2]
      refine C_seq ?_
      refine C_regionH H (by kernel_rfl) ?_
      refine H_y 0 rfl (by kernel_rfl) (by kernel_rfl) (by kernel_rfl) ((hsub (.cons _ (.refl _)))) rfl (y_move rfl) rfl ?_
      refine H_y 1 rfl (by kernel_rfl) (by kernel_rfl) (by kernel_rfl) ((hsub (.cons _ (.refl _)))) rfl (y_nilCheck rfl) rfl ?_
      refine H_y 3 rfl (by kernel_rfl) (by kernel_rfl) (by kernel_rfl) ((hsub (.cons _ (.refl _)))) rfl (y_move rfl) rfl ?_
      refine H_y 4 rfl (by kernel_rfl) (by kernel_rfl) (by kernel_rfl) ((hsub (.cons _ (.refl _)))) rfl (y_nilCheck rfl) rfl ?_
      refine H_two 2 5 rfl rfl (by kernel_rfl) rfl rfl ?_ ?_
      · refine op_y (y_load rfl ag_169 (sees 0 0 rfl) rfl) rfl ?_
        refine ⟨(hsub (.cons _ (.refl _))), ?_⟩
        refine H_one 5 rfl (by kernel_rfl) rfl (op_y (y_load rfl ag_169 (sees 0 0 rfl) rfl) rfl ?_)
        refine ⟨(hsub (.cons _ (.refl _))), ?_⟩
        refine H_y 6 rfl (by kernel_rfl) (by kernel_rfl) (by kernel_rfl) ((hsub (.cons _ (.refl _)))) rfl (y_shl rfl rfl (by omega) (show _ = ((v2 * 2 ^ 17 % 18446744073709551616 : Nat) : Int) from shl_u64)) rfl ?_
        refine H_y 7 rfl (by kernel_rfl) (by kernel_rfl) (by kernel_rfl) ((hsub (.cons _ (.refl _)))) rfl (y_xor rfl rfl (show _ = ((v2 ^^^ (v2 * 2 ^ 17 % 18446744073709551616) : Nat) : Int) from bits_xor_u64_nat _ _ (by omega) (by omega))) rfl ?_
        refine H_y 8 rfl (by kernel_rfl) (by kernel_rfl) (by kernel_rfl) ((hsub (.cons _ (.refl _)))) rfl (y_nilCheck rfl) rfl ?_
        refine H_one 9 rfl (by kernel_rfl) rfl (op_store1 0 0 rfl rfl rfl sz_169 rfl (Nat.le_of_ble_eq_true rfl) ?_)
        refine ⟨(hsub (.cons _ (.refl _))), ?_⟩
        refine H_done (by kernel_rfl) ?_
        obtain ⟨v3, hv3⟩ : ∃ z, z = v2 ^^^ (v2 * 2 ^ 17 % 18446744073709551616) := ⟨_, rfl⟩
        have hlv3 : v3 < 18446744073709551616 := by rw [hv3]; exact xor_u64 (by omega) (by omega)
        rw [← hv3]
        refine C_seq ?_
        refine C_region ?_
        refine L_y rfl (y_move rfl) rfl ?_
        refine L_y rfl (y_nilCheck rfl) rfl ?_
        refine L_y rfl (y_load rfl ag_169 (sees 0 0 rfl) rfl) rfl ?_
        refine L_y rfl (y_assign rfl) rfl ?_
        refine L_nil ?_
        refine C_ret ?_
        refine B_ret (rv_tmp rfl rv_nil) ((hsub (.cons_cons _ (.refl _))).trans (hsub_pick [0] rfl)) ?_
        exact ⟨v3, hlv3, rfl, rfl⟩
      · refine op_y (y_load rfl ag_169 (sees 0 0 rfl) rfl) rfl ?_
        refine ⟨(hsub (.cons _ (.refl _))), ?_⟩
        refine H_y 6 rfl (by kernel_rfl) (by kernel_rfl) (by kernel_rfl) ((hsub (.cons _ (.refl _)))) rfl (y_shl rfl rfl (by omega) (show _ = ((v2 * 2 ^ 17 % 18446744073709551616 : Nat) : Int) from shl_u64)) rfl ?_
        refine H_one 2 rfl (by kernel_rfl) rfl (op_y (y_load rfl ag_169 (sees 0 0 rfl) rfl) rfl ?_)
        refine ⟨(hsub (.cons _ (.refl _))), ?_⟩
        refine H_y 7 rfl (by kernel_rfl) (by kernel_rfl) (by kernel_rfl) ((hsub (.cons _ (.refl _)))) rfl (y_xor rfl rfl (show _ = ((v2 ^^^ (v2 * 2 ^ 17 % 18446744073709551616) : Nat) : Int) from bits_xor_u64_nat _ _ (by omega) (by omega))) rfl ?_
        refine H_y 8 rfl (by kernel_rfl) (by kernel_rfl) (by kernel_rfl) ((hsub (.cons _ (.refl _)))) rfl (y_nilCheck rfl) rfl ?_
        refine H_one 9 rfl (by kernel_rfl) rfl (op_store1 0 0 rfl rfl rfl sz_169 rfl (Nat.le_of_ble_eq_true rfl) ?_)
        refine ⟨(hsub (.cons _ (.refl _))), ?_⟩
        refine H_done (by kernel_rfl) ?_
        obtain ⟨v3, hv3⟩ : ∃ z, z = v2 ^^^ (v2 * 2 ^ 17 % 18446744073709551616) := ⟨_, rfl⟩
        have hlv3 : v3 < 18446744073709551616 := by rw [hv3]; exact xor_u64 (by omega) (by omega)
        rw [← hv3]
        refine C_seq ?_
        refine C_region ?_
        refine L_y rfl (y_move rfl) rfl ?_
        refine L_y rfl (y_nilCheck rfl) rfl ?_
        refine L_y rfl (y_load rfl ag_169 (sees 0 0 rfl) rfl) rfl ?_
        refine L_y rfl (y_assign rfl) rfl ?_
        refine L_nil ?_
        refine C_ret ?_
        refine B_ret (rv_tmp rfl rv_nil) ((hsub (.cons_cons _ (.refl _))).trans (hsub_pick [0] rfl)) ?_
        exact ⟨v3, hlv3, rfl, rfl⟩
  · refine op_y (y_load rfl ag_169 (sees 0 0 rfl) rfl) rfl ?_
    refine ⟨(hsub (.cons _ (.refl _))), ?_⟩
    refine H_y 6 rfl (by kernel_rfl) (by kernel_rfl) (by kernel_rfl) ((hsub (.cons _ (.refl _)))) rfl (y_shl rfl rfl (by omega) (show _ = ((v * 2 ^ 13 % 18446744073709551616 : Nat) : Int) from shl_u64)) rfl ?_
    refine H_one 2 rfl (by kernel_rfl) rfl (op_y (y_load rfl ag_169 (sees 0 0 rfl) rfl) rfl ?_)
    refine ⟨(hsub (.cons _ (.refl _))), ?_⟩
    refine H_y 7 rfl (by kernel_rfl) (by kernel_rfl) (by kernel_rfl) ((hsub (.cons _ (.refl _)))) rfl (y_xor rfl rfl (show _ = ((v ^^^ (v * 2 ^ 13 % 18446744073709551616) : Nat) : Int) from bits_xor_u64_nat _ _ (by omega) (by omega))) rfl ?_
    refine H_y 8 rfl (by kernel_rfl) (by kernel_rfl) (by kernel_rfl) ((hsub (.cons _ (.refl _)))) rfl (y_nilCheck rfl) rfl ?_
    refine H_one 9 rfl (by kernel_rfl) rfl (op_store1 0 0 rfl rfl rfl sz_169 rfl (Nat.le_of_ble_eq_true rfl) ?_)
    refine ⟨(hsub (.cons _ (.refl _))), ?_⟩
    refine H_done (by kernel_rfl) ?_
    obtain ⟨v1, hv1⟩ : ∃ z, z = v ^^^ (v * 2 ^ 13 % 18446744073709551616) := ⟨_, rfl⟩
    have hlv1 : v1 < 18446744073709551616 := by rw [hv1]; exact xor_u64 (by omega) (by omega)
    rw [← hv1]
    refine C_seq ?_
    refine C_regionH H (by kernel_rfl) ?_
    refine H_y 0 rfl (by kernel_rfl) (by kernel_rfl) (by kernel_rfl) ((hsub (.cons _ (.refl _)))) rfl (y_move rfl) rfl ?_
    refine H_y 1 rfl (by kernel_rfl) (by kernel_rfl) (by kernel_rfl) ((hsub (.cons _ (.refl _)))) rfl (y_nilCheck rfl) rfl ?_
    refine H_y 3 rfl (by kernel_rfl) (by kernel_rfl) (by kernel_rfl) ((hsub (.cons _ (.refl _)))) rfl (y_move rfl) rfl ?_
    refine H_y 4 rfl (by kernel_rfl) (by kernel_rfl) (by kernel_rfl) ((hsub (.cons _ (.refl _)))) rfl (y_nilCheck rfl) rfl ?_
    refine H_two 2 5 rfl rfl (by kernel_rfl) rfl rfl ?_ ?_
    · refine op_y (y_load rfl ag_169 (sees 0 0 rfl) rfl) rfl ?_
      refine ⟨(hsub (.cons _ (.refl _))), ?_⟩
      refine H_one 5 rfl (by kernel_rfl) rfl (op_y (y_load rfl ag_169 (sees 0 0 rfl) rfl) rfl ?_)
      refine ⟨(hsub (.cons _ (.refl _))), ?_⟩
      refine H_y 6 rfl (by kernel_rfl) (by kernel_rfl) (by kernel_rfl) ((hsub (.cons _ (.refl _)))) rfl (y_shr rfl rfl (by omega) (show _ = ((v1 / 2 ^ 7 : Nat) : Int) from by show Int.fdiv (v1 : Int) (2 ^ 7) = _; rw [Int.fdiv_eq_ediv_of_nonneg _ (by decide)]; omega)) rfl ?_
      refine H_y 7 rfl (by kernel_rfl) (by kernel_rfl) (by kernel_rfl) ((hsub (.cons _ (.refl _)))) rfl (y_xor rfl rfl (show _ = ((v1 ^^^ (v1 / 2 ^ 7) : Nat) : Int) from bits_xor_u64_nat _ _ (by omega) (by omega))) rfl ?_
      refine H_y 8 rfl (by kernel_rfl) (by kernel_rfl) (by kernel_rfl) ((hsub (.cons _ (.refl _)))) rfl (y_nilCheck rfl) rfl ?_
      refine H_one 9 rfl (by kernel_rfl) rfl (op_store1 0 0 rfl rfl rfl sz_169 rfl (Nat.le_of_ble_eq_true rfl) ?_)
      refine ⟨(hsub (.cons _ (.refl _))), ?_⟩
      refine H_done (by kernel_rfl) ?_
      obtain ⟨v2, hv2⟩ : ∃ z, z = v1 ^^^ (v1 / 2 ^ 7) := ⟨_, rfl⟩
      have hlv2 : v2 < 18446744073709551616 := by rw [hv2]; exact xor_u64 (by omega) (by omega)
      rw [← hv2]
      refine C_seq ?_
      refine C_regionH H (by kernel_rfl) ?_
      refine H_y 0 rfl (by kernel_rfl) (by kernel_rfl) (by kernel_rfl) ((hsub (.cons _ (.refl _)))) rfl (y_move rfl) rfl ?_
      refine H_y 1 rfl (by kernel_rfl) (by kernel_rfl) (by kernel_rfl) ((hsub (.cons _ (.refl _)))) rfl (y_nilCheck rfl) rfl ?_
      refine H_y 3 rfl (by kernel_rfl) (by kernel_rfl) (by kernel_rfl) ((hsub (.cons _ (.refl _)))) rfl (y_move rfl) rfl ?_
      refine H_y 4 rfl (by kernel_rfl) (by kernel_rfl) (by kernel_rfl) ((hsub (.cons _ (.refl _)))) rfl (y_nilCheck rfl) rfl ?_
      refine H_two 2 5 rfl rfl (by kernel_rfl) rfl rfl ?_ ?_
      · refine op_y (y_load rfl ag_169 (sees 0 0 rfl) rfl) rfl ?_
        refine ⟨(hsub (.cons _ (.refl _))), ?_⟩
        refine H_one 5 rfl (by kernel_rfl) rfl (op_y (y_load rfl ag_169 (sees 0 0 rfl) rfl) rfl ?_)
        refine ⟨(hsub (.cons _ (.refl _))), ?_⟩
        refine H_y 6 rfl (by kernel_rfl) (by kernel_rfl) (by kernel_rfl) ((hsub (.cons _ (.refl _)))) rfl (y_shl rfl rfl (by omega) (show _ = ((v2 * 2 ^ 17 % 18446744073709551616 : Nat) : Int) from shl_u64)) rfl ?_
        refine H_y 7 rfl (by kernel_rfl) (by kernel_rfl) (by kernel_rfl) ((hsub (.cons _ (.refl _)))) rfl (y_xor rfl rfl (show _ = ((v2 ^^^ (v2 * 2 ^ 17 % 18446744073709551616) : Nat) : Int) from bits_xor_u64_nat _ _ (by omega) (by omega))) rfl ?_
        refine H_y 8 rfl (by kernel_rfl) (by kernel_rfl) (by kernel_rfl) ((hsub (.cons _ (.refl _)))) rfl (y_nilCheck rfl) rfl ?_
        refine H_one 9 rfl (by kernel_rfl) rfl (op_store1 0 0 rfl rfl rfl sz_169 rfl (Nat.le_of_ble_eq_true rfl) ?_)
        refine ⟨(hsub (.cons _ (.refl _))), ?_⟩
        refine H_done (by kernel_rfl) ?_
        obtain ⟨v3, hv3⟩ : ∃ z, z = v2 ^^^ (v2 * 2 ^ 17 % 18446744073709551616) := ⟨_, rfl⟩
        have hlv3 : v3 < 18446744073709551616 := by rw [hv3]; exact xor_u64 (by omega) (by omega)
        rw [← hv3]
        refine C_seq ?_
        refine C_region ?_
        refine L_y rfl (y_move rfl) rfl ?_
        refine L_y rfl (y_nilCheck rfl) rfl ?_
        refine L_y rfl (y_load rfl ag_169 (sees 0 0 rfl) rfl) rfl ?_
        refine L_y rfl (y_assign rfl) rfl ?_
        refine L_nil ?_
        refine C_ret ?_
        refine B_ret (rv_tmp rfl rv_nil) ((hsub (.cons_cons _ (.refl _))).trans (hsub_pick [0] rfl)) ?_
        exact ⟨v3, hlv3, rfl, rfl⟩
      · refine op_y (y_load rfl ag_169 (sees 0 0 rfl) rfl) rfl ?_
        refine ⟨(hsub (.cons _ (.refl _))), ?_⟩
        refine H_y 6 rfl (by kernel_rfl) (by kernel_rfl) (by kernel_rfl) ((hsub (.cons _ (.refl _)))) rfl (y_shl rfl rfl (by omega) (show _ = ((v2 * 2 ^ 17 % 18446744073709551616 : Nat) : Int) from shl_u64)) rfl ?_
        refine H_one 2 rfl (by kernel_rfl) rfl (op_y (y_load rfl ag_169 (sees 0 0 rfl) rfl) rfl ?_)
        refine ⟨(hsub (.cons _ (.refl _))), ?_⟩
        refine H_y 7 rfl (by kernel_rfl) (by kernel_rfl) (by kernel_rfl) ((hsub (.cons _ (.refl _)))) rfl (y_xor rfl rfl (show _ = ((v2 ^^^ (v2 * 2 ^ 17 % 18446744073709551616) : Nat) : Int) from bits_xor_u64_nat _ _ (by omega) (by omega))) rfl ?_
        refine H_y 8 rfl (by kernel_rfl) (by kernel_rfl) (by kernel_rfl) ((hsub (.cons _ (.refl _)))) rfl (y_nilCheck rfl) rfl ?_
        refine H_one 9 rfl (by kernel_rfl) rfl (op_store1 0 0 rfl rfl rfl sz_169 rfl (Nat.le_of_ble_eq_true rfl) ?_)
        refine ⟨(hsub (.cons _ (.refl _))), ?_⟩
        refine H_done (by kernel_rfl) ?_
        obtain ⟨v3, hv3⟩ : ∃ z, z = v2 ^^^ (v2 * 2 ^ 17 % 18446744073709551616) := ⟨_, rfl⟩
        have hlv3 : v3 < 18446744073709551616 := by rw [hv3]; exact xor_u64 (by omega) (by omega)
        rw [← hv3]
        refine C_seq ?_
        refine C_region ?_
        refine L_y rfl (y_move rfl) rfl ?_
        refine L_y rfl (y_nilCheck rfl) rfl ?_
        refine L_y rfl (y_load rfl ag_169 (sees 0 0 rfl) rfl) rfl ?_
        refine L_y rfl (y_assign rfl) rfl ?_
        refine L_nil ?_
        refine C_ret ?_
        refine B_ret (rv_tmp rfl rv_nil) ((hsub (.cons_cons _ (.refl _))).trans (hsub_pick [0] rfl)) ?_
        exact ⟨v3, hlv3, rfl, rfl⟩
    · refine op_y (y_load rfl ag_169 (sees 0 0 rfl) rfl) rfl ?_
      refine ⟨(hsub (.cons _ (.refl _))), ?_⟩
      refine H_y 6 rfl (by kernel_rfl) (by kernel_rfl) (by kernel_rfl) ((hsub (.cons _ (.refl _)))) rfl (y_shr rfl rfl (by omega) (show _ = ((v1 / 2 ^ 7 : Nat) : Int) from by show Int.fdiv (v1 : Int) (2 ^ 7) = _; rw [Int.fdiv_eq_ediv_of_nonneg _ (by decide)]; omega)) rfl ?_
      refine H_one 2 rfl (by kernel_rfl) rfl (op_y (y_load rfl ag_169 (sees 0 0 rfl) rfl) rfl ?_)
      refine ⟨(hsub (.cons _ (.refl _))), ?_⟩
      refine H_y 7 rfl (by kernel_rfl) (by kernel_rfl) (by kernel_rfl) ((hsub (.cons _ (.refl _)))) rfl (y_xor rfl rfl (show _ = ((v1 ^^^ (v1 / 2 ^ 7) : Nat) : Int) from bits_xor_u64_nat _ _ (by omega) (by omega))) rfl ?_
      refine H_y 8 rfl (by kernel_rfl) (by kernel_rfl) (by kernel_rfl) ((hsub (.cons _ (.refl _)))) rfl (y_nilCheck rfl) rfl ?_
      refine H_one 9 rfl (by kernel_rfl) rfl (op_store1 0 0 rfl rfl rfl sz_169 rfl (Nat.le_of_ble_eq_true rfl) ?_)
      refine ⟨(hsub (.cons _ (.refl _))), ?_⟩
      refine H_done (by kernel_rfl) ?_
      obtain ⟨v2, hv2⟩ : ∃ z, z = v1 ^^^ (v1 / 2 ^ 7) := ⟨_, rfl⟩
      have hlv2 : v2 < 18446744073709551616 := by rw [hv2]; exact xor_u64 (by omega) (by omega)
      rw [← hv2]
      refine C_seq ?_
      refine C_regionH H (by kernel_rfl) ?_
      refine H_y 0 rfl (by kernel_rfl) (by kernel_rfl) (by kernel_rfl) ((hsub (.cons _ (.refl _)))) rfl (y_move rfl) rfl ?_
      refine H_y 1 rfl (by kernel_rfl) (by kernel_rfl) (by kernel_rfl) ((hsub (.cons _ (.refl _)))) rfl (y_nilCheck rfl) rfl ?_
      refine H_y 3 rfl (by kernel_rfl) (by kernel_rfl) (by kernel_rfl) ((hsub (.cons _ (.refl _)))) rfl (y_move rfl) rfl ?_
      refine H_y 4 rfl (by kernel_rfl) (by kernel_rfl) (by kernel_rfl) ((hsub (.cons _ (.refl _)))) rfl (y_nilCheck rfl) rfl ?_
      refine H_two 2 5 rfl rfl (by kernel_rfl) rfl rfl ?_ ?_
      · refine op_y (y_load rfl ag_169 (sees 0 0 rfl) rfl) rfl ?_
        refine ⟨(hsub (.cons _ (.refl _))), ?_⟩
        refine H_one 5 rfl (by kernel_rfl) rfl (op_y (y_load rfl ag_169 (sees 0 0 rfl) rfl) rfl ?_)
        refine ⟨(hsub (.cons _ (.refl _))), ?_⟩
        refine H_y 6 rfl (by kernel_rfl) (by kernel_rfl) (by kernel_rfl) ((hsub (.cons _ (.refl _)))) rfl (y_shl rfl rfl (by omega) (show _ = ((v2 * 2 ^ 17 % 18446744073709551616 : Nat) : Int) from shl_u64)) rfl ?_
        refine H_y 7 rfl (by kernel_rfl) (by kernel_rfl) (by kernel_rfl) ((hsub (.cons _ (.refl _)))) rfl (y_xor rfl rfl (show _ = ((v2 ^^^ (v2 * 2 ^ 17 % 18446744073709551616) : Nat) : Int) from bits_xor_u64_nat _ _ (by omega) (by omega))) rfl ?_
        refine H_y 8 rfl (by kernel_rfl) (by kernel_rfl) (by kernel_rfl) ((hsub (.cons _ (.refl _)))) rfl (y_nilCheck rfl) rfl ?_
        refine H_one 9 rfl (by kernel_rfl) rfl (op_store1 0 0 rfl rfl rfl sz_169 rfl (Nat.le_of_ble_eq_true rfl) ?_)
        refine ⟨(hsub (.cons _ (.refl _))), ?_⟩
        refine H_done (by kernel_rfl) ?_
        obtain ⟨v3, hv3⟩ : ∃ z, z = v2 ^^^ (v2 * 2 ^ 17 % 18446744073709551616) := ⟨_, rfl⟩
        have hlv3 : v3 < 18446744073709551616 := by rw [hv3]; exact xor_u64 (by omega) (by omega)
        rw [← hv3]
        refine C_seq ?_
        refine C_region ?_
        refine L_y rfl (y_move rfl) rfl ?_
        refine L_y rfl (y_nilCheck rfl) rfl ?_
        refine L_y rfl (y_load rfl ag_169 (sees 0 0 rfl) rfl) rfl ?_
        refine L_y rfl (y_assign rfl) rfl ?_
        refine L_nil ?_
        refine C_ret ?_
        refine B_ret (rv_tmp rfl rv_nil) ((hsub (.cons_cons _ (.refl _))).trans (hsub_pick [0] rfl)) ?_
        exact ⟨v3, hlv3, rfl, rfl⟩
      · refine op_y (y_load rfl ag_169 (sees 0 0 rfl) rfl) rfl ?_
        refine ⟨(hsub (.cons _ (.refl _))), ?_⟩
        refine H_y 6 rfl (by kernel_rfl) (by kernel_rfl) (by kernel_rfl) ((hsub (.cons _ (.refl _)))) rfl (y_shl rfl rfl (by omega) (show _ = ((v2 * 2 ^ 17 % 18446744073709551616 : Nat) : Int) from shl_u64)) rfl ?_
        refine H_one 2 rfl (by kernel_rfl) rfl (op_y (y_load rfl ag_169 (sees 0 0 rfl) rfl) rfl ?_)
        refine ⟨(hsub (.cons _ (.refl _))), ?_⟩
        refine H_y 7 rfl (by kernel_rfl) (by kernel_rfl) (by kernel_rfl) ((hsub (.cons _ (.refl _)))) rfl (y_xor rfl rfl (show _ = ((v2 ^^^ (v2 * 2 ^ 17 % 18446744073709551616) : Nat) : Int) from bits_xor_u64_nat _ _ (by omega) (by omega))) rfl ?_
        refine H_y 8 rfl (by kernel_rfl) (by kernel_rfl) (by kernel_rfl) ((hsub (.cons _ (.refl _)))) rfl (y_nilCheck rfl) rfl ?_
        refine H_one 9 rfl (by kernel_rfl) rfl (op_store1 0 0 rfl rfl rfl sz_169 rfl (Nat.le_of_ble_eq_true rfl) ?_)
        refine ⟨(hsub (.cons _ (.refl _))), ?_⟩
        refine H_done (by kernel_rfl) ?_
        obtain ⟨v3, hv3⟩ : ∃ z, z = v2 ^^^ (v2 * 2 ^ 17 % 18446744073709551616) := ⟨_, rfl⟩
        have hlv3 : v3 < 18446744073709551616 := by rw [hv3]; exact xor_u64 (by omega) (by omega)
        rw [← hv3]
        refine C_seq ?_
        refine C_region ?_
        refine L_y rfl (y_move rfl) rfl ?_
        refine L_y rfl (y_nilCheck rfl) rfl ?_
        refine L_y rfl (y_load rfl ag_169 (sees 0 0 rfl) rfl) rfl ?_
        refine L_y rfl (y_assign rfl) rfl ?_
        refine L_nil ?_
        refine C_ret ?_
        refine B_ret (rv_tmp rfl rv_nil) ((hsub (.cons_cons _ (.refl _))).trans (hsub_pick [0] rfl)) ?_
        exact ⟨v3, hlv3, rfl, rfl⟩

set_option maxHeartbeats 2000000 in

theorem break_u {w0 : World} {H : Hp} {sb n cap : Nat} {sp : List Value} (d : Array Nat) (hd : d.size = n) (hn : n < 65536) (a b : Nat) (hab : 12 < b - a) (hb : b ≤ n) : FnS Try.prog w0 104 #[(.slice (some ⟨sb, 0, none⟩) n cap), .int .i64 ((a : Nat) : Int), .int .i64 ((b : Nat) : Int)] (useg 58 sb d sp :: H) (fun e H' => ∃ d', Go.Sort.PermIn a b d d' ∧ e = .returned (.tuple #[]) ∧ H' = useg 58 sb d' sp :: H) := by
  obtain ⟨hp1, hp2, hp3⟩ := pow_bits (x := b - a) (by omega) (by omega)
  have hbl := bits_le (show b - a < 65536 by omega)
  refine FnS_intro (n := 65) (rs := []) (vs := [(.slice (some ⟨sb, 0, none⟩) n cap), .int .i64 ((a : Nat) : Int), .int .i64 ((b : Nat) : Int)]) Try.func104 rfl Try.ntmps104 rfl rfl ?_
  refine C_seq ?_
  refine C_region ?_
  refine L_y rfl (y_move rfl) rfl ?_
  refine L_y rfl (y_move rfl) rfl ?_
  refine L_y rfl (y_sub rfl rfl (show _ = ((b - a : Nat) : Int) from by rw [wi64 (by omega) (by omega)]; omega)) rfl ?_
  refine L_y rfl (y_assign rfl) rfl ?_
  refine L_nil ?_
  refine C_seq ?_
  refine C_region ?_
  refine L_y rfl (y_move rfl) rfl ?_
  refine L_y rfl (y_geq rfl rfl) rfl ?_
  refine L_nil ?_
  refine C_cond rfl (fun hc0 => ?_) (fun hc0 => absurd hc0 (by simp <;> omega))
  refine C_seq ?_
  refine C_region ?_
  refine L_y rfl (y_move rfl) rfl ?_
  refine L_y rfl (y_conv rfl us_3 Try.underlying169 (show _ = ((b - a : Nat) : Int) from wu64 (by omega) (by omega))) rfl ?_
  refine L_op rfl (op_alloc zl_169 rfl (fun B1 => ?_))
  refine L_op rfl (op_store1 0 0 rfl rfl rfl sz_169 rfl (Nat.le_of_ble_eq_true rfl) ?_)
  refine L_nil ?_
  refine C_seq ?_
  refine C_region ?_
  refine L_y rfl (y_move rfl) rfl ?_
  refine L_op rfl (op_call rfl rfl (fun a w => Try.call114 a w) rfl ?_)
  refine (npow_u (b - a) (by omega)).mono ?_
  rintro _ _ ⟨rfl, e⟩
  obtain rfl := e.symm
  clear e
  refine ⟨_, rfl, ?_⟩
  refine L_y rfl (y_assign rfl) rfl ?_
  refine L_nil ?_
  refine C_seq ?_
  refine C_region ?_
  refine L_y rfl (y_move rfl) rfl ?_
  refine L_y rfl (y_move rfl) rfl ?_
  refine L_y rfl (y_quo rfl rfl (by omega) (show _ = (((b - a) / 4 : Nat) : Int) from by rw [Int.tdiv_eq_ediv_of_nonneg (by omega), wi64 (by omega) (by omega)]; omega)) rfl ?_
  refine L_y rfl (y_mul rfl rfl (show _ = (((b - a) / 4 * 2 : Nat) : Int) from by rw [wi64 (by omega) (by omega)]; omega)) rfl ?_
  refine L_y rfl (y_add rfl rfl (show _ = ((a + (b - a) / 4 * 2 : Nat) : Int) from by rw [wi64 (by omega) (by omega)]; omega)) rfl ?_
  refine L_y rfl (y_sub rfl rfl (show _ = ((a + (b - a) / 4 * 2 - 1 : Nat) : Int) from by rw [wi64 (by omega) (by omega)]; omega)) rfl ?_
  refine L_y rfl (y_assign rfl) rfl ?_
  refine L_nil ?_
  refine C_block ?_
  refine C_loop (ι := Array Nat × Nat × Nat) (fun y => [(0, (.slice (some ⟨sb, 0, none⟩) n cap)), (1, .int .i64 ((a : Nat) : Int)), (2, .int .i64 ((b : Nat) : Int)), (6, .int .i64 ((b - a : Nat) : Int)), (7, ptr B1), (8, .int .u64 ((2 ^ Go.Sort.bitsLen (b - a) : Nat) : Int)), (9, .int .i64 ((y.2.2 : Nat) : Int))]) (fun y => useg 58 sb y.1 sp :: [(B1, .cells [Value.int .u64 ((y.2.1 : Nat) : Int)].toArray 169)] :: H) (fun y => Go.Sort.PermIn a b d y.1 ∧ y.2.1 < 18446744073709551616 ∧ a ≤ y.2.2 ∧ y.2.2 ≤ a + (b - a) / 4 * 2 + 2) (fun y => a + (b - a) / 4 * 2 + 2 - y.2.2) (d, b - a, a + (b - a) / 4 * 2 - 1) ⟨Go.Sort.permIn_refl _ _ _, by simp only; omega, by simp only; omega, by simp only; omega⟩ ⟨rfl, rfl, rfl, rfl, rfl, rfl, rfl, trivial⟩ ((hsub (.cons_cons _ (.cons_cons _ (.refl _)))).trans (hsub_pick [1, 0] rfl)) (fun y hy => ?_)
  obtain ⟨e1, v, q⟩ := y
  obtain ⟨hpe, hv, hq1, hq2⟩ := hy
  try simp only at hpe hv hq1 hq2
  try dsimp only
  have hse : e1.size = n := by rw [hpe.1]; exact hd
  refine C_seq ?_
  refine C_seq ?_
  refine C_region ?_
  refine L_y rfl (y_move rfl) rfl ?_
  refine L_y rfl (y_move rfl) rfl ?_
  refine L_y rfl (y_move rfl) rfl ?_
  refine L_y rfl (y_quo rfl rfl (by omega) (show _ = (((b - a) / 4 : Nat) : Int) from by rw [Int.tdiv_eq_ediv_of_nonneg (by omega), wi64 (by omega) (by omega)]; omega)) rfl ?_
  refine L_y rfl (y_mul rfl rfl (show _ = (((b - a) / 4 * 2 : Nat) : Int) from by rw [wi64 (by omega) (by omega)]; omega)) rfl ?_
  refine L_y rfl (y_add rfl rfl (show _ = ((a + (b - a) / 4 * 2 : Nat) : Int) from by rw [wi64 (by omega) (by omega)]; omega)) rfl ?_
  refine L_y rfl (y_add rfl rfl (show _ = ((a + (b - a) / 4 * 2 + 1 : Nat) : Int) from by rw [wi64 (by omega) (by omega)]; omega)) rfl ?_
  refine L_y rfl (y_leq rfl rfl) rfl ?_
  refine L_nil ?_
  refine C_cond rfl (fun hc1 => ?_) (fun hc1 => ?_)
  · replace hc1 : q ≤ a + (b - a) / 4 * 2 + 1 := by have := of_decide_eq_true hc1; omega
    refine C_skip ?_
    refine C_seq ?_
    refine C_block ?_
    refine C_seq ?_
    refine C_region ?_
    refine L_op rfl (op_call rfl rfl (fun a w => Try.call115 a w) rfl ?_)
    refine (FnS.sub (hsub_pick [1] rfl) (xnext_u v hv)).mono ?_
    rintro _ _ ⟨v', hv', rfl, rfl⟩
    refine ⟨_, rfl, ?_⟩
    refine L_y rfl (y_move rfl) rfl ?_
    refine L_y rfl (y_sub rfl rfl (show _ = ((2 ^ Go.Sort.bitsLen (b - a) - 1 : Nat) : Int) from by rw [wu64 (by omega) (by omega)]; omega)) rfl ?_
    refine L_y rfl (y_and rfl rfl (show _ = ((v' &&& (2 ^ Go.Sort.bitsLen (b - a) - 1) : Nat) : Int) from bits_and_u64_nat _ _ (by omega) (by omega))) rfl ?_
    have hand : v' &&& (2 ^ Go.Sort.bitsLen (b - a) - 1) ≤ 2 ^ Go.Sort.bitsLen (b - a) - 1 := Nat.and_le_right
    obtain ⟨o0, ho0⟩ : ∃ z, z = v' &&& (2 ^ Go.Sort.bitsLen (b - a) - 1) := ⟨_, rfl⟩
    rw [← ho0] at hand ⊢
    refine L_y rfl (y_conv rfl us_152 Try.underlying3 (show _ = ((o0 : Nat) : Int) from by rw [wi64 (by omega) (by omega)])) rfl ?_
    refine L_y rfl (y_assign rfl) rfl ?_
    refine L_nil ?_
    refine C_cutG (ι := Nat) (fun w => w < b - a) (fun w => [(0, (.slice (some ⟨sb, 0, none⟩) n cap)), (1, .int .i64 ((a : Nat) : Int)), (2, .int .i64 ((b : Nat) : Int)), (6, .int .i64 ((b - a : Nat) : Int)), (7, ptr B1), (8, .int .u64 ((2 ^ Go.Sort.bitsLen (b - a) : Nat) : Int)), (9, .int .i64 ((q : Nat) : Int)), (10, .int .i64 ((w : Nat) : Int))]) (fun w => useg 58 sb e1 sp :: [(B1, .cells [Value.int .u64 ((v' : Nat) : Int)].toArray 169)] :: H) ?_ (fun w hw => ?_)
    · refine C_seq ?_
      refine C_region ?_
      refine L_y rfl (y_move rfl) rfl ?_
      refine L_y rfl (y_move rfl) rfl ?_
      refine L_y rfl (y_geq rfl rfl) rfl ?_
      refine L_nil ?_
      refine C_cond rfl (fun hc2 => ?_) (fun hc2 => ?_)
      · replace hc2 : b - a ≤ o0 := by have := of_decide_eq_true hc2; omega
        refine C_region ?_
        refine L_y rfl (y_move rfl) rfl ?_
        refine L_y rfl (y_move rfl) rfl ?_
        refine L_y rfl (y_sub rfl rfl (show _ = ((o0 - (b - a) : Nat) : Int) from by rw [wi64 (by omega) (by omega)]; omega)) rfl ?_
        refine L_y rfl (y_assign rfl) rfl ?_
        refine L_nil ?_
        exact ⟨_, (by omega), ⟨rfl, rfl, rfl, rfl, rfl, rfl, rfl, rfl, trivial⟩, ((hsub (.cons_cons _ (.cons_cons _ (.refl _)))).trans (hsub_pick [1, 0] rfl))⟩
      · replace hc2 : ¬ b - a ≤ o0 := by have := of_decide_eq_false hc2; omega
        refine C_skip ?_
        exact ⟨_, (by omega), ⟨rfl, rfl, rfl, rfl, rfl, rfl, rfl, rfl, trivial⟩, ((hsub (.cons_cons _ (.cons_cons _ (.refl _)))).trans (hsub_pick [1, 0] rfl))⟩
    · try dsimp only at hw ⊢
      refine C_regionH ([(B1, .cells [Value.int .u64 ((v' : Nat) : Int)].toArray 169)] :: H) (by kernel_rfl) ?_
      refine H_y 0 rfl (by kernel_rfl) (by kernel_rfl) (by kernel_rfl) ((hsub (.cons _ (.refl _)))) rfl (y_move rfl) rfl ?_
      refine H_y 1 rfl (by kernel_rfl) (by kernel_rfl) (by kernel_rfl) ((hsub (.cons _ (.refl _)))) rfl (y_move rfl) rfl ?_
      refine H_y 2 rfl (by kernel_rfl) (by kernel_rfl) (by kernel_rfl) ((hsub (.cons _ (.refl _)))) rfl (y_move rfl) rfl ?_
      refine H_y 3 rfl (by kernel_rfl) (by kernel_rfl) (by kernel_rfl) ((hsub (.cons _ (.refl _)))) rfl (y_move rfl) rfl ?_
      refine H_y 4 rfl (by kernel_rfl) (by kernel_rfl) (by kernel_rfl) ((hsub (.cons _ (.refl _)))) rfl (y_move rfl) rfl ?_
      refine H_y 5 rfl (by kernel_rfl) (by kernel_rfl) (by kernel_rfl) ((hsub (.cons _ (.refl _)))) rfl (y_add rfl rfl (show _ = ((a + w : Nat) : Int) from by rw [wi64 (by omega) (by omega)]; omega)) rfl ?_
      refine H_y 6 rfl (by kernel_rfl) (by kernel_rfl) (by kernel_rfl) ((hsub (.cons _ (.refl _)))) rfl (y_move rfl) rfl ?_
      refine H_y 7 rfl (by kernel_rfl) (by kernel_rfl) (by kernel_rfl) ((hsub (.cons _ (.refl _)))) rfl (y_move rfl) rfl ?_
      refine H_y 8 rfl (by kernel_rfl) (by kernel_rfl) (by kernel_rfl) ((hsub (.cons _ (.refl _)))) rfl (y_move rfl) rfl ?_
      refine H_y 9 rfl (by kernel_rfl) (by kernel_rfl) (by kernel_rfl) ((hsub (.cons _ (.refl _)))) rfl (y_add rfl rfl (show _ = ((a + w : Nat) : Int) from by rw [wi64 (by omega) (by omega)]; omega)) rfl ?_
      refine H_y 10 rfl (by kernel_rfl) (by kernel_rfl) (by kernel_rfl) ((hsub (.cons _ (.refl _)))) rfl (y_indexS rfl rfl Try.underlying63 sz_58 (by omega) (by omega) (ix0 ((a + w)))) rfl ?_
      refine H_y 12 rfl (by kernel_rfl) (by kernel_rfl) (by kernel_rfl) ((hsub (.cons _ (.refl _)))) rfl (y_move rfl) rfl ?_
      refine H_y 13 rfl (by kernel_rfl) (by kernel_rfl) (by kernel_rfl) ((hsub (.cons _ (.refl _)))) rfl (y_move rfl) rfl ?_
      refine H_y 14 rfl (by kernel_rfl) (by kernel_rfl) (by kernel_rfl) ((hsub (.cons _ (.refl _)))) rfl (y_indexS rfl rfl Try.underlying63 sz_58 (by omega) (by omega) (ix0 (q))) rfl ?_
      refine H_two 11 15 rfl rfl (by kernel_rfl) rfl rfl ?_ ?_
      · refine op_y (y_load rfl ag_58 (sees 0 0 rfl) (us_at (by omega))) rfl ?_
        refine ⟨(hsub (.cons _ (.refl _))), ?_⟩
        refine H_one 15 rfl (by kernel_rfl) rfl (op_y (y_load rfl ag_58 (sees 0 0 rfl) (us_at (by omega))) rfl ?_)
        refine ⟨(hsub (.cons _ (.refl _))), ?_⟩
        refine H_y 16 rfl (by kernel_rfl) (by kernel_rfl) (by kernel_rfl) ((hsub (.cons _ (.refl _)))) rfl (y_indexS rfl rfl Try.underlying63 sz_58 (by omega) (by omega) (ix0 (q))) rfl ?_
        refine H_one 17 rfl (by kernel_rfl) rfl (op_store1 0 0 rfl rfl rfl sz_58 rfl (us_lt (by omega)) ?_)
        refine ⟨(hsub (.cons _ (.refl _))), ?_⟩
        refine H_y 18 rfl (by kernel_rfl) (by kernel_rfl) (by kernel_rfl) ((hsub (.cons _ (.refl _)))) rfl (y_indexS rfl rfl Try.underlying63 sz_58 (by omega) (by omega) (ix0 ((a + w)))) rfl ?_
        refine H_one 19 rfl (by kernel_rfl) rfl (op_store1 0 0 rfl rfl rfl sz_58 rfl (by rw [List.length_set]; exact us_lt (by omega)) ?_)
        refine ⟨(hsub (.cons _ (.refl _))), ?_⟩
        refine H_done (by kernel_rfl) ?_
        rw [us_swp (by omega) (by omega)]
        refine C_region ?_
        refine L_y rfl (y_move rfl) rfl ?_
        refine L_y rfl (y_add rfl rfl (show _ = ((q + 1 : Nat) : Int) from by rw [wi64 (by omega) (by omega)]; omega)) rfl ?_
        refine L_y rfl (y_assign rfl) rfl ?_
        refine L_nil ?_
        exact ⟨(Go.Sort.swp e1 q (a + w), v', q + 1), ⟨Go.Sort.permIn_trans _ _ _ _ _ hpe (Go.Sort.swp_permIn _ _ _ _ _ (by omega) (by omega) (by omega) (by omega) (by omega)), hv', by simp only; omega, by simp only; omega⟩, by simp only; omega, ⟨rfl, rfl, rfl, rfl, rfl, rfl, rfl, trivial⟩, ((hsub (.cons_cons _ (.cons_cons _ (.refl _)))).trans (hsub_pick [0, 0] rfl))⟩
      · refine op_y (y_load rfl ag_58 (sees 0 0 rfl) (us_at (by omega))) rfl ?_
        refine ⟨(hsub (.cons _ (.refl _))), ?_⟩
        refine H_one 11 rfl (by kernel_rfl) rfl (op_y (y_load rfl ag_58 (sees 0 0 rfl) (us_at (by omega))) rfl ?_)
        refine ⟨(hsub (.cons _ (.refl _))), ?_⟩
        refine H_y 16 rfl (by kernel_rfl) (by kernel_rfl) (by kernel_rfl) ((hsub (.cons _ (.refl _)))) rfl (y_indexS rfl rfl Try.underlying63 sz_58 (by omega) (by omega) (ix0 (q))) rfl ?_
        refine H_one 17 rfl (by kernel_rfl) rfl (op_store1 0 0 rfl rfl rfl sz_58 rfl (us_lt (by omega)) ?_)
        refine ⟨(hsub (.cons _ (.refl _))), ?_⟩
        refine H_y 18 rfl (by kernel_rfl) (by kernel_rfl) (by kernel_rfl) ((hsub (.cons _ (.refl _)))) rfl (y_indexS rfl rfl Try.underlying63 sz_58 (by omega) (by omega) (ix0 ((a + w)))) rfl ?_
        refine H_one 19 rfl (by kernel_rfl) rfl (op_store1 0 0 rfl rfl rfl sz_58 rfl (by rw [List.length_set]; exact us_lt (by omega)) ?_)
        refine ⟨(hsub (.cons _ (.refl _))), ?_⟩
        refine H_done (by kernel_rfl) ?_
        rw [us_swp (by omega) (by omega)]
        refine C_region ?_
        refine L_y rfl (y_move rfl) rfl ?_
        refine L_y rfl (y_add rfl rfl (show _ = ((q + 1 : Nat) : Int) from by rw [wi64 (by omega) (by omega)]; omega)) rfl ?_
        refine L_y rfl (y_assign rfl) rfl ?_
        refine L_nil ?_
        exact ⟨(Go.Sort.swp e1 q (a + w), v', q + 1), ⟨Go.Sort.permIn_trans _ _ _ _ _ hpe (Go.Sort.swp_permIn _ _ _ _ _ (by omega) (by omega) (by omega) (by omega) (by omega)), hv', by simp only; omega, by simp only; omega⟩, by simp only; omega, ⟨rfl, rfl, rfl, rfl, rfl, rfl, rfl, trivial⟩, ((hsub (.cons_cons _ (.cons_cons _ (.refl _)))).trans (hsub_pick [0, 0] rfl))⟩
  · skip
    refine C_exit ?_
    refine B_end rv_nil ((hsub (.cons_cons _ (.cons _ (.refl _)))).trans (hsub_pick [0] rfl)) ?_
    exact ⟨e1, hpe, rfl, rfl⟩

end Go.Proofs.Ytaeooiogjhkjfaa

/- walks (own work; the walks' lines by a program of this repo). -/
set_option linter.unusedVariables false
set_option linter.unusedSimpArgs false
set_option maxRecDepth 20000
namespace Go.Proofs.Ytaeooiogjhkjfaa
open Go.Sl
attribute [local irreducible] BodyQ WpC WpL WpS WpH OpW FnS



set_option maxHeartbeats 4000000 in

theorem pdq_step {w0 : World} {H : Hp} {sb n cap : Nat} {sp : List Value} (hn : n < 65536) (m : Nat) (ih : ∀ (a b limit : Nat) (d : Array Nat), b - a < m → d.size = n → limit ≤ 64 → a ≤ b → b ≤ n → Go.Sort.Below ltN a b d → FnS Try.prog w0 95 #[(.slice (some ⟨sb, 0, none⟩) n cap), .int .i64 ((a : Nat) : Int), .int .i64 ((b : Nat) : Int), .int .i64 ((limit : Nat) : Int)] (useg 58 sb d sp :: H) (fun e H' => ∃ d', Srt a b d d' ∧ e = .returned (.tuple #[]) ∧ H' = useg 58 sb d' sp :: H)) (a b limit : Nat) (d : Array Nat) (hm : b - a ≤ m) (hd : d.size = n) (hlim : limit ≤ 64) (hab : a ≤ b) (hb : b ≤ n) (hB : Go.Sort.Below ltN a b d) : FnS Try.prog w0 95 #[(.slice (some ⟨sb, 0, none⟩) n cap), .int .i64 ((a : Nat) : Int), .int .i64 ((b : Nat) : Int), .int .i64 ((limit : Nat) : Int)] (useg 58 sb d sp :: H) (fun e H' => ∃ d', Srt a b d d' ∧ e = .returned (.tuple #[]) ∧ H' = useg 58 sb d' sp :: H) := by
  refine FnS_intro (n := 134) (rs := []) (vs := [(.slice (some ⟨sb, 0, none⟩) n cap), .int .i64 ((a : Nat) : Int), .int .i64 ((b : Nat) : Int), .int .i64 ((limit : Nat) : Int)]) Try.func95 rfl Try.ntmps95 rfl rfl ?_
  refine C_seq ?_
  refine C_region ?_
  refine L_y rfl (y_assign rfl) rfl ?_
  refine L_nil ?_
  refine C_seq ?_
  refine C_region ?_
  refine L_y rfl (y_assign rfl) rfl ?_
  refine L_nil ?_
  refine C_block ?_
  refine C_loop (ι := Array Nat × Nat × Nat × Nat × Bool × Bool) (fun x => [(0, (.slice (some ⟨sb, 0, none⟩) n cap)), (1, .int .i64 ((x.2.1 : Nat) : Int)), (2, .int .i64 ((x.2.2.1 : Nat) : Int)), (3, .int .i64 ((x.2.2.2.1 : Nat) : Int)), (8, .bool x.2.2.2.2.1), (9, .bool x.2.2.2.2.2)]) (fun x => useg 58 sb x.1 sp :: H) (fun x => x.1.size = n ∧ x.2.1 ≤ x.2.2.1 ∧ x.2.2.1 ≤ n ∧ x.2.2.2.1 ≤ 64 ∧ Go.Sort.Below ltN x.2.1 x.2.2.1 x.1 ∧ x.2.2.1 - x.2.1 ≤ m ∧ ∀ R, Go.Sort.PermIn x.2.1 x.2.2.1 x.1 R → Go.Sort.SortedIn ltN x.2.1 x.2.2.1 R → Srt a b d R) (fun x => x.2.2.1 - x.2.1) (d, a, b, limit, true, true) ⟨hd, hab, hb, hlim, hB, hm, fun R hR hs => ⟨hR, hs⟩⟩ ⟨rfl, rfl, rfl, rfl, rfl, rfl, trivial⟩ ((hsub (.cons_cons _ (.refl _))).trans (hsub_pick [0] rfl)) (fun x hx => ?_)
  obtain ⟨d1, a1, b1, l1, wb, wp⟩ := x
  obtain ⟨hs1, hab1, hb1, hl1, hB1, hm1, hk⟩ := hx
  try simp only at hs1 hab1 hb1 hl1 hB1 hm1 hk
  try dsimp only
  refine C_block ?_
  refine C_seq ?_
  refine C_region ?_
  refine L_y rfl (y_move rfl) rfl ?_
  refine L_y rfl (y_move rfl) rfl ?_
  refine L_y rfl (y_sub rfl rfl (show _ = ((b1 - a1 : Nat) : Int) from by rw [wi64 (by omega) (by omega)]; omega)) rfl ?_
  refine L_y rfl (y_assign rfl) rfl ?_
  refine L_nil ?_
  refine C_seq ?_
  refine C_seq ?_
  refine C_region ?_
  refine L_y rfl (y_move rfl) rfl ?_
  refine L_y rfl (y_leq rfl rfl) rfl ?_
  refine L_nil ?_
  refine C_cond rfl (fun hc0 => ?_) (fun hc0 => ?_)
  · replace hc0 : b1 - a1 ≤ 12 := by have := of_decide_eq_true hc0; omega
    have hfin := Go.Sort.insertionSort_holds swo_N d1 a1 b1 hab1 (by omega)
    refine C_seq ?_
    refine C_region ?_
    refine L_y rfl (y_move rfl) rfl ?_
    refine L_y rfl (y_move rfl) rfl ?_
    refine L_y rfl (y_move rfl) rfl ?_
    refine L_op rfl (op_call rfl rfl (fun a w => Try.call102 a w) rfl ?_)
    refine (insert_u d1 hs1 (by omega) a1 b1 hab1 hb1).mono ?_
    rintro _ _ ⟨rfl, rfl⟩
    refine ⟨_, rfl, ?_⟩
    refine L_nil ?_
    refine C_ret ?_
    refine B_ret rv_nil ((hsub (.cons_cons _ (.refl _))).trans (hsub_pick [0] rfl)) ?_
    exact ⟨_, hk _ hfin.1 hfin.2, rfl, rfl⟩
  · replace hc0 : 12 < b1 - a1 := by have := of_decide_eq_false hc0; omega
    refine C_skip ?_
    refine C_seq ?_
    refine C_seq ?_
    refine C_region ?_
    refine L_y rfl (y_move rfl) rfl ?_
    refine L_y rfl (y_eqi rfl rfl) rfl ?_
    refine L_nil ?_
    refine C_cond rfl (fun hc1 => ?_) (fun hc1 => ?_)
    · have hfin := Go.Sort.heapSort_holds swo_N d1 a1 b1 hab1 (by omega)
      refine C_seq ?_
      refine C_region ?_
      refine L_y rfl (y_move rfl) rfl ?_
      refine L_y rfl (y_move rfl) rfl ?_
      refine L_y rfl (y_move rfl) rfl ?_
      refine L_op rfl (op_call rfl rfl (fun a w => Try.call103 a w) rfl ?_)
      refine (heap_u d1 hs1 (by omega) a1 b1 (by omega) hb1).mono ?_
      rintro _ _ ⟨rfl, rfl⟩
      refine ⟨_, rfl, ?_⟩
      refine L_nil ?_
      refine C_ret ?_
      refine B_ret rv_nil ((hsub (.cons_cons _ (.refl _))).trans (hsub_pick [0] rfl)) ?_
      exact ⟨_, hk _ hfin.1 hfin.2, rfl, rfl⟩
    · replace hc1 : ¬ l1 = 0 := by have := of_decide_eq_false hc1; omega
      refine C_skip ?_
      refine C_cutG (ι := Array Nat × Nat) (fun y => Go.Sort.PermIn a1 b1 d1 y.1 ∧ y.2 ≤ 64) (fun y => [(0, (.slice (some ⟨sb, 0, none⟩) n cap)), (1, .int .i64 ((a1 : Nat) : Int)), (2, .int .i64 ((b1 : Nat) : Int)), (3, .int .i64 ((y.2 : Nat) : Int)), (8, .bool wb), (9, .bool wp), (10, .int .i64 ((b1 - a1 : Nat) : Int))]) (fun y => useg 58 sb y.1 sp :: H) ?_ (fun y hy => ?_)
      · refine C_seq ?_
        refine C_region ?_
        refine L_y rfl (y_move rfl) rfl ?_
        refine L_y rfl (y_not rfl) rfl ?_
        refine L_nil ?_
        refine C_cond rfl (fun hc2 => ?_) (fun hc2 => ?_)
        · skip
          refine C_seq ?_
          refine C_region ?_
          refine L_y rfl (y_move rfl) rfl ?_
          refine L_y rfl (y_move rfl) rfl ?_
          refine L_y rfl (y_move rfl) rfl ?_
          refine L_op rfl (op_call rfl rfl (fun a w => Try.call104 a w) rfl ?_)
          refine (break_u d1 hs1 hn a1 b1 hc0 hb1).mono ?_
          rintro _ _ ⟨e1, hpe, rfl, rfl⟩
          refine ⟨_, rfl, ?_⟩
          refine L_nil ?_
          refine C_region ?_
          refine L_y rfl (y_move rfl) rfl ?_
          refine L_y rfl (y_sub rfl rfl (show _ = ((l1 - 1 : Nat) : Int) from by rw [wi64 (by omega) (by omega)]; omega)) rfl ?_
          refine L_y rfl (y_assign rfl) rfl ?_
          refine L_nil ?_
          exact ⟨(e1, l1 - 1), ⟨hpe, by simp only; omega⟩, ⟨rfl, rfl, rfl, rfl, rfl, rfl, rfl, trivial⟩, ((hsub (.cons_cons _ (.refl _))).trans (hsub_pick [0] rfl))⟩
        · skip
          refine C_skip ?_
          exact ⟨(d1, l1), ⟨Go.Sort.permIn_refl _ _ _, hl1⟩, ⟨rfl, rfl, rfl, rfl, rfl, rfl, rfl, trivial⟩, ((hsub (.cons_cons _ (.refl _))).trans (hsub_pick [0] rfl))⟩
      · obtain ⟨d2, l2⟩ := y
        obtain ⟨hp2, hl2⟩ := hy
        try simp only at hp2 hl2
        try dsimp only
        have hs2 : d2.size = n := by rw [hp2.1]; exact hs1
        refine C_seq ?_
        refine C_region ?_
        refine L_y rfl (y_move rfl) rfl ?_
        refine L_y rfl (y_move rfl) rfl ?_
        refine L_y rfl (y_move rfl) rfl ?_
        refine L_op rfl (op_call rfl rfl (fun a w => Try.call105 a w) rfl ?_)
        refine (choose_u d2 hs2 (by omega) a1 b1 hc0 hb1).mono ?_
        rintro _ _ ⟨p, h, hpa, hpb, rfl, rfl⟩
        refine ⟨_, rfl, ?_⟩
        refine L_y rfl (y_move rfl) rfl ?_
        refine L_y rfl (y_extract rfl rfl) rfl ?_
        refine L_y rfl (y_extract rfl rfl) rfl ?_
        refine L_y rfl (y_assign rfl) rfl ?_
        refine L_y rfl (y_assign rfl) rfl ?_
        refine L_nil ?_
        refine C_cutG (ι := Array Nat × Nat × Int) (fun y => Go.Sort.PermIn a1 b1 d1 y.1 ∧ a1 ≤ y.2.1 ∧ y.2.1 < b1) (fun y => [(0, (.slice (some ⟨sb, 0, none⟩) n cap)), (1, .int .i64 ((a1 : Nat) : Int)), (2, .int .i64 ((b1 : Nat) : Int)), (3, .int .i64 ((l2 : Nat) : Int)), (8, .bool wb), (9, .bool wp), (10, .int .i64 ((b1 - a1 : Nat) : Int)), (11, .int .i64 ((y.2.1 : Nat) : Int)), (12, .int .i64 y.2.2)]) (fun y => useg 58 sb y.1 sp :: H) ?_ (fun y hy => ?_)
        · refine C_seq ?_
          refine C_region ?_
          refine L_y rfl (y_move rfl) rfl ?_
          refine L_y rfl (y_eqi rfl rfl) rfl ?_
          refine L_nil ?_
          refine C_cond rfl (fun hc3 => ?_) (fun hc3 => ?_)
          · skip
            refine C_seq ?_
            refine C_region ?_
            refine L_y rfl (y_move rfl) rfl ?_
            refine L_y rfl (y_move rfl) rfl ?_
            refine L_y rfl (y_move rfl) rfl ?_
            refine L_op rfl (op_call rfl rfl (fun a w => Try.call106 a w) rfl ?_)
            refine (reverse_u d2 hs2 (by omega) a1 b1 (by omega) hb1).mono ?_
            rintro _ _ ⟨rfl, rfl⟩
            refine ⟨_, rfl, ?_⟩
            refine L_nil ?_
            refine C_seq ?_
            refine C_region ?_
            refine L_y rfl (y_move rfl) rfl ?_
            refine L_y rfl (y_sub rfl rfl (show _ = ((b1 - 1 : Nat) : Int) from by rw [wi64 (by omega) (by omega)]; omega)) rfl ?_
            refine L_y rfl (y_move rfl) rfl ?_
            refine L_y rfl (y_move rfl) rfl ?_
            refine L_y rfl (y_sub rfl rfl (show _ = ((p - a1 : Nat) : Int) from by rw [wi64 (by omega) (by omega)]; omega)) rfl ?_
            refine L_y rfl (y_sub rfl rfl (show _ = (((b1 - 1) - (p - a1) : Nat) : Int) from by rw [wi64 (by omega) (by omega)]; omega)) rfl ?_
            refine L_y rfl (y_assign rfl) rfl ?_
            refine L_nil ?_
            refine C_region ?_
            refine L_y rfl (y_assign rfl) rfl ?_
            refine L_nil ?_
            exact ⟨(Go.Sort.reverseRange d2 a1 b1, (b1 - 1) - (p - a1), 1), ⟨Go.Sort.permIn_trans _ _ _ _ _ hp2 (Go.Sort.reverseRange_holds d2 a1 b1 hab1 (by omega)), by simp only; omega, by simp only; omega⟩, ⟨rfl, rfl, rfl, rfl, rfl, rfl, rfl, rfl, rfl, trivial⟩, ((hsub (.cons_cons _ (.refl _))).trans (hsub_pick [0] rfl))⟩
          · skip
            refine C_skip ?_
            exact ⟨(d2, p, h), ⟨hp2, hpa, hpb⟩, ⟨rfl, rfl, rfl, rfl, rfl, rfl, rfl, rfl, rfl, trivial⟩, ((hsub (.cons_cons _ (.refl _))).trans (hsub_pick [0] rfl))⟩
        · clear hpa hpb p h
          obtain ⟨d3, p, h⟩ := y
          obtain ⟨hp3, hpa, hpb⟩ := hy
          try simp only at hp3 hpa hpb
          try dsimp only
          have hs3 : d3.size = n := by rw [hp3.1]; exact hs1
          have hB3 : Go.Sort.Below ltN a1 b1 d3 := hB1.perm (by omega) hp3
          refine C_cutG (ι := Array Nat) (fun y => Go.Sort.PermIn a1 b1 d1 y) (fun y => [(0, (.slice (some ⟨sb, 0, none⟩) n cap)), (1, .int .i64 ((a1 : Nat) : Int)), (2, .int .i64 ((b1 : Nat) : Int)), (3, .int .i64 ((l2 : Nat) : Int)), (8, .bool wb), (9, .bool wp), (10, .int .i64 ((b1 - a1 : Nat) : Int)), (11, .int .i64 ((p : Nat) : Int)), (12, .int .i64 h)]) (fun y => useg 58 sb y sp :: H) ?_ (fun d4 hd4 => ?_)
          · refine C_seq ?_
            refine C_region ?_
            refine L_y rfl (y_move rfl) rfl ?_
            refine L_y rfl (y_move rfl) rfl ?_
            refine L_case 62 rfl (fun hg15_2 => ?_) (fun hg15_2 => ?_)
            · skip
              refine L_y rfl (y_move rfl) rfl ?_
              refine L_y rfl (y_pick_t rfl rfl) rfl ?_
              refine L_y rfl (y_move rfl) rfl ?_
              refine L_case 65 rfl (fun hg15_5 => ?_) (fun hg15_5 => ?_)
              · skip
                refine L_y rfl (y_move rfl) rfl ?_
                refine L_y rfl (y_eqi rfl rfl) rfl ?_
                refine L_y rfl (y_pick_t rfl rfl) rfl ?_
                refine L_nil ?_
                refine C_cond rfl (fun hc4 => ?_) (fun hc4 => ?_)
                · skip
                  refine C_seq ?_
                  refine C_region ?_
                  refine L_y rfl (y_move rfl) rfl ?_
                  refine L_y rfl (y_move rfl) rfl ?_
                  refine L_y rfl (y_move rfl) rfl ?_
                  refine L_op rfl (op_call rfl rfl (fun a w => Try.call107 a w) rfl ?_)
                  refine (partial_u d3 hs3 (by omega) a1 b1 (by omega) hb1).mono ?_
                  rintro _ _ ⟨rfl, rfl⟩
                  refine ⟨_, rfl, ?_⟩
                  refine L_nil ?_
                  refine C_cond rfl (fun hc5 => ?_) (fun hc5 => ?_)
                  · have hpi := Go.Sort.partialInsertionSort_holds swo_N d3 a1 b1 (by omega) (by omega) hB3
                    have hfin : Go.Sort.PermIn a1 b1 d1 (Go.Sort.partialInsertionSort ltN d3 a1 b1).1 ∧ Go.Sort.SortedIn ltN a1 b1 (Go.Sort.partialInsertionSort ltN d3 a1 b1).1 := ⟨Go.Sort.permIn_trans _ _ _ _ _ hp3 hpi.1, hpi.2 hc5⟩
                    refine C_ret ?_
                    refine B_ret rv_nil ((hsub (.cons_cons _ (.refl _))).trans (hsub_pick [0] rfl)) ?_
                    exact ⟨_, hk _ hfin.1 hfin.2, rfl, rfl⟩
                  · skip
                    refine C_skip ?_
                    exact ⟨(Go.Sort.partialInsertionSort ltN d3 a1 b1).1, (Go.Sort.permIn_trans _ _ _ _ _ hp3 (Go.Sort.partialInsertionSort_holds swo_N d3 a1 b1 (by omega) (by omega) hB3).1), ⟨rfl, rfl, rfl, rfl, rfl, rfl, rfl, rfl, rfl, trivial⟩, ((hsub (.cons_cons _ (.refl _))).trans (hsub_pick [0] rfl))⟩
                · skip
                  refine C_skip ?_
                  exact ⟨d3, hp3, ⟨rfl, rfl, rfl, rfl, rfl, rfl, rfl, rfl, rfl, trivial⟩, ((hsub (.cons_cons _ (.refl _))).trans (hsub_pick [0] rfl))⟩
              · skip
                refine L_skip rfl rfl ?_
                refine L_skip rfl rfl ?_
                refine L_y rfl (y_pick_f rfl rfl) rfl ?_
                refine L_nil ?_
                refine C_cond_f rfl ?_
                refine C_skip ?_
                exact ⟨d3, hp3, ⟨rfl, rfl, rfl, rfl, rfl, rfl, rfl, rfl, rfl, trivial⟩, ((hsub (.cons_cons _ (.refl _))).trans (hsub_pick [0] rfl))⟩
            · skip
              refine L_skip rfl rfl ?_
              refine L_y rfl (y_pick_f rfl rfl) rfl ?_
              refine L_y rfl (y_move rfl) rfl ?_
              refine L_skip rfl rfl ?_
              refine L_skip rfl rfl ?_
              refine L_y rfl (y_pick_f rfl rfl) rfl ?_
              refine L_nil ?_
              refine C_cond_f rfl ?_
              refine C_skip ?_
              exact ⟨d3, hp3, ⟨rfl, rfl, rfl, rfl, rfl, rfl, rfl, rfl, rfl, trivial⟩, ((hsub (.cons_cons _ (.refl _))).trans (hsub_pick [0] rfl))⟩
          · have hp4 : Go.Sort.PermIn a1 b1 d1 d4 := hd4
            have hs4 : d4.size = n := by rw [hp4.1]; exact hs1
            have hB4 : Go.Sort.Below ltN a1 b1 d4 := hB1.perm (by omega) hp4
            refine C_seq ?_
            refine C_seq ?_
            refine C_regionH0 (by kernel_rfl) ?_
            refine H_y 0 rfl (by kernel_rfl) (by kernel_rfl) (by kernel_rfl) (HSub.refl _) rfl (y_move rfl) rfl ?_
            refine H_y 1 rfl (by kernel_rfl) (by kernel_rfl) (by kernel_rfl) (HSub.refl _) rfl (y_gtr rfl rfl) rfl ?_
            refine H_y 2 rfl (by kernel_rfl) (by kernel_rfl) (by kernel_rfl) (HSub.refl _) rfl (y_move rfl) rfl ?_
            refine H_case 75 rfl (fun hg17_3 => ?_) (fun hg17_3 => ?_)
            · have h0 : 0 < a1 := by have := of_decide_eq_true hg17_3; omega
              refine H_y 3 rfl (by kernel_rfl) (by kernel_rfl) (by kernel_rfl) (HSub.refl _) rfl (y_move rfl) rfl ?_
              refine H_y 4 rfl (by kernel_rfl) (by kernel_rfl) (by kernel_rfl) (HSub.refl _) rfl (y_move rfl) rfl ?_
              refine H_y 5 rfl (by kernel_rfl) (by kernel_rfl) (by kernel_rfl) (HSub.refl _) rfl (y_sub rfl rfl (show _ = ((a1 - 1 : Nat) : Int) from by rw [wi64 (by omega) (by omega)]; omega)) rfl ?_
              refine H_y 6 rfl (by kernel_rfl) (by kernel_rfl) (by kernel_rfl) (HSub.refl _) rfl (y_indexS rfl rfl Try.underlying63 sz_58 (by omega) (by omega) (ix0 (a1 - 1))) rfl ?_
              refine H_y 7 rfl (by kernel_rfl) (by kernel_rfl) (by kernel_rfl) (HSub.refl _) rfl (y_load rfl ag_58 (sees 0 0 rfl) (us_at (by omega))) rfl ?_
              refine H_y 8 rfl (by kernel_rfl) (by kernel_rfl) (by kernel_rfl) (HSub.refl _) rfl (y_move rfl) rfl ?_
              refine H_y 9 rfl (by kernel_rfl) (by kernel_rfl) (by kernel_rfl) (HSub.refl _) rfl (y_move rfl) rfl ?_
              refine H_y 10 rfl (by kernel_rfl) (by kernel_rfl) (by kernel_rfl) (HSub.refl _) rfl (y_indexS rfl rfl Try.underlying63 sz_58 (by omega) (by omega) (ix0 (p))) rfl ?_
              refine H_y 11 rfl (by kernel_rfl) (by kernel_rfl) (by kernel_rfl) (HSub.refl _) rfl (y_load rfl ag_58 (sees 0 0 rfl) (us_at (by omega))) rfl ?_
              refine H_one 12 rfl (by kernel_rfl) rfl (op_call rfl rfl (fun a w => Try.call108 a w) rfl ?_)
              refine (less_u (d4[a1 - 1]!) (d4[p]!)).mono ?_
              rintro _ _ ⟨rfl, e⟩
              obtain rfl := e.symm
              clear e
              refine ⟨_, rfl, ?_⟩
              refine ⟨HSub.refl _, ?_⟩
              refine H_y 13 rfl (by kernel_rfl) (by kernel_rfl) (by kernel_rfl) (HSub.refl _) rfl (y_not rfl) rfl ?_
              refine H_y 14 rfl (by kernel_rfl) (by kernel_rfl) (by kernel_rfl) (HSub.refl _) rfl (y_pick_t rfl rfl) rfl ?_
              refine H_done (by kernel_rfl) ?_
              refine C_cond rfl (fun hc6 => ?_) (fun hc6 => ?_)
              · have hnl : ltN d4[a1 - 1]! d4[p]! = false := by simpa using hc6
                refine C_seq ?_
                refine C_region ?_
                refine L_y rfl (y_move rfl) rfl ?_
                refine L_y rfl (y_move rfl) rfl ?_
                refine L_y rfl (y_move rfl) rfl ?_
                refine L_y rfl (y_move rfl) rfl ?_
                refine L_op rfl (op_call rfl rfl (fun a w => Try.call109 a w) rfl ?_)
                refine (parteq_u d4 hs4 (by omega) a1 b1 p hpa hpb hb1).mono ?_
                rintro _ _ ⟨rfl, rfl⟩
                obtain ⟨⟨mid, d5⟩, hx⟩ : ∃ z, z = Go.Sort.partitionEqual ltN d4 a1 b1 p := ⟨_, rfl⟩
                rw [← hx]
                obtain ⟨q1, q2, q3, q4, q5⟩ := Go.Sort.round_eq swo_N (Go.Sort.partitionEqual_holds ltN) h0 hpa hpb (by omega) hB4 hnl hx.symm
                try dsimp only
                refine ⟨_, rfl, ?_⟩
                refine L_y rfl (y_assign rfl) rfl ?_
                refine L_nil ?_
                refine C_seq ?_
                refine C_region ?_
                refine L_y rfl (y_move rfl) rfl ?_
                refine L_y rfl (y_assign rfl) rfl ?_
                refine L_nil ?_
                refine C_exit ?_
                exact ⟨(d5, mid, b1, l2, wb, wp), ⟨by simp only; omega, q2, hb1, hl2, q4, by simp only; omega, fun R hR hs => hk R (Go.Sort.permIn_trans _ _ _ _ _ hp4 (q5 R hR hs).1) (q5 R hR hs).2⟩, by simp only; omega, ⟨rfl, rfl, rfl, rfl, rfl, rfl, trivial⟩, ((hsub (.cons_cons _ (.refl _))).trans (hsub_pick [0] rfl))⟩
              · skip
                refine C_skip ?_
                refine C_seq ?_
                refine C_region ?_
                refine L_y rfl (y_move rfl) rfl ?_
                refine L_y rfl (y_move rfl) rfl ?_
                refine L_y rfl (y_move rfl) rfl ?_
                refine L_y rfl (y_move rfl) rfl ?_
                refine L_op rfl (op_call rfl rfl (fun a w => Try.call110 a w) rfl ?_)
                refine (part_u d4 hs4 (by omega) a1 b1 p hpa hpb hb1).mono ?_
                rintro _ _ ⟨rfl, rfl⟩
                obtain ⟨⟨mid, ap, d5⟩, hx⟩ : ∃ z, z = Go.Sort.partition ltN d4 a1 b1 p := ⟨_, rfl⟩
                rw [← hx]
                obtain ⟨q1, q2, q3, q4, q5, q6, q7⟩ := Go.Sort.round_part swo_N (Go.Sort.partition_holds ltN) hpa hpb (by omega) hB4 hx.symm
                try dsimp only
                refine ⟨_, rfl, ?_⟩
                refine L_y rfl (y_move rfl) rfl ?_
                refine L_y rfl (y_extract rfl rfl) rfl ?_
                refine L_y rfl (y_extract rfl rfl) rfl ?_
                refine L_y rfl (y_assign rfl) rfl ?_
                refine L_y rfl (y_assign rfl) rfl ?_
                refine L_nil ?_
                refine C_seq ?_
                refine C_region ?_
                refine L_y rfl (y_move rfl) rfl ?_
                refine L_y rfl (y_assign rfl) rfl ?_
                refine L_nil ?_
                refine C_seq ?_
                refine C_region ?_
                refine L_y rfl (y_move rfl) rfl ?_
                refine L_y rfl (y_move rfl) rfl ?_
                refine L_y rfl (y_sub rfl rfl (show _ = ((mid - a1 : Nat) : Int) from by rw [wi64 (by omega) (by omega)]; omega)) rfl ?_
                refine L_y rfl (y_move rfl) rfl ?_
                refine L_y rfl (y_move rfl) rfl ?_
                refine L_y rfl (y_sub rfl rfl (show _ = ((b1 - mid : Nat) : Int) from by rw [wi64 (by omega) (by omega)]; omega)) rfl ?_
                refine L_y rfl (y_assign rfl) rfl ?_
                refine L_y rfl (y_assign rfl) rfl ?_
                refine L_nil ?_
                refine C_seq ?_
                refine C_region ?_
                refine L_y rfl (y_move rfl) rfl ?_
                refine L_y rfl (y_quo rfl rfl (by omega) (show _ = (((b1 - a1) / 8 : Nat) : Int) from by rw [Int.tdiv_eq_ediv_of_nonneg (by omega), wi64 (by omega) (by omega)]; omega)) rfl ?_
                refine L_y rfl (y_assign rfl) rfl ?_
                refine L_nil ?_
                refine C_seq ?_
                refine C_region ?_
                refine L_y rfl (y_move rfl) rfl ?_
                refine L_y rfl (y_move rfl) rfl ?_
                refine L_y rfl (y_lss rfl rfl) rfl ?_
                refine L_nil ?_
                refine C_cond rfl (fun hc7 => ?_) (fun hc7 => ?_)
                · skip
                  refine C_seq ?_
                  refine C_region ?_
                  refine L_y rfl (y_move rfl) rfl ?_
                  refine L_y rfl (y_move rfl) rfl ?_
                  refine L_y rfl (y_geq rfl rfl) rfl ?_
                  refine L_y rfl (y_assign rfl) rfl ?_
                  refine L_nil ?_
                  refine C_seq ?_
                  refine C_region ?_
                  refine L_y rfl (y_move rfl) rfl ?_
                  refine L_y rfl (y_move rfl) rfl ?_
                  refine L_y rfl (y_move rfl) rfl ?_
                  refine L_y rfl (y_move rfl) rfl ?_
                  refine L_op rfl (op_call rfl rfl (fun a w => Try.call95 a w) rfl ?_)
                  refine (ih a1 mid l2 d5 (by omega) (by omega) hl2 (by omega) (by omega) q4).mono ?_
                  rintro _ _ ⟨L, hL, rfl, rfl⟩
                  refine ⟨_, rfl, ?_⟩
                  refine L_nil ?_
                  refine C_region ?_
                  refine L_y rfl (y_move rfl) rfl ?_
                  refine L_y rfl (y_add rfl rfl (show _ = ((mid + 1 : Nat) : Int) from by rw [wi64 (by omega) (by omega)]; omega)) rfl ?_
                  refine L_y rfl (y_assign rfl) rfl ?_
                  refine L_nil ?_
                  exact ⟨(L, mid + 1, b1, l2, _, ap), ⟨by simp only; rw [hL.1.1]; omega, by simp only; omega, hb1, hl2, (q6 L hL.1 hL.2).1, by simp only; omega, fun R hR hs => hk R (Go.Sort.permIn_trans _ _ _ _ _ hp4 ((q6 L hL.1 hL.2).2 R hR hs).1) ((q6 L hL.1 hL.2).2 R hR hs).2⟩, by simp only; omega, ⟨rfl, rfl, rfl, rfl, rfl, rfl, trivial⟩, ((hsub (.cons_cons _ (.refl _))).trans (hsub_pick [0] rfl))⟩
                · skip
                  refine C_seq ?_
                  refine C_region ?_
                  refine L_y rfl (y_move rfl) rfl ?_
                  refine L_y rfl (y_move rfl) rfl ?_
                  refine L_y rfl (y_geq rfl rfl) rfl ?_
                  refine L_y rfl (y_assign rfl) rfl ?_
                  refine L_nil ?_
                  refine C_seq ?_
                  refine C_region ?_
                  refine L_y rfl (y_move rfl) rfl ?_
                  refine L_y rfl (y_move rfl) rfl ?_
                  refine L_y rfl (y_add rfl rfl (show _ = ((mid + 1 : Nat) : Int) from by rw [wi64 (by omega) (by omega)]; omega)) rfl ?_
                  refine L_y rfl (y_move rfl) rfl ?_
                  refine L_y rfl (y_move rfl) rfl ?_
                  refine L_op rfl (op_call rfl rfl (fun a w => Try.call95 a w) rfl ?_)
                  refine (ih (mid + 1) b1 l2 d5 (by omega) (by omega) hl2 (by omega) (by omega) q5).mono ?_
                  rintro _ _ ⟨L, hL, rfl, rfl⟩
                  refine ⟨_, rfl, ?_⟩
                  refine L_nil ?_
                  refine C_region ?_
                  refine L_y rfl (y_move rfl) rfl ?_
                  refine L_y rfl (y_assign rfl) rfl ?_
                  refine L_nil ?_
                  exact ⟨(L, a1, mid, l2, _, ap), ⟨by simp only; rw [hL.1.1]; omega, q1, by simp only; omega, hl2, (q7 L hL.1 hL.2).1, by simp only; omega, fun R hR hs => hk R (Go.Sort.permIn_trans _ _ _ _ _ hp4 ((q7 L hL.1 hL.2).2 R hR hs).1) ((q7 L hL.1 hL.2).2 R hR hs).2⟩, by simp only; omega, ⟨rfl, rfl, rfl, rfl, rfl, rfl, trivial⟩, ((hsub (.cons_cons _ (.refl _))).trans (hsub_pick [0] rfl))⟩
            · skip
              refine H_skip 3 rfl (by kernel_rfl) (by kernel_rfl) (by kernel_rfl) (HSub.refl _) rfl rfl ?_
              refine H_skip 4 rfl (by kernel_rfl) (by kernel_rfl) (by kernel_rfl) (HSub.refl _) rfl rfl ?_
              refine H_skip 5 rfl (by kernel_rfl) (by kernel_rfl) (by kernel_rfl) (HSub.refl _) rfl rfl ?_
              refine H_skip 6 rfl (by kernel_rfl) (by kernel_rfl) (by kernel_rfl) (HSub.refl _) rfl rfl ?_
              refine H_skip 7 rfl (by kernel_rfl) (by kernel_rfl) (by kernel_rfl) (HSub.refl _) rfl rfl ?_
              refine H_skip 8 rfl (by kernel_rfl) (by kernel_rfl) (by kernel_rfl) (HSub.refl _) rfl rfl ?_
              refine H_skip 9 rfl (by kernel_rfl) (by kernel_rfl) (by kernel_rfl) (HSub.refl _) rfl rfl ?_
              refine H_skip 10 rfl (by kernel_rfl) (by kernel_rfl) (by kernel_rfl) (HSub.refl _) rfl rfl ?_
              refine H_skip 11 rfl (by kernel_rfl) (by kernel_rfl) (by kernel_rfl) (HSub.refl _) rfl rfl ?_
              refine H_skip 12 rfl (by kernel_rfl) (by kernel_rfl) (by kernel_rfl) (HSub.refl _) rfl rfl ?_
              refine H_skip 13 rfl (by kernel_rfl) (by kernel_rfl) (by kernel_rfl) (HSub.refl _) rfl rfl ?_
              refine H_y 14 rfl (by kernel_rfl) (by kernel_rfl) (by kernel_rfl) (HSub.refl _) rfl (y_pick_f rfl rfl) rfl ?_
              refine H_done (by kernel_rfl) ?_
              refine C_cond_f rfl ?_
              refine C_skip ?_
              refine C_seq ?_
              refine C_region ?_
              refine L_y rfl (y_move rfl) rfl ?_
              refine L_y rfl (y_move rfl) rfl ?_
              refine L_y rfl (y_move rfl) rfl ?_
              refine L_y rfl (y_move rfl) rfl ?_
              refine L_op rfl (op_call rfl rfl (fun a w => Try.call110 a w) rfl ?_)
              refine (part_u d4 hs4 (by omega) a1 b1 p hpa hpb hb1).mono ?_
              rintro _ _ ⟨rfl, rfl⟩
              obtain ⟨⟨mid, ap, d5⟩, hx⟩ : ∃ z, z = Go.Sort.partition ltN d4 a1 b1 p := ⟨_, rfl⟩
              rw [← hx]
              obtain ⟨q1, q2, q3, q4, q5, q6, q7⟩ := Go.Sort.round_part swo_N (Go.Sort.partition_holds ltN) hpa hpb (by omega) hB4 hx.symm
              try dsimp only
              refine ⟨_, rfl, ?_⟩
              refine L_y rfl (y_move rfl) rfl ?_
              refine L_y rfl (y_extract rfl rfl) rfl ?_
              refine L_y rfl (y_extract rfl rfl) rfl ?_
              refine L_y rfl (y_assign rfl) rfl ?_
              refine L_y rfl (y_assign rfl) rfl ?_
              refine L_nil ?_
              refine C_seq ?_
              refine C_region ?_
              refine L_y rfl (y_move rfl) rfl ?_
              refine L_y rfl (y_assign rfl) rfl ?_
              refine L_nil ?_
              refine C_seq ?_
              refine C_region ?_
              refine L_y rfl (y_move rfl) rfl ?_
              refine L_y rfl (y_move rfl) rfl ?_
              refine L_y rfl (y_sub rfl rfl (show _ = ((mid - a1 : Nat) : Int) from by rw [wi64 (by omega) (by omega)]; omega)) rfl ?_
              refine L_y rfl (y_move rfl) rfl ?_
              refine L_y rfl (y_move rfl) rfl ?_
              refine L_y rfl (y_sub rfl rfl (show _ = ((b1 - mid : Nat) : Int) from by rw [wi64 (by omega) (by omega)]; omega)) rfl ?_
              refine L_y rfl (y_assign rfl) rfl ?_
              refine L_y rfl (y_assign rfl) rfl ?_
              refine L_nil ?_
              refine C_seq ?_
              refine C_region ?_
              refine L_y rfl (y_move rfl) rfl ?_
              refine L_y rfl (y_quo rfl rfl (by omega) (show _ = (((b1 - a1) / 8 : Nat) : Int) from by rw [Int.tdiv_eq_ediv_of_nonneg (by omega), wi64 (by omega) (by omega)]; omega)) rfl ?_
              refine L_y rfl (y_assign rfl) rfl ?_
              refine L_nil ?_
              refine C_seq ?_
              refine C_region ?_
              refine L_y rfl (y_move rfl) rfl ?_
              refine L_y rfl (y_move rfl) rfl ?_
              refine L_y rfl (y_lss rfl rfl) rfl ?_
              refine L_nil ?_
              refine C_cond rfl (fun hc7 => ?_) (fun hc7 => ?_)
              · skip
                refine C_seq ?_
                refine C_region ?_
                refine L_y rfl (y_move rfl) rfl ?_
                refine L_y rfl (y_move rfl) rfl ?_
                refine L_y rfl (y_geq rfl rfl) rfl ?_
                refine L_y rfl (y_assign rfl) rfl ?_
                refine L_nil ?_
                refine C_seq ?_
                refine C_region ?_
                refine L_y rfl (y_move rfl) rfl ?_
                refine L_y rfl (y_move rfl) rfl ?_
                refine L_y rfl (y_move rfl) rfl ?_
                refine L_y rfl (y_move rfl) rfl ?_
                refine L_op rfl (op_call rfl rfl (fun a w => Try.call95 a w) rfl ?_)
                refine (ih a1 mid l2 d5 (by omega) (by omega) hl2 (by omega) (by omega) q4).mono ?_
                rintro _ _ ⟨L, hL, rfl, rfl⟩
                refine ⟨_, rfl, ?_⟩
                refine L_nil ?_
                refine C_region ?_
                refine L_y rfl (y_move rfl) rfl ?_
                refine L_y rfl (y_add rfl rfl (show _ = ((mid + 1 : Nat) : Int) from by rw [wi64 (by omega) (by omega)]; omega)) rfl ?_
                refine L_y rfl (y_assign rfl) rfl ?_
                refine L_nil ?_
                exact ⟨(L, mid + 1, b1, l2, _, ap), ⟨by simp only; rw [hL.1.1]; omega, by simp only; omega, hb1, hl2, (q6 L hL.1 hL.2).1, by simp only; omega, fun R hR hs => hk R (Go.Sort.permIn_trans _ _ _ _ _ hp4 ((q6 L hL.1 hL.2).2 R hR hs).1) ((q6 L hL.1 hL.2).2 R hR hs).2⟩, by simp only; omega, ⟨rfl, rfl, rfl, rfl, rfl, rfl, trivial⟩, ((hsub (.cons_cons _ (.refl _))).trans (hsub_pick [0] rfl))⟩
              · skip
                refine C_seq ?_
                refine C_region ?_
                refine L_y rfl (y_move rfl) rfl ?_
                refine L_y rfl (y_move rfl) rfl ?_
                refine L_y rfl (y_geq rfl rfl) rfl ?_
                refine L_y rfl (y_assign rfl) rfl ?_
                refine L_nil ?_
                refine C_seq ?_
                refine C_region ?_
                refine L_y rfl (y_move rfl) rfl ?_
                refine L_y rfl (y_move rfl) rfl ?_
                refine L_y rfl (y_add rfl rfl (show _ = ((mid + 1 : Nat) : Int) from by rw [wi64 (by omega) (by omega)]; omega)) rfl ?_
                refine L_y rfl (y_move rfl) rfl ?_
                refine L_y rfl (y_move rfl) rfl ?_
                refine L_op rfl (op_call rfl rfl (fun a w => Try.call95 a w) rfl ?_)
                refine (ih (mid + 1) b1 l2 d5 (by omega) (by omega) hl2 (by omega) (by omega) q5).mono ?_
                rintro _ _ ⟨L, hL, rfl, rfl⟩
                refine ⟨_, rfl, ?_⟩
                refine L_nil ?_
                refine C_region ?_
                refine L_y rfl (y_move rfl) rfl ?_
                refine L_y rfl (y_assign rfl) rfl ?_
                refine L_nil ?_
                exact ⟨(L, a1, mid, l2, _, ap), ⟨by simp only; rw [hL.1.1]; omega, q1, by simp only; omega, hl2, (q7 L hL.1 hL.2).1, by simp only; omega, fun R hR hs => hk R (Go.Sort.permIn_trans _ _ _ _ _ hp4 ((q7 L hL.1 hL.2).2 R hR hs).1) ((q7 L hL.1 hL.2).2 R hR hs).2⟩, by simp only; omega, ⟨rfl, rfl, rfl, rfl, rfl, rfl, trivial⟩, ((hsub (.cons_cons _ (.refl _))).trans (hsub_pick [0] rfl))⟩

theorem pdq_u {w0 : World} {H : Hp} {sb n cap : Nat} {sp : List Value} (hn : n < 65536) : ∀ (m a b limit : Nat) (d : Array Nat), b - a ≤ m → d.size = n → limit ≤ 64 → a ≤ b → b ≤ n → Go.Sort.Below ltN a b d → FnS Try.prog w0 95 #[(.slice (some ⟨sb, 0, none⟩) n cap), .int .i64 ((a : Nat) : Int), .int .i64 ((b : Nat) : Int), .int .i64 ((limit : Nat) : Int)] (useg 58 sb d sp :: H) (fun e H' => ∃ d', Srt a b d d' ∧ e = .returned (.tuple #[]) ∧ H' = useg 58 sb d' sp :: H) := by
  intro m
  induction m with
  | zero => exact fun a b limit d hm hd hlim hab hb hB => pdq_step hn 0 (fun a b limit d h => absurd h (by omega)) a b limit d hm hd hlim hab hb hB
  | succ m ih => exact fun a b limit d hm hd hlim hab hb hB => pdq_step hn (m + 1) (fun a b limit d h => ih a b limit d (by omega)) a b limit d hm hd hlim hab hb hB

theorem sort_u {w0 : World} {H : Hp} {sb n cap : Nat} {sp : List Value} (d : Array Nat) (hd : d.size = n) (hn : n < 65536) : FnS Try.prog w0 76 #[(.slice (some ⟨sb, 0, none⟩) n cap)] (useg 58 sb d sp :: H) (fun e H' => ∃ d', Srt 0 n d d' ∧ e = .returned (.tuple #[]) ∧ H' = useg 58 sb d' sp :: H) := by
  refine FnS_intro (n := 11) (rs := []) (vs := [(.slice (some ⟨sb, 0, none⟩) n cap)]) Try.func76 rfl Try.ntmps76 rfl rfl ?_
  refine C_seq ?_
  refine C_region ?_
  refine L_y rfl (y_move rfl) rfl ?_
  refine L_y rfl (y_lenS rfl rfl Try.underlying63) rfl ?_
  refine L_y rfl (y_assign rfl) rfl ?_
  refine L_nil ?_
  refine C_region ?_
  refine L_y rfl (y_move rfl) rfl ?_
  refine L_y rfl (y_move rfl) rfl ?_
  refine L_y rfl (y_move rfl) rfl ?_
  refine L_y rfl (y_conv rfl us_3 Try.underlying152 (show _ = (n : Int) from wu64 (by omega) (by omega))) rfl ?_
  refine L_op rfl (op_call rfl rfl (fun a w => Try.call96 a w) rfl ?_)
  refine (len_u n hn).mono ?_
  rintro _ _ ⟨rfl, e⟩
  obtain rfl := e.symm
  clear e
  refine ⟨_, rfl, ?_⟩
  refine L_op rfl (op_call rfl rfl (fun a w => Try.call95 a w) rfl ?_)
  refine (pdq_u hn n 0 n (Go.Sort.bitsLen n) d (by omega) hd (by have := bits_le hn; omega) (Nat.zero_le _) (Nat.le_refl _) (.inl rfl)).mono ?_
  rintro _ _ ⟨d', hd', rfl, rfl⟩
  refine ⟨_, rfl, ?_⟩
  refine L_nil ?_
  refine B_end rv_nil ((hsub (.cons_cons _ (.refl _))).trans (hsub_pick [0] rfl)) ?_
  exact ⟨d', hd', rfl, rfl⟩

end Go.Proofs.Ytaeooiogjhkjfaa

/- walks (own work; the walks' lines by a program of this repo). -/
set_option linter.unusedVariables false
set_option linter.unusedSimpArgs false
set_option maxRecDepth 20000
namespace Go.Proofs.Ytaeooiogjhkjfaa
open Go.Sl
attribute [local irreducible] BodyQ WpC WpL WpS WpH OpW FnS



set_option maxHeartbeats 1000000 in

theorem xnums_s {w0 : World} {H : Hp} {o : Xo} {segs size : Int} {l : Xl} {A L : Gm} (h : Xm segs size l A L) (s : Int) (hl : l.length < 60000) : FnS Try.prog w0 31 #[ptr o.b, .int .i64 s] (o.seg 129 segs size A L :: H) (fun e H' => ∃ g, slOk 1 g (xnums segs size l s).length (us (xnums segs size l s)) ∧ e = .returned (slV g (xnums segs size l s).length) ∧ H' = slSeg 58 g (us (xnums segs size l s)) :: o.seg 129 segs size A L :: H) := by
  refine FnS_intro (n := 45) (rs := [.tmp 4]) (vs := [ptr o.b, .int .i64 s]) Try.func31 rfl Try.ntmps31 rfl rfl ?_
  refine C_seq ?_
  refine C_region ?_
  refine L_y rfl (y_assign rfl) rfl ?_
  refine L_nil ?_
  refine C_seq ?_
  refine C_seq ?_
  refine C_region ?_
  refine L_y rfl (y_move rfl) rfl ?_
  refine L_y rfl (y_move rfl) rfl ?_
  refine L_op rfl (op_call rfl rfl (fun a w => Try.call36 a w) rfl ?_)
  refine (xlive_s h s).mono ?_
  rintro _ _ ⟨rfl, rfl⟩
  refine ⟨_, rfl, ?_⟩
  refine L_y rfl (y_eqi rfl rfl) rfl ?_
  refine L_nil ?_
  refine C_cond rfl (fun hc0 => ?_) (fun hc0 => ?_)
  · replace hc0 := of_decide_eq_true hc0
    refine C_seq ?_
    refine C_region ?_
    refine L_y rfl (y_assign rfl) rfl ?_
    refine L_nil ?_
    refine C_ret ?_
    refine B_ret (rv_tmp rfl rv_nil) (hsub_flat (H' := [] :: o.seg 129 segs size A L :: H) rfl) ?_
    have hz : cnt18 segs size l s = 0 := by omega
    have hn0 : (xnums segs size l s) = [] := List.eq_nil_of_length_eq_zero (by rw [nums_len]; exact hz)
    rw [hn0]
    exact ⟨none, ⟨rfl, rfl⟩, rfl, rfl⟩
  · replace hc0 := of_decide_eq_false hc0
    refine C_skip ?_
    refine C_seq ?_
    refine C_region ?_
    refine L_y rfl (y_assign rfl) rfl ?_
    refine L_nil ?_
    refine C_seq ?_
    refine C_seq ?_
    refine C_region ?_
    refine L_y rfl (y_move rfl) rfl ?_
    refine L_y rfl (y_nilCheck rfl) rfl ?_
    refine L_y rfl (y_fieldAddr rfl fl_129_1) rfl ?_
    refine L_y rfl (y_load rfl ag_126 (sees 0 0 rfl) rfl) rfl ?_
    refine L_op rfl (op_rangeG rfl Try.underlying126 0 1 rfl rfl (fun B1 => ?_))
    refine L_nil ?_
    refine C_block ?_
    refine C_loop (ι := Xl × Array Nat × Option SlG) (fun i => [(0, ptr o.b), (1, .int .i64 s), (5, slV i.2.2 (xnums segs size i.1 s).length), (19, ptr B1)]) (fun i => [(B1, itO o.r1 A.ck i.2.1 A.ck)] :: slSeg 58 i.2.2 (us (xnums segs size i.1 s)) :: o.seg 129 segs size A L :: H) (fun i => (i.1.map xpair ++ (A.left i.2.1).map kv).Perm (l.map xpair) ∧ slOk 1 i.2.2 (xnums segs size i.1 s).length (us (xnums segs size i.1 s))) (fun i => (A.left i.2.1).length) ([], #[], none) ⟨left_start h.perm, rfl, rfl⟩ ⟨rfl, rfl, rfl, rfl, trivial⟩ (hsub_flat rfl) (fun i hi => ?_)
    obtain ⟨v, seen, g⟩ := i
    obtain ⟨hpm, hok⟩ := hi
    try simp only at hpm hok
    try dsimp only
    refine C_seq ?_
    refine C_region ?_
    refine L_op rfl (op_nextG 0 0 2 1 rfl rfl rfl (fun x hx => h.okA.lt x hx) (Nat.le_refl _) rfl (fun hnx => ?_) (fun en hen => ?_))
    · skip
      refine L_y rfl (y_extract rfl rfl) rfl ?_
      refine L_nil ?_
      refine C_seq ?_
      refine C_cond_f rfl ?_
      refine C_exit ?_
      refine C_seq ?_
      refine C_region ?_
      refine L_y rfl (y_move rfl) rfl ?_
      refine L_op rfl (op_call rfl rfl (fun a w => Try.call76 a w) rfl ?_)
      have hvp := left_end hpm hnx
      have hlen : (xnums segs size v s).length = (xnums segs size l s).length := (xnums_perm hvp s).length_eq
      have hcn := nums_len segs size l s
      cases g with
      | none => exact absurd hok.2 (by omega)
      | some g => ?_
      have hlx := cnt_le segs size l s
      refine (FnS.sub (hsub_pick [1] rfl) (sort_u (sb := g.b) (n := (xnums segs size v s).length) (cap := g.cap) (sp := g.sp) (xnums segs size v s).toArray (by simp) (by omega))).mono ?_
      rintro _ _ ⟨r9, hr9, rfl, rfl⟩
      refine ⟨_, rfl, ?_⟩
      refine L_nil ?_
      refine C_seq ?_
      refine C_region ?_
      refine L_y rfl (y_move rfl) rfl ?_
      refine L_y rfl (y_assign rfl) rfl ?_
      refine L_nil ?_
      refine C_ret ?_
      refine B_ret (rv_tmp rfl rv_nil) ((hsub (.cons_cons _ (.cons_cons _ (.cons _ (.refl _))))).trans (hsub_pick [0, 1] rfl)) ?_
      have hsz : ((xnums segs size v s).toArray).size = (xnums segs size v s).length := by simp
      have hr := sorted_list (d := (xnums segs size v s).toArray) (r := r9) (by rw [hsz]; exact hr9.1) (by rw [hsz]; exact hr9.2) (xnums_perm hvp s) (xnums_sorted h.s s)
      refine ⟨some g, ?_, ?_, ?_⟩
      · refine ⟨by rw [us_len, Nat.mul_one], ?_, ?_⟩
        · rw [us_len, ← hlen, ← us_len]; exact hok.2.1
        · rw [← hlen]; exact hok.2.2
      · rw [← hlen]; rfl
      · show useg 58 g.b _ g.sp :: _ = _
        unfold useg
        rw [hr]; rfl
    · obtain ⟨q, hq, eq1, eq2⟩ := left_in hpm hen
      obtain ⟨ek, ev_, eb⟩ := en
      simp only at eq1 eq2
      subst eq1 eq2
      obtain ⟨t, hb⟩ : ∃ t, ofS segs size q.2 = some t := by
        cases e : ofS segs size q.2 with
        | none => exact absurd e (h.valid q hq).2.2
        | some t => exact ⟨t, rfl⟩
      refine L_y rfl (y_extract rfl rfl) rfl ?_
      refine L_nil ?_
      refine C_seq ?_
      refine C_cond_t rfl ?_
      refine C_skip ?_
      refine C_block ?_
      refine C_seq ?_
      refine C_region ?_
      refine L_y rfl (y_entryG rfl (sees 0 0 rfl) (sees 2 1 rfl) h.okA (Gm.left_mem hen)) rfl ?_
      refine L_y rfl (y_extract rfl rfl) rfl ?_
      refine L_y rfl (y_extract rfl rfl) rfl ?_
      refine L_y rfl (y_assign rfl) rfl ?_
      refine L_y rfl (y_assign rfl) rfl ?_
      refine L_nil ?_
      refine C_seq ?_
      refine C_region ?_
      refine L_y rfl (y_move rfl) rfl ?_
      refine L_y rfl (y_nilCheck rfl) rfl ?_
      refine L_y rfl (y_fieldAddr rfl fl_129_0) rfl ?_
      refine L_y rfl (y_loadA rfl ag_51 sz_51 (sees 2 0 rfl) (Nat.le_of_ble_eq_true rfl) rfl) rfl ?_
      refine L_y rfl (y_move rfl) rfl ?_
      refine L_op rfl (op_call rfl rfl (fun a w => Try.call40 a w) rfl ?_)
      refine (of_s segs size q.2).mono ?_
      rw [hb]
      rintro _ _ ⟨rfl, rfl⟩
      refine ⟨_, rfl, ?_⟩
      refine L_y rfl (y_move rfl) rfl ?_
      refine L_y rfl (y_extract rfl rfl) rfl ?_
      refine L_y rfl (y_extract rfl rfl) rfl ?_
      refine L_y rfl (y_extract rfl rfl) rfl ?_
      refine L_y rfl (y_assign rfl) rfl ?_
      refine L_y rfl (y_assign rfl) rfl ?_
      refine L_y rfl (y_assign rfl) rfl ?_
      refine L_nil ?_
      refine C_seq ?_
      refine C_region ?_
      refine L_y rfl (y_move rfl) rfl ?_
      refine L_y rfl (y_move rfl) rfl ?_
      refine L_y rfl (y_eqi rfl rfl) rfl ?_
      refine L_nil ?_
      refine C_cond rfl (fun hc2 => ?_) (fun hc2 => ?_)
      · have hc1 : t = s := of_decide_eq_true hc2
        refine C_region ?_
        refine L_y rfl (y_move rfl) rfl ?_
        refine L_y rfl (y_move rfl) rfl ?_
        refine L_op rfl (op_buildSlice (vs := [(0, _)]) rfl Try.underlying63 sz_58 zl_58 rfl (by decide) rfl rfl (fun B2 => ?_))
        refine L_op rfl (op_append (gs := g) (len := (xnums segs size v s).length) (m := 1) (xs := us (xnums segs size v s)) (vs := us [q.1]) 2 rfl rfl rfl hok (src_slice (sees 0 0 rfl) (Nat.le_of_ble_eq_true rfl) rfl) rfl (fun v hv => by simp [us] at hv; subst hv; rfl) Try.underlying63 ni_63 sz_58 by_58 (by decide) zl_58 rfl (by rw [nums_len]; have := cnt_le segs size v s; have := left_len hpm; omega) rfl (fun g2 hg2 => ?_))
        rw [← us_append, show (xnums segs size v s) ++ [q.1] = xnums segs size (v ++ [q]) s from by rw [xnums_snoc, if_pos (by rw [hb, hc1])], show (xnums segs size v s).length + 1 = (xnums segs size (v ++ [q]) s).length from by rw [xnums_snoc, if_pos (by rw [hb, hc1]), List.length_append]; rfl] at hg2 ⊢
        refine L_y rfl (y_assign rfl) rfl ?_
        refine L_nil ?_
        refine ⟨(v ++ [q], _, g2), ⟨left_next h.okA hpm hen rfl rfl, hg2⟩, left_less h.okA hen, ⟨rfl, rfl, rfl, rfl, trivial⟩, ((hsub (.cons_cons _ (.cons_cons _ (.cons_cons _ (.cons _ (.refl _)))))).trans (hsub_pick [1, 1, 1] rfl))⟩
      · have hc1 : ¬ t = s := of_decide_eq_false hc2
        refine C_skip ?_
        have e9 : xnums segs size (v ++ [q]) s = xnums segs size v s := by rw [xnums_snoc, if_neg (by rw [hb]; intro e; exact hc1 (Option.some.inj e)), List.append_nil]
        refine ⟨(v ++ [q], _, g), ⟨left_next h.okA hpm hen rfl rfl, ?_⟩, left_less h.okA hen, ⟨rfl, rfl, ?_, rfl, trivial⟩, ?_⟩ <;> try simp only <;> try rw [e9]
        · exact hok
        · rfl
        · exact ((hsub (.cons_cons _ (.cons_cons _ (.cons_cons _ (.refl _))))).trans (hsub_pick [0, 0, 0] rfl))

end Go.Proofs.Ytaeooiogjhkjfaa

/- What the laws of layer 18 ask of the plain list (own work). -/
set_option linter.unusedVariables false
set_option linter.unusedSimpArgs false
namespace Go.Sl
theorem a8_hat {l : List Value} {off i : Nat} {al : List A18} {a : A18} (hv : (l.drop off).take (a8s al).length = a8s al) (hi : al[i]? = some a) : l[off + i * 3 + 1]? = some (.int .u64 (a.2.1.toNat : Int)) := by
  have h := a8_at hv hi
  have h1 : ((l.drop (off + i * 3)).take 3)[1]? = some (.int .u64 (a.2.1.toNat : Int)) := by rw [h]; rfl
  rw [List.getElem?_take_of_lt (by omega), List.getElem?_drop] at h1
  exact h1
/-- How many lie in the segments ahead of k. -/
def cntB (segs size : Int) (l : Xl) (k : Nat) : Nat := (l.filter fun x => match ofS segs size x.2 with | some s => decide (s < (k : Int)) | none => false).length
/-- A map that has, of the numbers, only those told. -/
structure Gh (p : Nat → Prop) (G : Gm) : Prop where
  ok : G.ok
  only : ∀ n : Nat, G.get (n : Int) ≠ none → p n
theorem Gh.new (p : Nat → Prop) : Gh p Gm.new := ⟨Gm.new_ok, fun n h => absurd rfl h⟩
theorem Gh.put {p q : Nat → Prop} {G : Gm} (h : Gh p G) (n : Nat) (v : Value) (hq : ∀ m, p m ∨ m = n → q m) : Gh q (G.put (n : Int) v) where
  ok := Gm.put_ok h.ok _ _
  only m hm := by
    rw [Gm.get_put] at hm
    by_cases e : (m : Int) = (n : Int)
    · exact hq m (.inr (by omega))
    · rw [if_neg e] at hm
      exact hq m (.inl (h.only m hm))
theorem Gh.mono {p q : Nat → Prop} {G : Gm} (h : Gh p G) (hq : ∀ m, p m → q m) : Gh q G := ⟨h.ok, fun n hn => hq n (h.only n hn)⟩
/-- The numbers that were seen when j of segment k's are done. -/
def seenP (segs size : Int) (l : Xl) (k j : Nat) (n : Nat) : Prop := ∃ s : Int, n ∈ xnums segs size l s ∧ (s < (k : Int) ∨ s = (k : Int) ∧ ∃ i, i < j ∧ (xnums segs size l (k : Int))[i]? = some n)
/-! ### In whatever order -/
theorem xs_head {x : Nat × Int} {l : Xl} (h : Xs (x :: l)) : ∀ y ∈ l, x.1 < y.1 := (List.pairwise_cons.1 h).1
theorem xs_ext : ∀ {l1 l2 : Xl}, Xs l1 → Xs l2 → (∀ x, x ∈ l1 ↔ x ∈ l2) → l1 = l2
  | [], [], _, _, _ => rfl
  | [], y :: l2, _, _, h => absurd ((h y).2 (List.mem_cons_self ..)) (by simp)
  | x :: l1, [], _, _, h => absurd ((h x).1 (List.mem_cons_self ..)) (by simp)
  | x :: l1, y :: l2, h1, h2, h => by
    have e : x = y := by
      rcases List.mem_cons.1 ((h x).1 (List.mem_cons_self ..)) with e | m1
      · exact e
      · rcases List.mem_cons.1 ((h y).2 (List.mem_cons_self ..)) with e | m2
        · exact e.symm
        · have a1 := xs_head h2 x m1
          have a2 := xs_head h1 y m2
          omega
    subst e
    rw [xs_ext (List.pairwise_cons.1 h1).2 (List.pairwise_cons.1 h2).2 fun z => ?_]
    constructor
    · intro hz
      rcases List.mem_cons.1 ((h z).1 (List.mem_cons_of_mem _ hz)) with rfl | m
      · have := xs_head h1 z hz; omega
      · exact m
    · intro hz
      rcases List.mem_cons.1 ((h z).2 (List.mem_cons_of_mem _ hz)) with rfl | m
      · have := xs_head h2 z hz; omega
      · exact m
theorem xput_s {segs size : Int} {l : Xl} (hs : Xs l) (n : Nat) (a : Int) : Xs (xput segs size l n a false).1 := by
  unfold xput
  split
  · exact hs
  · split
    · exact hs
    · cases hf : xfind l n with
      | some b => exact hs
      | none => exact xins_s hs hf
theorem laid_snoc (segs size : Int) (ll : Xl) (c : Nat × Int) : laidL segs size (ll ++ [c]) = (xput segs size (laidL segs size ll) c.1 c.2 false).1 := by
  unfold laidL
  rw [List.foldl_append]
  rfl
theorem laidL_spec (segs size : Int) : ∀ (m : Nat) (ll : Xl), ll.length = m → (∀ x ∈ ll, ∀ y ∈ ll, x.1 = y.1 → x = y) → Xs (laidL segs size ll) ∧ ∀ x, x ∈ laidL segs size ll ↔ x ∈ ll ∧ x.1 ≠ 0 ∧ ofS segs size x.2 ≠ none
  | 0, ll, h, _ => by
    obtain rfl := List.eq_nil_of_length_eq_zero h
    exact ⟨List.Pairwise.nil, fun x => by simp [laidL]⟩
  | m + 1, ll, h, hf => by
    have hne : ll ≠ [] := fun e => by rw [e] at h; simp at h
    obtain ⟨l0, c, rfl⟩ : ∃ l0 c, ll = l0 ++ [c] := ⟨ll.dropLast, ll.getLast hne, (List.dropLast_concat_getLast hne).symm⟩
    have hl0 : l0.length = m := by simpa using h
    obtain ⟨h1, h2⟩ := laidL_spec segs size m l0 hl0 fun x hx y hy => hf x (List.mem_append_left _ hx) y (List.mem_append_left _ hy)
    rw [laid_snoc]
    refine ⟨xput_s h1 _ _, fun x => ?_⟩
    unfold xput
    simp only [List.mem_append, List.mem_singleton]
    split
    · rename_i h0
      simp only [h2]
      constructor
      · exact fun ⟨a, b⟩ => ⟨.inl a, b⟩
      · rintro ⟨a | rfl, b⟩
        · exact ⟨a, b⟩
        · exact absurd h0 b.1
    · rename_i h0
      split
      · rename_i ho
        simp only [h2]
        constructor
        · exact fun ⟨a, b⟩ => ⟨.inl a, b⟩
        · rintro ⟨a | rfl, b⟩
          · exact ⟨a, b⟩
          · exact absurd ho b.2
      · rename_i ho
        cases hq : xfind (laidL segs size l0) c.1 with
        | some b =>
          simp only [Bool.false_eq_true, if_false, h2]
          constructor
          · exact fun ⟨a, b⟩ => ⟨.inl a, b⟩
          · rintro ⟨a | rfl, b'⟩
            · exact ⟨a, b'⟩
            · have hm := (xfind_mem h1).1 hq
              have hin := ((h2 _).1 hm).1
              have e := hf (x.1, b) (List.mem_append_left _ hin) x (List.mem_append_right _ (List.mem_singleton.2 rfl)) rfl
              rw [e] at hin
              exact ⟨hin, b'⟩
        | none =>
          simp only [Bool.false_eq_true, if_false]
          rw [xins_mem, h2]
          constructor
          · rintro (rfl | ⟨a, b⟩)
            · exact ⟨.inr rfl, h0, ho⟩
            · exact ⟨.inl a, b⟩
          · rintro ⟨a | rfl, b⟩
            · exact .inr ⟨a, b⟩
            · exact .inl rfl
theorem laid_same {segs size : Int} {l1 l2 : Xl} (hf : ∀ x ∈ l1, ∀ y ∈ l1, x.1 = y.1 → x = y) (hm : ∀ x, x ∈ l2 ↔ x ∈ l1) : laidL segs size l2 = laidL segs size l1 := by
  obtain ⟨a1, a2⟩ := laidL_spec segs size _ l1 rfl hf
  obtain ⟨b1, b2⟩ := laidL_spec segs size _ l2 rfl fun x hx y hy => hf x ((hm x).1 hx) y ((hm y).1 hy)
  refine xs_ext b1 a1 fun x => ?_
  rw [a2, b2, hm]
theorem laid_len (segs size : Int) : ∀ (m : Nat) (ll : Xl), ll.length = m → Xs (laidL segs size ll) ∧ (laidL segs size ll).length ≤ ll.length
  | 0, ll, h => by
    obtain rfl := List.eq_nil_of_length_eq_zero h
    exact ⟨List.Pairwise.nil, Nat.le_refl _⟩
  | m + 1, ll, h => by
    have hne : ll ≠ [] := fun e => by rw [e] at h; simp at h
    obtain ⟨l0, c, rfl⟩ : ∃ l0 c, ll = l0 ++ [c] := ⟨ll.dropLast, ll.getLast hne, (List.dropLast_concat_getLast hne).symm⟩
    obtain ⟨h1, h2⟩ := laid_len segs size m l0 (by simpa using h)
    rw [laid_snoc]
    refine ⟨xput_s h1 _ _, ?_⟩
    have := xput_len (segs := segs) (size := size) h1 c.1 c.2 false
    simp only [List.length_append, List.length_singleton]
    omega
/-! ### First occurrences -/
def fewL (ll : List A18) : List A18 := ll.foldl (fun acc c => if acc.any (fun d => d.2.1 == c.2.1) then acc else acc ++ [c]) []
theorem few_next {ll : List A18} {i : Nat} {c : A18} (h : ll[i]? = some c) : fewL (ll.take (i + 1)) = if (fewL (ll.take i)).any (fun d => d.2.1 == c.2.1) then fewL (ll.take i) else fewL (ll.take i) ++ [c] := by
  unfold fewL
  rw [List.take_add_one, h, Option.toList_some, List.foldl_append]
  rfl
def FnL (l : List A18) : Prop := ∀ x ∈ l, ∀ y ∈ l, x.2.1 = y.2.1 → x = y
theorem few_fn (ll : List A18) : FnL (fewL ll) := by
  have key : ∀ (ms acc : List A18), FnL acc → FnL (ms.foldl (fun acc c => if acc.any (fun d => d.2.1 == c.2.1) then acc else acc ++ [c]) acc) := by
    intro ms
    induction ms with
    | nil => exact fun acc h => h
    | cons m ms ih =>
      intro acc h
      rw [List.foldl_cons]
      refine ih _ ?_
      split
      · exact h
      · rename_i hn
        have hno : ∀ d ∈ acc, ¬ d.2.1 = m.2.1 := fun d hd e => hn (List.any_eq_true.2 ⟨d, hd, by simpa using e⟩)
        intro x hx y hy e
        rcases List.mem_append.1 hx with hx | hx <;> rcases List.mem_append.1 hy with hy | hy
        · exact h x hx y hy e
        · rw [List.mem_singleton.1 hy] at e; exact absurd e (hno x hx)
        · rw [List.mem_singleton.1 hx] at e; exact absurd e.symm (hno y hy)
        · rw [List.mem_singleton.1 hx, List.mem_singleton.1 hy]
  exact key ll [] fun x hx => by cases hx
theorem few_len : ∀ (m : Nat) (ll : List A18), ll.length = m → (fewL ll).length ≤ ll.length := by
  have key : ∀ (ms acc : List A18), (ms.foldl (fun acc c => if acc.any (fun d => d.2.1 == c.2.1) then acc else acc ++ [c]) acc).length ≤ acc.length + ms.length := by
    intro ms
    induction ms with
    | nil => intro acc; exact Nat.le_refl _
    | cons m ms ih =>
      intro acc
      rw [List.foldl_cons]
      refine Nat.le_trans (ih _) ?_
      split <;> simp <;> omega
  intro m ll _
  have := key ll []
  rw [List.length_nil, Nat.zero_add] at this
  exact this
abbrev prA (x : A18) : Nat × Int := (x.2.1.toNat, x.2.2)
theorem pr_fn {l : List A18} (h : FnL l) : ∀ x ∈ l.map prA, ∀ y ∈ l.map prA, x.1 = y.1 → x = y := by
  intro x hx y hy e
  obtain ⟨a, ha, rfl⟩ := List.mem_map.1 hx
  obtain ⟨b, hb, rfl⟩ := List.mem_map.1 hy
  rw [h a ha b hb (UInt64.toNat_inj.1 e)]
/-- The same ones, from another on. -/
def rotL (l : List A18) (k : Nat) : List A18 := (List.range l.length).filterMap fun i => l[(i + k) % l.length]?
theorem rotL_at {l : List A18} {k i : Nat} {c : A18} (hi : i < l.length) (h : l[(i + k) % l.length]? = some c) : (rotL l k)[i]? = some c := by
  have e : rotL l k = (List.range l.length).map fun i => l[(i + k) % l.length]'(Nat.mod_lt _ (by omega)) := by
    unfold rotL
    rw [← List.filterMap_eq_map]
    congr 1
    funext j
    exact List.getElem?_eq_getElem (Nat.mod_lt _ (by omega))
  rw [e, List.getElem?_map, List.getElem?_range hi]
  obtain ⟨h1, h2⟩ := List.getElem?_eq_some_iff.1 h
  simp [h2]
theorem rotL_mem (l : List A18) (k : Nat) (x : A18) : x ∈ rotL l k ↔ x ∈ l := by
  unfold rotL
  rw [List.mem_filterMap]
  constructor
  · rintro ⟨i, _, h⟩
    exact List.mem_of_getElem? h
  · intro hx
    obtain ⟨j, hj, e⟩ := List.getElem_of_mem hx
    have h0 : 0 < l.length := by omega
    refine ⟨(j + (l.length - k % l.length)) % l.length, List.mem_range.2 (Nat.mod_lt _ h0), ?_⟩
    have hk := Nat.mod_lt k h0
    have e2 : ((j + (l.length - k % l.length)) % l.length + k) % l.length = j := by
      rw [Nat.mod_add_mod, show j + (l.length - k % l.length) + k = j + l.length * (1 + k / l.length) by
        have := Nat.div_add_mod k l.length
        rw [Nat.mul_add, Nat.mul_one]
        omega, Nat.add_mul_mod_self_left]
      exact Nat.mod_eq_of_lt hj
    rw [e2, List.getElem?_eq_getElem hj, e]
theorem rotL_len {l : List A18} (k : Nat) : (rotL l k).length = l.length := by
  rcases Nat.eq_zero_or_pos l.length with h0 | h0
  · have : l = [] := List.eq_nil_of_length_eq_zero h0
    subst this; rfl
  · have e : rotL l k = (List.range l.length).map fun i => l[(i + k) % l.length]'(Nat.mod_lt _ h0) := by
      unfold rotL
      rw [← List.filterMap_eq_map]
      congr 1
      funext j
      exact List.getElem?_eq_getElem (Nat.mod_lt _ h0)
    rw [e]; simp
theorem rot_same {segs size : Int} {l : List A18} (h : FnL l) (k : Nat) : laidL segs size ((rotL l k).map prA) = laidL segs size (l.map prA) := by
  refine laid_same (pr_fn h) fun x => ?_
  simp only [List.mem_map, rotL_mem]
/-- A map of numbers to true. -/
structure Gt (p : Nat → Bool) (G : Gm) : Prop where
  ok : G.ok
  get : ∀ n : Nat, G.get (n : Int) = if p n then some (.bool true) else none
theorem Gt.new : Gt (fun _ => false) Gm.new := ⟨Gm.new_ok, fun n => rfl⟩
theorem Gt.put {p : Nat → Bool} {G : Gm} (h : Gt p G) (n : Nat) {q : Nat → Bool} (hq : ∀ m, q m = (p m || m == n)) : Gt q (G.put (n : Int) (.bool true)) where
  ok := Gm.put_ok h.ok _ _
  get m := by
    rw [Gm.get_put, hq]
    by_cases e : (m : Int) = (n : Int)
    · have : m = n := by omega
      rw [if_pos e]; simp [this]
    · have : ¬ m = n := by omega
      rw [if_neg e, h.get]; simp [this]
theorem Gt.look {p : Nat → Bool} {G : Gm} (h : Gt p G) (n : Nat) : (G.get (n : Int)).getD (.bool false) = .bool (p n) := by
  rw [h.get]
  cases p n <;> rfl
def fewP (l : List A18) (n : Nat) : Bool := l.any fun d => d.2.1.toNat == n
theorem fewP_any (l : List A18) (c : A18) : (l.any fun d => d.2.1 == c.2.1) = fewP l c.2.1.toNat := by
  have e : (fun d : A18 => d.2.1 == c.2.1) = fun d => d.2.1.toNat == c.2.1.toNat := by
    funext d
    rw [Bool.eq_iff_iff, beq_iff_eq, beq_iff_eq]
    exact UInt64.toNat_inj.symm
  unfold fewP
  rw [e]
theorem fewP_snoc (l : List A18) (c : A18) (m : Nat) : fewP (l ++ [c]) m = (fewP l m || m == c.2.1.toNat) := by
  unfold fewP
  rw [List.any_append]
  congr 1
  rw [List.any_cons, List.any_nil, Bool.or_false, Bool.eq_iff_iff, beq_iff_eq, beq_iff_eq]
  exact ⟨fun h => h.symm, fun h => h.symm⟩
theorem a8s_append (a b : List A18) : a8s (a ++ b) = a8s a ++ a8s b := by simp [a8s]
theorem a8s_one (l : List A18) : ∀ v ∈ a8s l, one v = true := by
  intro v hv
  unfold a8s at hv
  rw [List.mem_flatten] at hv
  obtain ⟨c, hc, hv⟩ := hv
  obtain ⟨x, _, rfl⟩ := List.mem_map.1 hc
  simp at hv
  rcases hv with rfl | rfl | rfl <;> rfl
theorem a8s_all {al : List A18} {sp : List Value} {i : Nat} {a : A18} (h : al[i]? = some a) : ((a8s al ++ sp).drop (i * 3)).take 3 = a8c a := by
  have hlt := (List.getElem?_eq_some_iff.1 h).1
  rw [List.drop_append_of_le_length (by rw [a8s_len]; omega), List.take_append_of_le_length (by rw [List.length_drop, a8s_len]; omega)]
  exact a8s_get h
theorem a8s_1 {al : List A18} {sp : List Value} {i : Nat} {a : A18} (h : al[i]? = some a) : (a8s al ++ sp)[i * 3 + 1]? = some (.int .u64 (a.2.1.toNat : Int)) := by
  have h0 := a8s_all (sp := sp) h
  have h1 : (((a8s al ++ sp).drop (i * 3)).take 3)[1]? = some (.int .u64 (a.2.1.toNat : Int)) := by rw [h0]; rfl
  rw [List.getElem?_take_of_lt (by omega), List.getElem?_drop] at h1
  exact h1
theorem a8s_2 {al : List A18} {sp : List Value} {i : Nat} {a : A18} (h : al[i]? = some a) : (a8s al ++ sp)[i * 3 + 2]? = some (.int .i64 a.2.2) := by
  have h0 := a8s_all (sp := sp) h
  have h1 : (((a8s al ++ sp).drop (i * 3)).take 3)[2]? = some (.int .i64 a.2.2) := by rw [h0]; rfl
  rw [List.getElem?_take_of_lt (by omega), List.getElem?_drop] at h1
  exact h1
theorem laid_map_next {segs size : Int} {l : List A18} {i : Nat} {c : A18} (h : l[i]? = some c) : laidL segs size ((l.take (i + 1)).map prA) = (xput segs size (laidL segs size ((l.take i).map prA)) c.2.1.toNat c.2.2 false).1 := by
  rw [List.take_add_one, h, Option.toList_some, List.map_append]
  exact laid_snoc segs size _ (prA c)
end Go.Sl

/- walks (own work; the walks' lines by a program of this repo). -/
set_option linter.unusedVariables false
set_option linter.unusedSimpArgs false
set_option maxRecDepth 20000
namespace Go.Proofs.Ytaeooiogjhkjfaa
open Go.Sl
attribute [local irreducible] BodyQ WpC WpL WpS WpH OpW FnS


end Go.Proofs.Ytaeooiogjhkjfaa

/- walks (own work; the walks' lines by a program of this repo). -/
set_option linter.unusedVariables false
set_option linter.unusedSimpArgs false
set_option maxRecDepth 20000
namespace Go.Proofs.Ytaeooiogjhkjfaa
open Go.Sl
attribute [local irreducible] BodyQ WpC WpL WpS WpH OpW FnS


end Go.Proofs.Ytaeooiogjhkjfaa

/- walks (own work; the walks' lines by a program of this repo). -/
set_option linter.unusedVariables false
set_option linter.unusedSimpArgs false
set_option maxRecDepth 20000
namespace Go.Proofs.Ytaeooiogjhkjfaa
open Go.Sl
attribute [local irreducible] BodyQ WpC WpL WpS WpH OpW FnS


set_option maxHeartbeats 1000000 in

theorem victim_y {w0 : World} {H : Hp} {o : Xo} {segs size : Int} {l : Xl} {A L : Gm} (h : Xm segs size l A L) {f : Nat} {cap : List Value} {C : Nat → List (Nat × Obj)} {p : Nat → Bool} (hcf : ∀ args w, (callFunc f args).run Try.prog w = .ok (.enter f args) w) (hcl : ∀ k : Nat, (k : Int) < segs → ∀ H1, HSub H H1 → FnS Try.prog w0 f ([Value.int .i64 (k : Int)] ++ cap).toArray (C k :: H1) (fun e H2 => e = .returned (.bool (p k)) ∧ H2 = C (k + 1) :: H1)) (hm : mayG segs size = true) : FnS Try.prog w0 34 #[ptr o.b, (.func (.func f) #[] cap.toArray)] (C 0 :: o.seg 129 segs size A L :: H) (fun e H' => e = .returned (.tuple #[.int .i64 (((vic p (fun j => cnt18 segs size l (j : Int)) segs.toNat).getD 0 : Nat) : Int), .bool (vic p (fun j => cnt18 segs size l (j : Int)) segs.toNat).isSome]) ∧ H' = C segs.toNat :: o.seg 129 segs size A L :: H) := by
  obtain ⟨g1, g2, g3, g4⟩ := mayG_spec hm
  refine FnS_intro (n := 57) (rs := [.tmp 4, .tmp 5]) (vs := [ptr o.b, (.func (.func f) #[] cap.toArray)]) Try.func34 rfl Try.ntmps34 rfl rfl ?_
  refine C_seq ?_
  refine C_region ?_
  refine L_y rfl (y_assign rfl) rfl ?_
  refine L_y rfl (y_assign rfl) rfl ?_
  refine L_nil ?_
  refine C_seq ?_
  refine C_seq ?_
  refine C_region ?_
  refine L_y rfl (y_move rfl) rfl ?_
  refine L_y rfl (y_eqp rfl rfl Try.underlying55) rfl ?_
  refine L_y rfl (y_move rfl) rfl ?_
  refine L_y rfl (y_move rfl) rfl ?_
  refine L_y rfl (y_eqfn rfl rfl Try.underlying72) rfl ?_
  refine L_y rfl (y_pick_f rfl rfl) rfl ?_
  refine L_y rfl (y_move rfl) rfl ?_
  refine L_y rfl (y_move rfl) rfl ?_
  refine L_y rfl (y_nilCheck rfl) rfl ?_
  refine L_y rfl (y_fieldAddr rfl fl_129_0) rfl ?_
  refine L_y rfl (y_loadA rfl ag_51 sz_51 (sees 1 0 rfl) (Nat.le_of_ble_eq_true rfl) rfl) rfl ?_
  refine L_op rfl (op_call rfl rfl (fun a w => Try.call27 a w) rfl ?_)
  refine (check_s segs size).mono ?_
  rintro _ _ ⟨rfl, e⟩
  obtain rfl := e.symm
  clear e
  rw [show chkE segs size = 0 from by unfold chkE; rw [hm]; rfl]
  refine ⟨_, rfl, ?_⟩
  refine L_y rfl (y_nei rfl rfl) rfl ?_
  refine L_y rfl (y_pick_f rfl rfl) rfl ?_
  refine L_nil ?_
  refine C_cond_f rfl ?_
  refine C_skip ?_
  refine C_seq ?_
  refine C_region ?_
  refine L_y rfl (y_assign rfl) rfl ?_
  refine L_y rfl (y_assign rfl) rfl ?_
  refine L_nil ?_
  refine C_seq ?_
  refine C_seq ?_
  refine C_region ?_
  refine L_y rfl (y_move rfl) rfl ?_
  refine L_y rfl (y_nilCheck rfl) rfl ?_
  refine L_y rfl (y_fieldAddr rfl fl_129_0) rfl ?_
  refine L_y rfl (y_fieldAddr rfl fl_51_0) rfl ?_
  refine L_y rfl (y_load rfl ag_3 (sees 1 0 rfl) rfl) rfl ?_
  refine L_y rfl (y_move rfl) rfl ?_
  refine L_nil ?_
  refine C_block ?_
  refine C_loop (ι := Nat) (fun k => [(0, ptr o.b), (1, (.func (.func f) #[] cap.toArray)), (6, .int .i64 ((((vic p (fun j => cnt18 segs size l (j : Int)) k).getD 0 : Nat)) : Int)), (7, .bool (vic p (fun j => cnt18 segs size l (j : Int)) k).isSome), (27, .int .i64 segs), (28, .int .i64 (k : Int))]) (fun k => C k :: o.seg 129 segs size A L :: H) (fun k => (k : Int) ≤ segs) (fun k => segs.toNat - k) 0 (by omega) ⟨rfl, rfl, rfl, rfl, rfl, rfl, trivial⟩ ((hsub (.cons_cons _ (.cons_cons _ (.refl _)))).trans (hsub_pick [0, 0] rfl)) (fun k hk => ?_)
  skip
  refine C_seq ?_
  refine C_region ?_
  refine L_y rfl (y_lss rfl rfl) rfl ?_
  refine L_nil ?_
  refine C_seq ?_
  refine C_cond rfl (fun hc1 => ?_) (fun hc1 => ?_)
  · replace hc1 : (k : Int) < segs := of_decide_eq_true hc1
    refine C_skip ?_
    refine C_seq ?_
    refine C_block ?_
    refine C_seq ?_
    refine C_region ?_
    refine L_y rfl (y_move rfl) rfl ?_
    refine L_y rfl (y_assign rfl) rfl ?_
    refine L_nil ?_
    refine C_seq ?_
    refine C_regionH (o.seg 129 segs size A L :: H) (by kernel_rfl) ?_
    refine H_y 0 rfl (by kernel_rfl) (by kernel_rfl) (by kernel_rfl) (((hsub (.cons_cons _ (.cons _ (.refl _)))).trans (hsub_pick [1] rfl))) rfl (y_move rfl) rfl ?_
    refine H_y 1 rfl (by kernel_rfl) (by kernel_rfl) (by kernel_rfl) (((hsub (.cons_cons _ (.cons _ (.refl _)))).trans (hsub_pick [1] rfl))) rfl (y_move rfl) rfl ?_
    refine H_one 2 rfl (by kernel_rfl) rfl (op_call (f := f) (first := []) (cap := cap) rfl rfl hcf rfl ?_)
    refine FnS.mono (hcl k (by omega) _ (HSub.drop _ _)) ?_
    rintro _ _ ⟨rfl, rfl⟩
    refine ⟨_, rfl, ?_⟩
    refine ⟨((hsub (.cons_cons _ (.cons _ (.refl _)))).trans (hsub_pick [1] rfl)), ?_⟩
    refine H_y 3 rfl (by kernel_rfl) (by kernel_rfl) (by kernel_rfl) (((hsub (.cons_cons _ (.cons _ (.refl _)))).trans (hsub_pick [1] rfl))) rfl (y_move rfl) rfl ?_
    refine H_case 34 rfl (fun hg7_4 => ?_) (fun hg7_4 => ?_)
    · have hpk : p k = true := hg7_4
      refine H_y 4 rfl (by kernel_rfl) (by kernel_rfl) (by kernel_rfl) (((hsub (.cons_cons _ (.cons _ (.refl _)))).trans (hsub_pick [1] rfl))) rfl (y_move rfl) rfl ?_
      refine H_y 5 rfl (by kernel_rfl) (by kernel_rfl) (by kernel_rfl) (((hsub (.cons_cons _ (.cons _ (.refl _)))).trans (hsub_pick [1] rfl))) rfl (y_not rfl) rfl ?_
      refine H_y 6 rfl (by kernel_rfl) (by kernel_rfl) (by kernel_rfl) (((hsub (.cons_cons _ (.cons _ (.refl _)))).trans (hsub_pick [1] rfl))) rfl (y_move rfl) rfl ?_
      refine H_case 37 rfl (fun hg7_7 => ?_) (fun hg7_7 => ?_)
      · have hv : (vic p (fun j => cnt18 segs size l (j : Int)) k) = none := by simpa using hg7_7
        refine H_skip 7 rfl (by kernel_rfl) (by kernel_rfl) (by kernel_rfl) (((hsub (.cons_cons _ (.cons _ (.refl _)))).trans (hsub_pick [1] rfl))) rfl rfl ?_
        refine H_skip 8 rfl (by kernel_rfl) (by kernel_rfl) (by kernel_rfl) (((hsub (.cons_cons _ (.cons _ (.refl _)))).trans (hsub_pick [1] rfl))) rfl rfl ?_
        refine H_skip 9 rfl (by kernel_rfl) (by kernel_rfl) (by kernel_rfl) (((hsub (.cons_cons _ (.cons _ (.refl _)))).trans (hsub_pick [1] rfl))) rfl rfl ?_
        refine H_skip 10 rfl (by kernel_rfl) (by kernel_rfl) (by kernel_rfl) (((hsub (.cons_cons _ (.cons _ (.refl _)))).trans (hsub_pick [1] rfl))) rfl rfl ?_
        refine H_skip 11 rfl (by kernel_rfl) (by kernel_rfl) (by kernel_rfl) (((hsub (.cons_cons _ (.cons _ (.refl _)))).trans (hsub_pick [1] rfl))) rfl rfl ?_
        refine H_skip 12 rfl (by kernel_rfl) (by kernel_rfl) (by kernel_rfl) (((hsub (.cons_cons _ (.cons _ (.refl _)))).trans (hsub_pick [1] rfl))) rfl rfl ?_
        refine H_skip 13 rfl (by kernel_rfl) (by kernel_rfl) (by kernel_rfl) (((hsub (.cons_cons _ (.cons _ (.refl _)))).trans (hsub_pick [1] rfl))) rfl rfl ?_
        refine H_skip 14 rfl (by kernel_rfl) (by kernel_rfl) (by kernel_rfl) (((hsub (.cons_cons _ (.cons _ (.refl _)))).trans (hsub_pick [1] rfl))) rfl rfl ?_
        refine H_skip 15 rfl (by kernel_rfl) (by kernel_rfl) (by kernel_rfl) (((hsub (.cons_cons _ (.cons _ (.refl _)))).trans (hsub_pick [1] rfl))) rfl rfl ?_
        refine H_skip 16 rfl (by kernel_rfl) (by kernel_rfl) (by kernel_rfl) (((hsub (.cons_cons _ (.cons _ (.refl _)))).trans (hsub_pick [1] rfl))) rfl rfl ?_
        refine H_skip 17 rfl (by kernel_rfl) (by kernel_rfl) (by kernel_rfl) (((hsub (.cons_cons _ (.cons _ (.refl _)))).trans (hsub_pick [1] rfl))) rfl rfl ?_
        refine H_skip 18 rfl (by kernel_rfl) (by kernel_rfl) (by kernel_rfl) (((hsub (.cons_cons _ (.cons _ (.refl _)))).trans (hsub_pick [1] rfl))) rfl rfl ?_
        refine H_skip 19 rfl (by kernel_rfl) (by kernel_rfl) (by kernel_rfl) (((hsub (.cons_cons _ (.cons _ (.refl _)))).trans (hsub_pick [1] rfl))) rfl rfl ?_
        refine H_y 20 rfl (by kernel_rfl) (by kernel_rfl) (by kernel_rfl) (((hsub (.cons_cons _ (.cons _ (.refl _)))).trans (hsub_pick [1] rfl))) rfl (y_pick_t rfl rfl) rfl ?_
        refine H_y 21 rfl (by kernel_rfl) (by kernel_rfl) (by kernel_rfl) (((hsub (.cons_cons _ (.cons _ (.refl _)))).trans (hsub_pick [1] rfl))) rfl (y_pick_t rfl rfl) rfl ?_
        refine H_done (by kernel_rfl) ?_
        refine C_cond_t rfl ?_
        refine C_region ?_
        refine L_y rfl (y_move rfl) rfl ?_
        refine L_y rfl (y_assign rfl) rfl ?_
        refine L_y rfl (y_assign rfl) rfl ?_
        refine L_nil ?_
        refine C_region ?_
        refine L_y rfl (y_add rfl rfl (wi64 (by omega) (by omega))) rfl ?_
        refine L_y rfl (y_move rfl) rfl ?_
        refine L_nil ?_
        have hx : (vic p (fun j => cnt18 segs size l (j : Int)) (k + 1)) = some k := by first | exact vic_first hpk hv | exact vic_less hpk hv hless
        refine ⟨k + 1, by omega, by omega, ?_⟩
        try dsimp only
        rw [hx]
        exact ⟨⟨rfl, rfl, rfl, rfl, rfl, rfl, trivial⟩, ((hsub (.cons_cons _ (.cons_cons _ (.refl _)))).trans (hsub_pick [0, 0] rfl))⟩
      · obtain ⟨b, hv⟩ : ∃ b, (vic p (fun j => cnt18 segs size l (j : Int)) k) = some b := Option.isSome_iff_exists.1 (by simpa using hg7_7)
        refine H_y 7 rfl (by kernel_rfl) (by kernel_rfl) (by kernel_rfl) (((hsub (.cons_cons _ (.cons _ (.refl _)))).trans (hsub_pick [1] rfl))) rfl (y_move rfl) rfl ?_
        refine H_y 8 rfl (by kernel_rfl) (by kernel_rfl) (by kernel_rfl) (((hsub (.cons_cons _ (.cons _ (.refl _)))).trans (hsub_pick [1] rfl))) rfl (y_nilCheck rfl) rfl ?_
        refine H_y 9 rfl (by kernel_rfl) (by kernel_rfl) (by kernel_rfl) (((hsub (.cons_cons _ (.cons _ (.refl _)))).trans (hsub_pick [1] rfl))) rfl (y_fieldAddr rfl fl_129_2) rfl ?_
        refine H_y 10 rfl (by kernel_rfl) (by kernel_rfl) (by kernel_rfl) (((hsub (.cons_cons _ (.cons _ (.refl _)))).trans (hsub_pick [1] rfl))) rfl (y_load rfl ag_127 (sees 0 0 rfl) rfl) rfl ?_
        refine H_y 11 rfl (by kernel_rfl) (by kernel_rfl) (by kernel_rfl) (((hsub (.cons_cons _ (.cons _ (.refl _)))).trans (hsub_pick [1] rfl))) rfl (y_move rfl) rfl ?_
        refine H_y 12 rfl (by kernel_rfl) (by kernel_rfl) (by kernel_rfl) (((hsub (.cons_cons _ (.cons _ (.refl _)))).trans (hsub_pick [1] rfl))) rfl (y_lookupG rfl rfl Try.underlying127 Try.underlying3 zt_3 (sees 0 2 rfl)) rfl ?_
        refine H_y 13 rfl (by kernel_rfl) (by kernel_rfl) (by kernel_rfl) (((hsub (.cons_cons _ (.cons _ (.refl _)))).trans (hsub_pick [1] rfl))) rfl (y_move rfl) rfl ?_
        refine H_y 14 rfl (by kernel_rfl) (by kernel_rfl) (by kernel_rfl) (((hsub (.cons_cons _ (.cons _ (.refl _)))).trans (hsub_pick [1] rfl))) rfl (y_nilCheck rfl) rfl ?_
        refine H_y 15 rfl (by kernel_rfl) (by kernel_rfl) (by kernel_rfl) (((hsub (.cons_cons _ (.cons _ (.refl _)))).trans (hsub_pick [1] rfl))) rfl (y_fieldAddr rfl fl_129_2) rfl ?_
        refine H_y 16 rfl (by kernel_rfl) (by kernel_rfl) (by kernel_rfl) (((hsub (.cons_cons _ (.cons _ (.refl _)))).trans (hsub_pick [1] rfl))) rfl (y_load rfl ag_127 (sees 0 0 rfl) rfl) rfl ?_
        refine H_y 17 rfl (by kernel_rfl) (by kernel_rfl) (by kernel_rfl) (((hsub (.cons_cons _ (.cons _ (.refl _)))).trans (hsub_pick [1] rfl))) rfl (y_move rfl) rfl ?_
        refine H_y 18 rfl (by kernel_rfl) (by kernel_rfl) (by kernel_rfl) (((hsub (.cons_cons _ (.cons _ (.refl _)))).trans (hsub_pick [1] rfl))) rfl (y_lookupG rfl rfl Try.underlying127 Try.underlying3 zt_3 (sees 0 2 rfl)) rfl ?_
        rw [h.liv, h.liv]
        refine H_y 19 rfl (by kernel_rfl) (by kernel_rfl) (by kernel_rfl) (((hsub (.cons_cons _ (.cons _ (.refl _)))).trans (hsub_pick [1] rfl))) rfl (y_lss rfl rfl) rfl ?_
        refine H_y 20 rfl (by kernel_rfl) (by kernel_rfl) (by kernel_rfl) (((hsub (.cons_cons _ (.cons _ (.refl _)))).trans (hsub_pick [1] rfl))) rfl (y_pick_f rfl rfl) rfl ?_
        refine H_y 21 rfl (by kernel_rfl) (by kernel_rfl) (by kernel_rfl) (((hsub (.cons_cons _ (.cons _ (.refl _)))).trans (hsub_pick [1] rfl))) rfl (y_pick_t rfl rfl) rfl ?_
        refine H_done (by kernel_rfl) ?_
        refine C_cond rfl (fun hc2 => ?_) (fun hc2 => ?_)
        · have hless : cnt18 segs size l (k : Int) < cnt18 segs size l (b : Int) := by have h5 := of_decide_eq_true hc2; rw [hv] at h5; exact Int.ofNat_lt.1 h5
          refine C_region ?_
          refine L_y rfl (y_move rfl) rfl ?_
          refine L_y rfl (y_assign rfl) rfl ?_
          refine L_y rfl (y_assign rfl) rfl ?_
          refine L_nil ?_
          refine C_region ?_
          refine L_y rfl (y_add rfl rfl (wi64 (by omega) (by omega))) rfl ?_
          refine L_y rfl (y_move rfl) rfl ?_
          refine L_nil ?_
          have hx : (vic p (fun j => cnt18 segs size l (j : Int)) (k + 1)) = some k := by first | exact vic_first hpk hv | exact vic_less hpk hv hless
          refine ⟨k + 1, by omega, by omega, ?_⟩
          try dsimp only
          rw [hx]
          exact ⟨⟨rfl, rfl, rfl, rfl, rfl, rfl, trivial⟩, ((hsub (.cons_cons _ (.cons_cons _ (.refl _)))).trans (hsub_pick [0, 0] rfl))⟩
        · have hless : ¬ cnt18 segs size l (k : Int) < cnt18 segs size l (b : Int) := by have h5 := of_decide_eq_false hc2; rw [hv] at h5; exact fun h6 => h5 (Int.ofNat_lt.2 h6)
          refine C_skip ?_
          refine C_region ?_
          refine L_y rfl (y_add rfl rfl (wi64 (by omega) (by omega))) rfl ?_
          refine L_y rfl (y_move rfl) rfl ?_
          refine L_nil ?_
          have hx : (vic p (fun j => cnt18 segs size l (j : Int)) (k + 1)) = (vic p (fun j => cnt18 segs size l (j : Int)) k) := by first | exact vic_no hpk | exact vic_not hpk hv hless
          refine ⟨k + 1, by omega, by omega, ?_⟩
          try dsimp only
          rw [hx]
          exact ⟨⟨rfl, rfl, rfl, rfl, rfl, rfl, trivial⟩, ((hsub (.cons_cons _ (.cons_cons _ (.refl _)))).trans (hsub_pick [0, 0] rfl))⟩
    · have hpk : p k = false := hg7_4
      refine H_skip 4 rfl (by kernel_rfl) (by kernel_rfl) (by kernel_rfl) (((hsub (.cons_cons _ (.cons _ (.refl _)))).trans (hsub_pick [1] rfl))) rfl rfl ?_
      refine H_skip 5 rfl (by kernel_rfl) (by kernel_rfl) (by kernel_rfl) (((hsub (.cons_cons _ (.cons _ (.refl _)))).trans (hsub_pick [1] rfl))) rfl rfl ?_
      refine H_skip 6 rfl (by kernel_rfl) (by kernel_rfl) (by kernel_rfl) (((hsub (.cons_cons _ (.cons _ (.refl _)))).trans (hsub_pick [1] rfl))) rfl rfl ?_
      refine H_skip 7 rfl (by kernel_rfl) (by kernel_rfl) (by kernel_rfl) (((hsub (.cons_cons _ (.cons _ (.refl _)))).trans (hsub_pick [1] rfl))) rfl rfl ?_
      refine H_skip 8 rfl (by kernel_rfl) (by kernel_rfl) (by kernel_rfl) (((hsub (.cons_cons _ (.cons _ (.refl _)))).trans (hsub_pick [1] rfl))) rfl rfl ?_
      refine H_skip 9 rfl (by kernel_rfl) (by kernel_rfl) (by kernel_rfl) (((hsub (.cons_cons _ (.cons _ (.refl _)))).trans (hsub_pick [1] rfl))) rfl rfl ?_
      refine H_skip 10 rfl (by kernel_rfl) (by kernel_rfl) (by kernel_rfl) (((hsub (.cons_cons _ (.cons _ (.refl _)))).trans (hsub_pick [1] rfl))) rfl rfl ?_
      refine H_skip 11 rfl (by kernel_rfl) (by kernel_rfl) (by kernel_rfl) (((hsub (.cons_cons _ (.cons _ (.refl _)))).trans (hsub_pick [1] rfl))) rfl rfl ?_
      refine H_skip 12 rfl (by kernel_rfl) (by kernel_rfl) (by kernel_rfl) (((hsub (.cons_cons _ (.cons _ (.refl _)))).trans (hsub_pick [1] rfl))) rfl rfl ?_
      refine H_skip 13 rfl (by kernel_rfl) (by kernel_rfl) (by kernel_rfl) (((hsub (.cons_cons _ (.cons _ (.refl _)))).trans (hsub_pick [1] rfl))) rfl rfl ?_
      refine H_skip 14 rfl (by kernel_rfl) (by kernel_rfl) (by kernel_rfl) (((hsub (.cons_cons _ (.cons _ (.refl _)))).trans (hsub_pick [1] rfl))) rfl rfl ?_
      refine H_skip 15 rfl (by kernel_rfl) (by kernel_rfl) (by kernel_rfl) (((hsub (.cons_cons _ (.cons _ (.refl _)))).trans (hsub_pick [1] rfl))) rfl rfl ?_
      refine H_skip 16 rfl (by kernel_rfl) (by kernel_rfl) (by kernel_rfl) (((hsub (.cons_cons _ (.cons _ (.refl _)))).trans (hsub_pick [1] rfl))) rfl rfl ?_
      refine H_skip 17 rfl (by kernel_rfl) (by kernel_rfl) (by kernel_rfl) (((hsub (.cons_cons _ (.cons _ (.refl _)))).trans (hsub_pick [1] rfl))) rfl rfl ?_
      refine H_skip 18 rfl (by kernel_rfl) (by kernel_rfl) (by kernel_rfl) (((hsub (.cons_cons _ (.cons _ (.refl _)))).trans (hsub_pick [1] rfl))) rfl rfl ?_
      refine H_skip 19 rfl (by kernel_rfl) (by kernel_rfl) (by kernel_rfl) (((hsub (.cons_cons _ (.cons _ (.refl _)))).trans (hsub_pick [1] rfl))) rfl rfl ?_
      refine H_skip 20 rfl (by kernel_rfl) (by kernel_rfl) (by kernel_rfl) (((hsub (.cons_cons _ (.cons _ (.refl _)))).trans (hsub_pick [1] rfl))) rfl rfl ?_
      refine H_y 21 rfl (by kernel_rfl) (by kernel_rfl) (by kernel_rfl) (((hsub (.cons_cons _ (.cons _ (.refl _)))).trans (hsub_pick [1] rfl))) rfl (y_pick_f rfl rfl) rfl ?_
      refine H_done (by kernel_rfl) ?_
      refine C_cond_f rfl ?_
      refine C_skip ?_
      refine C_region ?_
      refine L_y rfl (y_add rfl rfl (wi64 (by omega) (by omega))) rfl ?_
      refine L_y rfl (y_move rfl) rfl ?_
      refine L_nil ?_
      have hx : (vic p (fun j => cnt18 segs size l (j : Int)) (k + 1)) = (vic p (fun j => cnt18 segs size l (j : Int)) k) := by first | exact vic_no hpk | exact vic_not hpk hv hless
      refine ⟨k + 1, by omega, by omega, ?_⟩
      try dsimp only
      rw [hx]
      exact ⟨⟨rfl, rfl, rfl, rfl, rfl, rfl, trivial⟩, ((hsub (.cons_cons _ (.cons_cons _ (.refl _)))).trans (hsub_pick [0, 0] rfl))⟩
  · replace hc1 : ¬ (k : Int) < segs := of_decide_eq_false hc1
    refine C_exit ?_
    refine C_seq ?_
    have hk2 : k = segs.toNat := by omega
    subst hk2
    refine C_region ?_
    refine L_y rfl (y_move rfl) rfl ?_
    refine L_y rfl (y_move rfl) rfl ?_
    refine L_y rfl (y_assign rfl) rfl ?_
    refine L_y rfl (y_assign rfl) rfl ?_
    refine L_nil ?_
    refine C_ret ?_
    refine B_ret (rv_tmp rfl (rv_tmp rfl rv_nil)) ((hsub (.cons_cons _ (.cons_cons _ (.refl _)))).trans (hsub_pick [0, 0] rfl)) ?_
    exact ⟨rfl, rfl⟩

end Go.Proofs.Ytaeooiogjhkjfaa

/- walks (own work; the walks' lines by a program of this repo). -/
set_option linter.unusedVariables false
set_option linter.unusedSimpArgs false
set_option maxRecDepth 20000
namespace Go.Proofs.Ytaeooiogjhkjfaa
open Go.Sl
attribute [local irreducible] BodyQ WpC WpL WpS WpH OpW FnS



set_option maxHeartbeats 1000000 in

theorem awake18_s {w0 : World} {H : Hp}  : FnS Try.prog w0 26 #[] H (fun e H' => e = .returned (.bool true) ∧ H' = H) := by
  refine FnS_intro (n := 55) (rs := [.tmp 0]) (vs := []) Try.func26 rfl Try.ntmps26 rfl rfl ?_
  refine C_seq ?_
  refine C_region ?_
  refine L_y rfl (y_assign rfl) rfl ?_
  refine L_nil ?_
  refine C_seq ?_
  refine C_region ?_
  refine L_y rfl (y_build (vs := [(0, _), (1, _)]) rfl pl_51 zl_51 (fill_cons (off := 0) (m := 1) (vs := [_]) rfl rfl rfl (Nat.le_of_ble_eq_true rfl) (fill_cons (off := 1) (m := 1) (vs := [_]) rfl rfl rfl (Nat.le_of_ble_eq_true rfl) rfl))) rfl ?_
  refine L_op rfl (op_call rfl rfl (fun a w => Try.call28 a w) rfl ?_)
  refine (xnew_s 4 2).mono ?_
  rintro _ _ ⟨o1, rfl, rfl⟩
  have hX1 := Xm.new 4 2
  refine ⟨_, rfl, ?_⟩
  refine L_y rfl (y_assign rfl) rfl ?_
  refine L_nil ?_
  refine C_seq ?_
  refine C_region ?_
  refine L_y rfl (y_move rfl) rfl ?_
  refine L_op rfl (op_call rfl rfl (fun a w => Try.call29 a w) rfl ?_)
  refine (FnS.sub (hsub_pick [0] rfl) (xput_s hX1 7 (by decide) 4 (by decide))).mono ?_
  rw [show xput 4 2 [] 7 4 false = ([(7, 4)], 0) from by decide +kernel]
  rintro _ _ ⟨rfl, A2, L2, hX2, rfl⟩
  refine ⟨_, rfl, ?_⟩
  refine L_y rfl (y_move rfl) rfl ?_
  refine L_op rfl (op_call rfl rfl (fun a w => Try.call29 a w) rfl ?_)
  refine (FnS.sub (hsub_pick [0] rfl) (xput_s hX2 9 (by decide) 5 (by decide))).mono ?_
  rw [show xput 4 2 [(7, 4)] 9 5 false = ([(7, 4), (9, 5)], 0) from by decide +kernel]
  rintro _ _ ⟨rfl, A3, L3, hX3, rfl⟩
  refine ⟨_, rfl, ?_⟩
  refine L_y rfl (y_move rfl) rfl ?_
  refine L_op rfl (op_call rfl rfl (fun a w => Try.call29 a w) rfl ?_)
  refine (FnS.sub (hsub_pick [0] rfl) (xput_s hX3 3 (by decide) 6 (by decide))).mono ?_
  rw [show xput 4 2 [(7, 4), (9, 5)] 3 6 false = ([(3, 6), (7, 4), (9, 5)], 0) from by decide +kernel]
  rintro _ _ ⟨rfl, A4, L4, hX4, rfl⟩
  refine ⟨_, rfl, ?_⟩
  refine L_y rfl (y_assign rfl) rfl ?_
  refine L_y rfl (y_assign rfl) rfl ?_
  refine L_y rfl (y_assign rfl) rfl ?_
  refine L_nil ?_
  refine C_seq ?_
  refine C_region ?_
  refine L_y rfl (y_move rfl) rfl ?_
  refine L_op rfl (op_buildSlice (vs := [(0, _), (1, _), (2, _), (3, _)]) rfl Try.underlying66 sz_4 zl_4 rfl (by decide) (fill_cons (off := 0) (m := 1) (vs := [_]) rfl rfl rfl (Nat.le_of_ble_eq_true rfl) (fill_cons (off := 1) (m := 1) (vs := [_]) rfl rfl rfl (Nat.le_of_ble_eq_true rfl) (fill_cons (off := 2) (m := 1) (vs := [_]) rfl rfl rfl (Nat.le_of_ble_eq_true rfl) (fill_cons (off := 3) (m := 1) (vs := [_]) rfl rfl rfl (Nat.le_of_ble_eq_true rfl) rfl)))) rfl (fun B1 => ?_))
  refine L_op rfl (op_call rfl rfl (fun a w => Try.call74 a w) rfl ?_)
  refine used_s.mono ?_
  rintro _ _ ⟨ub, rfl, rfl⟩
  refine ⟨_, rfl, ?_⟩
  refine L_op rfl (op_call rfl rfl (fun a w => Try.call34 a w) rfl ?_)
  skip
  refine (FnS.sub (hsub_pick [0, 1] rfl) (victim_y hX4 (f := 94) (cap := [ptr ub]) (C := fun _ => [(ub, .cells [Value.slice (some ⟨B1, 0, none⟩) 4 4].toArray 66)]) (p := fun k => decide (0 ≤ (k : Int)) && ([false, true, true, false] : List Bool).getD (k : Int).toNat false) (fun a w => Try.call94 a w) (fun k hk H1 hs => used1_s (l := [false, true, true, false]) (sees 0 0 rfl) ((holds_slice (sees 0 0 rfl) (by decide) rfl).sub (hs.trans (HSub.drop _ _))) (by decide) k) (by decide))).mono ?_
  rw [show vic (fun k => decide (0 ≤ (k : Int)) && ([false, true, true, false] : List Bool).getD (k : Int).toNat false) (fun j => cnt18 4 2 [(3, 6), (7, 4), (9, 5)] (j : Int)) (4 : Int).toNat = some 2 from by decide +kernel]
  rintro _ _ ⟨rfl, rfl⟩
  refine ⟨_, rfl, ?_⟩
  refine L_y rfl (y_move rfl) rfl ?_
  refine L_y rfl (y_extract rfl rfl) rfl ?_
  refine L_y rfl (y_extract rfl rfl) rfl ?_
  refine L_y rfl (y_assign rfl) rfl ?_
  refine L_y rfl (y_assign rfl) rfl ?_
  refine L_nil ?_
  refine C_seq ?_
  refine C_region ?_
  refine L_y rfl (y_move rfl) rfl ?_
  refine L_y rfl (y_eqi rfl rfl) rfl ?_
  refine L_y rfl (y_move rfl) rfl ?_
  refine L_y rfl (y_move rfl) rfl ?_
  refine L_y rfl (y_eqi rfl rfl) rfl ?_
  refine L_y rfl (y_pick_t rfl rfl) rfl ?_
  refine L_y rfl (y_move rfl) rfl ?_
  refine L_y rfl (y_move rfl) rfl ?_
  refine L_y rfl (y_eqi rfl rfl) rfl ?_
  refine L_y rfl (y_pick_t rfl rfl) rfl ?_
  refine L_y rfl (y_move rfl) rfl ?_
  refine L_y rfl (y_move rfl) rfl ?_
  refine L_op rfl (op_call rfl rfl (fun a w => Try.call36 a w) rfl ?_)
  refine (FnS.sub (hsub_pick [1] rfl) (xlive_s hX4 1)).mono ?_
  rw [show cnt18 4 2 [(3, 6), (7, 4), (9, 5)] 1 = 2 from by decide +kernel]
  rintro _ _ ⟨rfl, rfl⟩
  refine ⟨_, rfl, ?_⟩
  refine L_y rfl (y_eqi rfl rfl) rfl ?_
  refine L_y rfl (y_pick_t rfl rfl) rfl ?_
  refine L_y rfl (y_move rfl) rfl ?_
  refine L_y rfl (y_move rfl) rfl ?_
  refine L_op rfl (op_call rfl rfl (fun a w => Try.call31 a w) rfl ?_)
  refine (FnS.sub (hsub_pick [0] rfl) (xnums_s hX4 1 (by decide))).mono ?_
  rw [show xnums 4 2 [(3, 6), (7, 4), (9, 5)] 1 = [7, 9] from by decide +kernel]
  rintro _ _ ⟨gn, hgn, rfl, rfl⟩
  refine ⟨_, rfl, ?_⟩
  cases gn with
  | none => exact slOk_none hgn (by decide)
  | some gn => ?_
  refine L_op rfl (op_buildSlice (vs := [(0, _), (1, _)]) rfl Try.underlying63 sz_58 zl_58 rfl (by decide) (fill_cons (off := 0) (m := 1) (vs := [_]) rfl rfl rfl (Nat.le_of_ble_eq_true rfl) (fill_cons (off := 1) (m := 1) (vs := [_]) rfl rfl rfl (Nat.le_of_ble_eq_true rfl) rfl)) rfl (fun B2 => ?_))
  refine L_op rfl (op_call rfl rfl (fun a w => Try.call30 a w) rfl ?_)
  refine (same18_s (la := [7, 9]) (lb := [7, 9]) (holds_slice (sees 1 0 rfl) (by simp [us]) (by simp [us])) (holds_slice (sees 0 0 rfl) (by decide) rfl) (by decide)).mono ?_
  rintro _ _ ⟨rfl, e⟩
  obtain rfl := e.symm
  clear e
  refine ⟨_, rfl, ?_⟩
  refine L_y rfl (y_pick_t rfl rfl) rfl ?_
  refine L_y rfl (y_move rfl) rfl ?_
  refine L_y rfl (y_move rfl) rfl ?_
  refine L_y rfl (y_eqi rfl rfl) rfl ?_
  refine L_y rfl (y_pick_t rfl rfl) rfl ?_
  refine L_y rfl (y_move rfl) rfl ?_
  refine L_y rfl (y_move rfl) rfl ?_
  refine L_y rfl (y_pick_t rfl rfl) rfl ?_
  refine L_y rfl (y_move rfl) rfl ?_
  refine L_y rfl (y_move rfl) rfl ?_
  refine L_op rfl (op_call rfl rfl (fun a w => Try.call29 a w) rfl ?_)
  refine (FnS.sub (hsub_pick [2] rfl) (xput_s hX4 7 (by decide) 2 (by decide))).mono ?_
  rw [show xput 4 2 [(3, 6), (7, 4), (9, 5)] 7 2 false = ([(3, 6), (7, 4), (9, 5)], 5) from by decide +kernel]
  rintro _ _ ⟨rfl, A5, L5, hX5, rfl⟩
  refine ⟨_, rfl, ?_⟩
  refine L_y rfl (y_eqi rfl rfl) rfl ?_
  refine L_y rfl (y_pick_t rfl rfl) rfl ?_
  refine L_y rfl (y_assign rfl) rfl ?_
  refine L_nil ?_
  refine C_ret ?_
  refine B_ret (rv_tmp rfl rv_nil) (hsub (.cons _ (.cons _ (.cons _ (.cons _ (.cons _ (.refl _))))))) ?_
  exact ⟨rfl, rfl⟩

end Go.Proofs.Ytaeooiogjhkjfaa

/- walks (own work; the walks' lines by a program of this repo). -/
set_option linter.unusedVariables false
set_option linter.unusedSimpArgs false
set_option maxRecDepth 20000
namespace Go.Proofs.Ytaeooiogjhkjfaa
open Go.Sl
attribute [local irreducible] BodyQ WpC WpL WpS WpH OpW FnS


theorem order_40 {w0 : World} {H : Hp} {pa : Option Addr} {ca : Nat} {ll : List A18} (hA : Holds w0 H pa (a8s ll)) (segs size : Int) (bb : Nat) (hbb : bb < 256) (hl : 40 < ll.length) : FnS Try.prog w0 4 #[shV segs size, .slice pa ll.length ca, .int .u8 (bb : Int)] H (fun e H' => e = .returned (.bool true)) := by
  refine FnS_intro (n := 113) (rs := [.tmp 6]) (vs := [shV segs size, .slice pa ll.length ca, .int .u8 (bb : Int)]) Try.func4 rfl Try.ntmps4 rfl rfl ?_
  refine C_seq ?_
  refine C_region ?_
  refine L_op rfl (op_box rfl rfl rfl (fun B1 => ?_))
  refine L_y rfl (y_assign rfl) rfl ?_
  refine L_nil ?_
  refine C_seq ?_
  refine C_seq ?_
  refine C_region ?_
  refine L_op rfl (op_call rfl rfl (fun a w => Try.call26 a w) rfl ?_)
  refine (awake18_s).mono ?_
  rintro _ _ ⟨rfl, e⟩
  obtain rfl := e.symm
  clear e
  refine ⟨_, rfl, ?_⟩
  refine L_y rfl (y_not rfl) rfl ?_
  refine L_y rfl (y_move rfl) rfl ?_
  refine L_y rfl (y_move rfl) rfl ?_
  refine L_y rfl (y_lenS rfl rfl Try.underlying52) rfl ?_
  refine L_y rfl (y_gtr rfl rfl) rfl ?_
  refine L_y rfl (y_pick_f rfl rfl) rfl ?_
  refine L_y rfl (y_move rfl) rfl ?_
  refine L_case 22 rfl (fun hg1_8 => ?_) (fun hg1_8 => ?_)
  · skip
    refine L_skip rfl rfl ?_
    refine L_skip rfl rfl ?_
    refine L_skip rfl rfl ?_
    refine L_y rfl (y_pick_t rfl rfl) rfl ?_
    refine L_nil ?_
    refine C_cond_t rfl ?_
    refine C_seq ?_
    refine C_region ?_
    refine L_op rfl (op_call rfl rfl (fun a w => Try.call26 a w) rfl ?_)
    refine (awake18_s).mono ?_
    rintro _ _ ⟨rfl, e⟩
    obtain rfl := e.symm
    clear e
    refine ⟨_, rfl, ?_⟩
    refine L_y rfl (y_assign rfl) rfl ?_
    refine L_nil ?_
    refine C_ret ?_
    refine B_ret (rv_tmp rfl rv_nil) (HSub.refl _) ?_
    rfl
  · exact absurd hg1_8 (by simp; omega)

theorem order_no {w0 : World} {H : Hp} {pa : Option Addr} {ca : Nat} {ll : List A18} (hA : Holds w0 H pa (a8s ll)) (segs size : Int) (bb : Nat) (hbb : bb < 256) (hl : ¬ 40 < ll.length) (hm : mayG segs size = false) : FnS Try.prog w0 4 #[shV segs size, .slice pa ll.length ca, .int .u8 (bb : Int)] H (fun e H' => e = .returned (.bool true)) := by
  refine FnS_intro (n := 113) (rs := [.tmp 6]) (vs := [shV segs size, .slice pa ll.length ca, .int .u8 (bb : Int)]) Try.func4 rfl Try.ntmps4 rfl rfl ?_
  refine C_seq ?_
  refine C_region ?_
  refine L_op rfl (op_box rfl rfl rfl (fun B1 => ?_))
  refine L_y rfl (y_assign rfl) rfl ?_
  refine L_nil ?_
  refine C_seq ?_
  refine C_seq ?_
  refine C_region ?_
  refine L_op rfl (op_call rfl rfl (fun a w => Try.call26 a w) rfl ?_)
  refine (awake18_s).mono ?_
  rintro _ _ ⟨rfl, e⟩
  obtain rfl := e.symm
  clear e
  refine ⟨_, rfl, ?_⟩
  refine L_y rfl (y_not rfl) rfl ?_
  refine L_y rfl (y_move rfl) rfl ?_
  refine L_y rfl (y_move rfl) rfl ?_
  refine L_y rfl (y_lenS rfl rfl Try.underlying52) rfl ?_
  refine L_y rfl (y_gtr rfl rfl) rfl ?_
  refine L_y rfl (y_pick_f rfl rfl) rfl ?_
  refine L_y rfl (y_move rfl) rfl ?_
  refine L_case 22 rfl (fun hg1_8 => ?_) (fun hg1_8 => ?_)
  · exact absurd hg1_8 (by simp; omega)
  · skip
    refine L_y rfl (y_loadA rfl ag_51 sz_51 (sees 0 0 rfl) (Nat.le_of_ble_eq_true rfl) rfl) rfl ?_
    refine L_op rfl (op_call rfl rfl (fun a w => Try.call27 a w) rfl ?_)
    refine (check_s segs size).mono ?_
    rintro _ _ ⟨rfl, e⟩
    obtain rfl := e.symm
    clear e
    rw [show chkE segs size = 2 from by unfold chkE; rw [hm]; rfl]
    refine ⟨_, rfl, ?_⟩
    refine L_y rfl (y_nei rfl rfl) rfl ?_
    refine L_y rfl (y_pick_f rfl rfl) rfl ?_
    refine L_nil ?_
    refine C_cond_t rfl ?_
    refine C_seq ?_
    refine C_region ?_
    refine L_op rfl (op_call rfl rfl (fun a w => Try.call26 a w) rfl ?_)
    refine (awake18_s).mono ?_
    rintro _ _ ⟨rfl, e⟩
    obtain rfl := e.symm
    clear e
    refine ⟨_, rfl, ?_⟩
    refine L_y rfl (y_assign rfl) rfl ?_
    refine L_nil ?_
    refine C_ret ?_
    refine B_ret (rv_tmp rfl rv_nil) (HSub.refl _) ?_
    rfl

set_option maxHeartbeats 4000000 in

theorem order_y {w0 : World} {H : Hp} {pa : Option Addr} {ca : Nat} {ll : List A18} (hA : Holds w0 H pa (a8s ll)) (segs size : Int) (bb : Nat) (hbb : bb < 256) (hl : ¬ 40 < ll.length) (hm : mayG segs size = true) : FnS Try.prog w0 4 #[shV segs size, .slice pa ll.length ca, .int .u8 (bb : Int)] H (fun e H' => e = .returned (.bool true)) := by
  obtain ⟨m1, m2, m3, m4⟩ := mayG_spec hm
  refine FnS_intro (n := 113) (rs := [.tmp 6]) (vs := [shV segs size, .slice pa ll.length ca, .int .u8 (bb : Int)]) Try.func4 rfl Try.ntmps4 rfl rfl ?_
  refine C_seq ?_
  refine C_region ?_
  refine L_op rfl (op_box rfl rfl rfl (fun B1 => ?_))
  refine L_y rfl (y_assign rfl) rfl ?_
  refine L_nil ?_
  refine C_seq ?_
  refine C_seq ?_
  refine C_region ?_
  refine L_op rfl (op_call rfl rfl (fun a w => Try.call26 a w) rfl ?_)
  refine (awake18_s).mono ?_
  rintro _ _ ⟨rfl, e⟩
  obtain rfl := e.symm
  clear e
  refine ⟨_, rfl, ?_⟩
  refine L_y rfl (y_not rfl) rfl ?_
  refine L_y rfl (y_move rfl) rfl ?_
  refine L_y rfl (y_move rfl) rfl ?_
  refine L_y rfl (y_lenS rfl rfl Try.underlying52) rfl ?_
  refine L_y rfl (y_gtr rfl rfl) rfl ?_
  refine L_y rfl (y_pick_f rfl rfl) rfl ?_
  refine L_y rfl (y_move rfl) rfl ?_
  refine L_case 22 rfl (fun hg1_8 => ?_) (fun hg1_8 => ?_)
  · exact absurd hg1_8 (by simp; omega)
  · skip
    refine L_y rfl (y_loadA rfl ag_51 sz_51 (sees 0 0 rfl) (Nat.le_of_ble_eq_true rfl) rfl) rfl ?_
    refine L_op rfl (op_call rfl rfl (fun a w => Try.call27 a w) rfl ?_)
    refine (check_s segs size).mono ?_
    rintro _ _ ⟨rfl, e⟩
    obtain rfl := e.symm
    clear e
    rw [show chkE segs size = 0 from chk0.2 hm]
    refine ⟨_, rfl, ?_⟩
    refine L_y rfl (y_nei rfl rfl) rfl ?_
    refine L_y rfl (y_pick_f rfl rfl) rfl ?_
    refine L_nil ?_
    refine C_cond_f rfl ?_
    refine C_skip ?_
    refine C_seq ?_
    refine C_regionH ([(B1, .cells [Value.int .i64 segs, .int .i64 size].toArray 51)] :: H) (by kernel_rfl) ?_
    refine H_y 0 rfl (by kernel_rfl) (by kernel_rfl) (by kernel_rfl) (((hsub (.cons_cons _ (.refl _))).trans (hsub_pick [0] rfl))) rfl (y_loadA rfl ag_51 sz_51 (sees 0 0 rfl) (Nat.le_of_ble_eq_true rfl) rfl) rfl ?_
    refine H_y 2 rfl (by kernel_rfl) (by kernel_rfl) (by kernel_rfl) (((hsub (.cons_cons _ (.refl _))).trans (hsub_pick [0] rfl))) rfl (y_loadA rfl ag_51 sz_51 (sees 0 0 rfl) (Nat.le_of_ble_eq_true rfl) rfl) rfl ?_
    refine H_one 1 rfl (by kernel_rfl) rfl (op_call rfl rfl (fun a w => Try.call28 a w) rfl ?_)
    refine (xnew_s segs size).mono ?_
    rintro _ _ ⟨o1, rfl, rfl⟩
    have hX1 := Xm.new segs size
    refine ⟨_, rfl, ?_⟩
    refine ⟨((hsub (.cons_cons _ (.cons _ (.refl _)))).trans (hsub_pick [1] rfl)), ?_⟩
    refine H_one 3 rfl (by kernel_rfl) rfl (op_call rfl rfl (fun a w => Try.call28 a w) rfl ?_)
    refine (xnew_s segs size).mono ?_
    rintro _ _ ⟨o2, rfl, rfl⟩
    have hX2 := Xm.new segs size
    refine ⟨_, rfl, ?_⟩
    refine ⟨((hsub (.cons_cons _ (.cons _ (.cons _ (.refl _))))).trans (hsub_pick [2] rfl)), ?_⟩
    refine H_y 4 rfl (by kernel_rfl) (by kernel_rfl) (by kernel_rfl) (((hsub (.cons_cons _ (.cons _ (.cons _ (.refl _))))).trans (hsub_pick [2] rfl))) rfl (y_assign rfl) rfl ?_
    refine H_y 5 rfl (by kernel_rfl) (by kernel_rfl) (by kernel_rfl) (((hsub (.cons_cons _ (.cons _ (.cons _ (.refl _))))).trans (hsub_pick [2] rfl))) rfl (y_assign rfl) rfl ?_
    refine H_done (by kernel_rfl) ?_
    refine C_seq ?_
    refine C_region ?_
    refine L_op rfl (op_makeMapG .u64 rfl (fun B2 => ?_))
    refine L_y rfl (y_assign rfl) rfl ?_
    refine L_nil ?_
    refine C_seq ?_
    refine C_region ?_
    refine L_y rfl (y_assign rfl) rfl ?_
    refine L_nil ?_
    refine C_seq ?_
    refine C_seq ?_
    refine C_region ?_
    refine L_y rfl (y_assign rfl) rfl ?_
    refine L_nil ?_
    refine C_block ?_
    refine C_loop (ι := Nat × Gm × Option SlG) (fun i => [(1, .slice pa ll.length ca), (2, .int .u8 (bb : Int)), (3, ptr B1), (7, ptr o1.b), (8, ptr o2.b), (9, .map (some B2)), (10, slV i.2.2 (fewL (ll.take i.1)).length), (11, .int .i64 (i.1 : Int))]) (fun i => slSeg 60 i.2.2 (a8s (fewL (ll.take i.1))) :: [(B2, i.2.1.obj .u64)] :: o1.seg 129 segs size Gm.new Gm.new :: o2.seg 129 segs size Gm.new Gm.new :: [(B1, .cells [Value.int .i64 segs, .int .i64 size].toArray 51)] :: H) (fun i => i.1 ≤ ll.length ∧ Gt (fewP (fewL (ll.take i.1))) i.2.1 ∧ slOk 3 i.2.2 (fewL (ll.take i.1)).length (a8s (fewL (ll.take i.1)))) (fun i => ll.length - i.1) (0, Gm.new, none) ⟨Nat.zero_le _, by exact Gt.new, rfl, rfl⟩ ⟨rfl, rfl, rfl, rfl, rfl, rfl, rfl, rfl, trivial⟩ (hsub_nilx.trans ((hsub (.cons_cons _ (.cons_cons _ (.cons_cons _ (.cons_cons _ (.refl _)))))).trans (hsub_pick [0, 1, 0, 0] rfl))) (fun i hi => ?_)
    obtain ⟨i, G, g⟩ := i
    obtain ⟨hi, hG, hok⟩ := hi
    try simp only at hi hG hok
    try dsimp only
    refine C_seq ?_
    refine C_seq ?_
    refine C_region ?_
    refine L_y rfl (y_move rfl) rfl ?_
    refine L_y rfl (y_move rfl) rfl ?_
    refine L_y rfl (y_lenS rfl rfl Try.underlying52) rfl ?_
    refine L_y rfl (y_lss rfl rfl) rfl ?_
    refine L_nil ?_
    refine C_cond rfl (fun hc1 => ?_) (fun hc1 => ?_)
    · replace hc1 : i < ll.length := by have := of_decide_eq_true hc1; omega
      obtain ⟨c, hx⟩ : ∃ c, ll[i]? = some c := ⟨_, List.getElem?_eq_getElem hc1⟩
      obtain ⟨b1, o1_, l1, T1, fr1, rfl, hs1, hle1, hv1⟩ := hA (by rw [a8s_len]; omega)
      rw [a8s_len] at hle1
      refine C_skip ?_
      refine C_seq ?_
      refine C_block ?_
      refine C_seq ?_
      refine C_region ?_
      refine L_y rfl (y_move rfl) rfl ?_
      refine L_y rfl (y_move rfl) rfl ?_
      refine L_y rfl (y_move rfl) rfl ?_
      refine L_y rfl (y_indexS rfl rfl Try.underlying52 sz_60 (by omega) (by omega) (show _ = o1_ + i * 3 from by simp)) rfl ?_
      refine L_y rfl (y_fieldAddr rfl fl_60_1) rfl ?_
      refine L_y rfl (y_load rfl ag_58 (hs1.up.up.up.up.up) (a8_hat hv1 hx)) rfl ?_
      refine L_y rfl (y_lookupG rfl rfl Try.underlying57 Try.underlying58 zt_4 (sees 1 0 rfl)) rfl ?_
      rw [hG.look]
      refine L_y rfl (y_not rfl) rfl ?_
      refine L_nil ?_
      refine C_cond rfl (fun hc2 => ?_) (fun hc2 => ?_)
      · have hno : fewP (fewL (ll.take i)) c.2.1.toNat = false := by simpa using hc2
        refine C_seq ?_
        refine C_region ?_
        refine L_y rfl (y_move rfl) rfl ?_
        refine L_y rfl (y_move rfl) rfl ?_
        refine L_y rfl (y_move rfl) rfl ?_
        refine L_y rfl (y_indexS rfl rfl Try.underlying52 sz_60 (by omega) (by omega) (show _ = o1_ + i * 3 from by simp)) rfl ?_
        refine L_y rfl (y_loadA rfl ag_60 sz_60 (hs1.up.up.up.up.up) (by omega) (a8_at hv1 hx)) rfl ?_
        refine L_op rfl (op_buildSlice (vs := [(0, _)]) rfl Try.underlying52 sz_60 zl_60 rfl (by decide) (fill_one rfl rfl rfl) rfl (fun B3 => ?_))
        refine L_op rfl (op_append (gs := g) (len := (fewL (ll.take i)).length) (m := 1) (xs := a8s (fewL (ll.take i))) (vs := a8s [c]) 1 rfl rfl rfl hok (src_slice (sees 0 0 rfl) (Nat.le_of_ble_eq_true rfl) rfl) rfl (a8s_one _) Try.underlying52 ni_52 sz_60 by_60 (by decide) zl_60 rfl (by have := few_len _ (ll.take i) rfl; rw [List.length_take] at this; omega) rfl (fun g2 hg2 => ?_))
        rw [← a8s_append] at hg2 ⊢
        refine L_y rfl (y_assign rfl) rfl ?_
        refine L_nil ?_
        refine C_region ?_
        refine L_y rfl (y_move rfl) rfl ?_
        refine L_y rfl (y_move rfl) rfl ?_
        refine L_y rfl (y_move rfl) rfl ?_
        refine L_y rfl (y_indexS rfl rfl Try.underlying52 sz_60 (by omega) (by omega) (show _ = o1_ + i * 3 from by simp)) rfl ?_
        refine L_y rfl (y_fieldAddr rfl fl_60_1) rfl ?_
        refine L_y rfl (y_load rfl ag_58 (hs1.up.up.up.up.up.up) (a8_hat hv1 hx)) rfl ?_
        refine L_op rfl (op_mapUpdateG 2 0 rfl rfl rfl Try.underlying57 Try.underlying58 hG.ok rfl rfl ?_)
        refine L_nil ?_
        refine C_region ?_
        refine L_y rfl (y_move rfl) rfl ?_
        refine L_y rfl (y_add rfl rfl (show _ = ((i + 1 : Nat) : Int) from by rw [wi64 (by omega) (by omega)]; omega)) rfl ?_
        refine L_y rfl (y_assign rfl) rfl ?_
        refine L_nil ?_
        have hz : (fewL (ll.take (i + 1))) = (fewL (ll.take i)) ++ [c] := by rw [few_next hx, if_neg (by rw [fewP_any, hno]; decide)]
        refine ⟨(i + 1, G.put (c.2.1.toNat : Int) (.bool true), g2), ⟨by simp only; omega, ?_, ?_⟩, by simp only; omega, ?_⟩ <;> simp only <;> rw [hz]
        · exact hG.put c.2.1.toNat (fun m => fewP_snoc _ _ _)
        · rw [List.length_append]; exact hg2
        · rw [List.length_append]; exact ⟨⟨rfl, rfl, rfl, rfl, rfl, rfl, rfl, rfl, trivial⟩, ((hsub (.cons_cons _ (.cons_cons _ (.cons_cons _ (.cons_cons _ (.cons_cons _ (.cons _ (.refl _)))))))).trans (hsub_pick [1, 1, 1, 1, 1] rfl))⟩
      · have hyes : fewP (fewL (ll.take i)) c.2.1.toNat = true := by simpa using hc2
        refine C_skip ?_
        refine C_region ?_
        refine L_y rfl (y_move rfl) rfl ?_
        refine L_y rfl (y_add rfl rfl (show _ = ((i + 1 : Nat) : Int) from by rw [wi64 (by omega) (by omega)]; omega)) rfl ?_
        refine L_y rfl (y_assign rfl) rfl ?_
        refine L_nil ?_
        have hz : (fewL (ll.take (i + 1))) = (fewL (ll.take i)) := by rw [few_next hx, if_pos (by rw [fewP_any]; exact hyes)]
        refine ⟨(i + 1, G, g), ⟨by simp only; omega, ?_, ?_⟩, by simp only; omega, ?_⟩ <;> simp only <;> rw [hz]
        · exact hG
        · exact hok
        · exact ⟨⟨rfl, rfl, rfl, rfl, rfl, rfl, rfl, rfl, trivial⟩, ((hsub (.cons_cons _ (.cons_cons _ (.cons_cons _ (.cons_cons _ (.cons_cons _ (.refl _))))))).trans (hsub_pick [0, 0, 0, 0, 0] rfl))⟩
    · obtain rfl : i = ll.length := by have := of_decide_eq_false hc1; omega
      rw [List.take_length] at hG hok ⊢
      have hfn := few_fn ll
      have hfl := few_len _ ll rfl
      obtain ⟨F, hF⟩ : ∃ y, y = fewL ll := ⟨_, rfl⟩
      rw [← hF] at hG hok hfn hfl ⊢
      refine C_exit ?_
      refine C_seq ?_
      refine C_seq ?_
      refine C_region ?_
      refine L_y rfl (y_assign rfl) rfl ?_
      refine L_nil ?_
      refine C_block ?_
      refine C_loop (ι := Nat × Gm × Gm × Gm × Gm) (fun i => [(2, .int .u8 (bb : Int)), (3, ptr B1), (7, ptr o1.b), (8, ptr o2.b), (10, slV g F.length), (12, .int .i64 (i.1 : Int))]) (fun i => slSeg 60 g (a8s F) :: o1.seg 129 segs size i.2.1 i.2.2.1 :: o2.seg 129 segs size i.2.2.2.1 i.2.2.2.2 :: [(B1, .cells [Value.int .i64 segs, .int .i64 size].toArray 51)] :: H) (fun i => i.1 ≤ F.length ∧ Xm segs size (laidL segs size ((F.take i.1).map prA)) i.2.1 i.2.2.1 ∧ Xm segs size (laidL segs size (((rotL F bb).take i.1).map prA)) i.2.2.2.1 i.2.2.2.2) (fun i => F.length - i.1) (0, _, _, _, _) ⟨Nat.zero_le _, hX1, hX2⟩ ⟨rfl, rfl, rfl, rfl, rfl, rfl, trivial⟩ ((hsub (.cons_cons _ (.cons_cons _ (.cons_cons _ (.cons_cons _ (.cons _ (.refl _))))))).trans (hsub_pick [0, 1, 1, 1] rfl)) (fun i hi => ?_)
      obtain ⟨i, A1, L1, A2, L2⟩ := i
      obtain ⟨hi, hX, hY⟩ := hi
      try simp only at hi hX hY
      try dsimp only
      have hl1 := (laid_len segs size _ ((F.take i).map prA) rfl).2
      have hl2 := (laid_len segs size _ (((rotL F bb).take i).map prA) rfl).2
      rw [List.length_map, List.length_take] at hl1 hl2
      refine C_seq ?_
      refine C_seq ?_
      refine C_region ?_
      refine L_y rfl (y_move rfl) rfl ?_
      refine L_y rfl (y_move rfl) rfl ?_
      refine L_y rfl (y_lenV hok rfl rfl Try.underlying52) rfl ?_
      refine L_y rfl (y_lss rfl rfl) rfl ?_
      refine L_nil ?_
      refine C_cond rfl (fun hc3 => ?_) (fun hc3 => ?_)
      · replace hc3 : i < F.length := by have := of_decide_eq_true hc3; omega
        obtain ⟨c, hx⟩ : ∃ c, F[i]? = some c := ⟨_, List.getElem?_eq_getElem hc3⟩
        have hml := Nat.mod_lt (i + bb) (show 0 < F.length by omega)
        obtain ⟨c2, hx2⟩ : ∃ c, F[(i + bb) % F.length]? = some c := ⟨_, List.getElem?_eq_getElem hml⟩
        have hrot := rotL_at hc3 hx2
        cases g with
        | none => exact slOk_none hok (by omega)
        | some g => ?_
        refine C_skip ?_
        refine C_seq ?_
        refine C_block ?_
        refine C_seq ?_
        refine C_regionH (slSeg 60 (some g) (a8s F) :: o2.seg 129 segs size A2 L2 :: [(B1, .cells [Value.int .i64 segs, .int .i64 size].toArray 51)] :: H) (by kernel_rfl) ?_
        refine H_y 0 rfl (by kernel_rfl) (by kernel_rfl) (by kernel_rfl) (((hsub (.cons_cons _ (.cons_cons _ (.cons_cons _ (.cons _ (.refl _)))))).trans (hsub_pick [0, 1, 1] rfl))) rfl (y_move rfl) rfl ?_
        refine H_y 1 rfl (by kernel_rfl) (by kernel_rfl) (by kernel_rfl) (((hsub (.cons_cons _ (.cons_cons _ (.cons_cons _ (.cons _ (.refl _)))))).trans (hsub_pick [0, 1, 1] rfl))) rfl (y_move rfl) rfl ?_
        refine H_y 2 rfl (by kernel_rfl) (by kernel_rfl) (by kernel_rfl) (((hsub (.cons_cons _ (.cons_cons _ (.cons_cons _ (.cons _ (.refl _)))))).trans (hsub_pick [0, 1, 1] rfl))) rfl (y_move rfl) rfl ?_
        refine H_y 3 rfl (by kernel_rfl) (by kernel_rfl) (by kernel_rfl) (((hsub (.cons_cons _ (.cons_cons _ (.cons_cons _ (.cons _ (.refl _)))))).trans (hsub_pick [0, 1, 1] rfl))) rfl (y_indexS rfl rfl Try.underlying52 sz_60 (by omega) (by omega) (show _ = i * 3 from by simp)) rfl ?_
        refine H_y 4 rfl (by kernel_rfl) (by kernel_rfl) (by kernel_rfl) (((hsub (.cons_cons _ (.cons_cons _ (.cons_cons _ (.cons _ (.refl _)))))).trans (hsub_pick [0, 1, 1] rfl))) rfl (y_fieldAddr rfl fl_60_1) rfl ?_
        refine H_y 5 rfl (by kernel_rfl) (by kernel_rfl) (by kernel_rfl) (((hsub (.cons_cons _ (.cons_cons _ (.cons_cons _ (.cons _ (.refl _)))))).trans (hsub_pick [0, 1, 1] rfl))) rfl (y_load rfl ag_58 (sees 0 0 rfl) (a8s_1 hx)) rfl ?_
        refine H_y 6 rfl (by kernel_rfl) (by kernel_rfl) (by kernel_rfl) (((hsub (.cons_cons _ (.cons_cons _ (.cons_cons _ (.cons _ (.refl _)))))).trans (hsub_pick [0, 1, 1] rfl))) rfl (y_move rfl) rfl ?_
        refine H_y 7 rfl (by kernel_rfl) (by kernel_rfl) (by kernel_rfl) (((hsub (.cons_cons _ (.cons_cons _ (.cons_cons _ (.cons _ (.refl _)))))).trans (hsub_pick [0, 1, 1] rfl))) rfl (y_move rfl) rfl ?_
        refine H_y 8 rfl (by kernel_rfl) (by kernel_rfl) (by kernel_rfl) (((hsub (.cons_cons _ (.cons_cons _ (.cons_cons _ (.cons _ (.refl _)))))).trans (hsub_pick [0, 1, 1] rfl))) rfl (y_indexS rfl rfl Try.underlying52 sz_60 (by omega) (by omega) (show _ = i * 3 from by simp)) rfl ?_
        refine H_y 9 rfl (by kernel_rfl) (by kernel_rfl) (by kernel_rfl) (((hsub (.cons_cons _ (.cons_cons _ (.cons_cons _ (.cons _ (.refl _)))))).trans (hsub_pick [0, 1, 1] rfl))) rfl (y_fieldAddr rfl fl_60_2) rfl ?_
        refine H_y 10 rfl (by kernel_rfl) (by kernel_rfl) (by kernel_rfl) (((hsub (.cons_cons _ (.cons_cons _ (.cons_cons _ (.cons _ (.refl _)))))).trans (hsub_pick [0, 1, 1] rfl))) rfl (y_load rfl ag_3 (sees 0 0 rfl) (a8s_2 hx)) rfl ?_
        refine H_one 11 rfl (by kernel_rfl) rfl (op_call rfl rfl (fun a w => Try.call29 a w) rfl ?_)
        refine (FnS.sub (hsub_pick [1] rfl) (xput_s hX c.2.1.toNat c.2.1.toNat_lt c.2.2 (by omega))).mono ?_
        rintro _ _ ⟨rfl, A5, L5, hX5, rfl⟩
        refine ⟨_, rfl, ?_⟩
        refine ⟨((hsub (.cons_cons _ (.cons_cons _ (.cons_cons _ (.cons _ (.refl _)))))).trans (hsub_pick [1, 1, 1] rfl)), ?_⟩
        refine H_done (by kernel_rfl) ?_
        refine C_seq ?_
        refine C_region ?_
        refine L_y rfl (y_move rfl) rfl ?_
        refine L_y rfl (y_move rfl) rfl ?_
        refine L_y rfl (y_move rfl) rfl ?_
        refine L_y rfl (y_conv rfl us_5 Try.underlying3 (show _ = ((bb : Nat) : Int) from by rw [wi64 (by omega) (by omega)])) rfl ?_
        refine L_y rfl (y_add rfl rfl (show _ = ((i + bb : Nat) : Int) from by rw [wi64 (by omega) (by omega)]; omega)) rfl ?_
        refine L_y rfl (y_move rfl) rfl ?_
        refine L_y rfl (y_lenV hok rfl rfl Try.underlying52) rfl ?_
        refine L_y rfl (y_rem rfl rfl (by omega) (show _ = (((i + bb) % F.length : Nat) : Int) from by rw [Int.tmod_eq_emod_of_nonneg (by omega)]; rfl)) rfl ?_
        refine L_y rfl (y_indexS rfl rfl Try.underlying52 sz_60 (by omega) (Int.ofNat_lt.2 hml) (show _ = ((i + bb) % F.length) * 3 from by simp <;> rfl)) rfl ?_
        refine L_y rfl (y_loadA rfl ag_60 sz_60 (sees 1 0 rfl) (by rw [List.length_append, a8s_len]; omega) (a8s_all hx2)) rfl ?_
        refine L_op rfl (op_alloc zl_60 rfl (fun B4 => ?_))
        refine L_op rfl (op_store 0 0 rfl rfl rfl sz_60 rfl rfl (ones rfl) (by decide) ?_)
        skip
        refine L_nil ?_
        refine C_region ?_
        refine L_y rfl (y_move rfl) rfl ?_
        refine L_y rfl (y_fieldAddr rfl fl_60_1) rfl ?_
        refine L_y rfl (y_load rfl ag_58 (sees 0 0 rfl) rfl) rfl ?_
        refine L_y rfl (y_fieldAddr rfl fl_60_2) rfl ?_
        refine L_y rfl (y_load rfl ag_3 (sees 0 0 rfl) rfl) rfl ?_
        refine L_op rfl (op_call rfl rfl (fun a w => Try.call29 a w) rfl ?_)
        refine (FnS.sub (hsub_pick [3] rfl) (xput_s hY c2.2.1.toNat c2.2.1.toNat_lt c2.2.2 (by omega))).mono ?_
        rintro _ _ ⟨rfl, A6, L6, hX6, rfl⟩
        refine ⟨_, rfl, ?_⟩
        refine L_nil ?_
        refine C_region ?_
        refine L_y rfl (y_move rfl) rfl ?_
        refine L_y rfl (y_add rfl rfl (show _ = ((i + 1 : Nat) : Int) from by rw [wi64 (by omega) (by omega)]; omega)) rfl ?_
        refine L_y rfl (y_assign rfl) rfl ?_
        refine L_nil ?_
        exact ⟨(i + 1, A5, L5, A6, L6), ⟨by simp only; omega, by simp only; rw [laid_map_next hx]; exact hX5, by simp only; rw [laid_map_next hrot]; exact hX6⟩, by simp only; omega, ⟨rfl, rfl, rfl, rfl, rfl, rfl, trivial⟩, ((hsub (.cons_cons _ (.cons_cons _ (.cons_cons _ (.cons_cons _ (.cons _ (.refl _))))))).trans (hsub_pick [3, 2, 0, 1] rfl))⟩
      · obtain rfl : i = F.length := by have := of_decide_eq_false hc3; omega
        have hY2 : Xm segs size (laidL segs size (F.map prA)) A2 L2 := by
          have h9 := hY
          rw [show (rotL F bb).take F.length = rotL F bb from List.take_of_length_le (by rw [rotL_len]; exact Nat.le_refl _), rot_same hfn] at h9
          exact h9
        rw [List.take_length] at hX hl1
        obtain ⟨x, hxe⟩ : ∃ y, y = laidL segs size (F.map prA) := ⟨_, rfl⟩
        rw [← hxe] at hX hY2 hl1
        refine C_exit ?_
        refine C_seq ?_
        refine C_seq ?_
        refine C_region ?_
        refine L_y rfl (y_fieldAddr rfl fl_51_0) rfl ?_
        refine L_y rfl (y_load rfl ag_3 (sees 3 0 rfl) rfl) rfl ?_
        refine L_y rfl (y_move rfl) rfl ?_
        refine L_nil ?_
        refine C_block ?_
        refine C_loop (ι := Nat) (fun k => [(7, ptr o1.b), (8, ptr o2.b), (95, .int .i64 segs), (96, .int .i64 (k : Int))]) (fun k => o1.seg 129 segs size A1 L1 :: o2.seg 129 segs size A2 L2 :: H) (fun k => (k : Int) ≤ segs) (fun k => segs.toNat - k) 0 (by omega) ⟨rfl, rfl, rfl, rfl, trivial⟩ ((hsub (.cons_cons _ (.cons_cons _ (.cons _ (.cons _ (.refl _)))))).trans (hsub_pick [1, 1] rfl)) (fun k hk => ?_)
        have hck := cnt_le segs size x (k : Int)
        refine C_seq ?_
        refine C_region ?_
        refine L_y rfl (y_lss rfl rfl) rfl ?_
        refine L_nil ?_
        refine C_seq ?_
        refine C_cond rfl (fun hc4 => ?_) (fun hc4 => ?_)
        · replace hc4 : (k : Int) < segs := of_decide_eq_true hc4
          refine C_skip ?_
          refine C_seq ?_
          refine C_block ?_
          refine C_seq ?_
          refine C_region ?_
          refine L_y rfl (y_move rfl) rfl ?_
          refine L_y rfl (y_assign rfl) rfl ?_
          refine L_nil ?_
          refine C_seq ?_
          refine C_region ?_
          refine L_y rfl (y_move rfl) rfl ?_
          refine L_y rfl (y_move rfl) rfl ?_
          refine L_op rfl (op_call rfl rfl (fun a w => Try.call31 a w) rfl ?_)
          refine (FnS.sub (hsub_pick [0] rfl) (xnums_s hX (k : Int) (by omega))).mono ?_
          rintro _ _ ⟨ga, hga, rfl, rfl⟩
          refine ⟨_, rfl, ?_⟩
          refine L_y rfl (y_move rfl) rfl ?_
          refine L_y rfl (y_move rfl) rfl ?_
          refine L_op rfl (op_call rfl rfl (fun a w => Try.call31 a w) rfl ?_)
          refine (FnS.sub (hsub_pick [2] rfl) (xnums_s hY2 (k : Int) (by omega))).mono ?_
          rintro _ _ ⟨gb, hgb, rfl, rfl⟩
          refine ⟨_, rfl, ?_⟩
          refine L_op rfl (op_call rfl rfl (fun a w => Try.call30 a w) rfl ?_)
          obtain ⟨a0_, c0_, e0_, _⟩ := holds_sl (w0 := w0) (H := [slSeg 58 ga (us (xnums segs size x (k : Int)))]) (s := 0) rfl hga
          rw [e0_]
          obtain ⟨a1_, c1_, e1_, _⟩ := holds_sl (w0 := w0) (H := [slSeg 58 gb (us (xnums segs size x (k : Int)))]) (s := 0) rfl hgb
          rw [e1_]
          refine (same18_s (la := (xnums segs size x (k : Int))) (lb := (xnums segs size x (k : Int))) (holds_sl2 e0_ (s := 2) rfl hga) (holds_sl2 e1_ (s := 0) rfl hgb) (by rw [nums_len]; omega)).mono ?_
          rintro _ _ ⟨rfl, e⟩
          obtain rfl := e.symm
          clear e
          refine ⟨_, rfl, ?_⟩
          refine L_y rfl (y_not rfl) rfl ?_
          refine L_nil ?_
          refine C_cond rfl (fun hc5 => absurd hc5 (by simp)) (fun hc5 => ?_)
          refine C_skip ?_
          refine C_region ?_
          refine L_y rfl (y_add rfl rfl (show _ = ((k + 1 : Nat) : Int) from by rw [wi64 (by omega) (by omega)]; omega)) rfl ?_
          refine L_y rfl (y_move rfl) rfl ?_
          refine L_nil ?_
          exact ⟨k + 1, by omega, by omega, ⟨rfl, rfl, rfl, rfl, trivial⟩, ((hsub (.cons_cons _ (.cons_cons _ (.cons _ (.cons _ (.refl _)))))).trans (hsub_pick [3, 1] rfl))⟩
        · skip
          refine C_exit ?_
          refine C_seq ?_
          refine C_region ?_
          refine L_y rfl (y_move rfl) rfl ?_
          refine L_op rfl (op_call rfl rfl (fun a w => Try.call32 a w) rfl ?_)
          refine (FnS.sub (hsub_pick [0] rfl) (xlen_s hX)).mono ?_
          rintro _ _ ⟨rfl, rfl⟩
          refine ⟨_, rfl, ?_⟩
          refine L_y rfl (y_move rfl) rfl ?_
          refine L_op rfl (op_call rfl rfl (fun a w => Try.call32 a w) rfl ?_)
          refine (FnS.sub (hsub_pick [1] rfl) (xlen_s hY2)).mono ?_
          rintro _ _ ⟨rfl, rfl⟩
          refine ⟨_, rfl, ?_⟩
          refine L_y rfl (y_eqi rfl rfl) rfl ?_
          refine L_y rfl (y_assign rfl) rfl ?_
          refine L_nil ?_
          refine C_ret ?_
          refine B_ret (rv_tmp rfl rv_nil) (HSub.refl _) ?_
          exact ret_bool (by simp)

end Go.Proofs.Ytaeooiogjhkjfaa

/- From a row's reading of a slice of bytes to what a walk asks (own work). -/
set_option linter.unusedVariables false
namespace Go.Sl
open Go.RowKit
end Go.Sl

/- What a row tells of its arguments, for flat types (integers, bools, structs and arrays of these) and slices of them (own work). -/
set_option linter.unusedVariables false
set_option linter.unusedSimpArgs false
namespace Go.Sl
open Go.RowKit
inductive Sc where
  | int (k : IntKind)
  | bool
def Sc.fit : Sc → Value → Prop
  | .int k, v => ∃ n, v = .int k n ∧ (Lit.int k n).wf = true
  | .bool, v => ∃ b, v = .bool b
/-- A row of cells fits a row of scalars. -/
def Fits : List Sc → List Value → Prop
  | [], [] => True
  | s :: ss, v :: vs => s.fit v ∧ Fits ss vs
  | _, _ => False
theorem Fits.length : ∀ {ss : List Sc} {vs : List Value}, Fits ss vs → vs.length = ss.length
  | [], [], _ => rfl
  | _ :: _, _ :: _, h => by simp [Fits.length h.2]
  | [], _ :: _, h => h.elim
  | _ :: _, [], h => h.elim
theorem Fits.append : ∀ {ss tt : List Sc} {vs us : List Value}, Fits ss vs → Fits tt us → Fits (ss ++ tt) (vs ++ us)
  | [], _, [], _, _, h => h
  | _ :: _, _, _ :: _, _, h, k => ⟨h.1, Fits.append h.2 k⟩
  | [], _, _ :: _, _, h, _ => h.elim
  | _ :: _, _, [], _, h, _ => h.elim
theorem Fits.cons_iff {s : Sc} {ss : List Sc} {vs : List Value} : Fits (s :: ss) vs ↔ ∃ v us, vs = v :: us ∧ s.fit v ∧ Fits ss us := by
  cases vs with
  | nil => simp [Fits]
  | cons v us =>
    refine ⟨fun h => ⟨v, us, rfl, h⟩, fun ⟨v', us', e, h⟩ => ?_⟩
    obtain ⟨rfl, rfl⟩ := List.cons.inj e
    exact h
theorem Fits.nil_iff {vs : List Value} : Fits [] vs ↔ vs = [] := by cases vs <;> simp [Fits]
theorem Fits.split : ∀ {ss tt : List Sc} {vs : List Value}, Fits (ss ++ tt) vs → ∃ a b, vs = a ++ b ∧ Fits ss a ∧ Fits tt b
  | [], _, vs, h => ⟨[], vs, rfl, trivial, h⟩
  | s :: ss, tt, vs, h => by
    obtain ⟨v, us, rfl, h1, h2⟩ := Fits.cons_iff.1 h
    obtain ⟨a, b, rfl, h3, h4⟩ := Fits.split (ss := ss) h2
    exact ⟨v :: a, b, rfl, ⟨h1, h3⟩, h4⟩
/-- A row of bytes. -/
theorem Fits.bytes : ∀ {n : Nat} {vs : List Value}, Fits (List.replicate n (.int .u8)) vs → ∃ u : List UInt8, vs = bs u ∧ u.length = n
  | 0, vs, h => ⟨[], by rw [Fits.nil_iff.1 h]; rfl, rfl⟩
  | n + 1, vs, h => by
    rw [List.replicate_succ] at h
    obtain ⟨v, us, rfl, ⟨m, rfl, hm⟩, h2⟩ := Fits.cons_iff.1 h
    obtain ⟨u, rfl, rfl⟩ := Fits.bytes h2
    have hb := bounds_u8 hm
    refine ⟨UInt8.ofNat m.toNat :: u, ?_, rfl⟩
    rw [u8_of_int (by omega) (by omega)]; rfl
def flatF (P : Program) (g : TypeId → Option (List Sc)) : List Field → Nat → Option (List Sc)
  | [], _ => some []
  | f :: fs, off => if f.offset = off then (g f.type).bind fun l => if P.cellsOf f.type = l.length then (flatF P g fs (off + l.length)).map (l ++ ·) else none else none
def flatT (P : Program) : Nat → TypeId → Option (List Sc)
  | 0, _ => none
  | d + 1, t => match P.underlying t with
    | some (.int k) => some [.int k]
    | some .bool => some [.bool]
    | some (.struct fs) => (flatF P (flatT P d) fs.toList 0).bind fun l => if P.cellsOf t = l.length then some l else none
    | some (.array n e) => (flatT P d e).bind fun l => if P.cellsOf e = l.length ∧ P.cellsOf t = n * l.length then some (List.replicate n l).flatten else none
    | _ => none
theorem flatF_fits {P : Program} {g : TypeId → Option (List Sc)} {cs : List Value} : ∀ {fs : List Field} {off : Nat} {sh : List Sc}, flatF P g fs off = some sh →
    (∀ f ∈ fs, ∀ l, g f.type = some l → Fits l ((cs.drop f.offset).take (P.cellsOf f.type))) → Fits sh ((cs.drop off).take sh.length)
  | [], off, sh, h, _ => by
    simp only [flatF, Option.some.injEq] at h
    subst h; simp [Fits]
  | f :: fs, off, sh, h, hf => by
    unfold flatF at h
    split at h
    · rename_i ho
      cases hg : g f.type with
      | none => simp [hg] at h
      | some l =>
        rw [hg] at h; simp only [Option.bind_some] at h
        split at h
        · rename_i hc
          cases hr : flatF P g fs (off + l.length) with
          | none => simp [hr] at h
          | some l2 =>
            simp only [hr, Option.map_some, Option.some.injEq] at h
            subst h
            have h1 := hf f (by simp) l hg
            have h2 := flatF_fits hr (fun f' hf' => hf f' (by simp [hf']))
            rw [ho, hc] at h1
            have h3 := Fits.append h1 h2
            rw [List.length_append, List.take_add, List.drop_drop]
            exact h3
        · cases h
    · cases h
section
variable {H : Type} {enc : TypeId × Value → H} {P : Program} {w : World} {base : Nat} {spare : Nat → Bool} {held : Bool}
theorem arr_fits {l : List Sc} : ∀ {n : Nat} {cs : List Value}, cs.length = n * l.length → (∀ i, i < n → Fits l ((cs.drop (i * l.length)).take l.length)) → Fits (List.replicate n l).flatten cs
  | 0, cs, h, _ => by simp at h; subst h; simp [Fits]
  | n + 1, cs, h, hi => by
    rw [Nat.add_mul, Nat.one_mul] at h
    have h0 := hi 0 (by omega)
    rw [Nat.zero_mul, List.drop_zero] at h0
    have h1 := arr_fits (l := l) (n := n) (cs := cs.drop l.length) (by simp; omega) (fun i hi' => by
      have := hi (i + 1) (by omega)
      rw [List.drop_drop, show l.length + i * l.length = (i + 1) * l.length from by rw [Nat.add_mul, Nat.one_mul, Nat.add_comm]]
      exact this)
    have h2 := Fits.append h0 h1
    rw [List.take_append_drop] at h2
    rw [List.replicate_succ, List.flatten_cons]
    exact h2
theorem flat_trod : ∀ {d : Nat} {t : TypeId} {sh : List Sc}, flatT P d t = some sh → ∀ {fuel : Nat} {cs : List Value} {x : DataW H × List MemPlace}, DataW.trod enc P w base spare held fuel t cs = some x → Fits sh cs
  | 0, _, _, h, _, _, _, _ => by simp [flatT] at h
  | d + 1, t, sh, h, fuel, cs, x, hx => by
    unfold flatT at h
    split at h
    · rename_i k hu
      obtain ⟨n, rfl, _, hw⟩ := DataW.trod_int hu hx
      simp only [Option.some.injEq] at h; subst h
      exact ⟨⟨n, rfl, hw⟩, trivial⟩
    · rename_i hu
      obtain ⟨b, rfl, _⟩ := DataW.trod_bool hu hx
      simp only [Option.some.injEq] at h; subst h
      exact ⟨⟨b, rfl⟩, trivial⟩
    · rename_i fs hu
      obtain ⟨xs, n, _, _, hl, hlen, hf⟩ := DataW.trod_struct hu hx
      cases hF : flatF P (flatT P d) fs.toList 0 with
      | none => simp [hF] at h
      | some l =>
        simp only [hF, Option.bind_some] at h
        split at h
        · rename_i hc
          simp only [Option.some.injEq] at h; subst h
          have := flatF_fits (cs := cs) hF (fun f hfm l' hl' => by
            obtain ⟨i, hi, rfl⟩ := List.getElem_of_mem hfm
            have h1 := hf i _ (by rw [← Array.getElem?_toList]; exact List.getElem?_eq_getElem hi)
            have h2 : i < xs.length := by rw [hlen]; simpa using hi
            rw [List.getElem?_eq_getElem h2] at h1
            exact flat_trod hl' h1)
          rw [List.drop_zero, List.take_of_length_le (by omega)] at this
          exact this
        · cases h
    · rename_i n e hu
      obtain ⟨xs, m, _, _, hl, hlen, hf⟩ := DataW.trod_array hu hx
      cases hF : flatT P d e with
      | none => simp [hF] at h
      | some l =>
        simp only [hF, Option.bind_some] at h
        split at h
        · rename_i hc
          simp only [Option.some.injEq] at h; subst h
          refine arr_fits (by rw [hl, hc.2]) (fun i hi => ?_)
          have h1 := hf i hi
          have h2 : i < xs.length := by omega
          rw [List.getElem?_eq_getElem h2, hc.1] at h1
          exact flat_trod hF h1
        · cases h
    · cases h
/-- A flat struct or array as an argument. -/
theorem flat_agg {d : Nat} {t : TypeId} {sh : List Sc} {v : Value} {D : DataW H} {ps : List MemPlace} (h : flatT P d t = some sh) (hv : ∃ cs, v = .agg cs) (hT : DataW.Trod enc P w base spare held t v D ps) : ∃ cs, v = .agg cs.toArray ∧ Fits sh cs := by
  obtain ⟨cs, rfl⟩ := hv
  obtain ⟨fuel, hf⟩ := hT
  exact ⟨cs.toList, by simp, flat_trod h hf⟩
theorem okWide_agg {r : Reach} {b0 : Nat} {t : TypeId} {v : Value} (ht : isAggT P t = true) (h : Value.okWide P w r b0 t v) : ∃ cs, v = .agg cs := by
  unfold Value.okWide at h
  unfold isAggT at ht
  split at h
  · obtain ⟨cs, rfl, _⟩ := h; exact ⟨cs, rfl⟩
  · obtain ⟨cs, rfl, _⟩ := h; exact ⟨cs, rfl⟩
  · rename_i h1 h2
    cases hu : P.underlying t with
    | none => simp [hu] at ht
    | some dd =>
      cases dd with
      | struct fs => exact absurd hu (h1 fs)
      | array n e => exact absurd hu (h2 n e)
      | _ => simp [hu] at ht
/-- What is told of a slice that came in. -/
def InS (w : World) (sh : List Sc) (a : Option Addr) (len cap : Nat) : Prop :=
  (a = none ∧ len = 0 ∧ cap = 0) ∨ ∃ (x : Addr), a = some x ∧ len ≤ cap ∧ cap ≤ maxLen ∧
    (0 < len → ∃ (b off : Nat) (l : List Value) (T : TypeId) (fr : Nat × Nat), x = ⟨b, off, none⟩ ∧ w.heap[b]? = some (.cells l.toArray T fr) ∧ off + len * sh.length ≤ l.length ∧
      ∀ i, i < len → Fits sh ((l.drop (off + i * sh.length)).take sh.length))
theorem cell_block {w : World} {b off : Nat} {spot : Option Nat} {v : Value} (h : w.cell? ⟨b, off, spot⟩ = some v) : spot = none ∧ ∃ (l : List Value) (T : TypeId) (fr : Nat × Nat), w.heap[b]? = some (.cells l.toArray T fr) := by
  have hs : spot = none := by
    unfold World.cell? at h
    cases spot with
    | none => rfl
    | some s => split at h <;> simp at h
  subst hs
  refine ⟨rfl, ?_⟩
  cases hb : w.heap[b]? with
  | none => simp [World.cell?, hb] at h
  | some o =>
    cases o with
    | cells c T fr => exact ⟨c.toList, T, fr, by simp⟩
    | _ => simp [World.cell?, hb] at h
theorem flat_slice {d : Nat} {t e : TypeId} {sh : List Sc} {a : Option Addr} {len cap : Nat} {D : DataW H} {ps : List MemPlace} (ht : P.underlying t = some (.slice e)) (h : flatT P d e = some sh) (hc : P.cellsOf e = sh.length) (hp : 0 < sh.length)
    (hT : DataW.Trod enc P w base (fun _ => true) held t (.slice a len cap) D ps) : InS w sh a len cap := by
  obtain ⟨fuel, hf⟩ := hT
  rcases Go.Deep.open_slice ht hf with ⟨hcs, _⟩ | ⟨x, len', cap', m, n, DD, Pl, hcs, _, hl, hm, hmm, _, hx⟩
  · simp [Value.cells] at hcs
    exact .inl hcs
  · simp [Value.cells] at hcs
    obtain ⟨rfl, rfl, rfl⟩ := hcs
    refine .inr ⟨x, rfl, hl, hm, fun hpos => ?_⟩
    simp only [if_true] at hmm
    subst hmm
    rw [hc] at hx
    obtain ⟨b, off, spot⟩ := x
    obtain ⟨cs1, f1, f2⟩ := hx 0 (by omega)
    obtain ⟨_, f3, f4⟩ := World.cells?_some f1
    have f5 := f4 0 hp
    rw [List.getElem?_eq_getElem (by omega), show (Addr.add (Addr.add ⟨b, off, spot⟩ (0 * sh.length)) 0) = ⟨b, off, spot⟩ from by simp [Addr.add]] at f5
    obtain ⟨rfl, l, T, fr, hb⟩ := cell_block f5
    have hcell : ∀ i, i < len → ∃ cs', cs'.length = sh.length ∧ Fits sh cs' ∧ ∀ j, j < sh.length → w.cell? ⟨b, off + (i * sh.length + j), none⟩ = cs'[j]? := fun i hi => by
      obtain ⟨cs', h1, h2⟩ := hx i (by omega)
      obtain ⟨_, h3, h4⟩ := World.cells?_some h1
      exact ⟨cs', h3, flat_trod h h2, fun j hj => by have := h4 j hj; rw [addr_add, addr_add] at this; simpa [Nat.add_assoc] using this⟩
    have hget : ∀ i, i < len → ∀ j, j < sh.length → ∃ v, l[off + (i * sh.length + j)]? = some v ∧ w.cell? ⟨b, off + (i * sh.length + j), none⟩ = some v := fun i hi j hj => by
      obtain ⟨cs', h1, h2, h3⟩ := hcell i hi
      have h4 := h3 j hj
      rw [List.getElem?_eq_getElem (by omega)] at h4
      refine ⟨_, ?_, h4⟩
      simpa [World.cell?, hb] using h4
    have hle : off + len * sh.length ≤ l.length := by
      obtain ⟨v, h1, _⟩ := hget (len - 1) (by omega) (sh.length - 1) (by omega)
      have h2 := (List.getElem?_eq_some_iff.1 h1).1
      have h3 : (len - 1) * sh.length + sh.length = len * sh.length := by
        rw [← Nat.succ_mul]; congr 1; omega
      omega
    refine ⟨b, off, l, T, fr, rfl, hb, hle, fun i hi => ?_⟩
    obtain ⟨cs', h1, h2, h3⟩ := hcell i hi
    have : (l.drop (off + i * sh.length)).take sh.length = cs' := by
      apply List.ext_getElem?
      intro j
      by_cases hj : j < sh.length
      · rw [List.getElem?_take_of_lt hj, List.getElem?_drop, ← h3 j hj]
        obtain ⟨v, k1, k2⟩ := hget i hi j hj
        rw [k2, Nat.add_assoc, k1]
      · have hc : i * sh.length + sh.length ≤ len * sh.length := by
          rw [← Nat.succ_mul]; exact Nat.mul_le_mul_right _ hi
        rw [List.getElem?_eq_none (by simp; omega), List.getElem?_eq_none (by omega)]
    rw [this]; exact h2
/-- The same, told as one row of elements. -/
theorem inS_rows {w : World} {sh : List Sc} {α : Type} {f : α → List Value} (hf : ∀ cs, Fits sh cs → ∃ x, cs = f x) : ∀ {len : Nat} {l : List Value} {off : Nat}, off + len * sh.length ≤ l.length →
    (∀ i, i < len → Fits sh ((l.drop (off + i * sh.length)).take sh.length)) → ∃ xs : List α, xs.length = len ∧ (l.drop off).take (len * sh.length) = (xs.map f).flatten
  | 0, l, off, _, _ => ⟨[], rfl, by simp⟩
  | len + 1, l, off, hl, h => by
    have h0 := h 0 (by omega)
    rw [Nat.zero_mul, Nat.add_zero] at h0
    obtain ⟨x, hx⟩ := hf _ h0
    rw [Nat.succ_mul] at hl
    obtain ⟨xs, h1, h2⟩ := inS_rows (w := w) hf (len := len) (l := l) (off := off + sh.length) (by omega) (fun i hi => by
      have := h (i + 1) (by omega)
      rw [Nat.succ_mul] at this
      rw [show off + sh.length + i * sh.length = off + (i * sh.length + sh.length) from by omega]
      exact this)
    refine ⟨x :: xs, by simp [h1], ?_⟩
    rw [Nat.succ_mul, Nat.add_comm (len * sh.length), List.take_add, List.drop_drop, hx, h2]
    rfl
end
end Go.Sl

/- Rows over a slice of deeds on numbers (own work). -/
set_option linter.unusedVariables false
namespace Go.Sl
open Go.RowKit
theorem fits_a8 {cs : List Value} (h : Fits [.int .u8, .int .u64, .int .i64] cs) : ∃ x, cs = a8c x := by
  obtain ⟨_, _, rfl, ⟨a, rfl, ha⟩, g1⟩ := Fits.cons_iff.1 h
  obtain ⟨_, _, rfl, ⟨b, rfl, hb⟩, g2⟩ := Fits.cons_iff.1 g1
  obtain ⟨_, _, rfl, ⟨c, rfl, _⟩, g3⟩ := Fits.cons_iff.1 g2
  obtain rfl := Fits.nil_iff.1 g3
  have h1 := bounds_u8 ha
  have h2 := bounds_u64 hb
  refine ⟨(UInt8.ofNat a.toNat, UInt64.ofNat b.toNat, c), ?_⟩
  simp
  omega
theorem in_a8 {w : World} {a : Option Addr} {len cap : Nat} (h : InS w [.int .u8, .int .u64, .int .i64] a len cap) : ∃ ds : List A18, len = ds.length ∧ Holds w [] a (a8s ds) := by
  rcases h with ⟨rfl, rfl, rfl⟩ | ⟨x, rfl, h1, h2, h3⟩
  · exact ⟨[], rfl, fun hp => by simp [a8s] at hp⟩
  · rcases Nat.eq_zero_or_pos len with rfl | hp
    · exact ⟨[], rfl, fun hp => by simp [a8s] at hp⟩
    · obtain ⟨b, off, l, T, fr, rfl, hb, hl, hf⟩ := h3 hp
      obtain ⟨ds, hd, ht⟩ := inS_rows (w := w) (f := a8c) (fun cs hc => fits_a8 hc) hl hf
      refine ⟨ds, hd.symm, fun _ => ⟨b, off, l, T, fr, rfl, sees_old hb, ?_, ?_⟩⟩
      · rw [a8s_len, hd]; exact hl
      · rw [a8s_len, hd]; exact ht
end Go.Sl

/- Numbers as bytes, the highest first (own work): plain facts. -/
set_option linter.unusedVariables false
namespace Go.Sl
/-- The bytes of a number, so many. -/
def be (n k : Nat) : List UInt8 := (List.range k).map fun i => UInt8.ofNat (n / 256 ^ (k - 1 - i) % 256)
def val (l : List UInt8) : Nat := l.foldl (fun a b => a * 256 + b.toNat) 0
end Go.Sl

/- Sealed sectors (own work): the little sum, the packed sector, what it is sealed of; plain laws. -/
set_option linter.unusedVariables false
set_option linter.unusedSimpArgs false
namespace Go.Sl
abbrev M64 : Nat := 18446744073709551616
def l1s (x : Nat) (b : UInt8) : Nat := ((x + b.toNat) % M64) * 1099511628211 % M64
def l2s (x : Nat) (b : UInt8) : Nat := (((x + b.toNat) % M64 + 1) % M64) * 1099511628211 % M64
def lsX (x : Nat) : Nat → Nat
  | 0 => x
  | i + 1 => (lsX x i * 6364136223846793005 % M64 + 1442695040888963407) % M64
def litO (x : Nat) : List UInt8 := (List.range 16).map fun i => UInt8.ofNat (lsX x (i + 1) / 72057594037927936)
def ls1 (x : Nat) (k : List UInt8) : Nat := k.foldl l1s x
def ls2 (x : Nat) (u : List UInt8) : Nat := u.foldl l2s x
/-- The little cipher's sum. -/
def litSum (k u : List UInt8) : List UInt8 := litO (ls2 (ls1 (u.length % M64) k) u)
/-! ### The sealed sector -/
def K0 : List UInt8 := List.replicate 32 0
/-- What stands behind the sum. -/
def restS (gen : Nat) (body : List UInt8) : List UInt8 := be gen 8 ++ (UInt8.ofNat body.length :: (body ++ List.replicate (103 - body.length) 0))
def sumS (a : Nat) (s : List UInt8) : List UInt8 := litSum K0 (be a 4 ++ s.drop 16)
def packS (a gen : Nat) (body : List UInt8) : Sec := sumS a (List.replicate 16 0 ++ restS gen body) ++ restS gen body
abbrev packOk (a : Int) (body : List UInt8) : Prop := 0 ≤ a ∧ a < 4096 ∧ body.length ≤ 103
def genS (s : Sec) : Nat := val ((s.drop 16).take 8)
def lenS (s : Sec) : Nat := (s.getD 24 0).toNat
def bodyS (s : Sec) : List UInt8 := (s.drop 25).take (lenS s)
/-- Is it sealed at the place? -/
abbrev isS (a : Int) (s : Sec) : Prop := lenS s ≤ 103 ∧ 0 ≤ a ∧ a < 4096 ∧ packS a.toNat (genS s) (bodyS s) = s
/-! ### A sector while it is packed -/
def pS1 (gen : Nat) : List UInt8 := List.replicate 16 0 ++ (be gen 8 ++ List.replicate 104 0)
def pS2 (gen n : Nat) : List UInt8 := List.replicate 16 0 ++ (be gen 8 ++ (UInt8.ofNat n :: List.replicate 103 0))
def pS3 (gen : Nat) (body : List UInt8) : List UInt8 := List.replicate 16 0 ++ restS gen body
/-! ### What both tell -/
def packR (a : Int) (gen : Nat) (body : List UInt8) : Sec := if packOk a body then packS a.toNat gen body else secOf 0
def unpG (a : Int) (s : Sec) : Nat := if isS a s then genS s else 0
def unpB (a : Int) (s : Sec) : List UInt8 := if isS a s then bodyS s else []
/-! ### The document's packing -/
theorem map_set {α : Type} (f f' : Nat → α) (n i : Nat) (h : ∀ j, j ≠ i → f j = f' j) : ((List.range n).map f).set i (f' i) = (List.range n).map f' := by
  apply List.ext_getElem?
  intro j
  rw [List.getElem?_set]
  by_cases hj : i = j
  · subst hj
    by_cases hi : i < n <;> simp [hi]
  · simp only [hj, if_false, List.getElem?_map]
    by_cases hi : j < n
    · simp [hi, h j (Ne.symm hj)]
    · simp [List.getElem?_eq_none (show (List.range n).length ≤ j by simp; omega)]
def rB (gen k : Nat) : List UInt8 := (List.range 8).map fun j => if 8 ≤ j + k then UInt8.ofNat (gen / 256 ^ (7 - j) % 256) else 0
def rP0 (gen k : Nat) : List UInt8 := List.replicate 16 0 ++ (rB gen k ++ List.replicate 104 0)
def rP2 (gen : Nat) (body : List UInt8) (i : Nat) : List UInt8 := (List.replicate 16 0 ++ (be gen 8 ++ [UInt8.ofNat body.length])) ++ ((body.take i ++ List.replicate (103 - i) 0) ++ [])
def rP4 (gen : Nat) (body x : List UInt8) (i : Nat) : List UInt8 := [] ++ ((x.take i ++ List.replicate (16 - i) 0) ++ restS gen body)
/-! ### Laws -/
/-- The document's example. -/
abbrev abc : List UInt8 := [97, 98, 99]
def abcS : Sec := packS 5 7 abc
end Go.Sl

/- Rows over bytes (own work). -/
set_option linter.unusedVariables false
namespace Go.Sl
open Go.RowKit
end Go.Sl

