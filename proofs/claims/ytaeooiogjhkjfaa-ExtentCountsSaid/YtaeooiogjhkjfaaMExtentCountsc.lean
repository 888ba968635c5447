/- Own work: texts G3W, G4W, put together. -/
import Derived.Test.YtaeooiogjhkjfaaMExtentCountsb
/- walks (own work; the walks' lines by a program of this repo). -/
set_option linter.unusedVariables false
set_option linter.unusedSimpArgs false
set_option maxRecDepth 20000
namespace Go.Proofs.Ytaeooiogjhkjfaa
open Go.Sl
attribute [local irreducible] BodyQ WpC WpL WpS WpH OpW FnS



set_option maxHeartbeats 2000000 in

theorem part_u {w0 : World} {H : Hp} {sb n cap : Nat} {sp : List Value} (d : Array Nat) (hd : d.size = n) (hn : n < 4611686018427387904) (a b pivot : Nat) (hap : a ≤ pivot) (hpb : pivot < b) (hb : b ≤ n) : FnS Try.prog w0 110 #[(.slice (some ⟨sb, 0, none⟩) n cap), .int .i64 ((a : Nat) : Int), .int .i64 ((b : Nat) : Int), .int .i64 ((pivot : Nat) : Int)] (useg 58 sb d sp :: H) (fun e H' => e = .returned (.tuple #[.int .i64 ((Go.Sort.partition ltN d a b pivot).1 : Int), .bool (Go.Sort.partition ltN d a b pivot).2.1]) ∧ H' = useg 58 sb (Go.Sort.partition ltN d a b pivot).2.2 sp :: H) := by
  refine FnS_intro (n := 168) (rs := [.tmp 8, .tmp 9]) (vs := [(.slice (some ⟨sb, 0, none⟩) n cap), .int .i64 ((a : Nat) : Int), .int .i64 ((b : Nat) : Int), .int .i64 ((pivot : Nat) : Int)]) Try.func110 rfl Try.ntmps110 rfl rfl ?_
  refine C_seq ?_
  refine C_region ?_
  refine L_y rfl (y_assign rfl) rfl ?_
  refine L_y rfl (y_assign rfl) rfl ?_
  refine L_nil ?_
  refine C_seq ?_
  refine C_regionH H (by kernel_rfl) ?_
  refine H_y 0 rfl (by kernel_rfl) (by kernel_rfl) (by kernel_rfl) ((hsub (.cons _ (.refl _)))) rfl (y_move rfl) rfl ?_
  refine H_y 1 rfl (by kernel_rfl) (by kernel_rfl) (by kernel_rfl) ((hsub (.cons _ (.refl _)))) rfl (y_move rfl) rfl ?_
  refine H_y 2 rfl (by kernel_rfl) (by kernel_rfl) (by kernel_rfl) ((hsub (.cons _ (.refl _)))) rfl (y_move rfl) rfl ?_
  refine H_y 3 rfl (by kernel_rfl) (by kernel_rfl) (by kernel_rfl) ((hsub (.cons _ (.refl _)))) rfl (y_move rfl) rfl ?_
  refine H_y 4 rfl (by kernel_rfl) (by kernel_rfl) (by kernel_rfl) ((hsub (.cons _ (.refl _)))) rfl (y_move rfl) rfl ?_
  refine H_y 5 rfl (by kernel_rfl) (by kernel_rfl) (by kernel_rfl) ((hsub (.cons _ (.refl _)))) rfl (y_move rfl) rfl ?_
  refine H_y 6 rfl (by kernel_rfl) (by kernel_rfl) (by kernel_rfl) ((hsub (.cons _ (.refl _)))) rfl (y_indexS rfl rfl Try.underlying63 sz_58 (by omega) (by omega) (ix0 (pivot))) rfl ?_
  refine H_y 8 rfl (by kernel_rfl) (by kernel_rfl) (by kernel_rfl) ((hsub (.cons _ (.refl _)))) rfl (y_move rfl) rfl ?_
  refine H_y 9 rfl (by kernel_rfl) (by kernel_rfl) (by kernel_rfl) ((hsub (.cons _ (.refl _)))) rfl (y_move rfl) rfl ?_
  refine H_y 10 rfl (by kernel_rfl) (by kernel_rfl) (by kernel_rfl) ((hsub (.cons _ (.refl _)))) rfl (y_indexS rfl rfl Try.underlying63 sz_58 (by omega) (by omega) (ix0 (a))) rfl ?_
  refine H_two 7 11 rfl rfl (by kernel_rfl) rfl rfl ?_ ?_
  · refine op_y (y_load rfl ag_58 (sees 0 0 rfl) (us_at (by omega))) rfl ?_
    refine ⟨(hsub (.cons _ (.refl _))), ?_⟩
    refine H_one 11 rfl (by kernel_rfl) rfl (op_y (y_load rfl ag_58 (sees 0 0 rfl) (us_at (by omega))) rfl ?_)
    refine ⟨(hsub (.cons _ (.refl _))), ?_⟩
    refine H_y 12 rfl (by kernel_rfl) (by kernel_rfl) (by kernel_rfl) ((hsub (.cons _ (.refl _)))) rfl (y_indexS rfl rfl Try.underlying63 sz_58 (by omega) (by omega) (ix0 (a))) rfl ?_
    refine H_one 13 rfl (by kernel_rfl) rfl (op_store1 0 0 rfl rfl rfl sz_58 rfl (us_lt (by omega)) ?_)
    refine ⟨(hsub (.cons _ (.refl _))), ?_⟩
    refine H_y 14 rfl (by kernel_rfl) (by kernel_rfl) (by kernel_rfl) ((hsub (.cons _ (.refl _)))) rfl (y_indexS rfl rfl Try.underlying63 sz_58 (by omega) (by omega) (ix0 (pivot))) rfl ?_
    refine H_one 15 rfl (by kernel_rfl) rfl (op_store1 0 0 rfl rfl rfl sz_58 rfl (by rw [List.length_set]; exact us_lt (by omega)) ?_)
    refine ⟨(hsub (.cons _ (.refl _))), ?_⟩
    refine H_done (by kernel_rfl) ?_
    rw [us_swp (by omega) (by omega)]
    obtain ⟨d1, hd1⟩ : ∃ y, y = Go.Sort.swp d a pivot := ⟨_, rfl⟩
    rw [← hd1]
    have hsd1 : d1.size = n := by rw [hd1, swp_size]; omega
    refine C_seq ?_
    refine C_region ?_
    refine L_y rfl (y_move rfl) rfl ?_
    refine L_y rfl (y_add rfl rfl (show _ = ((a + 1 : Nat) : Int) from by rw [wi64 (by omega) (by omega)]; omega)) rfl ?_
    refine L_y rfl (y_move rfl) rfl ?_
    refine L_y rfl (y_sub rfl rfl (show _ = ((b - 1 : Nat) : Int) from by rw [wi64 (by omega) (by omega)]; omega)) rfl ?_
    refine L_y rfl (y_assign rfl) rfl ?_
    refine L_y rfl (y_assign rfl) rfl ?_
    refine L_nil ?_
    refine C_cutG (ι := Nat) (fun t => a < t ∧ t ≤ b ∧ (a + 1) ≤ t ∧ Go.Sort.scanUp (upP a d1) d1 (b - 1) (a + 1) = t) (fun t => [(0, (.slice (some ⟨sb, 0, none⟩) n cap)), (1, .int .i64 ((a : Nat) : Int)), (2, .int .i64 ((b : Nat) : Int)), (10, .int .i64 ((t : Nat) : Int)), (11, .int .i64 (((b - 1) : Nat) : Int))]) (fun t => useg 58 sb d1 sp :: H) ?_ (fun t ht => ?_)
    · refine C_block ?_
      refine C_loop (ι := Nat) (fun t => [(0, (.slice (some ⟨sb, 0, none⟩) n cap)), (1, .int .i64 ((a : Nat) : Int)), (2, .int .i64 ((b : Nat) : Int)), (10, .int .i64 ((t : Nat) : Int)), (11, .int .i64 (((b - 1) : Nat) : Int))]) (fun t => useg 58 sb d1 sp :: H) (fun t => a < t ∧ t ≤ b ∧ (a + 1) ≤ t ∧ Go.Sort.scanUp (upP a d1) d1 (b - 1) t = Go.Sort.scanUp (upP a d1) d1 (b - 1) (a + 1)) (fun t => (b - 1) + 1 - t) (a + 1) (by refine ⟨by omega, by omega, by omega, rfl⟩ <;> omega) ⟨rfl, rfl, rfl, rfl, rfl, trivial⟩ ((hsub (.cons_cons _ (.refl _))).trans (hsub_pick [0] rfl)) (fun t ht => ?_)
      obtain ⟨ht1, ht2, ht3, hts⟩ := ht
      refine C_seq ?_
      refine C_seq ?_
      refine C_regionH0 (by kernel_rfl) ?_
      refine H_y 0 rfl (by kernel_rfl) (by kernel_rfl) (by kernel_rfl) (HSub.refl _) rfl (y_move rfl) rfl ?_
      refine H_y 1 rfl (by kernel_rfl) (by kernel_rfl) (by kernel_rfl) (HSub.refl _) rfl (y_move rfl) rfl ?_
      refine H_y 2 rfl (by kernel_rfl) (by kernel_rfl) (by kernel_rfl) (HSub.refl _) rfl (y_leq rfl rfl) rfl ?_
      refine H_y 3 rfl (by kernel_rfl) (by kernel_rfl) (by kernel_rfl) (HSub.refl _) rfl (y_move rfl) rfl ?_
      refine H_case 33 rfl (fun hg3_4 => ?_) (fun hg3_4 => ?_)
      · have hle : t ≤ (b - 1) := by have := of_decide_eq_true hg3_4; omega
        refine H_y 4 rfl (by kernel_rfl) (by kernel_rfl) (by kernel_rfl) (HSub.refl _) rfl (y_move rfl) rfl ?_
        refine H_y 5 rfl (by kernel_rfl) (by kernel_rfl) (by kernel_rfl) (HSub.refl _) rfl (y_move rfl) rfl ?_
        refine H_y 6 rfl (by kernel_rfl) (by kernel_rfl) (by kernel_rfl) (HSub.refl _) rfl (y_indexS rfl rfl Try.underlying63 sz_58 (by omega) (by omega) (ix0 (t))) rfl ?_
        refine H_y 7 rfl (by kernel_rfl) (by kernel_rfl) (by kernel_rfl) (HSub.refl _) rfl (y_load rfl ag_58 (sees 0 0 rfl) (us_at (by omega))) rfl ?_
        refine H_y 8 rfl (by kernel_rfl) (by kernel_rfl) (by kernel_rfl) (HSub.refl _) rfl (y_move rfl) rfl ?_
        refine H_y 9 rfl (by kernel_rfl) (by kernel_rfl) (by kernel_rfl) (HSub.refl _) rfl (y_move rfl) rfl ?_
        refine H_y 10 rfl (by kernel_rfl) (by kernel_rfl) (by kernel_rfl) (HSub.refl _) rfl (y_indexS rfl rfl Try.underlying63 sz_58 (by omega) (by omega) (ix0 (a))) rfl ?_
        refine H_y 11 rfl (by kernel_rfl) (by kernel_rfl) (by kernel_rfl) (HSub.refl _) rfl (y_load rfl ag_58 (sees 0 0 rfl) (us_at (by omega))) rfl ?_
        refine H_one 12 rfl (by kernel_rfl) rfl (op_call rfl rfl (fun a w => Try.call108 a w) rfl ?_)
        refine (less_u (d1[t]!) (d1[a]!)).mono ?_
        rintro _ _ ⟨rfl, e⟩
        obtain rfl := e.symm
        clear e
        refine ⟨_, rfl, ?_⟩
        refine ⟨HSub.refl _, ?_⟩
        refine H_y 13 rfl (by kernel_rfl) (by kernel_rfl) (by kernel_rfl) (HSub.refl _) rfl (y_pick_t rfl rfl) rfl ?_
        refine H_done (by kernel_rfl) ?_
        refine C_cond rfl (fun hc0 => ?_) (fun hc0 => ?_)
        · have hpt : (upP a d1) d1[t]! = true := hc0
          refine C_skip ?_
          refine C_block ?_
          refine C_region ?_
          refine L_y rfl (y_move rfl) rfl ?_
          refine L_y rfl (y_add rfl rfl (show _ = ((t + 1 : Nat) : Int) from by rw [wi64 (by omega) (by omega)]; omega)) rfl ?_
          refine L_y rfl (y_assign rfl) rfl ?_
          refine L_nil ?_
          exact ⟨t + 1, ⟨by omega, by omega, by omega, by rw [← hts, su_go hle hpt]⟩, by omega, ⟨rfl, rfl, rfl, rfl, rfl, trivial⟩, ((hsub (.cons_cons _ (.refl _))).trans (hsub_pick [0] rfl))⟩
        · have hfin := hts.symm.trans (su_stop (p := (upP a d1)) (d := d1) (.inr hc0))
          refine C_exit ?_
          exact ⟨t, ⟨ht1, ht2, ht3, hfin⟩, ⟨rfl, rfl, rfl, rfl, rfl, trivial⟩, ((hsub (.cons_cons _ (.refl _))).trans (hsub_pick [0] rfl))⟩
      · have hle : ¬ t ≤ (b - 1) := by have := of_decide_eq_false hg3_4; omega
        have hfin := hts.symm.trans (su_stop (p := (upP a d1)) (d := d1) (.inl hle))
        refine H_skip 4 rfl (by kernel_rfl) (by kernel_rfl) (by kernel_rfl) (HSub.refl _) rfl rfl ?_
        refine H_skip 5 rfl (by kernel_rfl) (by kernel_rfl) (by kernel_rfl) (HSub.refl _) rfl rfl ?_
        refine H_skip 6 rfl (by kernel_rfl) (by kernel_rfl) (by kernel_rfl) (HSub.refl _) rfl rfl ?_
        refine H_skip 7 rfl (by kernel_rfl) (by kernel_rfl) (by kernel_rfl) (HSub.refl _) rfl rfl ?_
        refine H_skip 8 rfl (by kernel_rfl) (by kernel_rfl) (by kernel_rfl) (HSub.refl _) rfl rfl ?_
        refine H_skip 9 rfl (by kernel_rfl) (by kernel_rfl) (by kernel_rfl) (HSub.refl _) rfl rfl ?_
        refine H_skip 10 rfl (by kernel_rfl) (by kernel_rfl) (by kernel_rfl) (HSub.refl _) rfl rfl ?_
        refine H_skip 11 rfl (by kernel_rfl) (by kernel_rfl) (by kernel_rfl) (HSub.refl _) rfl rfl ?_
        refine H_skip 12 rfl (by kernel_rfl) (by kernel_rfl) (by kernel_rfl) (HSub.refl _) rfl rfl ?_
        refine H_y 13 rfl (by kernel_rfl) (by kernel_rfl) (by kernel_rfl) (HSub.refl _) rfl (y_pick_f rfl rfl) rfl ?_
        refine H_done (by kernel_rfl) ?_
        refine C_cond_f rfl ?_
        refine C_exit ?_
        exact ⟨t, ⟨ht1, ht2, ht3, hfin⟩, ⟨rfl, rfl, rfl, rfl, rfl, trivial⟩, ((hsub (.cons_cons _ (.refl _))).trans (hsub_pick [0] rfl))⟩
    · rename Nat => i
      obtain ⟨qi0, qi1, qi2, hi⟩ := ht
      refine C_cutG (ι := Nat) (fun t => t < b ∧ t ≤ (b - 1) ∧ Go.Sort.scanDown (dnP a d1) d1 i (b - 1) = t) (fun t => [(0, (.slice (some ⟨sb, 0, none⟩) n cap)), (1, .int .i64 ((a : Nat) : Int)), (2, .int .i64 ((b : Nat) : Int)), (10, .int .i64 ((i : Nat) : Int)), (11, .int .i64 ((t : Nat) : Int))]) (fun t => useg 58 sb d1 sp :: H) ?_ (fun t ht => ?_)
      · refine C_block ?_
        refine C_loop (ι := Nat) (fun t => [(0, (.slice (some ⟨sb, 0, none⟩) n cap)), (1, .int .i64 ((a : Nat) : Int)), (2, .int .i64 ((b : Nat) : Int)), (10, .int .i64 ((i : Nat) : Int)), (11, .int .i64 ((t : Nat) : Int))]) (fun t => useg 58 sb d1 sp :: H) (fun t => t < b ∧ t ≤ (b - 1) ∧ Go.Sort.scanDown (dnP a d1) d1 i t = Go.Sort.scanDown (dnP a d1) d1 i (b - 1)) (fun t => t) (b - 1) (by refine ⟨by omega, by omega, rfl⟩ <;> omega) ⟨rfl, rfl, rfl, rfl, rfl, trivial⟩ ((hsub (.cons_cons _ (.refl _))).trans (hsub_pick [0] rfl)) (fun t ht => ?_)
        obtain ⟨ht1, ht2, hts⟩ := ht
        refine C_seq ?_
        refine C_seq ?_
        refine C_regionH0 (by kernel_rfl) ?_
        refine H_y 0 rfl (by kernel_rfl) (by kernel_rfl) (by kernel_rfl) (HSub.refl _) rfl (y_move rfl) rfl ?_
        refine H_y 1 rfl (by kernel_rfl) (by kernel_rfl) (by kernel_rfl) (HSub.refl _) rfl (y_move rfl) rfl ?_
        refine H_y 2 rfl (by kernel_rfl) (by kernel_rfl) (by kernel_rfl) (HSub.refl _) rfl (y_leq rfl rfl) rfl ?_
        refine H_y 3 rfl (by kernel_rfl) (by kernel_rfl) (by kernel_rfl) (HSub.refl _) rfl (y_move rfl) rfl ?_
        refine H_case 49 rfl (fun hg5_4 => ?_) (fun hg5_4 => ?_)
        · have hle : i ≤ t := by have := of_decide_eq_true hg5_4; omega
          refine H_y 4 rfl (by kernel_rfl) (by kernel_rfl) (by kernel_rfl) (HSub.refl _) rfl (y_move rfl) rfl ?_
          refine H_y 5 rfl (by kernel_rfl) (by kernel_rfl) (by kernel_rfl) (HSub.refl _) rfl (y_move rfl) rfl ?_
          refine H_y 6 rfl (by kernel_rfl) (by kernel_rfl) (by kernel_rfl) (HSub.refl _) rfl (y_indexS rfl rfl Try.underlying63 sz_58 (by omega) (by omega) (ix0 (t))) rfl ?_
          refine H_y 7 rfl (by kernel_rfl) (by kernel_rfl) (by kernel_rfl) (HSub.refl _) rfl (y_load rfl ag_58 (sees 0 0 rfl) (us_at (by omega))) rfl ?_
          refine H_y 8 rfl (by kernel_rfl) (by kernel_rfl) (by kernel_rfl) (HSub.refl _) rfl (y_move rfl) rfl ?_
          refine H_y 9 rfl (by kernel_rfl) (by kernel_rfl) (by kernel_rfl) (HSub.refl _) rfl (y_move rfl) rfl ?_
          refine H_y 10 rfl (by kernel_rfl) (by kernel_rfl) (by kernel_rfl) (HSub.refl _) rfl (y_indexS rfl rfl Try.underlying63 sz_58 (by omega) (by omega) (ix0 (a))) rfl ?_
          refine H_y 11 rfl (by kernel_rfl) (by kernel_rfl) (by kernel_rfl) (HSub.refl _) rfl (y_load rfl ag_58 (sees 0 0 rfl) (us_at (by omega))) rfl ?_
          refine H_one 12 rfl (by kernel_rfl) rfl (op_call rfl rfl (fun a w => Try.call108 a w) rfl ?_)
          refine (less_u (d1[t]!) (d1[a]!)).mono ?_
          rintro _ _ ⟨rfl, e⟩
          obtain rfl := e.symm
          clear e
          refine ⟨_, rfl, ?_⟩
          refine ⟨HSub.refl _, ?_⟩
          refine H_y 13 rfl (by kernel_rfl) (by kernel_rfl) (by kernel_rfl) (HSub.refl _) rfl (y_not rfl) rfl ?_
          refine H_y 14 rfl (by kernel_rfl) (by kernel_rfl) (by kernel_rfl) (HSub.refl _) rfl (y_pick_t rfl rfl) rfl ?_
          refine H_done (by kernel_rfl) ?_
          refine C_cond rfl (fun hc1 => ?_) (fun hc1 => ?_)
          · have hpt : (dnP a d1) d1[t]! = true := hc1
            refine C_skip ?_
            refine C_block ?_
            refine C_region ?_
            refine L_y rfl (y_move rfl) rfl ?_
            refine L_y rfl (y_sub rfl rfl (show _ = ((t - 1 : Nat) : Int) from by rw [wi64 (by omega) (by omega)]; omega)) rfl ?_
            refine L_y rfl (y_assign rfl) rfl ?_
            refine L_nil ?_
            exact ⟨t - 1, ⟨by omega, by omega, by rw [← hts, sn_go hle (by omega) hpt]⟩, by omega, ⟨rfl, rfl, rfl, rfl, rfl, trivial⟩, ((hsub (.cons_cons _ (.refl _))).trans (hsub_pick [0] rfl))⟩
          · have hfin := hts.symm.trans (sn_stop (p := (dnP a d1)) (d := d1) (.inr hc1))
            refine C_exit ?_
            exact ⟨t, ⟨ht1, ht2, hfin⟩, ⟨rfl, rfl, rfl, rfl, rfl, trivial⟩, ((hsub (.cons_cons _ (.refl _))).trans (hsub_pick [0] rfl))⟩
        · have hle : ¬ i ≤ t := by have := of_decide_eq_false hg5_4; omega
          have hfin := hts.symm.trans (sn_stop (p := (dnP a d1)) (d := d1) (.inl hle))
          refine H_skip 4 rfl (by kernel_rfl) (by kernel_rfl) (by kernel_rfl) (HSub.refl _) rfl rfl ?_
          refine H_skip 5 rfl (by kernel_rfl) (by kernel_rfl) (by kernel_rfl) (HSub.refl _) rfl rfl ?_
          refine H_skip 6 rfl (by kernel_rfl) (by kernel_rfl) (by kernel_rfl) (HSub.refl _) rfl rfl ?_
          refine H_skip 7 rfl (by kernel_rfl) (by kernel_rfl) (by kernel_rfl) (HSub.refl _) rfl rfl ?_
          refine H_skip 8 rfl (by kernel_rfl) (by kernel_rfl) (by kernel_rfl) (HSub.refl _) rfl rfl ?_
          refine H_skip 9 rfl (by kernel_rfl) (by kernel_rfl) (by kernel_rfl) (HSub.refl _) rfl rfl ?_
          refine H_skip 10 rfl (by kernel_rfl) (by kernel_rfl) (by kernel_rfl) (HSub.refl _) rfl rfl ?_
          refine H_skip 11 rfl (by kernel_rfl) (by kernel_rfl) (by kernel_rfl) (HSub.refl _) rfl rfl ?_
          refine H_skip 12 rfl (by kernel_rfl) (by kernel_rfl) (by kernel_rfl) (HSub.refl _) rfl rfl ?_
          refine H_skip 13 rfl (by kernel_rfl) (by kernel_rfl) (by kernel_rfl) (HSub.refl _) rfl rfl ?_
          refine H_y 14 rfl (by kernel_rfl) (by kernel_rfl) (by kernel_rfl) (HSub.refl _) rfl (y_pick_f rfl rfl) rfl ?_
          refine H_done (by kernel_rfl) ?_
          refine C_cond_f rfl ?_
          refine C_exit ?_
          exact ⟨t, ⟨ht1, ht2, hfin⟩, ⟨rfl, rfl, rfl, rfl, rfl, trivial⟩, ((hsub (.cons_cons _ (.refl _))).trans (hsub_pick [0] rfl))⟩
      · rename Nat => j
        obtain ⟨qj0, qj1, hj⟩ := ht
        refine C_seq ?_
        refine C_seq ?_
        refine C_region ?_
        refine L_y rfl (y_move rfl) rfl ?_
        refine L_y rfl (y_move rfl) rfl ?_
        refine L_y rfl (y_gtr rfl rfl) rfl ?_
        refine L_nil ?_
        refine C_cond rfl (fun hc2 => ?_) (fun hc2 => ?_)
        · replace hc2 : j < i := by have := of_decide_eq_true hc2; omega
          refine C_seq ?_
          refine C_regionH H (by kernel_rfl) ?_
          refine H_y 0 rfl (by kernel_rfl) (by kernel_rfl) (by kernel_rfl) ((hsub (.cons _ (.refl _)))) rfl (y_move rfl) rfl ?_
          refine H_y 1 rfl (by kernel_rfl) (by kernel_rfl) (by kernel_rfl) ((hsub (.cons _ (.refl _)))) rfl (y_move rfl) rfl ?_
          refine H_y 2 rfl (by kernel_rfl) (by kernel_rfl) (by kernel_rfl) ((hsub (.cons _ (.refl _)))) rfl (y_move rfl) rfl ?_
          refine H_y 3 rfl (by kernel_rfl) (by kernel_rfl) (by kernel_rfl) ((hsub (.cons _ (.refl _)))) rfl (y_move rfl) rfl ?_
          refine H_y 4 rfl (by kernel_rfl) (by kernel_rfl) (by kernel_rfl) ((hsub (.cons _ (.refl _)))) rfl (y_move rfl) rfl ?_
          refine H_y 5 rfl (by kernel_rfl) (by kernel_rfl) (by kernel_rfl) ((hsub (.cons _ (.refl _)))) rfl (y_move rfl) rfl ?_
          refine H_y 6 rfl (by kernel_rfl) (by kernel_rfl) (by kernel_rfl) ((hsub (.cons _ (.refl _)))) rfl (y_indexS rfl rfl Try.underlying63 sz_58 (by omega) (by omega) (ix0 (a))) rfl ?_
          refine H_y 8 rfl (by kernel_rfl) (by kernel_rfl) (by kernel_rfl) ((hsub (.cons _ (.refl _)))) rfl (y_move rfl) rfl ?_
          refine H_y 9 rfl (by kernel_rfl) (by kernel_rfl) (by kernel_rfl) ((hsub (.cons _ (.refl _)))) rfl (y_move rfl) rfl ?_
          refine H_y 10 rfl (by kernel_rfl) (by kernel_rfl) (by kernel_rfl) ((hsub (.cons _ (.refl _)))) rfl (y_indexS rfl rfl Try.underlying63 sz_58 (by omega) (by omega) (ix0 (j))) rfl ?_
          refine H_two 7 11 rfl rfl (by kernel_rfl) rfl rfl ?_ ?_
          · refine op_y (y_load rfl ag_58 (sees 0 0 rfl) (us_at (by omega))) rfl ?_
            refine ⟨(hsub (.cons _ (.refl _))), ?_⟩
            refine H_one 11 rfl (by kernel_rfl) rfl (op_y (y_load rfl ag_58 (sees 0 0 rfl) (us_at (by omega))) rfl ?_)
            refine ⟨(hsub (.cons _ (.refl _))), ?_⟩
            refine H_y 12 rfl (by kernel_rfl) (by kernel_rfl) (by kernel_rfl) ((hsub (.cons _ (.refl _)))) rfl (y_indexS rfl rfl Try.underlying63 sz_58 (by omega) (by omega) (ix0 (j))) rfl ?_
            refine H_one 13 rfl (by kernel_rfl) rfl (op_store1 0 0 rfl rfl rfl sz_58 rfl (us_lt (by omega)) ?_)
            refine ⟨(hsub (.cons _ (.refl _))), ?_⟩
            refine H_y 14 rfl (by kernel_rfl) (by kernel_rfl) (by kernel_rfl) ((hsub (.cons _ (.refl _)))) rfl (y_indexS rfl rfl Try.underlying63 sz_58 (by omega) (by omega) (ix0 (a))) rfl ?_
            refine H_one 15 rfl (by kernel_rfl) rfl (op_store1 0 0 rfl rfl rfl sz_58 rfl (by rw [List.length_set]; exact us_lt (by omega)) ?_)
            refine ⟨(hsub (.cons _ (.refl _))), ?_⟩
            refine H_done (by kernel_rfl) ?_
            rw [us_swp (by omega) (by omega)]
            refine C_seq ?_
            refine C_region ?_
            refine L_y rfl (y_move rfl) rfl ?_
            refine L_y rfl (y_assign rfl) rfl ?_
            refine L_y rfl (y_assign rfl) rfl ?_
            refine L_nil ?_
            refine C_ret ?_
            refine B_ret (rv_tmp rfl (rv_tmp rfl rv_nil)) ((hsub (.cons_cons _ (.refl _))).trans (hsub_pick [0] rfl)) ?_
            first
            | (rw [pt_t hd1 hi hj hc2]; exact ⟨rfl, rfl⟩)
            | (rw [pt_f (j2 := v2) (d2 := d3) hd1 hi hj hc2 (by rw [← hd2, ← hr3]; exact pl_stop hu2 hv2 hc5)]; exact ⟨rfl, rfl⟩)
          · refine op_y (y_load rfl ag_58 (sees 0 0 rfl) (us_at (by omega))) rfl ?_
            refine ⟨(hsub (.cons _ (.refl _))), ?_⟩
            refine H_one 7 rfl (by kernel_rfl) rfl (op_y (y_load rfl ag_58 (sees 0 0 rfl) (us_at (by omega))) rfl ?_)
            refine ⟨(hsub (.cons _ (.refl _))), ?_⟩
            refine H_y 12 rfl (by kernel_rfl) (by kernel_rfl) (by kernel_rfl) ((hsub (.cons _ (.refl _)))) rfl (y_indexS rfl rfl Try.underlying63 sz_58 (by omega) (by omega) (ix0 (j))) rfl ?_
            refine H_one 13 rfl (by kernel_rfl) rfl (op_store1 0 0 rfl rfl rfl sz_58 rfl (us_lt (by omega)) ?_)
            refine ⟨(hsub (.cons _ (.refl _))), ?_⟩
            refine H_y 14 rfl (by kernel_rfl) (by kernel_rfl) (by kernel_rfl) ((hsub (.cons _ (.refl _)))) rfl (y_indexS rfl rfl Try.underlying63 sz_58 (by omega) (by omega) (ix0 (a))) rfl ?_
            refine H_one 15 rfl (by kernel_rfl) rfl (op_store1 0 0 rfl rfl rfl sz_58 rfl (by rw [List.length_set]; exact us_lt (by omega)) ?_)
            refine ⟨(hsub (.cons _ (.refl _))), ?_⟩
            refine H_done (by kernel_rfl) ?_
            rw [us_swp (by omega) (by omega)]
            refine C_seq ?_
            refine C_region ?_
            refine L_y rfl (y_move rfl) rfl ?_
            refine L_y rfl (y_assign rfl) rfl ?_
            refine L_y rfl (y_assign rfl) rfl ?_
            refine L_nil ?_
            refine C_ret ?_
            refine B_ret (rv_tmp rfl (rv_tmp rfl rv_nil)) ((hsub (.cons_cons _ (.refl _))).trans (hsub_pick [0] rfl)) ?_
            first
            | (rw [pt_t hd1 hi hj hc2]; exact ⟨rfl, rfl⟩)
            | (rw [pt_f (j2 := v2) (d2 := d3) hd1 hi hj hc2 (by rw [← hd2, ← hr3]; exact pl_stop hu2 hv2 hc5)]; exact ⟨rfl, rfl⟩)
        · replace hc2 : ¬ j < i := by have := of_decide_eq_false hc2; omega
          refine C_skip ?_
          refine C_seq ?_
          refine C_regionH H (by kernel_rfl) ?_
          refine H_y 0 rfl (by kernel_rfl) (by kernel_rfl) (by kernel_rfl) ((hsub (.cons _ (.refl _)))) rfl (y_move rfl) rfl ?_
          refine H_y 1 rfl (by kernel_rfl) (by kernel_rfl) (by kernel_rfl) ((hsub (.cons _ (.refl _)))) rfl (y_move rfl) rfl ?_
          refine H_y 2 rfl (by kernel_rfl) (by kernel_rfl) (by kernel_rfl) ((hsub (.cons _ (.refl _)))) rfl (y_move rfl) rfl ?_
          refine H_y 3 rfl (by kernel_rfl) (by kernel_rfl) (by kernel_rfl) ((hsub (.cons _ (.refl _)))) rfl (y_move rfl) rfl ?_
          refine H_y 4 rfl (by kernel_rfl) (by kernel_rfl) (by kernel_rfl) ((hsub (.cons _ (.refl _)))) rfl (y_move rfl) rfl ?_
          refine H_y 5 rfl (by kernel_rfl) (by kernel_rfl) (by kernel_rfl) ((hsub (.cons _ (.refl _)))) rfl (y_move rfl) rfl ?_
          refine H_y 6 rfl (by kernel_rfl) (by kernel_rfl) (by kernel_rfl) ((hsub (.cons _ (.refl _)))) rfl (y_indexS rfl rfl Try.underlying63 sz_58 (by omega) (by omega) (ix0 (j))) rfl ?_
          refine H_y 8 rfl (by kernel_rfl) (by kernel_rfl) (by kernel_rfl) ((hsub (.cons _ (.refl _)))) rfl (y_move rfl) rfl ?_
          refine H_y 9 rfl (by kernel_rfl) (by kernel_rfl) (by kernel_rfl) ((hsub (.cons _ (.refl _)))) rfl (y_move rfl) rfl ?_
          refine H_y 10 rfl (by kernel_rfl) (by kernel_rfl) (by kernel_rfl) ((hsub (.cons _ (.refl _)))) rfl (y_indexS rfl rfl Try.underlying63 sz_58 (by omega) (by omega) (ix0 (i))) rfl ?_
          refine H_two 7 11 rfl rfl (by kernel_rfl) rfl rfl ?_ ?_
          · refine op_y (y_load rfl ag_58 (sees 0 0 rfl) (us_at (by omega))) rfl ?_
            refine ⟨(hsub (.cons _ (.refl _))), ?_⟩
            refine H_one 11 rfl (by kernel_rfl) rfl (op_y (y_load rfl ag_58 (sees 0 0 rfl) (us_at (by omega))) rfl ?_)
            refine ⟨(hsub (.cons _ (.refl _))), ?_⟩
            refine H_y 12 rfl (by kernel_rfl) (by kernel_rfl) (by kernel_rfl) ((hsub (.cons _ (.refl _)))) rfl (y_indexS rfl rfl Try.underlying63 sz_58 (by omega) (by omega) (ix0 (i))) rfl ?_
            refine H_one 13 rfl (by kernel_rfl) rfl (op_store1 0 0 rfl rfl rfl sz_58 rfl (us_lt (by omega)) ?_)
            refine ⟨(hsub (.cons _ (.refl _))), ?_⟩
            refine H_y 14 rfl (by kernel_rfl) (by kernel_rfl) (by kernel_rfl) ((hsub (.cons _ (.refl _)))) rfl (y_indexS rfl rfl Try.underlying63 sz_58 (by omega) (by omega) (ix0 (j))) rfl ?_
            refine H_one 15 rfl (by kernel_rfl) rfl (op_store1 0 0 rfl rfl rfl sz_58 rfl (by rw [List.length_set]; exact us_lt (by omega)) ?_)
            refine ⟨(hsub (.cons _ (.refl _))), ?_⟩
            refine H_done (by kernel_rfl) ?_
            rw [us_swp (by omega) (by omega)]
            obtain ⟨d2, hd2⟩ : ∃ y, y = Go.Sort.swp d1 i j := ⟨_, rfl⟩
            rw [← hd2]
            have hsd2 : d2.size = n := by rw [hd2, swp_size]; omega
            refine C_seq ?_
            refine C_region ?_
            refine L_y rfl (y_move rfl) rfl ?_
            refine L_y rfl (y_add rfl rfl (show _ = ((i + 1 : Nat) : Int) from by rw [wi64 (by omega) (by omega)]; omega)) rfl ?_
            refine L_y rfl (y_assign rfl) rfl ?_
            refine L_nil ?_
            refine C_seq ?_
            refine C_region ?_
            refine L_y rfl (y_move rfl) rfl ?_
            refine L_y rfl (y_sub rfl rfl (show _ = ((j - 1 : Nat) : Int) from by rw [wi64 (by omega) (by omega)]; omega)) rfl ?_
            refine L_y rfl (y_assign rfl) rfl ?_
            refine L_nil ?_
            refine C_seq ?_
            refine C_block ?_
            refine C_loop (ι := Array Nat × Nat × Nat) (fun x => [(0, (.slice (some ⟨sb, 0, none⟩) n cap)), (1, .int .i64 ((a : Nat) : Int)), (2, .int .i64 ((b : Nat) : Int)), (10, .int .i64 ((x.2.1 : Nat) : Int)), (11, .int .i64 ((x.2.2 : Nat) : Int))]) (fun x => useg 58 sb x.1 sp :: H) (fun x => x.1.size = n ∧ a < x.2.1 ∧ x.2.1 ≤ b ∧ x.2.2 < b ∧ Go.Sort.partLoop ltN a x.2.1 x.2.2 x.1 = Go.Sort.partLoop ltN a (i + 1) (j - 1) d2) (fun x => x.2.2 + 1 - x.2.1) (d2, i + 1, j - 1) ⟨hsd2, by simp only; omega, by simp only; omega, by simp only; omega, rfl⟩ ⟨rfl, rfl, rfl, rfl, rfl, trivial⟩ ((hsub (.cons_cons _ (.refl _))).trans (hsub_pick [0] rfl)) (fun x hx => ?_)
            obtain ⟨d3, u, v⟩ := x
            obtain ⟨hs3, hu1, hu2, hv1, hr3⟩ := hx
            try simp only at hs3 hu1 hu2 hv1 hr3
            try dsimp only
            refine C_block ?_
            refine C_cutG (ι := Nat) (fun t => a < t ∧ t ≤ b ∧ u ≤ t ∧ Go.Sort.scanUp (upP a d3) d3 v u = t) (fun t => [(0, (.slice (some ⟨sb, 0, none⟩) n cap)), (1, .int .i64 ((a : Nat) : Int)), (2, .int .i64 ((b : Nat) : Int)), (10, .int .i64 ((t : Nat) : Int)), (11, .int .i64 ((v : Nat) : Int))]) (fun t => useg 58 sb d3 sp :: H) ?_ (fun t ht => ?_)
            · refine C_block ?_
              refine C_loop (ι := Nat) (fun t => [(0, (.slice (some ⟨sb, 0, none⟩) n cap)), (1, .int .i64 ((a : Nat) : Int)), (2, .int .i64 ((b : Nat) : Int)), (10, .int .i64 ((t : Nat) : Int)), (11, .int .i64 ((v : Nat) : Int))]) (fun t => useg 58 sb d3 sp :: H) (fun t => a < t ∧ t ≤ b ∧ u ≤ t ∧ Go.Sort.scanUp (upP a d3) d3 v t = Go.Sort.scanUp (upP a d3) d3 v u) (fun t => v + 1 - t) u (by refine ⟨by omega, by omega, by omega, rfl⟩ <;> omega) ⟨rfl, rfl, rfl, rfl, rfl, trivial⟩ ((hsub (.cons_cons _ (.refl _))).trans (hsub_pick [0] rfl)) (fun t ht => ?_)
              obtain ⟨ht1, ht2, ht3, hts⟩ := ht
              refine C_seq ?_
              refine C_seq ?_
              refine C_regionH0 (by kernel_rfl) ?_
              refine H_y 0 rfl (by kernel_rfl) (by kernel_rfl) (by kernel_rfl) (HSub.refl _) rfl (y_move rfl) rfl ?_
              refine H_y 1 rfl (by kernel_rfl) (by kernel_rfl) (by kernel_rfl) (HSub.refl _) rfl (y_move rfl) rfl ?_
              refine H_y 2 rfl (by kernel_rfl) (by kernel_rfl) (by kernel_rfl) (HSub.refl _) rfl (y_leq rfl rfl) rfl ?_
              refine H_y 3 rfl (by kernel_rfl) (by kernel_rfl) (by kernel_rfl) (HSub.refl _) rfl (y_move rfl) rfl ?_
              refine H_case 102 rfl (fun hg13_4 => ?_) (fun hg13_4 => ?_)
              · have hle : t ≤ v := by have := of_decide_eq_true hg13_4; omega
                refine H_y 4 rfl (by kernel_rfl) (by kernel_rfl) (by kernel_rfl) (HSub.refl _) rfl (y_move rfl) rfl ?_
                refine H_y 5 rfl (by kernel_rfl) (by kernel_rfl) (by kernel_rfl) (HSub.refl _) rfl (y_move rfl) rfl ?_
                refine H_y 6 rfl (by kernel_rfl) (by kernel_rfl) (by kernel_rfl) (HSub.refl _) rfl (y_indexS rfl rfl Try.underlying63 sz_58 (by omega) (by omega) (ix0 (t))) rfl ?_
                refine H_y 7 rfl (by kernel_rfl) (by kernel_rfl) (by kernel_rfl) (HSub.refl _) rfl (y_load rfl ag_58 (sees 0 0 rfl) (us_at (by omega))) rfl ?_
                refine H_y 8 rfl (by kernel_rfl) (by kernel_rfl) (by kernel_rfl) (HSub.refl _) rfl (y_move rfl) rfl ?_
                refine H_y 9 rfl (by kernel_rfl) (by kernel_rfl) (by kernel_rfl) (HSub.refl _) rfl (y_move rfl) rfl ?_
                refine H_y 10 rfl (by kernel_rfl) (by kernel_rfl) (by kernel_rfl) (HSub.refl _) rfl (y_indexS rfl rfl Try.underlying63 sz_58 (by omega) (by omega) (ix0 (a))) rfl ?_
                refine H_y 11 rfl (by kernel_rfl) (by kernel_rfl) (by kernel_rfl) (HSub.refl _) rfl (y_load rfl ag_58 (sees 0 0 rfl) (us_at (by omega))) rfl ?_
                refine H_one 12 rfl (by kernel_rfl) rfl (op_call rfl rfl (fun a w => Try.call108 a w) rfl ?_)
                refine (less_u (d3[t]!) (d3[a]!)).mono ?_
                rintro _ _ ⟨rfl, e⟩
                obtain rfl := e.symm
                clear e
                refine ⟨_, rfl, ?_⟩
                refine ⟨HSub.refl _, ?_⟩
                refine H_y 13 rfl (by kernel_rfl) (by kernel_rfl) (by kernel_rfl) (HSub.refl _) rfl (y_pick_t rfl rfl) rfl ?_
                refine H_done (by kernel_rfl) ?_
                refine C_cond rfl (fun hc3 => ?_) (fun hc3 => ?_)
                · have hpt : (upP a d3) d3[t]! = true := hc3
                  refine C_skip ?_
                  refine C_block ?_
                  refine C_region ?_
                  refine L_y rfl (y_move rfl) rfl ?_
                  refine L_y rfl (y_add rfl rfl (show _ = ((t + 1 : Nat) : Int) from by rw [wi64 (by omega) (by omega)]; omega)) rfl ?_
                  refine L_y rfl (y_assign rfl) rfl ?_
                  refine L_nil ?_
                  exact ⟨t + 1, ⟨by omega, by omega, by omega, by rw [← hts, su_go hle hpt]⟩, by omega, ⟨rfl, rfl, rfl, rfl, rfl, trivial⟩, ((hsub (.cons_cons _ (.refl _))).trans (hsub_pick [0] rfl))⟩
                · have hfin := hts.symm.trans (su_stop (p := (upP a d3)) (d := d3) (.inr hc3))
                  refine C_exit ?_
                  exact ⟨t, ⟨ht1, ht2, ht3, hfin⟩, ⟨rfl, rfl, rfl, rfl, rfl, trivial⟩, ((hsub (.cons_cons _ (.refl _))).trans (hsub_pick [0] rfl))⟩
              · have hle : ¬ t ≤ v := by have := of_decide_eq_false hg13_4; omega
                have hfin := hts.symm.trans (su_stop (p := (upP a d3)) (d := d3) (.inl hle))
                refine H_skip 4 rfl (by kernel_rfl) (by kernel_rfl) (by kernel_rfl) (HSub.refl _) rfl rfl ?_
                refine H_skip 5 rfl (by kernel_rfl) (by kernel_rfl) (by kernel_rfl) (HSub.refl _) rfl rfl ?_
                refine H_skip 6 rfl (by kernel_rfl) (by kernel_rfl) (by kernel_rfl) (HSub.refl _) rfl rfl ?_
                refine H_skip 7 rfl (by kernel_rfl) (by kernel_rfl) (by kernel_rfl) (HSub.refl _) rfl rfl ?_
                refine H_skip 8 rfl (by kernel_rfl) (by kernel_rfl) (by kernel_rfl) (HSub.refl _) rfl rfl ?_
                refine H_skip 9 rfl (by kernel_rfl) (by kernel_rfl) (by kernel_rfl) (HSub.refl _) rfl rfl ?_
                refine H_skip 10 rfl (by kernel_rfl) (by kernel_rfl) (by kernel_rfl) (HSub.refl _) rfl rfl ?_
                refine H_skip 11 rfl (by kernel_rfl) (by kernel_rfl) (by kernel_rfl) (HSub.refl _) rfl rfl ?_
                refine H_skip 12 rfl (by kernel_rfl) (by kernel_rfl) (by kernel_rfl) (HSub.refl _) rfl rfl ?_
                refine H_y 13 rfl (by kernel_rfl) (by kernel_rfl) (by kernel_rfl) (HSub.refl _) rfl (y_pick_f rfl rfl) rfl ?_
                refine H_done (by kernel_rfl) ?_
                refine C_cond_f rfl ?_
                refine C_exit ?_
                exact ⟨t, ⟨ht1, ht2, ht3, hfin⟩, ⟨rfl, rfl, rfl, rfl, rfl, trivial⟩, ((hsub (.cons_cons _ (.refl _))).trans (hsub_pick [0] rfl))⟩
            · rename Nat => u2
              obtain ⟨qu20, qu21, qu22, hu2⟩ := ht
              refine C_cutG (ι := Nat) (fun t => t < b ∧ t ≤ v ∧ Go.Sort.scanDown (dnP a d3) d3 u2 v = t) (fun t => [(0, (.slice (some ⟨sb, 0, none⟩) n cap)), (1, .int .i64 ((a : Nat) : Int)), (2, .int .i64 ((b : Nat) : Int)), (10, .int .i64 ((u2 : Nat) : Int)), (11, .int .i64 ((t : Nat) : Int))]) (fun t => useg 58 sb d3 sp :: H) ?_ (fun t ht => ?_)
              · refine C_block ?_
                refine C_loop (ι := Nat) (fun t => [(0, (.slice (some ⟨sb, 0, none⟩) n cap)), (1, .int .i64 ((a : Nat) : Int)), (2, .int .i64 ((b : Nat) : Int)), (10, .int .i64 ((u2 : Nat) : Int)), (11, .int .i64 ((t : Nat) : Int))]) (fun t => useg 58 sb d3 sp :: H) (fun t => t < b ∧ t ≤ v ∧ Go.Sort.scanDown (dnP a d3) d3 u2 t = Go.Sort.scanDown (dnP a d3) d3 u2 v) (fun t => t) v (by refine ⟨by omega, by omega, rfl⟩ <;> omega) ⟨rfl, rfl, rfl, rfl, rfl, trivial⟩ ((hsub (.cons_cons _ (.refl _))).trans (hsub_pick [0] rfl)) (fun t ht => ?_)
                obtain ⟨ht1, ht2, hts⟩ := ht
                refine C_seq ?_
                refine C_seq ?_
                refine C_regionH0 (by kernel_rfl) ?_
                refine H_y 0 rfl (by kernel_rfl) (by kernel_rfl) (by kernel_rfl) (HSub.refl _) rfl (y_move rfl) rfl ?_
                refine H_y 1 rfl (by kernel_rfl) (by kernel_rfl) (by kernel_rfl) (HSub.refl _) rfl (y_move rfl) rfl ?_
                refine H_y 2 rfl (by kernel_rfl) (by kernel_rfl) (by kernel_rfl) (HSub.refl _) rfl (y_leq rfl rfl) rfl ?_
                refine H_y 3 rfl (by kernel_rfl) (by kernel_rfl) (by kernel_rfl) (HSub.refl _) rfl (y_move rfl) rfl ?_
                refine H_case 118 rfl (fun hg15_4 => ?_) (fun hg15_4 => ?_)
                · have hle : u2 ≤ t := by have := of_decide_eq_true hg15_4; omega
                  refine H_y 4 rfl (by kernel_rfl) (by kernel_rfl) (by kernel_rfl) (HSub.refl _) rfl (y_move rfl) rfl ?_
                  refine H_y 5 rfl (by kernel_rfl) (by kernel_rfl) (by kernel_rfl) (HSub.refl _) rfl (y_move rfl) rfl ?_
                  refine H_y 6 rfl (by kernel_rfl) (by kernel_rfl) (by kernel_rfl) (HSub.refl _) rfl (y_indexS rfl rfl Try.underlying63 sz_58 (by omega) (by omega) (ix0 (t))) rfl ?_
                  refine H_y 7 rfl (by kernel_rfl) (by kernel_rfl) (by kernel_rfl) (HSub.refl _) rfl (y_load rfl ag_58 (sees 0 0 rfl) (us_at (by omega))) rfl ?_
                  refine H_y 8 rfl (by kernel_rfl) (by kernel_rfl) (by kernel_rfl) (HSub.refl _) rfl (y_move rfl) rfl ?_
                  refine H_y 9 rfl (by kernel_rfl) (by kernel_rfl) (by kernel_rfl) (HSub.refl _) rfl (y_move rfl) rfl ?_
                  refine H_y 10 rfl (by kernel_rfl) (by kernel_rfl) (by kernel_rfl) (HSub.refl _) rfl (y_indexS rfl rfl Try.underlying63 sz_58 (by omega) (by omega) (ix0 (a))) rfl ?_
                  refine H_y 11 rfl (by kernel_rfl) (by kernel_rfl) (by kernel_rfl) (HSub.refl _) rfl (y_load rfl ag_58 (sees 0 0 rfl) (us_at (by omega))) rfl ?_
                  refine H_one 12 rfl (by kernel_rfl) rfl (op_call rfl rfl (fun a w => Try.call108 a w) rfl ?_)
                  refine (less_u (d3[t]!) (d3[a]!)).mono ?_
                  rintro _ _ ⟨rfl, e⟩
                  obtain rfl := e.symm
                  clear e
                  refine ⟨_, rfl, ?_⟩
                  refine ⟨HSub.refl _, ?_⟩
                  refine H_y 13 rfl (by kernel_rfl) (by kernel_rfl) (by kernel_rfl) (HSub.refl _) rfl (y_not rfl) rfl ?_
                  refine H_y 14 rfl (by kernel_rfl) (by kernel_rfl) (by kernel_rfl) (HSub.refl _) rfl (y_pick_t rfl rfl) rfl ?_
                  refine H_done (by kernel_rfl) ?_
                  refine C_cond rfl (fun hc4 => ?_) (fun hc4 => ?_)
                  · have hpt : (dnP a d3) d3[t]! = true := hc4
                    refine C_skip ?_
                    refine C_block ?_
                    refine C_region ?_
                    refine L_y rfl (y_move rfl) rfl ?_
                    refine L_y rfl (y_sub rfl rfl (show _ = ((t - 1 : Nat) : Int) from by rw [wi64 (by omega) (by omega)]; omega)) rfl ?_
                    refine L_y rfl (y_assign rfl) rfl ?_
                    refine L_nil ?_
                    exact ⟨t - 1, ⟨by omega, by omega, by rw [← hts, sn_go hle (by omega) hpt]⟩, by omega, ⟨rfl, rfl, rfl, rfl, rfl, trivial⟩, ((hsub (.cons_cons _ (.refl _))).trans (hsub_pick [0] rfl))⟩
                  · have hfin := hts.symm.trans (sn_stop (p := (dnP a d3)) (d := d3) (.inr hc4))
                    refine C_exit ?_
                    exact ⟨t, ⟨ht1, ht2, hfin⟩, ⟨rfl, rfl, rfl, rfl, rfl, trivial⟩, ((hsub (.cons_cons _ (.refl _))).trans (hsub_pick [0] rfl))⟩
                · have hle : ¬ u2 ≤ t := by have := of_decide_eq_false hg15_4; omega
                  have hfin := hts.symm.trans (sn_stop (p := (dnP a d3)) (d := d3) (.inl hle))
                  refine H_skip 4 rfl (by kernel_rfl) (by kernel_rfl) (by kernel_rfl) (HSub.refl _) rfl rfl ?_
                  refine H_skip 5 rfl (by kernel_rfl) (by kernel_rfl) (by kernel_rfl) (HSub.refl _) rfl rfl ?_
                  refine H_skip 6 rfl (by kernel_rfl) (by kernel_rfl) (by kernel_rfl) (HSub.refl _) rfl rfl ?_
                  refine H_skip 7 rfl (by kernel_rfl) (by kernel_rfl) (by kernel_rfl) (HSub.refl _) rfl rfl ?_
                  refine H_skip 8 rfl (by kernel_rfl) (by kernel_rfl) (by kernel_rfl) (HSub.refl _) rfl rfl ?_
                  refine H_skip 9 rfl (by kernel_rfl) (by kernel_rfl) (by kernel_rfl) (HSub.refl _) rfl rfl ?_
                  refine H_skip 10 rfl (by kernel_rfl) (by kernel_rfl) (by kernel_rfl) (HSub.refl _) rfl rfl ?_
                  refine H_skip 11 rfl (by kernel_rfl) (by kernel_rfl) (by kernel_rfl) (HSub.refl _) rfl rfl ?_
                  refine H_skip 12 rfl (by kernel_rfl) (by kernel_rfl) (by kernel_rfl) (HSub.refl _) rfl rfl ?_
                  refine H_skip 13 rfl (by kernel_rfl) (by kernel_rfl) (by kernel_rfl) (HSub.refl _) rfl rfl ?_
                  refine H_y 14 rfl (by kernel_rfl) (by kernel_rfl) (by kernel_rfl) (HSub.refl _) rfl (y_pick_f rfl rfl) rfl ?_
                  refine H_done (by kernel_rfl) ?_
                  refine C_cond_f rfl ?_
                  refine C_exit ?_
                  exact ⟨t, ⟨ht1, ht2, hfin⟩, ⟨rfl, rfl, rfl, rfl, rfl, trivial⟩, ((hsub (.cons_cons _ (.refl _))).trans (hsub_pick [0] rfl))⟩
              · rename Nat => v2
                obtain ⟨qv20, qv21, hv2⟩ := ht
                refine C_seq ?_
                refine C_seq ?_
                refine C_region ?_
                refine L_y rfl (y_move rfl) rfl ?_
                refine L_y rfl (y_move rfl) rfl ?_
                refine L_y rfl (y_gtr rfl rfl) rfl ?_
                refine L_nil ?_
                refine C_cond rfl (fun hc5 => ?_) (fun hc5 => ?_)
                · replace hc5 : v2 < u2 := by have := of_decide_eq_true hc5; omega
                  refine C_exit ?_
                  refine C_seq ?_
                  refine C_regionH H (by kernel_rfl) ?_
                  refine H_y 0 rfl (by kernel_rfl) (by kernel_rfl) (by kernel_rfl) ((hsub (.cons _ (.refl _)))) rfl (y_move rfl) rfl ?_
                  refine H_y 1 rfl (by kernel_rfl) (by kernel_rfl) (by kernel_rfl) ((hsub (.cons _ (.refl _)))) rfl (y_move rfl) rfl ?_
                  refine H_y 2 rfl (by kernel_rfl) (by kernel_rfl) (by kernel_rfl) ((hsub (.cons _ (.refl _)))) rfl (y_move rfl) rfl ?_
                  refine H_y 3 rfl (by kernel_rfl) (by kernel_rfl) (by kernel_rfl) ((hsub (.cons _ (.refl _)))) rfl (y_move rfl) rfl ?_
                  refine H_y 4 rfl (by kernel_rfl) (by kernel_rfl) (by kernel_rfl) ((hsub (.cons _ (.refl _)))) rfl (y_move rfl) rfl ?_
                  refine H_y 5 rfl (by kernel_rfl) (by kernel_rfl) (by kernel_rfl) ((hsub (.cons _ (.refl _)))) rfl (y_move rfl) rfl ?_
                  refine H_y 6 rfl (by kernel_rfl) (by kernel_rfl) (by kernel_rfl) ((hsub (.cons _ (.refl _)))) rfl (y_indexS rfl rfl Try.underlying63 sz_58 (by omega) (by omega) (ix0 (a))) rfl ?_
                  refine H_y 8 rfl (by kernel_rfl) (by kernel_rfl) (by kernel_rfl) ((hsub (.cons _ (.refl _)))) rfl (y_move rfl) rfl ?_
                  refine H_y 9 rfl (by kernel_rfl) (by kernel_rfl) (by kernel_rfl) ((hsub (.cons _ (.refl _)))) rfl (y_move rfl) rfl ?_
                  refine H_y 10 rfl (by kernel_rfl) (by kernel_rfl) (by kernel_rfl) ((hsub (.cons _ (.refl _)))) rfl (y_indexS rfl rfl Try.underlying63 sz_58 (by omega) (by omega) (ix0 (v2))) rfl ?_
                  refine H_two 7 11 rfl rfl (by kernel_rfl) rfl rfl ?_ ?_
                  · refine op_y (y_load rfl ag_58 (sees 0 0 rfl) (us_at (by omega))) rfl ?_
                    refine ⟨(hsub (.cons _ (.refl _))), ?_⟩
                    refine H_one 11 rfl (by kernel_rfl) rfl (op_y (y_load rfl ag_58 (sees 0 0 rfl) (us_at (by omega))) rfl ?_)
                    refine ⟨(hsub (.cons _ (.refl _))), ?_⟩
                    refine H_y 12 rfl (by kernel_rfl) (by kernel_rfl) (by kernel_rfl) ((hsub (.cons _ (.refl _)))) rfl (y_indexS rfl rfl Try.underlying63 sz_58 (by omega) (by omega) (ix0 (v2))) rfl ?_
                    refine H_one 13 rfl (by kernel_rfl) rfl (op_store1 0 0 rfl rfl rfl sz_58 rfl (us_lt (by omega)) ?_)
                    refine ⟨(hsub (.cons _ (.refl _))), ?_⟩
                    refine H_y 14 rfl (by kernel_rfl) (by kernel_rfl) (by kernel_rfl) ((hsub (.cons _ (.refl _)))) rfl (y_indexS rfl rfl Try.underlying63 sz_58 (by omega) (by omega) (ix0 (a))) rfl ?_
                    refine H_one 15 rfl (by kernel_rfl) rfl (op_store1 0 0 rfl rfl rfl sz_58 rfl (by rw [List.length_set]; exact us_lt (by omega)) ?_)
                    refine ⟨(hsub (.cons _ (.refl _))), ?_⟩
                    refine H_done (by kernel_rfl) ?_
                    rw [us_swp (by omega) (by omega)]
                    refine C_seq ?_
                    refine C_region ?_
                    refine L_y rfl (y_move rfl) rfl ?_
                    refine L_y rfl (y_assign rfl) rfl ?_
                    refine L_y rfl (y_assign rfl) rfl ?_
                    refine L_nil ?_
                    refine C_ret ?_
                    refine B_ret (rv_tmp rfl (rv_tmp rfl rv_nil)) ((hsub (.cons_cons _ (.refl _))).trans (hsub_pick [0] rfl)) ?_
                    first
                    | (rw [pt_t hd1 hi hj hc2]; exact ⟨rfl, rfl⟩)
                    | (rw [pt_f (j2 := v2) (d2 := d3) hd1 hi hj hc2 (by rw [← hd2, ← hr3]; exact pl_stop hu2 hv2 hc5)]; exact ⟨rfl, rfl⟩)
                  · refine op_y (y_load rfl ag_58 (sees 0 0 rfl) (us_at (by omega))) rfl ?_
                    refine ⟨(hsub (.cons _ (.refl _))), ?_⟩
                    refine H_one 7 rfl (by kernel_rfl) rfl (op_y (y_load rfl ag_58 (sees 0 0 rfl) (us_at (by omega))) rfl ?_)
                    refine ⟨(hsub (.cons _ (.refl _))), ?_⟩
                    refine H_y 12 rfl (by kernel_rfl) (by kernel_rfl) (by kernel_rfl) ((hsub (.cons _ (.refl _)))) rfl (y_indexS rfl rfl Try.underlying63 sz_58 (by omega) (by omega) (ix0 (v2))) rfl ?_
                    refine H_one 13 rfl (by kernel_rfl) rfl (op_store1 0 0 rfl rfl rfl sz_58 rfl (us_lt (by omega)) ?_)
                    refine ⟨(hsub (.cons _ (.refl _))), ?_⟩
                    refine H_y 14 rfl (by kernel_rfl) (by kernel_rfl) (by kernel_rfl) ((hsub (.cons _ (.refl _)))) rfl (y_indexS rfl rfl Try.underlying63 sz_58 (by omega) (by omega) (ix0 (a))) rfl ?_
                    refine H_one 15 rfl (by kernel_rfl) rfl (op_store1 0 0 rfl rfl rfl sz_58 rfl (by rw [List.length_set]; exact us_lt (by omega)) ?_)
                    refine ⟨(hsub (.cons _ (.refl _))), ?_⟩
                    refine H_done (by kernel_rfl) ?_
                    rw [us_swp (by omega) (by omega)]
                    refine C_seq ?_
                    refine C_region ?_
                    refine L_y rfl (y_move rfl) rfl ?_
                    refine L_y rfl (y_assign rfl) rfl ?_
                    refine L_y rfl (y_assign rfl) rfl ?_
                    refine L_nil ?_
                    refine C_ret ?_
                    refine B_ret (rv_tmp rfl (rv_tmp rfl rv_nil)) ((hsub (.cons_cons _ (.refl _))).trans (hsub_pick [0] rfl)) ?_
                    first
                    | (rw [pt_t hd1 hi hj hc2]; exact ⟨rfl, rfl⟩)
                    | (rw [pt_f (j2 := v2) (d2 := d3) hd1 hi hj hc2 (by rw [← hd2, ← hr3]; exact pl_stop hu2 hv2 hc5)]; exact ⟨rfl, rfl⟩)
                · replace hc5 : ¬ v2 < u2 := by have := of_decide_eq_false hc5; omega
                  refine C_skip ?_
                  refine C_seq ?_
                  refine C_regionH H (by kernel_rfl) ?_
                  refine H_y 0 rfl (by kernel_rfl) (by kernel_rfl) (by kernel_rfl) ((hsub (.cons _ (.refl _)))) rfl (y_move rfl) rfl ?_
                  refine H_y 1 rfl (by kernel_rfl) (by kernel_rfl) (by kernel_rfl) ((hsub (.cons _ (.refl _)))) rfl (y_move rfl) rfl ?_
                  refine H_y 2 rfl (by kernel_rfl) (by kernel_rfl) (by kernel_rfl) ((hsub (.cons _ (.refl _)))) rfl (y_move rfl) rfl ?_
                  refine H_y 3 rfl (by kernel_rfl) (by kernel_rfl) (by kernel_rfl) ((hsub (.cons _ (.refl _)))) rfl (y_move rfl) rfl ?_
                  refine H_y 4 rfl (by kernel_rfl) (by kernel_rfl) (by kernel_rfl) ((hsub (.cons _ (.refl _)))) rfl (y_move rfl) rfl ?_
                  refine H_y 5 rfl (by kernel_rfl) (by kernel_rfl) (by kernel_rfl) ((hsub (.cons _ (.refl _)))) rfl (y_move rfl) rfl ?_
                  refine H_y 6 rfl (by kernel_rfl) (by kernel_rfl) (by kernel_rfl) ((hsub (.cons _ (.refl _)))) rfl (y_indexS rfl rfl Try.underlying63 sz_58 (by omega) (by omega) (ix0 (v2))) rfl ?_
                  refine H_y 8 rfl (by kernel_rfl) (by kernel_rfl) (by kernel_rfl) ((hsub (.cons _ (.refl _)))) rfl (y_move rfl) rfl ?_
                  refine H_y 9 rfl (by kernel_rfl) (by kernel_rfl) (by kernel_rfl) ((hsub (.cons _ (.refl _)))) rfl (y_move rfl) rfl ?_
                  refine H_y 10 rfl (by kernel_rfl) (by kernel_rfl) (by kernel_rfl) ((hsub (.cons _ (.refl _)))) rfl (y_indexS rfl rfl Try.underlying63 sz_58 (by omega) (by omega) (ix0 (u2))) rfl ?_
                  refine H_two 7 11 rfl rfl (by kernel_rfl) rfl rfl ?_ ?_
                  · refine op_y (y_load rfl ag_58 (sees 0 0 rfl) (us_at (by omega))) rfl ?_
                    refine ⟨(hsub (.cons _ (.refl _))), ?_⟩
                    refine H_one 11 rfl (by kernel_rfl) rfl (op_y (y_load rfl ag_58 (sees 0 0 rfl) (us_at (by omega))) rfl ?_)
                    refine ⟨(hsub (.cons _ (.refl _))), ?_⟩
                    refine H_y 12 rfl (by kernel_rfl) (by kernel_rfl) (by kernel_rfl) ((hsub (.cons _ (.refl _)))) rfl (y_indexS rfl rfl Try.underlying63 sz_58 (by omega) (by omega) (ix0 (u2))) rfl ?_
                    refine H_one 13 rfl (by kernel_rfl) rfl (op_store1 0 0 rfl rfl rfl sz_58 rfl (us_lt (by omega)) ?_)
                    refine ⟨(hsub (.cons _ (.refl _))), ?_⟩
                    refine H_y 14 rfl (by kernel_rfl) (by kernel_rfl) (by kernel_rfl) ((hsub (.cons _ (.refl _)))) rfl (y_indexS rfl rfl Try.underlying63 sz_58 (by omega) (by omega) (ix0 (v2))) rfl ?_
                    refine H_one 15 rfl (by kernel_rfl) rfl (op_store1 0 0 rfl rfl rfl sz_58 rfl (by rw [List.length_set]; exact us_lt (by omega)) ?_)
                    refine ⟨(hsub (.cons _ (.refl _))), ?_⟩
                    refine H_done (by kernel_rfl) ?_
                    rw [us_swp (by omega) (by omega)]
                    refine C_seq ?_
                    refine C_region ?_
                    refine L_y rfl (y_move rfl) rfl ?_
                    refine L_y rfl (y_add rfl rfl (show _ = ((u2 + 1 : Nat) : Int) from by rw [wi64 (by omega) (by omega)]; omega)) rfl ?_
                    refine L_y rfl (y_assign rfl) rfl ?_
                    refine L_nil ?_
                    refine C_region ?_
                    refine L_y rfl (y_move rfl) rfl ?_
                    refine L_y rfl (y_sub rfl rfl (show _ = ((v2 - 1 : Nat) : Int) from by rw [wi64 (by omega) (by omega)]; omega)) rfl ?_
                    refine L_y rfl (y_assign rfl) rfl ?_
                    refine L_nil ?_
                    exact ⟨(Go.Sort.swp d3 u2 v2, u2 + 1, v2 - 1), ⟨by simp only; rw [swp_size]; exact hs3, by simp only; omega, by simp only; omega, by simp only; omega, by simp only; rw [← hr3, pl_go hu2 hv2 hc5]⟩, by simp only; omega, ⟨rfl, rfl, rfl, rfl, rfl, trivial⟩, ((hsub (.cons_cons _ (.refl _))).trans (hsub_pick [0] rfl))⟩
                  · refine op_y (y_load rfl ag_58 (sees 0 0 rfl) (us_at (by omega))) rfl ?_
                    refine ⟨(hsub (.cons _ (.refl _))), ?_⟩
                    refine H_one 7 rfl (by kernel_rfl) rfl (op_y (y_load rfl ag_58 (sees 0 0 rfl) (us_at (by omega))) rfl ?_)
                    refine ⟨(hsub (.cons _ (.refl _))), ?_⟩
                    refine H_y 12 rfl (by kernel_rfl) (by kernel_rfl) (by kernel_rfl) ((hsub (.cons _ (.refl _)))) rfl (y_indexS rfl rfl Try.underlying63 sz_58 (by omega) (by omega) (ix0 (u2))) rfl ?_
                    refine H_one 13 rfl (by kernel_rfl) rfl (op_store1 0 0 rfl rfl rfl sz_58 rfl (us_lt (by omega)) ?_)
                    refine ⟨(hsub (.cons _ (.refl _))), ?_⟩
                    refine H_y 14 rfl (by kernel_rfl) (by kernel_rfl) (by kernel_rfl) ((hsub (.cons _ (.refl _)))) rfl (y_indexS rfl rfl Try.underlying63 sz_58 (by omega) (by omega) (ix0 (v2))) rfl ?_
                    refine H_one 15 rfl (by kernel_rfl) rfl (op_store1 0 0 rfl rfl rfl sz_58 rfl (by rw [List.length_set]; exact us_lt (by omega)) ?_)
                    refine ⟨(hsub (.cons _ (.refl _))), ?_⟩
                    refine H_done (by kernel_rfl) ?_
                    rw [us_swp (by omega) (by omega)]
                    refine C_seq ?_
                    refine C_region ?_
                    refine L_y rfl (y_move rfl) rfl ?_
                    refine L_y rfl (y_add rfl rfl (show _ = ((u2 + 1 : Nat) : Int) from by rw [wi64 (by omega) (by omega)]; omega)) rfl ?_
                    refine L_y rfl (y_assign rfl) rfl ?_
                    refine L_nil ?_
                    refine C_region ?_
                    refine L_y rfl (y_move rfl) rfl ?_
                    refine L_y rfl (y_sub rfl rfl (show _ = ((v2 - 1 : Nat) : Int) from by rw [wi64 (by omega) (by omega)]; omega)) rfl ?_
                    refine L_y rfl (y_assign rfl) rfl ?_
                    refine L_nil ?_
                    exact ⟨(Go.Sort.swp d3 u2 v2, u2 + 1, v2 - 1), ⟨by simp only; rw [swp_size]; exact hs3, by simp only; omega, by simp only; omega, by simp only; omega, by simp only; rw [← hr3, pl_go hu2 hv2 hc5]⟩, by simp only; omega, ⟨rfl, rfl, rfl, rfl, rfl, trivial⟩, ((hsub (.cons_cons _ (.refl _))).trans (hsub_pick [0] rfl))⟩
          · refine op_y (y_load rfl ag_58 (sees 0 0 rfl) (us_at (by omega))) rfl ?_
            refine ⟨(hsub (.cons _ (.refl _))), ?_⟩
            refine H_one 7 rfl (by kernel_rfl) rfl (op_y (y_load rfl ag_58 (sees 0 0 rfl) (us_at (by omega))) rfl ?_)
            refine ⟨(hsub (.cons _ (.refl _))), ?_⟩
            refine H_y 12 rfl (by kernel_rfl) (by kernel_rfl) (by kernel_rfl) ((hsub (.cons _ (.refl _)))) rfl (y_indexS rfl rfl Try.underlying63 sz_58 (by omega) (by omega) (ix0 (i))) rfl ?_
            refine H_one 13 rfl (by kernel_rfl) rfl (op_store1 0 0 rfl rfl rfl sz_58 rfl (us_lt (by omega)) ?_)
            refine ⟨(hsub (.cons _ (.refl _))), ?_⟩
            refine H_y 14 rfl (by kernel_rfl) (by kernel_rfl) (by kernel_rfl) ((hsub (.cons _ (.refl _)))) rfl (y_indexS rfl rfl Try.underlying63 sz_58 (by omega) (by omega) (ix0 (j))) rfl ?_
            refine H_one 15 rfl (by kernel_rfl) rfl (op_store1 0 0 rfl rfl rfl sz_58 rfl (by rw [List.length_set]; exact us_lt (by omega)) ?_)
            refine ⟨(hsub (.cons _ (.refl _))), ?_⟩
            refine H_done (by kernel_rfl) ?_
            rw [us_swp (by omega) (by omega)]
            obtain ⟨d2, hd2⟩ : ∃ y, y = Go.Sort.swp d1 i j := ⟨_, rfl⟩
            rw [← hd2]
            have hsd2 : d2.size = n := by rw [hd2, swp_size]; omega
            refine C_seq ?_
            refine C_region ?_
            refine L_y rfl (y_move rfl) rfl ?_
            refine L_y rfl (y_add rfl rfl (show _ = ((i + 1 : Nat) : Int) from by rw [wi64 (by omega) (by omega)]; omega)) rfl ?_
            refine L_y rfl (y_assign rfl) rfl ?_
            refine L_nil ?_
            refine C_seq ?_
            refine C_region ?_
            refine L_y rfl (y_move rfl) rfl ?_
            refine L_y rfl (y_sub rfl rfl (show _ = ((j - 1 : Nat) : Int) from by rw [wi64 (by omega) (by omega)]; omega)) rfl ?_
            refine L_y rfl (y_assign rfl) rfl ?_
            refine L_nil ?_
            refine C_seq ?_
            refine C_block ?_
            refine C_loop (ι := Array Nat × Nat × Nat) (fun x => [(0, (.slice (some ⟨sb, 0, none⟩) n cap)), (1, .int .i64 ((a : Nat) : Int)), (2, .int .i64 ((b : Nat) : Int)), (10, .int .i64 ((x.2.1 : Nat) : Int)), (11, .int .i64 ((x.2.2 : Nat) : Int))]) (fun x => useg 58 sb x.1 sp :: H) (fun x => x.1.size = n ∧ a < x.2.1 ∧ x.2.1 ≤ b ∧ x.2.2 < b ∧ Go.Sort.partLoop ltN a x.2.1 x.2.2 x.1 = Go.Sort.partLoop ltN a (i + 1) (j - 1) d2) (fun x => x.2.2 + 1 - x.2.1) (d2, i + 1, j - 1) ⟨hsd2, by simp only; omega, by simp only; omega, by simp only; omega, rfl⟩ ⟨rfl, rfl, rfl, rfl, rfl, trivial⟩ ((hsub (.cons_cons _ (.refl _))).trans (hsub_pick [0] rfl)) (fun x hx => ?_)
            obtain ⟨d3, u, v⟩ := x
            obtain ⟨hs3, hu1, hu2, hv1, hr3⟩ := hx
            try simp only at hs3 hu1 hu2 hv1 hr3
            try dsimp only
            refine C_block ?_
            refine C_cutG (ι := Nat) (fun t => a < t ∧ t ≤ b ∧ u ≤ t ∧ Go.Sort.scanUp (upP a d3) d3 v u = t) (fun t => [(0, (.slice (some ⟨sb, 0, none⟩) n cap)), (1, .int .i64 ((a : Nat) : Int)), (2, .int .i64 ((b : Nat) : Int)), (10, .int .i64 ((t : Nat) : Int)), (11, .int .i64 ((v : Nat) : Int))]) (fun t => useg 58 sb d3 sp :: H) ?_ (fun t ht => ?_)
            · refine C_block ?_
              refine C_loop (ι := Nat) (fun t => [(0, (.slice (some ⟨sb, 0, none⟩) n cap)), (1, .int .i64 ((a : Nat) : Int)), (2, .int .i64 ((b : Nat) : Int)), (10, .int .i64 ((t : Nat) : Int)), (11, .int .i64 ((v : Nat) : Int))]) (fun t => useg 58 sb d3 sp :: H) (fun t => a < t ∧ t ≤ b ∧ u ≤ t ∧ Go.Sort.scanUp (upP a d3) d3 v t = Go.Sort.scanUp (upP a d3) d3 v u) (fun t => v + 1 - t) u (by refine ⟨by omega, by omega, by omega, rfl⟩ <;> omega) ⟨rfl, rfl, rfl, rfl, rfl, trivial⟩ ((hsub (.cons_cons _ (.refl _))).trans (hsub_pick [0] rfl)) (fun t ht => ?_)
              obtain ⟨ht1, ht2, ht3, hts⟩ := ht
              refine C_seq ?_
              refine C_seq ?_
              refine C_regionH0 (by kernel_rfl) ?_
              refine H_y 0 rfl (by kernel_rfl) (by kernel_rfl) (by kernel_rfl) (HSub.refl _) rfl (y_move rfl) rfl ?_
              refine H_y 1 rfl (by kernel_rfl) (by kernel_rfl) (by kernel_rfl) (HSub.refl _) rfl (y_move rfl) rfl ?_
              refine H_y 2 rfl (by kernel_rfl) (by kernel_rfl) (by kernel_rfl) (HSub.refl _) rfl (y_leq rfl rfl) rfl ?_
              refine H_y 3 rfl (by kernel_rfl) (by kernel_rfl) (by kernel_rfl) (HSub.refl _) rfl (y_move rfl) rfl ?_
              refine H_case 102 rfl (fun hg13_4 => ?_) (fun hg13_4 => ?_)
              · have hle : t ≤ v := by have := of_decide_eq_true hg13_4; omega
                refine H_y 4 rfl (by kernel_rfl) (by kernel_rfl) (by kernel_rfl) (HSub.refl _) rfl (y_move rfl) rfl ?_
                refine H_y 5 rfl (by kernel_rfl) (by kernel_rfl) (by kernel_rfl) (HSub.refl _) rfl (y_move rfl) rfl ?_
                refine H_y 6 rfl (by kernel_rfl) (by kernel_rfl) (by kernel_rfl) (HSub.refl _) rfl (y_indexS rfl rfl Try.underlying63 sz_58 (by omega) (by omega) (ix0 (t))) rfl ?_
                refine H_y 7 rfl (by kernel_rfl) (by kernel_rfl) (by kernel_rfl) (HSub.refl _) rfl (y_load rfl ag_58 (sees 0 0 rfl) (us_at (by omega))) rfl ?_
                refine H_y 8 rfl (by kernel_rfl) (by kernel_rfl) (by kernel_rfl) (HSub.refl _) rfl (y_move rfl) rfl ?_
                refine H_y 9 rfl (by kernel_rfl) (by kernel_rfl) (by kernel_rfl) (HSub.refl _) rfl (y_move rfl) rfl ?_
                refine H_y 10 rfl (by kernel_rfl) (by kernel_rfl) (by kernel_rfl) (HSub.refl _) rfl (y_indexS rfl rfl Try.underlying63 sz_58 (by omega) (by omega) (ix0 (a))) rfl ?_
                refine H_y 11 rfl (by kernel_rfl) (by kernel_rfl) (by kernel_rfl) (HSub.refl _) rfl (y_load rfl ag_58 (sees 0 0 rfl) (us_at (by omega))) rfl ?_
                refine H_one 12 rfl (by kernel_rfl) rfl (op_call rfl rfl (fun a w => Try.call108 a w) rfl ?_)
                refine (less_u (d3[t]!) (d3[a]!)).mono ?_
                rintro _ _ ⟨rfl, e⟩
                obtain rfl := e.symm
                clear e
                refine ⟨_, rfl, ?_⟩
                refine ⟨HSub.refl _, ?_⟩
                refine H_y 13 rfl (by kernel_rfl) (by kernel_rfl) (by kernel_rfl) (HSub.refl _) rfl (y_pick_t rfl rfl) rfl ?_
                refine H_done (by kernel_rfl) ?_
                refine C_cond rfl (fun hc3 => ?_) (fun hc3 => ?_)
                · have hpt : (upP a d3) d3[t]! = true := hc3
                  refine C_skip ?_
                  refine C_block ?_
                  refine C_region ?_
                  refine L_y rfl (y_move rfl) rfl ?_
                  refine L_y rfl (y_add rfl rfl (show _ = ((t + 1 : Nat) : Int) from by rw [wi64 (by omega) (by omega)]; omega)) rfl ?_
                  refine L_y rfl (y_assign rfl) rfl ?_
                  refine L_nil ?_
                  exact ⟨t + 1, ⟨by omega, by omega, by omega, by rw [← hts, su_go hle hpt]⟩, by omega, ⟨rfl, rfl, rfl, rfl, rfl, trivial⟩, ((hsub (.cons_cons _ (.refl _))).trans (hsub_pick [0] rfl))⟩
                · have hfin := hts.symm.trans (su_stop (p := (upP a d3)) (d := d3) (.inr hc3))
                  refine C_exit ?_
                  exact ⟨t, ⟨ht1, ht2, ht3, hfin⟩, ⟨rfl, rfl, rfl, rfl, rfl, trivial⟩, ((hsub (.cons_cons _ (.refl _))).trans (hsub_pick [0] rfl))⟩
              · have hle : ¬ t ≤ v := by have := of_decide_eq_false hg13_4; omega
                have hfin := hts.symm.trans (su_stop (p := (upP a d3)) (d := d3) (.inl hle))
                refine H_skip 4 rfl (by kernel_rfl) (by kernel_rfl) (by kernel_rfl) (HSub.refl _) rfl rfl ?_
                refine H_skip 5 rfl (by kernel_rfl) (by kernel_rfl) (by kernel_rfl) (HSub.refl _) rfl rfl ?_
                refine H_skip 6 rfl (by kernel_rfl) (by kernel_rfl) (by kernel_rfl) (HSub.refl _) rfl rfl ?_
                refine H_skip 7 rfl (by kernel_rfl) (by kernel_rfl) (by kernel_rfl) (HSub.refl _) rfl rfl ?_
                refine H_skip 8 rfl (by kernel_rfl) (by kernel_rfl) (by kernel_rfl) (HSub.refl _) rfl rfl ?_
                refine H_skip 9 rfl (by kernel_rfl) (by kernel_rfl) (by kernel_rfl) (HSub.refl _) rfl rfl ?_
                refine H_skip 10 rfl (by kernel_rfl) (by kernel_rfl) (by kernel_rfl) (HSub.refl _) rfl rfl ?_
                refine H_skip 11 rfl (by kernel_rfl) (by kernel_rfl) (by kernel_rfl) (HSub.refl _) rfl rfl ?_
                refine H_skip 12 rfl (by kernel_rfl) (by kernel_rfl) (by kernel_rfl) (HSub.refl _) rfl rfl ?_
                refine H_y 13 rfl (by kernel_rfl) (by kernel_rfl) (by kernel_rfl) (HSub.refl _) rfl (y_pick_f rfl rfl) rfl ?_
                refine H_done (by kernel_rfl) ?_
                refine C_cond_f rfl ?_
                refine C_exit ?_
                exact ⟨t, ⟨ht1, ht2, ht3, hfin⟩, ⟨rfl, rfl, rfl, rfl, rfl, trivial⟩, ((hsub (.cons_cons _ (.refl _))).trans (hsub_pick [0] rfl))⟩
            · rename Nat => u2
              obtain ⟨qu20, qu21, qu22, hu2⟩ := ht
              refine C_cutG (ι := Nat) (fun t => t < b ∧ t ≤ v ∧ Go.Sort.scanDown (dnP a d3) d3 u2 v = t) (fun t => [(0, (.slice (some ⟨sb, 0, none⟩) n cap)), (1, .int .i64 ((a : Nat) : Int)), (2, .int .i64 ((b : Nat) : Int)), (10, .int .i64 ((u2 : Nat) : Int)), (11, .int .i64 ((t : Nat) : Int))]) (fun t => useg 58 sb d3 sp :: H) ?_ (fun t ht => ?_)
              · refine C_block ?_
                refine C_loop (ι := Nat) (fun t => [(0, (.slice (some ⟨sb, 0, none⟩) n cap)), (1, .int .i64 ((a : Nat) : Int)), (2, .int .i64 ((b : Nat) : Int)), (10, .int .i64 ((u2 : Nat) : Int)), (11, .int .i64 ((t : Nat) : Int))]) (fun t => useg 58 sb d3 sp :: H) (fun t => t < b ∧ t ≤ v ∧ Go.Sort.scanDown (dnP a d3) d3 u2 t = Go.Sort.scanDown (dnP a d3) d3 u2 v) (fun t => t) v (by refine ⟨by omega, by omega, rfl⟩ <;> omega) ⟨rfl, rfl, rfl, rfl, rfl, trivial⟩ ((hsub (.cons_cons _ (.refl _))).trans (hsub_pick [0] rfl)) (fun t ht => ?_)
                obtain ⟨ht1, ht2, hts⟩ := ht
                refine C_seq ?_
                refine C_seq ?_
                refine C_regionH0 (by kernel_rfl) ?_
                refine H_y 0 rfl (by kernel_rfl) (by kernel_rfl) (by kernel_rfl) (HSub.refl _) rfl (y_move rfl) rfl ?_
                refine H_y 1 rfl (by kernel_rfl) (by kernel_rfl) (by kernel_rfl) (HSub.refl _) rfl (y_move rfl) rfl ?_
                refine H_y 2 rfl (by kernel_rfl) (by kernel_rfl) (by kernel_rfl) (HSub.refl _) rfl (y_leq rfl rfl) rfl ?_
                refine H_y 3 rfl (by kernel_rfl) (by kernel_rfl) (by kernel_rfl) (HSub.refl _) rfl (y_move rfl) rfl ?_
                refine H_case 118 rfl (fun hg15_4 => ?_) (fun hg15_4 => ?_)
                · have hle : u2 ≤ t := by have := of_decide_eq_true hg15_4; omega
                  refine H_y 4 rfl (by kernel_rfl) (by kernel_rfl) (by kernel_rfl) (HSub.refl _) rfl (y_move rfl) rfl ?_
                  refine H_y 5 rfl (by kernel_rfl) (by kernel_rfl) (by kernel_rfl) (HSub.refl _) rfl (y_move rfl) rfl ?_
                  refine H_y 6 rfl (by kernel_rfl) (by kernel_rfl) (by kernel_rfl) (HSub.refl _) rfl (y_indexS rfl rfl Try.underlying63 sz_58 (by omega) (by omega) (ix0 (t))) rfl ?_
                  refine H_y 7 rfl (by kernel_rfl) (by kernel_rfl) (by kernel_rfl) (HSub.refl _) rfl (y_load rfl ag_58 (sees 0 0 rfl) (us_at (by omega))) rfl ?_
                  refine H_y 8 rfl (by kernel_rfl) (by kernel_rfl) (by kernel_rfl) (HSub.refl _) rfl (y_move rfl) rfl ?_
                  refine H_y 9 rfl (by kernel_rfl) (by kernel_rfl) (by kernel_rfl) (HSub.refl _) rfl (y_move rfl) rfl ?_
                  refine H_y 10 rfl (by kernel_rfl) (by kernel_rfl) (by kernel_rfl) (HSub.refl _) rfl (y_indexS rfl rfl Try.underlying63 sz_58 (by omega) (by omega) (ix0 (a))) rfl ?_
                  refine H_y 11 rfl (by kernel_rfl) (by kernel_rfl) (by kernel_rfl) (HSub.refl _) rfl (y_load rfl ag_58 (sees 0 0 rfl) (us_at (by omega))) rfl ?_
                  refine H_one 12 rfl (by kernel_rfl) rfl (op_call rfl rfl (fun a w => Try.call108 a w) rfl ?_)
                  refine (less_u (d3[t]!) (d3[a]!)).mono ?_
                  rintro _ _ ⟨rfl, e⟩
                  obtain rfl := e.symm
                  clear e
                  refine ⟨_, rfl, ?_⟩
                  refine ⟨HSub.refl _, ?_⟩
                  refine H_y 13 rfl (by kernel_rfl) (by kernel_rfl) (by kernel_rfl) (HSub.refl _) rfl (y_not rfl) rfl ?_
                  refine H_y 14 rfl (by kernel_rfl) (by kernel_rfl) (by kernel_rfl) (HSub.refl _) rfl (y_pick_t rfl rfl) rfl ?_
                  refine H_done (by kernel_rfl) ?_
                  refine C_cond rfl (fun hc4 => ?_) (fun hc4 => ?_)
                  · have hpt : (dnP a d3) d3[t]! = true := hc4
                    refine C_skip ?_
                    refine C_block ?_
                    refine C_region ?_
                    refine L_y rfl (y_move rfl) rfl ?_
                    refine L_y rfl (y_sub rfl rfl (show _ = ((t - 1 : Nat) : Int) from by rw [wi64 (by omega) (by omega)]; omega)) rfl ?_
                    refine L_y rfl (y_assign rfl) rfl ?_
                    refine L_nil ?_
                    exact ⟨t - 1, ⟨by omega, by omega, by rw [← hts, sn_go hle (by omega) hpt]⟩, by omega, ⟨rfl, rfl, rfl, rfl, rfl, trivial⟩, ((hsub (.cons_cons _ (.refl _))).trans (hsub_pick [0] rfl))⟩
                  · have hfin := hts.symm.trans (sn_stop (p := (dnP a d3)) (d := d3) (.inr hc4))
                    refine C_exit ?_
                    exact ⟨t, ⟨ht1, ht2, hfin⟩, ⟨rfl, rfl, rfl, rfl, rfl, trivial⟩, ((hsub (.cons_cons _ (.refl _))).trans (hsub_pick [0] rfl))⟩
                · have hle : ¬ u2 ≤ t := by have := of_decide_eq_false hg15_4; omega
                  have hfin := hts.symm.trans (sn_stop (p := (dnP a d3)) (d := d3) (.inl hle))
                  refine H_skip 4 rfl (by kernel_rfl) (by kernel_rfl) (by kernel_rfl) (HSub.refl _) rfl rfl ?_
                  refine H_skip 5 rfl (by kernel_rfl) (by kernel_rfl) (by kernel_rfl) (HSub.refl _) rfl rfl ?_
                  refine H_skip 6 rfl (by kernel_rfl) (by kernel_rfl) (by kernel_rfl) (HSub.refl _) rfl rfl ?_
                  refine H_skip 7 rfl (by kernel_rfl) (by kernel_rfl) (by kernel_rfl) (HSub.refl _) rfl rfl ?_
                  refine H_skip 8 rfl (by kernel_rfl) (by kernel_rfl) (by kernel_rfl) (HSub.refl _) rfl rfl ?_
                  refine H_skip 9 rfl (by kernel_rfl) (by kernel_rfl) (by kernel_rfl) (HSub.refl _) rfl rfl ?_
                  refine H_skip 10 rfl (by kernel_rfl) (by kernel_rfl) (by kernel_rfl) (HSub.refl _) rfl rfl ?_
                  refine H_skip 11 rfl (by kernel_rfl) (by kernel_rfl) (by kernel_rfl) (HSub.refl _) rfl rfl ?_
                  refine H_skip 12 rfl (by kernel_rfl) (by kernel_rfl) (by kernel_rfl) (HSub.refl _) rfl rfl ?_
                  refine H_skip 13 rfl (by kernel_rfl) (by kernel_rfl) (by kernel_rfl) (HSub.refl _) rfl rfl ?_
                  refine H_y 14 rfl (by kernel_rfl) (by kernel_rfl) (by kernel_rfl) (HSub.refl _) rfl (y_pick_f rfl rfl) rfl ?_
                  refine H_done (by kernel_rfl) ?_
                  refine C_cond_f rfl ?_
                  refine C_exit ?_
                  exact ⟨t, ⟨ht1, ht2, hfin⟩, ⟨rfl, rfl, rfl, rfl, rfl, trivial⟩, ((hsub (.cons_cons _ (.refl _))).trans (hsub_pick [0] rfl))⟩
              · rename Nat => v2
                obtain ⟨qv20, qv21, hv2⟩ := ht
                refine C_seq ?_
                refine C_seq ?_
                refine C_region ?_
                refine L_y rfl (y_move rfl) rfl ?_
                refine L_y rfl (y_move rfl) rfl ?_
                refine L_y rfl (y_gtr rfl rfl) rfl ?_
                refine L_nil ?_
                refine C_cond rfl (fun hc5 => ?_) (fun hc5 => ?_)
                · replace hc5 : v2 < u2 := by have := of_decide_eq_true hc5; omega
                  refine C_exit ?_
                  refine C_seq ?_
                  refine C_regionH H (by kernel_rfl) ?_
                  refine H_y 0 rfl (by kernel_rfl) (by kernel_rfl) (by kernel_rfl) ((hsub (.cons _ (.refl _)))) rfl (y_move rfl) rfl ?_
                  refine H_y 1 rfl (by kernel_rfl) (by kernel_rfl) (by kernel_rfl) ((hsub (.cons _ (.refl _)))) rfl (y_move rfl) rfl ?_
                  refine H_y 2 rfl (by kernel_rfl) (by kernel_rfl) (by kernel_rfl) ((hsub (.cons _ (.refl _)))) rfl (y_move rfl) rfl ?_
                  refine H_y 3 rfl (by kernel_rfl) (by kernel_rfl) (by kernel_rfl) ((hsub (.cons _ (.refl _)))) rfl (y_move rfl) rfl ?_
                  refine H_y 4 rfl (by kernel_rfl) (by kernel_rfl) (by kernel_rfl) ((hsub (.cons _ (.refl _)))) rfl (y_move rfl) rfl ?_
                  refine H_y 5 rfl (by kernel_rfl) (by kernel_rfl) (by kernel_rfl) ((hsub (.cons _ (.refl _)))) rfl (y_move rfl) rfl ?_
                  refine H_y 6 rfl (by kernel_rfl) (by kernel_rfl) (by kernel_rfl) ((hsub (.cons _ (.refl _)))) rfl (y_indexS rfl rfl Try.underlying63 sz_58 (by omega) (by omega) (ix0 (a))) rfl ?_
                  refine H_y 8 rfl (by kernel_rfl) (by kernel_rfl) (by kernel_rfl) ((hsub (.cons _ (.refl _)))) rfl (y_move rfl) rfl ?_
                  refine H_y 9 rfl (by kernel_rfl) (by kernel_rfl) (by kernel_rfl) ((hsub (.cons _ (.refl _)))) rfl (y_move rfl) rfl ?_
                  refine H_y 10 rfl (by kernel_rfl) (by kernel_rfl) (by kernel_rfl) ((hsub (.cons _ (.refl _)))) rfl (y_indexS rfl rfl Try.underlying63 sz_58 (by omega) (by omega) (ix0 (v2))) rfl ?_
                  refine H_two 7 11 rfl rfl (by kernel_rfl) rfl rfl ?_ ?_
                  · refine op_y (y_load rfl ag_58 (sees 0 0 rfl) (us_at (by omega))) rfl ?_
                    refine ⟨(hsub (.cons _ (.refl _))), ?_⟩
                    refine H_one 11 rfl (by kernel_rfl) rfl (op_y (y_load rfl ag_58 (sees 0 0 rfl) (us_at (by omega))) rfl ?_)
                    refine ⟨(hsub (.cons _ (.refl _))), ?_⟩
                    refine H_y 12 rfl (by kernel_rfl) (by kernel_rfl) (by kernel_rfl) ((hsub (.cons _ (.refl _)))) rfl (y_indexS rfl rfl Try.underlying63 sz_58 (by omega) (by omega) (ix0 (v2))) rfl ?_
                    refine H_one 13 rfl (by kernel_rfl) rfl (op_store1 0 0 rfl rfl rfl sz_58 rfl (us_lt (by omega)) ?_)
                    refine ⟨(hsub (.cons _ (.refl _))), ?_⟩
                    refine H_y 14 rfl (by kernel_rfl) (by kernel_rfl) (by kernel_rfl) ((hsub (.cons _ (.refl _)))) rfl (y_indexS rfl rfl Try.underlying63 sz_58 (by omega) (by omega) (ix0 (a))) rfl ?_
                    refine H_one 15 rfl (by kernel_rfl) rfl (op_store1 0 0 rfl rfl rfl sz_58 rfl (by rw [List.length_set]; exact us_lt (by omega)) ?_)
                    refine ⟨(hsub (.cons _ (.refl _))), ?_⟩
                    refine H_done (by kernel_rfl) ?_
                    rw [us_swp (by omega) (by omega)]
                    refine C_seq ?_
                    refine C_region ?_
                    refine L_y rfl (y_move rfl) rfl ?_
                    refine L_y rfl (y_assign rfl) rfl ?_
                    refine L_y rfl (y_assign rfl) rfl ?_
                    refine L_nil ?_
                    refine C_ret ?_
                    refine B_ret (rv_tmp rfl (rv_tmp rfl rv_nil)) ((hsub (.cons_cons _ (.refl _))).trans (hsub_pick [0] rfl)) ?_
                    first
                    | (rw [pt_t hd1 hi hj hc2]; exact ⟨rfl, rfl⟩)
                    | (rw [pt_f (j2 := v2) (d2 := d3) hd1 hi hj hc2 (by rw [← hd2, ← hr3]; exact pl_stop hu2 hv2 hc5)]; exact ⟨rfl, rfl⟩)
                  · refine op_y (y_load rfl ag_58 (sees 0 0 rfl) (us_at (by omega))) rfl ?_
                    refine ⟨(hsub (.cons _ (.refl _))), ?_⟩
                    refine H_one 7 rfl (by kernel_rfl) rfl (op_y (y_load rfl ag_58 (sees 0 0 rfl) (us_at (by omega))) rfl ?_)
                    refine ⟨(hsub (.cons _ (.refl _))), ?_⟩
                    refine H_y 12 rfl (by kernel_rfl) (by kernel_rfl) (by kernel_rfl) ((hsub (.cons _ (.refl _)))) rfl (y_indexS rfl rfl Try.underlying63 sz_58 (by omega) (by omega) (ix0 (v2))) rfl ?_
                    refine H_one 13 rfl (by kernel_rfl) rfl (op_store1 0 0 rfl rfl rfl sz_58 rfl (us_lt (by omega)) ?_)
                    refine ⟨(hsub (.cons _ (.refl _))), ?_⟩
                    refine H_y 14 rfl (by kernel_rfl) (by kernel_rfl) (by kernel_rfl) ((hsub (.cons _ (.refl _)))) rfl (y_indexS rfl rfl Try.underlying63 sz_58 (by omega) (by omega) (ix0 (a))) rfl ?_
                    refine H_one 15 rfl (by kernel_rfl) rfl (op_store1 0 0 rfl rfl rfl sz_58 rfl (by rw [List.length_set]; exact us_lt (by omega)) ?_)
                    refine ⟨(hsub (.cons _ (.refl _))), ?_⟩
                    refine H_done (by kernel_rfl) ?_
                    rw [us_swp (by omega) (by omega)]
                    refine C_seq ?_
                    refine C_region ?_
                    refine L_y rfl (y_move rfl) rfl ?_
                    refine L_y rfl (y_assign rfl) rfl ?_
                    refine L_y rfl (y_assign rfl) rfl ?_
                    refine L_nil ?_
                    refine C_ret ?_
                    refine B_ret (rv_tmp rfl (rv_tmp rfl rv_nil)) ((hsub (.cons_cons _ (.refl _))).trans (hsub_pick [0] rfl)) ?_
                    first
                    | (rw [pt_t hd1 hi hj hc2]; exact ⟨rfl, rfl⟩)
                    | (rw [pt_f (j2 := v2) (d2 := d3) hd1 hi hj hc2 (by rw [← hd2, ← hr3]; exact pl_stop hu2 hv2 hc5)]; exact ⟨rfl, rfl⟩)
                · replace hc5 : ¬ v2 < u2 := by have := of_decide_eq_false hc5; omega
                  refine C_skip ?_
                  refine C_seq ?_
                  refine C_regionH H (by kernel_rfl) ?_
                  refine H_y 0 rfl (by kernel_rfl) (by kernel_rfl) (by kernel_rfl) ((hsub (.cons _ (.refl _)))) rfl (y_move rfl) rfl ?_
                  refine H_y 1 rfl (by kernel_rfl) (by kernel_rfl) (by kernel_rfl) ((hsub (.cons _ (.refl _)))) rfl (y_move rfl) rfl ?_
                  refine H_y 2 rfl (by kernel_rfl) (by kernel_rfl) (by kernel_rfl) ((hsub (.cons _ (.refl _)))) rfl (y_move rfl) rfl ?_
                  refine H_y 3 rfl (by kernel_rfl) (by kernel_rfl) (by kernel_rfl) ((hsub (.cons _ (.refl _)))) rfl (y_move rfl) rfl ?_
                  refine H_y 4 rfl (by kernel_rfl) (by kernel_rfl) (by kernel_rfl) ((hsub (.cons _ (.refl _)))) rfl (y_move rfl) rfl ?_
                  refine H_y 5 rfl (by kernel_rfl) (by kernel_rfl) (by kernel_rfl) ((hsub (.cons _ (.refl _)))) rfl (y_move rfl) rfl ?_
                  refine H_y 6 rfl (by kernel_rfl) (by kernel_rfl) (by kernel_rfl) ((hsub (.cons _ (.refl _)))) rfl (y_indexS rfl rfl Try.underlying63 sz_58 (by omega) (by omega) (ix0 (v2))) rfl ?_
                  refine H_y 8 rfl (by kernel_rfl) (by kernel_rfl) (by kernel_rfl) ((hsub (.cons _ (.refl _)))) rfl (y_move rfl) rfl ?_
                  refine H_y 9 rfl (by kernel_rfl) (by kernel_rfl) (by kernel_rfl) ((hsub (.cons _ (.refl _)))) rfl (y_move rfl) rfl ?_
                  refine H_y 10 rfl (by kernel_rfl) (by kernel_rfl) (by kernel_rfl) ((hsub (.cons _ (.refl _)))) rfl (y_indexS rfl rfl Try.underlying63 sz_58 (by omega) (by omega) (ix0 (u2))) rfl ?_
                  refine H_two 7 11 rfl rfl (by kernel_rfl) rfl rfl ?_ ?_
                  · refine op_y (y_load rfl ag_58 (sees 0 0 rfl) (us_at (by omega))) rfl ?_
                    refine ⟨(hsub (.cons _ (.refl _))), ?_⟩
                    refine H_one 11 rfl (by kernel_rfl) rfl (op_y (y_load rfl ag_58 (sees 0 0 rfl) (us_at (by omega))) rfl ?_)
                    refine ⟨(hsub (.cons _ (.refl _))), ?_⟩
                    refine H_y 12 rfl (by kernel_rfl) (by kernel_rfl) (by kernel_rfl) ((hsub (.cons _ (.refl _)))) rfl (y_indexS rfl rfl Try.underlying63 sz_58 (by omega) (by omega) (ix0 (u2))) rfl ?_
                    refine H_one 13 rfl (by kernel_rfl) rfl (op_store1 0 0 rfl rfl rfl sz_58 rfl (us_lt (by omega)) ?_)
                    refine ⟨(hsub (.cons _ (.refl _))), ?_⟩
                    refine H_y 14 rfl (by kernel_rfl) (by kernel_rfl) (by kernel_rfl) ((hsub (.cons _ (.refl _)))) rfl (y_indexS rfl rfl Try.underlying63 sz_58 (by omega) (by omega) (ix0 (v2))) rfl ?_
                    refine H_one 15 rfl (by kernel_rfl) rfl (op_store1 0 0 rfl rfl rfl sz_58 rfl (by rw [List.length_set]; exact us_lt (by omega)) ?_)
                    refine ⟨(hsub (.cons _ (.refl _))), ?_⟩
                    refine H_done (by kernel_rfl) ?_
                    rw [us_swp (by omega) (by omega)]
                    refine C_seq ?_
                    refine C_region ?_
                    refine L_y rfl (y_move rfl) rfl ?_
                    refine L_y rfl (y_add rfl rfl (show _ = ((u2 + 1 : Nat) : Int) from by rw [wi64 (by omega) (by omega)]; omega)) rfl ?_
                    refine L_y rfl (y_assign rfl) rfl ?_
                    refine L_nil ?_
                    refine C_region ?_
                    refine L_y rfl (y_move rfl) rfl ?_
                    refine L_y rfl (y_sub rfl rfl (show _ = ((v2 - 1 : Nat) : Int) from by rw [wi64 (by omega) (by omega)]; omega)) rfl ?_
                    refine L_y rfl (y_assign rfl) rfl ?_
                    refine L_nil ?_
                    exact ⟨(Go.Sort.swp d3 u2 v2, u2 + 1, v2 - 1), ⟨by simp only; rw [swp_size]; exact hs3, by simp only; omega, by simp only; omega, by simp only; omega, by simp only; rw [← hr3, pl_go hu2 hv2 hc5]⟩, by simp only; omega, ⟨rfl, rfl, rfl, rfl, rfl, trivial⟩, ((hsub (.cons_cons _ (.refl _))).trans (hsub_pick [0] rfl))⟩
                  · refine op_y (y_load rfl ag_58 (sees 0 0 rfl) (us_at (by omega))) rfl ?_
                    refine ⟨(hsub (.cons _ (.refl _))), ?_⟩
                    refine H_one 7 rfl (by kernel_rfl) rfl (op_y (y_load rfl ag_58 (sees 0 0 rfl) (us_at (by omega))) rfl ?_)
                    refine ⟨(hsub (.cons _ (.refl _))), ?_⟩
                    refine H_y 12 rfl (by kernel_rfl) (by kernel_rfl) (by kernel_rfl) ((hsub (.cons _ (.refl _)))) rfl (y_indexS rfl rfl Try.underlying63 sz_58 (by omega) (by omega) (ix0 (u2))) rfl ?_
                    refine H_one 13 rfl (by kernel_rfl) rfl (op_store1 0 0 rfl rfl rfl sz_58 rfl (us_lt (by omega)) ?_)
                    refine ⟨(hsub (.cons _ (.refl _))), ?_⟩
                    refine H_y 14 rfl (by kernel_rfl) (by kernel_rfl) (by kernel_rfl) ((hsub (.cons _ (.refl _)))) rfl (y_indexS rfl rfl Try.underlying63 sz_58 (by omega) (by omega) (ix0 (v2))) rfl ?_
                    refine H_one 15 rfl (by kernel_rfl) rfl (op_store1 0 0 rfl rfl rfl sz_58 rfl (by rw [List.length_set]; exact us_lt (by omega)) ?_)
                    refine ⟨(hsub (.cons _ (.refl _))), ?_⟩
                    refine H_done (by kernel_rfl) ?_
                    rw [us_swp (by omega) (by omega)]
                    refine C_seq ?_
                    refine C_region ?_
                    refine L_y rfl (y_move rfl) rfl ?_
                    refine L_y rfl (y_add rfl rfl (show _ = ((u2 + 1 : Nat) : Int) from by rw [wi64 (by omega) (by omega)]; omega)) rfl ?_
                    refine L_y rfl (y_assign rfl) rfl ?_
                    refine L_nil ?_
                    refine C_region ?_
                    refine L_y rfl (y_move rfl) rfl ?_
                    refine L_y rfl (y_sub rfl rfl (show _ = ((v2 - 1 : Nat) : Int) from by rw [wi64 (by omega) (by omega)]; omega)) rfl ?_
                    refine L_y rfl (y_assign rfl) rfl ?_
                    refine L_nil ?_
                    exact ⟨(Go.Sort.swp d3 u2 v2, u2 + 1, v2 - 1), ⟨by simp only; rw [swp_size]; exact hs3, by simp only; omega, by simp only; omega, by simp only; omega, by simp only; rw [← hr3, pl_go hu2 hv2 hc5]⟩, by simp only; omega, ⟨rfl, rfl, rfl, rfl, rfl, trivial⟩, ((hsub (.cons_cons _ (.refl _))).trans (hsub_pick [0] rfl))⟩
  · refine op_y (y_load rfl ag_58 (sees 0 0 rfl) (us_at (by omega))) rfl ?_
    refine ⟨(hsub (.cons _ (.refl _))), ?_⟩
    refine H_one 7 rfl (by kernel_rfl) rfl (op_y (y_load rfl ag_58 (sees 0 0 rfl) (us_at (by omega))) rfl ?_)
    refine ⟨(hsub (.cons _ (.refl _))), ?_⟩
    refine H_y 12 rfl (by kernel_rfl) (by kernel_rfl) (by kernel_rfl) ((hsub (.cons _ (.refl _)))) rfl (y_indexS rfl rfl Try.underlying63 sz_58 (by omega) (by omega) (ix0 (a))) rfl ?_
    refine H_one 13 rfl (by kernel_rfl) rfl (op_store1 0 0 rfl rfl rfl sz_58 rfl (us_lt (by omega)) ?_)
    refine ⟨(hsub (.cons _ (.refl _))), ?_⟩
    refine H_y 14 rfl (by kernel_rfl) (by kernel_rfl) (by kernel_rfl) ((hsub (.cons _ (.refl _)))) rfl (y_indexS rfl rfl Try.underlying63 sz_58 (by omega) (by omega) (ix0 (pivot))) rfl ?_
    refine H_one 15 rfl (by kernel_rfl) rfl (op_store1 0 0 rfl rfl rfl sz_58 rfl (by rw [List.length_set]; exact us_lt (by omega)) ?_)
    refine ⟨(hsub (.cons _ (.refl _))), ?_⟩
    refine H_done (by kernel_rfl) ?_
    rw [us_swp (by omega) (by omega)]
    obtain ⟨d1, hd1⟩ : ∃ y, y = Go.Sort.swp d a pivot := ⟨_, rfl⟩
    rw [← hd1]
    have hsd1 : d1.size = n := by rw [hd1, swp_size]; omega
    refine C_seq ?_
    refine C_region ?_
    refine L_y rfl (y_move rfl) rfl ?_
    refine L_y rfl (y_add rfl rfl (show _ = ((a + 1 : Nat) : Int) from by rw [wi64 (by omega) (by omega)]; omega)) rfl ?_
    refine L_y rfl (y_move rfl) rfl ?_
    refine L_y rfl (y_sub rfl rfl (show _ = ((b - 1 : Nat) : Int) from by rw [wi64 (by omega) (by omega)]; omega)) rfl ?_
    refine L_y rfl (y_assign rfl) rfl ?_
    refine L_y rfl (y_assign rfl) rfl ?_
    refine L_nil ?_
    refine C_cutG (ι := Nat) (fun t => a < t ∧ t ≤ b ∧ (a + 1) ≤ t ∧ Go.Sort.scanUp (upP a d1) d1 (b - 1) (a + 1) = t) (fun t => [(0, (.slice (some ⟨sb, 0, none⟩) n cap)), (1, .int .i64 ((a : Nat) : Int)), (2, .int .i64 ((b : Nat) : Int)), (10, .int .i64 ((t : Nat) : Int)), (11, .int .i64 (((b - 1) : Nat) : Int))]) (fun t => useg 58 sb d1 sp :: H) ?_ (fun t ht => ?_)
    · refine C_block ?_
      refine C_loop (ι := Nat) (fun t => [(0, (.slice (some ⟨sb, 0, none⟩) n cap)), (1, .int .i64 ((a : Nat) : Int)), (2, .int .i64 ((b : Nat) : Int)), (10, .int .i64 ((t : Nat) : Int)), (11, .int .i64 (((b - 1) : Nat) : Int))]) (fun t => useg 58 sb d1 sp :: H) (fun t => a < t ∧ t ≤ b ∧ (a + 1) ≤ t ∧ Go.Sort.scanUp (upP a d1) d1 (b - 1) t = Go.Sort.scanUp (upP a d1) d1 (b - 1) (a + 1)) (fun t => (b - 1) + 1 - t) (a + 1) (by refine ⟨by omega, by omega, by omega, rfl⟩ <;> omega) ⟨rfl, rfl, rfl, rfl, rfl, trivial⟩ ((hsub (.cons_cons _ (.refl _))).trans (hsub_pick [0] rfl)) (fun t ht => ?_)
      obtain ⟨ht1, ht2, ht3, hts⟩ := ht
      refine C_seq ?_
      refine C_seq ?_
      refine C_regionH0 (by kernel_rfl) ?_
      refine H_y 0 rfl (by kernel_rfl) (by kernel_rfl) (by kernel_rfl) (HSub.refl _) rfl (y_move rfl) rfl ?_
      refine H_y 1 rfl (by kernel_rfl) (by kernel_rfl) (by kernel_rfl) (HSub.refl _) rfl (y_move rfl) rfl ?_
      refine H_y 2 rfl (by kernel_rfl) (by kernel_rfl) (by kernel_rfl) (HSub.refl _) rfl (y_leq rfl rfl) rfl ?_
      refine H_y 3 rfl (by kernel_rfl) (by kernel_rfl) (by kernel_rfl) (HSub.refl _) rfl (y_move rfl) rfl ?_
      refine H_case 33 rfl (fun hg3_4 => ?_) (fun hg3_4 => ?_)
      · have hle : t ≤ (b - 1) := by have := of_decide_eq_true hg3_4; omega
        refine H_y 4 rfl (by kernel_rfl) (by kernel_rfl) (by kernel_rfl) (HSub.refl _) rfl (y_move rfl) rfl ?_
        refine H_y 5 rfl (by kernel_rfl) (by kernel_rfl) (by kernel_rfl) (HSub.refl _) rfl (y_move rfl) rfl ?_
        refine H_y 6 rfl (by kernel_rfl) (by kernel_rfl) (by kernel_rfl) (HSub.refl _) rfl (y_indexS rfl rfl Try.underlying63 sz_58 (by omega) (by omega) (ix0 (t))) rfl ?_
        refine H_y 7 rfl (by kernel_rfl) (by kernel_rfl) (by kernel_rfl) (HSub.refl _) rfl (y_load rfl ag_58 (sees 0 0 rfl) (us_at (by omega))) rfl ?_
        refine H_y 8 rfl (by kernel_rfl) (by kernel_rfl) (by kernel_rfl) (HSub.refl _) rfl (y_move rfl) rfl ?_
        refine H_y 9 rfl (by kernel_rfl) (by kernel_rfl) (by kernel_rfl) (HSub.refl _) rfl (y_move rfl) rfl ?_
        refine H_y 10 rfl (by kernel_rfl) (by kernel_rfl) (by kernel_rfl) (HSub.refl _) rfl (y_indexS rfl rfl Try.underlying63 sz_58 (by omega) (by omega) (ix0 (a))) rfl ?_
        refine H_y 11 rfl (by kernel_rfl) (by kernel_rfl) (by kernel_rfl) (HSub.refl _) rfl (y_load rfl ag_58 (sees 0 0 rfl) (us_at (by omega))) rfl ?_
        refine H_one 12 rfl (by kernel_rfl) rfl (op_call rfl rfl (fun a w => Try.call108 a w) rfl ?_)
        refine (less_u (d1[t]!) (d1[a]!)).mono ?_
        rintro _ _ ⟨rfl, e⟩
        obtain rfl := e.symm
        clear e
        refine ⟨_, rfl, ?_⟩
        refine ⟨HSub.refl _, ?_⟩
        refine H_y 13 rfl (by kernel_rfl) (by kernel_rfl) (by kernel_rfl) (HSub.refl _) rfl (y_pick_t rfl rfl) rfl ?_
        refine H_done (by kernel_rfl) ?_
        refine C_cond rfl (fun hc0 => ?_) (fun hc0 => ?_)
        · have hpt : (upP a d1) d1[t]! = true := hc0
          refine C_skip ?_
          refine C_block ?_
          refine C_region ?_
          refine L_y rfl (y_move rfl) rfl ?_
          refine L_y rfl (y_add rfl rfl (show _ = ((t + 1 : Nat) : Int) from by rw [wi64 (by omega) (by omega)]; omega)) rfl ?_
          refine L_y rfl (y_assign rfl) rfl ?_
          refine L_nil ?_
          exact ⟨t + 1, ⟨by omega, by omega, by omega, by rw [← hts, su_go hle hpt]⟩, by omega, ⟨rfl, rfl, rfl, rfl, rfl, trivial⟩, ((hsub (.cons_cons _ (.refl _))).trans (hsub_pick [0] rfl))⟩
        · have hfin := hts.symm.trans (su_stop (p := (upP a d1)) (d := d1) (.inr hc0))
          refine C_exit ?_
          exact ⟨t, ⟨ht1, ht2, ht3, hfin⟩, ⟨rfl, rfl, rfl, rfl, rfl, trivial⟩, ((hsub (.cons_cons _ (.refl _))).trans (hsub_pick [0] rfl))⟩
      · have hle : ¬ t ≤ (b - 1) := by have := of_decide_eq_false hg3_4; omega
        have hfin := hts.symm.trans (su_stop (p := (upP a d1)) (d := d1) (.inl hle))
        refine H_skip 4 rfl (by kernel_rfl) (by kernel_rfl) (by kernel_rfl) (HSub.refl _) rfl rfl ?_
        refine H_skip 5 rfl (by kernel_rfl) (by kernel_rfl) (by kernel_rfl) (HSub.refl _) rfl rfl ?_
        refine H_skip 6 rfl (by kernel_rfl) (by kernel_rfl) (by kernel_rfl) (HSub.refl _) rfl rfl ?_
        refine H_skip 7 rfl (by kernel_rfl) (by kernel_rfl) (by kernel_rfl) (HSub.refl _) rfl rfl ?_
        refine H_skip 8 rfl (by kernel_rfl) (by kernel_rfl) (by kernel_rfl) (HSub.refl _) rfl rfl ?_
        refine H_skip 9 rfl (by kernel_rfl) (by kernel_rfl) (by kernel_rfl) (HSub.refl _) rfl rfl ?_
        refine H_skip 10 rfl (by kernel_rfl) (by kernel_rfl) (by kernel_rfl) (HSub.refl _) rfl rfl ?_
        refine H_skip 11 rfl (by kernel_rfl) (by kernel_rfl) (by kernel_rfl) (HSub.refl _) rfl rfl ?_
        refine H_skip 12 rfl (by kernel_rfl) (by kernel_rfl) (by kernel_rfl) (HSub.refl _) rfl rfl ?_
        refine H_y 13 rfl (by kernel_rfl) (by kernel_rfl) (by kernel_rfl) (HSub.refl _) rfl (y_pick_f rfl rfl) rfl ?_
        refine H_done (by kernel_rfl) ?_
        refine C_cond_f rfl ?_
        refine C_exit ?_
        exact ⟨t, ⟨ht1, ht2, ht3, hfin⟩, ⟨rfl, rfl, rfl, rfl, rfl, trivial⟩, ((hsub (.cons_cons _ (.refl _))).trans (hsub_pick [0] rfl))⟩
    · rename Nat => i
      obtain ⟨qi0, qi1, qi2, hi⟩ := ht
      refine C_cutG (ι := Nat) (fun t => t < b ∧ t ≤ (b - 1) ∧ Go.Sort.scanDown (dnP a d1) d1 i (b - 1) = t) (fun t => [(0, (.slice (some ⟨sb, 0, none⟩) n cap)), (1, .int .i64 ((a : Nat) : Int)), (2, .int .i64 ((b : Nat) : Int)), (10, .int .i64 ((i : Nat) : Int)), (11, .int .i64 ((t : Nat) : Int))]) (fun t => useg 58 sb d1 sp :: H) ?_ (fun t ht => ?_)
      · refine C_block ?_
        refine C_loop (ι := Nat) (fun t => [(0, (.slice (some ⟨sb, 0, none⟩) n cap)), (1, .int .i64 ((a : Nat) : Int)), (2, .int .i64 ((b : Nat) : Int)), (10, .int .i64 ((i : Nat) : Int)), (11, .int .i64 ((t : Nat) : Int))]) (fun t => useg 58 sb d1 sp :: H) (fun t => t < b ∧ t ≤ (b - 1) ∧ Go.Sort.scanDown (dnP a d1) d1 i t = Go.Sort.scanDown (dnP a d1) d1 i (b - 1)) (fun t => t) (b - 1) (by refine ⟨by omega, by omega, rfl⟩ <;> omega) ⟨rfl, rfl, rfl, rfl, rfl, trivial⟩ ((hsub (.cons_cons _ (.refl _))).trans (hsub_pick [0] rfl)) (fun t ht => ?_)
        obtain ⟨ht1, ht2, hts⟩ := ht
        refine C_seq ?_
        refine C_seq ?_
        refine C_regionH0 (by kernel_rfl) ?_
        refine H_y 0 rfl (by kernel_rfl) (by kernel_rfl) (by kernel_rfl) (HSub.refl _) rfl (y_move rfl) rfl ?_
        refine H_y 1 rfl (by kernel_rfl) (by kernel_rfl) (by kernel_rfl) (HSub.refl _) rfl (y_move rfl) rfl ?_
        refine H_y 2 rfl (by kernel_rfl) (by kernel_rfl) (by kernel_rfl) (HSub.refl _) rfl (y_leq rfl rfl) rfl ?_
        refine H_y 3 rfl (by kernel_rfl) (by kernel_rfl) (by kernel_rfl) (HSub.refl _) rfl (y_move rfl) rfl ?_
        refine H_case 49 rfl (fun hg5_4 => ?_) (fun hg5_4 => ?_)
        · have hle : i ≤ t := by have := of_decide_eq_true hg5_4; omega
          refine H_y 4 rfl (by kernel_rfl) (by kernel_rfl) (by kernel_rfl) (HSub.refl _) rfl (y_move rfl) rfl ?_
          refine H_y 5 rfl (by kernel_rfl) (by kernel_rfl) (by kernel_rfl) (HSub.refl _) rfl (y_move rfl) rfl ?_
          refine H_y 6 rfl (by kernel_rfl) (by kernel_rfl) (by kernel_rfl) (HSub.refl _) rfl (y_indexS rfl rfl Try.underlying63 sz_58 (by omega) (by omega) (ix0 (t))) rfl ?_
          refine H_y 7 rfl (by kernel_rfl) (by kernel_rfl) (by kernel_rfl) (HSub.refl _) rfl (y_load rfl ag_58 (sees 0 0 rfl) (us_at (by omega))) rfl ?_
          refine H_y 8 rfl (by kernel_rfl) (by kernel_rfl) (by kernel_rfl) (HSub.refl _) rfl (y_move rfl) rfl ?_
          refine H_y 9 rfl (by kernel_rfl) (by kernel_rfl) (by kernel_rfl) (HSub.refl _) rfl (y_move rfl) rfl ?_
          refine H_y 10 rfl (by kernel_rfl) (by kernel_rfl) (by kernel_rfl) (HSub.refl _) rfl (y_indexS rfl rfl Try.underlying63 sz_58 (by omega) (by omega) (ix0 (a))) rfl ?_
          refine H_y 11 rfl (by kernel_rfl) (by kernel_rfl) (by kernel_rfl) (HSub.refl _) rfl (y_load rfl ag_58 (sees 0 0 rfl) (us_at (by omega))) rfl ?_
          refine H_one 12 rfl (by kernel_rfl) rfl (op_call rfl rfl (fun a w => Try.call108 a w) rfl ?_)
          refine (less_u (d1[t]!) (d1[a]!)).mono ?_
          rintro _ _ ⟨rfl, e⟩
          obtain rfl := e.symm
          clear e
          refine ⟨_, rfl, ?_⟩
          refine ⟨HSub.refl _, ?_⟩
          refine H_y 13 rfl (by kernel_rfl) (by kernel_rfl) (by kernel_rfl) (HSub.refl _) rfl (y_not rfl) rfl ?_
          refine H_y 14 rfl (by kernel_rfl) (by kernel_rfl) (by kernel_rfl) (HSub.refl _) rfl (y_pick_t rfl rfl) rfl ?_
          refine H_done (by kernel_rfl) ?_
          refine C_cond rfl (fun hc1 => ?_) (fun hc1 => ?_)
          · have hpt : (dnP a d1) d1[t]! = true := hc1
            refine C_skip ?_
            refine C_block ?_
            refine C_region ?_
            refine L_y rfl (y_move rfl) rfl ?_
            refine L_y rfl (y_sub rfl rfl (show _ = ((t - 1 : Nat) : Int) from by rw [wi64 (by omega) (by omega)]; omega)) rfl ?_
            refine L_y rfl (y_assign rfl) rfl ?_
            refine L_nil ?_
            exact ⟨t - 1, ⟨by omega, by omega, by rw [← hts, sn_go hle (by omega) hpt]⟩, by omega, ⟨rfl, rfl, rfl, rfl, rfl, trivial⟩, ((hsub (.cons_cons _ (.refl _))).trans (hsub_pick [0] rfl))⟩
          · have hfin := hts.symm.trans (sn_stop (p := (dnP a d1)) (d := d1) (.inr hc1))
            refine C_exit ?_
            exact ⟨t, ⟨ht1, ht2, hfin⟩, ⟨rfl, rfl, rfl, rfl, rfl, trivial⟩, ((hsub (.cons_cons _ (.refl _))).trans (hsub_pick [0] rfl))⟩
        · have hle : ¬ i ≤ t := by have := of_decide_eq_false hg5_4; omega
          have hfin := hts.symm.trans (sn_stop (p := (dnP a d1)) (d := d1) (.inl hle))
          refine H_skip 4 rfl (by kernel_rfl) (by kernel_rfl) (by kernel_rfl) (HSub.refl _) rfl rfl ?_
          refine H_skip 5 rfl (by kernel_rfl) (by kernel_rfl) (by kernel_rfl) (HSub.refl _) rfl rfl ?_
          refine H_skip 6 rfl (by kernel_rfl) (by kernel_rfl) (by kernel_rfl) (HSub.refl _) rfl rfl ?_
          refine H_skip 7 rfl (by kernel_rfl) (by kernel_rfl) (by kernel_rfl) (HSub.refl _) rfl rfl ?_
          refine H_skip 8 rfl (by kernel_rfl) (by kernel_rfl) (by kernel_rfl) (HSub.refl _) rfl rfl ?_
          refine H_skip 9 rfl (by kernel_rfl) (by kernel_rfl) (by kernel_rfl) (HSub.refl _) rfl rfl ?_
          refine H_skip 10 rfl (by kernel_rfl) (by kernel_rfl) (by kernel_rfl) (HSub.refl _) rfl rfl ?_
          refine H_skip 11 rfl (by kernel_rfl) (by kernel_rfl) (by kernel_rfl) (HSub.refl _) rfl rfl ?_
          refine H_skip 12 rfl (by kernel_rfl) (by kernel_rfl) (by kernel_rfl) (HSub.refl _) rfl rfl ?_
          refine H_skip 13 rfl (by kernel_rfl) (by kernel_rfl) (by kernel_rfl) (HSub.refl _) rfl rfl ?_
          refine H_y 14 rfl (by kernel_rfl) (by kernel_rfl) (by kernel_rfl) (HSub.refl _) rfl (y_pick_f rfl rfl) rfl ?_
          refine H_done (by kernel_rfl) ?_
          refine C_cond_f rfl ?_
          refine C_exit ?_
          exact ⟨t, ⟨ht1, ht2, hfin⟩, ⟨rfl, rfl, rfl, rfl, rfl, trivial⟩, ((hsub (.cons_cons _ (.refl _))).trans (hsub_pick [0] rfl))⟩
      · rename Nat => j
        obtain ⟨qj0, qj1, hj⟩ := ht
        refine C_seq ?_
        refine C_seq ?_
        refine C_region ?_
        refine L_y rfl (y_move rfl) rfl ?_
        refine L_y rfl (y_move rfl) rfl ?_
        refine L_y rfl (y_gtr rfl rfl) rfl ?_
        refine L_nil ?_
        refine C_cond rfl (fun hc2 => ?_) (fun hc2 => ?_)
        · replace hc2 : j < i := by have := of_decide_eq_true hc2; omega
          refine C_seq ?_
          refine C_regionH H (by kernel_rfl) ?_
          refine H_y 0 rfl (by kernel_rfl) (by kernel_rfl) (by kernel_rfl) ((hsub (.cons _ (.refl _)))) rfl (y_move rfl) rfl ?_
          refine H_y 1 rfl (by kernel_rfl) (by kernel_rfl) (by kernel_rfl) ((hsub (.cons _ (.refl _)))) rfl (y_move rfl) rfl ?_
          refine H_y 2 rfl (by kernel_rfl) (by kernel_rfl) (by kernel_rfl) ((hsub (.cons _ (.refl _)))) rfl (y_move rfl) rfl ?_
          refine H_y 3 rfl (by kernel_rfl) (by kernel_rfl) (by kernel_rfl) ((hsub (.cons _ (.refl _)))) rfl (y_move rfl) rfl ?_
          refine H_y 4 rfl (by kernel_rfl) (by kernel_rfl) (by kernel_rfl) ((hsub (.cons _ (.refl _)))) rfl (y_move rfl) rfl ?_
          refine H_y 5 rfl (by kernel_rfl) (by kernel_rfl) (by kernel_rfl) ((hsub (.cons _ (.refl _)))) rfl (y_move rfl) rfl ?_
          refine H_y 6 rfl (by kernel_rfl) (by kernel_rfl) (by kernel_rfl) ((hsub (.cons _ (.refl _)))) rfl (y_indexS rfl rfl Try.underlying63 sz_58 (by omega) (by omega) (ix0 (a))) rfl ?_
          refine H_y 8 rfl (by kernel_rfl) (by kernel_rfl) (by kernel_rfl) ((hsub (.cons _ (.refl _)))) rfl (y_move rfl) rfl ?_
          refine H_y 9 rfl (by kernel_rfl) (by kernel_rfl) (by kernel_rfl) ((hsub (.cons _ (.refl _)))) rfl (y_move rfl) rfl ?_
          refine H_y 10 rfl (by kernel_rfl) (by kernel_rfl) (by kernel_rfl) ((hsub (.cons _ (.refl _)))) rfl (y_indexS rfl rfl Try.underlying63 sz_58 (by omega) (by omega) (ix0 (j))) rfl ?_
          refine H_two 7 11 rfl rfl (by kernel_rfl) rfl rfl ?_ ?_
          · refine op_y (y_load rfl ag_58 (sees 0 0 rfl) (us_at (by omega))) rfl ?_
            refine ⟨(hsub (.cons _ (.refl _))), ?_⟩
            refine H_one 11 rfl (by kernel_rfl) rfl (op_y (y_load rfl ag_58 (sees 0 0 rfl) (us_at (by omega))) rfl ?_)
            refine ⟨(hsub (.cons _ (.refl _))), ?_⟩
            refine H_y 12 rfl (by kernel_rfl) (by kernel_rfl) (by kernel_rfl) ((hsub (.cons _ (.refl _)))) rfl (y_indexS rfl rfl Try.underlying63 sz_58 (by omega) (by omega) (ix0 (j))) rfl ?_
            refine H_one 13 rfl (by kernel_rfl) rfl (op_store1 0 0 rfl rfl rfl sz_58 rfl (us_lt (by omega)) ?_)
            refine ⟨(hsub (.cons _ (.refl _))), ?_⟩
            refine H_y 14 rfl (by kernel_rfl) (by kernel_rfl) (by kernel_rfl) ((hsub (.cons _ (.refl _)))) rfl (y_indexS rfl rfl Try.underlying63 sz_58 (by omega) (by omega) (ix0 (a))) rfl ?_
            refine H_one 15 rfl (by kernel_rfl) rfl (op_store1 0 0 rfl rfl rfl sz_58 rfl (by rw [List.length_set]; exact us_lt (by omega)) ?_)
            refine ⟨(hsub (.cons _ (.refl _))), ?_⟩
            refine H_done (by kernel_rfl) ?_
            rw [us_swp (by omega) (by omega)]
            refine C_seq ?_
            refine C_region ?_
            refine L_y rfl (y_move rfl) rfl ?_
            refine L_y rfl (y_assign rfl) rfl ?_
            refine L_y rfl (y_assign rfl) rfl ?_
            refine L_nil ?_
            refine C_ret ?_
            refine B_ret (rv_tmp rfl (rv_tmp rfl rv_nil)) ((hsub (.cons_cons _ (.refl _))).trans (hsub_pick [0] rfl)) ?_
            first
            | (rw [pt_t hd1 hi hj hc2]; exact ⟨rfl, rfl⟩)
            | (rw [pt_f (j2 := v2) (d2 := d3) hd1 hi hj hc2 (by rw [← hd2, ← hr3]; exact pl_stop hu2 hv2 hc5)]; exact ⟨rfl, rfl⟩)
          · refine op_y (y_load rfl ag_58 (sees 0 0 rfl) (us_at (by omega))) rfl ?_
            refine ⟨(hsub (.cons _ (.refl _))), ?_⟩
            refine H_one 7 rfl (by kernel_rfl) rfl (op_y (y_load rfl ag_58 (sees 0 0 rfl) (us_at (by omega))) rfl ?_)
            refine ⟨(hsub (.cons _ (.refl _))), ?_⟩
            refine H_y 12 rfl (by kernel_rfl) (by kernel_rfl) (by kernel_rfl) ((hsub (.cons _ (.refl _)))) rfl (y_indexS rfl rfl Try.underlying63 sz_58 (by omega) (by omega) (ix0 (j))) rfl ?_
            refine H_one 13 rfl (by kernel_rfl) rfl (op_store1 0 0 rfl rfl rfl sz_58 rfl (us_lt (by omega)) ?_)
            refine ⟨(hsub (.cons _ (.refl _))), ?_⟩
            refine H_y 14 rfl (by kernel_rfl) (by kernel_rfl) (by kernel_rfl) ((hsub (.cons _ (.refl _)))) rfl (y_indexS rfl rfl Try.underlying63 sz_58 (by omega) (by omega) (ix0 (a))) rfl ?_
            refine H_one 15 rfl (by kernel_rfl) rfl (op_store1 0 0 rfl rfl rfl sz_58 rfl (by rw [List.length_set]; exact us_lt (by omega)) ?_)
            refine ⟨(hsub (.cons _ (.refl _))), ?_⟩
            refine H_done (by kernel_rfl) ?_
            rw [us_swp (by omega) (by omega)]
            refine C_seq ?_
            refine C_region ?_
            refine L_y rfl (y_move rfl) rfl ?_
            refine L_y rfl (y_assign rfl) rfl ?_
            refine L_y rfl (y_assign rfl) rfl ?_
            refine L_nil ?_
            refine C_ret ?_
            refine B_ret (rv_tmp rfl (rv_tmp rfl rv_nil)) ((hsub (.cons_cons _ (.refl _))).trans (hsub_pick [0] rfl)) ?_
            first
            | (rw [pt_t hd1 hi hj hc2]; exact ⟨rfl, rfl⟩)
            | (rw [pt_f (j2 := v2) (d2 := d3) hd1 hi hj hc2 (by rw [← hd2, ← hr3]; exact pl_stop hu2 hv2 hc5)]; exact ⟨rfl, rfl⟩)
        · replace hc2 : ¬ j < i := by have := of_decide_eq_false hc2; omega
          refine C_skip ?_
          refine C_seq ?_
          refine C_regionH H (by kernel_rfl) ?_
          refine H_y 0 rfl (by kernel_rfl) (by kernel_rfl) (by kernel_rfl) ((hsub (.cons _ (.refl _)))) rfl (y_move rfl) rfl ?_
          refine H_y 1 rfl (by kernel_rfl) (by kernel_rfl) (by kernel_rfl) ((hsub (.cons _ (.refl _)))) rfl (y_move rfl) rfl ?_
          refine H_y 2 rfl (by kernel_rfl) (by kernel_rfl) (by kernel_rfl) ((hsub (.cons _ (.refl _)))) rfl (y_move rfl) rfl ?_
          refine H_y 3 rfl (by kernel_rfl) (by kernel_rfl) (by kernel_rfl) ((hsub (.cons _ (.refl _)))) rfl (y_move rfl) rfl ?_
          refine H_y 4 rfl (by kernel_rfl) (by kernel_rfl) (by kernel_rfl) ((hsub (.cons _ (.refl _)))) rfl (y_move rfl) rfl ?_
          refine H_y 5 rfl (by kernel_rfl) (by kernel_rfl) (by kernel_rfl) ((hsub (.cons _ (.refl _)))) rfl (y_move rfl) rfl ?_
          refine H_y 6 rfl (by kernel_rfl) (by kernel_rfl) (by kernel_rfl) ((hsub (.cons _ (.refl _)))) rfl (y_indexS rfl rfl Try.underlying63 sz_58 (by omega) (by omega) (ix0 (j))) rfl ?_
          refine H_y 8 rfl (by kernel_rfl) (by kernel_rfl) (by kernel_rfl) ((hsub (.cons _ (.refl _)))) rfl (y_move rfl) rfl ?_
          refine H_y 9 rfl (by kernel_rfl) (by kernel_rfl) (by kernel_rfl) ((hsub (.cons _ (.refl _)))) rfl (y_move rfl) rfl ?_
          refine H_y 10 rfl (by kernel_rfl) (by kernel_rfl) (by kernel_rfl) ((hsub (.cons _ (.refl _)))) rfl (y_indexS rfl rfl Try.underlying63 sz_58 (by omega) (by omega) (ix0 (i))) rfl ?_
          refine H_two 7 11 rfl rfl (by kernel_rfl) rfl rfl ?_ ?_
          · refine op_y (y_load rfl ag_58 (sees 0 0 rfl) (us_at (by omega))) rfl ?_
            refine ⟨(hsub (.cons _ (.refl _))), ?_⟩
            refine H_one 11 rfl (by kernel_rfl) rfl (op_y (y_load rfl ag_58 (sees 0 0 rfl) (us_at (by omega))) rfl ?_)
            refine ⟨(hsub (.cons _ (.refl _))), ?_⟩
            refine H_y 12 rfl (by kernel_rfl) (by kernel_rfl) (by kernel_rfl) ((hsub (.cons _ (.refl _)))) rfl (y_indexS rfl rfl Try.underlying63 sz_58 (by omega) (by omega) (ix0 (i))) rfl ?_
            refine H_one 13 rfl (by kernel_rfl) rfl (op_store1 0 0 rfl rfl rfl sz_58 rfl (us_lt (by omega)) ?_)
            refine ⟨(hsub (.cons _ (.refl _))), ?_⟩
            refine H_y 14 rfl (by kernel_rfl) (by kernel_rfl) (by kernel_rfl) ((hsub (.cons _ (.refl _)))) rfl (y_indexS rfl rfl Try.underlying63 sz_58 (by omega) (by omega) (ix0 (j))) rfl ?_
            refine H_one 15 rfl (by kernel_rfl) rfl (op_store1 0 0 rfl rfl rfl sz_58 rfl (by rw [List.length_set]; exact us_lt (by omega)) ?_)
            refine ⟨(hsub (.cons _ (.refl _))), ?_⟩
            refine H_done (by kernel_rfl) ?_
            rw [us_swp (by omega) (by omega)]
            obtain ⟨d2, hd2⟩ : ∃ y, y = Go.Sort.swp d1 i j := ⟨_, rfl⟩
            rw [← hd2]
            have hsd2 : d2.size = n := by rw [hd2, swp_size]; omega
            refine C_seq ?_
            refine C_region ?_
            refine L_y rfl (y_move rfl) rfl ?_
            refine L_y rfl (y_add rfl rfl (show _ = ((i + 1 : Nat) : Int) from by rw [wi64 (by omega) (by omega)]; omega)) rfl ?_
            refine L_y rfl (y_assign rfl) rfl ?_
            refine L_nil ?_
            refine C_seq ?_
            refine C_region ?_
            refine L_y rfl (y_move rfl) rfl ?_
            refine L_y rfl (y_sub rfl rfl (show _ = ((j - 1 : Nat) : Int) from by rw [wi64 (by omega) (by omega)]; omega)) rfl ?_
            refine L_y rfl (y_assign rfl) rfl ?_
            refine L_nil ?_
            refine C_seq ?_
            refine C_block ?_
            refine C_loop (ι := Array Nat × Nat × Nat) (fun x => [(0, (.slice (some ⟨sb, 0, none⟩) n cap)), (1, .int .i64 ((a : Nat) : Int)), (2, .int .i64 ((b : Nat) : Int)), (10, .int .i64 ((x.2.1 : Nat) : Int)), (11, .int .i64 ((x.2.2 : Nat) : Int))]) (fun x => useg 58 sb x.1 sp :: H) (fun x => x.1.size = n ∧ a < x.2.1 ∧ x.2.1 ≤ b ∧ x.2.2 < b ∧ Go.Sort.partLoop ltN a x.2.1 x.2.2 x.1 = Go.Sort.partLoop ltN a (i + 1) (j - 1) d2) (fun x => x.2.2 + 1 - x.2.1) (d2, i + 1, j - 1) ⟨hsd2, by simp only; omega, by simp only; omega, by simp only; omega, rfl⟩ ⟨rfl, rfl, rfl, rfl, rfl, trivial⟩ ((hsub (.cons_cons _ (.refl _))).trans (hsub_pick [0] rfl)) (fun x hx => ?_)
            obtain ⟨d3, u, v⟩ := x
            obtain ⟨hs3, hu1, hu2, hv1, hr3⟩ := hx
            try simp only at hs3 hu1 hu2 hv1 hr3
            try dsimp only
            refine C_block ?_
            refine C_cutG (ι := Nat) (fun t => a < t ∧ t ≤ b ∧ u ≤ t ∧ Go.Sort.scanUp (upP a d3) d3 v u = t) (fun t => [(0, (.slice (some ⟨sb, 0, none⟩) n cap)), (1, .int .i64 ((a : Nat) : Int)), (2, .int .i64 ((b : Nat) : Int)), (10, .int .i64 ((t : Nat) : Int)), (11, .int .i64 ((v : Nat) : Int))]) (fun t => useg 58 sb d3 sp :: H) ?_ (fun t ht => ?_)
            · refine C_block ?_
              refine C_loop (ι := Nat) (fun t => [(0, (.slice (some ⟨sb, 0, none⟩) n cap)), (1, .int .i64 ((a : Nat) : Int)), (2, .int .i64 ((b : Nat) : Int)), (10, .int .i64 ((t : Nat) : Int)), (11, .int .i64 ((v : Nat) : Int))]) (fun t => useg 58 sb d3 sp :: H) (fun t => a < t ∧ t ≤ b ∧ u ≤ t ∧ Go.Sort.scanUp (upP a d3) d3 v t = Go.Sort.scanUp (upP a d3) d3 v u) (fun t => v + 1 - t) u (by refine ⟨by omega, by omega, by omega, rfl⟩ <;> omega) ⟨rfl, rfl, rfl, rfl, rfl, trivial⟩ ((hsub (.cons_cons _ (.refl _))).trans (hsub_pick [0] rfl)) (fun t ht => ?_)
              obtain ⟨ht1, ht2, ht3, hts⟩ := ht
              refine C_seq ?_
              refine C_seq ?_
              refine C_regionH0 (by kernel_rfl) ?_
              refine H_y 0 rfl (by kernel_rfl) (by kernel_rfl) (by kernel_rfl) (HSub.refl _) rfl (y_move rfl) rfl ?_
              refine H_y 1 rfl (by kernel_rfl) (by kernel_rfl) (by kernel_rfl) (HSub.refl _) rfl (y_move rfl) rfl ?_
              refine H_y 2 rfl (by kernel_rfl) (by kernel_rfl) (by kernel_rfl) (HSub.refl _) rfl (y_leq rfl rfl) rfl ?_
              refine H_y 3 rfl (by kernel_rfl) (by kernel_rfl) (by kernel_rfl) (HSub.refl _) rfl (y_move rfl) rfl ?_
              refine H_case 102 rfl (fun hg13_4 => ?_) (fun hg13_4 => ?_)
              · have hle : t ≤ v := by have := of_decide_eq_true hg13_4; omega
                refine H_y 4 rfl (by kernel_rfl) (by kernel_rfl) (by kernel_rfl) (HSub.refl _) rfl (y_move rfl) rfl ?_
                refine H_y 5 rfl (by kernel_rfl) (by kernel_rfl) (by kernel_rfl) (HSub.refl _) rfl (y_move rfl) rfl ?_
                refine H_y 6 rfl (by kernel_rfl) (by kernel_rfl) (by kernel_rfl) (HSub.refl _) rfl (y_indexS rfl rfl Try.underlying63 sz_58 (by omega) (by omega) (ix0 (t))) rfl ?_
                refine H_y 7 rfl (by kernel_rfl) (by kernel_rfl) (by kernel_rfl) (HSub.refl _) rfl (y_load rfl ag_58 (sees 0 0 rfl) (us_at (by omega))) rfl ?_
                refine H_y 8 rfl (by kernel_rfl) (by kernel_rfl) (by kernel_rfl) (HSub.refl _) rfl (y_move rfl) rfl ?_
                refine H_y 9 rfl (by kernel_rfl) (by kernel_rfl) (by kernel_rfl) (HSub.refl _) rfl (y_move rfl) rfl ?_
                refine H_y 10 rfl (by kernel_rfl) (by kernel_rfl) (by kernel_rfl) (HSub.refl _) rfl (y_indexS rfl rfl Try.underlying63 sz_58 (by omega) (by omega) (ix0 (a))) rfl ?_
                refine H_y 11 rfl (by kernel_rfl) (by kernel_rfl) (by kernel_rfl) (HSub.refl _) rfl (y_load rfl ag_58 (sees 0 0 rfl) (us_at (by omega))) rfl ?_
                refine H_one 12 rfl (by kernel_rfl) rfl (op_call rfl rfl (fun a w => Try.call108 a w) rfl ?_)
                refine (less_u (d3[t]!) (d3[a]!)).mono ?_
                rintro _ _ ⟨rfl, e⟩
                obtain rfl := e.symm
                clear e
                refine ⟨_, rfl, ?_⟩
                refine ⟨HSub.refl _, ?_⟩
                refine H_y 13 rfl (by kernel_rfl) (by kernel_rfl) (by kernel_rfl) (HSub.refl _) rfl (y_pick_t rfl rfl) rfl ?_
                refine H_done (by kernel_rfl) ?_
                refine C_cond rfl (fun hc3 => ?_) (fun hc3 => ?_)
                · have hpt : (upP a d3) d3[t]! = true := hc3
                  refine C_skip ?_
                  refine C_block ?_
                  refine C_region ?_
                  refine L_y rfl (y_move rfl) rfl ?_
                  refine L_y rfl (y_add rfl rfl (show _ = ((t + 1 : Nat) : Int) from by rw [wi64 (by omega) (by omega)]; omega)) rfl ?_
                  refine L_y rfl (y_assign rfl) rfl ?_
                  refine L_nil ?_
                  exact ⟨t + 1, ⟨by omega, by omega, by omega, by rw [← hts, su_go hle hpt]⟩, by omega, ⟨rfl, rfl, rfl, rfl, rfl, trivial⟩, ((hsub (.cons_cons _ (.refl _))).trans (hsub_pick [0] rfl))⟩
                · have hfin := hts.symm.trans (su_stop (p := (upP a d3)) (d := d3) (.inr hc3))
                  refine C_exit ?_
                  exact ⟨t, ⟨ht1, ht2, ht3, hfin⟩, ⟨rfl, rfl, rfl, rfl, rfl, trivial⟩, ((hsub (.cons_cons _ (.refl _))).trans (hsub_pick [0] rfl))⟩
              · have hle : ¬ t ≤ v := by have := of_decide_eq_false hg13_4; omega
                have hfin := hts.symm.trans (su_stop (p := (upP a d3)) (d := d3) (.inl hle))
                refine H_skip 4 rfl (by kernel_rfl) (by kernel_rfl) (by kernel_rfl) (HSub.refl _) rfl rfl ?_
                refine H_skip 5 rfl (by kernel_rfl) (by kernel_rfl) (by kernel_rfl) (HSub.refl _) rfl rfl ?_
                refine H_skip 6 rfl (by kernel_rfl) (by kernel_rfl) (by kernel_rfl) (HSub.refl _) rfl rfl ?_
                refine H_skip 7 rfl (by kernel_rfl) (by kernel_rfl) (by kernel_rfl) (HSub.refl _) rfl rfl ?_
                refine H_skip 8 rfl (by kernel_rfl) (by kernel_rfl) (by kernel_rfl) (HSub.refl _) rfl rfl ?_
                refine H_skip 9 rfl (by kernel_rfl) (by kernel_rfl) (by kernel_rfl) (HSub.refl _) rfl rfl ?_
                refine H_skip 10 rfl (by kernel_rfl) (by kernel_rfl) (by kernel_rfl) (HSub.refl _) rfl rfl ?_
                refine H_skip 11 rfl (by kernel_rfl) (by kernel_rfl) (by kernel_rfl) (HSub.refl _) rfl rfl ?_
                refine H_skip 12 rfl (by kernel_rfl) (by kernel_rfl) (by kernel_rfl) (HSub.refl _) rfl rfl ?_
                refine H_y 13 rfl (by kernel_rfl) (by kernel_rfl) (by kernel_rfl) (HSub.refl _) rfl (y_pick_f rfl rfl) rfl ?_
                refine H_done (by kernel_rfl) ?_
                refine C_cond_f rfl ?_
                refine C_exit ?_
                exact ⟨t, ⟨ht1, ht2, ht3, hfin⟩, ⟨rfl, rfl, rfl, rfl, rfl, trivial⟩, ((hsub (.cons_cons _ (.refl _))).trans (hsub_pick [0] rfl))⟩
            · rename Nat => u2
              obtain ⟨qu20, qu21, qu22, hu2⟩ := ht
              refine C_cutG (ι := Nat) (fun t => t < b ∧ t ≤ v ∧ Go.Sort.scanDown (dnP a d3) d3 u2 v = t) (fun t => [(0, (.slice (some ⟨sb, 0, none⟩) n cap)), (1, .int .i64 ((a : Nat) : Int)), (2, .int .i64 ((b : Nat) : Int)), (10, .int .i64 ((u2 : Nat) : Int)), (11, .int .i64 ((t : Nat) : Int))]) (fun t => useg 58 sb d3 sp :: H) ?_ (fun t ht => ?_)
              · refine C_block ?_
                refine C_loop (ι := Nat) (fun t => [(0, (.slice (some ⟨sb, 0, none⟩) n cap)), (1, .int .i64 ((a : Nat) : Int)), (2, .int .i64 ((b : Nat) : Int)), (10, .int .i64 ((u2 : Nat) : Int)), (11, .int .i64 ((t : Nat) : Int))]) (fun t => useg 58 sb d3 sp :: H) (fun t => t < b ∧ t ≤ v ∧ Go.Sort.scanDown (dnP a d3) d3 u2 t = Go.Sort.scanDown (dnP a d3) d3 u2 v) (fun t => t) v (by refine ⟨by omega, by omega, rfl⟩ <;> omega) ⟨rfl, rfl, rfl, rfl, rfl, trivial⟩ ((hsub (.cons_cons _ (.refl _))).trans (hsub_pick [0] rfl)) (fun t ht => ?_)
                obtain ⟨ht1, ht2, hts⟩ := ht
                refine C_seq ?_
                refine C_seq ?_
                refine C_regionH0 (by kernel_rfl) ?_
                refine H_y 0 rfl (by kernel_rfl) (by kernel_rfl) (by kernel_rfl) (HSub.refl _) rfl (y_move rfl) rfl ?_
                refine H_y 1 rfl (by kernel_rfl) (by kernel_rfl) (by kernel_rfl) (HSub.refl _) rfl (y_move rfl) rfl ?_
                refine H_y 2 rfl (by kernel_rfl) (by kernel_rfl) (by kernel_rfl) (HSub.refl _) rfl (y_leq rfl rfl) rfl ?_
                refine H_y 3 rfl (by kernel_rfl) (by kernel_rfl) (by kernel_rfl) (HSub.refl _) rfl (y_move rfl) rfl ?_
                refine H_case 118 rfl (fun hg15_4 => ?_) (fun hg15_4 => ?_)
                · have hle : u2 ≤ t := by have := of_decide_eq_true hg15_4; omega
                  refine H_y 4 rfl (by kernel_rfl) (by kernel_rfl) (by kernel_rfl) (HSub.refl _) rfl (y_move rfl) rfl ?_
                  refine H_y 5 rfl (by kernel_rfl) (by kernel_rfl) (by kernel_rfl) (HSub.refl _) rfl (y_move rfl) rfl ?_
                  refine H_y 6 rfl (by kernel_rfl) (by kernel_rfl) (by kernel_rfl) (HSub.refl _) rfl (y_indexS rfl rfl Try.underlying63 sz_58 (by omega) (by omega) (ix0 (t))) rfl ?_
                  refine H_y 7 rfl (by kernel_rfl) (by kernel_rfl) (by kernel_rfl) (HSub.refl _) rfl (y_load rfl ag_58 (sees 0 0 rfl) (us_at (by omega))) rfl ?_
                  refine H_y 8 rfl (by kernel_rfl) (by kernel_rfl) (by kernel_rfl) (HSub.refl _) rfl (y_move rfl) rfl ?_
                  refine H_y 9 rfl (by kernel_rfl) (by kernel_rfl) (by kernel_rfl) (HSub.refl _) rfl (y_move rfl) rfl ?_
                  refine H_y 10 rfl (by kernel_rfl) (by kernel_rfl) (by kernel_rfl) (HSub.refl _) rfl (y_indexS rfl rfl Try.underlying63 sz_58 (by omega) (by omega) (ix0 (a))) rfl ?_
                  refine H_y 11 rfl (by kernel_rfl) (by kernel_rfl) (by kernel_rfl) (HSub.refl _) rfl (y_load rfl ag_58 (sees 0 0 rfl) (us_at (by omega))) rfl ?_
                  refine H_one 12 rfl (by kernel_rfl) rfl (op_call rfl rfl (fun a w => Try.call108 a w) rfl ?_)
                  refine (less_u (d3[t]!) (d3[a]!)).mono ?_
                  rintro _ _ ⟨rfl, e⟩
                  obtain rfl := e.symm
                  clear e
                  refine ⟨_, rfl, ?_⟩
                  refine ⟨HSub.refl _, ?_⟩
                  refine H_y 13 rfl (by kernel_rfl) (by kernel_rfl) (by kernel_rfl) (HSub.refl _) rfl (y_not rfl) rfl ?_
                  refine H_y 14 rfl (by kernel_rfl) (by kernel_rfl) (by kernel_rfl) (HSub.refl _) rfl (y_pick_t rfl rfl) rfl ?_
                  refine H_done (by kernel_rfl) ?_
                  refine C_cond rfl (fun hc4 => ?_) (fun hc4 => ?_)
                  · have hpt : (dnP a d3) d3[t]! = true := hc4
                    refine C_skip ?_
                    refine C_block ?_
                    refine C_region ?_
                    refine L_y rfl (y_move rfl) rfl ?_
                    refine L_y rfl (y_sub rfl rfl (show _ = ((t - 1 : Nat) : Int) from by rw [wi64 (by omega) (by omega)]; omega)) rfl ?_
                    refine L_y rfl (y_assign rfl) rfl ?_
                    refine L_nil ?_
                    exact ⟨t - 1, ⟨by omega, by omega, by rw [← hts, sn_go hle (by omega) hpt]⟩, by omega, ⟨rfl, rfl, rfl, rfl, rfl, trivial⟩, ((hsub (.cons_cons _ (.refl _))).trans (hsub_pick [0] rfl))⟩
                  · have hfin := hts.symm.trans (sn_stop (p := (dnP a d3)) (d := d3) (.inr hc4))
                    refine C_exit ?_
                    exact ⟨t, ⟨ht1, ht2, hfin⟩, ⟨rfl, rfl, rfl, rfl, rfl, trivial⟩, ((hsub (.cons_cons _ (.refl _))).trans (hsub_pick [0] rfl))⟩
                · have hle : ¬ u2 ≤ t := by have := of_decide_eq_false hg15_4; omega
                  have hfin := hts.symm.trans (sn_stop (p := (dnP a d3)) (d := d3) (.inl hle))
                  refine H_skip 4 rfl (by kernel_rfl) (by kernel_rfl) (by kernel_rfl) (HSub.refl _) rfl rfl ?_
                  refine H_skip 5 rfl (by kernel_rfl) (by kernel_rfl) (by kernel_rfl) (HSub.refl _) rfl rfl ?_
                  refine H_skip 6 rfl (by kernel_rfl) (by kernel_rfl) (by kernel_rfl) (HSub.refl _) rfl rfl ?_
                  refine H_skip 7 rfl (by kernel_rfl) (by kernel_rfl) (by kernel_rfl) (HSub.refl _) rfl rfl ?_
                  refine H_skip 8 rfl (by kernel_rfl) (by kernel_rfl) (by kernel_rfl) (HSub.refl _) rfl rfl ?_
                  refine H_skip 9 rfl (by kernel_rfl) (by kernel_rfl) (by kernel_rfl) (HSub.refl _) rfl rfl ?_
                  refine H_skip 10 rfl (by kernel_rfl) (by kernel_rfl) (by kernel_rfl) (HSub.refl _) rfl rfl ?_
                  refine H_skip 11 rfl (by kernel_rfl) (by kernel_rfl) (by kernel_rfl) (HSub.refl _) rfl rfl ?_
                  refine H_skip 12 rfl (by kernel_rfl) (by kernel_rfl) (by kernel_rfl) (HSub.refl _) rfl rfl ?_
                  refine H_skip 13 rfl (by kernel_rfl) (by kernel_rfl) (by kernel_rfl) (HSub.refl _) rfl rfl ?_
                  refine H_y 14 rfl (by kernel_rfl) (by kernel_rfl) (by kernel_rfl) (HSub.refl _) rfl (y_pick_f rfl rfl) rfl ?_
                  refine H_done (by kernel_rfl) ?_
                  refine C_cond_f rfl ?_
                  refine C_exit ?_
                  exact ⟨t, ⟨ht1, ht2, hfin⟩, ⟨rfl, rfl, rfl, rfl, rfl, trivial⟩, ((hsub (.cons_cons _ (.refl _))).trans (hsub_pick [0] rfl))⟩
              · rename Nat => v2
                obtain ⟨qv20, qv21, hv2⟩ := ht
                refine C_seq ?_
                refine C_seq ?_
                refine C_region ?_
                refine L_y rfl (y_move rfl) rfl ?_
                refine L_y rfl (y_move rfl) rfl ?_
                refine L_y rfl (y_gtr rfl rfl) rfl ?_
                refine L_nil ?_
                refine C_cond rfl (fun hc5 => ?_) (fun hc5 => ?_)
                · replace hc5 : v2 < u2 := by have := of_decide_eq_true hc5; omega
                  refine C_exit ?_
                  refine C_seq ?_
                  refine C_regionH H (by kernel_rfl) ?_
                  refine H_y 0 rfl (by kernel_rfl) (by kernel_rfl) (by kernel_rfl) ((hsub (.cons _ (.refl _)))) rfl (y_move rfl) rfl ?_
                  refine H_y 1 rfl (by kernel_rfl) (by kernel_rfl) (by kernel_rfl) ((hsub (.cons _ (.refl _)))) rfl (y_move rfl) rfl ?_
                  refine H_y 2 rfl (by kernel_rfl) (by kernel_rfl) (by kernel_rfl) ((hsub (.cons _ (.refl _)))) rfl (y_move rfl) rfl ?_
                  refine H_y 3 rfl (by kernel_rfl) (by kernel_rfl) (by kernel_rfl) ((hsub (.cons _ (.refl _)))) rfl (y_move rfl) rfl ?_
                  refine H_y 4 rfl (by kernel_rfl) (by kernel_rfl) (by kernel_rfl) ((hsub (.cons _ (.refl _)))) rfl (y_move rfl) rfl ?_
                  refine H_y 5 rfl (by kernel_rfl) (by kernel_rfl) (by kernel_rfl) ((hsub (.cons _ (.refl _)))) rfl (y_move rfl) rfl ?_
                  refine H_y 6 rfl (by kernel_rfl) (by kernel_rfl) (by kernel_rfl) ((hsub (.cons _ (.refl _)))) rfl (y_indexS rfl rfl Try.underlying63 sz_58 (by omega) (by omega) (ix0 (a))) rfl ?_
                  refine H_y 8 rfl (by kernel_rfl) (by kernel_rfl) (by kernel_rfl) ((hsub (.cons _ (.refl _)))) rfl (y_move rfl) rfl ?_
                  refine H_y 9 rfl (by kernel_rfl) (by kernel_rfl) (by kernel_rfl) ((hsub (.cons _ (.refl _)))) rfl (y_move rfl) rfl ?_
                  refine H_y 10 rfl (by kernel_rfl) (by kernel_rfl) (by kernel_rfl) ((hsub (.cons _ (.refl _)))) rfl (y_indexS rfl rfl Try.underlying63 sz_58 (by omega) (by omega) (ix0 (v2))) rfl ?_
                  refine H_two 7 11 rfl rfl (by kernel_rfl) rfl rfl ?_ ?_
                  · refine op_y (y_load rfl ag_58 (sees 0 0 rfl) (us_at (by omega))) rfl ?_
                    refine ⟨(hsub (.cons _ (.refl _))), ?_⟩
                    refine H_one 11 rfl (by kernel_rfl) rfl (op_y (y_load rfl ag_58 (sees 0 0 rfl) (us_at (by omega))) rfl ?_)
                    refine ⟨(hsub (.cons _ (.refl _))), ?_⟩
                    refine H_y 12 rfl (by kernel_rfl) (by kernel_rfl) (by kernel_rfl) ((hsub (.cons _ (.refl _)))) rfl (y_indexS rfl rfl Try.underlying63 sz_58 (by omega) (by omega) (ix0 (v2))) rfl ?_
                    refine H_one 13 rfl (by kernel_rfl) rfl (op_store1 0 0 rfl rfl rfl sz_58 rfl (us_lt (by omega)) ?_)
                    refine ⟨(hsub (.cons _ (.refl _))), ?_⟩
                    refine H_y 14 rfl (by kernel_rfl) (by kernel_rfl) (by kernel_rfl) ((hsub (.cons _ (.refl _)))) rfl (y_indexS rfl rfl Try.underlying63 sz_58 (by omega) (by omega) (ix0 (a))) rfl ?_
                    refine H_one 15 rfl (by kernel_rfl) rfl (op_store1 0 0 rfl rfl rfl sz_58 rfl (by rw [List.length_set]; exact us_lt (by omega)) ?_)
                    refine ⟨(hsub (.cons _ (.refl _))), ?_⟩
                    refine H_done (by kernel_rfl) ?_
                    rw [us_swp (by omega) (by omega)]
                    refine C_seq ?_
                    refine C_region ?_
                    refine L_y rfl (y_move rfl) rfl ?_
                    refine L_y rfl (y_assign rfl) rfl ?_
                    refine L_y rfl (y_assign rfl) rfl ?_
                    refine L_nil ?_
                    refine C_ret ?_
                    refine B_ret (rv_tmp rfl (rv_tmp rfl rv_nil)) ((hsub (.cons_cons _ (.refl _))).trans (hsub_pick [0] rfl)) ?_
                    first
                    | (rw [pt_t hd1 hi hj hc2]; exact ⟨rfl, rfl⟩)
                    | (rw [pt_f (j2 := v2) (d2 := d3) hd1 hi hj hc2 (by rw [← hd2, ← hr3]; exact pl_stop hu2 hv2 hc5)]; exact ⟨rfl, rfl⟩)
                  · refine op_y (y_load rfl ag_58 (sees 0 0 rfl) (us_at (by omega))) rfl ?_
                    refine ⟨(hsub (.cons _ (.refl _))), ?_⟩
                    refine H_one 7 rfl (by kernel_rfl) rfl (op_y (y_load rfl ag_58 (sees 0 0 rfl) (us_at (by omega))) rfl ?_)
                    refine ⟨(hsub (.cons _ (.refl _))), ?_⟩
                    refine H_y 12 rfl (by kernel_rfl) (by kernel_rfl) (by kernel_rfl) ((hsub (.cons _ (.refl _)))) rfl (y_indexS rfl rfl Try.underlying63 sz_58 (by omega) (by omega) (ix0 (v2))) rfl ?_
                    refine H_one 13 rfl (by kernel_rfl) rfl (op_store1 0 0 rfl rfl rfl sz_58 rfl (us_lt (by omega)) ?_)
                    refine ⟨(hsub (.cons _ (.refl _))), ?_⟩
                    refine H_y 14 rfl (by kernel_rfl) (by kernel_rfl) (by kernel_rfl) ((hsub (.cons _ (.refl _)))) rfl (y_indexS rfl rfl Try.underlying63 sz_58 (by omega) (by omega) (ix0 (a))) rfl ?_
                    refine H_one 15 rfl (by kernel_rfl) rfl (op_store1 0 0 rfl rfl rfl sz_58 rfl (by rw [List.length_set]; exact us_lt (by omega)) ?_)
                    refine ⟨(hsub (.cons _ (.refl _))), ?_⟩
                    refine H_done (by kernel_rfl) ?_
                    rw [us_swp (by omega) (by omega)]
                    refine C_seq ?_
                    refine C_region ?_
                    refine L_y rfl (y_move rfl) rfl ?_
                    refine L_y rfl (y_assign rfl) rfl ?_
                    refine L_y rfl (y_assign rfl) rfl ?_
                    refine L_nil ?_
                    refine C_ret ?_
                    refine B_ret (rv_tmp rfl (rv_tmp rfl rv_nil)) ((hsub (.cons_cons _ (.refl _))).trans (hsub_pick [0] rfl)) ?_
                    first
                    | (rw [pt_t hd1 hi hj hc2]; exact ⟨rfl, rfl⟩)
                    | (rw [pt_f (j2 := v2) (d2 := d3) hd1 hi hj hc2 (by rw [← hd2, ← hr3]; exact pl_stop hu2 hv2 hc5)]; exact ⟨rfl, rfl⟩)
                · replace hc5 : ¬ v2 < u2 := by have := of_decide_eq_false hc5; omega
                  refine C_skip ?_
                  refine C_seq ?_
                  refine C_regionH H (by kernel_rfl) ?_
                  refine H_y 0 rfl (by kernel_rfl) (by kernel_rfl) (by kernel_rfl) ((hsub (.cons _ (.refl _)))) rfl (y_move rfl) rfl ?_
                  refine H_y 1 rfl (by kernel_rfl) (by kernel_rfl) (by kernel_rfl) ((hsub (.cons _ (.refl _)))) rfl (y_move rfl) rfl ?_
                  refine H_y 2 rfl (by kernel_rfl) (by kernel_rfl) (by kernel_rfl) ((hsub (.cons _ (.refl _)))) rfl (y_move rfl) rfl ?_
                  refine H_y 3 rfl (by kernel_rfl) (by kernel_rfl) (by kernel_rfl) ((hsub (.cons _ (.refl _)))) rfl (y_move rfl) rfl ?_
                  refine H_y 4 rfl (by kernel_rfl) (by kernel_rfl) (by kernel_rfl) ((hsub (.cons _ (.refl _)))) rfl (y_move rfl) rfl ?_
                  refine H_y 5 rfl (by kernel_rfl) (by kernel_rfl) (by kernel_rfl) ((hsub (.cons _ (.refl _)))) rfl (y_move rfl) rfl ?_
                  refine H_y 6 rfl (by kernel_rfl) (by kernel_rfl) (by kernel_rfl) ((hsub (.cons _ (.refl _)))) rfl (y_indexS rfl rfl Try.underlying63 sz_58 (by omega) (by omega) (ix0 (v2))) rfl ?_
                  refine H_y 8 rfl (by kernel_rfl) (by kernel_rfl) (by kernel_rfl) ((hsub (.cons _ (.refl _)))) rfl (y_move rfl) rfl ?_
                  refine H_y 9 rfl (by kernel_rfl) (by kernel_rfl) (by kernel_rfl) ((hsub (.cons _ (.refl _)))) rfl (y_move rfl) rfl ?_
                  refine H_y 10 rfl (by kernel_rfl) (by kernel_rfl) (by kernel_rfl) ((hsub (.cons _ (.refl _)))) rfl (y_indexS rfl rfl Try.underlying63 sz_58 (by omega) (by omega) (ix0 (u2))) rfl ?_
                  refine H_two 7 11 rfl rfl (by kernel_rfl) rfl rfl ?_ ?_
                  · refine op_y (y_load rfl ag_58 (sees 0 0 rfl) (us_at (by omega))) rfl ?_
                    refine ⟨(hsub (.cons _ (.refl _))), ?_⟩
                    refine H_one 11 rfl (by kernel_rfl) rfl (op_y (y_load rfl ag_58 (sees 0 0 rfl) (us_at (by omega))) rfl ?_)
                    refine ⟨(hsub (.cons _ (.refl _))), ?_⟩
                    refine H_y 12 rfl (by kernel_rfl) (by kernel_rfl) (by kernel_rfl) ((hsub (.cons _ (.refl _)))) rfl (y_indexS rfl rfl Try.underlying63 sz_58 (by omega) (by omega) (ix0 (u2))) rfl ?_
                    refine H_one 13 rfl (by kernel_rfl) rfl (op_store1 0 0 rfl rfl rfl sz_58 rfl (us_lt (by omega)) ?_)
                    refine ⟨(hsub (.cons _ (.refl _))), ?_⟩
                    refine H_y 14 rfl (by kernel_rfl) (by kernel_rfl) (by kernel_rfl) ((hsub (.cons _ (.refl _)))) rfl (y_indexS rfl rfl Try.underlying63 sz_58 (by omega) (by omega) (ix0 (v2))) rfl ?_
                    refine H_one 15 rfl (by kernel_rfl) rfl (op_store1 0 0 rfl rfl rfl sz_58 rfl (by rw [List.length_set]; exact us_lt (by omega)) ?_)
                    refine ⟨(hsub (.cons _ (.refl _))), ?_⟩
                    refine H_done (by kernel_rfl) ?_
                    rw [us_swp (by omega) (by omega)]
                    refine C_seq ?_
                    refine C_region ?_
                    refine L_y rfl (y_move rfl) rfl ?_
                    refine L_y rfl (y_add rfl rfl (show _ = ((u2 + 1 : Nat) : Int) from by rw [wi64 (by omega) (by omega)]; omega)) rfl ?_
                    refine L_y rfl (y_assign rfl) rfl ?_
                    refine L_nil ?_
                    refine C_region ?_
                    refine L_y rfl (y_move rfl) rfl ?_
                    refine L_y rfl (y_sub rfl rfl (show _ = ((v2 - 1 : Nat) : Int) from by rw [wi64 (by omega) (by omega)]; omega)) rfl ?_
                    refine L_y rfl (y_assign rfl) rfl ?_
                    refine L_nil ?_
                    exact ⟨(Go.Sort.swp d3 u2 v2, u2 + 1, v2 - 1), ⟨by simp only; rw [swp_size]; exact hs3, by simp only; omega, by simp only; omega, by simp only; omega, by simp only; rw [← hr3, pl_go hu2 hv2 hc5]⟩, by simp only; omega, ⟨rfl, rfl, rfl, rfl, rfl, trivial⟩, ((hsub (.cons_cons _ (.refl _))).trans (hsub_pick [0] rfl))⟩
                  · refine op_y (y_load rfl ag_58 (sees 0 0 rfl) (us_at (by omega))) rfl ?_
                    refine ⟨(hsub (.cons _ (.refl _))), ?_⟩
                    refine H_one 7 rfl (by kernel_rfl) rfl (op_y (y_load rfl ag_58 (sees 0 0 rfl) (us_at (by omega))) rfl ?_)
                    refine ⟨(hsub (.cons _ (.refl _))), ?_⟩
                    refine H_y 12 rfl (by kernel_rfl) (by kernel_rfl) (by kernel_rfl) ((hsub (.cons _ (.refl _)))) rfl (y_indexS rfl rfl Try.underlying63 sz_58 (by omega) (by omega) (ix0 (u2))) rfl ?_
                    refine H_one 13 rfl (by kernel_rfl) rfl (op_store1 0 0 rfl rfl rfl sz_58 rfl (us_lt (by omega)) ?_)
                    refine ⟨(hsub (.cons _ (.refl _))), ?_⟩
                    refine H_y 14 rfl (by kernel_rfl) (by kernel_rfl) (by kernel_rfl) ((hsub (.cons _ (.refl _)))) rfl (y_indexS rfl rfl Try.underlying63 sz_58 (by omega) (by omega) (ix0 (v2))) rfl ?_
                    refine H_one 15 rfl (by kernel_rfl) rfl (op_store1 0 0 rfl rfl rfl sz_58 rfl (by rw [List.length_set]; exact us_lt (by omega)) ?_)
                    refine ⟨(hsub (.cons _ (.refl _))), ?_⟩
                    refine H_done (by kernel_rfl) ?_
                    rw [us_swp (by omega) (by omega)]
                    refine C_seq ?_
                    refine C_region ?_
                    refine L_y rfl (y_move rfl) rfl ?_
                    refine L_y rfl (y_add rfl rfl (show _ = ((u2 + 1 : Nat) : Int) from by rw [wi64 (by omega) (by omega)]; omega)) rfl ?_
                    refine L_y rfl (y_assign rfl) rfl ?_
                    refine L_nil ?_
                    refine C_region ?_
                    refine L_y rfl (y_move rfl) rfl ?_
                    refine L_y rfl (y_sub rfl rfl (show _ = ((v2 - 1 : Nat) : Int) from by rw [wi64 (by omega) (by omega)]; omega)) rfl ?_
                    refine L_y rfl (y_assign rfl) rfl ?_
                    refine L_nil ?_
                    exact ⟨(Go.Sort.swp d3 u2 v2, u2 + 1, v2 - 1), ⟨by simp only; rw [swp_size]; exact hs3, by simp only; omega, by simp only; omega, by simp only; omega, by simp only; rw [← hr3, pl_go hu2 hv2 hc5]⟩, by simp only; omega, ⟨rfl, rfl, rfl, rfl, rfl, trivial⟩, ((hsub (.cons_cons _ (.refl _))).trans (hsub_pick [0] rfl))⟩
          · refine op_y (y_load rfl ag_58 (sees 0 0 rfl) (us_at (by omega))) rfl ?_
            refine ⟨(hsub (.cons _ (.refl _))), ?_⟩
            refine H_one 7 rfl (by kernel_rfl) rfl (op_y (y_load rfl ag_58 (sees 0 0 rfl) (us_at (by omega))) rfl ?_)
            refine ⟨(hsub (.cons _ (.refl _))), ?_⟩
            refine H_y 12 rfl (by kernel_rfl) (by kernel_rfl) (by kernel_rfl) ((hsub (.cons _ (.refl _)))) rfl (y_indexS rfl rfl Try.underlying63 sz_58 (by omega) (by omega) (ix0 (i))) rfl ?_
            refine H_one 13 rfl (by kernel_rfl) rfl (op_store1 0 0 rfl rfl rfl sz_58 rfl (us_lt (by omega)) ?_)
            refine ⟨(hsub (.cons _ (.refl _))), ?_⟩
            refine H_y 14 rfl (by kernel_rfl) (by kernel_rfl) (by kernel_rfl) ((hsub (.cons _ (.refl _)))) rfl (y_indexS rfl rfl Try.underlying63 sz_58 (by omega) (by omega) (ix0 (j))) rfl ?_
            refine H_one 15 rfl (by kernel_rfl) rfl (op_store1 0 0 rfl rfl rfl sz_58 rfl (by rw [List.length_set]; exact us_lt (by omega)) ?_)
            refine ⟨(hsub (.cons _ (.refl _))), ?_⟩
            refine H_done (by kernel_rfl) ?_
            rw [us_swp (by omega) (by omega)]
            obtain ⟨d2, hd2⟩ : ∃ y, y = Go.Sort.swp d1 i j := ⟨_, rfl⟩
            rw [← hd2]
            have hsd2 : d2.size = n := by rw [hd2, swp_size]; omega
            refine C_seq ?_
            refine C_region ?_
            refine L_y rfl (y_move rfl) rfl ?_
            refine L_y rfl (y_add rfl rfl (show _ = ((i + 1 : Nat) : Int) from by rw [wi64 (by omega) (by omega)]; omega)) rfl ?_
            refine L_y rfl (y_assign rfl) rfl ?_
            refine L_nil ?_
            refine C_seq ?_
            refine C_region ?_
            refine L_y rfl (y_move rfl) rfl ?_
            refine L_y rfl (y_sub rfl rfl (show _ = ((j - 1 : Nat) : Int) from by rw [wi64 (by omega) (by omega)]; omega)) rfl ?_
            refine L_y rfl (y_assign rfl) rfl ?_
            refine L_nil ?_
            refine C_seq ?_
            refine C_block ?_
            refine C_loop (ι := Array Nat × Nat × Nat) (fun x => [(0, (.slice (some ⟨sb, 0, none⟩) n cap)), (1, .int .i64 ((a : Nat) : Int)), (2, .int .i64 ((b : Nat) : Int)), (10, .int .i64 ((x.2.1 : Nat) : Int)), (11, .int .i64 ((x.2.2 : Nat) : Int))]) (fun x => useg 58 sb x.1 sp :: H) (fun x => x.1.size = n ∧ a < x.2.1 ∧ x.2.1 ≤ b ∧ x.2.2 < b ∧ Go.Sort.partLoop ltN a x.2.1 x.2.2 x.1 = Go.Sort.partLoop ltN a (i + 1) (j - 1) d2) (fun x => x.2.2 + 1 - x.2.1) (d2, i + 1, j - 1) ⟨hsd2, by simp only; omega, by simp only; omega, by simp only; omega, rfl⟩ ⟨rfl, rfl, rfl, rfl, rfl, trivial⟩ ((hsub (.cons_cons _ (.refl _))).trans (hsub_pick [0] rfl)) (fun x hx => ?_)
            obtain ⟨d3, u, v⟩ := x
            obtain ⟨hs3, hu1, hu2, hv1, hr3⟩ := hx
            try simp only at hs3 hu1 hu2 hv1 hr3
            try dsimp only
            refine C_block ?_
            refine C_cutG (ι := Nat) (fun t => a < t ∧ t ≤ b ∧ u ≤ t ∧ Go.Sort.scanUp (upP a d3) d3 v u = t) (fun t => [(0, (.slice (some ⟨sb, 0, none⟩) n cap)), (1, .int .i64 ((a : Nat) : Int)), (2, .int .i64 ((b : Nat) : Int)), (10, .int .i64 ((t : Nat) : Int)), (11, .int .i64 ((v : Nat) : Int))]) (fun t => useg 58 sb d3 sp :: H) ?_ (fun t ht => ?_)
            · refine C_block ?_
              refine C_loop (ι := Nat) (fun t => [(0, (.slice (some ⟨sb, 0, none⟩) n cap)), (1, .int .i64 ((a : Nat) : Int)), (2, .int .i64 ((b : Nat) : Int)), (10, .int .i64 ((t : Nat) : Int)), (11, .int .i64 ((v : Nat) : Int))]) (fun t => useg 58 sb d3 sp :: H) (fun t => a < t ∧ t ≤ b ∧ u ≤ t ∧ Go.Sort.scanUp (upP a d3) d3 v t = Go.Sort.scanUp (upP a d3) d3 v u) (fun t => v + 1 - t) u (by refine ⟨by omega, by omega, by omega, rfl⟩ <;> omega) ⟨rfl, rfl, rfl, rfl, rfl, trivial⟩ ((hsub (.cons_cons _ (.refl _))).trans (hsub_pick [0] rfl)) (fun t ht => ?_)
              obtain ⟨ht1, ht2, ht3, hts⟩ := ht
              refine C_seq ?_
              refine C_seq ?_
              refine C_regionH0 (by kernel_rfl) ?_
              refine H_y 0 rfl (by kernel_rfl) (by kernel_rfl) (by kernel_rfl) (HSub.refl _) rfl (y_move rfl) rfl ?_
              refine H_y 1 rfl (by kernel_rfl) (by kernel_rfl) (by kernel_rfl) (HSub.refl _) rfl (y_move rfl) rfl ?_
              refine H_y 2 rfl (by kernel_rfl) (by kernel_rfl) (by kernel_rfl) (HSub.refl _) rfl (y_leq rfl rfl) rfl ?_
              refine H_y 3 rfl (by kernel_rfl) (by kernel_rfl) (by kernel_rfl) (HSub.refl _) rfl (y_move rfl) rfl ?_
              refine H_case 102 rfl (fun hg13_4 => ?_) (fun hg13_4 => ?_)
              · have hle : t ≤ v := by have := of_decide_eq_true hg13_4; omega
                refine H_y 4 rfl (by kernel_rfl) (by kernel_rfl) (by kernel_rfl) (HSub.refl _) rfl (y_move rfl) rfl ?_
                refine H_y 5 rfl (by kernel_rfl) (by kernel_rfl) (by kernel_rfl) (HSub.refl _) rfl (y_move rfl) rfl ?_
                refine H_y 6 rfl (by kernel_rfl) (by kernel_rfl) (by kernel_rfl) (HSub.refl _) rfl (y_indexS rfl rfl Try.underlying63 sz_58 (by omega) (by omega) (ix0 (t))) rfl ?_
                refine H_y 7 rfl (by kernel_rfl) (by kernel_rfl) (by kernel_rfl) (HSub.refl _) rfl (y_load rfl ag_58 (sees 0 0 rfl) (us_at (by omega))) rfl ?_
                refine H_y 8 rfl (by kernel_rfl) (by kernel_rfl) (by kernel_rfl) (HSub.refl _) rfl (y_move rfl) rfl ?_
                refine H_y 9 rfl (by kernel_rfl) (by kernel_rfl) (by kernel_rfl) (HSub.refl _) rfl (y_move rfl) rfl ?_
                refine H_y 10 rfl (by kernel_rfl) (by kernel_rfl) (by kernel_rfl) (HSub.refl _) rfl (y_indexS rfl rfl Try.underlying63 sz_58 (by omega) (by omega) (ix0 (a))) rfl ?_
                refine H_y 11 rfl (by kernel_rfl) (by kernel_rfl) (by kernel_rfl) (HSub.refl _) rfl (y_load rfl ag_58 (sees 0 0 rfl) (us_at (by omega))) rfl ?_
                refine H_one 12 rfl (by kernel_rfl) rfl (op_call rfl rfl (fun a w => Try.call108 a w) rfl ?_)
                refine (less_u (d3[t]!) (d3[a]!)).mono ?_
                rintro _ _ ⟨rfl, e⟩
                obtain rfl := e.symm
                clear e
                refine ⟨_, rfl, ?_⟩
                refine ⟨HSub.refl _, ?_⟩
                refine H_y 13 rfl (by kernel_rfl) (by kernel_rfl) (by kernel_rfl) (HSub.refl _) rfl (y_pick_t rfl rfl) rfl ?_
                refine H_done (by kernel_rfl) ?_
                refine C_cond rfl (fun hc3 => ?_) (fun hc3 => ?_)
                · have hpt : (upP a d3) d3[t]! = true := hc3
                  refine C_skip ?_
                  refine C_block ?_
                  refine C_region ?_
                  refine L_y rfl (y_move rfl) rfl ?_
                  refine L_y rfl (y_add rfl rfl (show _ = ((t + 1 : Nat) : Int) from by rw [wi64 (by omega) (by omega)]; omega)) rfl ?_
                  refine L_y rfl (y_assign rfl) rfl ?_
                  refine L_nil ?_
                  exact ⟨t + 1, ⟨by omega, by omega, by omega, by rw [← hts, su_go hle hpt]⟩, by omega, ⟨rfl, rfl, rfl, rfl, rfl, trivial⟩, ((hsub (.cons_cons _ (.refl _))).trans (hsub_pick [0] rfl))⟩
                · have hfin := hts.symm.trans (su_stop (p := (upP a d3)) (d := d3) (.inr hc3))
                  refine C_exit ?_
                  exact ⟨t, ⟨ht1, ht2, ht3, hfin⟩, ⟨rfl, rfl, rfl, rfl, rfl, trivial⟩, ((hsub (.cons_cons _ (.refl _))).trans (hsub_pick [0] rfl))⟩
              · have hle : ¬ t ≤ v := by have := of_decide_eq_false hg13_4; omega
                have hfin := hts.symm.trans (su_stop (p := (upP a d3)) (d := d3) (.inl hle))
                refine H_skip 4 rfl (by kernel_rfl) (by kernel_rfl) (by kernel_rfl) (HSub.refl _) rfl rfl ?_
                refine H_skip 5 rfl (by kernel_rfl) (by kernel_rfl) (by kernel_rfl) (HSub.refl _) rfl rfl ?_
                refine H_skip 6 rfl (by kernel_rfl) (by kernel_rfl) (by kernel_rfl) (HSub.refl _) rfl rfl ?_
                refine H_skip 7 rfl (by kernel_rfl) (by kernel_rfl) (by kernel_rfl) (HSub.refl _) rfl rfl ?_
                refine H_skip 8 rfl (by kernel_rfl) (by kernel_rfl) (by kernel_rfl) (HSub.refl _) rfl rfl ?_
                refine H_skip 9 rfl (by kernel_rfl) (by kernel_rfl) (by kernel_rfl) (HSub.refl _) rfl rfl ?_
                refine H_skip 10 rfl (by kernel_rfl) (by kernel_rfl) (by kernel_rfl) (HSub.refl _) rfl rfl ?_
                refine H_skip 11 rfl (by kernel_rfl) (by kernel_rfl) (by kernel_rfl) (HSub.refl _) rfl rfl ?_
                refine H_skip 12 rfl (by kernel_rfl) (by kernel_rfl) (by kernel_rfl) (HSub.refl _) rfl rfl ?_
                refine H_y 13 rfl (by kernel_rfl) (by kernel_rfl) (by kernel_rfl) (HSub.refl _) rfl (y_pick_f rfl rfl) rfl ?_
                refine H_done (by kernel_rfl) ?_
                refine C_cond_f rfl ?_
                refine C_exit ?_
                exact ⟨t, ⟨ht1, ht2, ht3, hfin⟩, ⟨rfl, rfl, rfl, rfl, rfl, trivial⟩, ((hsub (.cons_cons _ (.refl _))).trans (hsub_pick [0] rfl))⟩
            · rename Nat => u2
              obtain ⟨qu20, qu21, qu22, hu2⟩ := ht
              refine C_cutG (ι := Nat) (fun t => t < b ∧ t ≤ v ∧ Go.Sort.scanDown (dnP a d3) d3 u2 v = t) (fun t => [(0, (.slice (some ⟨sb, 0, none⟩) n cap)), (1, .int .i64 ((a : Nat) : Int)), (2, .int .i64 ((b : Nat) : Int)), (10, .int .i64 ((u2 : Nat) : Int)), (11, .int .i64 ((t : Nat) : Int))]) (fun t => useg 58 sb d3 sp :: H) ?_ (fun t ht => ?_)
              · refine C_block ?_
                refine C_loop (ι := Nat) (fun t => [(0, (.slice (some ⟨sb, 0, none⟩) n cap)), (1, .int .i64 ((a : Nat) : Int)), (2, .int .i64 ((b : Nat) : Int)), (10, .int .i64 ((u2 : Nat) : Int)), (11, .int .i64 ((t : Nat) : Int))]) (fun t => useg 58 sb d3 sp :: H) (fun t => t < b ∧ t ≤ v ∧ Go.Sort.scanDown (dnP a d3) d3 u2 t = Go.Sort.scanDown (dnP a d3) d3 u2 v) (fun t => t) v (by refine ⟨by omega, by omega, rfl⟩ <;> omega) ⟨rfl, rfl, rfl, rfl, rfl, trivial⟩ ((hsub (.cons_cons _ (.refl _))).trans (hsub_pick [0] rfl)) (fun t ht => ?_)
                obtain ⟨ht1, ht2, hts⟩ := ht
                refine C_seq ?_
                refine C_seq ?_
                refine C_regionH0 (by kernel_rfl) ?_
                refine H_y 0 rfl (by kernel_rfl) (by kernel_rfl) (by kernel_rfl) (HSub.refl _) rfl (y_move rfl) rfl ?_
                refine H_y 1 rfl (by kernel_rfl) (by kernel_rfl) (by kernel_rfl) (HSub.refl _) rfl (y_move rfl) rfl ?_
                refine H_y 2 rfl (by kernel_rfl) (by kernel_rfl) (by kernel_rfl) (HSub.refl _) rfl (y_leq rfl rfl) rfl ?_
                refine H_y 3 rfl (by kernel_rfl) (by kernel_rfl) (by kernel_rfl) (HSub.refl _) rfl (y_move rfl) rfl ?_
                refine H_case 118 rfl (fun hg15_4 => ?_) (fun hg15_4 => ?_)
                · have hle : u2 ≤ t := by have := of_decide_eq_true hg15_4; omega
                  refine H_y 4 rfl (by kernel_rfl) (by kernel_rfl) (by kernel_rfl) (HSub.refl _) rfl (y_move rfl) rfl ?_
                  refine H_y 5 rfl (by kernel_rfl) (by kernel_rfl) (by kernel_rfl) (HSub.refl _) rfl (y_move rfl) rfl ?_
                  refine H_y 6 rfl (by kernel_rfl) (by kernel_rfl) (by kernel_rfl) (HSub.refl _) rfl (y_indexS rfl rfl Try.underlying63 sz_58 (by omega) (by omega) (ix0 (t))) rfl ?_
                  refine H_y 7 rfl (by kernel_rfl) (by kernel_rfl) (by kernel_rfl) (HSub.refl _) rfl (y_load rfl ag_58 (sees 0 0 rfl) (us_at (by omega))) rfl ?_
                  refine H_y 8 rfl (by kernel_rfl) (by kernel_rfl) (by kernel_rfl) (HSub.refl _) rfl (y_move rfl) rfl ?_
                  refine H_y 9 rfl (by kernel_rfl) (by kernel_rfl) (by kernel_rfl) (HSub.refl _) rfl (y_move rfl) rfl ?_
                  refine H_y 10 rfl (by kernel_rfl) (by kernel_rfl) (by kernel_rfl) (HSub.refl _) rfl (y_indexS rfl rfl Try.underlying63 sz_58 (by omega) (by omega) (ix0 (a))) rfl ?_
                  refine H_y 11 rfl (by kernel_rfl) (by kernel_rfl) (by kernel_rfl) (HSub.refl _) rfl (y_load rfl ag_58 (sees 0 0 rfl) (us_at (by omega))) rfl ?_
                  refine H_one 12 rfl (by kernel_rfl) rfl (op_call rfl rfl (fun a w => Try.call108 a w) rfl ?_)
                  refine (less_u (d3[t]!) (d3[a]!)).mono ?_
                  rintro _ _ ⟨rfl, e⟩
                  obtain rfl := e.symm
                  clear e
                  refine ⟨_, rfl, ?_⟩
                  refine ⟨HSub.refl _, ?_⟩
                  refine H_y 13 rfl (by kernel_rfl) (by kernel_rfl) (by kernel_rfl) (HSub.refl _) rfl (y_not rfl) rfl ?_
                  refine H_y 14 rfl (by kernel_rfl) (by kernel_rfl) (by kernel_rfl) (HSub.refl _) rfl (y_pick_t rfl rfl) rfl ?_
                  refine H_done (by kernel_rfl) ?_
                  refine C_cond rfl (fun hc4 => ?_) (fun hc4 => ?_)
                  · have hpt : (dnP a d3) d3[t]! = true := hc4
                    refine C_skip ?_
                    refine C_block ?_
                    refine C_region ?_
                    refine L_y rfl (y_move rfl) rfl ?_
                    refine L_y rfl (y_sub rfl rfl (show _ = ((t - 1 : Nat) : Int) from by rw [wi64 (by omega) (by omega)]; omega)) rfl ?_
                    refine L_y rfl (y_assign rfl) rfl ?_
                    refine L_nil ?_
                    exact ⟨t - 1, ⟨by omega, by omega, by rw [← hts, sn_go hle (by omega) hpt]⟩, by omega, ⟨rfl, rfl, rfl, rfl, rfl, trivial⟩, ((hsub (.cons_cons _ (.refl _))).trans (hsub_pick [0] rfl))⟩
                  · have hfin := hts.symm.trans (sn_stop (p := (dnP a d3)) (d := d3) (.inr hc4))
                    refine C_exit ?_
                    exact ⟨t, ⟨ht1, ht2, hfin⟩, ⟨rfl, rfl, rfl, rfl, rfl, trivial⟩, ((hsub (.cons_cons _ (.refl _))).trans (hsub_pick [0] rfl))⟩
                · have hle : ¬ u2 ≤ t := by have := of_decide_eq_false hg15_4; omega
                  have hfin := hts.symm.trans (sn_stop (p := (dnP a d3)) (d := d3) (.inl hle))
                  refine H_skip 4 rfl (by kernel_rfl) (by kernel_rfl) (by kernel_rfl) (HSub.refl _) rfl rfl ?_
                  refine H_skip 5 rfl (by kernel_rfl) (by kernel_rfl) (by kernel_rfl) (HSub.refl _) rfl rfl ?_
                  refine H_skip 6 rfl (by kernel_rfl) (by kernel_rfl) (by kernel_rfl) (HSub.refl _) rfl rfl ?_
                  refine H_skip 7 rfl (by kernel_rfl) (by kernel_rfl) (by kernel_rfl) (HSub.refl _) rfl rfl ?_
                  refine H_skip 8 rfl (by kernel_rfl) (by kernel_rfl) (by kernel_rfl) (HSub.refl _) rfl rfl ?_
                  refine H_skip 9 rfl (by kernel_rfl) (by kernel_rfl) (by kernel_rfl) (HSub.refl _) rfl rfl ?_
                  refine H_skip 10 rfl (by kernel_rfl) (by kernel_rfl) (by kernel_rfl) (HSub.refl _) rfl rfl ?_
                  refine H_skip 11 rfl (by kernel_rfl) (by kernel_rfl) (by kernel_rfl) (HSub.refl _) rfl rfl ?_
                  refine H_skip 12 rfl (by kernel_rfl) (by kernel_rfl) (by kernel_rfl) (HSub.refl _) rfl rfl ?_
                  refine H_skip 13 rfl (by kernel_rfl) (by kernel_rfl) (by kernel_rfl) (HSub.refl _) rfl rfl ?_
                  refine H_y 14 rfl (by kernel_rfl) (by kernel_rfl) (by kernel_rfl) (HSub.refl _) rfl (y_pick_f rfl rfl) rfl ?_
                  refine H_done (by kernel_rfl) ?_
                  refine C_cond_f rfl ?_
                  refine C_exit ?_
                  exact ⟨t, ⟨ht1, ht2, hfin⟩, ⟨rfl, rfl, rfl, rfl, rfl, trivial⟩, ((hsub (.cons_cons _ (.refl _))).trans (hsub_pick [0] rfl))⟩
              · rename Nat => v2
                obtain ⟨qv20, qv21, hv2⟩ := ht
                refine C_seq ?_
                refine C_seq ?_
                refine C_region ?_
                refine L_y rfl (y_move rfl) rfl ?_
                refine L_y rfl (y_move rfl) rfl ?_
                refine L_y rfl (y_gtr rfl rfl) rfl ?_
                refine L_nil ?_
                refine C_cond rfl (fun hc5 => ?_) (fun hc5 => ?_)
                · replace hc5 : v2 < u2 := by have := of_decide_eq_true hc5; omega
                  refine C_exit ?_
                  refine C_seq ?_
                  refine C_regionH H (by kernel_rfl) ?_
                  refine H_y 0 rfl (by kernel_rfl) (by kernel_rfl) (by kernel_rfl) ((hsub (.cons _ (.refl _)))) rfl (y_move rfl) rfl ?_
                  refine H_y 1 rfl (by kernel_rfl) (by kernel_rfl) (by kernel_rfl) ((hsub (.cons _ (.refl _)))) rfl (y_move rfl) rfl ?_
                  refine H_y 2 rfl (by kernel_rfl) (by kernel_rfl) (by kernel_rfl) ((hsub (.cons _ (.refl _)))) rfl (y_move rfl) rfl ?_
                  refine H_y 3 rfl (by kernel_rfl) (by kernel_rfl) (by kernel_rfl) ((hsub (.cons _ (.refl _)))) rfl (y_move rfl) rfl ?_
                  refine H_y 4 rfl (by kernel_rfl) (by kernel_rfl) (by kernel_rfl) ((hsub (.cons _ (.refl _)))) rfl (y_move rfl) rfl ?_
                  refine H_y 5 rfl (by kernel_rfl) (by kernel_rfl) (by kernel_rfl) ((hsub (.cons _ (.refl _)))) rfl (y_move rfl) rfl ?_
                  refine H_y 6 rfl (by kernel_rfl) (by kernel_rfl) (by kernel_rfl) ((hsub (.cons _ (.refl _)))) rfl (y_indexS rfl rfl Try.underlying63 sz_58 (by omega) (by omega) (ix0 (a))) rfl ?_
                  refine H_y 8 rfl (by kernel_rfl) (by kernel_rfl) (by kernel_rfl) ((hsub (.cons _ (.refl _)))) rfl (y_move rfl) rfl ?_
                  refine H_y 9 rfl (by kernel_rfl) (by kernel_rfl) (by kernel_rfl) ((hsub (.cons _ (.refl _)))) rfl (y_move rfl) rfl ?_
                  refine H_y 10 rfl (by kernel_rfl) (by kernel_rfl) (by kernel_rfl) ((hsub (.cons _ (.refl _)))) rfl (y_indexS rfl rfl Try.underlying63 sz_58 (by omega) (by omega) (ix0 (v2))) rfl ?_
                  refine H_two 7 11 rfl rfl (by kernel_rfl) rfl rfl ?_ ?_
                  · refine op_y (y_load rfl ag_58 (sees 0 0 rfl) (us_at (by omega))) rfl ?_
                    refine ⟨(hsub (.cons _ (.refl _))), ?_⟩
                    refine H_one 11 rfl (by kernel_rfl) rfl (op_y (y_load rfl ag_58 (sees 0 0 rfl) (us_at (by omega))) rfl ?_)
                    refine ⟨(hsub (.cons _ (.refl _))), ?_⟩
                    refine H_y 12 rfl (by kernel_rfl) (by kernel_rfl) (by kernel_rfl) ((hsub (.cons _ (.refl _)))) rfl (y_indexS rfl rfl Try.underlying63 sz_58 (by omega) (by omega) (ix0 (v2))) rfl ?_
                    refine H_one 13 rfl (by kernel_rfl) rfl (op_store1 0 0 rfl rfl rfl sz_58 rfl (us_lt (by omega)) ?_)
                    refine ⟨(hsub (.cons _ (.refl _))), ?_⟩
                    refine H_y 14 rfl (by kernel_rfl) (by kernel_rfl) (by kernel_rfl) ((hsub (.cons _ (.refl _)))) rfl (y_indexS rfl rfl Try.underlying63 sz_58 (by omega) (by omega) (ix0 (a))) rfl ?_
                    refine H_one 15 rfl (by kernel_rfl) rfl (op_store1 0 0 rfl rfl rfl sz_58 rfl (by rw [List.length_set]; exact us_lt (by omega)) ?_)
                    refine ⟨(hsub (.cons _ (.refl _))), ?_⟩
                    refine H_done (by kernel_rfl) ?_
                    rw [us_swp (by omega) (by omega)]
                    refine C_seq ?_
                    refine C_region ?_
                    refine L_y rfl (y_move rfl) rfl ?_
                    refine L_y rfl (y_assign rfl) rfl ?_
                    refine L_y rfl (y_assign rfl) rfl ?_
                    refine L_nil ?_
                    refine C_ret ?_
                    refine B_ret (rv_tmp rfl (rv_tmp rfl rv_nil)) ((hsub (.cons_cons _ (.refl _))).trans (hsub_pick [0] rfl)) ?_
                    first
                    | (rw [pt_t hd1 hi hj hc2]; exact ⟨rfl, rfl⟩)
                    | (rw [pt_f (j2 := v2) (d2 := d3) hd1 hi hj hc2 (by rw [← hd2, ← hr3]; exact pl_stop hu2 hv2 hc5)]; exact ⟨rfl, rfl⟩)
                  · refine op_y (y_load rfl ag_58 (sees 0 0 rfl) (us_at (by omega))) rfl ?_
                    refine ⟨(hsub (.cons _ (.refl _))), ?_⟩
                    refine H_one 7 rfl (by kernel_rfl) rfl (op_y (y_load rfl ag_58 (sees 0 0 rfl) (us_at (by omega))) rfl ?_)
                    refine ⟨(hsub (.cons _ (.refl _))), ?_⟩
                    refine H_y 12 rfl (by kernel_rfl) (by kernel_rfl) (by kernel_rfl) ((hsub (.cons _ (.refl _)))) rfl (y_indexS rfl rfl Try.underlying63 sz_58 (by omega) (by omega) (ix0 (v2))) rfl ?_
                    refine H_one 13 rfl (by kernel_rfl) rfl (op_store1 0 0 rfl rfl rfl sz_58 rfl (us_lt (by omega)) ?_)
                    refine ⟨(hsub (.cons _ (.refl _))), ?_⟩
                    refine H_y 14 rfl (by kernel_rfl) (by kernel_rfl) (by kernel_rfl) ((hsub (.cons _ (.refl _)))) rfl (y_indexS rfl rfl Try.underlying63 sz_58 (by omega) (by omega) (ix0 (a))) rfl ?_
                    refine H_one 15 rfl (by kernel_rfl) rfl (op_store1 0 0 rfl rfl rfl sz_58 rfl (by rw [List.length_set]; exact us_lt (by omega)) ?_)
                    refine ⟨(hsub (.cons _ (.refl _))), ?_⟩
                    refine H_done (by kernel_rfl) ?_
                    rw [us_swp (by omega) (by omega)]
                    refine C_seq ?_
                    refine C_region ?_
                    refine L_y rfl (y_move rfl) rfl ?_
                    refine L_y rfl (y_assign rfl) rfl ?_
                    refine L_y rfl (y_assign rfl) rfl ?_
                    refine L_nil ?_
                    refine C_ret ?_
                    refine B_ret (rv_tmp rfl (rv_tmp rfl rv_nil)) ((hsub (.cons_cons _ (.refl _))).trans (hsub_pick [0] rfl)) ?_
                    first
                    | (rw [pt_t hd1 hi hj hc2]; exact ⟨rfl, rfl⟩)
                    | (rw [pt_f (j2 := v2) (d2 := d3) hd1 hi hj hc2 (by rw [← hd2, ← hr3]; exact pl_stop hu2 hv2 hc5)]; exact ⟨rfl, rfl⟩)
                · replace hc5 : ¬ v2 < u2 := by have := of_decide_eq_false hc5; omega
                  refine C_skip ?_
                  refine C_seq ?_
                  refine C_regionH H (by kernel_rfl) ?_
                  refine H_y 0 rfl (by kernel_rfl) (by kernel_rfl) (by kernel_rfl) ((hsub (.cons _ (.refl _)))) rfl (y_move rfl) rfl ?_
                  refine H_y 1 rfl (by kernel_rfl) (by kernel_rfl) (by kernel_rfl) ((hsub (.cons _ (.refl _)))) rfl (y_move rfl) rfl ?_
                  refine H_y 2 rfl (by kernel_rfl) (by kernel_rfl) (by kernel_rfl) ((hsub (.cons _ (.refl _)))) rfl (y_move rfl) rfl ?_
                  refine H_y 3 rfl (by kernel_rfl) (by kernel_rfl) (by kernel_rfl) ((hsub (.cons _ (.refl _)))) rfl (y_move rfl) rfl ?_
                  refine H_y 4 rfl (by kernel_rfl) (by kernel_rfl) (by kernel_rfl) ((hsub (.cons _ (.refl _)))) rfl (y_move rfl) rfl ?_
                  refine H_y 5 rfl (by kernel_rfl) (by kernel_rfl) (by kernel_rfl) ((hsub (.cons _ (.refl _)))) rfl (y_move rfl) rfl ?_
                  refine H_y 6 rfl (by kernel_rfl) (by kernel_rfl) (by kernel_rfl) ((hsub (.cons _ (.refl _)))) rfl (y_indexS rfl rfl Try.underlying63 sz_58 (by omega) (by omega) (ix0 (v2))) rfl ?_
                  refine H_y 8 rfl (by kernel_rfl) (by kernel_rfl) (by kernel_rfl) ((hsub (.cons _ (.refl _)))) rfl (y_move rfl) rfl ?_
                  refine H_y 9 rfl (by kernel_rfl) (by kernel_rfl) (by kernel_rfl) ((hsub (.cons _ (.refl _)))) rfl (y_move rfl) rfl ?_
                  refine H_y 10 rfl (by kernel_rfl) (by kernel_rfl) (by kernel_rfl) ((hsub (.cons _ (.refl _)))) rfl (y_indexS rfl rfl Try.underlying63 sz_58 (by omega) (by omega) (ix0 (u2))) rfl ?_
                  refine H_two 7 11 rfl rfl (by kernel_rfl) rfl rfl ?_ ?_
                  · refine op_y (y_load rfl ag_58 (sees 0 0 rfl) (us_at (by omega))) rfl ?_
                    refine ⟨(hsub (.cons _ (.refl _))), ?_⟩
                    refine H_one 11 rfl (by kernel_rfl) rfl (op_y (y_load rfl ag_58 (sees 0 0 rfl) (us_at (by omega))) rfl ?_)
                    refine ⟨(hsub (.cons _ (.refl _))), ?_⟩
                    refine H_y 12 rfl (by kernel_rfl) (by kernel_rfl) (by kernel_rfl) ((hsub (.cons _ (.refl _)))) rfl (y_indexS rfl rfl Try.underlying63 sz_58 (by omega) (by omega) (ix0 (u2))) rfl ?_
                    refine H_one 13 rfl (by kernel_rfl) rfl (op_store1 0 0 rfl rfl rfl sz_58 rfl (us_lt (by omega)) ?_)
                    refine ⟨(hsub (.cons _ (.refl _))), ?_⟩
                    refine H_y 14 rfl (by kernel_rfl) (by kernel_rfl) (by kernel_rfl) ((hsub (.cons _ (.refl _)))) rfl (y_indexS rfl rfl Try.underlying63 sz_58 (by omega) (by omega) (ix0 (v2))) rfl ?_
                    refine H_one 15 rfl (by kernel_rfl) rfl (op_store1 0 0 rfl rfl rfl sz_58 rfl (by rw [List.length_set]; exact us_lt (by omega)) ?_)
                    refine ⟨(hsub (.cons _ (.refl _))), ?_⟩
                    refine H_done (by kernel_rfl) ?_
                    rw [us_swp (by omega) (by omega)]
                    refine C_seq ?_
                    refine C_region ?_
                    refine L_y rfl (y_move rfl) rfl ?_
                    refine L_y rfl (y_add rfl rfl (show _ = ((u2 + 1 : Nat) : Int) from by rw [wi64 (by omega) (by omega)]; omega)) rfl ?_
                    refine L_y rfl (y_assign rfl) rfl ?_
                    refine L_nil ?_
                    refine C_region ?_
                    refine L_y rfl (y_move rfl) rfl ?_
                    refine L_y rfl (y_sub rfl rfl (show _ = ((v2 - 1 : Nat) : Int) from by rw [wi64 (by omega) (by omega)]; omega)) rfl ?_
                    refine L_y rfl (y_assign rfl) rfl ?_
                    refine L_nil ?_
                    exact ⟨(Go.Sort.swp d3 u2 v2, u2 + 1, v2 - 1), ⟨by simp only; rw [swp_size]; exact hs3, by simp only; omega, by simp only; omega, by simp only; omega, by simp only; rw [← hr3, pl_go hu2 hv2 hc5]⟩, by simp only; omega, ⟨rfl, rfl, rfl, rfl, rfl, trivial⟩, ((hsub (.cons_cons _ (.refl _))).trans (hsub_pick [0] rfl))⟩
                  · refine op_y (y_load rfl ag_58 (sees 0 0 rfl) (us_at (by omega))) rfl ?_
                    refine ⟨(hsub (.cons _ (.refl _))), ?_⟩
                    refine H_one 7 rfl (by kernel_rfl) rfl (op_y (y_load rfl ag_58 (sees 0 0 rfl) (us_at (by omega))) rfl ?_)
                    refine ⟨(hsub (.cons _ (.refl _))), ?_⟩
                    refine H_y 12 rfl (by kernel_rfl) (by kernel_rfl) (by kernel_rfl) ((hsub (.cons _ (.refl _)))) rfl (y_indexS rfl rfl Try.underlying63 sz_58 (by omega) (by omega) (ix0 (u2))) rfl ?_
                    refine H_one 13 rfl (by kernel_rfl) rfl (op_store1 0 0 rfl rfl rfl sz_58 rfl (us_lt (by omega)) ?_)
                    refine ⟨(hsub (.cons _ (.refl _))), ?_⟩
                    refine H_y 14 rfl (by kernel_rfl) (by kernel_rfl) (by kernel_rfl) ((hsub (.cons _ (.refl _)))) rfl (y_indexS rfl rfl Try.underlying63 sz_58 (by omega) (by omega) (ix0 (v2))) rfl ?_
                    refine H_one 15 rfl (by kernel_rfl) rfl (op_store1 0 0 rfl rfl rfl sz_58 rfl (by rw [List.length_set]; exact us_lt (by omega)) ?_)
                    refine ⟨(hsub (.cons _ (.refl _))), ?_⟩
                    refine H_done (by kernel_rfl) ?_
                    rw [us_swp (by omega) (by omega)]
                    refine C_seq ?_
                    refine C_region ?_
                    refine L_y rfl (y_move rfl) rfl ?_
                    refine L_y rfl (y_add rfl rfl (show _ = ((u2 + 1 : Nat) : Int) from by rw [wi64 (by omega) (by omega)]; omega)) rfl ?_
                    refine L_y rfl (y_assign rfl) rfl ?_
                    refine L_nil ?_
                    refine C_region ?_
                    refine L_y rfl (y_move rfl) rfl ?_
                    refine L_y rfl (y_sub rfl rfl (show _ = ((v2 - 1 : Nat) : Int) from by rw [wi64 (by omega) (by omega)]; omega)) rfl ?_
                    refine L_y rfl (y_assign rfl) rfl ?_
                    refine L_nil ?_
                    exact ⟨(Go.Sort.swp d3 u2 v2, u2 + 1, v2 - 1), ⟨by simp only; rw [swp_size]; exact hs3, by simp only; omega, by simp only; omega, by simp only; omega, by simp only; rw [← hr3, pl_go hu2 hv2 hc5]⟩, by simp only; omega, ⟨rfl, rfl, rfl, rfl, rfl, trivial⟩, ((hsub (.cons_cons _ (.refl _))).trans (hsub_pick [0] rfl))⟩

set_option maxHeartbeats 2000000 in

theorem parteq_u {w0 : World} {H : Hp} {sb n cap : Nat} {sp : List Value} (d : Array Nat) (hd : d.size = n) (hn : n < 4611686018427387904) (a b pivot : Nat) (hap : a ≤ pivot) (hpb : pivot < b) (hb : b ≤ n) : FnS Try.prog w0 109 #[(.slice (some ⟨sb, 0, none⟩) n cap), .int .i64 ((a : Nat) : Int), .int .i64 ((b : Nat) : Int), .int .i64 ((pivot : Nat) : Int)] (useg 58 sb d sp :: H) (fun e H' => e = .returned (.int .i64 ((Go.Sort.partitionEqual ltN d a b pivot).1 : Int)) ∧ H' = useg 58 sb (Go.Sort.partitionEqual ltN d a b pivot).2 sp :: H) := by
  refine FnS_intro (n := 84) (rs := [.tmp 8]) (vs := [(.slice (some ⟨sb, 0, none⟩) n cap), .int .i64 ((a : Nat) : Int), .int .i64 ((b : Nat) : Int), .int .i64 ((pivot : Nat) : Int)]) Try.func109 rfl Try.ntmps109 rfl rfl ?_
  refine C_seq ?_
  refine C_region ?_
  refine L_y rfl (y_assign rfl) rfl ?_
  refine L_nil ?_
  refine C_seq ?_
  refine C_regionH H (by kernel_rfl) ?_
  refine H_y 0 rfl (by kernel_rfl) (by kernel_rfl) (by kernel_rfl) ((hsub (.cons _ (.refl _)))) rfl (y_move rfl) rfl ?_
  refine H_y 1 rfl (by kernel_rfl) (by kernel_rfl) (by kernel_rfl) ((hsub (.cons _ (.refl _)))) rfl (y_move rfl) rfl ?_
  refine H_y 2 rfl (by kernel_rfl) (by kernel_rfl) (by kernel_rfl) ((hsub (.cons _ (.refl _)))) rfl (y_move rfl) rfl ?_
  refine H_y 3 rfl (by kernel_rfl) (by kernel_rfl) (by kernel_rfl) ((hsub (.cons _ (.refl _)))) rfl (y_move rfl) rfl ?_
  refine H_y 4 rfl (by kernel_rfl) (by kernel_rfl) (by kernel_rfl) ((hsub (.cons _ (.refl _)))) rfl (y_move rfl) rfl ?_
  refine H_y 5 rfl (by kernel_rfl) (by kernel_rfl) (by kernel_rfl) ((hsub (.cons _ (.refl _)))) rfl (y_move rfl) rfl ?_
  refine H_y 6 rfl (by kernel_rfl) (by kernel_rfl) (by kernel_rfl) ((hsub (.cons _ (.refl _)))) rfl (y_indexS rfl rfl Try.underlying63 sz_58 (by omega) (by omega) (ix0 (pivot))) rfl ?_
  refine H_y 8 rfl (by kernel_rfl) (by kernel_rfl) (by kernel_rfl) ((hsub (.cons _ (.refl _)))) rfl (y_move rfl) rfl ?_
  refine H_y 9 rfl (by kernel_rfl) (by kernel_rfl) (by kernel_rfl) ((hsub (.cons _ (.refl _)))) rfl (y_move rfl) rfl ?_
  refine H_y 10 rfl (by kernel_rfl) (by kernel_rfl) (by kernel_rfl) ((hsub (.cons _ (.refl _)))) rfl (y_indexS rfl rfl Try.underlying63 sz_58 (by omega) (by omega) (ix0 (a))) rfl ?_
  refine H_two 7 11 rfl rfl (by kernel_rfl) rfl rfl ?_ ?_
  · refine op_y (y_load rfl ag_58 (sees 0 0 rfl) (us_at (by omega))) rfl ?_
    refine ⟨(hsub (.cons _ (.refl _))), ?_⟩
    refine H_one 11 rfl (by kernel_rfl) rfl (op_y (y_load rfl ag_58 (sees 0 0 rfl) (us_at (by omega))) rfl ?_)
    refine ⟨(hsub (.cons _ (.refl _))), ?_⟩
    refine H_y 12 rfl (by kernel_rfl) (by kernel_rfl) (by kernel_rfl) ((hsub (.cons _ (.refl _)))) rfl (y_indexS rfl rfl Try.underlying63 sz_58 (by omega) (by omega) (ix0 (a))) rfl ?_
    refine H_one 13 rfl (by kernel_rfl) rfl (op_store1 0 0 rfl rfl rfl sz_58 rfl (us_lt (by omega)) ?_)
    refine ⟨(hsub (.cons _ (.refl _))), ?_⟩
    refine H_y 14 rfl (by kernel_rfl) (by kernel_rfl) (by kernel_rfl) ((hsub (.cons _ (.refl _)))) rfl (y_indexS rfl rfl Try.underlying63 sz_58 (by omega) (by omega) (ix0 (pivot))) rfl ?_
    refine H_one 15 rfl (by kernel_rfl) rfl (op_store1 0 0 rfl rfl rfl sz_58 rfl (by rw [List.length_set]; exact us_lt (by omega)) ?_)
    refine ⟨(hsub (.cons _ (.refl _))), ?_⟩
    refine H_done (by kernel_rfl) ?_
    rw [us_swp (by omega) (by omega)]
    obtain ⟨d1, hd1⟩ : ∃ y, y = Go.Sort.swp d a pivot := ⟨_, rfl⟩
    rw [← hd1]
    have hsd1 : d1.size = n := by rw [hd1, swp_size]; omega
    refine C_seq ?_
    refine C_region ?_
    refine L_y rfl (y_move rfl) rfl ?_
    refine L_y rfl (y_add rfl rfl (show _ = ((a + 1 : Nat) : Int) from by rw [wi64 (by omega) (by omega)]; omega)) rfl ?_
    refine L_y rfl (y_move rfl) rfl ?_
    refine L_y rfl (y_sub rfl rfl (show _ = ((b - 1 : Nat) : Int) from by rw [wi64 (by omega) (by omega)]; omega)) rfl ?_
    refine L_y rfl (y_assign rfl) rfl ?_
    refine L_y rfl (y_assign rfl) rfl ?_
    refine L_nil ?_
    refine C_seq ?_
    refine C_block ?_
    refine C_loop (ι := Array Nat × Nat × Nat) (fun x => [(0, (.slice (some ⟨sb, 0, none⟩) n cap)), (1, .int .i64 ((a : Nat) : Int)), (2, .int .i64 ((b : Nat) : Int)), (9, .int .i64 ((x.2.1 : Nat) : Int)), (10, .int .i64 ((x.2.2 : Nat) : Int))]) (fun x => useg 58 sb x.1 sp :: H) (fun x => x.1.size = n ∧ a < x.2.1 ∧ x.2.1 ≤ b ∧ x.2.2 < b ∧ Go.Sort.partEqLoop ltN a x.2.1 x.2.2 x.1 = Go.Sort.partitionEqual ltN d a b pivot) (fun x => x.2.2 + 1 - x.2.1) (d1, a + 1, b - 1) ⟨hsd1, by simp only; omega, by simp only; omega, by simp only; omega, (pq_eq hd1).symm⟩ ⟨rfl, rfl, rfl, rfl, rfl, trivial⟩ ((hsub (.cons_cons _ (.refl _))).trans (hsub_pick [0] rfl)) (fun x hx => ?_)
    obtain ⟨d3, u, v⟩ := x
    obtain ⟨hs3, hu1, hu2, hv1, hr3⟩ := hx
    try simp only at hs3 hu1 hu2 hv1 hr3
    try dsimp only
    refine C_block ?_
    refine C_cutG (ι := Nat) (fun t => a < t ∧ t ≤ b ∧ u ≤ t ∧ Go.Sort.scanUp (upE a d3) d3 v u = t) (fun t => [(0, (.slice (some ⟨sb, 0, none⟩) n cap)), (1, .int .i64 ((a : Nat) : Int)), (2, .int .i64 ((b : Nat) : Int)), (9, .int .i64 ((t : Nat) : Int)), (10, .int .i64 ((v : Nat) : Int))]) (fun t => useg 58 sb d3 sp :: H) ?_ (fun t ht => ?_)
    · refine C_block ?_
      refine C_loop (ι := Nat) (fun t => [(0, (.slice (some ⟨sb, 0, none⟩) n cap)), (1, .int .i64 ((a : Nat) : Int)), (2, .int .i64 ((b : Nat) : Int)), (9, .int .i64 ((t : Nat) : Int)), (10, .int .i64 ((v : Nat) : Int))]) (fun t => useg 58 sb d3 sp :: H) (fun t => a < t ∧ t ≤ b ∧ u ≤ t ∧ Go.Sort.scanUp (upE a d3) d3 v t = Go.Sort.scanUp (upE a d3) d3 v u) (fun t => v + 1 - t) u (by refine ⟨by omega, by omega, by omega, rfl⟩ <;> omega) ⟨rfl, rfl, rfl, rfl, rfl, trivial⟩ ((hsub (.cons_cons _ (.refl _))).trans (hsub_pick [0] rfl)) (fun t ht => ?_)
      obtain ⟨ht1, ht2, ht3, hts⟩ := ht
      refine C_seq ?_
      refine C_seq ?_
      refine C_regionH0 (by kernel_rfl) ?_
      refine H_y 0 rfl (by kernel_rfl) (by kernel_rfl) (by kernel_rfl) (HSub.refl _) rfl (y_move rfl) rfl ?_
      refine H_y 1 rfl (by kernel_rfl) (by kernel_rfl) (by kernel_rfl) (HSub.refl _) rfl (y_move rfl) rfl ?_
      refine H_y 2 rfl (by kernel_rfl) (by kernel_rfl) (by kernel_rfl) (HSub.refl _) rfl (y_leq rfl rfl) rfl ?_
      refine H_y 3 rfl (by kernel_rfl) (by kernel_rfl) (by kernel_rfl) (HSub.refl _) rfl (y_move rfl) rfl ?_
      refine H_case 32 rfl (fun hg3_4 => ?_) (fun hg3_4 => ?_)
      · have hle : t ≤ v := by have := of_decide_eq_true hg3_4; omega
        refine H_y 4 rfl (by kernel_rfl) (by kernel_rfl) (by kernel_rfl) (HSub.refl _) rfl (y_move rfl) rfl ?_
        refine H_y 5 rfl (by kernel_rfl) (by kernel_rfl) (by kernel_rfl) (HSub.refl _) rfl (y_move rfl) rfl ?_
        refine H_y 6 rfl (by kernel_rfl) (by kernel_rfl) (by kernel_rfl) (HSub.refl _) rfl (y_indexS rfl rfl Try.underlying63 sz_58 (by omega) (by omega) (ix0 (a))) rfl ?_
        refine H_y 7 rfl (by kernel_rfl) (by kernel_rfl) (by kernel_rfl) (HSub.refl _) rfl (y_load rfl ag_58 (sees 0 0 rfl) (us_at (by omega))) rfl ?_
        refine H_y 8 rfl (by kernel_rfl) (by kernel_rfl) (by kernel_rfl) (HSub.refl _) rfl (y_move rfl) rfl ?_
        refine H_y 9 rfl (by kernel_rfl) (by kernel_rfl) (by kernel_rfl) (HSub.refl _) rfl (y_move rfl) rfl ?_
        refine H_y 10 rfl (by kernel_rfl) (by kernel_rfl) (by kernel_rfl) (HSub.refl _) rfl (y_indexS rfl rfl Try.underlying63 sz_58 (by omega) (by omega) (ix0 (t))) rfl ?_
        refine H_y 11 rfl (by kernel_rfl) (by kernel_rfl) (by kernel_rfl) (HSub.refl _) rfl (y_load rfl ag_58 (sees 0 0 rfl) (us_at (by omega))) rfl ?_
        refine H_one 12 rfl (by kernel_rfl) rfl (op_call rfl rfl (fun a w => Try.call108 a w) rfl ?_)
        refine (less_u (d3[a]!) (d3[t]!)).mono ?_
        rintro _ _ ⟨rfl, e⟩
        obtain rfl := e.symm
        clear e
        refine ⟨_, rfl, ?_⟩
        refine ⟨HSub.refl _, ?_⟩
        refine H_y 13 rfl (by kernel_rfl) (by kernel_rfl) (by kernel_rfl) (HSub.refl _) rfl (y_not rfl) rfl ?_
        refine H_y 14 rfl (by kernel_rfl) (by kernel_rfl) (by kernel_rfl) (HSub.refl _) rfl (y_pick_t rfl rfl) rfl ?_
        refine H_done (by kernel_rfl) ?_
        refine C_cond rfl (fun hc0 => ?_) (fun hc0 => ?_)
        · have hpt : (upE a d3) d3[t]! = true := hc0
          refine C_skip ?_
          refine C_block ?_
          refine C_region ?_
          refine L_y rfl (y_move rfl) rfl ?_
          refine L_y rfl (y_add rfl rfl (show _ = ((t + 1 : Nat) : Int) from by rw [wi64 (by omega) (by omega)]; omega)) rfl ?_
          refine L_y rfl (y_assign rfl) rfl ?_
          refine L_nil ?_
          exact ⟨t + 1, ⟨by omega, by omega, by omega, by rw [← hts, su_go hle hpt]⟩, by omega, ⟨rfl, rfl, rfl, rfl, rfl, trivial⟩, ((hsub (.cons_cons _ (.refl _))).trans (hsub_pick [0] rfl))⟩
        · have hfin := hts.symm.trans (su_stop (p := (upE a d3)) (d := d3) (.inr hc0))
          refine C_exit ?_
          exact ⟨t, ⟨ht1, ht2, ht3, hfin⟩, ⟨rfl, rfl, rfl, rfl, rfl, trivial⟩, ((hsub (.cons_cons _ (.refl _))).trans (hsub_pick [0] rfl))⟩
      · have hle : ¬ t ≤ v := by have := of_decide_eq_false hg3_4; omega
        have hfin := hts.symm.trans (su_stop (p := (upE a d3)) (d := d3) (.inl hle))
        refine H_skip 4 rfl (by kernel_rfl) (by kernel_rfl) (by kernel_rfl) (HSub.refl _) rfl rfl ?_
        refine H_skip 5 rfl (by kernel_rfl) (by kernel_rfl) (by kernel_rfl) (HSub.refl _) rfl rfl ?_
        refine H_skip 6 rfl (by kernel_rfl) (by kernel_rfl) (by kernel_rfl) (HSub.refl _) rfl rfl ?_
        refine H_skip 7 rfl (by kernel_rfl) (by kernel_rfl) (by kernel_rfl) (HSub.refl _) rfl rfl ?_
        refine H_skip 8 rfl (by kernel_rfl) (by kernel_rfl) (by kernel_rfl) (HSub.refl _) rfl rfl ?_
        refine H_skip 9 rfl (by kernel_rfl) (by kernel_rfl) (by kernel_rfl) (HSub.refl _) rfl rfl ?_
        refine H_skip 10 rfl (by kernel_rfl) (by kernel_rfl) (by kernel_rfl) (HSub.refl _) rfl rfl ?_
        refine H_skip 11 rfl (by kernel_rfl) (by kernel_rfl) (by kernel_rfl) (HSub.refl _) rfl rfl ?_
        refine H_skip 12 rfl (by kernel_rfl) (by kernel_rfl) (by kernel_rfl) (HSub.refl _) rfl rfl ?_
        refine H_skip 13 rfl (by kernel_rfl) (by kernel_rfl) (by kernel_rfl) (HSub.refl _) rfl rfl ?_
        refine H_y 14 rfl (by kernel_rfl) (by kernel_rfl) (by kernel_rfl) (HSub.refl _) rfl (y_pick_f rfl rfl) rfl ?_
        refine H_done (by kernel_rfl) ?_
        refine C_cond_f rfl ?_
        refine C_exit ?_
        exact ⟨t, ⟨ht1, ht2, ht3, hfin⟩, ⟨rfl, rfl, rfl, rfl, rfl, trivial⟩, ((hsub (.cons_cons _ (.refl _))).trans (hsub_pick [0] rfl))⟩
    · rename Nat => u2
      obtain ⟨qu20, qu21, qu22, hu2⟩ := ht
      refine C_cutG (ι := Nat) (fun t => t < b ∧ t ≤ v ∧ Go.Sort.scanDown (dnE a d3) d3 u2 v = t) (fun t => [(0, (.slice (some ⟨sb, 0, none⟩) n cap)), (1, .int .i64 ((a : Nat) : Int)), (2, .int .i64 ((b : Nat) : Int)), (9, .int .i64 ((u2 : Nat) : Int)), (10, .int .i64 ((t : Nat) : Int))]) (fun t => useg 58 sb d3 sp :: H) ?_ (fun t ht => ?_)
      · refine C_block ?_
        refine C_loop (ι := Nat) (fun t => [(0, (.slice (some ⟨sb, 0, none⟩) n cap)), (1, .int .i64 ((a : Nat) : Int)), (2, .int .i64 ((b : Nat) : Int)), (9, .int .i64 ((u2 : Nat) : Int)), (10, .int .i64 ((t : Nat) : Int))]) (fun t => useg 58 sb d3 sp :: H) (fun t => t < b ∧ t ≤ v ∧ Go.Sort.scanDown (dnE a d3) d3 u2 t = Go.Sort.scanDown (dnE a d3) d3 u2 v) (fun t => t) v (by refine ⟨by omega, by omega, rfl⟩ <;> omega) ⟨rfl, rfl, rfl, rfl, rfl, trivial⟩ ((hsub (.cons_cons _ (.refl _))).trans (hsub_pick [0] rfl)) (fun t ht => ?_)
        obtain ⟨ht1, ht2, hts⟩ := ht
        refine C_seq ?_
        refine C_seq ?_
        refine C_regionH0 (by kernel_rfl) ?_
        refine H_y 0 rfl (by kernel_rfl) (by kernel_rfl) (by kernel_rfl) (HSub.refl _) rfl (y_move rfl) rfl ?_
        refine H_y 1 rfl (by kernel_rfl) (by kernel_rfl) (by kernel_rfl) (HSub.refl _) rfl (y_move rfl) rfl ?_
        refine H_y 2 rfl (by kernel_rfl) (by kernel_rfl) (by kernel_rfl) (HSub.refl _) rfl (y_leq rfl rfl) rfl ?_
        refine H_y 3 rfl (by kernel_rfl) (by kernel_rfl) (by kernel_rfl) (HSub.refl _) rfl (y_move rfl) rfl ?_
        refine H_case 49 rfl (fun hg5_4 => ?_) (fun hg5_4 => ?_)
        · have hle : u2 ≤ t := by have := of_decide_eq_true hg5_4; omega
          refine H_y 4 rfl (by kernel_rfl) (by kernel_rfl) (by kernel_rfl) (HSub.refl _) rfl (y_move rfl) rfl ?_
          refine H_y 5 rfl (by kernel_rfl) (by kernel_rfl) (by kernel_rfl) (HSub.refl _) rfl (y_move rfl) rfl ?_
          refine H_y 6 rfl (by kernel_rfl) (by kernel_rfl) (by kernel_rfl) (HSub.refl _) rfl (y_indexS rfl rfl Try.underlying63 sz_58 (by omega) (by omega) (ix0 (a))) rfl ?_
          refine H_y 7 rfl (by kernel_rfl) (by kernel_rfl) (by kernel_rfl) (HSub.refl _) rfl (y_load rfl ag_58 (sees 0 0 rfl) (us_at (by omega))) rfl ?_
          refine H_y 8 rfl (by kernel_rfl) (by kernel_rfl) (by kernel_rfl) (HSub.refl _) rfl (y_move rfl) rfl ?_
          refine H_y 9 rfl (by kernel_rfl) (by kernel_rfl) (by kernel_rfl) (HSub.refl _) rfl (y_move rfl) rfl ?_
          refine H_y 10 rfl (by kernel_rfl) (by kernel_rfl) (by kernel_rfl) (HSub.refl _) rfl (y_indexS rfl rfl Try.underlying63 sz_58 (by omega) (by omega) (ix0 (t))) rfl ?_
          refine H_y 11 rfl (by kernel_rfl) (by kernel_rfl) (by kernel_rfl) (HSub.refl _) rfl (y_load rfl ag_58 (sees 0 0 rfl) (us_at (by omega))) rfl ?_
          refine H_one 12 rfl (by kernel_rfl) rfl (op_call rfl rfl (fun a w => Try.call108 a w) rfl ?_)
          refine (less_u (d3[a]!) (d3[t]!)).mono ?_
          rintro _ _ ⟨rfl, e⟩
          obtain rfl := e.symm
          clear e
          refine ⟨_, rfl, ?_⟩
          refine ⟨HSub.refl _, ?_⟩
          refine H_y 13 rfl (by kernel_rfl) (by kernel_rfl) (by kernel_rfl) (HSub.refl _) rfl (y_pick_t rfl rfl) rfl ?_
          refine H_done (by kernel_rfl) ?_
          refine C_cond rfl (fun hc1 => ?_) (fun hc1 => ?_)
          · have hpt : (dnE a d3) d3[t]! = true := hc1
            refine C_skip ?_
            refine C_block ?_
            refine C_region ?_
            refine L_y rfl (y_move rfl) rfl ?_
            refine L_y rfl (y_sub rfl rfl (show _ = ((t - 1 : Nat) : Int) from by rw [wi64 (by omega) (by omega)]; omega)) rfl ?_
            refine L_y rfl (y_assign rfl) rfl ?_
            refine L_nil ?_
            exact ⟨t - 1, ⟨by omega, by omega, by rw [← hts, sn_go hle (by omega) hpt]⟩, by omega, ⟨rfl, rfl, rfl, rfl, rfl, trivial⟩, ((hsub (.cons_cons _ (.refl _))).trans (hsub_pick [0] rfl))⟩
          · have hfin := hts.symm.trans (sn_stop (p := (dnE a d3)) (d := d3) (.inr hc1))
            refine C_exit ?_
            exact ⟨t, ⟨ht1, ht2, hfin⟩, ⟨rfl, rfl, rfl, rfl, rfl, trivial⟩, ((hsub (.cons_cons _ (.refl _))).trans (hsub_pick [0] rfl))⟩
        · have hle : ¬ u2 ≤ t := by have := of_decide_eq_false hg5_4; omega
          have hfin := hts.symm.trans (sn_stop (p := (dnE a d3)) (d := d3) (.inl hle))
          refine H_skip 4 rfl (by kernel_rfl) (by kernel_rfl) (by kernel_rfl) (HSub.refl _) rfl rfl ?_
          refine H_skip 5 rfl (by kernel_rfl) (by kernel_rfl) (by kernel_rfl) (HSub.refl _) rfl rfl ?_
          refine H_skip 6 rfl (by kernel_rfl) (by kernel_rfl) (by kernel_rfl) (HSub.refl _) rfl rfl ?_
          refine H_skip 7 rfl (by kernel_rfl) (by kernel_rfl) (by kernel_rfl) (HSub.refl _) rfl rfl ?_
          refine H_skip 8 rfl (by kernel_rfl) (by kernel_rfl) (by kernel_rfl) (HSub.refl _) rfl rfl ?_
          refine H_skip 9 rfl (by kernel_rfl) (by kernel_rfl) (by kernel_rfl) (HSub.refl _) rfl rfl ?_
          refine H_skip 10 rfl (by kernel_rfl) (by kernel_rfl) (by kernel_rfl) (HSub.refl _) rfl rfl ?_
          refine H_skip 11 rfl (by kernel_rfl) (by kernel_rfl) (by kernel_rfl) (HSub.refl _) rfl rfl ?_
          refine H_skip 12 rfl (by kernel_rfl) (by kernel_rfl) (by kernel_rfl) (HSub.refl _) rfl rfl ?_
          refine H_y 13 rfl (by kernel_rfl) (by kernel_rfl) (by kernel_rfl) (HSub.refl _) rfl (y_pick_f rfl rfl) rfl ?_
          refine H_done (by kernel_rfl) ?_
          refine C_cond_f rfl ?_
          refine C_exit ?_
          exact ⟨t, ⟨ht1, ht2, hfin⟩, ⟨rfl, rfl, rfl, rfl, rfl, trivial⟩, ((hsub (.cons_cons _ (.refl _))).trans (hsub_pick [0] rfl))⟩
      · rename Nat => v2
        obtain ⟨qv20, qv21, hv2⟩ := ht
        refine C_seq ?_
        refine C_seq ?_
        refine C_region ?_
        refine L_y rfl (y_move rfl) rfl ?_
        refine L_y rfl (y_move rfl) rfl ?_
        refine L_y rfl (y_gtr rfl rfl) rfl ?_
        refine L_nil ?_
        refine C_cond rfl (fun hc2 => ?_) (fun hc2 => ?_)
        · replace hc2 : v2 < u2 := by have := of_decide_eq_true hc2; omega
          refine C_exit ?_
          refine C_seq ?_
          refine C_region ?_
          refine L_y rfl (y_move rfl) rfl ?_
          refine L_y rfl (y_assign rfl) rfl ?_
          refine L_nil ?_
          refine C_ret ?_
          refine B_ret (rv_tmp rfl rv_nil) ((hsub (.cons_cons _ (.refl _))).trans (hsub_pick [0] rfl)) ?_
          rw [← hr3, pe_stop hu2 hv2 hc2]
          exact ⟨rfl, rfl⟩
        · replace hc2 : ¬ v2 < u2 := by have := of_decide_eq_false hc2; omega
          refine C_skip ?_
          refine C_seq ?_
          refine C_regionH H (by kernel_rfl) ?_
          refine H_y 0 rfl (by kernel_rfl) (by kernel_rfl) (by kernel_rfl) ((hsub (.cons _ (.refl _)))) rfl (y_move rfl) rfl ?_
          refine H_y 1 rfl (by kernel_rfl) (by kernel_rfl) (by kernel_rfl) ((hsub (.cons _ (.refl _)))) rfl (y_move rfl) rfl ?_
          refine H_y 2 rfl (by kernel_rfl) (by kernel_rfl) (by kernel_rfl) ((hsub (.cons _ (.refl _)))) rfl (y_move rfl) rfl ?_
          refine H_y 3 rfl (by kernel_rfl) (by kernel_rfl) (by kernel_rfl) ((hsub (.cons _ (.refl _)))) rfl (y_move rfl) rfl ?_
          refine H_y 4 rfl (by kernel_rfl) (by kernel_rfl) (by kernel_rfl) ((hsub (.cons _ (.refl _)))) rfl (y_move rfl) rfl ?_
          refine H_y 5 rfl (by kernel_rfl) (by kernel_rfl) (by kernel_rfl) ((hsub (.cons _ (.refl _)))) rfl (y_move rfl) rfl ?_
          refine H_y 6 rfl (by kernel_rfl) (by kernel_rfl) (by kernel_rfl) ((hsub (.cons _ (.refl _)))) rfl (y_indexS rfl rfl Try.underlying63 sz_58 (by omega) (by omega) (ix0 (v2))) rfl ?_
          refine H_y 8 rfl (by kernel_rfl) (by kernel_rfl) (by kernel_rfl) ((hsub (.cons _ (.refl _)))) rfl (y_move rfl) rfl ?_
          refine H_y 9 rfl (by kernel_rfl) (by kernel_rfl) (by kernel_rfl) ((hsub (.cons _ (.refl _)))) rfl (y_move rfl) rfl ?_
          refine H_y 10 rfl (by kernel_rfl) (by kernel_rfl) (by kernel_rfl) ((hsub (.cons _ (.refl _)))) rfl (y_indexS rfl rfl Try.underlying63 sz_58 (by omega) (by omega) (ix0 (u2))) rfl ?_
          refine H_two 7 11 rfl rfl (by kernel_rfl) rfl rfl ?_ ?_
          · refine op_y (y_load rfl ag_58 (sees 0 0 rfl) (us_at (by omega))) rfl ?_
            refine ⟨(hsub (.cons _ (.refl _))), ?_⟩
            refine H_one 11 rfl (by kernel_rfl) rfl (op_y (y_load rfl ag_58 (sees 0 0 rfl) (us_at (by omega))) rfl ?_)
            refine ⟨(hsub (.cons _ (.refl _))), ?_⟩
            refine H_y 12 rfl (by kernel_rfl) (by kernel_rfl) (by kernel_rfl) ((hsub (.cons _ (.refl _)))) rfl (y_indexS rfl rfl Try.underlying63 sz_58 (by omega) (by omega) (ix0 (u2))) rfl ?_
            refine H_one 13 rfl (by kernel_rfl) rfl (op_store1 0 0 rfl rfl rfl sz_58 rfl (us_lt (by omega)) ?_)
            refine ⟨(hsub (.cons _ (.refl _))), ?_⟩
            refine H_y 14 rfl (by kernel_rfl) (by kernel_rfl) (by kernel_rfl) ((hsub (.cons _ (.refl _)))) rfl (y_indexS rfl rfl Try.underlying63 sz_58 (by omega) (by omega) (ix0 (v2))) rfl ?_
            refine H_one 15 rfl (by kernel_rfl) rfl (op_store1 0 0 rfl rfl rfl sz_58 rfl (by rw [List.length_set]; exact us_lt (by omega)) ?_)
            refine ⟨(hsub (.cons _ (.refl _))), ?_⟩
            refine H_done (by kernel_rfl) ?_
            rw [us_swp (by omega) (by omega)]
            refine C_seq ?_
            refine C_region ?_
            refine L_y rfl (y_move rfl) rfl ?_
            refine L_y rfl (y_add rfl rfl (show _ = ((u2 + 1 : Nat) : Int) from by rw [wi64 (by omega) (by omega)]; omega)) rfl ?_
            refine L_y rfl (y_assign rfl) rfl ?_
            refine L_nil ?_
            refine C_region ?_
            refine L_y rfl (y_move rfl) rfl ?_
            refine L_y rfl (y_sub rfl rfl (show _ = ((v2 - 1 : Nat) : Int) from by rw [wi64 (by omega) (by omega)]; omega)) rfl ?_
            refine L_y rfl (y_assign rfl) rfl ?_
            refine L_nil ?_
            exact ⟨(Go.Sort.swp d3 u2 v2, u2 + 1, v2 - 1), ⟨by simp only; rw [swp_size]; exact hs3, by simp only; omega, by simp only; omega, by simp only; omega, by simp only; rw [← hr3, pe_go hu2 hv2 hc2]⟩, by simp only; omega, ⟨rfl, rfl, rfl, rfl, rfl, trivial⟩, ((hsub (.cons_cons _ (.refl _))).trans (hsub_pick [0] rfl))⟩
          · refine op_y (y_load rfl ag_58 (sees 0 0 rfl) (us_at (by omega))) rfl ?_
            refine ⟨(hsub (.cons _ (.refl _))), ?_⟩
            refine H_one 7 rfl (by kernel_rfl) rfl (op_y (y_load rfl ag_58 (sees 0 0 rfl) (us_at (by omega))) rfl ?_)
            refine ⟨(hsub (.cons _ (.refl _))), ?_⟩
            refine H_y 12 rfl (by kernel_rfl) (by kernel_rfl) (by kernel_rfl) ((hsub (.cons _ (.refl _)))) rfl (y_indexS rfl rfl Try.underlying63 sz_58 (by omega) (by omega) (ix0 (u2))) rfl ?_
            refine H_one 13 rfl (by kernel_rfl) rfl (op_store1 0 0 rfl rfl rfl sz_58 rfl (us_lt (by omega)) ?_)
            refine ⟨(hsub (.cons _ (.refl _))), ?_⟩
            refine H_y 14 rfl (by kernel_rfl) (by kernel_rfl) (by kernel_rfl) ((hsub (.cons _ (.refl _)))) rfl (y_indexS rfl rfl Try.underlying63 sz_58 (by omega) (by omega) (ix0 (v2))) rfl ?_
            refine H_one 15 rfl (by kernel_rfl) rfl (op_store1 0 0 rfl rfl rfl sz_58 rfl (by rw [List.length_set]; exact us_lt (by omega)) ?_)
            refine ⟨(hsub (.cons _ (.refl _))), ?_⟩
            refine H_done (by kernel_rfl) ?_
            rw [us_swp (by omega) (by omega)]
            refine C_seq ?_
            refine C_region ?_
            refine L_y rfl (y_move rfl) rfl ?_
            refine L_y rfl (y_add rfl rfl (show _ = ((u2 + 1 : Nat) : Int) from by rw [wi64 (by omega) (by omega)]; omega)) rfl ?_
            refine L_y rfl (y_assign rfl) rfl ?_
            refine L_nil ?_
            refine C_region ?_
            refine L_y rfl (y_move rfl) rfl ?_
            refine L_y rfl (y_sub rfl rfl (show _ = ((v2 - 1 : Nat) : Int) from by rw [wi64 (by omega) (by omega)]; omega)) rfl ?_
            refine L_y rfl (y_assign rfl) rfl ?_
            refine L_nil ?_
            exact ⟨(Go.Sort.swp d3 u2 v2, u2 + 1, v2 - 1), ⟨by simp only; rw [swp_size]; exact hs3, by simp only; omega, by simp only; omega, by simp only; omega, by simp only; rw [← hr3, pe_go hu2 hv2 hc2]⟩, by simp only; omega, ⟨rfl, rfl, rfl, rfl, rfl, trivial⟩, ((hsub (.cons_cons _ (.refl _))).trans (hsub_pick [0] rfl))⟩
  · refine op_y (y_load rfl ag_58 (sees 0 0 rfl) (us_at (by omega))) rfl ?_
    refine ⟨(hsub (.cons _ (.refl _))), ?_⟩
    refine H_one 7 rfl (by kernel_rfl) rfl (op_y (y_load rfl ag_58 (sees 0 0 rfl) (us_at (by omega))) rfl ?_)
    refine ⟨(hsub (.cons _ (.refl _))), ?_⟩
    refine H_y 12 rfl (by kernel_rfl) (by kernel_rfl) (by kernel_rfl) ((hsub (.cons _ (.refl _)))) rfl (y_indexS rfl rfl Try.underlying63 sz_58 (by omega) (by omega) (ix0 (a))) rfl ?_
    refine H_one 13 rfl (by kernel_rfl) rfl (op_store1 0 0 rfl rfl rfl sz_58 rfl (us_lt (by omega)) ?_)
    refine ⟨(hsub (.cons _ (.refl _))), ?_⟩
    refine H_y 14 rfl (by kernel_rfl) (by kernel_rfl) (by kernel_rfl) ((hsub (.cons _ (.refl _)))) rfl (y_indexS rfl rfl Try.underlying63 sz_58 (by omega) (by omega) (ix0 (pivot))) rfl ?_
    refine H_one 15 rfl (by kernel_rfl) rfl (op_store1 0 0 rfl rfl rfl sz_58 rfl (by rw [List.length_set]; exact us_lt (by omega)) ?_)
    refine ⟨(hsub (.cons _ (.refl _))), ?_⟩
    refine H_done (by kernel_rfl) ?_
    rw [us_swp (by omega) (by omega)]
    obtain ⟨d1, hd1⟩ : ∃ y, y = Go.Sort.swp d a pivot := ⟨_, rfl⟩
    rw [← hd1]
    have hsd1 : d1.size = n := by rw [hd1, swp_size]; omega
    refine C_seq ?_
    refine C_region ?_
    refine L_y rfl (y_move rfl) rfl ?_
    refine L_y rfl (y_add rfl rfl (show _ = ((a + 1 : Nat) : Int) from by rw [wi64 (by omega) (by omega)]; omega)) rfl ?_
    refine L_y rfl (y_move rfl) rfl ?_
    refine L_y rfl (y_sub rfl rfl (show _ = ((b - 1 : Nat) : Int) from by rw [wi64 (by omega) (by omega)]; omega)) rfl ?_
    refine L_y rfl (y_assign rfl) rfl ?_
    refine L_y rfl (y_assign rfl) rfl ?_
    refine L_nil ?_
    refine C_seq ?_
    refine C_block ?_
    refine C_loop (ι := Array Nat × Nat × Nat) (fun x => [(0, (.slice (some ⟨sb, 0, none⟩) n cap)), (1, .int .i64 ((a : Nat) : Int)), (2, .int .i64 ((b : Nat) : Int)), (9, .int .i64 ((x.2.1 : Nat) : Int)), (10, .int .i64 ((x.2.2 : Nat) : Int))]) (fun x => useg 58 sb x.1 sp :: H) (fun x => x.1.size = n ∧ a < x.2.1 ∧ x.2.1 ≤ b ∧ x.2.2 < b ∧ Go.Sort.partEqLoop ltN a x.2.1 x.2.2 x.1 = Go.Sort.partitionEqual ltN d a b pivot) (fun x => x.2.2 + 1 - x.2.1) (d1, a + 1, b - 1) ⟨hsd1, by simp only; omega, by simp only; omega, by simp only; omega, (pq_eq hd1).symm⟩ ⟨rfl, rfl, rfl, rfl, rfl, trivial⟩ ((hsub (.cons_cons _ (.refl _))).trans (hsub_pick [0] rfl)) (fun x hx => ?_)
    obtain ⟨d3, u, v⟩ := x
    obtain ⟨hs3, hu1, hu2, hv1, hr3⟩ := hx
    try simp only at hs3 hu1 hu2 hv1 hr3
    try dsimp only
    refine C_block ?_
    refine C_cutG (ι := Nat) (fun t => a < t ∧ t ≤ b ∧ u ≤ t ∧ Go.Sort.scanUp (upE a d3) d3 v u = t) (fun t => [(0, (.slice (some ⟨sb, 0, none⟩) n cap)), (1, .int .i64 ((a : Nat) : Int)), (2, .int .i64 ((b : Nat) : Int)), (9, .int .i64 ((t : Nat) : Int)), (10, .int .i64 ((v : Nat) : Int))]) (fun t => useg 58 sb d3 sp :: H) ?_ (fun t ht => ?_)
    · refine C_block ?_
      refine C_loop (ι := Nat) (fun t => [(0, (.slice (some ⟨sb, 0, none⟩) n cap)), (1, .int .i64 ((a : Nat) : Int)), (2, .int .i64 ((b : Nat) : Int)), (9, .int .i64 ((t : Nat) : Int)), (10, .int .i64 ((v : Nat) : Int))]) (fun t => useg 58 sb d3 sp :: H) (fun t => a < t ∧ t ≤ b ∧ u ≤ t ∧ Go.Sort.scanUp (upE a d3) d3 v t = Go.Sort.scanUp (upE a d3) d3 v u) (fun t => v + 1 - t) u (by refine ⟨by omega, by omega, by omega, rfl⟩ <;> omega) ⟨rfl, rfl, rfl, rfl, rfl, trivial⟩ ((hsub (.cons_cons _ (.refl _))).trans (hsub_pick [0] rfl)) (fun t ht => ?_)
      obtain ⟨ht1, ht2, ht3, hts⟩ := ht
      refine C_seq ?_
      refine C_seq ?_
      refine C_regionH0 (by kernel_rfl) ?_
      refine H_y 0 rfl (by kernel_rfl) (by kernel_rfl) (by kernel_rfl) (HSub.refl _) rfl (y_move rfl) rfl ?_
      refine H_y 1 rfl (by kernel_rfl) (by kernel_rfl) (by kernel_rfl) (HSub.refl _) rfl (y_move rfl) rfl ?_
      refine H_y 2 rfl (by kernel_rfl) (by kernel_rfl) (by kernel_rfl) (HSub.refl _) rfl (y_leq rfl rfl) rfl ?_
      refine H_y 3 rfl (by kernel_rfl) (by kernel_rfl) (by kernel_rfl) (HSub.refl _) rfl (y_move rfl) rfl ?_
      refine H_case 32 rfl (fun hg3_4 => ?_) (fun hg3_4 => ?_)
      · have hle : t ≤ v := by have := of_decide_eq_true hg3_4; omega
        refine H_y 4 rfl (by kernel_rfl) (by kernel_rfl) (by kernel_rfl) (HSub.refl _) rfl (y_move rfl) rfl ?_
        refine H_y 5 rfl (by kernel_rfl) (by kernel_rfl) (by kernel_rfl) (HSub.refl _) rfl (y_move rfl) rfl ?_
        refine H_y 6 rfl (by kernel_rfl) (by kernel_rfl) (by kernel_rfl) (HSub.refl _) rfl (y_indexS rfl rfl Try.underlying63 sz_58 (by omega) (by omega) (ix0 (a))) rfl ?_
        refine H_y 7 rfl (by kernel_rfl) (by kernel_rfl) (by kernel_rfl) (HSub.refl _) rfl (y_load rfl ag_58 (sees 0 0 rfl) (us_at (by omega))) rfl ?_
        refine H_y 8 rfl (by kernel_rfl) (by kernel_rfl) (by kernel_rfl) (HSub.refl _) rfl (y_move rfl) rfl ?_
        refine H_y 9 rfl (by kernel_rfl) (by kernel_rfl) (by kernel_rfl) (HSub.refl _) rfl (y_move rfl) rfl ?_
        refine H_y 10 rfl (by kernel_rfl) (by kernel_rfl) (by kernel_rfl) (HSub.refl _) rfl (y_indexS rfl rfl Try.underlying63 sz_58 (by omega) (by omega) (ix0 (t))) rfl ?_
        refine H_y 11 rfl (by kernel_rfl) (by kernel_rfl) (by kernel_rfl) (HSub.refl _) rfl (y_load rfl ag_58 (sees 0 0 rfl) (us_at (by omega))) rfl ?_
        refine H_one 12 rfl (by kernel_rfl) rfl (op_call rfl rfl (fun a w => Try.call108 a w) rfl ?_)
        refine (less_u (d3[a]!) (d3[t]!)).mono ?_
        rintro _ _ ⟨rfl, e⟩
        obtain rfl := e.symm
        clear e
        refine ⟨_, rfl, ?_⟩
        refine ⟨HSub.refl _, ?_⟩
        refine H_y 13 rfl (by kernel_rfl) (by kernel_rfl) (by kernel_rfl) (HSub.refl _) rfl (y_not rfl) rfl ?_
        refine H_y 14 rfl (by kernel_rfl) (by kernel_rfl) (by kernel_rfl) (HSub.refl _) rfl (y_pick_t rfl rfl) rfl ?_
        refine H_done (by kernel_rfl) ?_
        refine C_cond rfl (fun hc0 => ?_) (fun hc0 => ?_)
        · have hpt : (upE a d3) d3[t]! = true := hc0
          refine C_skip ?_
          refine C_block ?_
          refine C_region ?_
          refine L_y rfl (y_move rfl) rfl ?_
          refine L_y rfl (y_add rfl rfl (show _ = ((t + 1 : Nat) : Int) from by rw [wi64 (by omega) (by omega)]; omega)) rfl ?_
          refine L_y rfl (y_assign rfl) rfl ?_
          refine L_nil ?_
          exact ⟨t + 1, ⟨by omega, by omega, by omega, by rw [← hts, su_go hle hpt]⟩, by omega, ⟨rfl, rfl, rfl, rfl, rfl, trivial⟩, ((hsub (.cons_cons _ (.refl _))).trans (hsub_pick [0] rfl))⟩
        · have hfin := hts.symm.trans (su_stop (p := (upE a d3)) (d := d3) (.inr hc0))
          refine C_exit ?_
          exact ⟨t, ⟨ht1, ht2, ht3, hfin⟩, ⟨rfl, rfl, rfl, rfl, rfl, trivial⟩, ((hsub (.cons_cons _ (.refl _))).trans (hsub_pick [0] rfl))⟩
      · have hle : ¬ t ≤ v := by have := of_decide_eq_false hg3_4; omega
        have hfin := hts.symm.trans (su_stop (p := (upE a d3)) (d := d3) (.inl hle))
        refine H_skip 4 rfl (by kernel_rfl) (by kernel_rfl) (by kernel_rfl) (HSub.refl _) rfl rfl ?_
        refine H_skip 5 rfl (by kernel_rfl) (by kernel_rfl) (by kernel_rfl) (HSub.refl _) rfl rfl ?_
        refine H_skip 6 rfl (by kernel_rfl) (by kernel_rfl) (by kernel_rfl) (HSub.refl _) rfl rfl ?_
        refine H_skip 7 rfl (by kernel_rfl) (by kernel_rfl) (by kernel_rfl) (HSub.refl _) rfl rfl ?_
        refine H_skip 8 rfl (by kernel_rfl) (by kernel_rfl) (by kernel_rfl) (HSub.refl _) rfl rfl ?_
        refine H_skip 9 rfl (by kernel_rfl) (by kernel_rfl) (by kernel_rfl) (HSub.refl _) rfl rfl ?_
        refine H_skip 10 rfl (by kernel_rfl) (by kernel_rfl) (by kernel_rfl) (HSub.refl _) rfl rfl ?_
        refine H_skip 11 rfl (by kernel_rfl) (by kernel_rfl) (by kernel_rfl) (HSub.refl _) rfl rfl ?_
        refine H_skip 12 rfl (by kernel_rfl) (by kernel_rfl) (by kernel_rfl) (HSub.refl _) rfl rfl ?_
        refine H_skip 13 rfl (by kernel_rfl) (by kernel_rfl) (by kernel_rfl) (HSub.refl _) rfl rfl ?_
        refine H_y 14 rfl (by kernel_rfl) (by kernel_rfl) (by kernel_rfl) (HSub.refl _) rfl (y_pick_f rfl rfl) rfl ?_
        refine H_done (by kernel_rfl) ?_
        refine C_cond_f rfl ?_
        refine C_exit ?_
        exact ⟨t, ⟨ht1, ht2, ht3, hfin⟩, ⟨rfl, rfl, rfl, rfl, rfl, trivial⟩, ((hsub (.cons_cons _ (.refl _))).trans (hsub_pick [0] rfl))⟩
    · rename Nat => u2
      obtain ⟨qu20, qu21, qu22, hu2⟩ := ht
      refine C_cutG (ι := Nat) (fun t => t < b ∧ t ≤ v ∧ Go.Sort.scanDown (dnE a d3) d3 u2 v = t) (fun t => [(0, (.slice (some ⟨sb, 0, none⟩) n cap)), (1, .int .i64 ((a : Nat) : Int)), (2, .int .i64 ((b : Nat) : Int)), (9, .int .i64 ((u2 : Nat) : Int)), (10, .int .i64 ((t : Nat) : Int))]) (fun t => useg 58 sb d3 sp :: H) ?_ (fun t ht => ?_)
      · refine C_block ?_
        refine C_loop (ι := Nat) (fun t => [(0, (.slice (some ⟨sb, 0, none⟩) n cap)), (1, .int .i64 ((a : Nat) : Int)), (2, .int .i64 ((b : Nat) : Int)), (9, .int .i64 ((u2 : Nat) : Int)), (10, .int .i64 ((t : Nat) : Int))]) (fun t => useg 58 sb d3 sp :: H) (fun t => t < b ∧ t ≤ v ∧ Go.Sort.scanDown (dnE a d3) d3 u2 t = Go.Sort.scanDown (dnE a d3) d3 u2 v) (fun t => t) v (by refine ⟨by omega, by omega, rfl⟩ <;> omega) ⟨rfl, rfl, rfl, rfl, rfl, trivial⟩ ((hsub (.cons_cons _ (.refl _))).trans (hsub_pick [0] rfl)) (fun t ht => ?_)
        obtain ⟨ht1, ht2, hts⟩ := ht
        refine C_seq ?_
        refine C_seq ?_
        refine C_regionH0 (by kernel_rfl) ?_
        refine H_y 0 rfl (by kernel_rfl) (by kernel_rfl) (by kernel_rfl) (HSub.refl _) rfl (y_move rfl) rfl ?_
        refine H_y 1 rfl (by kernel_rfl) (by kernel_rfl) (by kernel_rfl) (HSub.refl _) rfl (y_move rfl) rfl ?_
        refine H_y 2 rfl (by kernel_rfl) (by kernel_rfl) (by kernel_rfl) (HSub.refl _) rfl (y_leq rfl rfl) rfl ?_
        refine H_y 3 rfl (by kernel_rfl) (by kernel_rfl) (by kernel_rfl) (HSub.refl _) rfl (y_move rfl) rfl ?_
        refine H_case 49 rfl (fun hg5_4 => ?_) (fun hg5_4 => ?_)
        · have hle : u2 ≤ t := by have := of_decide_eq_true hg5_4; omega
          refine H_y 4 rfl (by kernel_rfl) (by kernel_rfl) (by kernel_rfl) (HSub.refl _) rfl (y_move rfl) rfl ?_
          refine H_y 5 rfl (by kernel_rfl) (by kernel_rfl) (by kernel_rfl) (HSub.refl _) rfl (y_move rfl) rfl ?_
          refine H_y 6 rfl (by kernel_rfl) (by kernel_rfl) (by kernel_rfl) (HSub.refl _) rfl (y_indexS rfl rfl Try.underlying63 sz_58 (by omega) (by omega) (ix0 (a))) rfl ?_
          refine H_y 7 rfl (by kernel_rfl) (by kernel_rfl) (by kernel_rfl) (HSub.refl _) rfl (y_load rfl ag_58 (sees 0 0 rfl) (us_at (by omega))) rfl ?_
          refine H_y 8 rfl (by kernel_rfl) (by kernel_rfl) (by kernel_rfl) (HSub.refl _) rfl (y_move rfl) rfl ?_
          refine H_y 9 rfl (by kernel_rfl) (by kernel_rfl) (by kernel_rfl) (HSub.refl _) rfl (y_move rfl) rfl ?_
          refine H_y 10 rfl (by kernel_rfl) (by kernel_rfl) (by kernel_rfl) (HSub.refl _) rfl (y_indexS rfl rfl Try.underlying63 sz_58 (by omega) (by omega) (ix0 (t))) rfl ?_
          refine H_y 11 rfl (by kernel_rfl) (by kernel_rfl) (by kernel_rfl) (HSub.refl _) rfl (y_load rfl ag_58 (sees 0 0 rfl) (us_at (by omega))) rfl ?_
          refine H_one 12 rfl (by kernel_rfl) rfl (op_call rfl rfl (fun a w => Try.call108 a w) rfl ?_)
          refine (less_u (d3[a]!) (d3[t]!)).mono ?_
          rintro _ _ ⟨rfl, e⟩
          obtain rfl := e.symm
          clear e
          refine ⟨_, rfl, ?_⟩
          refine ⟨HSub.refl _, ?_⟩
          refine H_y 13 rfl (by kernel_rfl) (by kernel_rfl) (by kernel_rfl) (HSub.refl _) rfl (y_pick_t rfl rfl) rfl ?_
          refine H_done (by kernel_rfl) ?_
          refine C_cond rfl (fun hc1 => ?_) (fun hc1 => ?_)
          · have hpt : (dnE a d3) d3[t]! = true := hc1
            refine C_skip ?_
            refine C_block ?_
            refine C_region ?_
            refine L_y rfl (y_move rfl) rfl ?_
            refine L_y rfl (y_sub rfl rfl (show _ = ((t - 1 : Nat) : Int) from by rw [wi64 (by omega) (by omega)]; omega)) rfl ?_
            refine L_y rfl (y_assign rfl) rfl ?_
            refine L_nil ?_
            exact ⟨t - 1, ⟨by omega, by omega, by rw [← hts, sn_go hle (by omega) hpt]⟩, by omega, ⟨rfl, rfl, rfl, rfl, rfl, trivial⟩, ((hsub (.cons_cons _ (.refl _))).trans (hsub_pick [0] rfl))⟩
          · have hfin := hts.symm.trans (sn_stop (p := (dnE a d3)) (d := d3) (.inr hc1))
            refine C_exit ?_
            exact ⟨t, ⟨ht1, ht2, hfin⟩, ⟨rfl, rfl, rfl, rfl, rfl, trivial⟩, ((hsub (.cons_cons _ (.refl _))).trans (hsub_pick [0] rfl))⟩
        · have hle : ¬ u2 ≤ t := by have := of_decide_eq_false hg5_4; omega
          have hfin := hts.symm.trans (sn_stop (p := (dnE a d3)) (d := d3) (.inl hle))
          refine H_skip 4 rfl (by kernel_rfl) (by kernel_rfl) (by kernel_rfl) (HSub.refl _) rfl rfl ?_
          refine H_skip 5 rfl (by kernel_rfl) (by kernel_rfl) (by kernel_rfl) (HSub.refl _) rfl rfl ?_
          refine H_skip 6 rfl (by kernel_rfl) (by kernel_rfl) (by kernel_rfl) (HSub.refl _) rfl rfl ?_
          refine H_skip 7 rfl (by kernel_rfl) (by kernel_rfl) (by kernel_rfl) (HSub.refl _) rfl rfl ?_
          refine H_skip 8 rfl (by kernel_rfl) (by kernel_rfl) (by kernel_rfl) (HSub.refl _) rfl rfl ?_
          refine H_skip 9 rfl (by kernel_rfl) (by kernel_rfl) (by kernel_rfl) (HSub.refl _) rfl rfl ?_
          refine H_skip 10 rfl (by kernel_rfl) (by kernel_rfl) (by kernel_rfl) (HSub.refl _) rfl rfl ?_
          refine H_skip 11 rfl (by kernel_rfl) (by kernel_rfl) (by kernel_rfl) (HSub.refl _) rfl rfl ?_
          refine H_skip 12 rfl (by kernel_rfl) (by kernel_rfl) (by kernel_rfl) (HSub.refl _) rfl rfl ?_
          refine H_y 13 rfl (by kernel_rfl) (by kernel_rfl) (by kernel_rfl) (HSub.refl _) rfl (y_pick_f rfl rfl) rfl ?_
          refine H_done (by kernel_rfl) ?_
          refine C_cond_f rfl ?_
          refine C_exit ?_
          exact ⟨t, ⟨ht1, ht2, hfin⟩, ⟨rfl, rfl, rfl, rfl, rfl, trivial⟩, ((hsub (.cons_cons _ (.refl _))).trans (hsub_pick [0] rfl))⟩
      · rename Nat => v2
        obtain ⟨qv20, qv21, hv2⟩ := ht
        refine C_seq ?_
        refine C_seq ?_
        refine C_region ?_
        refine L_y rfl (y_move rfl) rfl ?_
        refine L_y rfl (y_move rfl) rfl ?_
        refine L_y rfl (y_gtr rfl rfl) rfl ?_
        refine L_nil ?_
        refine C_cond rfl (fun hc2 => ?_) (fun hc2 => ?_)
        · replace hc2 : v2 < u2 := by have := of_decide_eq_true hc2; omega
          refine C_exit ?_
          refine C_seq ?_
          refine C_region ?_
          refine L_y rfl (y_move rfl) rfl ?_
          refine L_y rfl (y_assign rfl) rfl ?_
          refine L_nil ?_
          refine C_ret ?_
          refine B_ret (rv_tmp rfl rv_nil) ((hsub (.cons_cons _ (.refl _))).trans (hsub_pick [0] rfl)) ?_
          rw [← hr3, pe_stop hu2 hv2 hc2]
          exact ⟨rfl, rfl⟩
        · replace hc2 : ¬ v2 < u2 := by have := of_decide_eq_false hc2; omega
          refine C_skip ?_
          refine C_seq ?_
          refine C_regionH H (by kernel_rfl) ?_
          refine H_y 0 rfl (by kernel_rfl) (by kernel_rfl) (by kernel_rfl) ((hsub (.cons _ (.refl _)))) rfl (y_move rfl) rfl ?_
          refine H_y 1 rfl (by kernel_rfl) (by kernel_rfl) (by kernel_rfl) ((hsub (.cons _ (.refl _)))) rfl (y_move rfl) rfl ?_
          refine H_y 2 rfl (by kernel_rfl) (by kernel_rfl) (by kernel_rfl) ((hsub (.cons _ (.refl _)))) rfl (y_move rfl) rfl ?_
          refine H_y 3 rfl (by kernel_rfl) (by kernel_rfl) (by kernel_rfl) ((hsub (.cons _ (.refl _)))) rfl (y_move rfl) rfl ?_
          refine H_y 4 rfl (by kernel_rfl) (by kernel_rfl) (by kernel_rfl) ((hsub (.cons _ (.refl _)))) rfl (y_move rfl) rfl ?_
          refine H_y 5 rfl (by kernel_rfl) (by kernel_rfl) (by kernel_rfl) ((hsub (.cons _ (.refl _)))) rfl (y_move rfl) rfl ?_
          refine H_y 6 rfl (by kernel_rfl) (by kernel_rfl) (by kernel_rfl) ((hsub (.cons _ (.refl _)))) rfl (y_indexS rfl rfl Try.underlying63 sz_58 (by omega) (by omega) (ix0 (v2))) rfl ?_
          refine H_y 8 rfl (by kernel_rfl) (by kernel_rfl) (by kernel_rfl) ((hsub (.cons _ (.refl _)))) rfl (y_move rfl) rfl ?_
          refine H_y 9 rfl (by kernel_rfl) (by kernel_rfl) (by kernel_rfl) ((hsub (.cons _ (.refl _)))) rfl (y_move rfl) rfl ?_
          refine H_y 10 rfl (by kernel_rfl) (by kernel_rfl) (by kernel_rfl) ((hsub (.cons _ (.refl _)))) rfl (y_indexS rfl rfl Try.underlying63 sz_58 (by omega) (by omega) (ix0 (u2))) rfl ?_
          refine H_two 7 11 rfl rfl (by kernel_rfl) rfl rfl ?_ ?_
          · refine op_y (y_load rfl ag_58 (sees 0 0 rfl) (us_at (by omega))) rfl ?_
            refine ⟨(hsub (.cons _ (.refl _))), ?_⟩
            refine H_one 11 rfl (by kernel_rfl) rfl (op_y (y_load rfl ag_58 (sees 0 0 rfl) (us_at (by omega))) rfl ?_)
            refine ⟨(hsub (.cons _ (.refl _))), ?_⟩
            refine H_y 12 rfl (by kernel_rfl) (by kernel_rfl) (by kernel_rfl) ((hsub (.cons _ (.refl _)))) rfl (y_indexS rfl rfl Try.underlying63 sz_58 (by omega) (by omega) (ix0 (u2))) rfl ?_
            refine H_one 13 rfl (by kernel_rfl) rfl (op_store1 0 0 rfl rfl rfl sz_58 rfl (us_lt (by omega)) ?_)
            refine ⟨(hsub (.cons _ (.refl _))), ?_⟩
            refine H_y 14 rfl (by kernel_rfl) (by kernel_rfl) (by kernel_rfl) ((hsub (.cons _ (.refl _)))) rfl (y_indexS rfl rfl Try.underlying63 sz_58 (by omega) (by omega) (ix0 (v2))) rfl ?_
            refine H_one 15 rfl (by kernel_rfl) rfl (op_store1 0 0 rfl rfl rfl sz_58 rfl (by rw [List.length_set]; exact us_lt (by omega)) ?_)
            refine ⟨(hsub (.cons _ (.refl _))), ?_⟩
            refine H_done (by kernel_rfl) ?_
            rw [us_swp (by omega) (by omega)]
            refine C_seq ?_
            refine C_region ?_
            refine L_y rfl (y_move rfl) rfl ?_
            refine L_y rfl (y_add rfl rfl (show _ = ((u2 + 1 : Nat) : Int) from by rw [wi64 (by omega) (by omega)]; omega)) rfl ?_
            refine L_y rfl (y_assign rfl) rfl ?_
            refine L_nil ?_
            refine C_region ?_
            refine L_y rfl (y_move rfl) rfl ?_
            refine L_y rfl (y_sub rfl rfl (show _ = ((v2 - 1 : Nat) : Int) from by rw [wi64 (by omega) (by omega)]; omega)) rfl ?_
            refine L_y rfl (y_assign rfl) rfl ?_
            refine L_nil ?_
            exact ⟨(Go.Sort.swp d3 u2 v2, u2 + 1, v2 - 1), ⟨by simp only; rw [swp_size]; exact hs3, by simp only; omega, by simp only; omega, by simp only; omega, by simp only; rw [← hr3, pe_go hu2 hv2 hc2]⟩, by simp only; omega, ⟨rfl, rfl, rfl, rfl, rfl, trivial⟩, ((hsub (.cons_cons _ (.refl _))).trans (hsub_pick [0] rfl))⟩
          · refine op_y (y_load rfl ag_58 (sees 0 0 rfl) (us_at (by omega))) rfl ?_
            refine ⟨(hsub (.cons _ (.refl _))), ?_⟩
            refine H_one 7 rfl (by kernel_rfl) rfl (op_y (y_load rfl ag_58 (sees 0 0 rfl) (us_at (by omega))) rfl ?_)
            refine ⟨(hsub (.cons _ (.refl _))), ?_⟩
            refine H_y 12 rfl (by kernel_rfl) (by kernel_rfl) (by kernel_rfl) ((hsub (.cons _ (.refl _)))) rfl (y_indexS rfl rfl Try.underlying63 sz_58 (by omega) (by omega) (ix0 (u2))) rfl ?_
            refine H_one 13 rfl (by kernel_rfl) rfl (op_store1 0 0 rfl rfl rfl sz_58 rfl (us_lt (by omega)) ?_)
            refine ⟨(hsub (.cons _ (.refl _))), ?_⟩
            refine H_y 14 rfl (by kernel_rfl) (by kernel_rfl) (by kernel_rfl) ((hsub (.cons _ (.refl _)))) rfl (y_indexS rfl rfl Try.underlying63 sz_58 (by omega) (by omega) (ix0 (v2))) rfl ?_
            refine H_one 15 rfl (by kernel_rfl) rfl (op_store1 0 0 rfl rfl rfl sz_58 rfl (by rw [List.length_set]; exact us_lt (by omega)) ?_)
            refine ⟨(hsub (.cons _ (.refl _))), ?_⟩
            refine H_done (by kernel_rfl) ?_
            rw [us_swp (by omega) (by omega)]
            refine C_seq ?_
            refine C_region ?_
            refine L_y rfl (y_move rfl) rfl ?_
            refine L_y rfl (y_add rfl rfl (show _ = ((u2 + 1 : Nat) : Int) from by rw [wi64 (by omega) (by omega)]; omega)) rfl ?_
            refine L_y rfl (y_assign rfl) rfl ?_
            refine L_nil ?_
            refine C_region ?_
            refine L_y rfl (y_move rfl) rfl ?_
            refine L_y rfl (y_sub rfl rfl (show _ = ((v2 - 1 : Nat) : Int) from by rw [wi64 (by omega) (by omega)]; omega)) rfl ?_
            refine L_y rfl (y_assign rfl) rfl ?_
            refine L_nil ?_
            exact ⟨(Go.Sort.swp d3 u2 v2, u2 + 1, v2 - 1), ⟨by simp only; rw [swp_size]; exact hs3, by simp only; omega, by simp only; omega, by simp only; omega, by simp only; rw [← hr3, pe_go hu2 hv2 hc2]⟩, by simp only; omega, ⟨rfl, rfl, rfl, rfl, rfl, trivial⟩, ((hsub (.cons_cons _ (.refl _))).trans (hsub_pick [0] rfl))⟩

end Go.Proofs.Ytaeooiogjhkjfaa

/- walks (own work; the walks' lines by a program of this repo). -/
set_option linter.unusedVariables false
set_option linter.unusedSimpArgs false
set_option maxRecDepth 20000
namespace Go.Proofs.Ytaeooiogjhkjfaa
open Go.Sl
attribute [local irreducible] BodyQ WpC WpL WpS WpH OpW FnS



set_option maxHeartbeats 2000000 in

theorem partial_u {w0 : World} {H : Hp} {sb n cap : Nat} {sp : List Value} (d : Array Nat) (hd : d.size = n) (hn : n < 4611686018427387904) (a b : Nat) (hab : a < b) (hb : b ≤ n) : FnS Try.prog w0 107 #[(.slice (some ⟨sb, 0, none⟩) n cap), .int .i64 ((a : Nat) : Int), .int .i64 ((b : Nat) : Int)] (useg 58 sb d sp :: H) (fun e H' => e = .returned (.bool (Go.Sort.partialInsertionSort ltN d a b).2) ∧ H' = useg 58 sb (Go.Sort.partialInsertionSort ltN d a b).1 sp :: H) := by
  refine FnS_intro (n := 133) (rs := [.tmp 6]) (vs := [(.slice (some ⟨sb, 0, none⟩) n cap), .int .i64 ((a : Nat) : Int), .int .i64 ((b : Nat) : Int)]) Try.func107 rfl Try.ntmps107 rfl rfl ?_
  refine C_seq ?_
  refine C_region ?_
  refine L_y rfl (y_assign rfl) rfl ?_
  refine L_nil ?_
  refine C_seq ?_
  refine C_region ?_
  refine L_y rfl (y_move rfl) rfl ?_
  refine L_y rfl (y_add rfl rfl (show _ = ((a + 1 : Nat) : Int) from by rw [wi64 (by omega) (by omega)]; omega)) rfl ?_
  refine L_y rfl (y_assign rfl) rfl ?_
  refine L_nil ?_
  refine C_seq ?_
  refine C_seq ?_
  refine C_region ?_
  refine L_y rfl (y_assign rfl) rfl ?_
  refine L_nil ?_
  refine C_block ?_
  refine C_loop (ι := Array Nat × Nat × Nat) (fun x => [(0, (.slice (some ⟨sb, 0, none⟩) n cap)), (1, .int .i64 ((a : Nat) : Int)), (2, .int .i64 ((b : Nat) : Int)), (7, .int .i64 ((x.2.1 : Nat) : Int)), (8, .int .i64 ((5 : Int) - (x.2.2 : Int)))]) (fun x => useg 58 sb x.1 sp :: H) (fun x => x.1.size = n ∧ a < x.2.1 ∧ x.2.1 ≤ b ∧ x.2.2 ≤ 5 ∧ Go.Sort.partialIns ltN a b x.2.2 x.2.1 x.1 = Go.Sort.partialInsertionSort ltN d a b) (fun x => x.2.2) (d, a + 1, 5) ⟨hd, by simp only; omega, by simp only; omega, Nat.le_refl _, rfl⟩ ⟨rfl, rfl, rfl, rfl, rfl, trivial⟩ ((hsub (.cons_cons _ (.refl _))).trans (hsub_pick [0] rfl)) (fun x hx => ?_)
  obtain ⟨d1, i, s⟩ := x
  obtain ⟨hs1, hai, hib, hs5, hr1⟩ := hx
  try simp only at hs1 hai hib hs5 hr1
  try dsimp only
  refine C_seq ?_
  refine C_seq ?_
  refine C_region ?_
  refine L_y rfl (y_move rfl) rfl ?_
  refine L_y rfl (y_lss rfl rfl) rfl ?_
  refine L_nil ?_
  refine C_cond rfl (fun hc0 => ?_) (fun hc0 => ?_)
  · obtain ⟨s, rfl⟩ : ∃ m, s = m + 1 := ⟨s - 1, by have := of_decide_eq_true hc0; omega⟩
    refine C_skip ?_
    refine C_cutG (ι := Nat × Array Nat) (fun z => z.2.size = n ∧ a < z.1 ∧ z.1 ≤ b ∧ Go.Sort.partialIns ltN a b (s + 1) i d1 = Go.Sort.partialIns ltN a b s z.1 z.2) (fun z => [(0, (.slice (some ⟨sb, 0, none⟩) n cap)), (1, .int .i64 ((a : Nat) : Int)), (2, .int .i64 ((b : Nat) : Int)), (8, .int .i64 ((5 : Int) - ((s + 1 : Nat) : Int))), (7, .int .i64 ((z.1 : Nat) : Int))]) (fun z => useg 58 sb z.2 sp :: H) ?_ (fun z hz => ?_)
    · refine C_block ?_
      refine C_cutG (ι := Nat) (fun t => a < t ∧ t ≤ b ∧ Go.Sort.scanSorted ltN d1 b i = t) (fun t => [(0, (.slice (some ⟨sb, 0, none⟩) n cap)), (1, .int .i64 ((a : Nat) : Int)), (2, .int .i64 ((b : Nat) : Int)), (8, .int .i64 ((5 : Int) - ((s + 1 : Nat) : Int))), (7, .int .i64 ((t : Nat) : Int))]) (fun t => useg 58 sb d1 sp :: H) ?_ (fun k hk => ?_)
      · refine C_block ?_
        refine C_loop (ι := Nat) (fun t => [(0, (.slice (some ⟨sb, 0, none⟩) n cap)), (1, .int .i64 ((a : Nat) : Int)), (2, .int .i64 ((b : Nat) : Int)), (8, .int .i64 ((5 : Int) - ((s + 1 : Nat) : Int))), (7, .int .i64 ((t : Nat) : Int))]) (fun t => useg 58 sb d1 sp :: H) (fun t => a < t ∧ t ≤ b ∧ Go.Sort.scanSorted ltN d1 b t = Go.Sort.scanSorted ltN d1 b i) (fun t => b - t) i ⟨hai, hib, rfl⟩ ⟨rfl, rfl, rfl, rfl, rfl, trivial⟩ ((hsub (.cons_cons _ (.refl _))).trans (hsub_pick [0] rfl)) (fun t ht => ?_)
        obtain ⟨ht1, ht2, hts⟩ := ht
        refine C_seq ?_
        refine C_seq ?_
        refine C_regionH0 (by kernel_rfl) ?_
        refine H_y 0 rfl (by kernel_rfl) (by kernel_rfl) (by kernel_rfl) (HSub.refl _) rfl (y_move rfl) rfl ?_
        refine H_y 1 rfl (by kernel_rfl) (by kernel_rfl) (by kernel_rfl) (HSub.refl _) rfl (y_move rfl) rfl ?_
        refine H_y 2 rfl (by kernel_rfl) (by kernel_rfl) (by kernel_rfl) (HSub.refl _) rfl (y_lss rfl rfl) rfl ?_
        refine H_y 3 rfl (by kernel_rfl) (by kernel_rfl) (by kernel_rfl) (HSub.refl _) rfl (y_move rfl) rfl ?_
        refine H_case 20 rfl (fun hg5_4 => ?_) (fun hg5_4 => ?_)
        · have hle : t < b := by have := of_decide_eq_true hg5_4; omega
          refine H_y 4 rfl (by kernel_rfl) (by kernel_rfl) (by kernel_rfl) (HSub.refl _) rfl (y_move rfl) rfl ?_
          refine H_y 5 rfl (by kernel_rfl) (by kernel_rfl) (by kernel_rfl) (HSub.refl _) rfl (y_move rfl) rfl ?_
          refine H_y 6 rfl (by kernel_rfl) (by kernel_rfl) (by kernel_rfl) (HSub.refl _) rfl (y_indexS rfl rfl Try.underlying63 sz_58 (by omega) (by omega) (ix0 (t))) rfl ?_
          refine H_y 7 rfl (by kernel_rfl) (by kernel_rfl) (by kernel_rfl) (HSub.refl _) rfl (y_load rfl ag_58 (sees 0 0 rfl) (us_at (by omega))) rfl ?_
          refine H_y 8 rfl (by kernel_rfl) (by kernel_rfl) (by kernel_rfl) (HSub.refl _) rfl (y_move rfl) rfl ?_
          refine H_y 9 rfl (by kernel_rfl) (by kernel_rfl) (by kernel_rfl) (HSub.refl _) rfl (y_move rfl) rfl ?_
          refine H_y 10 rfl (by kernel_rfl) (by kernel_rfl) (by kernel_rfl) (HSub.refl _) rfl (y_sub rfl rfl (show _ = ((t - 1 : Nat) : Int) from by rw [wi64 (by omega) (by omega)]; omega)) rfl ?_
          refine H_y 11 rfl (by kernel_rfl) (by kernel_rfl) (by kernel_rfl) (HSub.refl _) rfl (y_indexS rfl rfl Try.underlying63 sz_58 (by omega) (by omega) (ix0 (t - 1))) rfl ?_
          refine H_y 12 rfl (by kernel_rfl) (by kernel_rfl) (by kernel_rfl) (HSub.refl _) rfl (y_load rfl ag_58 (sees 0 0 rfl) (us_at (by omega))) rfl ?_
          refine H_one 13 rfl (by kernel_rfl) rfl (op_call rfl rfl (fun a w => Try.call108 a w) rfl ?_)
          refine (less_u (d1[t]!) (d1[t - 1]!)).mono ?_
          rintro _ _ ⟨rfl, e⟩
          obtain rfl := e.symm
          clear e
          refine ⟨_, rfl, ?_⟩
          refine ⟨HSub.refl _, ?_⟩
          refine H_y 14 rfl (by kernel_rfl) (by kernel_rfl) (by kernel_rfl) (HSub.refl _) rfl (y_not rfl) rfl ?_
          refine H_y 15 rfl (by kernel_rfl) (by kernel_rfl) (by kernel_rfl) (HSub.refl _) rfl (y_pick_t rfl rfl) rfl ?_
          refine H_done (by kernel_rfl) ?_
          refine C_cond rfl (fun hc1 => ?_) (fun hc1 => ?_)
          · have hpt : ltN d1[t]! d1[t - 1]! = false := by simpa using hc1
            refine C_skip ?_
            refine C_block ?_
            refine C_region ?_
            refine L_y rfl (y_move rfl) rfl ?_
            refine L_y rfl (y_add rfl rfl (show _ = ((t + 1 : Nat) : Int) from by rw [wi64 (by omega) (by omega)]; omega)) rfl ?_
            refine L_y rfl (y_assign rfl) rfl ?_
            refine L_nil ?_
            exact ⟨t + 1, ⟨by omega, by omega, by rw [← hts, ss_go hle hpt]⟩, by omega, ⟨rfl, rfl, rfl, rfl, rfl, trivial⟩, ((hsub (.cons_cons _ (.refl _))).trans (hsub_pick [0] rfl))⟩
          · have hfin := hts.symm.trans (ss_stop (d := d1) (.inr (by simpa using hc1)))
            refine C_exit ?_
            exact ⟨t, ⟨ht1, ht2, hfin⟩, ⟨rfl, rfl, rfl, rfl, rfl, trivial⟩, ((hsub (.cons_cons _ (.refl _))).trans (hsub_pick [0] rfl))⟩
        · have hle : ¬ t < b := by have := of_decide_eq_false hg5_4; omega
          have hfin := hts.symm.trans (ss_stop (d := d1) (.inl hle))
          refine H_skip 4 rfl (by kernel_rfl) (by kernel_rfl) (by kernel_rfl) (HSub.refl _) rfl rfl ?_
          refine H_skip 5 rfl (by kernel_rfl) (by kernel_rfl) (by kernel_rfl) (HSub.refl _) rfl rfl ?_
          refine H_skip 6 rfl (by kernel_rfl) (by kernel_rfl) (by kernel_rfl) (HSub.refl _) rfl rfl ?_
          refine H_skip 7 rfl (by kernel_rfl) (by kernel_rfl) (by kernel_rfl) (HSub.refl _) rfl rfl ?_
          refine H_skip 8 rfl (by kernel_rfl) (by kernel_rfl) (by kernel_rfl) (HSub.refl _) rfl rfl ?_
          refine H_skip 9 rfl (by kernel_rfl) (by kernel_rfl) (by kernel_rfl) (HSub.refl _) rfl rfl ?_
          refine H_skip 10 rfl (by kernel_rfl) (by kernel_rfl) (by kernel_rfl) (HSub.refl _) rfl rfl ?_
          refine H_skip 11 rfl (by kernel_rfl) (by kernel_rfl) (by kernel_rfl) (HSub.refl _) rfl rfl ?_
          refine H_skip 12 rfl (by kernel_rfl) (by kernel_rfl) (by kernel_rfl) (HSub.refl _) rfl rfl ?_
          refine H_skip 13 rfl (by kernel_rfl) (by kernel_rfl) (by kernel_rfl) (HSub.refl _) rfl rfl ?_
          refine H_skip 14 rfl (by kernel_rfl) (by kernel_rfl) (by kernel_rfl) (HSub.refl _) rfl rfl ?_
          refine H_y 15 rfl (by kernel_rfl) (by kernel_rfl) (by kernel_rfl) (HSub.refl _) rfl (y_pick_f rfl rfl) rfl ?_
          refine H_done (by kernel_rfl) ?_
          refine C_cond_f rfl ?_
          refine C_exit ?_
          exact ⟨t, ⟨ht1, ht2, hfin⟩, ⟨rfl, rfl, rfl, rfl, rfl, trivial⟩, ((hsub (.cons_cons _ (.refl _))).trans (hsub_pick [0] rfl))⟩
      · obtain ⟨hk1, hk2, hk⟩ := hk
        refine C_seq ?_
        refine C_seq ?_
        refine C_region ?_
        refine L_y rfl (y_move rfl) rfl ?_
        refine L_y rfl (y_move rfl) rfl ?_
        refine L_y rfl (y_eqi rfl rfl) rfl ?_
        refine L_nil ?_
        refine C_cond rfl (fun hc2 => ?_) (fun hc2 => ?_)
        · replace hc2 : k = b := by have := of_decide_eq_true hc2; omega
          refine C_seq ?_
          refine C_region ?_
          refine L_y rfl (y_assign rfl) rfl ?_
          refine L_nil ?_
          refine C_ret ?_
          refine B_ret (rv_tmp rfl rv_nil) ((hsub (.cons_cons _ (.refl _))).trans (hsub_pick [0] rfl)) ?_
          rw [← hr1]
          first
          | (rw [pi_true hk hc2]; exact ⟨rfl, rfl⟩)
          | (rw [pi_short hk hc2 hc3]; exact ⟨rfl, rfl⟩)
          | exact ⟨rfl, rfl⟩
        · replace hc2 : ¬ k = b := by have := of_decide_eq_false hc2; omega
          refine C_skip ?_
          refine C_seq ?_
          refine C_seq ?_
          refine C_region ?_
          refine L_y rfl (y_move rfl) rfl ?_
          refine L_y rfl (y_move rfl) rfl ?_
          refine L_y rfl (y_sub rfl rfl (show _ = ((b - a : Nat) : Int) from by rw [wi64 (by omega) (by omega)]; omega)) rfl ?_
          refine L_y rfl (y_lss rfl rfl) rfl ?_
          refine L_nil ?_
          refine C_cond rfl (fun hc3 => ?_) (fun hc3 => ?_)
          · replace hc3 : b - a < 50 := by have := of_decide_eq_true hc3; omega
            refine C_seq ?_
            refine C_region ?_
            refine L_y rfl (y_assign rfl) rfl ?_
            refine L_nil ?_
            refine C_ret ?_
            refine B_ret (rv_tmp rfl rv_nil) ((hsub (.cons_cons _ (.refl _))).trans (hsub_pick [0] rfl)) ?_
            rw [← hr1]
            first
            | (rw [pi_true hk hc2]; exact ⟨rfl, rfl⟩)
            | (rw [pi_short hk hc2 hc3]; exact ⟨rfl, rfl⟩)
            | exact ⟨rfl, rfl⟩
          · replace hc3 : ¬ b - a < 50 := by have := of_decide_eq_false hc3; omega
            refine C_skip ?_
            refine C_seq ?_
            refine C_regionH H (by kernel_rfl) ?_
            refine H_y 0 rfl (by kernel_rfl) (by kernel_rfl) (by kernel_rfl) ((hsub (.cons _ (.refl _)))) rfl (y_move rfl) rfl ?_
            refine H_y 1 rfl (by kernel_rfl) (by kernel_rfl) (by kernel_rfl) ((hsub (.cons _ (.refl _)))) rfl (y_move rfl) rfl ?_
            refine H_y 2 rfl (by kernel_rfl) (by kernel_rfl) (by kernel_rfl) ((hsub (.cons _ (.refl _)))) rfl (y_move rfl) rfl ?_
            refine H_y 3 rfl (by kernel_rfl) (by kernel_rfl) (by kernel_rfl) ((hsub (.cons _ (.refl _)))) rfl (y_move rfl) rfl ?_
            refine H_y 4 rfl (by kernel_rfl) (by kernel_rfl) (by kernel_rfl) ((hsub (.cons _ (.refl _)))) rfl (y_sub rfl rfl (show _ = ((k - 1 : Nat) : Int) from by rw [wi64 (by omega) (by omega)]; omega)) rfl ?_
            refine H_y 5 rfl (by kernel_rfl) (by kernel_rfl) (by kernel_rfl) ((hsub (.cons _ (.refl _)))) rfl (y_move rfl) rfl ?_
            refine H_y 6 rfl (by kernel_rfl) (by kernel_rfl) (by kernel_rfl) ((hsub (.cons _ (.refl _)))) rfl (y_move rfl) rfl ?_
            refine H_y 7 rfl (by kernel_rfl) (by kernel_rfl) (by kernel_rfl) ((hsub (.cons _ (.refl _)))) rfl (y_sub rfl rfl (show _ = ((k - 1 : Nat) : Int) from by rw [wi64 (by omega) (by omega)]; omega)) rfl ?_
            refine H_y 8 rfl (by kernel_rfl) (by kernel_rfl) (by kernel_rfl) ((hsub (.cons _ (.refl _)))) rfl (y_indexS rfl rfl Try.underlying63 sz_58 (by omega) (by omega) (ix0 ((k - 1)))) rfl ?_
            refine H_y 10 rfl (by kernel_rfl) (by kernel_rfl) (by kernel_rfl) ((hsub (.cons _ (.refl _)))) rfl (y_move rfl) rfl ?_
            refine H_y 11 rfl (by kernel_rfl) (by kernel_rfl) (by kernel_rfl) ((hsub (.cons _ (.refl _)))) rfl (y_move rfl) rfl ?_
            refine H_y 12 rfl (by kernel_rfl) (by kernel_rfl) (by kernel_rfl) ((hsub (.cons _ (.refl _)))) rfl (y_indexS rfl rfl Try.underlying63 sz_58 (by omega) (by omega) (ix0 (k))) rfl ?_
            refine H_two 9 13 rfl rfl (by kernel_rfl) rfl rfl ?_ ?_
            · refine op_y (y_load rfl ag_58 (sees 0 0 rfl) (us_at (by omega))) rfl ?_
              refine ⟨(hsub (.cons _ (.refl _))), ?_⟩
              refine H_one 13 rfl (by kernel_rfl) rfl (op_y (y_load rfl ag_58 (sees 0 0 rfl) (us_at (by omega))) rfl ?_)
              refine ⟨(hsub (.cons _ (.refl _))), ?_⟩
              refine H_y 14 rfl (by kernel_rfl) (by kernel_rfl) (by kernel_rfl) ((hsub (.cons _ (.refl _)))) rfl (y_indexS rfl rfl Try.underlying63 sz_58 (by omega) (by omega) (ix0 (k))) rfl ?_
              refine H_one 15 rfl (by kernel_rfl) rfl (op_store1 0 0 rfl rfl rfl sz_58 rfl (us_lt (by omega)) ?_)
              refine ⟨(hsub (.cons _ (.refl _))), ?_⟩
              refine H_y 16 rfl (by kernel_rfl) (by kernel_rfl) (by kernel_rfl) ((hsub (.cons _ (.refl _)))) rfl (y_indexS rfl rfl Try.underlying63 sz_58 (by omega) (by omega) (ix0 ((k - 1)))) rfl ?_
              refine H_one 17 rfl (by kernel_rfl) rfl (op_store1 0 0 rfl rfl rfl sz_58 rfl (by rw [List.length_set]; exact us_lt (by omega)) ?_)
              refine ⟨(hsub (.cons _ (.refl _))), ?_⟩
              refine H_done (by kernel_rfl) ?_
              rw [us_swp (by omega) (by omega)]
              obtain ⟨d2, hd2⟩ : ∃ y, y = Go.Sort.swp d1 k (k - 1) := ⟨_, rfl⟩
              rw [← hd2]
              have hsd2 : d2.size = n := by rw [hd2, swp_size]; omega
              refine C_cutG (ι := Array Nat) (fun x => x.size = n ∧ x = if 2 ≤ k - a then Go.Sort.shiftDown ltN (k - 1) d2 else d2) (fun x => [(0, (.slice (some ⟨sb, 0, none⟩) n cap)), (1, .int .i64 ((a : Nat) : Int)), (2, .int .i64 ((b : Nat) : Int)), (8, .int .i64 ((5 : Int) - ((s + 1 : Nat) : Int))), (7, .int .i64 ((k : Nat) : Int))]) (fun x => useg 58 sb x sp :: H) ?_ (fun d3 hd3 => ?_)
              · refine C_seq ?_
                refine C_region ?_
                refine L_y rfl (y_move rfl) rfl ?_
                refine L_y rfl (y_move rfl) rfl ?_
                refine L_y rfl (y_sub rfl rfl (show _ = ((k - a : Nat) : Int) from by rw [wi64 (by omega) (by omega)]; omega)) rfl ?_
                refine L_y rfl (y_geq rfl rfl) rfl ?_
                refine L_nil ?_
                refine C_cond rfl (fun hc4 => ?_) (fun hc4 => ?_)
                · replace hc4 : 2 ≤ k - a := by have := of_decide_eq_true hc4; omega
                  refine C_seq ?_
                  refine C_region ?_
                  refine L_y rfl (y_move rfl) rfl ?_
                  refine L_y rfl (y_sub rfl rfl (show _ = ((k - 1 : Nat) : Int) from by rw [wi64 (by omega) (by omega)]; omega)) rfl ?_
                  refine L_y rfl (y_assign rfl) rfl ?_
                  refine L_nil ?_
                  refine C_block ?_
                  refine C_loop (ι := Array Nat × Nat) (fun y => [(0, (.slice (some ⟨sb, 0, none⟩) n cap)), (1, .int .i64 ((a : Nat) : Int)), (2, .int .i64 ((b : Nat) : Int)), (8, .int .i64 ((5 : Int) - ((s + 1 : Nat) : Int))), (7, .int .i64 ((k : Nat) : Int)), (9, .int .i64 ((y.2 : Nat) : Int))]) (fun y => useg 58 sb y.1 sp :: H) (fun y => y.1.size = n ∧ y.2 < k ∧ Go.Sort.shiftDown ltN y.2 y.1 = Go.Sort.shiftDown ltN (k - 1) d2) (fun y => y.2) (d2, k - 1) ⟨hsd2, by simp only; omega, rfl⟩ ⟨rfl, rfl, rfl, rfl, rfl, rfl, trivial⟩ ((hsub (.cons_cons _ (.refl _))).trans (hsub_pick [0] rfl)) (fun y hy => ?_)
                  obtain ⟨e1, j⟩ := y
                  obtain ⟨hse, hjk, hre⟩ := hy
                  try simp only at hse hjk hre
                  try dsimp only
                  refine C_seq ?_
                  refine C_seq ?_
                  refine C_region ?_
                  refine L_y rfl (y_move rfl) rfl ?_
                  refine L_y rfl (y_geq rfl rfl) rfl ?_
                  refine L_nil ?_
                  refine C_cond rfl (fun hc5 => ?_) (fun hc5 => ?_)
                  · have hj1 : 1 ≤ j := by have := of_decide_eq_true hc5; omega
                    refine C_skip ?_
                    refine C_seq ?_
                    refine C_block ?_
                    refine C_seq ?_
                    refine C_seq ?_
                    refine C_regionH0 (by kernel_rfl) ?_
                    refine H_y 0 rfl (by kernel_rfl) (by kernel_rfl) (by kernel_rfl) (HSub.refl _) rfl (y_move rfl) rfl ?_
                    refine H_y 1 rfl (by kernel_rfl) (by kernel_rfl) (by kernel_rfl) (HSub.refl _) rfl (y_move rfl) rfl ?_
                    refine H_y 2 rfl (by kernel_rfl) (by kernel_rfl) (by kernel_rfl) (HSub.refl _) rfl (y_indexS rfl rfl Try.underlying63 sz_58 (by omega) (by omega) (ix0 (j))) rfl ?_
                    refine H_y 3 rfl (by kernel_rfl) (by kernel_rfl) (by kernel_rfl) (HSub.refl _) rfl (y_load rfl ag_58 (sees 0 0 rfl) (us_at (by omega))) rfl ?_
                    refine H_y 4 rfl (by kernel_rfl) (by kernel_rfl) (by kernel_rfl) (HSub.refl _) rfl (y_move rfl) rfl ?_
                    refine H_y 5 rfl (by kernel_rfl) (by kernel_rfl) (by kernel_rfl) (HSub.refl _) rfl (y_move rfl) rfl ?_
                    refine H_y 6 rfl (by kernel_rfl) (by kernel_rfl) (by kernel_rfl) (HSub.refl _) rfl (y_sub rfl rfl (show _ = ((j - 1 : Nat) : Int) from by rw [wi64 (by omega) (by omega)]; omega)) rfl ?_
                    refine H_y 7 rfl (by kernel_rfl) (by kernel_rfl) (by kernel_rfl) (HSub.refl _) rfl (y_indexS rfl rfl Try.underlying63 sz_58 (by omega) (by omega) (ix0 (j - 1))) rfl ?_
                    refine H_y 8 rfl (by kernel_rfl) (by kernel_rfl) (by kernel_rfl) (HSub.refl _) rfl (y_load rfl ag_58 (sees 0 0 rfl) (us_at (by omega))) rfl ?_
                    refine H_one 9 rfl (by kernel_rfl) rfl (op_call rfl rfl (fun a w => Try.call108 a w) rfl ?_)
                    refine (less_u (e1[j]!) (e1[j - 1]!)).mono ?_
                    rintro _ _ ⟨rfl, e⟩
                    obtain rfl := e.symm
                    clear e
                    refine ⟨_, rfl, ?_⟩
                    refine ⟨HSub.refl _, ?_⟩
                    refine H_y 10 rfl (by kernel_rfl) (by kernel_rfl) (by kernel_rfl) (HSub.refl _) rfl (y_not rfl) rfl ?_
                    refine H_done (by kernel_rfl) ?_
                    refine C_cond rfl (fun hc6 => ?_) (fun hc6 => ?_)
                    · have hfin2 : Go.Sort.shiftDown ltN j e1 = e1 := sw_stop (.inr (by simpa using hc6))
                      refine C_exit ?_
                      exact ⟨e1, ⟨hse, by rw [if_pos hc4, ← hre, hfin2]⟩, ⟨rfl, rfl, rfl, rfl, rfl, trivial⟩, ((hsub (.cons_cons _ (.refl _))).trans (hsub_pick [0] rfl))⟩
                    · have hl6 : ltN e1[j]! e1[j - 1]! = true := by simpa using hc6
                      refine C_skip ?_
                      refine C_regionH H (by kernel_rfl) ?_
                      refine H_y 0 rfl (by kernel_rfl) (by kernel_rfl) (by kernel_rfl) ((hsub (.cons _ (.refl _)))) rfl (y_move rfl) rfl ?_
                      refine H_y 1 rfl (by kernel_rfl) (by kernel_rfl) (by kernel_rfl) ((hsub (.cons _ (.refl _)))) rfl (y_move rfl) rfl ?_
                      refine H_y 2 rfl (by kernel_rfl) (by kernel_rfl) (by kernel_rfl) ((hsub (.cons _ (.refl _)))) rfl (y_move rfl) rfl ?_
                      refine H_y 3 rfl (by kernel_rfl) (by kernel_rfl) (by kernel_rfl) ((hsub (.cons _ (.refl _)))) rfl (y_move rfl) rfl ?_
                      refine H_y 4 rfl (by kernel_rfl) (by kernel_rfl) (by kernel_rfl) ((hsub (.cons _ (.refl _)))) rfl (y_sub rfl rfl (show _ = ((j - 1 : Nat) : Int) from by rw [wi64 (by omega) (by omega)]; omega)) rfl ?_
                      refine H_y 5 rfl (by kernel_rfl) (by kernel_rfl) (by kernel_rfl) ((hsub (.cons _ (.refl _)))) rfl (y_move rfl) rfl ?_
                      refine H_y 6 rfl (by kernel_rfl) (by kernel_rfl) (by kernel_rfl) ((hsub (.cons _ (.refl _)))) rfl (y_move rfl) rfl ?_
                      refine H_y 7 rfl (by kernel_rfl) (by kernel_rfl) (by kernel_rfl) ((hsub (.cons _ (.refl _)))) rfl (y_sub rfl rfl (show _ = ((j - 1 : Nat) : Int) from by rw [wi64 (by omega) (by omega)]; omega)) rfl ?_
                      refine H_y 8 rfl (by kernel_rfl) (by kernel_rfl) (by kernel_rfl) ((hsub (.cons _ (.refl _)))) rfl (y_indexS rfl rfl Try.underlying63 sz_58 (by omega) (by omega) (ix0 ((j - 1)))) rfl ?_
                      refine H_y 10 rfl (by kernel_rfl) (by kernel_rfl) (by kernel_rfl) ((hsub (.cons _ (.refl _)))) rfl (y_move rfl) rfl ?_
                      refine H_y 11 rfl (by kernel_rfl) (by kernel_rfl) (by kernel_rfl) ((hsub (.cons _ (.refl _)))) rfl (y_move rfl) rfl ?_
                      refine H_y 12 rfl (by kernel_rfl) (by kernel_rfl) (by kernel_rfl) ((hsub (.cons _ (.refl _)))) rfl (y_indexS rfl rfl Try.underlying63 sz_58 (by omega) (by omega) (ix0 (j))) rfl ?_
                      refine H_two 9 13 rfl rfl (by kernel_rfl) rfl rfl ?_ ?_
                      · refine op_y (y_load rfl ag_58 (sees 0 0 rfl) (us_at (by omega))) rfl ?_
                        refine ⟨(hsub (.cons _ (.refl _))), ?_⟩
                        refine H_one 13 rfl (by kernel_rfl) rfl (op_y (y_load rfl ag_58 (sees 0 0 rfl) (us_at (by omega))) rfl ?_)
                        refine ⟨(hsub (.cons _ (.refl _))), ?_⟩
                        refine H_y 14 rfl (by kernel_rfl) (by kernel_rfl) (by kernel_rfl) ((hsub (.cons _ (.refl _)))) rfl (y_indexS rfl rfl Try.underlying63 sz_58 (by omega) (by omega) (ix0 (j))) rfl ?_
                        refine H_one 15 rfl (by kernel_rfl) rfl (op_store1 0 0 rfl rfl rfl sz_58 rfl (us_lt (by omega)) ?_)
                        refine ⟨(hsub (.cons _ (.refl _))), ?_⟩
                        refine H_y 16 rfl (by kernel_rfl) (by kernel_rfl) (by kernel_rfl) ((hsub (.cons _ (.refl _)))) rfl (y_indexS rfl rfl Try.underlying63 sz_58 (by omega) (by omega) (ix0 ((j - 1)))) rfl ?_
                        refine H_one 17 rfl (by kernel_rfl) rfl (op_store1 0 0 rfl rfl rfl sz_58 rfl (by rw [List.length_set]; exact us_lt (by omega)) ?_)
                        refine ⟨(hsub (.cons _ (.refl _))), ?_⟩
                        refine H_done (by kernel_rfl) ?_
                        rw [us_swp (by omega) (by omega)]
                        refine C_region ?_
                        refine L_y rfl (y_move rfl) rfl ?_
                        refine L_y rfl (y_sub rfl rfl (show _ = ((j - 1 : Nat) : Int) from by rw [wi64 (by omega) (by omega)]; omega)) rfl ?_
                        refine L_y rfl (y_assign rfl) rfl ?_
                        refine L_nil ?_
                        exact ⟨(Go.Sort.swp e1 j (j - 1), j - 1), ⟨by simp only; rw [swp_size]; exact hse, by simp only; omega, by simp only; rw [← hre, sw_go hj1 hl6]⟩, by simp only; omega, ⟨rfl, rfl, rfl, rfl, rfl, rfl, trivial⟩, ((hsub (.cons_cons _ (.refl _))).trans (hsub_pick [0] rfl))⟩
                      · refine op_y (y_load rfl ag_58 (sees 0 0 rfl) (us_at (by omega))) rfl ?_
                        refine ⟨(hsub (.cons _ (.refl _))), ?_⟩
                        refine H_one 9 rfl (by kernel_rfl) rfl (op_y (y_load rfl ag_58 (sees 0 0 rfl) (us_at (by omega))) rfl ?_)
                        refine ⟨(hsub (.cons _ (.refl _))), ?_⟩
                        refine H_y 14 rfl (by kernel_rfl) (by kernel_rfl) (by kernel_rfl) ((hsub (.cons _ (.refl _)))) rfl (y_indexS rfl rfl Try.underlying63 sz_58 (by omega) (by omega) (ix0 (j))) rfl ?_
                        refine H_one 15 rfl (by kernel_rfl) rfl (op_store1 0 0 rfl rfl rfl sz_58 rfl (us_lt (by omega)) ?_)
                        refine ⟨(hsub (.cons _ (.refl _))), ?_⟩
                        refine H_y 16 rfl (by kernel_rfl) (by kernel_rfl) (by kernel_rfl) ((hsub (.cons _ (.refl _)))) rfl (y_indexS rfl rfl Try.underlying63 sz_58 (by omega) (by omega) (ix0 ((j - 1)))) rfl ?_
                        refine H_one 17 rfl (by kernel_rfl) rfl (op_store1 0 0 rfl rfl rfl sz_58 rfl (by rw [List.length_set]; exact us_lt (by omega)) ?_)
                        refine ⟨(hsub (.cons _ (.refl _))), ?_⟩
                        refine H_done (by kernel_rfl) ?_
                        rw [us_swp (by omega) (by omega)]
                        refine C_region ?_
                        refine L_y rfl (y_move rfl) rfl ?_
                        refine L_y rfl (y_sub rfl rfl (show _ = ((j - 1 : Nat) : Int) from by rw [wi64 (by omega) (by omega)]; omega)) rfl ?_
                        refine L_y rfl (y_assign rfl) rfl ?_
                        refine L_nil ?_
                        exact ⟨(Go.Sort.swp e1 j (j - 1), j - 1), ⟨by simp only; rw [swp_size]; exact hse, by simp only; omega, by simp only; rw [← hre, sw_go hj1 hl6]⟩, by simp only; omega, ⟨rfl, rfl, rfl, rfl, rfl, rfl, trivial⟩, ((hsub (.cons_cons _ (.refl _))).trans (hsub_pick [0] rfl))⟩
                  · have hj1 : ¬ 1 ≤ j := by have := of_decide_eq_false hc5; omega
                    have hfin2 : Go.Sort.shiftDown ltN j e1 = e1 := sw_stop (.inl (by omega))
                    refine C_exit ?_
                    exact ⟨e1, ⟨hse, by rw [if_pos hc4, ← hre, hfin2]⟩, ⟨rfl, rfl, rfl, rfl, rfl, trivial⟩, ((hsub (.cons_cons _ (.refl _))).trans (hsub_pick [0] rfl))⟩
                · replace hc4 : ¬ 2 ≤ k - a := by have := of_decide_eq_false hc4; omega
                  refine C_skip ?_
                  exact ⟨d2, ⟨hsd2, by rw [if_neg hc4]⟩, ⟨rfl, rfl, rfl, rfl, rfl, trivial⟩, ((hsub (.cons_cons _ (.refl _))).trans (hsub_pick [0] rfl))⟩
              · obtain ⟨hs3, hd3⟩ := hd3
                refine C_seq ?_
                refine C_region ?_
                refine L_y rfl (y_move rfl) rfl ?_
                refine L_y rfl (y_move rfl) rfl ?_
                refine L_y rfl (y_sub rfl rfl (show _ = ((b - k : Nat) : Int) from by rw [wi64 (by omega) (by omega)]; omega)) rfl ?_
                refine L_y rfl (y_geq rfl rfl) rfl ?_
                refine L_nil ?_
                refine C_cond rfl (fun hc7 => ?_) (fun hc7 => ?_)
                · replace hc7 : 2 ≤ b - k := by have := of_decide_eq_true hc7; omega
                  refine C_seq ?_
                  refine C_region ?_
                  refine L_y rfl (y_move rfl) rfl ?_
                  refine L_y rfl (y_add rfl rfl (show _ = ((k + 1 : Nat) : Int) from by rw [wi64 (by omega) (by omega)]; omega)) rfl ?_
                  refine L_y rfl (y_assign rfl) rfl ?_
                  refine L_nil ?_
                  refine C_block ?_
                  refine C_loop (ι := Array Nat × Nat) (fun y => [(0, (.slice (some ⟨sb, 0, none⟩) n cap)), (1, .int .i64 ((a : Nat) : Int)), (2, .int .i64 ((b : Nat) : Int)), (8, .int .i64 ((5 : Int) - ((s + 1 : Nat) : Int))), (7, .int .i64 ((k : Nat) : Int)), (10, .int .i64 ((y.2 : Nat) : Int))]) (fun y => useg 58 sb y.1 sp :: H) (fun y => y.1.size = n ∧ k < y.2 ∧ y.2 ≤ b ∧ Go.Sort.shiftUp ltN b y.2 y.1 = Go.Sort.shiftUp ltN b (k + 1) d3) (fun y => b - y.2) (d3, k + 1) ⟨hs3, by simp only; omega, by simp only; omega, rfl⟩ ⟨rfl, rfl, rfl, rfl, rfl, rfl, trivial⟩ ((hsub (.cons_cons _ (.refl _))).trans (hsub_pick [0] rfl)) (fun y hy => ?_)
                  obtain ⟨e2, j⟩ := y
                  obtain ⟨hse, hjk, hjb, hre⟩ := hy
                  try simp only at hse hjk hjb hre
                  try dsimp only
                  refine C_seq ?_
                  refine C_seq ?_
                  refine C_region ?_
                  refine L_y rfl (y_move rfl) rfl ?_
                  refine L_y rfl (y_move rfl) rfl ?_
                  refine L_y rfl (y_lss rfl rfl) rfl ?_
                  refine L_nil ?_
                  refine C_cond rfl (fun hc8 => ?_) (fun hc8 => ?_)
                  · have hj1 : j < b := by have := of_decide_eq_true hc8; omega
                    refine C_skip ?_
                    refine C_seq ?_
                    refine C_block ?_
                    refine C_seq ?_
                    refine C_seq ?_
                    refine C_regionH0 (by kernel_rfl) ?_
                    refine H_y 0 rfl (by kernel_rfl) (by kernel_rfl) (by kernel_rfl) (HSub.refl _) rfl (y_move rfl) rfl ?_
                    refine H_y 1 rfl (by kernel_rfl) (by kernel_rfl) (by kernel_rfl) (HSub.refl _) rfl (y_move rfl) rfl ?_
                    refine H_y 2 rfl (by kernel_rfl) (by kernel_rfl) (by kernel_rfl) (HSub.refl _) rfl (y_indexS rfl rfl Try.underlying63 sz_58 (by omega) (by omega) (ix0 (j))) rfl ?_
                    refine H_y 3 rfl (by kernel_rfl) (by kernel_rfl) (by kernel_rfl) (HSub.refl _) rfl (y_load rfl ag_58 (sees 0 0 rfl) (us_at (by omega))) rfl ?_
                    refine H_y 4 rfl (by kernel_rfl) (by kernel_rfl) (by kernel_rfl) (HSub.refl _) rfl (y_move rfl) rfl ?_
                    refine H_y 5 rfl (by kernel_rfl) (by kernel_rfl) (by kernel_rfl) (HSub.refl _) rfl (y_move rfl) rfl ?_
                    refine H_y 6 rfl (by kernel_rfl) (by kernel_rfl) (by kernel_rfl) (HSub.refl _) rfl (y_sub rfl rfl (show _ = ((j - 1 : Nat) : Int) from by rw [wi64 (by omega) (by omega)]; omega)) rfl ?_
                    refine H_y 7 rfl (by kernel_rfl) (by kernel_rfl) (by kernel_rfl) (HSub.refl _) rfl (y_indexS rfl rfl Try.underlying63 sz_58 (by omega) (by omega) (ix0 (j - 1))) rfl ?_
                    refine H_y 8 rfl (by kernel_rfl) (by kernel_rfl) (by kernel_rfl) (HSub.refl _) rfl (y_load rfl ag_58 (sees 0 0 rfl) (us_at (by omega))) rfl ?_
                    refine H_one 9 rfl (by kernel_rfl) rfl (op_call rfl rfl (fun a w => Try.call108 a w) rfl ?_)
                    refine (less_u (e2[j]!) (e2[j - 1]!)).mono ?_
                    rintro _ _ ⟨rfl, e⟩
                    obtain rfl := e.symm
                    clear e
                    refine ⟨_, rfl, ?_⟩
                    refine ⟨HSub.refl _, ?_⟩
                    refine H_y 10 rfl (by kernel_rfl) (by kernel_rfl) (by kernel_rfl) (HSub.refl _) rfl (y_not rfl) rfl ?_
                    refine H_done (by kernel_rfl) ?_
                    refine C_cond rfl (fun hc9 => ?_) (fun hc9 => ?_)
                    · have hfin2 : Go.Sort.shiftUp ltN b j e2 = e2 := sp_stop (.inr (by simpa using hc9))
                      refine C_exit ?_
                      exact ⟨(k, e2), ⟨hse, hk1, hk2, pi_go hk hc2 hc3 hd2 hd3 (by rw [if_pos hc7, ← hre, hfin2])⟩, ⟨rfl, rfl, rfl, rfl, rfl, trivial⟩, ((hsub (.cons_cons _ (.refl _))).trans (hsub_pick [0] rfl))⟩
                    · have hl9 : ltN e2[j]! e2[j - 1]! = true := by simpa using hc9
                      refine C_skip ?_
                      refine C_regionH H (by kernel_rfl) ?_
                      refine H_y 0 rfl (by kernel_rfl) (by kernel_rfl) (by kernel_rfl) ((hsub (.cons _ (.refl _)))) rfl (y_move rfl) rfl ?_
                      refine H_y 1 rfl (by kernel_rfl) (by kernel_rfl) (by kernel_rfl) ((hsub (.cons _ (.refl _)))) rfl (y_move rfl) rfl ?_
                      refine H_y 2 rfl (by kernel_rfl) (by kernel_rfl) (by kernel_rfl) ((hsub (.cons _ (.refl _)))) rfl (y_move rfl) rfl ?_
                      refine H_y 3 rfl (by kernel_rfl) (by kernel_rfl) (by kernel_rfl) ((hsub (.cons _ (.refl _)))) rfl (y_move rfl) rfl ?_
                      refine H_y 4 rfl (by kernel_rfl) (by kernel_rfl) (by kernel_rfl) ((hsub (.cons _ (.refl _)))) rfl (y_sub rfl rfl (show _ = ((j - 1 : Nat) : Int) from by rw [wi64 (by omega) (by omega)]; omega)) rfl ?_
                      refine H_y 5 rfl (by kernel_rfl) (by kernel_rfl) (by kernel_rfl) ((hsub (.cons _ (.refl _)))) rfl (y_move rfl) rfl ?_
                      refine H_y 6 rfl (by kernel_rfl) (by kernel_rfl) (by kernel_rfl) ((hsub (.cons _ (.refl _)))) rfl (y_move rfl) rfl ?_
                      refine H_y 7 rfl (by kernel_rfl) (by kernel_rfl) (by kernel_rfl) ((hsub (.cons _ (.refl _)))) rfl (y_sub rfl rfl (show _ = ((j - 1 : Nat) : Int) from by rw [wi64 (by omega) (by omega)]; omega)) rfl ?_
                      refine H_y 8 rfl (by kernel_rfl) (by kernel_rfl) (by kernel_rfl) ((hsub (.cons _ (.refl _)))) rfl (y_indexS rfl rfl Try.underlying63 sz_58 (by omega) (by omega) (ix0 ((j - 1)))) rfl ?_
                      refine H_y 10 rfl (by kernel_rfl) (by kernel_rfl) (by kernel_rfl) ((hsub (.cons _ (.refl _)))) rfl (y_move rfl) rfl ?_
                      refine H_y 11 rfl (by kernel_rfl) (by kernel_rfl) (by kernel_rfl) ((hsub (.cons _ (.refl _)))) rfl (y_move rfl) rfl ?_
                      refine H_y 12 rfl (by kernel_rfl) (by kernel_rfl) (by kernel_rfl) ((hsub (.cons _ (.refl _)))) rfl (y_indexS rfl rfl Try.underlying63 sz_58 (by omega) (by omega) (ix0 (j))) rfl ?_
                      refine H_two 9 13 rfl rfl (by kernel_rfl) rfl rfl ?_ ?_
                      · refine op_y (y_load rfl ag_58 (sees 0 0 rfl) (us_at (by omega))) rfl ?_
                        refine ⟨(hsub (.cons _ (.refl _))), ?_⟩
                        refine H_one 13 rfl (by kernel_rfl) rfl (op_y (y_load rfl ag_58 (sees 0 0 rfl) (us_at (by omega))) rfl ?_)
                        refine ⟨(hsub (.cons _ (.refl _))), ?_⟩
                        refine H_y 14 rfl (by kernel_rfl) (by kernel_rfl) (by kernel_rfl) ((hsub (.cons _ (.refl _)))) rfl (y_indexS rfl rfl Try.underlying63 sz_58 (by omega) (by omega) (ix0 (j))) rfl ?_
                        refine H_one 15 rfl (by kernel_rfl) rfl (op_store1 0 0 rfl rfl rfl sz_58 rfl (us_lt (by omega)) ?_)
                        refine ⟨(hsub (.cons _ (.refl _))), ?_⟩
                        refine H_y 16 rfl (by kernel_rfl) (by kernel_rfl) (by kernel_rfl) ((hsub (.cons _ (.refl _)))) rfl (y_indexS rfl rfl Try.underlying63 sz_58 (by omega) (by omega) (ix0 ((j - 1)))) rfl ?_
                        refine H_one 17 rfl (by kernel_rfl) rfl (op_store1 0 0 rfl rfl rfl sz_58 rfl (by rw [List.length_set]; exact us_lt (by omega)) ?_)
                        refine ⟨(hsub (.cons _ (.refl _))), ?_⟩
                        refine H_done (by kernel_rfl) ?_
                        rw [us_swp (by omega) (by omega)]
                        refine C_region ?_
                        refine L_y rfl (y_move rfl) rfl ?_
                        refine L_y rfl (y_add rfl rfl (show _ = ((j + 1 : Nat) : Int) from by rw [wi64 (by omega) (by omega)]; omega)) rfl ?_
                        refine L_y rfl (y_assign rfl) rfl ?_
                        refine L_nil ?_
                        exact ⟨(Go.Sort.swp e2 j (j - 1), j + 1), ⟨by simp only; rw [swp_size]; exact hse, by simp only; omega, by simp only; omega, by simp only; rw [← hre, sp_go hj1 hl9]⟩, by simp only; omega, ⟨rfl, rfl, rfl, rfl, rfl, rfl, trivial⟩, ((hsub (.cons_cons _ (.refl _))).trans (hsub_pick [0] rfl))⟩
                      · refine op_y (y_load rfl ag_58 (sees 0 0 rfl) (us_at (by omega))) rfl ?_
                        refine ⟨(hsub (.cons _ (.refl _))), ?_⟩
                        refine H_one 9 rfl (by kernel_rfl) rfl (op_y (y_load rfl ag_58 (sees 0 0 rfl) (us_at (by omega))) rfl ?_)
                        refine ⟨(hsub (.cons _ (.refl _))), ?_⟩
                        refine H_y 14 rfl (by kernel_rfl) (by kernel_rfl) (by kernel_rfl) ((hsub (.cons _ (.refl _)))) rfl (y_indexS rfl rfl Try.underlying63 sz_58 (by omega) (by omega) (ix0 (j))) rfl ?_
                        refine H_one 15 rfl (by kernel_rfl) rfl (op_store1 0 0 rfl rfl rfl sz_58 rfl (us_lt (by omega)) ?_)
                        refine ⟨(hsub (.cons _ (.refl _))), ?_⟩
                        refine H_y 16 rfl (by kernel_rfl) (by kernel_rfl) (by kernel_rfl) ((hsub (.cons _ (.refl _)))) rfl (y_indexS rfl rfl Try.underlying63 sz_58 (by omega) (by omega) (ix0 ((j - 1)))) rfl ?_
                        refine H_one 17 rfl (by kernel_rfl) rfl (op_store1 0 0 rfl rfl rfl sz_58 rfl (by rw [List.length_set]; exact us_lt (by omega)) ?_)
                        refine ⟨(hsub (.cons _ (.refl _))), ?_⟩
                        refine H_done (by kernel_rfl) ?_
                        rw [us_swp (by omega) (by omega)]
                        refine C_region ?_
                        refine L_y rfl (y_move rfl) rfl ?_
                        refine L_y rfl (y_add rfl rfl (show _ = ((j + 1 : Nat) : Int) from by rw [wi64 (by omega) (by omega)]; omega)) rfl ?_
                        refine L_y rfl (y_assign rfl) rfl ?_
                        refine L_nil ?_
                        exact ⟨(Go.Sort.swp e2 j (j - 1), j + 1), ⟨by simp only; rw [swp_size]; exact hse, by simp only; omega, by simp only; omega, by simp only; rw [← hre, sp_go hj1 hl9]⟩, by simp only; omega, ⟨rfl, rfl, rfl, rfl, rfl, rfl, trivial⟩, ((hsub (.cons_cons _ (.refl _))).trans (hsub_pick [0] rfl))⟩
                  · have hj1 : ¬ j < b := by have := of_decide_eq_false hc8; omega
                    have hfin2 : Go.Sort.shiftUp ltN b j e2 = e2 := sp_stop (.inl hj1)
                    refine C_exit ?_
                    exact ⟨(k, e2), ⟨hse, hk1, hk2, pi_go hk hc2 hc3 hd2 hd3 (by rw [if_pos hc7, ← hre, hfin2])⟩, ⟨rfl, rfl, rfl, rfl, rfl, trivial⟩, ((hsub (.cons_cons _ (.refl _))).trans (hsub_pick [0] rfl))⟩
                · replace hc7 : ¬ 2 ≤ b - k := by have := of_decide_eq_false hc7; omega
                  refine C_skip ?_
                  exact ⟨(k, d3), ⟨hs3, hk1, hk2, pi_go hk hc2 hc3 hd2 hd3 (by rw [if_neg hc7])⟩, ⟨rfl, rfl, rfl, rfl, rfl, trivial⟩, ((hsub (.cons_cons _ (.refl _))).trans (hsub_pick [0] rfl))⟩
            · refine op_y (y_load rfl ag_58 (sees 0 0 rfl) (us_at (by omega))) rfl ?_
              refine ⟨(hsub (.cons _ (.refl _))), ?_⟩
              refine H_one 9 rfl (by kernel_rfl) rfl (op_y (y_load rfl ag_58 (sees 0 0 rfl) (us_at (by omega))) rfl ?_)
              refine ⟨(hsub (.cons _ (.refl _))), ?_⟩
              refine H_y 14 rfl (by kernel_rfl) (by kernel_rfl) (by kernel_rfl) ((hsub (.cons _ (.refl _)))) rfl (y_indexS rfl rfl Try.underlying63 sz_58 (by omega) (by omega) (ix0 (k))) rfl ?_
              refine H_one 15 rfl (by kernel_rfl) rfl (op_store1 0 0 rfl rfl rfl sz_58 rfl (us_lt (by omega)) ?_)
              refine ⟨(hsub (.cons _ (.refl _))), ?_⟩
              refine H_y 16 rfl (by kernel_rfl) (by kernel_rfl) (by kernel_rfl) ((hsub (.cons _ (.refl _)))) rfl (y_indexS rfl rfl Try.underlying63 sz_58 (by omega) (by omega) (ix0 ((k - 1)))) rfl ?_
              refine H_one 17 rfl (by kernel_rfl) rfl (op_store1 0 0 rfl rfl rfl sz_58 rfl (by rw [List.length_set]; exact us_lt (by omega)) ?_)
              refine ⟨(hsub (.cons _ (.refl _))), ?_⟩
              refine H_done (by kernel_rfl) ?_
              rw [us_swp (by omega) (by omega)]
              obtain ⟨d2, hd2⟩ : ∃ y, y = Go.Sort.swp d1 k (k - 1) := ⟨_, rfl⟩
              rw [← hd2]
              have hsd2 : d2.size = n := by rw [hd2, swp_size]; omega
              refine C_cutG (ι := Array Nat) (fun x => x.size = n ∧ x = if 2 ≤ k - a then Go.Sort.shiftDown ltN (k - 1) d2 else d2) (fun x => [(0, (.slice (some ⟨sb, 0, none⟩) n cap)), (1, .int .i64 ((a : Nat) : Int)), (2, .int .i64 ((b : Nat) : Int)), (8, .int .i64 ((5 : Int) - ((s + 1 : Nat) : Int))), (7, .int .i64 ((k : Nat) : Int))]) (fun x => useg 58 sb x sp :: H) ?_ (fun d3 hd3 => ?_)
              · refine C_seq ?_
                refine C_region ?_
                refine L_y rfl (y_move rfl) rfl ?_
                refine L_y rfl (y_move rfl) rfl ?_
                refine L_y rfl (y_sub rfl rfl (show _ = ((k - a : Nat) : Int) from by rw [wi64 (by omega) (by omega)]; omega)) rfl ?_
                refine L_y rfl (y_geq rfl rfl) rfl ?_
                refine L_nil ?_
                refine C_cond rfl (fun hc4 => ?_) (fun hc4 => ?_)
                · replace hc4 : 2 ≤ k - a := by have := of_decide_eq_true hc4; omega
                  refine C_seq ?_
                  refine C_region ?_
                  refine L_y rfl (y_move rfl) rfl ?_
                  refine L_y rfl (y_sub rfl rfl (show _ = ((k - 1 : Nat) : Int) from by rw [wi64 (by omega) (by omega)]; omega)) rfl ?_
                  refine L_y rfl (y_assign rfl) rfl ?_
                  refine L_nil ?_
                  refine C_block ?_
                  refine C_loop (ι := Array Nat × Nat) (fun y => [(0, (.slice (some ⟨sb, 0, none⟩) n cap)), (1, .int .i64 ((a : Nat) : Int)), (2, .int .i64 ((b : Nat) : Int)), (8, .int .i64 ((5 : Int) - ((s + 1 : Nat) : Int))), (7, .int .i64 ((k : Nat) : Int)), (9, .int .i64 ((y.2 : Nat) : Int))]) (fun y => useg 58 sb y.1 sp :: H) (fun y => y.1.size = n ∧ y.2 < k ∧ Go.Sort.shiftDown ltN y.2 y.1 = Go.Sort.shiftDown ltN (k - 1) d2) (fun y => y.2) (d2, k - 1) ⟨hsd2, by simp only; omega, rfl⟩ ⟨rfl, rfl, rfl, rfl, rfl, rfl, trivial⟩ ((hsub (.cons_cons _ (.refl _))).trans (hsub_pick [0] rfl)) (fun y hy => ?_)
                  obtain ⟨e1, j⟩ := y
                  obtain ⟨hse, hjk, hre⟩ := hy
                  try simp only at hse hjk hre
                  try dsimp only
                  refine C_seq ?_
                  refine C_seq ?_
                  refine C_region ?_
                  refine L_y rfl (y_move rfl) rfl ?_
                  refine L_y rfl (y_geq rfl rfl) rfl ?_
                  refine L_nil ?_
                  refine C_cond rfl (fun hc5 => ?_) (fun hc5 => ?_)
                  · have hj1 : 1 ≤ j := by have := of_decide_eq_true hc5; omega
                    refine C_skip ?_
                    refine C_seq ?_
                    refine C_block ?_
                    refine C_seq ?_
                    refine C_seq ?_
                    refine C_regionH0 (by kernel_rfl) ?_
                    refine H_y 0 rfl (by kernel_rfl) (by kernel_rfl) (by kernel_rfl) (HSub.refl _) rfl (y_move rfl) rfl ?_
                    refine H_y 1 rfl (by kernel_rfl) (by kernel_rfl) (by kernel_rfl) (HSub.refl _) rfl (y_move rfl) rfl ?_
                    refine H_y 2 rfl (by kernel_rfl) (by kernel_rfl) (by kernel_rfl) (HSub.refl _) rfl (y_indexS rfl rfl Try.underlying63 sz_58 (by omega) (by omega) (ix0 (j))) rfl ?_
                    refine H_y 3 rfl (by kernel_rfl) (by kernel_rfl) (by kernel_rfl) (HSub.refl _) rfl (y_load rfl ag_58 (sees 0 0 rfl) (us_at (by omega))) rfl ?_
                    refine H_y 4 rfl (by kernel_rfl) (by kernel_rfl) (by kernel_rfl) (HSub.refl _) rfl (y_move rfl) rfl ?_
                    refine H_y 5 rfl (by kernel_rfl) (by kernel_rfl) (by kernel_rfl) (HSub.refl _) rfl (y_move rfl) rfl ?_
                    refine H_y 6 rfl (by kernel_rfl) (by kernel_rfl) (by kernel_rfl) (HSub.refl _) rfl (y_sub rfl rfl (show _ = ((j - 1 : Nat) : Int) from by rw [wi64 (by omega) (by omega)]; omega)) rfl ?_
                    refine H_y 7 rfl (by kernel_rfl) (by kernel_rfl) (by kernel_rfl) (HSub.refl _) rfl (y_indexS rfl rfl Try.underlying63 sz_58 (by omega) (by omega) (ix0 (j - 1))) rfl ?_
                    refine H_y 8 rfl (by kernel_rfl) (by kernel_rfl) (by kernel_rfl) (HSub.refl _) rfl (y_load rfl ag_58 (sees 0 0 rfl) (us_at (by omega))) rfl ?_
                    refine H_one 9 rfl (by kernel_rfl) rfl (op_call rfl rfl (fun a w => Try.call108 a w) rfl ?_)
                    refine (less_u (e1[j]!) (e1[j - 1]!)).mono ?_
                    rintro _ _ ⟨rfl, e⟩
                    obtain rfl := e.symm
                    clear e
                    refine ⟨_, rfl, ?_⟩
                    refine ⟨HSub.refl _, ?_⟩
                    refine H_y 10 rfl (by kernel_rfl) (by kernel_rfl) (by kernel_rfl) (HSub.refl _) rfl (y_not rfl) rfl ?_
                    refine H_done (by kernel_rfl) ?_
                    refine C_cond rfl (fun hc6 => ?_) (fun hc6 => ?_)
                    · have hfin2 : Go.Sort.shiftDown ltN j e1 = e1 := sw_stop (.inr (by simpa using hc6))
                      refine C_exit ?_
                      exact ⟨e1, ⟨hse, by rw [if_pos hc4, ← hre, hfin2]⟩, ⟨rfl, rfl, rfl, rfl, rfl, trivial⟩, ((hsub (.cons_cons _ (.refl _))).trans (hsub_pick [0] rfl))⟩
                    · have hl6 : ltN e1[j]! e1[j - 1]! = true := by simpa using hc6
                      refine C_skip ?_
                      refine C_regionH H (by kernel_rfl) ?_
                      refine H_y 0 rfl (by kernel_rfl) (by kernel_rfl) (by kernel_rfl) ((hsub (.cons _ (.refl _)))) rfl (y_move rfl) rfl ?_
                      refine H_y 1 rfl (by kernel_rfl) (by kernel_rfl) (by kernel_rfl) ((hsub (.cons _ (.refl _)))) rfl (y_move rfl) rfl ?_
                      refine H_y 2 rfl (by kernel_rfl) (by kernel_rfl) (by kernel_rfl) ((hsub (.cons _ (.refl _)))) rfl (y_move rfl) rfl ?_
                      refine H_y 3 rfl (by kernel_rfl) (by kernel_rfl) (by kernel_rfl) ((hsub (.cons _ (.refl _)))) rfl (y_move rfl) rfl ?_
                      refine H_y 4 rfl (by kernel_rfl) (by kernel_rfl) (by kernel_rfl) ((hsub (.cons _ (.refl _)))) rfl (y_sub rfl rfl (show _ = ((j - 1 : Nat) : Int) from by rw [wi64 (by omega) (by omega)]; omega)) rfl ?_
                      refine H_y 5 rfl (by kernel_rfl) (by kernel_rfl) (by kernel_rfl) ((hsub (.cons _ (.refl _)))) rfl (y_move rfl) rfl ?_
                      refine H_y 6 rfl (by kernel_rfl) (by kernel_rfl) (by kernel_rfl) ((hsub (.cons _ (.refl _)))) rfl (y_move rfl) rfl ?_
                      refine H_y 7 rfl (by kernel_rfl) (by kernel_rfl) (by kernel_rfl) ((hsub (.cons _ (.refl _)))) rfl (y_sub rfl rfl (show _ = ((j - 1 : Nat) : Int) from by rw [wi64 (by omega) (by omega)]; omega)) rfl ?_
                      refine H_y 8 rfl (by kernel_rfl) (by kernel_rfl) (by kernel_rfl) ((hsub (.cons _ (.refl _)))) rfl (y_indexS rfl rfl Try.underlying63 sz_58 (by omega) (by omega) (ix0 ((j - 1)))) rfl ?_
                      refine H_y 10 rfl (by kernel_rfl) (by kernel_rfl) (by kernel_rfl) ((hsub (.cons _ (.refl _)))) rfl (y_move rfl) rfl ?_
                      refine H_y 11 rfl (by kernel_rfl) (by kernel_rfl) (by kernel_rfl) ((hsub (.cons _ (.refl _)))) rfl (y_move rfl) rfl ?_
                      refine H_y 12 rfl (by kernel_rfl) (by kernel_rfl) (by kernel_rfl) ((hsub (.cons _ (.refl _)))) rfl (y_indexS rfl rfl Try.underlying63 sz_58 (by omega) (by omega) (ix0 (j))) rfl ?_
                      refine H_two 9 13 rfl rfl (by kernel_rfl) rfl rfl ?_ ?_
                      · refine op_y (y_load rfl ag_58 (sees 0 0 rfl) (us_at (by omega))) rfl ?_
                        refine ⟨(hsub (.cons _ (.refl _))), ?_⟩
                        refine H_one 13 rfl (by kernel_rfl) rfl (op_y (y_load rfl ag_58 (sees 0 0 rfl) (us_at (by omega))) rfl ?_)
                        refine ⟨(hsub (.cons _ (.refl _))), ?_⟩
                        refine H_y 14 rfl (by kernel_rfl) (by kernel_rfl) (by kernel_rfl) ((hsub (.cons _ (.refl _)))) rfl (y_indexS rfl rfl Try.underlying63 sz_58 (by omega) (by omega) (ix0 (j))) rfl ?_
                        refine H_one 15 rfl (by kernel_rfl) rfl (op_store1 0 0 rfl rfl rfl sz_58 rfl (us_lt (by omega)) ?_)
                        refine ⟨(hsub (.cons _ (.refl _))), ?_⟩
                        refine H_y 16 rfl (by kernel_rfl) (by kernel_rfl) (by kernel_rfl) ((hsub (.cons _ (.refl _)))) rfl (y_indexS rfl rfl Try.underlying63 sz_58 (by omega) (by omega) (ix0 ((j - 1)))) rfl ?_
                        refine H_one 17 rfl (by kernel_rfl) rfl (op_store1 0 0 rfl rfl rfl sz_58 rfl (by rw [List.length_set]; exact us_lt (by omega)) ?_)
                        refine ⟨(hsub (.cons _ (.refl _))), ?_⟩
                        refine H_done (by kernel_rfl) ?_
                        rw [us_swp (by omega) (by omega)]
                        refine C_region ?_
                        refine L_y rfl (y_move rfl) rfl ?_
                        refine L_y rfl (y_sub rfl rfl (show _ = ((j - 1 : Nat) : Int) from by rw [wi64 (by omega) (by omega)]; omega)) rfl ?_
                        refine L_y rfl (y_assign rfl) rfl ?_
                        refine L_nil ?_
                        exact ⟨(Go.Sort.swp e1 j (j - 1), j - 1), ⟨by simp only; rw [swp_size]; exact hse, by simp only; omega, by simp only; rw [← hre, sw_go hj1 hl6]⟩, by simp only; omega, ⟨rfl, rfl, rfl, rfl, rfl, rfl, trivial⟩, ((hsub (.cons_cons _ (.refl _))).trans (hsub_pick [0] rfl))⟩
                      · refine op_y (y_load rfl ag_58 (sees 0 0 rfl) (us_at (by omega))) rfl ?_
                        refine ⟨(hsub (.cons _ (.refl _))), ?_⟩
                        refine H_one 9 rfl (by kernel_rfl) rfl (op_y (y_load rfl ag_58 (sees 0 0 rfl) (us_at (by omega))) rfl ?_)
                        refine ⟨(hsub (.cons _ (.refl _))), ?_⟩
                        refine H_y 14 rfl (by kernel_rfl) (by kernel_rfl) (by kernel_rfl) ((hsub (.cons _ (.refl _)))) rfl (y_indexS rfl rfl Try.underlying63 sz_58 (by omega) (by omega) (ix0 (j))) rfl ?_
                        refine H_one 15 rfl (by kernel_rfl) rfl (op_store1 0 0 rfl rfl rfl sz_58 rfl (us_lt (by omega)) ?_)
                        refine ⟨(hsub (.cons _ (.refl _))), ?_⟩
                        refine H_y 16 rfl (by kernel_rfl) (by kernel_rfl) (by kernel_rfl) ((hsub (.cons _ (.refl _)))) rfl (y_indexS rfl rfl Try.underlying63 sz_58 (by omega) (by omega) (ix0 ((j - 1)))) rfl ?_
                        refine H_one 17 rfl (by kernel_rfl) rfl (op_store1 0 0 rfl rfl rfl sz_58 rfl (by rw [List.length_set]; exact us_lt (by omega)) ?_)
                        refine ⟨(hsub (.cons _ (.refl _))), ?_⟩
                        refine H_done (by kernel_rfl) ?_
                        rw [us_swp (by omega) (by omega)]
                        refine C_region ?_
                        refine L_y rfl (y_move rfl) rfl ?_
                        refine L_y rfl (y_sub rfl rfl (show _ = ((j - 1 : Nat) : Int) from by rw [wi64 (by omega) (by omega)]; omega)) rfl ?_
                        refine L_y rfl (y_assign rfl) rfl ?_
                        refine L_nil ?_
                        exact ⟨(Go.Sort.swp e1 j (j - 1), j - 1), ⟨by simp only; rw [swp_size]; exact hse, by simp only; omega, by simp only; rw [← hre, sw_go hj1 hl6]⟩, by simp only; omega, ⟨rfl, rfl, rfl, rfl, rfl, rfl, trivial⟩, ((hsub (.cons_cons _ (.refl _))).trans (hsub_pick [0] rfl))⟩
                  · have hj1 : ¬ 1 ≤ j := by have := of_decide_eq_false hc5; omega
                    have hfin2 : Go.Sort.shiftDown ltN j e1 = e1 := sw_stop (.inl (by omega))
                    refine C_exit ?_
                    exact ⟨e1, ⟨hse, by rw [if_pos hc4, ← hre, hfin2]⟩, ⟨rfl, rfl, rfl, rfl, rfl, trivial⟩, ((hsub (.cons_cons _ (.refl _))).trans (hsub_pick [0] rfl))⟩
                · replace hc4 : ¬ 2 ≤ k - a := by have := of_decide_eq_false hc4; omega
                  refine C_skip ?_
                  exact ⟨d2, ⟨hsd2, by rw [if_neg hc4]⟩, ⟨rfl, rfl, rfl, rfl, rfl, trivial⟩, ((hsub (.cons_cons _ (.refl _))).trans (hsub_pick [0] rfl))⟩
              · obtain ⟨hs3, hd3⟩ := hd3
                refine C_seq ?_
                refine C_region ?_
                refine L_y rfl (y_move rfl) rfl ?_
                refine L_y rfl (y_move rfl) rfl ?_
                refine L_y rfl (y_sub rfl rfl (show _ = ((b - k : Nat) : Int) from by rw [wi64 (by omega) (by omega)]; omega)) rfl ?_
                refine L_y rfl (y_geq rfl rfl) rfl ?_
                refine L_nil ?_
                refine C_cond rfl (fun hc7 => ?_) (fun hc7 => ?_)
                · replace hc7 : 2 ≤ b - k := by have := of_decide_eq_true hc7; omega
                  refine C_seq ?_
                  refine C_region ?_
                  refine L_y rfl (y_move rfl) rfl ?_
                  refine L_y rfl (y_add rfl rfl (show _ = ((k + 1 : Nat) : Int) from by rw [wi64 (by omega) (by omega)]; omega)) rfl ?_
                  refine L_y rfl (y_assign rfl) rfl ?_
                  refine L_nil ?_
                  refine C_block ?_
                  refine C_loop (ι := Array Nat × Nat) (fun y => [(0, (.slice (some ⟨sb, 0, none⟩) n cap)), (1, .int .i64 ((a : Nat) : Int)), (2, .int .i64 ((b : Nat) : Int)), (8, .int .i64 ((5 : Int) - ((s + 1 : Nat) : Int))), (7, .int .i64 ((k : Nat) : Int)), (10, .int .i64 ((y.2 : Nat) : Int))]) (fun y => useg 58 sb y.1 sp :: H) (fun y => y.1.size = n ∧ k < y.2 ∧ y.2 ≤ b ∧ Go.Sort.shiftUp ltN b y.2 y.1 = Go.Sort.shiftUp ltN b (k + 1) d3) (fun y => b - y.2) (d3, k + 1) ⟨hs3, by simp only; omega, by simp only; omega, rfl⟩ ⟨rfl, rfl, rfl, rfl, rfl, rfl, trivial⟩ ((hsub (.cons_cons _ (.refl _))).trans (hsub_pick [0] rfl)) (fun y hy => ?_)
                  obtain ⟨e2, j⟩ := y
                  obtain ⟨hse, hjk, hjb, hre⟩ := hy
                  try simp only at hse hjk hjb hre
                  try dsimp only
                  refine C_seq ?_
                  refine C_seq ?_
                  refine C_region ?_
                  refine L_y rfl (y_move rfl) rfl ?_
                  refine L_y rfl (y_move rfl) rfl ?_
                  refine L_y rfl (y_lss rfl rfl) rfl ?_
                  refine L_nil ?_
                  refine C_cond rfl (fun hc8 => ?_) (fun hc8 => ?_)
                  · have hj1 : j < b := by have := of_decide_eq_true hc8; omega
                    refine C_skip ?_
                    refine C_seq ?_
                    refine C_block ?_
                    refine C_seq ?_
                    refine C_seq ?_
                    refine C_regionH0 (by kernel_rfl) ?_
                    refine H_y 0 rfl (by kernel_rfl) (by kernel_rfl) (by kernel_rfl) (HSub.refl _) rfl (y_move rfl) rfl ?_
                    refine H_y 1 rfl (by kernel_rfl) (by kernel_rfl) (by kernel_rfl) (HSub.refl _) rfl (y_move rfl) rfl ?_
                    refine H_y 2 rfl (by kernel_rfl) (by kernel_rfl) (by kernel_rfl) (HSub.refl _) rfl (y_indexS rfl rfl Try.underlying63 sz_58 (by omega) (by omega) (ix0 (j))) rfl ?_
                    refine H_y 3 rfl (by kernel_rfl) (by kernel_rfl) (by kernel_rfl) (HSub.refl _) rfl (y_load rfl ag_58 (sees 0 0 rfl) (us_at (by omega))) rfl ?_
                    refine H_y 4 rfl (by kernel_rfl) (by kernel_rfl) (by kernel_rfl) (HSub.refl _) rfl (y_move rfl) rfl ?_
                    refine H_y 5 rfl (by kernel_rfl) (by kernel_rfl) (by kernel_rfl) (HSub.refl _) rfl (y_move rfl) rfl ?_
                    refine H_y 6 rfl (by kernel_rfl) (by kernel_rfl) (by kernel_rfl) (HSub.refl _) rfl (y_sub rfl rfl (show _ = ((j - 1 : Nat) : Int) from by rw [wi64 (by omega) (by omega)]; omega)) rfl ?_
                    refine H_y 7 rfl (by kernel_rfl) (by kernel_rfl) (by kernel_rfl) (HSub.refl _) rfl (y_indexS rfl rfl Try.underlying63 sz_58 (by omega) (by omega) (ix0 (j - 1))) rfl ?_
                    refine H_y 8 rfl (by kernel_rfl) (by kernel_rfl) (by kernel_rfl) (HSub.refl _) rfl (y_load rfl ag_58 (sees 0 0 rfl) (us_at (by omega))) rfl ?_
                    refine H_one 9 rfl (by kernel_rfl) rfl (op_call rfl rfl (fun a w => Try.call108 a w) rfl ?_)
                    refine (less_u (e2[j]!) (e2[j - 1]!)).mono ?_
                    rintro _ _ ⟨rfl, e⟩
                    obtain rfl := e.symm
                    clear e
                    refine ⟨_, rfl, ?_⟩
                    refine ⟨HSub.refl _, ?_⟩
                    refine H_y 10 rfl (by kernel_rfl) (by kernel_rfl) (by kernel_rfl) (HSub.refl _) rfl (y_not rfl) rfl ?_
                    refine H_done (by kernel_rfl) ?_
                    refine C_cond rfl (fun hc9 => ?_) (fun hc9 => ?_)
                    · have hfin2 : Go.Sort.shiftUp ltN b j e2 = e2 := sp_stop (.inr (by simpa using hc9))
                      refine C_exit ?_
                      exact ⟨(k, e2), ⟨hse, hk1, hk2, pi_go hk hc2 hc3 hd2 hd3 (by rw [if_pos hc7, ← hre, hfin2])⟩, ⟨rfl, rfl, rfl, rfl, rfl, trivial⟩, ((hsub (.cons_cons _ (.refl _))).trans (hsub_pick [0] rfl))⟩
                    · have hl9 : ltN e2[j]! e2[j - 1]! = true := by simpa using hc9
                      refine C_skip ?_
                      refine C_regionH H (by kernel_rfl) ?_
                      refine H_y 0 rfl (by kernel_rfl) (by kernel_rfl) (by kernel_rfl) ((hsub (.cons _ (.refl _)))) rfl (y_move rfl) rfl ?_
                      refine H_y 1 rfl (by kernel_rfl) (by kernel_rfl) (by kernel_rfl) ((hsub (.cons _ (.refl _)))) rfl (y_move rfl) rfl ?_
                      refine H_y 2 rfl (by kernel_rfl) (by kernel_rfl) (by kernel_rfl) ((hsub (.cons _ (.refl _)))) rfl (y_move rfl) rfl ?_
                      refine H_y 3 rfl (by kernel_rfl) (by kernel_rfl) (by kernel_rfl) ((hsub (.cons _ (.refl _)))) rfl (y_move rfl) rfl ?_
                      refine H_y 4 rfl (by kernel_rfl) (by kernel_rfl) (by kernel_rfl) ((hsub (.cons _ (.refl _)))) rfl (y_sub rfl rfl (show _ = ((j - 1 : Nat) : Int) from by rw [wi64 (by omega) (by omega)]; omega)) rfl ?_
                      refine H_y 5 rfl (by kernel_rfl) (by kernel_rfl) (by kernel_rfl) ((hsub (.cons _ (.refl _)))) rfl (y_move rfl) rfl ?_
                      refine H_y 6 rfl (by kernel_rfl) (by kernel_rfl) (by kernel_rfl) ((hsub (.cons _ (.refl _)))) rfl (y_move rfl) rfl ?_
                      refine H_y 7 rfl (by kernel_rfl) (by kernel_rfl) (by kernel_rfl) ((hsub (.cons _ (.refl _)))) rfl (y_sub rfl rfl (show _ = ((j - 1 : Nat) : Int) from by rw [wi64 (by omega) (by omega)]; omega)) rfl ?_
                      refine H_y 8 rfl (by kernel_rfl) (by kernel_rfl) (by kernel_rfl) ((hsub (.cons _ (.refl _)))) rfl (y_indexS rfl rfl Try.underlying63 sz_58 (by omega) (by omega) (ix0 ((j - 1)))) rfl ?_
                      refine H_y 10 rfl (by kernel_rfl) (by kernel_rfl) (by kernel_rfl) ((hsub (.cons _ (.refl _)))) rfl (y_move rfl) rfl ?_
                      refine H_y 11 rfl (by kernel_rfl) (by kernel_rfl) (by kernel_rfl) ((hsub (.cons _ (.refl _)))) rfl (y_move rfl) rfl ?_
                      refine H_y 12 rfl (by kernel_rfl) (by kernel_rfl) (by kernel_rfl) ((hsub (.cons _ (.refl _)))) rfl (y_indexS rfl rfl Try.underlying63 sz_58 (by omega) (by omega) (ix0 (j))) rfl ?_
                      refine H_two 9 13 rfl rfl (by kernel_rfl) rfl rfl ?_ ?_
                      · refine op_y (y_load rfl ag_58 (sees 0 0 rfl) (us_at (by omega))) rfl ?_
                        refine ⟨(hsub (.cons _ (.refl _))), ?_⟩
                        refine H_one 13 rfl (by kernel_rfl) rfl (op_y (y_load rfl ag_58 (sees 0 0 rfl) (us_at (by omega))) rfl ?_)
                        refine ⟨(hsub (.cons _ (.refl _))), ?_⟩
                        refine H_y 14 rfl (by kernel_rfl) (by kernel_rfl) (by kernel_rfl) ((hsub (.cons _ (.refl _)))) rfl (y_indexS rfl rfl Try.underlying63 sz_58 (by omega) (by omega) (ix0 (j))) rfl ?_
                        refine H_one 15 rfl (by kernel_rfl) rfl (op_store1 0 0 rfl rfl rfl sz_58 rfl (us_lt (by omega)) ?_)
                        refine ⟨(hsub (.cons _ (.refl _))), ?_⟩
                        refine H_y 16 rfl (by kernel_rfl) (by kernel_rfl) (by kernel_rfl) ((hsub (.cons _ (.refl _)))) rfl (y_indexS rfl rfl Try.underlying63 sz_58 (by omega) (by omega) (ix0 ((j - 1)))) rfl ?_
                        refine H_one 17 rfl (by kernel_rfl) rfl (op_store1 0 0 rfl rfl rfl sz_58 rfl (by rw [List.length_set]; exact us_lt (by omega)) ?_)
                        refine ⟨(hsub (.cons _ (.refl _))), ?_⟩
                        refine H_done (by kernel_rfl) ?_
                        rw [us_swp (by omega) (by omega)]
                        refine C_region ?_
                        refine L_y rfl (y_move rfl) rfl ?_
                        refine L_y rfl (y_add rfl rfl (show _ = ((j + 1 : Nat) : Int) from by rw [wi64 (by omega) (by omega)]; omega)) rfl ?_
                        refine L_y rfl (y_assign rfl) rfl ?_
                        refine L_nil ?_
                        exact ⟨(Go.Sort.swp e2 j (j - 1), j + 1), ⟨by simp only; rw [swp_size]; exact hse, by simp only; omega, by simp only; omega, by simp only; rw [← hre, sp_go hj1 hl9]⟩, by simp only; omega, ⟨rfl, rfl, rfl, rfl, rfl, rfl, trivial⟩, ((hsub (.cons_cons _ (.refl _))).trans (hsub_pick [0] rfl))⟩
                      · refine op_y (y_load rfl ag_58 (sees 0 0 rfl) (us_at (by omega))) rfl ?_
                        refine ⟨(hsub (.cons _ (.refl _))), ?_⟩
                        refine H_one 9 rfl (by kernel_rfl) rfl (op_y (y_load rfl ag_58 (sees 0 0 rfl) (us_at (by omega))) rfl ?_)
                        refine ⟨(hsub (.cons _ (.refl _))), ?_⟩
                        refine H_y 14 rfl (by kernel_rfl) (by kernel_rfl) (by kernel_rfl) ((hsub (.cons _ (.refl _)))) rfl (y_indexS rfl rfl Try.underlying63 sz_58 (by omega) (by omega) (ix0 (j))) rfl ?_
                        refine H_one 15 rfl (by kernel_rfl) rfl (op_store1 0 0 rfl rfl rfl sz_58 rfl (us_lt (by omega)) ?_)
                        refine ⟨(hsub (.cons _ (.refl _))), ?_⟩
                        refine H_y 16 rfl (by kernel_rfl) (by kernel_rfl) (by kernel_rfl) ((hsub (.cons _ (.refl _)))) rfl (y_indexS rfl rfl Try.underlying63 sz_58 (by omega) (by omega) (ix0 ((j - 1)))) rfl ?_
                        refine H_one 17 rfl (by kernel_rfl) rfl (op_store1 0 0 rfl rfl rfl sz_58 rfl (by rw [List.length_set]; exact us_lt (by omega)) ?_)
                        refine ⟨(hsub (.cons _ (.refl _))), ?_⟩
                        refine H_done (by kernel_rfl) ?_
                        rw [us_swp (by omega) (by omega)]
                        refine C_region ?_
                        refine L_y rfl (y_move rfl) rfl ?_
                        refine L_y rfl (y_add rfl rfl (show _ = ((j + 1 : Nat) : Int) from by rw [wi64 (by omega) (by omega)]; omega)) rfl ?_
                        refine L_y rfl (y_assign rfl) rfl ?_
                        refine L_nil ?_
                        exact ⟨(Go.Sort.swp e2 j (j - 1), j + 1), ⟨by simp only; rw [swp_size]; exact hse, by simp only; omega, by simp only; omega, by simp only; rw [← hre, sp_go hj1 hl9]⟩, by simp only; omega, ⟨rfl, rfl, rfl, rfl, rfl, rfl, trivial⟩, ((hsub (.cons_cons _ (.refl _))).trans (hsub_pick [0] rfl))⟩
                  · have hj1 : ¬ j < b := by have := of_decide_eq_false hc8; omega
                    have hfin2 : Go.Sort.shiftUp ltN b j e2 = e2 := sp_stop (.inl hj1)
                    refine C_exit ?_
                    exact ⟨(k, e2), ⟨hse, hk1, hk2, pi_go hk hc2 hc3 hd2 hd3 (by rw [if_pos hc7, ← hre, hfin2])⟩, ⟨rfl, rfl, rfl, rfl, rfl, trivial⟩, ((hsub (.cons_cons _ (.refl _))).trans (hsub_pick [0] rfl))⟩
                · replace hc7 : ¬ 2 ≤ b - k := by have := of_decide_eq_false hc7; omega
                  refine C_skip ?_
                  exact ⟨(k, d3), ⟨hs3, hk1, hk2, pi_go hk hc2 hc3 hd2 hd3 (by rw [if_neg hc7])⟩, ⟨rfl, rfl, rfl, rfl, rfl, trivial⟩, ((hsub (.cons_cons _ (.refl _))).trans (hsub_pick [0] rfl))⟩
    · obtain ⟨k, d4⟩ := z
      obtain ⟨hs4, hk1, hk2, hr4⟩ := hz
      try simp only at hs4 hk1 hk2 hr4
      try dsimp only
      refine C_region ?_
      refine L_y rfl (y_move rfl) rfl ?_
      refine L_y rfl (y_add rfl rfl (show _ = ((5 : Int) - ((s + 1 : Nat) : Int) + 1) from by rw [wi64 (by omega) (by omega)])) rfl ?_
      refine L_y rfl (y_assign rfl) rfl ?_
      refine L_nil ?_
      exact ⟨(d4, k, s), ⟨hs4, by simp only; omega, by simp only; omega, by simp only; omega, by simp only; rw [← hr1, hr4]⟩, by simp only; omega, ⟨rfl, rfl, rfl, rfl, by show some _ = some _; rw [show ((5 : Int) - (s : Int)) = 5 - ((s + 1 : Nat) : Int) + 1 by omega], trivial⟩, ((hsub (.cons_cons _ (.refl _))).trans (hsub_pick [0] rfl))⟩
  · obtain rfl : s = 0 := by have := of_decide_eq_false hc0; omega
    refine C_exit ?_
    refine C_seq ?_
    refine C_region ?_
    refine L_y rfl (y_assign rfl) rfl ?_
    refine L_nil ?_
    refine C_ret ?_
    refine B_ret (rv_tmp rfl rv_nil) ((hsub (.cons_cons _ (.refl _))).trans (hsub_pick [0] rfl)) ?_
    rw [← hr1]
    first
    | (rw [pi_true hk hc2]; exact ⟨rfl, rfl⟩)
    | (rw [pi_short hk hc2 hc3]; exact ⟨rfl, rfl⟩)
    | exact ⟨rfl, rfl⟩

end Go.Proofs.Ytaeooiogjhkjfaa

