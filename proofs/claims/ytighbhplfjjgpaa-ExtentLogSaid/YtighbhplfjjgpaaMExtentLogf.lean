/- Own work: texts G7W, E2W, E3W, E9W, Le, O5W, Rw, Rg, Rs, put together. -/
import Derived.ShutString
import Derived.OpenShut
import Derived.Carry
import Derived.Deep.Slices
import Derived.Test.YtighbhplfjjgpaaMExtentLoge
/- walks (own work; the walks' lines by a program of this repo). -/
set_option linter.unusedVariables false
set_option linter.unusedSimpArgs false
set_option maxRecDepth 20000
namespace Go.Proofs.Ytighbhplfjjgpaa
open Go.Sl
attribute [local irreducible] BodyQ WpC WpL WpS WpH OpW FnS



set_option maxHeartbeats 4000000 in

theorem pdq_step {w0 : World} {H : Hp} {sb n cap : Nat} {sp : List Value} (hn : n < 65536) (m : Nat) (ih : ∀ (a b limit : Nat) (d : Array Nat), b - a < m → d.size = n → limit ≤ 64 → a ≤ b → b ≤ n → Go.Sort.Below ltN a b d → FnS Try.prog w0 72 #[(.slice (some ⟨sb, 0, none⟩) n cap), .int .i64 ((a : Nat) : Int), .int .i64 ((b : Nat) : Int), .int .i64 ((limit : Nat) : Int)] (useg 48 sb d sp :: H) (fun e H' => ∃ d', Srt a b d d' ∧ e = .returned (.tuple #[]) ∧ H' = useg 48 sb d' sp :: H)) (a b limit : Nat) (d : Array Nat) (hm : b - a ≤ m) (hd : d.size = n) (hlim : limit ≤ 64) (hab : a ≤ b) (hb : b ≤ n) (hB : Go.Sort.Below ltN a b d) : FnS Try.prog w0 72 #[(.slice (some ⟨sb, 0, none⟩) n cap), .int .i64 ((a : Nat) : Int), .int .i64 ((b : Nat) : Int), .int .i64 ((limit : Nat) : Int)] (useg 48 sb d sp :: H) (fun e H' => ∃ d', Srt a b d d' ∧ e = .returned (.tuple #[]) ∧ H' = useg 48 sb d' sp :: H) := by
  refine FnS_intro (n := 134) (rs := []) (vs := [(.slice (some ⟨sb, 0, none⟩) n cap), .int .i64 ((a : Nat) : Int), .int .i64 ((b : Nat) : Int), .int .i64 ((limit : Nat) : Int)]) Try.func72 rfl Try.ntmps72 rfl rfl ?_
  refine C_seq (C_region (LY rfl (y_assign rfl) (L_nil (C_seq (C_region (LY rfl (y_assign rfl) (L_nil (C_block ?_))))))))
  refine C_loop (ι := Array Nat × Nat × Nat × Nat × Bool × Bool) (fun x => [(0, (.slice (some ⟨sb, 0, none⟩) n cap)), (1, .int .i64 ((x.2.1 : Nat) : Int)), (2, .int .i64 ((x.2.2.1 : Nat) : Int)), (3, .int .i64 ((x.2.2.2.1 : Nat) : Int)), (8, .bool x.2.2.2.2.1), (9, .bool x.2.2.2.2.2)]) (fun x => useg 48 sb x.1 sp :: H) (fun x => x.1.size = n ∧ x.2.1 ≤ x.2.2.1 ∧ x.2.2.1 ≤ n ∧ x.2.2.2.1 ≤ 64 ∧ Go.Sort.Below ltN x.2.1 x.2.2.1 x.1 ∧ x.2.2.1 - x.2.1 ≤ m ∧ ∀ R, Go.Sort.PermIn x.2.1 x.2.2.1 x.1 R → Go.Sort.SortedIn ltN x.2.1 x.2.2.1 R → Srt a b d R) (fun x => x.2.2.1 - x.2.1) (d, a, b, limit, true, true) ⟨hd, hab, hb, hlim, hB, hm, fun R hR hs => ⟨hR, hs⟩⟩ ⟨rfl, rfl, rfl, rfl, rfl, rfl, trivial⟩ ((hsub (.cons_cons _ (.refl _))).trans (hsub_pick [0] rfl)) (fun x hx => ?_)
  obtain ⟨d1, a1, b1, l1, wb, wp⟩ := x
  obtain ⟨hs1, hab1, hb1, hl1, hB1, hm1, hk⟩ := hx
  try simp only at hs1 hab1 hb1 hl1 hB1 hm1 hk
  try dsimp only
  refine C_block (C_seq (C_region (LY rfl (y_move rfl) (LY rfl (y_move rfl) ?_))))
  refine LY rfl (y_sub rfl rfl (show _ = ((b1 - a1 : Nat) : Int) from by rw [wi64 (by omega) (by omega)]; omega)) ?_
  refine LY rfl (y_assign rfl) (L_nil (C_seq (C_seq (C_region (LY rfl (y_move rfl) ?_)))))
  refine LY rfl (y_leq rfl rfl) ?_
  refine L_nil ?_
  refine C_cond rfl (fun hc0 => ?_) (fun hc0 => ?_)
  · replace hc0 : b1 - a1 ≤ 12 := by have := of_decide_eq_true hc0; omega
    have hfin := Go.Sort.insertionSort_holds swo_N d1 a1 b1 hab1 (by omega)
    refine C_seq (C_region (LY rfl (y_move rfl) (LY rfl (y_move rfl) (LY rfl (y_move rfl) ?_))))
    refine L_op rfl (op_call rfl rfl (fun a w => Try.call83 a w) rfl ?_)
    refine (insert_u d1 hs1 (by omega) a1 b1 hab1 hb1).mono ?_
    rintro _ _ ⟨rfl, rfl⟩
    refine ⟨_, rfl, ?_⟩
    refine L_nil (C_ret ?_)
    refine B_ret rv_nil ((hsub (.cons_cons _ (.refl _))).trans (hsub_pick [0] rfl)) ?_
    exact ⟨_, hk _ hfin.1 hfin.2, rfl, rfl⟩
  · replace hc0 : 12 < b1 - a1 := by have := of_decide_eq_false hc0; omega
    refine C_skip (C_seq (C_seq (C_region (LY rfl (y_move rfl) (LY rfl (y_eqi rfl rfl) (L_nil ?_))))))
    refine C_cond rfl (fun hc1 => ?_) (fun hc1 => ?_)
    · have hfin := Go.Sort.heapSort_holds swo_N d1 a1 b1 hab1 (by omega)
      refine C_seq (C_region (LY rfl (y_move rfl) (LY rfl (y_move rfl) (LY rfl (y_move rfl) ?_))))
      refine L_op rfl (op_call rfl rfl (fun a w => Try.call84 a w) rfl ?_)
      refine (heap_u d1 hs1 (by omega) a1 b1 (by omega) hb1).mono ?_
      rintro _ _ ⟨rfl, rfl⟩
      refine ⟨_, rfl, ?_⟩
      refine L_nil (C_ret ?_)
      refine B_ret rv_nil ((hsub (.cons_cons _ (.refl _))).trans (hsub_pick [0] rfl)) ?_
      exact ⟨_, hk _ hfin.1 hfin.2, rfl, rfl⟩
    · replace hc1 : ¬ l1 = 0 := by have := of_decide_eq_false hc1; omega
      refine C_skip ?_
      refine C_cutG (ι := Array Nat × Nat) (fun y => Go.Sort.PermIn a1 b1 d1 y.1 ∧ y.2 ≤ 64) (fun y => [(0, (.slice (some ⟨sb, 0, none⟩) n cap)), (1, .int .i64 ((a1 : Nat) : Int)), (2, .int .i64 ((b1 : Nat) : Int)), (3, .int .i64 ((y.2 : Nat) : Int)), (8, .bool wb), (9, .bool wp), (10, .int .i64 ((b1 - a1 : Nat) : Int))]) (fun y => useg 48 sb y.1 sp :: H) ?_ (fun y hy => ?_)
      · refine C_seq (C_region (LY rfl (y_move rfl) (LY rfl (y_not rfl) (L_nil ?_))))
        refine C_cond rfl (fun hc2 => ?_) (fun hc2 => ?_)
        · skip
          refine C_seq (C_region (LY rfl (y_move rfl) (LY rfl (y_move rfl) (LY rfl (y_move rfl) ?_))))
          refine L_op rfl (op_call rfl rfl (fun a w => Try.call85 a w) rfl ?_)
          refine (break_u d1 hs1 hn a1 b1 hc0 hb1).mono ?_
          rintro _ _ ⟨e1, hpe, rfl, rfl⟩
          refine ⟨_, rfl, ?_⟩
          refine L_nil (C_region (LY rfl (y_move rfl) ?_))
          refine LY rfl (y_sub rfl rfl (show _ = ((l1 - 1 : Nat) : Int) from by rw [wi64 (by omega) (by omega)]; omega)) ?_
          refine LY rfl (y_assign rfl) (L_nil ?_)
          exact ⟨(e1, l1 - 1), ⟨hpe, by simp only; omega⟩, ⟨rfl, rfl, rfl, rfl, rfl, rfl, rfl, trivial⟩, ((hsub (.cons_cons _ (.refl _))).trans (hsub_pick [0] rfl))⟩
        · skip
          refine C_skip ?_
          exact ⟨(d1, l1), ⟨Go.Sort.permIn_refl _ _ _, hl1⟩, ⟨rfl, rfl, rfl, rfl, rfl, rfl, rfl, trivial⟩, ((hsub (.cons_cons _ (.refl _))).trans (hsub_pick [0] rfl))⟩
      · obtain ⟨d2, l2⟩ := y
        obtain ⟨hp2, hl2⟩ := hy
        try simp only at hp2 hl2
        try dsimp only
        have hs2 : d2.size = n := by rw [hp2.1]; exact hs1
        refine C_seq (C_region (LY rfl (y_move rfl) (LY rfl (y_move rfl) (LY rfl (y_move rfl) ?_))))
        refine L_op rfl (op_call rfl rfl (fun a w => Try.call86 a w) rfl ?_)
        refine (choose_u d2 hs2 (by omega) a1 b1 hc0 hb1).mono ?_
        rintro _ _ ⟨p, h, hpa, hpb, rfl, rfl⟩
        refine ⟨_, rfl, ?_⟩
        refine LY rfl (y_move rfl) (LY rfl (y_extract rfl rfl) (LY rfl (y_extract rfl rfl) (LY rfl (y_assign rfl) (LY rfl (y_assign rfl) (L_nil ?_)))))
        refine C_cutG (ι := Array Nat × Nat × Int) (fun y => Go.Sort.PermIn a1 b1 d1 y.1 ∧ a1 ≤ y.2.1 ∧ y.2.1 < b1) (fun y => [(0, (.slice (some ⟨sb, 0, none⟩) n cap)), (1, .int .i64 ((a1 : Nat) : Int)), (2, .int .i64 ((b1 : Nat) : Int)), (3, .int .i64 ((l2 : Nat) : Int)), (8, .bool wb), (9, .bool wp), (10, .int .i64 ((b1 - a1 : Nat) : Int)), (11, .int .i64 ((y.2.1 : Nat) : Int)), (12, .int .i64 y.2.2)]) (fun y => useg 48 sb y.1 sp :: H) ?_ (fun y hy => ?_)
        · refine C_seq (C_region (LY rfl (y_move rfl) (LY rfl (y_eqi rfl rfl) (L_nil ?_))))
          refine C_cond rfl (fun hc3 => ?_) (fun hc3 => ?_)
          · skip
            refine C_seq (C_region (LY rfl (y_move rfl) (LY rfl (y_move rfl) (LY rfl (y_move rfl) ?_))))
            refine L_op rfl (op_call rfl rfl (fun a w => Try.call87 a w) rfl ?_)
            refine (reverse_u d2 hs2 (by omega) a1 b1 (by omega) hb1).mono ?_
            rintro _ _ ⟨rfl, rfl⟩
            refine ⟨_, rfl, ?_⟩
            refine L_nil (C_seq (C_region (LY rfl (y_move rfl) ?_)))
            refine LY rfl (y_sub rfl rfl (show _ = ((b1 - 1 : Nat) : Int) from by rw [wi64 (by omega) (by omega)]; omega)) ?_
            refine LY rfl (y_move rfl) (LY rfl (y_move rfl) ?_)
            refine LY rfl (y_sub rfl rfl (show _ = ((p - a1 : Nat) : Int) from by rw [wi64 (by omega) (by omega)]; omega)) ?_
            refine LY rfl (y_sub rfl rfl (show _ = (((b1 - 1) - (p - a1) : Nat) : Int) from by rw [wi64 (by omega) (by omega)]; omega)) ?_
            refine LY rfl (y_assign rfl) (L_nil (C_region (LY rfl (y_assign rfl) (L_nil ?_))))
            exact ⟨(Go.Sort.reverseRange d2 a1 b1, (b1 - 1) - (p - a1), 1), ⟨Go.Sort.permIn_trans _ _ _ _ _ hp2 (Go.Sort.reverseRange_holds d2 a1 b1 hab1 (by omega)), by simp only; omega, by simp only; omega⟩, ⟨rfl, rfl, rfl, rfl, rfl, rfl, rfl, rfl, rfl, trivial⟩, ((hsub (.cons_cons _ (.refl _))).trans (hsub_pick [0] rfl))⟩
          · skip
            refine C_skip ?_
            exact ⟨(d2, p, h), ⟨hp2, hpa, hpb⟩, ⟨rfl, rfl, rfl, rfl, rfl, rfl, rfl, rfl, rfl, trivial⟩, ((hsub (.cons_cons _ (.refl _))).trans (hsub_pick [0] rfl))⟩
        · clear hpa hpb p h
          obtain ⟨d3, p, h⟩ := y
          obtain ⟨hp3, hpa, hpb⟩ := hy
          try simp only at hp3 hpa hpb
          try dsimp only
          have hs3 : d3.size = n := by rw [hp3.1]; exact hs1
          have hB3 : Go.Sort.Below ltN a1 b1 d3 := hB1.perm (by omega) hp3
          refine C_cutG (ι := Array Nat) (fun y => Go.Sort.PermIn a1 b1 d1 y) (fun y => [(0, (.slice (some ⟨sb, 0, none⟩) n cap)), (1, .int .i64 ((a1 : Nat) : Int)), (2, .int .i64 ((b1 : Nat) : Int)), (3, .int .i64 ((l2 : Nat) : Int)), (8, .bool wb), (9, .bool wp), (10, .int .i64 ((b1 - a1 : Nat) : Int)), (11, .int .i64 ((p : Nat) : Int)), (12, .int .i64 h)]) (fun y => useg 48 sb y sp :: H) ?_ (fun d4 hd4 => ?_)
          · refine C_seq (C_region (LY rfl (y_move rfl) (LY rfl (y_move rfl) ?_)))
            refine L_case 62 rfl (fun hg15_2 => ?_) (fun hg15_2 => ?_)
            · skip
              refine LY rfl (y_move rfl) (LY rfl (y_pick_t rfl rfl) (LY rfl (y_move rfl) ?_))
              refine L_case 65 rfl (fun hg15_5 => ?_) (fun hg15_5 => ?_)
              · skip
                refine LY rfl (y_move rfl) (LY rfl (y_eqi rfl rfl) (LY rfl (y_pick_t rfl rfl) (L_nil ?_)))
                refine C_cond rfl (fun hc4 => ?_) (fun hc4 => ?_)
                · skip
                  refine C_seq (C_region (LY rfl (y_move rfl) (LY rfl (y_move rfl) (LY rfl (y_move rfl) ?_))))
                  refine L_op rfl (op_call rfl rfl (fun a w => Try.call88 a w) rfl ?_)
                  refine (partial_u d3 hs3 (by omega) a1 b1 (by omega) hb1).mono ?_
                  rintro _ _ ⟨rfl, rfl⟩
                  refine ⟨_, rfl, ?_⟩
                  refine L_nil ?_
                  refine C_cond rfl (fun hc5 => ?_) (fun hc5 => ?_)
                  · have hpi := Go.Sort.partialInsertionSort_holds swo_N d3 a1 b1 (by omega) (by omega) hB3
                    have hfin : Go.Sort.PermIn a1 b1 d1 (Go.Sort.partialInsertionSort ltN d3 a1 b1).1 ∧ Go.Sort.SortedIn ltN a1 b1 (Go.Sort.partialInsertionSort ltN d3 a1 b1).1 := ⟨Go.Sort.permIn_trans _ _ _ _ _ hp3 hpi.1, hpi.2 hc5⟩
                    refine C_ret ?_
                    refine B_ret rv_nil ((hsub (.cons_cons _ (.refl _))).trans (hsub_pick [0] rfl)) ?_
                    exact ⟨_, hk _ hfin.1 hfin.2, rfl, rfl⟩
                  · skip
                    refine C_skip ?_
                    exact ⟨(Go.Sort.partialInsertionSort ltN d3 a1 b1).1, (Go.Sort.permIn_trans _ _ _ _ _ hp3 (Go.Sort.partialInsertionSort_holds swo_N d3 a1 b1 (by omega) (by omega) hB3).1), ⟨rfl, rfl, rfl, rfl, rfl, rfl, rfl, rfl, rfl, trivial⟩, ((hsub (.cons_cons _ (.refl _))).trans (hsub_pick [0] rfl))⟩
                · skip
                  refine C_skip ?_
                  exact ⟨d3, hp3, ⟨rfl, rfl, rfl, rfl, rfl, rfl, rfl, rfl, rfl, trivial⟩, ((hsub (.cons_cons _ (.refl _))).trans (hsub_pick [0] rfl))⟩
              · skip
                refine L_skip rfl rfl (L_skip rfl rfl (LY rfl (y_pick_f rfl rfl) (L_nil (C_cond_f rfl (C_skip ?_)))))
                exact ⟨d3, hp3, ⟨rfl, rfl, rfl, rfl, rfl, rfl, rfl, rfl, rfl, trivial⟩, ((hsub (.cons_cons _ (.refl _))).trans (hsub_pick [0] rfl))⟩
            · skip
              refine L_skip rfl rfl (LY rfl (y_pick_f rfl rfl) (LY rfl (y_move rfl) (L_skip rfl rfl (L_skip rfl rfl (LY rfl (y_pick_f rfl rfl) (L_nil (C_cond_f rfl (C_skip ?_))))))))
              exact ⟨d3, hp3, ⟨rfl, rfl, rfl, rfl, rfl, rfl, rfl, rfl, rfl, trivial⟩, ((hsub (.cons_cons _ (.refl _))).trans (hsub_pick [0] rfl))⟩
          · have hp4 : Go.Sort.PermIn a1 b1 d1 d4 := hd4
            have hs4 : d4.size = n := by rw [hp4.1]; exact hs1
            have hB4 : Go.Sort.Below ltN a1 b1 d4 := hB1.perm (by omega) hp4
            refine C_seq (C_seq ?_)
            refine C_regionH0 (by kernel_rfl) ?_
            refine HY 0 rfl (HSub.refl _) rfl (y_move rfl) ?_
            refine HY 1 rfl (HSub.refl _) rfl (y_gtr rfl rfl) ?_
            refine HY 2 rfl (HSub.refl _) rfl (y_move rfl) ?_
            refine H_case 75 rfl (fun hg17_3 => ?_) (fun hg17_3 => ?_)
            · have h0 : 0 < a1 := by have := of_decide_eq_true hg17_3; omega
              refine HY 3 rfl (HSub.refl _) rfl (y_move rfl) ?_
              refine HY 4 rfl (HSub.refl _) rfl (y_move rfl) ?_
              refine HY 5 rfl (HSub.refl _) rfl (y_sub rfl rfl (show _ = ((a1 - 1 : Nat) : Int) from by rw [wi64 (by omega) (by omega)]; omega)) ?_
              refine HY 6 rfl (HSub.refl _) rfl (y_indexS rfl rfl Try.underlying33 sz_48 (by omega) (by omega) (ix0 (a1 - 1))) ?_
              refine HY 7 rfl (HSub.refl _) rfl (y_load rfl ag_48 (sees 0 0 rfl) (us_at (by omega))) ?_
              refine HY 8 rfl (HSub.refl _) rfl (y_move rfl) ?_
              refine HY 9 rfl (HSub.refl _) rfl (y_move rfl) ?_
              refine HY 10 rfl (HSub.refl _) rfl (y_indexS rfl rfl Try.underlying33 sz_48 (by omega) (by omega) (ix0 (p))) ?_
              refine HY 11 rfl (HSub.refl _) rfl (y_load rfl ag_48 (sees 0 0 rfl) (us_at (by omega))) ?_
              refine H_one 12 rfl (by kernel_rfl) rfl (op_call rfl rfl (fun a w => Try.call89 a w) rfl ?_)
              refine (less_u (d4[a1 - 1]!) (d4[p]!)).mono ?_
              rintro _ _ ⟨rfl, e⟩
              obtain rfl := e.symm
              clear e
              refine ⟨_, rfl, ?_⟩
              refine ⟨HSub.refl _, ?_⟩
              refine HY 13 rfl (HSub.refl _) rfl (y_not rfl) ?_
              refine HY 14 rfl (HSub.refl _) rfl (y_pick_t rfl rfl) ?_
              refine H_done (by kernel_rfl) ?_
              refine C_cond rfl (fun hc6 => ?_) (fun hc6 => ?_)
              · have hnl : ltN d4[a1 - 1]! d4[p]! = false := by simpa using hc6
                refine C_seq (C_region (LY rfl (y_move rfl) (LY rfl (y_move rfl) (LY rfl (y_move rfl) (LY rfl (y_move rfl) ?_)))))
                refine L_op rfl (op_call rfl rfl (fun a w => Try.call90 a w) rfl ?_)
                refine (parteq_u d4 hs4 (by omega) a1 b1 p hpa hpb hb1).mono ?_
                rintro _ _ ⟨rfl, rfl⟩
                obtain ⟨⟨mid, d5⟩, hx⟩ : ∃ z, z = Go.Sort.partitionEqual ltN d4 a1 b1 p := ⟨_, rfl⟩
                rw [← hx]
                obtain ⟨q1, q2, q3, q4, q5⟩ := Go.Sort.round_eq swo_N (Go.Sort.partitionEqual_holds ltN) h0 hpa hpb (by omega) hB4 hnl hx.symm
                try dsimp only
                refine ⟨_, rfl, ?_⟩
                refine LY rfl (y_assign rfl) (L_nil (C_seq (C_region (LY rfl (y_move rfl) (LY rfl (y_assign rfl) (L_nil (C_exit ?_)))))))
                exact ⟨(d5, mid, b1, l2, wb, wp), ⟨by simp only; omega, q2, hb1, hl2, q4, by simp only; omega, fun R hR hs => hk R (Go.Sort.permIn_trans _ _ _ _ _ hp4 (q5 R hR hs).1) (q5 R hR hs).2⟩, by simp only; omega, ⟨rfl, rfl, rfl, rfl, rfl, rfl, trivial⟩, ((hsub (.cons_cons _ (.refl _))).trans (hsub_pick [0] rfl))⟩
              · skip
                refine C_skip (C_seq (C_region (LY rfl (y_move rfl) (LY rfl (y_move rfl) (LY rfl (y_move rfl) (LY rfl (y_move rfl) ?_))))))
                refine L_op rfl (op_call rfl rfl (fun a w => Try.call91 a w) rfl ?_)
                refine (part_u d4 hs4 (by omega) a1 b1 p hpa hpb hb1).mono ?_
                rintro _ _ ⟨rfl, rfl⟩
                obtain ⟨⟨mid, ap, d5⟩, hx⟩ : ∃ z, z = Go.Sort.partition ltN d4 a1 b1 p := ⟨_, rfl⟩
                rw [← hx]
                obtain ⟨q1, q2, q3, q4, q5, q6, q7⟩ := Go.Sort.round_part swo_N (Go.Sort.partition_holds ltN) hpa hpb (by omega) hB4 hx.symm
                try dsimp only
                refine ⟨_, rfl, ?_⟩
                refine LY rfl (y_move rfl) (LY rfl (y_extract rfl rfl) (LY rfl (y_extract rfl rfl) (LY rfl (y_assign rfl) (LY rfl (y_assign rfl) (L_nil (C_seq (C_region (LY rfl (y_move rfl) (LY rfl (y_assign rfl) (L_nil (C_seq (C_region (LY rfl (y_move rfl) (LY rfl (y_move rfl) ?_))))))))))))))
                refine LY rfl (y_sub rfl rfl (show _ = ((mid - a1 : Nat) : Int) from by rw [wi64 (by omega) (by omega)]; omega)) ?_
                refine LY rfl (y_move rfl) (LY rfl (y_move rfl) ?_)
                refine LY rfl (y_sub rfl rfl (show _ = ((b1 - mid : Nat) : Int) from by rw [wi64 (by omega) (by omega)]; omega)) ?_
                refine LY rfl (y_assign rfl) (LY rfl (y_assign rfl) (L_nil (C_seq (C_region (LY rfl (y_move rfl) ?_)))))
                refine LY rfl (y_quo rfl rfl (by omega) (show _ = (((b1 - a1) / 8 : Nat) : Int) from by rw [Int.tdiv_eq_ediv_of_nonneg (by omega), wi64 (by omega) (by omega)]; omega)) ?_
                refine LY rfl (y_assign rfl) (L_nil (C_seq (C_region (LY rfl (y_move rfl) (LY rfl (y_move rfl) (LY rfl (y_lss rfl rfl) (L_nil ?_)))))))
                refine C_cond rfl (fun hc7 => ?_) (fun hc7 => ?_)
                · skip
                  refine C_seq (C_region (LY rfl (y_move rfl) (LY rfl (y_move rfl) ?_)))
                  refine LY rfl (y_geq rfl rfl) ?_
                  refine LY rfl (y_assign rfl) (L_nil (C_seq (C_region (LY rfl (y_move rfl) (LY rfl (y_move rfl) (LY rfl (y_move rfl) (LY rfl (y_move rfl) ?_)))))))
                  refine L_op rfl (op_call rfl rfl (fun a w => Try.call72 a w) rfl ?_)
                  refine (ih a1 mid l2 d5 (by omega) (by omega) hl2 (by omega) (by omega) q4).mono ?_
                  rintro _ _ ⟨L, hL, rfl, rfl⟩
                  refine ⟨_, rfl, ?_⟩
                  refine L_nil (C_region (LY rfl (y_move rfl) ?_))
                  refine LY rfl (y_add rfl rfl (show _ = ((mid + 1 : Nat) : Int) from by rw [wi64 (by omega) (by omega)]; omega)) ?_
                  refine LY rfl (y_assign rfl) (L_nil ?_)
                  exact ⟨(L, mid + 1, b1, l2, _, ap), ⟨by simp only; rw [hL.1.1]; omega, by simp only; omega, hb1, hl2, (q6 L hL.1 hL.2).1, by simp only; omega, fun R hR hs => hk R (Go.Sort.permIn_trans _ _ _ _ _ hp4 ((q6 L hL.1 hL.2).2 R hR hs).1) ((q6 L hL.1 hL.2).2 R hR hs).2⟩, by simp only; omega, ⟨rfl, rfl, rfl, rfl, rfl, rfl, trivial⟩, ((hsub (.cons_cons _ (.refl _))).trans (hsub_pick [0] rfl))⟩
                · skip
                  refine C_seq (C_region (LY rfl (y_move rfl) (LY rfl (y_move rfl) ?_)))
                  refine LY rfl (y_geq rfl rfl) ?_
                  refine LY rfl (y_assign rfl) (L_nil (C_seq (C_region (LY rfl (y_move rfl) (LY rfl (y_move rfl) ?_)))))
                  refine LY rfl (y_add rfl rfl (show _ = ((mid + 1 : Nat) : Int) from by rw [wi64 (by omega) (by omega)]; omega)) ?_
                  refine LY rfl (y_move rfl) (LY rfl (y_move rfl) ?_)
                  refine L_op rfl (op_call rfl rfl (fun a w => Try.call72 a w) rfl ?_)
                  refine (ih (mid + 1) b1 l2 d5 (by omega) (by omega) hl2 (by omega) (by omega) q5).mono ?_
                  rintro _ _ ⟨L, hL, rfl, rfl⟩
                  refine ⟨_, rfl, ?_⟩
                  refine L_nil (C_region (LY rfl (y_move rfl) (LY rfl (y_assign rfl) (L_nil ?_))))
                  exact ⟨(L, a1, mid, l2, _, ap), ⟨by simp only; rw [hL.1.1]; omega, q1, by simp only; omega, hl2, (q7 L hL.1 hL.2).1, by simp only; omega, fun R hR hs => hk R (Go.Sort.permIn_trans _ _ _ _ _ hp4 ((q7 L hL.1 hL.2).2 R hR hs).1) ((q7 L hL.1 hL.2).2 R hR hs).2⟩, by simp only; omega, ⟨rfl, rfl, rfl, rfl, rfl, rfl, trivial⟩, ((hsub (.cons_cons _ (.refl _))).trans (hsub_pick [0] rfl))⟩
            · skip
              refine HK 3 rfl (HSub.refl _) rfl ?_
              refine HK 4 rfl (HSub.refl _) rfl ?_
              refine HK 5 rfl (HSub.refl _) rfl ?_
              refine HK 6 rfl (HSub.refl _) rfl ?_
              refine HK 7 rfl (HSub.refl _) rfl ?_
              refine HK 8 rfl (HSub.refl _) rfl ?_
              refine HK 9 rfl (HSub.refl _) rfl ?_
              refine HK 10 rfl (HSub.refl _) rfl ?_
              refine HK 11 rfl (HSub.refl _) rfl ?_
              refine HK 12 rfl (HSub.refl _) rfl ?_
              refine HK 13 rfl (HSub.refl _) rfl ?_
              refine HY 14 rfl (HSub.refl _) rfl (y_pick_f rfl rfl) ?_
              refine H_done (by kernel_rfl) ?_
              refine C_cond_f rfl (C_skip (C_seq (C_region (LY rfl (y_move rfl) (LY rfl (y_move rfl) (LY rfl (y_move rfl) (LY rfl (y_move rfl) ?_)))))))
              refine L_op rfl (op_call rfl rfl (fun a w => Try.call91 a w) rfl ?_)
              refine (part_u d4 hs4 (by omega) a1 b1 p hpa hpb hb1).mono ?_
              rintro _ _ ⟨rfl, rfl⟩
              obtain ⟨⟨mid, ap, d5⟩, hx⟩ : ∃ z, z = Go.Sort.partition ltN d4 a1 b1 p := ⟨_, rfl⟩
              rw [← hx]
              obtain ⟨q1, q2, q3, q4, q5, q6, q7⟩ := Go.Sort.round_part swo_N (Go.Sort.partition_holds ltN) hpa hpb (by omega) hB4 hx.symm
              try dsimp only
              refine ⟨_, rfl, ?_⟩
              refine LY rfl (y_move rfl) (LY rfl (y_extract rfl rfl) (LY rfl (y_extract rfl rfl) (LY rfl (y_assign rfl) (LY rfl (y_assign rfl) (L_nil (C_seq (C_region (LY rfl (y_move rfl) (LY rfl (y_assign rfl) (L_nil (C_seq (C_region (LY rfl (y_move rfl) (LY rfl (y_move rfl) ?_))))))))))))))
              refine LY rfl (y_sub rfl rfl (show _ = ((mid - a1 : Nat) : Int) from by rw [wi64 (by omega) (by omega)]; omega)) ?_
              refine LY rfl (y_move rfl) (LY rfl (y_move rfl) ?_)
              refine LY rfl (y_sub rfl rfl (show _ = ((b1 - mid : Nat) : Int) from by rw [wi64 (by omega) (by omega)]; omega)) ?_
              refine LY rfl (y_assign rfl) (LY rfl (y_assign rfl) (L_nil (C_seq (C_region (LY rfl (y_move rfl) ?_)))))
              refine LY rfl (y_quo rfl rfl (by omega) (show _ = (((b1 - a1) / 8 : Nat) : Int) from by rw [Int.tdiv_eq_ediv_of_nonneg (by omega), wi64 (by omega) (by omega)]; omega)) ?_
              refine LY rfl (y_assign rfl) (L_nil (C_seq (C_region (LY rfl (y_move rfl) (LY rfl (y_move rfl) (LY rfl (y_lss rfl rfl) (L_nil ?_)))))))
              refine C_cond rfl (fun hc7 => ?_) (fun hc7 => ?_)
              · skip
                refine C_seq (C_region (LY rfl (y_move rfl) (LY rfl (y_move rfl) ?_)))
                refine LY rfl (y_geq rfl rfl) ?_
                refine LY rfl (y_assign rfl) (L_nil (C_seq (C_region (LY rfl (y_move rfl) (LY rfl (y_move rfl) (LY rfl (y_move rfl) (LY rfl (y_move rfl) ?_)))))))
                refine L_op rfl (op_call rfl rfl (fun a w => Try.call72 a w) rfl ?_)
                refine (ih a1 mid l2 d5 (by omega) (by omega) hl2 (by omega) (by omega) q4).mono ?_
                rintro _ _ ⟨L, hL, rfl, rfl⟩
                refine ⟨_, rfl, ?_⟩
                refine L_nil (C_region (LY rfl (y_move rfl) ?_))
                refine LY rfl (y_add rfl rfl (show _ = ((mid + 1 : Nat) : Int) from by rw [wi64 (by omega) (by omega)]; omega)) ?_
                refine LY rfl (y_assign rfl) (L_nil ?_)
                exact ⟨(L, mid + 1, b1, l2, _, ap), ⟨by simp only; rw [hL.1.1]; omega, by simp only; omega, hb1, hl2, (q6 L hL.1 hL.2).1, by simp only; omega, fun R hR hs => hk R (Go.Sort.permIn_trans _ _ _ _ _ hp4 ((q6 L hL.1 hL.2).2 R hR hs).1) ((q6 L hL.1 hL.2).2 R hR hs).2⟩, by simp only; omega, ⟨rfl, rfl, rfl, rfl, rfl, rfl, trivial⟩, ((hsub (.cons_cons _ (.refl _))).trans (hsub_pick [0] rfl))⟩
              · skip
                refine C_seq (C_region (LY rfl (y_move rfl) (LY rfl (y_move rfl) ?_)))
                refine LY rfl (y_geq rfl rfl) ?_
                refine LY rfl (y_assign rfl) (L_nil (C_seq (C_region (LY rfl (y_move rfl) (LY rfl (y_move rfl) ?_)))))
                refine LY rfl (y_add rfl rfl (show _ = ((mid + 1 : Nat) : Int) from by rw [wi64 (by omega) (by omega)]; omega)) ?_
                refine LY rfl (y_move rfl) (LY rfl (y_move rfl) ?_)
                refine L_op rfl (op_call rfl rfl (fun a w => Try.call72 a w) rfl ?_)
                refine (ih (mid + 1) b1 l2 d5 (by omega) (by omega) hl2 (by omega) (by omega) q5).mono ?_
                rintro _ _ ⟨L, hL, rfl, rfl⟩
                refine ⟨_, rfl, ?_⟩
                refine L_nil (C_region (LY rfl (y_move rfl) (LY rfl (y_assign rfl) (L_nil ?_))))
                exact ⟨(L, a1, mid, l2, _, ap), ⟨by simp only; rw [hL.1.1]; omega, q1, by simp only; omega, hl2, (q7 L hL.1 hL.2).1, by simp only; omega, fun R hR hs => hk R (Go.Sort.permIn_trans _ _ _ _ _ hp4 ((q7 L hL.1 hL.2).2 R hR hs).1) ((q7 L hL.1 hL.2).2 R hR hs).2⟩, by simp only; omega, ⟨rfl, rfl, rfl, rfl, rfl, rfl, trivial⟩, ((hsub (.cons_cons _ (.refl _))).trans (hsub_pick [0] rfl))⟩

theorem pdq_u {w0 : World} {H : Hp} {sb n cap : Nat} {sp : List Value} (hn : n < 65536) : ∀ (m a b limit : Nat) (d : Array Nat), b - a ≤ m → d.size = n → limit ≤ 64 → a ≤ b → b ≤ n → Go.Sort.Below ltN a b d → FnS Try.prog w0 72 #[(.slice (some ⟨sb, 0, none⟩) n cap), .int .i64 ((a : Nat) : Int), .int .i64 ((b : Nat) : Int), .int .i64 ((limit : Nat) : Int)] (useg 48 sb d sp :: H) (fun e H' => ∃ d', Srt a b d d' ∧ e = .returned (.tuple #[]) ∧ H' = useg 48 sb d' sp :: H) := by
  intro m
  induction m with
  | zero => exact fun a b limit d hm hd hlim hab hb hB => pdq_step hn 0 (fun a b limit d h => absurd h (by omega)) a b limit d hm hd hlim hab hb hB
  | succ m ih => exact fun a b limit d hm hd hlim hab hb hB => pdq_step hn (m + 1) (fun a b limit d h => ih a b limit d (by omega)) a b limit d hm hd hlim hab hb hB

theorem sort_u {w0 : World} {H : Hp} {sb n cap : Nat} {sp : List Value} (d : Array Nat) (hd : d.size = n) (hn : n < 65536) : FnS Try.prog w0 57 #[(.slice (some ⟨sb, 0, none⟩) n cap)] (useg 48 sb d sp :: H) (fun e H' => ∃ d', Srt 0 n d d' ∧ e = .returned (.tuple #[]) ∧ H' = useg 48 sb d' sp :: H) := by
  refine FnS_intro (n := 11) (rs := []) (vs := [(.slice (some ⟨sb, 0, none⟩) n cap)]) Try.func57 rfl Try.ntmps57 rfl rfl ?_
  refine C_seq (C_region (LY rfl (y_move rfl) ?_))
  refine LY rfl (y_lenS rfl rfl Try.underlying33) ?_
  refine LY rfl (y_assign rfl) (L_nil (C_region (LY rfl (y_move rfl) (LY rfl (y_move rfl) (LY rfl (y_move rfl) ?_)))))
  refine LY rfl (y_conv rfl us_3 Try.underlying144 (show _ = (n : Int) from wu64 (by omega) (by omega))) ?_
  refine L_op rfl (op_call rfl rfl (fun a w => Try.call73 a w) rfl ?_)
  refine (len_u n hn).mono ?_
  rintro _ _ ⟨rfl, e⟩
  obtain rfl := e.symm
  clear e
  refine ⟨_, rfl, ?_⟩
  refine L_op rfl (op_call rfl rfl (fun a w => Try.call72 a w) rfl ?_)
  refine (pdq_u hn n 0 n (Go.Sort.bitsLen n) d (by omega) hd (by have := bits_le hn; omega) (Nat.zero_le _) (Nat.le_refl _) (.inl rfl)).mono ?_
  rintro _ _ ⟨d', hd', rfl, rfl⟩
  refine ⟨_, rfl, ?_⟩
  refine L_nil ?_
  refine B_end rv_nil ((hsub (.cons_cons _ (.refl _))).trans (hsub_pick [0] rfl)) ?_
  exact ⟨d', hd', rfl, rfl⟩

end Go.Proofs.Ytighbhplfjjgpaa

/- walks (own work; the walks' lines by a program of this repo). -/
set_option linter.unusedVariables false
set_option linter.unusedSimpArgs false
set_option maxRecDepth 20000
namespace Go.Proofs.Ytighbhplfjjgpaa
open Go.Sl
attribute [local irreducible] BodyQ WpC WpL WpS WpH OpW FnS



set_option maxHeartbeats 1000000 in

theorem xnums_s {w0 : World} {H : Hp} {o : Xo} {segs size : Int} {l : Xl} {A L : Gm} (h : Xm segs size l A L) (s : Int) (hl : l.length < 60000) : FnS Try.prog w0 32 #[ptr o.b, .int .i64 s] (o.seg 90 segs size A L :: H) (fun e H' => ∃ g, slOk 1 g (xnums segs size l s).length (us (xnums segs size l s)) ∧ e = .returned (slV g (xnums segs size l s).length) ∧ H' = slSeg 48 g (us (xnums segs size l s)) :: o.seg 90 segs size A L :: H) := by
  refine FnS_intro (n := 45) (rs := [.tmp 4]) (vs := [ptr o.b, .int .i64 s]) Try.func32 rfl Try.ntmps32 rfl rfl ?_
  refine C_seq (C_region (LY rfl (y_assign rfl) (L_nil (C_seq (C_seq (C_region (LY rfl (y_move rfl) (LY rfl (y_move rfl) ?_))))))))
  refine L_op rfl (op_call rfl rfl (fun a w => Try.call20 a w) rfl ?_)
  refine (xlive_s h s).mono ?_
  rintro _ _ ⟨rfl, rfl⟩
  refine ⟨_, rfl, ?_⟩
  refine LY rfl (y_eqi rfl rfl) (L_nil ?_)
  refine C_cond rfl (fun hc0 => ?_) (fun hc0 => ?_)
  · replace hc0 := of_decide_eq_true hc0
    refine C_seq (C_region (LY rfl (y_assign rfl) (L_nil (C_ret ?_))))
    refine B_ret (rv_tmp rfl rv_nil) (hsub_flat (H' := [] :: o.seg 90 segs size A L :: H) rfl) ?_
    have hz : cnt18 segs size l s = 0 := by omega
    have hn0 : (xnums segs size l s) = [] := List.eq_nil_of_length_eq_zero (by rw [nums_len]; exact hz)
    rw [hn0]
    exact ⟨none, ⟨rfl, rfl⟩, rfl, rfl⟩
  · replace hc0 := of_decide_eq_false hc0
    refine C_skip (C_seq (C_region (LY rfl (y_assign rfl) (L_nil (C_seq (C_seq (C_region (LY rfl (y_move rfl) (LY rfl (y_nilCheck rfl) (LY rfl (y_fieldAddr rfl fl_90_1) (LY rfl (y_load rfl ag_87 (sees 0 0 rfl) rfl) ?_)))))))))))
    refine L_op rfl (op_rangeG rfl Try.underlying87 0 1 rfl rfl (fun B1 => ?_))
    refine L_nil (C_block ?_)
    refine C_loop (ι := Xl × Array Nat × Option SlG) (fun i => [(0, ptr o.b), (1, .int .i64 s), (5, slV i.2.2 (xnums segs size i.1 s).length), (19, ptr B1)]) (fun i => [(B1, itO o.r1 A.ck i.2.1 A.ck)] :: slSeg 48 i.2.2 (us (xnums segs size i.1 s)) :: o.seg 90 segs size A L :: H) (fun i => (i.1.map xpair ++ (A.left i.2.1).map kv).Perm (l.map xpair) ∧ slOk 1 i.2.2 (xnums segs size i.1 s).length (us (xnums segs size i.1 s))) (fun i => (A.left i.2.1).length) ([], #[], none) ⟨left_start h.perm, rfl, rfl⟩ ⟨rfl, rfl, rfl, rfl, trivial⟩ (hsub_flat rfl) (fun i hi => ?_)
    obtain ⟨v, seen, g⟩ := i
    obtain ⟨hpm, hok⟩ := hi
    try simp only at hpm hok
    try dsimp only
    refine C_seq (C_region ?_)
    refine L_op rfl (op_nextG 0 0 2 1 rfl rfl rfl (fun x hx => h.okA.lt x hx) (Nat.le_refl _) rfl (fun hnx => ?_) (fun en hen => ?_))
    · skip
      refine LY rfl (y_extract rfl rfl) (L_nil (C_seq (C_cond_f rfl (C_exit (C_seq (C_region (LY rfl (y_move rfl) ?_)))))))
      refine L_op rfl (op_call rfl rfl (fun a w => Try.call57 a w) rfl ?_)
      have hvp := left_end hpm hnx
      have hlen : (xnums segs size v s).length = (xnums segs size l s).length := (xnums_perm hvp s).length_eq
      have hcn := nums_len segs size l s
      cases g with
      | none => exact absurd hok.2 (by omega)
      | some g => ?_
      have hlx := cnt_le segs size l s
      refine (FnS.sub (hsub_pick [1] rfl) (sort_u (sb := g.b) (n := (xnums segs size v s).length) (cap := g.cap) (sp := g.sp) (xnums segs size v s).toArray (by simp) (by omega))).mono ?_
      rintro _ _ ⟨r9, hr9, rfl, rfl⟩
      refine ⟨_, rfl, ?_⟩
      refine L_nil (C_seq (C_region (LY rfl (y_move rfl) (LY rfl (y_assign rfl) (L_nil (C_ret ?_))))))
      refine B_ret (rv_tmp rfl rv_nil) ((hsub (.cons_cons _ (.cons_cons _ (.cons _ (.refl _))))).trans (hsub_pick [0, 1] rfl)) ?_
      have hsz : ((xnums segs size v s).toArray).size = (xnums segs size v s).length := by simp
      have hr := sorted_list (d := (xnums segs size v s).toArray) (r := r9) (by rw [hsz]; exact hr9.1) (by rw [hsz]; exact hr9.2) (xnums_perm hvp s) (xnums_sorted h.s s)
      refine ⟨some g, ?_, ?_, ?_⟩
      · refine ⟨by rw [us_len, Nat.mul_one], ?_, ?_⟩
        · rw [us_len, ← hlen, ← us_len]; exact hok.2.1
        · rw [← hlen]; exact hok.2.2
      · rw [← hlen]; rfl
      · show useg 48 g.b _ g.sp :: _ = _
        unfold useg
        rw [hr]; rfl
    · obtain ⟨q, hq, eq1, eq2⟩ := left_in hpm hen
      obtain ⟨ek, ev_, eb⟩ := en
      simp only at eq1 eq2
      subst eq1 eq2
      obtain ⟨t, hb⟩ : ∃ t, ofS segs size q.2 = some t := by
        cases e : ofS segs size q.2 with
        | none => exact absurd e (h.valid q hq).2.2
        | some t => exact ⟨t, rfl⟩
      refine LY rfl (y_extract rfl rfl) (L_nil (C_seq (C_cond_t rfl (C_skip (C_block (C_seq (C_region ?_)))))))
      refine LY rfl (y_entryG rfl (sees 0 0 rfl) (sees 2 1 rfl) h.okA (Gm.left_mem hen)) ?_
      refine LY rfl (y_extract rfl rfl) (LY rfl (y_extract rfl rfl) (LY rfl (y_assign rfl) (LY rfl (y_assign rfl) (L_nil (C_seq (C_region (LY rfl (y_move rfl) (LY rfl (y_nilCheck rfl) (LY rfl (y_fieldAddr rfl fl_90_0) ?_)))))))))
      refine LY rfl (y_loadA rfl ag_23 sz_23 (sees 2 0 rfl) (Nat.le_of_ble_eq_true rfl) rfl) ?_
      refine LY rfl (y_move rfl) ?_
      refine L_op rfl (op_call rfl rfl (fun a w => Try.call44 a w) rfl ?_)
      refine (of_s segs size q.2).mono ?_
      rw [hb]
      rintro _ _ ⟨rfl, rfl⟩
      refine ⟨_, rfl, ?_⟩
      refine LY rfl (y_move rfl) (LY rfl (y_extract rfl rfl) (LY rfl (y_extract rfl rfl) (LY rfl (y_extract rfl rfl) (LY rfl (y_assign rfl) (LY rfl (y_assign rfl) (LY rfl (y_assign rfl) (L_nil (C_seq (C_region (LY rfl (y_move rfl) (LY rfl (y_move rfl) (LY rfl (y_eqi rfl rfl) (L_nil ?_)))))))))))))
      refine C_cond rfl (fun hc2 => ?_) (fun hc2 => ?_)
      · have hc1 : t = s := of_decide_eq_true hc2
        refine C_region (LY rfl (y_move rfl) (LY rfl (y_move rfl) ?_))
        refine L_op rfl (op_buildSlice (vs := [(0, _)]) rfl Try.underlying33 sz_48 zl_48 rfl (by decide) rfl rfl (fun B2 => ?_))
        refine L_op rfl (op_append (gs := g) (len := (xnums segs size v s).length) (m := 1) (xs := us (xnums segs size v s)) (vs := us [q.1]) 2 rfl rfl rfl hok (src_slice (sees 0 0 rfl) (Nat.le_of_ble_eq_true rfl) rfl) rfl (fun v hv => by simp [us] at hv; subst hv; rfl) Try.underlying33 ni_33 sz_48 by_48 (by decide) zl_48 rfl (by rw [nums_len]; have := cnt_le segs size v s; have := left_len hpm; omega) rfl (fun g2 hg2 => ?_))
        rw [← us_append, show (xnums segs size v s) ++ [q.1] = xnums segs size (v ++ [q]) s from by rw [xnums_snoc, if_pos (by rw [hb, hc1])], show (xnums segs size v s).length + 1 = (xnums segs size (v ++ [q]) s).length from by rw [xnums_snoc, if_pos (by rw [hb, hc1]), List.length_append]; rfl] at hg2 ⊢
        refine LY rfl (y_assign rfl) (L_nil ?_)
        refine ⟨(v ++ [q], _, g2), ⟨left_next h.okA hpm hen rfl rfl, hg2⟩, left_less h.okA hen, ⟨rfl, rfl, rfl, rfl, trivial⟩, ((hsub (.cons_cons _ (.cons_cons _ (.cons_cons _ (.cons _ (.refl _)))))).trans (hsub_pick [1, 1, 1] rfl))⟩
      · have hc1 : ¬ t = s := of_decide_eq_false hc2
        refine C_skip ?_
        have e9 : xnums segs size (v ++ [q]) s = xnums segs size v s := by rw [xnums_snoc, if_neg (by rw [hb]; intro e; exact hc1 (Option.some.inj e)), List.append_nil]
        refine ⟨(v ++ [q], _, g), ⟨left_next h.okA hpm hen rfl rfl, ?_⟩, left_less h.okA hen, ⟨rfl, rfl, ?_, rfl, trivial⟩, ?_⟩ <;> try simp only <;> try rw [e9]
        · exact hok
        · rfl
        · exact ((hsub (.cons_cons _ (.cons_cons _ (.cons_cons _ (.refl _))))).trans (hsub_pick [0, 0, 0] rfl))

end Go.Proofs.Ytighbhplfjjgpaa

/- walks (own work; the walks' lines by a program of this repo). -/
set_option linter.unusedVariables false
set_option linter.unusedSimpArgs false
set_option maxRecDepth 20000
namespace Go.Proofs.Ytighbhplfjjgpaa
open Go.Sl
attribute [local irreducible] BodyQ WpC WpL WpS WpH OpW FnS


set_option maxHeartbeats 1000000 in

theorem victim_y {w0 : World} {H : Hp} {o : Xo} {segs size : Int} {l : Xl} {A L : Gm} (h : Xm segs size l A L) {f : Nat} {cap : List Value} {C : Nat → List (Nat × Obj)} {p : Nat → Bool} (hcf : ∀ args w, (callFunc f args).run Try.prog w = .ok (.enter f args) w) (hcl : ∀ k : Nat, (k : Int) < segs → ∀ H1, HSub H H1 → FnS Try.prog w0 f ([Value.int .i64 (k : Int)] ++ cap).toArray (C k :: H1) (fun e H2 => e = .returned (.bool (p k)) ∧ H2 = C (k + 1) :: H1)) (hm : mayG segs size = true) : FnS Try.prog w0 40 #[ptr o.b, (.func (.func f) #[] cap.toArray)] (C 0 :: o.seg 90 segs size A L :: H) (fun e H' => e = .returned (.tuple #[.int .i64 (((vic p (fun j => cnt18 segs size l (j : Int)) segs.toNat).getD 0 : Nat) : Int), .bool (vic p (fun j => cnt18 segs size l (j : Int)) segs.toNat).isSome]) ∧ H' = C segs.toNat :: o.seg 90 segs size A L :: H) := by
  obtain ⟨g1, g2, g3, g4⟩ := mayG_spec hm
  refine FnS_intro (n := 57) (rs := [.tmp 4, .tmp 5]) (vs := [ptr o.b, (.func (.func f) #[] cap.toArray)]) Try.func40 rfl Try.ntmps40 rfl rfl ?_
  refine C_seq (C_region (LY rfl (y_assign rfl) (LY rfl (y_assign rfl) (L_nil (C_seq (C_seq (C_region (LY rfl (y_move rfl) ?_))))))))
  refine LY rfl (y_eqp rfl rfl Try.underlying29) ?_
  refine LY rfl (y_move rfl) (LY rfl (y_move rfl) ?_)
  refine LY rfl (y_eqfn rfl rfl Try.underlying38) ?_
  refine LY rfl (y_pick_f rfl rfl) (LY rfl (y_move rfl) (LY rfl (y_move rfl) (LY rfl (y_nilCheck rfl) (LY rfl (y_fieldAddr rfl fl_90_0) ?_))))
  refine LY rfl (y_loadA rfl ag_23 sz_23 (sees 1 0 rfl) (Nat.le_of_ble_eq_true rfl) rfl) ?_
  refine L_op rfl (op_call rfl rfl (fun a w => Try.call9 a w) rfl ?_)
  refine (check_s segs size).mono ?_
  rintro _ _ ⟨rfl, e⟩
  obtain rfl := e.symm
  clear e
  rw [show chkE segs size = 0 from by unfold chkE; rw [hm]; rfl]
  refine ⟨_, rfl, ?_⟩
  refine LY rfl (y_nei rfl rfl) ?_
  refine LY rfl (y_pick_f rfl rfl) (L_nil (C_cond_f rfl (C_skip (C_seq (C_region (LY rfl (y_assign rfl) (LY rfl (y_assign rfl) (L_nil (C_seq (C_seq (C_region (LY rfl (y_move rfl) (LY rfl (y_nilCheck rfl) (LY rfl (y_fieldAddr rfl fl_90_0) (LY rfl (y_fieldAddr rfl fl_23_0) (LY rfl (y_load rfl ag_3 (sees 1 0 rfl) rfl) (LY rfl (y_move rfl) (L_nil (C_block ?_)))))))))))))))))))
  refine C_loop (ι := Nat) (fun k => [(0, ptr o.b), (1, (.func (.func f) #[] cap.toArray)), (6, .int .i64 ((((vic p (fun j => cnt18 segs size l (j : Int)) k).getD 0 : Nat)) : Int)), (7, .bool (vic p (fun j => cnt18 segs size l (j : Int)) k).isSome), (27, .int .i64 segs), (28, .int .i64 (k : Int))]) (fun k => C k :: o.seg 90 segs size A L :: H) (fun k => (k : Int) ≤ segs) (fun k => segs.toNat - k) 0 (by omega) ⟨rfl, rfl, rfl, rfl, rfl, rfl, trivial⟩ ((hsub (.cons_cons _ (.cons_cons _ (.refl _)))).trans (hsub_pick [0, 0] rfl)) (fun k hk => ?_)
  skip
  refine C_seq (C_region (LY rfl (y_lss rfl rfl) (L_nil (C_seq ?_))))
  refine C_cond rfl (fun hc1 => ?_) (fun hc1 => ?_)
  · replace hc1 : (k : Int) < segs := of_decide_eq_true hc1
    refine C_skip (C_seq (C_block (C_seq (C_region (LY rfl (y_move rfl) (LY rfl (y_assign rfl) (L_nil (C_seq ?_))))))))
    refine C_regionH (o.seg 90 segs size A L :: H) (by kernel_rfl) ?_
    refine HY 0 rfl (((hsub (.cons_cons _ (.cons _ (.refl _)))).trans (hsub_pick [1] rfl))) rfl (y_move rfl) ?_
    refine HY 1 rfl (((hsub (.cons_cons _ (.cons _ (.refl _)))).trans (hsub_pick [1] rfl))) rfl (y_move rfl) ?_
    refine H_one 2 rfl (by kernel_rfl) rfl (op_call (f := f) (first := []) (cap := cap) rfl rfl hcf rfl ?_)
    refine FnS.mono (hcl k (by omega) _ (HSub.drop _ _)) ?_
    rintro _ _ ⟨rfl, rfl⟩
    refine ⟨_, rfl, ?_⟩
    refine ⟨((hsub (.cons_cons _ (.cons _ (.refl _)))).trans (hsub_pick [1] rfl)), ?_⟩
    refine HY 3 rfl (((hsub (.cons_cons _ (.cons _ (.refl _)))).trans (hsub_pick [1] rfl))) rfl (y_move rfl) ?_
    refine H_case 34 rfl (fun hg7_4 => ?_) (fun hg7_4 => ?_)
    · have hpk : p k = true := hg7_4
      refine HY 4 rfl (((hsub (.cons_cons _ (.cons _ (.refl _)))).trans (hsub_pick [1] rfl))) rfl (y_move rfl) ?_
      refine HY 5 rfl (((hsub (.cons_cons _ (.cons _ (.refl _)))).trans (hsub_pick [1] rfl))) rfl (y_not rfl) ?_
      refine HY 6 rfl (((hsub (.cons_cons _ (.cons _ (.refl _)))).trans (hsub_pick [1] rfl))) rfl (y_move rfl) ?_
      refine H_case 37 rfl (fun hg7_7 => ?_) (fun hg7_7 => ?_)
      · have hv : (vic p (fun j => cnt18 segs size l (j : Int)) k) = none := by simpa using hg7_7
        refine HK 7 rfl (((hsub (.cons_cons _ (.cons _ (.refl _)))).trans (hsub_pick [1] rfl))) rfl ?_
        refine HK 8 rfl (((hsub (.cons_cons _ (.cons _ (.refl _)))).trans (hsub_pick [1] rfl))) rfl ?_
        refine HK 9 rfl (((hsub (.cons_cons _ (.cons _ (.refl _)))).trans (hsub_pick [1] rfl))) rfl ?_
        refine HK 10 rfl (((hsub (.cons_cons _ (.cons _ (.refl _)))).trans (hsub_pick [1] rfl))) rfl ?_
        refine HK 11 rfl (((hsub (.cons_cons _ (.cons _ (.refl _)))).trans (hsub_pick [1] rfl))) rfl ?_
        refine HK 12 rfl (((hsub (.cons_cons _ (.cons _ (.refl _)))).trans (hsub_pick [1] rfl))) rfl ?_
        refine HK 13 rfl (((hsub (.cons_cons _ (.cons _ (.refl _)))).trans (hsub_pick [1] rfl))) rfl ?_
        refine HK 14 rfl (((hsub (.cons_cons _ (.cons _ (.refl _)))).trans (hsub_pick [1] rfl))) rfl ?_
        refine HK 15 rfl (((hsub (.cons_cons _ (.cons _ (.refl _)))).trans (hsub_pick [1] rfl))) rfl ?_
        refine HK 16 rfl (((hsub (.cons_cons _ (.cons _ (.refl _)))).trans (hsub_pick [1] rfl))) rfl ?_
        refine HK 17 rfl (((hsub (.cons_cons _ (.cons _ (.refl _)))).trans (hsub_pick [1] rfl))) rfl ?_
        refine HK 18 rfl (((hsub (.cons_cons _ (.cons _ (.refl _)))).trans (hsub_pick [1] rfl))) rfl ?_
        refine HK 19 rfl (((hsub (.cons_cons _ (.cons _ (.refl _)))).trans (hsub_pick [1] rfl))) rfl ?_
        refine HY 20 rfl (((hsub (.cons_cons _ (.cons _ (.refl _)))).trans (hsub_pick [1] rfl))) rfl (y_pick_t rfl rfl) ?_
        refine HY 21 rfl (((hsub (.cons_cons _ (.cons _ (.refl _)))).trans (hsub_pick [1] rfl))) rfl (y_pick_t rfl rfl) ?_
        refine H_done (by kernel_rfl) ?_
        refine C_cond_t rfl (C_region (LY rfl (y_move rfl) (LY rfl (y_assign rfl) (LY rfl (y_assign rfl) (L_nil (C_region ?_))))))
        refine LY rfl (y_add rfl rfl (wi64 (by omega) (by omega))) ?_
        refine LY rfl (y_move rfl) (L_nil ?_)
        have hx : (vic p (fun j => cnt18 segs size l (j : Int)) (k + 1)) = some k := by first | exact vic_first hpk hv | exact vic_less hpk hv hless
        refine ⟨k + 1, by omega, by omega, ?_⟩
        try dsimp only
        rw [hx]
        exact ⟨⟨rfl, rfl, rfl, rfl, rfl, rfl, trivial⟩, ((hsub (.cons_cons _ (.cons_cons _ (.refl _)))).trans (hsub_pick [0, 0] rfl))⟩
      · obtain ⟨b, hv⟩ : ∃ b, (vic p (fun j => cnt18 segs size l (j : Int)) k) = some b := Option.isSome_iff_exists.1 (by simpa using hg7_7)
        refine HY 7 rfl (((hsub (.cons_cons _ (.cons _ (.refl _)))).trans (hsub_pick [1] rfl))) rfl (y_move rfl) ?_
        refine HY 8 rfl (((hsub (.cons_cons _ (.cons _ (.refl _)))).trans (hsub_pick [1] rfl))) rfl (y_nilCheck rfl) ?_
        refine HY 9 rfl (((hsub (.cons_cons _ (.cons _ (.refl _)))).trans (hsub_pick [1] rfl))) rfl (y_fieldAddr rfl fl_90_2) ?_
        refine HY 10 rfl (((hsub (.cons_cons _ (.cons _ (.refl _)))).trans (hsub_pick [1] rfl))) rfl (y_load rfl ag_88 (sees 0 0 rfl) rfl) ?_
        refine HY 11 rfl (((hsub (.cons_cons _ (.cons _ (.refl _)))).trans (hsub_pick [1] rfl))) rfl (y_move rfl) ?_
        refine HY 12 rfl (((hsub (.cons_cons _ (.cons _ (.refl _)))).trans (hsub_pick [1] rfl))) rfl (y_lookupG rfl rfl Try.underlying88 Try.underlying3 zt_3 (sees 0 2 rfl)) ?_
        refine HY 13 rfl (((hsub (.cons_cons _ (.cons _ (.refl _)))).trans (hsub_pick [1] rfl))) rfl (y_move rfl) ?_
        refine HY 14 rfl (((hsub (.cons_cons _ (.cons _ (.refl _)))).trans (hsub_pick [1] rfl))) rfl (y_nilCheck rfl) ?_
        refine HY 15 rfl (((hsub (.cons_cons _ (.cons _ (.refl _)))).trans (hsub_pick [1] rfl))) rfl (y_fieldAddr rfl fl_90_2) ?_
        refine HY 16 rfl (((hsub (.cons_cons _ (.cons _ (.refl _)))).trans (hsub_pick [1] rfl))) rfl (y_load rfl ag_88 (sees 0 0 rfl) rfl) ?_
        refine HY 17 rfl (((hsub (.cons_cons _ (.cons _ (.refl _)))).trans (hsub_pick [1] rfl))) rfl (y_move rfl) ?_
        refine HY 18 rfl (((hsub (.cons_cons _ (.cons _ (.refl _)))).trans (hsub_pick [1] rfl))) rfl (y_lookupG rfl rfl Try.underlying88 Try.underlying3 zt_3 (sees 0 2 rfl)) ?_
        rw [h.liv, h.liv]
        refine HY 19 rfl (((hsub (.cons_cons _ (.cons _ (.refl _)))).trans (hsub_pick [1] rfl))) rfl (y_lss rfl rfl) ?_
        refine HY 20 rfl (((hsub (.cons_cons _ (.cons _ (.refl _)))).trans (hsub_pick [1] rfl))) rfl (y_pick_f rfl rfl) ?_
        refine HY 21 rfl (((hsub (.cons_cons _ (.cons _ (.refl _)))).trans (hsub_pick [1] rfl))) rfl (y_pick_t rfl rfl) ?_
        refine H_done (by kernel_rfl) ?_
        refine C_cond rfl (fun hc2 => ?_) (fun hc2 => ?_)
        · have hless : cnt18 segs size l (k : Int) < cnt18 segs size l (b : Int) := by have h5 := of_decide_eq_true hc2; rw [hv] at h5; exact Int.ofNat_lt.1 h5
          refine C_region (LY rfl (y_move rfl) (LY rfl (y_assign rfl) (LY rfl (y_assign rfl) (L_nil (C_region ?_)))))
          refine LY rfl (y_add rfl rfl (wi64 (by omega) (by omega))) ?_
          refine LY rfl (y_move rfl) (L_nil ?_)
          have hx : (vic p (fun j => cnt18 segs size l (j : Int)) (k + 1)) = some k := by first | exact vic_first hpk hv | exact vic_less hpk hv hless
          refine ⟨k + 1, by omega, by omega, ?_⟩
          try dsimp only
          rw [hx]
          exact ⟨⟨rfl, rfl, rfl, rfl, rfl, rfl, trivial⟩, ((hsub (.cons_cons _ (.cons_cons _ (.refl _)))).trans (hsub_pick [0, 0] rfl))⟩
        · have hless : ¬ cnt18 segs size l (k : Int) < cnt18 segs size l (b : Int) := by have h5 := of_decide_eq_false hc2; rw [hv] at h5; exact fun h6 => h5 (Int.ofNat_lt.2 h6)
          refine C_skip (C_region ?_)
          refine LY rfl (y_add rfl rfl (wi64 (by omega) (by omega))) ?_
          refine LY rfl (y_move rfl) (L_nil ?_)
          have hx : (vic p (fun j => cnt18 segs size l (j : Int)) (k + 1)) = (vic p (fun j => cnt18 segs size l (j : Int)) k) := by first | exact vic_no hpk | exact vic_not hpk hv hless
          refine ⟨k + 1, by omega, by omega, ?_⟩
          try dsimp only
          rw [hx]
          exact ⟨⟨rfl, rfl, rfl, rfl, rfl, rfl, trivial⟩, ((hsub (.cons_cons _ (.cons_cons _ (.refl _)))).trans (hsub_pick [0, 0] rfl))⟩
    · have hpk : p k = false := hg7_4
      refine HK 4 rfl (((hsub (.cons_cons _ (.cons _ (.refl _)))).trans (hsub_pick [1] rfl))) rfl ?_
      refine HK 5 rfl (((hsub (.cons_cons _ (.cons _ (.refl _)))).trans (hsub_pick [1] rfl))) rfl ?_
      refine HK 6 rfl (((hsub (.cons_cons _ (.cons _ (.refl _)))).trans (hsub_pick [1] rfl))) rfl ?_
      refine HK 7 rfl (((hsub (.cons_cons _ (.cons _ (.refl _)))).trans (hsub_pick [1] rfl))) rfl ?_
      refine HK 8 rfl (((hsub (.cons_cons _ (.cons _ (.refl _)))).trans (hsub_pick [1] rfl))) rfl ?_
      refine HK 9 rfl (((hsub (.cons_cons _ (.cons _ (.refl _)))).trans (hsub_pick [1] rfl))) rfl ?_
      refine HK 10 rfl (((hsub (.cons_cons _ (.cons _ (.refl _)))).trans (hsub_pick [1] rfl))) rfl ?_
      refine HK 11 rfl (((hsub (.cons_cons _ (.cons _ (.refl _)))).trans (hsub_pick [1] rfl))) rfl ?_
      refine HK 12 rfl (((hsub (.cons_cons _ (.cons _ (.refl _)))).trans (hsub_pick [1] rfl))) rfl ?_
      refine HK 13 rfl (((hsub (.cons_cons _ (.cons _ (.refl _)))).trans (hsub_pick [1] rfl))) rfl ?_
      refine HK 14 rfl (((hsub (.cons_cons _ (.cons _ (.refl _)))).trans (hsub_pick [1] rfl))) rfl ?_
      refine HK 15 rfl (((hsub (.cons_cons _ (.cons _ (.refl _)))).trans (hsub_pick [1] rfl))) rfl ?_
      refine HK 16 rfl (((hsub (.cons_cons _ (.cons _ (.refl _)))).trans (hsub_pick [1] rfl))) rfl ?_
      refine HK 17 rfl (((hsub (.cons_cons _ (.cons _ (.refl _)))).trans (hsub_pick [1] rfl))) rfl ?_
      refine HK 18 rfl (((hsub (.cons_cons _ (.cons _ (.refl _)))).trans (hsub_pick [1] rfl))) rfl ?_
      refine HK 19 rfl (((hsub (.cons_cons _ (.cons _ (.refl _)))).trans (hsub_pick [1] rfl))) rfl ?_
      refine HK 20 rfl (((hsub (.cons_cons _ (.cons _ (.refl _)))).trans (hsub_pick [1] rfl))) rfl ?_
      refine HY 21 rfl (((hsub (.cons_cons _ (.cons _ (.refl _)))).trans (hsub_pick [1] rfl))) rfl (y_pick_f rfl rfl) ?_
      refine H_done (by kernel_rfl) ?_
      refine C_cond_f rfl (C_skip (C_region ?_))
      refine LY rfl (y_add rfl rfl (wi64 (by omega) (by omega))) ?_
      refine LY rfl (y_move rfl) (L_nil ?_)
      have hx : (vic p (fun j => cnt18 segs size l (j : Int)) (k + 1)) = (vic p (fun j => cnt18 segs size l (j : Int)) k) := by first | exact vic_no hpk | exact vic_not hpk hv hless
      refine ⟨k + 1, by omega, by omega, ?_⟩
      try dsimp only
      rw [hx]
      exact ⟨⟨rfl, rfl, rfl, rfl, rfl, rfl, trivial⟩, ((hsub (.cons_cons _ (.cons_cons _ (.refl _)))).trans (hsub_pick [0, 0] rfl))⟩
  · replace hc1 : ¬ (k : Int) < segs := of_decide_eq_false hc1
    refine C_exit (C_seq ?_)
    have hk2 : k = segs.toNat := by omega
    subst hk2
    refine C_region (LY rfl (y_move rfl) (LY rfl (y_move rfl) (LY rfl (y_assign rfl) (LY rfl (y_assign rfl) (L_nil (C_ret ?_))))))
    refine B_ret (rv_tmp rfl (rv_tmp rfl rv_nil)) ((hsub (.cons_cons _ (.cons_cons _ (.refl _)))).trans (hsub_pick [0, 0] rfl)) ?_
    exact ⟨rfl, rfl⟩

end Go.Proofs.Ytighbhplfjjgpaa

/- walks (own work; the walks' lines by a program of this repo). -/
set_option linter.unusedVariables false
set_option linter.unusedSimpArgs false
set_option maxRecDepth 20000
namespace Go.Proofs.Ytighbhplfjjgpaa
open Go.Sl
attribute [local irreducible] BodyQ WpC WpL WpS WpH OpW FnS



set_option maxHeartbeats 1000000 in

theorem awake18_s {w0 : World} {H : Hp}  : FnS Try.prog w0 21 #[] H (fun e H' => e = .returned (.bool true) ∧ H' = H) := by
  refine FnS_intro (n := 55) (rs := [.tmp 0]) (vs := []) Try.func21 rfl Try.ntmps21 rfl rfl ?_
  refine C_seq (C_region (LY rfl (y_assign rfl) (L_nil (C_seq (C_region ?_)))))
  refine LY rfl (y_build (vs := [(0, _), (1, _)]) rfl pl_23 zl_23 (fill_cons (off := 0) (m := 1) (vs := [_]) rfl rfl rfl (Nat.le_of_ble_eq_true rfl) (fill_cons (off := 1) (m := 1) (vs := [_]) rfl rfl rfl (Nat.le_of_ble_eq_true rfl) rfl))) ?_
  refine L_op rfl (op_call rfl rfl (fun a w => Try.call28 a w) rfl ?_)
  refine (xnew_s 4 2).mono ?_
  rintro _ _ ⟨o1, rfl, rfl⟩
  have hX1 := Xm.new 4 2
  refine ⟨_, rfl, ?_⟩
  refine LY rfl (y_assign rfl) (L_nil (C_seq (C_region (LY rfl (y_move rfl) ?_))))
  refine L_op rfl (op_call rfl rfl (fun a w => Try.call30 a w) rfl ?_)
  refine (FnS.sub (hsub_pick [0] rfl) (xput_s hX1 7 (by decide) 4 (by decide))).mono ?_
  rw [show xput 4 2 [] 7 4 false = ([(7, 4)], 0) from by decide +kernel]
  rintro _ _ ⟨rfl, A2, L2, hX2, rfl⟩
  refine ⟨_, rfl, ?_⟩
  refine LY rfl (y_move rfl) ?_
  refine L_op rfl (op_call rfl rfl (fun a w => Try.call30 a w) rfl ?_)
  refine (FnS.sub (hsub_pick [0] rfl) (xput_s hX2 9 (by decide) 5 (by decide))).mono ?_
  rw [show xput 4 2 [(7, 4)] 9 5 false = ([(7, 4), (9, 5)], 0) from by decide +kernel]
  rintro _ _ ⟨rfl, A3, L3, hX3, rfl⟩
  refine ⟨_, rfl, ?_⟩
  refine LY rfl (y_move rfl) ?_
  refine L_op rfl (op_call rfl rfl (fun a w => Try.call30 a w) rfl ?_)
  refine (FnS.sub (hsub_pick [0] rfl) (xput_s hX3 3 (by decide) 6 (by decide))).mono ?_
  rw [show xput 4 2 [(7, 4), (9, 5)] 3 6 false = ([(3, 6), (7, 4), (9, 5)], 0) from by decide +kernel]
  rintro _ _ ⟨rfl, A4, L4, hX4, rfl⟩
  refine ⟨_, rfl, ?_⟩
  refine LY rfl (y_assign rfl) (LY rfl (y_assign rfl) (LY rfl (y_assign rfl) (L_nil (C_seq (C_region (LY rfl (y_move rfl) ?_))))))
  refine L_op rfl (op_buildSlice (vs := [(0, _), (1, _), (2, _), (3, _)]) rfl Try.underlying25 sz_4 zl_4 rfl (by decide) (fill_cons (off := 0) (m := 1) (vs := [_]) rfl rfl rfl (Nat.le_of_ble_eq_true rfl) (fill_cons (off := 1) (m := 1) (vs := [_]) rfl rfl rfl (Nat.le_of_ble_eq_true rfl) (fill_cons (off := 2) (m := 1) (vs := [_]) rfl rfl rfl (Nat.le_of_ble_eq_true rfl) (fill_cons (off := 3) (m := 1) (vs := [_]) rfl rfl rfl (Nat.le_of_ble_eq_true rfl) rfl)))) rfl (fun B1 => ?_))
  refine L_op rfl (op_call rfl rfl (fun a w => Try.call47 a w) rfl ?_)
  refine used_s.mono ?_
  rintro _ _ ⟨ub, rfl, rfl⟩
  refine ⟨_, rfl, ?_⟩
  refine L_op rfl (op_call rfl rfl (fun a w => Try.call40 a w) rfl ?_)
  skip
  refine (FnS.sub (hsub_pick [0, 1] rfl) (victim_y hX4 (f := 62) (cap := [ptr ub]) (C := fun _ => [(ub, .cells [Value.slice (some ⟨B1, 0, none⟩) 4 4].toArray 25)]) (p := fun k => decide (0 ≤ (k : Int)) && ([false, true, true, false] : List Bool).getD (k : Int).toNat false) (fun a w => Try.call62 a w) (fun k hk H1 hs => used1_s (l := [false, true, true, false]) (sees 0 0 rfl) ((holds_slice (sees 0 0 rfl) (by decide) rfl).sub (hs.trans (HSub.drop _ _))) (by decide) k) (by decide))).mono ?_
  rw [show vic (fun k => decide (0 ≤ (k : Int)) && ([false, true, true, false] : List Bool).getD (k : Int).toNat false) (fun j => cnt18 4 2 [(3, 6), (7, 4), (9, 5)] (j : Int)) (4 : Int).toNat = some 2 from by decide +kernel]
  rintro _ _ ⟨rfl, rfl⟩
  refine ⟨_, rfl, ?_⟩
  refine LY rfl (y_move rfl) (LY rfl (y_extract rfl rfl) (LY rfl (y_extract rfl rfl) (LY rfl (y_assign rfl) (LY rfl (y_assign rfl) (L_nil (C_seq (C_region (LY rfl (y_move rfl) (LY rfl (y_eqi rfl rfl) (LY rfl (y_move rfl) (LY rfl (y_move rfl) (LY rfl (y_eqi rfl rfl) (LY rfl (y_pick_t rfl rfl) (LY rfl (y_move rfl) (LY rfl (y_move rfl) (LY rfl (y_eqi rfl rfl) (LY rfl (y_pick_t rfl rfl) (LY rfl (y_move rfl) (LY rfl (y_move rfl) ?_)))))))))))))))))))
  refine L_op rfl (op_call rfl rfl (fun a w => Try.call20 a w) rfl ?_)
  refine (FnS.sub (hsub_pick [1] rfl) (xlive_s hX4 1)).mono ?_
  rw [show cnt18 4 2 [(3, 6), (7, 4), (9, 5)] 1 = 2 from by decide +kernel]
  rintro _ _ ⟨rfl, rfl⟩
  refine ⟨_, rfl, ?_⟩
  refine LY rfl (y_eqi rfl rfl) (LY rfl (y_pick_t rfl rfl) (LY rfl (y_move rfl) (LY rfl (y_move rfl) ?_)))
  refine L_op rfl (op_call rfl rfl (fun a w => Try.call32 a w) rfl ?_)
  refine (FnS.sub (hsub_pick [0] rfl) (xnums_s hX4 1 (by decide))).mono ?_
  rw [show xnums 4 2 [(3, 6), (7, 4), (9, 5)] 1 = [7, 9] from by decide +kernel]
  rintro _ _ ⟨gn, hgn, rfl, rfl⟩
  refine ⟨_, rfl, ?_⟩
  cases gn with
  | none => exact slOk_none hgn (by decide)
  | some gn => ?_
  refine L_op rfl (op_buildSlice (vs := [(0, _), (1, _)]) rfl Try.underlying33 sz_48 zl_48 rfl (by decide) (fill_cons (off := 0) (m := 1) (vs := [_]) rfl rfl rfl (Nat.le_of_ble_eq_true rfl) (fill_cons (off := 1) (m := 1) (vs := [_]) rfl rfl rfl (Nat.le_of_ble_eq_true rfl) rfl)) rfl (fun B2 => ?_))
  refine L_op rfl (op_call rfl rfl (fun a w => Try.call13 a w) rfl ?_)
  refine (same18_s (la := [7, 9]) (lb := [7, 9]) (holds_slice (sees 1 0 rfl) (by simp [us]) (by simp [us])) (holds_slice (sees 0 0 rfl) (by decide) rfl) (by decide)).mono ?_
  rintro _ _ ⟨rfl, e⟩
  obtain rfl := e.symm
  clear e
  refine ⟨_, rfl, ?_⟩
  refine LY rfl (y_pick_t rfl rfl) (LY rfl (y_move rfl) (LY rfl (y_move rfl) (LY rfl (y_eqi rfl rfl) (LY rfl (y_pick_t rfl rfl) (LY rfl (y_move rfl) (LY rfl (y_move rfl) (LY rfl (y_pick_t rfl rfl) (LY rfl (y_move rfl) (LY rfl (y_move rfl) ?_)))))))))
  refine L_op rfl (op_call rfl rfl (fun a w => Try.call30 a w) rfl ?_)
  refine (FnS.sub (hsub_pick [2] rfl) (xput_s hX4 7 (by decide) 2 (by decide))).mono ?_
  rw [show xput 4 2 [(3, 6), (7, 4), (9, 5)] 7 2 false = ([(3, 6), (7, 4), (9, 5)], 5) from by decide +kernel]
  rintro _ _ ⟨rfl, A5, L5, hX5, rfl⟩
  refine ⟨_, rfl, ?_⟩
  refine LY rfl (y_eqi rfl rfl) (LY rfl (y_pick_t rfl rfl) (LY rfl (y_assign rfl) (L_nil (C_ret ?_))))
  refine B_ret (rv_tmp rfl rv_nil) (hsub (.cons _ (.cons _ (.cons _ (.cons _ (.cons _ (.refl _))))))) ?_
  exact ⟨rfl, rfl⟩

end Go.Proofs.Ytighbhplfjjgpaa

/- ExtentLog: what the log and the map are behind so many appends (own work). -/
set_option linter.unusedVariables false
set_option linter.unusedSimpArgs false
namespace Go.Sl
deriving instance DecidableEq for Lm
def eL (sg sz i : Nat) : Lm := ⟨(List.range sg).map fun s => if s * sz < i then s + 1 else 0, if i = 0 then none else some ((i - 1) / sz), if i = 0 then 0 else (i - 1) % sz + 1, (i + sz - 1) / sz⟩
theorem eL_all : ∀ x : Fin 4, ∀ y : Fin 4, ∀ i : Fin 24, i.1 < (3 + x.1) * (1 + y.1) → ((eL (3 + x.1) (1 + y.1) i.1).next (1 + y.1) = some (i.1 / (1 + y.1), i.1 % (1 + y.1), i.1 / (1 + y.1) + 1) ∧ (eL (3 + x.1) (1 + y.1) i.1).put (i.1 / (1 + y.1)) (i.1 % (1 + y.1)) (i.1 / (1 + y.1) + 1) = eL (3 + x.1) (1 + y.1) (i.1 + 1)) := by decide +kernel
theorem e24 {x y i : Nat} (hx : x < 4) (hy : y < 4) (hi : i < (3 + x) * (1 + y)) : i < 24 := Nat.lt_of_lt_of_le hi (Nat.mul_le_mul (show 3 + x ≤ 6 by omega) (show 1 + y ≤ 4 by omega))
theorem eL_0 : ∀ x, x < 4 → ∀ y, y < 4 → eL (3 + x) (1 + y) 0 = l0 (3 + x) := by decide +kernel
theorem eL_step {sg sz i : Nat} (h1 : 3 ≤ sg) (h2 : sg < 7) (h3 : 1 ≤ sz) (h4 : sz < 5) (hi : i < sg * sz) : (eL sg sz i).next sz = some (i / sz, i % sz, i / sz + 1) ∧ (eL sg sz i).put (i / sz) (i % sz) (i / sz + 1) = eL sg sz (i + 1) := by
  obtain ⟨x, rfl⟩ := Nat.exists_eq_add_of_le h1
  obtain ⟨y, rfl⟩ := Nat.exists_eq_add_of_le h3
  exact eL_all ⟨x, by omega⟩ ⟨y, by omega⟩ ⟨i, e24 (by omega) (by omega) hi⟩ hi
theorem eL_z {sg sz : Nat} (h1 : 3 ≤ sg) (h2 : sg < 7) (h3 : 1 ≤ sz) (h4 : sz < 5) : eL sg sz 0 = l0 sg := by
  obtain ⟨x, rfl⟩ := Nat.exists_eq_add_of_le h1
  obtain ⟨y, rfl⟩ := Nat.exists_eq_add_of_le h3
  exact eL_0 x (by omega) y (by omega)
def eB (i : Nat) : Nat → Option (List UInt8) := fun a => if 2 ≤ a ∧ a < 2 + i then some [UInt8.ofNat (a - 2)] else none
theorem eB_0 : eB 0 = fun _ => none := by funext a; unfold eB; rw [if_neg (by omega)]
theorem eB_step (i : Nat) : updB (eB i) (2 + i) [UInt8.ofNat i] = eB (i + 1) := by
  funext a
  unfold updB eB
  by_cases h : a = 2 + i
  · subst h; rw [if_pos rfl, if_pos (by omega)]; congr 3; omega
  · rw [if_neg h]
    by_cases h2 : 2 ≤ a ∧ a < 2 + i
    · rw [if_pos h2, if_pos (by omega)]
    · rw [if_neg h2, if_neg (by omega)]
def eX (i : Nat) : Xl := (List.range i).map fun j => (j + 1, ((2 + j : Nat) : Int))
theorem eX_len (i : Nat) : (eX i).length = i := by simp [eX]
theorem eX_succ (i : Nat) : eX (i + 1) = eX i ++ [(i + 1, ((2 + i : Nat) : Int))] := by simp [eX, List.range_succ]
theorem eX_mem {i n : Nat} {a : Int} : (n, a) ∈ eX i ↔ ∃ j, j < i ∧ n = j + 1 ∧ a = ((2 + j : Nat) : Int) := by
  unfold eX
  simp only [List.mem_map, List.mem_range, Prod.mk.injEq]
  constructor
  · rintro ⟨j, h, rfl, rfl⟩; exact ⟨j, h, rfl, rfl⟩
  · rintro ⟨j, h, rfl, rfl⟩; exact ⟨j, h, rfl, rfl⟩
theorem xins_e : ∀ {l : Xl} {n : Nat} {a : Int}, (∀ x ∈ l, x.1 < n) → xins l n a = l ++ [(n, a)]
  | [], n, a, _ => rfl
  | x :: l, n, a, h => by
    have hx := h x (by simp)
    rw [xins, if_neg (by omega), xins_e (fun y hy => h y (by simp [hy]))]
    rfl
theorem xfind_none : ∀ {l : Xl} {k : Int}, (∀ x ∈ l, (x.1 : Int) ≠ k) → xfind l k = none := fun {l k} h => by
  unfold xfind
  rw [Option.map_eq_none_iff, List.find?_eq_none]
  intro x hx
  simpa using h x hx
theorem eX_put {sg sz i : Nat} (hm : mayG (sg : Int) (sz : Int) = true) (hi : i < sg * sz) : xput (sg : Int) (sz : Int) (eX i) (i + 1) ((2 + i : Nat) : Int) false = (eX (i + 1), 0) := by
  have h1 : ofS (sg : Int) (sz : Int) ((2 + i : Nat) : Int) ≠ none := by
    unfold ofS
    have : (sg : Int) * (sz : Int) = ((sg * sz : Nat) : Int) := by push_cast; rfl
    rw [if_pos (by simp [hm]; omega)]
    simp
  have h2 : xfind (eX i) ((i + 1 : Nat) : Int) = none := xfind_none fun x hx => by
    obtain ⟨j, hj, e1, e2⟩ := eX_mem.1 (show (x.1, x.2) ∈ eX i from hx)
    omega
  have h3 : xins (eX i) (i + 1) ((2 + i : Nat) : Int) = eX (i + 1) := by
    rw [xins_e (fun x hx => ?_), eX_succ]
    obtain ⟨j, hj, e1, e2⟩ := eX_mem.1 (show (x.1, x.2) ∈ eX i from hx)
    omega
  unfold xput
  rw [if_neg (by omega), if_neg h1, h2]
  show (xins (eX i) (i + 1) ((2 + i : Nat) : Int), (0 : Int)) = _
  rw [h3]
theorem eX_find {i j : Nat} (h : j < i) : xfind (eX i) ((j + 1 : Nat) : Int) = some ((2 + j : Nat) : Int) := by
  have key : ∀ i, j < i → xfind (eX i) ((j + 1 : Nat) : Int) = some ((2 + j : Nat) : Int) := by
    intro i
    induction i with
    | zero => intro h; omega
    | succ i ih =>
      intro h
      unfold xfind
      rw [eX_succ, List.find?_append]
      by_cases e : j < i
      · have := ih e
        unfold xfind at this
        cases hf : (eX i).find? fun x => (x.1 : Int) == ((j + 1 : Nat) : Int) with
        | none => rw [hf] at this; cases this
        | some y => rw [hf] at this; simpa using this
      · obtain rfl : j = i := by omega
        have h0 : (eX j).find? (fun x => (x.1 : Int) == ((j + 1 : Nat) : Int)) = none := by
          rw [List.find?_eq_none]
          intro x hx
          obtain ⟨q, hq, e1, e2⟩ := eX_mem.1 (show (x.1, x.2) ∈ eX j from hx)
          simp; omega
        rw [h0]; simp
  exact key i h
/-- How many of them lie in segment s. -/
def eC (sz n s : Nat) : Nat := min (n - s * sz) sz
theorem e25 {x y n : Nat} (hx : x < 4) (hy : y < 4) (hn : n ≤ (3 + x) * (1 + y)) : n < 25 := Nat.lt_succ_of_le (Nat.le_trans hn (Nat.mul_le_mul (show 3 + x ≤ 6 by omega) (show 1 + y ≤ 4 by omega)))
theorem eN_all : ∀ x : Fin 4, ∀ y : Fin 4, ∀ n : Fin 25, ∀ s : Fin 6, n.1 ≤ (3 + x.1) * (1 + y.1) → s.1 < 3 + x.1 → xnums ((3 + x.1 : Nat) : Int) ((1 + y.1 : Nat) : Int) (eX n.1) ((s.1 : Nat) : Int) = (List.range (eC (1 + y.1) n.1 s.1)).map fun o : Nat => s.1 * (1 + y.1) + o + 1 := by decide +kernel
theorem eN {sg sz n s : Nat} (h1 : 3 ≤ sg) (h2 : sg < 7) (h3 : 1 ≤ sz) (h4 : sz < 5) (hn : n ≤ sg * sz) (hs : s < sg) : xnums (sg : Int) (sz : Int) (eX n) ((s : Nat) : Int) = (List.range (eC sz n s)).map fun o : Nat => s * sz + o + 1 := by
  obtain ⟨x, rfl⟩ := Nat.exists_eq_add_of_le h1
  obtain ⟨y, rfl⟩ := Nat.exists_eq_add_of_le h3
  exact eN_all ⟨x, by omega⟩ ⟨y, by omega⟩ ⟨n, e25 (by omega) (by omega) hn⟩ ⟨s, by omega⟩ hn hs
theorem eCnt {sg sz n s : Nat} (h1 : 3 ≤ sg) (h2 : sg < 7) (h3 : 1 ≤ sz) (h4 : sz < 5) (hn : n ≤ sg * sz) (hs : s < sg) : cnt18 (sg : Int) (sz : Int) (eX n) (s : Int) = eC sz n s := by
  have := congrArg List.length (eN h1 h2 h3 h4 hn hs)
  simpa [xnums, cnt18] using this
theorem eGen {sg sz n s : Nat} (hs : s < sg) : (eL sg sz n).gens[s]? = some (if s * sz < n then s + 1 else 0) := by simp [eL, hs]
end Go.Sl

/- walks (own work; the walks' lines by a program of this repo). -/
set_option linter.unusedVariables false
set_option linter.unusedSimpArgs false
set_option maxRecDepth 20000
namespace Go.Proofs.Ytighbhplfjjgpaa
open Go.Sl
attribute [local irreducible] BodyQ WpC WpL WpS WpH OpW FnS

abbrev zc0 : List Value := ((List.replicate 32 (.int .u8 0)) ++ [.int .u64 0] ++ (List.replicate 32 (.int .u8 0)))


set_option maxHeartbeats 4000000 in

theorem extentlog_s {w0 : World} {H : Hp} (a b c : Nat) (ha : a < 256) (hb : b < 256) (hc : c < 256) : FnS Try.prog w0 6 #[.int .u8 (a : Int), .int .u8 (b : Int), .int .u8 (c : Int)] H (fun e H' => e = .returned (.bool true)) := by
  obtain ⟨sg, hsg⟩ : ∃ sg, sg = 3 + a % 4 := ⟨_, rfl⟩
  obtain ⟨sz, hsz⟩ : ∃ sz, sz = 1 + b % 4 := ⟨_, rfl⟩
  have hm : mayG (sg : Int) (sz : Int) = true := by unfold mayG; simp; omega
  obtain ⟨w1, w2, w3, w4, w5⟩ := may_lt hm
  have hs7 : sg < 7 := by omega
  have hz5 : sz < 5 := by omega
  have h24 : sg * sz ≤ 6 * 4 := Nat.mul_le_mul (by omega) (by omega)
  have q3 : (sg : Int) * (sz : Int) = ((sg * sz : Nat) : Int) := by push_cast; rfl
  refine FnS_intro (n := 180) (rs := [.tmp 6]) (vs := [.int .u8 (a : Int), .int .u8 (b : Int), .int .u8 (c : Int)]) Try.func6 rfl Try.ntmps6 rfl rfl ?_
  refine C_seq (C_region (LY rfl (y_assign rfl) (L_nil (C_seq (C_seq (C_region ?_))))))
  refine L_op rfl (op_call rfl rfl (fun a w => Try.call21 a w) rfl ?_)
  refine awake18_s.mono ?_
  rintro _ _ ⟨rfl, e⟩
  obtain rfl := e.symm
  clear e
  refine ⟨_, rfl, ?_⟩
  refine LY rfl (y_not rfl) (L_nil (C_cond_f rfl (C_skip (C_seq (C_region (LY rfl (y_move rfl) ?_))))))
  refine LY rfl (y_conv rfl us_5 Try.underlying3 (wi64 (by omega) (by omega))) ?_
  refine LY rfl (y_rem rfl rfl (by decide) (show _ = ((a % 4 : Nat) : Int) from rfl)) ?_
  refine LY rfl (y_add rfl rfl (show _ = (sg : Int) from by rw [wi64 (by omega) (by omega)]; omega)) ?_
  refine LY rfl (y_move rfl) ?_
  refine LY rfl (y_conv rfl us_5 Try.underlying3 (wi64 (by omega) (by omega))) ?_
  refine LY rfl (y_rem rfl rfl (by decide) (show _ = ((b % 4 : Nat) : Int) from rfl)) ?_
  refine LY rfl (y_add rfl rfl (show _ = (sz : Int) from by rw [wi64 (by omega) (by omega)]; omega)) ?_
  refine LY rfl (y_build (vs := [(0, _), (1, _)]) rfl pl_23 zl_23 rfl) ?_
  refine L_op rfl (op_alloc zl_23 rfl (fun B1 => ?_))
  refine L_op rfl (op_store 0 0 rfl rfl rfl sz_23 rfl rfl (ones rfl) (by decide) ?_)
  skip
  refine L_nil (C_seq (C_region ?_))
  refine L_op rfl (op_call rfl rfl (fun a w => Try.call22 a w) rfl ?_)
  refine newpower_l.mono ?_
  rintro _ _ ⟨p1, hpk1, hdv1, hP1, rfl, rfl⟩
  refine ⟨_, rfl, ?_⟩
  refine LY rfl (y_assign rfl) (L_nil (C_seq ?_))
  refine C_regionH ([(B1, .cells [Value.int .i64 (sg : Int), .int .i64 (sz : Int)].toArray 23)] :: H) (by kernel_rfl) ?_
  refine HY 0 rfl (((hsub (.cons_cons _ (.cons _ (.cons _ (.refl _))))).trans (hsub_pick [2] rfl))) rfl (y_loadA rfl ag_23 sz_23 (sees 0 0 rfl) (Nat.le_of_ble_eq_true rfl) (show _ = [Value.int .i64 (sg : Int), .int .i64 (sz : Int)] from rfl)) ?_
  refine HY 2 rfl (((hsub (.cons_cons _ (.cons _ (.cons _ (.refl _))))).trans (hsub_pick [2] rfl))) rfl (y_move rfl) ?_
  refine HY 4 rfl (((hsub (.cons_cons _ (.cons _ (.cons _ (.refl _))))).trans (hsub_pick [2] rfl))) rfl (y_loadA rfl ag_23 sz_23 (sees 0 0 rfl) (Nat.le_of_ble_eq_true rfl) (show _ = [Value.int .i64 (sg : Int), .int .i64 (sz : Int)] from rfl)) ?_
  refine HY 6 rfl (((hsub (.cons_cons _ (.cons _ (.cons _ (.refl _))))).trans (hsub_pick [2] rfl))) rfl (y_move rfl) ?_
  refine H_one 1 rfl (by kernel_rfl) rfl (op_call rfl rfl (fun a w => Try.call24 a w) rfl ?_)
  refine (sectors_s (sg : Int) (sz : Int) hm).mono ?_
  rintro _ _ ⟨rfl, e⟩
  obtain rfl := e.symm
  clear e
  rw [show (2 : Int) + (sg : Int) * (sz : Int) = ((2 + sg * sz : Nat) : Int) from by push_cast; rfl]
  refine ⟨_, rfl, ?_⟩
  refine ⟨((hsub (.cons_cons _ (.cons _ (.cons _ (.refl _))))).trans (hsub_pick [2] rfl)), ?_⟩
  refine H_one 3 rfl (by kernel_rfl) rfl (op_call rfl rfl (fun a w => Try.call23 a w) rfl ?_)
  refine ((new_l (H := (_ :: H)) (rfl : p1.b = _) hpk1 hdv1 ((2 + sg * sz : Nat) : Int)).sub (hsub_pick [0, 0] rfl)).mono ?_
  rintro _ _ ⟨d91, p91, hG91, pb91, ha91, hq91, rfl, rfl⟩
  have hA91 : d91.a = Ab.new (2 + sg * sz) := by rw [ha91] <;> (rw [show szOf ((2 + sg * sz : Nat) : Int) = 2 + sg * sz from by unfold szOf; omega])
  have hP91 : p91.a = _ := hq91.trans hP1
  have hb91 : d91.b = d91.b := rfl
  refine ⟨_, rfl, ?_⟩
  refine ⟨((hsub (.cons_cons _ (.cons _ (.cons _ (.cons _ (.cons _ (.cons _ (.refl _)))))))).trans (hsub_pick [5] rfl)), ?_⟩
  refine H_one 5 rfl (by kernel_rfl) rfl (op_call rfl rfl (fun a w => Try.call24 a w) rfl ?_)
  refine (sectors_s (sg : Int) (sz : Int) hm).mono ?_
  rintro _ _ ⟨rfl, e⟩
  obtain rfl := e.symm
  clear e
  rw [show (2 : Int) + (sg : Int) * (sz : Int) = ((2 + sg * sz : Nat) : Int) from by push_cast; rfl]
  refine ⟨_, rfl, ?_⟩
  refine ⟨((hsub (.cons_cons _ (.cons _ (.cons _ (.cons _ (.cons _ (.cons _ (.refl _)))))))).trans (hsub_pick [5] rfl)), ?_⟩
  refine H_one 7 rfl (by kernel_rfl) rfl (op_call rfl rfl (fun a w => Try.call23 a w) rfl ?_)
  refine ((newtwo_d hG91 pb91 rfl ((2 + sg * sz : Nat) : Int)).sub (hsub_pick [0, 0, 0, 0, 0] rfl)).mono ?_
  rintro _ _ ⟨by81, D81, h81, rfl, rfl⟩
  replace h81 := h81.to (B := ⟨Ab.new (2 + sg * sz), Ab.new (2 + sg * sz), q0, none⟩) (by rw [hA91, hP91] <;> (rw [show szOf ((2 + sg * sz : Nat) : Int) = 2 + sg * sz from by unfold szOf; omega]))
  have hv1 : Vw ⟨Ab.new (2 + sg * sz), Ab.new (2 + sg * sz), q0, none⟩ (2 + sg * sz) (List.replicate (2 + sg * sz) (secOf 0)) (List.replicate (2 + sg * sz) (secOf 0)) 0 0 := Vw.new (by omega) none (.inl rfl)
  refine ⟨_, rfl, ?_⟩
  refine ⟨((hsub (.cons_cons _ (.cons _ (.refl _)))).trans (hsub_pick [1] rfl)), ?_⟩
  refine HY 8 rfl (((hsub (.cons_cons _ (.cons _ (.refl _)))).trans (hsub_pick [1] rfl))) rfl (y_assign rfl) ?_
  refine HY 9 rfl (((hsub (.cons_cons _ (.cons _ (.refl _)))).trans (hsub_pick [1] rfl))) rfl (y_assign rfl) ?_
  refine H_done (by kernel_rfl) ?_
  refine C_seq ?_
  refine C_regionH ([(B1, .cells [Value.int .i64 (sg : Int), .int .i64 (sz : Int)].toArray 23)] :: H) (by kernel_rfl) ?_
  refine HY 0 rfl (((hsub (.cons_cons _ (.cons _ (.refl _)))).trans (hsub_pick [1] rfl))) rfl (y_move rfl) ?_
  refine HY 1 rfl (((hsub (.cons_cons _ (.cons _ (.refl _)))).trans (hsub_pick [1] rfl))) rfl (y_move rfl) ?_
  refine HY 2 rfl (((hsub (.cons_cons _ (.cons _ (.refl _)))).trans (hsub_pick [1] rfl))) rfl (y_build0 pl_67 zl_67) ?_
  refine HY 3 rfl (((hsub (.cons_cons _ (.cons _ (.refl _)))).trans (hsub_pick [1] rfl))) rfl (y_makeIface rfl Try.underlying67 rfl) ?_
  refine HY 6 rfl (((hsub (.cons_cons _ (.cons _ (.refl _)))).trans (hsub_pick [1] rfl))) rfl (y_build0 pl_67 zl_67) ?_
  refine HY 7 rfl (((hsub (.cons_cons _ (.cons _ (.refl _)))).trans (hsub_pick [1] rfl))) rfl (y_makeIface rfl Try.underlying67 rfl) ?_
  refine HY 8 rfl (((hsub (.cons_cons _ (.cons _ (.refl _)))).trans (hsub_pick [1] rfl))) rfl (y_loadA rfl ag_23 sz_23 (sees 0 0 rfl) (Nat.le_of_ble_eq_true rfl) (show _ = [Value.int .i64 (sg : Int), .int .i64 (sz : Int)] from rfl)) ?_
  refine H_one 4 rfl (by kernel_rfl) rfl (op_call rfl rfl (fun a w => Try.call27 a w) rfl ?_)
  refine FnS.mono (good_s (_) rfl) ?_
  rintro _ _ ⟨cb, rfl, rfl⟩
  refine ⟨_, rfl, ?_⟩
  refine ⟨((hsub (.cons_cons _ (.cons _ (.cons _ (.refl _))))).trans (hsub_pick [2] rfl)), ?_⟩
  refine H_one 5 rfl (by kernel_rfl) rfl (op_call rfl rfl (fun a w => Try.call26 a w) rfl ?_)
  refine ((new_v (f := 52) (cap := [ptr cb]) h81 hv1 (fun s hs => by rw [List.eq_of_mem_replicate hs, secOf_len]) (fun s hs => by rw [List.eq_of_mem_replicate hs, secOf_len])).sub (hsub_pick [1] rfl)).mono ?_
  rintro _ _ ⟨mb, m, hM, rfl, rfl⟩
  refine ⟨_, rfl, ?_⟩
  refine ⟨((hsub (.cons_cons _ (.cons _ (.cons _ (.cons _ (.refl _)))))).trans (hsub_pick [3] rfl)), ?_⟩
  refine H_one 9 rfl (by kernel_rfl) rfl (op_call rfl rfl (fun a w => Try.call25 a w) rfl ?_)
  refine ((lognew_s (zc := zc0) hM hm).sub (hsub_pick [0, 0] rfl)).mono ?_
  rintro _ _ ⟨lb, gb, hL, rfl, rfl⟩
  rw [← eL_z (sg := sg) (sz := sz) (by omega) (by omega) (by omega) (by omega)] at hL ⊢
  rw [← eB_0] at hL
  refine ⟨_, rfl, ?_⟩
  refine ⟨((hsub (.cons_cons _ (.cons _ (.cons _ (.cons _ (.cons _ (.cons _ (.refl _)))))))).trans (hsub_pick [5] rfl)), ?_⟩
  refine HY 10 rfl (((hsub (.cons_cons _ (.cons _ (.cons _ (.cons _ (.cons _ (.cons _ (.refl _)))))))).trans (hsub_pick [5] rfl))) rfl (y_move rfl) ?_
  refine HY 11 rfl (((hsub (.cons_cons _ (.cons _ (.cons _ (.cons _ (.cons _ (.cons _ (.refl _)))))))).trans (hsub_pick [5] rfl))) rfl (y_extract rfl rfl) ?_
  refine HY 12 rfl (((hsub (.cons_cons _ (.cons _ (.cons _ (.cons _ (.cons _ (.cons _ (.refl _)))))))).trans (hsub_pick [5] rfl))) rfl (y_extract rfl rfl) ?_
  refine HY 13 rfl (((hsub (.cons_cons _ (.cons _ (.cons _ (.cons _ (.cons _ (.cons _ (.refl _)))))))).trans (hsub_pick [5] rfl))) rfl (y_assign rfl) ?_
  refine HY 14 rfl (((hsub (.cons_cons _ (.cons _ (.cons _ (.cons _ (.cons _ (.cons _ (.refl _)))))))).trans (hsub_pick [5] rfl))) rfl (y_assign rfl) ?_
  refine H_done (by kernel_rfl) ?_
  refine C_seq (C_seq (C_region (LY rfl (y_move rfl) ?_)))
  refine LY rfl (y_nei rfl rfl) ?_
  refine L_nil (C_cond_f rfl (C_skip (C_seq (C_region ?_))))
  refine LY rfl (y_loadA rfl ag_23 sz_23 (sees 5 0 rfl) (Nat.le_of_ble_eq_true rfl) (show _ = [Value.int .i64 (sg : Int), .int .i64 (sz : Int)] from rfl)) ?_
  refine L_op rfl (op_call rfl rfl (fun a w => Try.call28 a w) rfl ?_)
  refine (xnew_s (sg : Int) (sz : Int)).mono ?_
  rintro _ _ ⟨o, rfl, rfl⟩
  refine ⟨_, rfl, ?_⟩
  refine LY rfl (y_assign rfl) (L_nil (C_seq (C_region (LY rfl (y_move rfl) ?_))))
  refine LY rfl (y_conv rfl us_5 Try.underlying3 (wi64 (by omega) (by omega))) ?_
  refine LY rfl (y_fieldAddr rfl fl_23_0) (LY rfl (y_load rfl ag_3 (sees 6 0 rfl) rfl) (LY rfl (y_fieldAddr rfl fl_23_1) (LY rfl (y_load rfl ag_3 (sees 6 0 rfl) rfl) ?_)))
  refine LY rfl (y_mul rfl rfl (show _ = ((sg * sz : Nat) : Int) from by rw [wi64 (by rw [q3]; omega) (by rw [q3]; omega), q3])) ?_
  refine LY rfl (y_add rfl rfl (show _ = ((sg * sz + 1 : Nat) : Int) from by rw [wi64 (by omega) (by omega)]; omega)) ?_
  refine LY rfl (y_rem rfl rfl (by omega) (show _ = ((c % (sg * sz + 1) : Nat) : Int) from rfl)) ?_
  refine LY rfl (y_assign rfl) (L_nil (C_seq (C_seq ?_)))
  obtain ⟨n, hn⟩ : ∃ n, c % (sg * sz + 1) = n := ⟨_, rfl⟩
  rw [hn]
  have hnn : n ≤ sg * sz := by rw [← hn]; exact Nat.le_of_lt_succ (Nat.mod_lt _ (by omega))
  refine C_region (LY rfl (y_move rfl) (LY rfl (y_move rfl) (L_nil (C_block ?_))))
  refine C_loop (ι := Duo × Da × List Sec × Gm × Gm × Nat) (fun i => [(7, ptr B1), (11, ptr lb), (13, ptr o.b), (14, .int .i64 (n : Int)), (72, .int .i64 (n : Int)), (73, .int .i64 (i.2.2.2.2.2 : Int))]) (fun i => o.seg 90 (sg : Int) (sz : Int) i.2.2.2.1 i.2.2.2.2.1 :: LGS lb mb gb zc0 sg sz (eL sg sz i.2.2.2.2.2) m i.1 ([(cb, .cells [.iface 67 (.agg zc0.toArray)].toArray 103)] :: [(B1, .cells [Value.int .i64 (sg : Int), .int .i64 (sz : Int)].toArray 23)] :: H)) (fun i => Xm (sg : Int) (sz : Int) (eX i.2.2.2.2.2) i.2.2.2.1 i.2.2.2.2.1 ∧ Lst dt (.func (.func 52) #[] #[ptr cb]) sg sz i.1 i.2.1 m i.2.2.1 i.2.2.2.2.2 mb d91.b by81 p1.b (eL sg sz i.2.2.2.2.2) (eB i.2.2.2.2.2) ∧ i.2.2.2.2.2 ≤ n) (fun i => n - i.2.2.2.2.2) (D81, _, _, Gm.new, Gm.new, 0) ⟨Xm.new _ _, hL, Nat.zero_le _⟩ ⟨rfl, rfl, rfl, rfl, rfl, rfl, trivial⟩ ((hsub (.cons_cons _ (.cons_cons _ (.cons_cons _ (.cons_cons _ (.cons_cons _ (.cons_cons _ (.cons_cons _ (.refl _))))))))).trans (hsub_pick [0, 0, 0, 0, 0, 0, 0] rfl)) (fun i hi => ?_)
  obtain ⟨D, A, X, MA, ML, i⟩ := i
  obtain ⟨hX, hT, hi⟩ := hi
  simp only at hX hT hi
  dsimp only
  refine C_seq (C_region (LY rfl (y_lss rfl rfl) (L_nil (C_seq ?_))))
  refine C_cond rfl (fun hc2 => ?_) (fun hc2 => ?_)
  · replace hc2 : i < n := by have := of_decide_eq_true hc2; omega
    have hlt : i < sg * sz := by omega
    have hat : 2 + i / sz * sz + i % sz = 2 + i := by have := Nat.div_add_mod' i sz; omega
    refine C_skip (C_seq (C_block (C_seq (C_region (LY rfl (y_move rfl) (LY rfl (y_assign rfl) (L_nil (C_seq (C_region (LY rfl (y_move rfl) (LY rfl (y_move rfl) ?_)))))))))))
    refine LY rfl (y_conv rfl us_3 Try.underlying5 (w8n (by omega))) ?_
    refine L_op rfl (op_buildSlice (vs := [(0, _)]) rfl Try.underlying71 sz_5 zl_5 rfl (by decide) rfl rfl (fun B2 => ?_))
    refine L_op rfl (op_call rfl rfl (fun a w => Try.call29 a w) rfl ?_)
    refine ((append_s hT (by omega) (body := [UInt8.ofNat i]) (holds_slice (sees 0 0 rfl) (Nat.le_of_ble_eq_true rfl) rfl) (by simp) (eL_step (by omega) (by omega) (by omega) (by omega) hlt).1).sub (hsub_pick [2, 2, 2, 2] rfl)).mono ?_
    rintro _ _ ⟨rfl, D2, A2, hL2, rfl⟩
    rw [hat, (eL_step (by omega) (by omega) (by omega) (by omega) hlt).2, eB_step] at hL2
    rw [hat, (eL_step (by omega) (by omega) (by omega) (by omega) hlt).2]
    refine ⟨_, rfl, ?_⟩
    refine LY rfl (y_move rfl) (LY rfl (y_extract rfl rfl) (LY rfl (y_extract rfl rfl) (LY rfl (y_assign rfl) (LY rfl (y_assign rfl) (L_nil (C_seq (C_region (LY rfl (y_move rfl) ?_))))))))
    refine LY rfl (y_nei rfl rfl) ?_
    refine LY rfl (y_move rfl) (LY rfl (y_move rfl) (LY rfl (y_move rfl) ?_))
    refine LY rfl (y_add rfl rfl (show _ = ((i + 1 : Nat) : Int) from by rw [wi64 (by omega) (by omega)]; omega)) ?_
    refine LY rfl (y_conv rfl us_3 Try.underlying48 (wu64 (by omega) (by omega))) ?_
    refine LY rfl (y_move rfl) ?_
    refine L_op rfl (op_call rfl rfl (fun a w => Try.call30 a w) rfl ?_)
    refine ((xput_s hX (i + 1) (by omega) ((2 + i : Nat) : Int) (by rw [eX_len]; omega)).sub (hsub_pick [5] rfl)).mono ?_
    rintro _ _ ⟨rfl, A3, L3, hX3, rfl⟩
    rw [eX_put hm hlt] at hX3
    rw [eX_put hm hlt]
    refine ⟨_, rfl, ?_⟩
    refine LY rfl (y_nei rfl rfl) ?_
    refine LY rfl (y_pick_f rfl rfl) (L_nil (C_cond_f rfl (C_skip (C_region ?_))))
    refine LY rfl (y_add rfl rfl (wi64 (by omega) (by omega))) ?_
    refine LY rfl (y_move rfl) (L_nil ?_)
    exact ⟨(D2, A2, _, A3, L3, i + 1), ⟨hX3, hL2, by simp only; omega⟩, by simp only; omega, ⟨rfl, rfl, rfl, rfl, rfl, rfl, trivial⟩, ((hsub (.cons_cons _ (.cons_cons _ (.cons_cons _ (.cons_cons _ (.cons_cons _ (.cons_cons _ (.cons_cons _ (.cons _ (.refl _)))))))))).trans (hsub_pick [0, 0, 0, 0, 0, 1, 1] rfl))⟩
  · obtain rfl : n = i := by have := of_decide_eq_false hc2; omega
    refine C_exit (C_seq (C_seq (C_region (LY rfl (y_fieldAddr rfl fl_23_0) (LY rfl (y_load rfl ag_3 (sees 6 0 rfl) rfl) (LY rfl (y_move rfl) (L_nil (C_block ?_))))))))
    refine C_loop (ι := Nat) (fun s => [(7, ptr B1), (11, ptr lb), (13, ptr o.b), (14, .int .i64 (n : Int)), (97, .int .i64 (sg : Int)), (98, .int .i64 (s : Int))]) (fun s => o.seg 90 (sg : Int) (sz : Int) MA ML :: LGS lb mb gb zc0 sg sz (eL sg sz n) m D ([(cb, .cells [.iface 67 (.agg zc0.toArray)].toArray 103)] :: [(B1, .cells [Value.int .i64 (sg : Int), .int .i64 (sz : Int)].toArray 23)] :: H)) (fun s => s ≤ sg) (fun s => sg - s) 0 (Nat.zero_le _) ⟨rfl, rfl, rfl, rfl, rfl, rfl, trivial⟩ ((hsub (.cons_cons _ (.cons_cons _ (.cons_cons _ (.cons_cons _ (.cons_cons _ (.cons_cons _ (.cons_cons _ (.refl _))))))))).trans (hsub_pick [0, 0, 0, 0, 0, 0, 0] rfl)) (fun s hs => ?_)
    skip
    refine C_seq (C_region (LY rfl (y_lss rfl rfl) (L_nil (C_seq ?_))))
    refine C_cond rfl (fun hc4 => ?_) (fun hc4 => ?_)
    · replace hc4 : s < sg := by have := of_decide_eq_true hc4; omega
      have hs1 := hc4
      have q4 : s * sz + sz ≤ sg * sz := by have := Nat.mul_le_mul_right sz hs1; rw [Nat.succ_mul] at this; exact this
      have q5 : (s : Int) * (sz : Int) = ((s * sz : Nat) : Int) := by push_cast; rfl
      refine C_skip (C_seq (C_block (C_seq (C_region (LY rfl (y_move rfl) (LY rfl (y_assign rfl) (L_nil (C_seq (C_region (LY rfl (y_move rfl) (LY rfl (y_move rfl) (LY rfl (y_fieldAddr rfl fl_23_1) (LY rfl (y_load rfl ag_3 (sees 6 0 rfl) rfl) ?_)))))))))))))
      refine LY rfl (y_mul rfl rfl (show _ = ((s * sz : Nat) : Int) from by rw [wi64 (by rw [q5]; omega) (by rw [q5]; omega), q5])) ?_
      refine LY rfl (y_sub rfl rfl (show _ = (n : Int) - ((s * sz : Nat) : Int) from wi64 (by omega) (by omega))) ?_
      refine LY rfl (y_fieldAddr rfl fl_23_1) (LY rfl (y_load rfl ag_3 (sees 6 0 rfl) rfl) ?_)
      refine LY rfl (y_min rfl rfl) ?_
      refine LY rfl (y_max rfl rfl) ?_
      refine LY rfl (y_assign rfl) (L_nil ?_)
      rw [show max (min ((n : Int) - ((s * sz : Nat) : Int)) (sz : Int)) 0 = ((eC sz n s : Nat) : Int) from by unfold eC; omega]
      refine C_seq (C_seq (C_region (LY rfl (y_move rfl) (LY rfl (y_move rfl) ?_))))
      refine L_op rfl (op_call rfl rfl (fun a w => Try.call20 a w) rfl ?_)
      refine ((xlive_s hX (s : Int)).sub (hsub_pick [0] rfl)).mono ?_
      rintro _ _ ⟨rfl, rfl⟩
      rw [eCnt (by omega) (by omega) (by omega) (by omega) hnn hs1]
      refine ⟨_, rfl, ?_⟩
      refine LY rfl (y_move rfl) ?_
      refine LY rfl (y_nei rfl rfl) ?_
      refine LY rfl (y_move rfl) ?_
      refine L_case 116 rfl (fun hg22_6 => ?_) (fun hg22_6 => ?_)
      · exact absurd hg22_6 (by simp)
      · skip
        refine LY rfl (y_move rfl) ?_
        refine LY rfl (y_gtr rfl rfl) ?_
        refine LY rfl (y_move rfl) (LY rfl (y_move rfl) ?_)
        refine L_op rfl (op_call rfl rfl (fun a w => Try.call31 a w) rfl ?_)
        refine ((gen_s hT hs1 (eGen hs1)).sub (hsub_pick [1, 1, 1, 1] rfl)).mono ?_
        rintro _ _ ⟨rfl, rfl⟩
        refine ⟨_, rfl, ?_⟩
        refine LY rfl (y_gtr rfl rfl) ?_
        refine LY rfl (y_neb rfl rfl Try.underlying4) ?_
        refine LY rfl (y_pick_f rfl rfl) (L_nil ?_)
        refine C_cond rfl (fun hc5 => absurd hc5 (by by_cases hq : s * sz < n <;> simp [hq, eC] <;> omega)) (fun hc5 => ?_)
        refine C_skip (C_seq (C_region (LY rfl (y_move rfl) (LY rfl (y_move rfl) ?_))))
        refine L_op rfl (op_call rfl rfl (fun a w => Try.call32 a w) rfl ?_)
        refine ((xnums_s hX (s : Int) (by rw [eX_len]; omega)).sub (hsub_pick [4] rfl)).mono ?_
        rintro _ _ ⟨gn, hgn, rfl, rfl⟩
        rw [eN (by omega) (by omega) (by omega) (by omega) hnn hs1] at hgn
        rw [eN (by omega) (by omega) (by omega) (by omega) hnn hs1]
        simp only [List.length_map, List.length_range] at hgn ⊢
        refine ⟨_, rfl, ?_⟩
        refine LY rfl (y_lenV hgn rfl rfl Try.underlying33) ?_
        refine LY rfl (y_move rfl) (L_nil (C_block ?_))
        refine C_loop (ι := Nat) (fun j => [(7, ptr B1), (11, ptr lb), (13, ptr o.b), (14, .int .i64 (n : Int)), (18, .int .i64 (s : Int)), (97, .int .i64 (sg : Int)), (98, .int .i64 (s : Int)), (127, slV gn (eC sz n s)), (128, .int .i64 ((eC sz n s : Nat) : Int)), (129, .int .i64 (j : Int))]) (fun j => slSeg 48 gn (us ((List.range (eC sz n s)).map fun o : Nat => s * sz + o + 1)) :: o.seg 90 (sg : Int) (sz : Int) MA ML :: LGS lb mb gb zc0 sg sz (eL sg sz n) m D ([(cb, .cells [.iface 67 (.agg zc0.toArray)].toArray 103)] :: [(B1, .cells [Value.int .i64 (sg : Int), .int .i64 (sz : Int)].toArray 23)] :: H)) (fun j => j ≤ eC sz n s) (fun j => eC sz n s - j) 0 (Nat.zero_le _) ⟨rfl, rfl, rfl, rfl, rfl, rfl, rfl, rfl, rfl, rfl, trivial⟩ ((hsub (.cons_cons _ (.cons_cons _ (.cons_cons _ (.cons_cons _ (.cons_cons _ (.cons_cons _ (.cons_cons _ (.cons_cons _ (.refl _)))))))))).trans (hsub_pick [0, 0, 0, 0, 0, 0, 0, 0] rfl)) (fun j hj => ?_)
        skip
        refine C_seq (C_region (LY rfl (y_lss rfl rfl) (L_nil (C_seq ?_))))
        refine C_cond rfl (fun hc6 => ?_) (fun hc6 => ?_)
        · replace hc6 : j < eC sz n s := by have := of_decide_eq_true hc6; omega
          have hj2 : s * sz + j < n ∧ j < sz := by unfold eC at hc6; omega
          have hxj : ((List.range (eC sz n s)).map fun o : Nat => s * sz + o + 1)[j]? = some (s * sz + j + 1) := by simp [hc6]
          have hbd : eB n (2 + (s * sz + j)) = some [UInt8.ofNat (s * sz + j)] := by unfold eB; rw [if_pos (by omega)]; congr 3; omega
          cases gn with
          | none => exact absurd hgn.2 (by omega)
          | some gn => ?_
          refine C_skip (C_seq (C_block (C_seq (C_region (LY rfl (y_move rfl) ?_)))))
          refine LY rfl (y_indexS rfl rfl Try.underlying33 sz_48 (by omega) (by omega) (show _ = j from by simp)) ?_
          refine LY rfl (y_load rfl ag_48 (sees 0 0 rfl) (us_ix hxj)) ?_
          refine LY rfl (y_assign rfl) (LY rfl (y_assign rfl) (L_nil (C_seq (C_region (LY rfl (y_move rfl) (LY rfl (y_move rfl) ?_))))))
          refine L_op rfl (op_call rfl rfl (fun a w => Try.call33 a w) rfl ?_)
          refine ((xat_s hX (s * sz + j + 1)).sub (hsub_pick [1] rfl)).mono ?_
          rintro _ _ ⟨rfl, rfl⟩
          rw [eX_find hj2.1]
          simp only [Option.getD_some, Option.isSome_some]
          refine ⟨_, rfl, ?_⟩
          refine LY rfl (y_move rfl) (LY rfl (y_extract rfl rfl) (LY rfl (y_extract rfl rfl) (LY rfl (y_assign rfl) (LY rfl (y_assign rfl) (L_nil (C_seq (C_region (LY rfl (y_move rfl) (LY rfl (y_move rfl) ?_)))))))))
          refine L_op rfl (op_call rfl rfl (fun a w => Try.call34 a w) rfl ?_)
          refine ((read_s hT (good_at (zc := zc0) (sees 2 0 rfl)) (by omega) hbd).sub (hsub_pick [2, 2, 2, 2] rfl)).mono ?_
          rintro _ _ ⟨gd, hgd, rfl, rfl⟩
          cases gd with
          | none => exact slOk_none hgd (by simp)
          | some gd => ?_
          refine ⟨_, rfl, ?_⟩
          refine LY rfl (y_move rfl) (LY rfl (y_extract rfl rfl) (LY rfl (y_extract rfl rfl) (LY rfl (y_assign rfl) (LY rfl (y_assign rfl) (L_nil (C_seq (C_region (LY rfl (y_move rfl) ?_))))))))
          refine LY rfl (y_nei rfl rfl) ?_
          refine LY rfl (y_move rfl) (LY rfl (y_move rfl) ?_)
          refine LY rfl (y_lenS rfl rfl Try.underlying71) ?_
          refine LY rfl (y_nei rfl rfl) ?_
          refine LY rfl (y_pick_f rfl rfl) (LY rfl (y_move rfl) (LY rfl (y_move rfl) ?_))
          refine LY rfl (y_indexS rfl rfl Try.underlying71 sz_5 (by omega) (by simp) (show _ = 0 from rfl)) ?_
          refine LY rfl (y_load rfl ag_5 (sees 0 0 rfl) rfl) (LY rfl (y_move rfl) ?_)
          refine LY rfl (y_sub rfl rfl (show _ = ((s * sz + j : Nat) : Int) from by rw [wu64 (by omega) (by omega)]; omega)) ?_
          refine LY rfl (y_conv rfl us_48 Try.underlying5 (w8n (by omega))) ?_
          refine LY rfl (y_nei rfl rfl) ?_
          refine LY rfl (y_pick_f rfl rfl) (LY rfl (y_move rfl) ?_)
          refine L_case 162 rfl (fun hg29_17 => ?_) (fun hg29_17 => ?_)
          · exact absurd hg29_17 (by simp)
          · skip
            refine LY rfl (y_move rfl) (LY rfl (y_move rfl) (LY rfl (y_fieldAddr rfl fl_23_1) (LY rfl (y_load rfl ag_3 (sees 8 0 rfl) rfl) ?_)))
            refine LY rfl (y_mul rfl rfl (show _ = ((s * sz : Nat) : Int) from by rw [wi64 (by rw [q5]; omega) (by rw [q5]; omega), q5])) ?_
            refine LY rfl (y_move rfl) ?_
            refine LY rfl (y_add rfl rfl (show _ = ((s * sz + j : Nat) : Int) from by rw [wi64 (by omega) (by omega)]; omega)) ?_
            refine LY rfl (y_add rfl rfl (show _ = ((s * sz + j + 1 : Nat) : Int) from by rw [wi64 (by omega) (by omega)]; omega)) ?_
            refine LY rfl (y_conv rfl us_3 Try.underlying48 (wu64 (by omega) (by omega))) ?_
            refine LY rfl (y_nei rfl rfl) ?_
            refine LY rfl (y_pick_f rfl rfl) (L_nil ?_)
            refine C_cond rfl (fun hc7 => absurd hc7 (by simp)) (fun hc7 => ?_)
            refine C_skip (C_region ?_)
            refine LY rfl (y_add rfl rfl (wi64 (by omega) (by omega))) ?_
            refine LY rfl (y_move rfl) (L_nil ?_)
            exact ⟨j + 1, by omega, by omega, ⟨rfl, rfl, rfl, rfl, rfl, rfl, rfl, rfl, rfl, rfl, trivial⟩, ((hsub (.cons_cons _ (.cons_cons _ (.cons_cons _ (.cons_cons _ (.cons_cons _ (.cons_cons _ (.cons_cons _ (.cons_cons _ (.cons _ (.refl _))))))))))).trans (hsub_pick [6, 5, 1, 1, 1, 1, 1, 1] rfl))⟩
        · replace hc6 := of_decide_eq_false hc6
          refine C_exit (C_region ?_)
          refine LY rfl (y_add rfl rfl (wi64 (by omega) (by omega))) ?_
          refine LY rfl (y_move rfl) (L_nil ?_)
          exact ⟨s + 1, by omega, by omega, ⟨rfl, rfl, rfl, rfl, rfl, rfl, trivial⟩, ((hsub (.cons_cons _ (.cons_cons _ (.cons_cons _ (.cons_cons _ (.cons_cons _ (.cons_cons _ (.cons_cons _ (.cons _ (.refl _)))))))))).trans (hsub_pick [1, 1, 1, 1, 1, 1, 1] rfl))⟩
    · replace hc4 := of_decide_eq_false hc4
      refine C_exit (C_seq (C_region (LY rfl (y_move rfl) ?_)))
      refine L_op rfl (op_call rfl rfl (fun a w => Try.call15 a w) rfl ?_)
      refine ((xlen_s hX).sub (hsub_pick [0] rfl)).mono ?_
      rintro _ _ ⟨rfl, rfl⟩
      rw [eX_len]
      refine ⟨_, rfl, ?_⟩
      refine LY rfl (y_move rfl) (LY rfl (y_eqi rfl rfl) (LY rfl (y_assign rfl) (L_nil (C_ret ?_))))
      refine B_ret (rv_tmp rfl rv_nil) (HSub.refl _) ?_
      exact ret_bool (by simp)

end Go.Proofs.Ytighbhplfjjgpaa

/- From a row's reading of a slice of bytes to what a walk asks (own work). -/
set_option linter.unusedVariables false
namespace Go.Sl
open Go.RowKit
end Go.Sl

/- What a row tells of its arguments, for flat types (integers, bools, structs and arrays of these) and slices of them (own work). -/
set_option linter.unusedVariables false
set_option linter.unusedSimpArgs false
namespace Go.Sl
open Go.RowKit
inductive Sc where
  | int (k : IntKind)
  | bool
def Sc.fit : Sc → Value → Prop
  | .int k, v => ∃ n, v = .int k n ∧ (Lit.int k n).wf = true
  | .bool, v => ∃ b, v = .bool b
/-- A row of cells fits a row of scalars. -/
def Fits : List Sc → List Value → Prop
  | [], [] => True
  | s :: ss, v :: vs => s.fit v ∧ Fits ss vs
  | _, _ => False
theorem Fits.length : ∀ {ss : List Sc} {vs : List Value}, Fits ss vs → vs.length = ss.length
  | [], [], _ => rfl
  | _ :: _, _ :: _, h => by simp [Fits.length h.2]
  | [], _ :: _, h => h.elim
  | _ :: _, [], h => h.elim
theorem Fits.append : ∀ {ss tt : List Sc} {vs us : List Value}, Fits ss vs → Fits tt us → Fits (ss ++ tt) (vs ++ us)
  | [], _, [], _, _, h => h
  | _ :: _, _, _ :: _, _, h, k => ⟨h.1, Fits.append h.2 k⟩
  | [], _, _ :: _, _, h, _ => h.elim
  | _ :: _, _, [], _, h, _ => h.elim
theorem Fits.cons_iff {s : Sc} {ss : List Sc} {vs : List Value} : Fits (s :: ss) vs ↔ ∃ v us, vs = v :: us ∧ s.fit v ∧ Fits ss us := by
  cases vs with
  | nil => simp [Fits]
  | cons v us =>
    refine ⟨fun h => ⟨v, us, rfl, h⟩, fun ⟨v', us', e, h⟩ => ?_⟩
    obtain ⟨rfl, rfl⟩ := List.cons.inj e
    exact h
theorem Fits.nil_iff {vs : List Value} : Fits [] vs ↔ vs = [] := by cases vs <;> simp [Fits]
theorem Fits.split : ∀ {ss tt : List Sc} {vs : List Value}, Fits (ss ++ tt) vs → ∃ a b, vs = a ++ b ∧ Fits ss a ∧ Fits tt b
  | [], _, vs, h => ⟨[], vs, rfl, trivial, h⟩
  | s :: ss, tt, vs, h => by
    obtain ⟨v, us, rfl, h1, h2⟩ := Fits.cons_iff.1 h
    obtain ⟨a, b, rfl, h3, h4⟩ := Fits.split (ss := ss) h2
    exact ⟨v :: a, b, rfl, ⟨h1, h3⟩, h4⟩
/-- A row of bytes. -/
theorem Fits.bytes : ∀ {n : Nat} {vs : List Value}, Fits (List.replicate n (.int .u8)) vs → ∃ u : List UInt8, vs = bs u ∧ u.length = n
  | 0, vs, h => ⟨[], by rw [Fits.nil_iff.1 h]; rfl, rfl⟩
  | n + 1, vs, h => by
    rw [List.replicate_succ] at h
    obtain ⟨v, us, rfl, ⟨m, rfl, hm⟩, h2⟩ := Fits.cons_iff.1 h
    obtain ⟨u, rfl, rfl⟩ := Fits.bytes h2
    have hb := bounds_u8 hm
    refine ⟨UInt8.ofNat m.toNat :: u, ?_, rfl⟩
    rw [u8_of_int (by omega) (by omega)]; rfl
def flatF (P : Program) (g : TypeId → Option (List Sc)) : List Field → Nat → Option (List Sc)
  | [], _ => some []
  | f :: fs, off => if f.offset = off then (g f.type).bind fun l => if P.cellsOf f.type = l.length then (flatF P g fs (off + l.length)).map (l ++ ·) else none else none
def flatT (P : Program) : Nat → TypeId → Option (List Sc)
  | 0, _ => none
  | d + 1, t => match P.underlying t with
    | some (.int k) => some [.int k]
    | some .bool => some [.bool]
    | some (.struct fs) => (flatF P (flatT P d) fs.toList 0).bind fun l => if P.cellsOf t = l.length then some l else none
    | some (.array n e) => (flatT P d e).bind fun l => if P.cellsOf e = l.length ∧ P.cellsOf t = n * l.length then some (List.replicate n l).flatten else none
    | _ => none
section
variable {H : Type} {enc : TypeId × Value → H} {P : Program} {w : World} {base : Nat} {spare : Nat → Bool} {held : Bool}
/-- What is told of a slice that came in. -/
def InS (w : World) (sh : List Sc) (a : Option Addr) (len cap : Nat) : Prop :=
  (a = none ∧ len = 0 ∧ cap = 0) ∨ ∃ (x : Addr), a = some x ∧ len ≤ cap ∧ cap ≤ maxLen ∧
    (0 < len → ∃ (b off : Nat) (l : List Value) (T : TypeId) (fr : Nat × Nat), x = ⟨b, off, none⟩ ∧ w.heap[b]? = some (.cells l.toArray T fr) ∧ off + len * sh.length ≤ l.length ∧
      ∀ i, i < len → Fits sh ((l.drop (off + i * sh.length)).take sh.length))
end
end Go.Sl

/- Rows over bytes (own work). -/
set_option linter.unusedVariables false
namespace Go.Sl
open Go.RowKit
end Go.Sl

