/- walks (own work; the walks' lines by a program of this repo). -/
import Derived.Test.YtoaalclbplgegaaSkW
set_option linter.unusedVariables false
set_option linter.unusedSimpArgs false
set_option maxRecDepth 20000
namespace Go.Proofs.Ytoaalclbplgegaa
open Go.Sl
attribute [local irreducible] BodyQ WpC WpL WpS WpH OpW FnS


theorem rall_p {w0 : World} {H : Hp} {ga gb : SlG} {sa sb ea eb K k : Nat} {A B : List Sec} {ca cb : Nat} (hsa : H[sa]? = some (slSeg ea (some ga) (bs A.flatten))) (hsb : H[sb]? = some (slSeg eb (some gb) (bs B.flatten))) (hA : ∀ s ∈ A, s.length = 128) (hB : ∀ s ∈ B, s.length = 128) (hla : A.length = K) (hlb : B.length = K) (hk : k ≤ K) (hm : K ≤ 4096) :
    FnS Try.prog w0 17 #[.slice (some ⟨ga.b, 0, none⟩) k ca, .slice (some ⟨gb.b, 0, none⟩) k cb] H (fun e H' => e = .returned (.agg [Value.int .i64 (rK goodP A B k).1, .int .i64 (rK goodP A B k).2.1, .int .i64 (rK goodP A B k).2.2].toArray) ∧ H' = H) := by
  have hfa := flat_len hA
  have hfb := flat_len hB
  have la : (A.take k).length = k := by rw [List.length_take]; omega
  have lb : (B.take k).length = k := by rw [List.length_take]; omega
  have s1 : Sees (fun w => St w0 w H) ga.b (.cells (bs A.flatten ++ ga.sp).toArray ea) := sees_mem (List.mem_flatten.2 ⟨_, List.mem_of_getElem? hsa, by simp [slSeg]⟩)
  have s2 : Sees (fun w => St w0 w H) gb.b (.cells (bs B.flatten ++ gb.sp).toArray eb) := sees_mem (List.mem_flatten.2 ⟨_, List.mem_of_getElem? hsb, by simp [slSeg]⟩)
  have fa : (A.take k).flatten = A.flatten.take (k * 128) := (flat_take k hA (by omega)).symm
  have fb : (B.take k).flatten = B.flatten.take (k * 128) := (flat_take k hB (by omega)).symm
  have la2 := flat_len (take_ok (k := k) hA)
  have lb2 := flat_len (take_ok (k := k) hB)
  rw [la] at la2
  rw [lb] at lb2
  have h1 : Holds w0 H (some ⟨ga.b, 0, none⟩) (bs (A.take k).flatten) := holds_bytes s1 (by rw [List.drop_zero, List.take_append_of_le_length (by rw [bs_length, la2, hfa]; omega), bs_take, la2, ← fa])
  have h2 : Holds w0 H (some ⟨gb.b, 0, none⟩) (bs (B.take k).flatten) := holds_bytes s2 (by rw [List.drop_zero, List.take_append_of_le_length (by rw [bs_length, lb2, hfb]; omega), bs_take, lb2, ← fb])
  have := rall_s (ca := ca) (cb := cb) (take_ok (k := k) hA) (take_ok (k := k) hB) h1 h2 (la.trans lb.symm) (by omega)
  rw [la, lb, rK_take k (Nat.le_refl _)] at this
  exact this

set_option maxHeartbeats 4000000 in

theorem scrubsteps_s {w0 : World} {H : Hp} {pa pb2 : Option Addr} {ca cb : Nat} {la lb : List (UInt8 × UInt8)} (hA : Holds w0 H pa (bs (pb la))) (hB : Holds w0 H pb2 (bs (pb lb))) (c : Nat) (hc : c < 256) : FnS Try.prog w0 4 #[.slice pa la.length ca, .slice pb2 lb.length cb, .int .u8 (c : Int)] H (fun e H' => e = .returned (.bool true)) := by
  refine FnS_intro (n := 97) (rs := [.tmp 6]) (vs := [.slice pa la.length ca, .slice pb2 lb.length cb, .int .u8 (c : Int)]) Try.func4 rfl Try.ntmps4 rfl rfl ?_
  refine C_seq ?_
  refine C_region ?_
  refine L_y rfl (y_assign rfl) rfl ?_
  refine L_nil ?_
  refine C_seq ?_
  refine C_seq ?_
  refine C_region ?_
  refine L_op rfl (op_call rfl rfl (fun a w => Try.call13 a w) rfl ?_)
  refine awake10_s.mono ?_
  rintro _ _ ⟨rfl, e⟩
  obtain rfl := e.symm
  refine ⟨_, rfl, ?_⟩
  refine L_y rfl (y_not rfl) rfl ?_
  refine L_y rfl (y_move rfl) rfl ?_
  refine L_y rfl (y_move rfl) rfl ?_
  refine L_y rfl (y_lenS rfl rfl Try.underlying22) rfl ?_
  refine L_y rfl (y_gtr rfl rfl) rfl ?_
  refine L_y rfl (y_pick_f rfl rfl) rfl ?_
  refine L_y rfl (y_move rfl) rfl ?_
  refine L_case 24 rfl (fun hg1_8 => ?_) (fun hg1_8 => ?_)
  · skip
    refine L_skip rfl rfl ?_
    refine L_skip rfl rfl ?_
    refine L_skip rfl rfl ?_
    refine L_y rfl (y_pick_t rfl rfl) rfl ?_
    refine L_nil ?_
    refine C_cond_t rfl ?_
    refine C_seq ?_
    refine C_region ?_
    refine L_op rfl (op_call rfl rfl (fun a w => Try.call13 a w) rfl ?_)
    refine awake10_s.mono ?_
    rintro _ _ ⟨rfl, e⟩
    obtain rfl := e.symm
    refine ⟨_, rfl, ?_⟩
    refine L_y rfl (y_assign rfl) rfl ?_
    refine L_nil ?_
    refine C_ret ?_
    refine B_ret (rv_tmp rfl rv_nil) (HSub.refl _) ?_
    rfl
  · have q0 := of_decide_eq_false hg1_8
    refine L_y rfl (y_move rfl) rfl ?_
    refine L_y rfl (y_lenS rfl rfl Try.underlying22) rfl ?_
    refine L_y rfl (y_gtr rfl rfl) rfl ?_
    refine L_y rfl (y_pick_f rfl rfl) rfl ?_
    refine L_nil ?_
    refine C_cond rfl (fun hc0 => ?_) (fun hc0 => ?_)
    · replace hc0 := of_decide_eq_true hc0
      refine C_seq ?_
      refine C_region ?_
      refine L_op rfl (op_call rfl rfl (fun a w => Try.call13 a w) rfl ?_)
      refine awake10_s.mono ?_
      rintro _ _ ⟨rfl, e⟩
      obtain rfl := e.symm
      refine ⟨_, rfl, ?_⟩
      refine L_y rfl (y_assign rfl) rfl ?_
      refine L_nil ?_
      refine C_ret ?_
      refine B_ret (rv_tmp rfl rv_nil) (HSub.refl _) ?_
      rfl
    · replace hc0 := of_decide_eq_false hc0
      refine C_skip ?_
      refine C_seq ?_
      obtain ⟨K, hK⟩ : ∃ K, min la.length lb.length = K := ⟨_, rfl⟩
      have hK12 : K ≤ 12 := by omega
      refine C_region ?_
      refine L_y rfl (y_move rfl) rfl ?_
      refine L_y rfl (y_move rfl) rfl ?_
      refine L_op rfl (op_call rfl rfl (fun a w => Try.call14 a w) rfl ?_)
      refine FnS.mono (pair_v (la := la) (lb := lb) (K := K) (hA) (hB) (by omega) hK) ?_
      rintro _ _ ⟨D1, A1, m1, mb1, bx1, by1, bp1, ga1, gb1, hS1, hga1, hgb1, rfl, rfl⟩
      refine ⟨_, rfl, ?_⟩
      refine L_y rfl (y_move rfl) rfl ?_
      refine L_y rfl (y_extract rfl rfl) rfl ?_
      refine L_y rfl (y_extract rfl rfl) rfl ?_
      refine L_y rfl (y_extract rfl rfl) rfl ?_
      refine L_y rfl (y_extract rfl rfl) rfl ?_
      refine L_op rfl (op_alloc zl_27 rfl (fun B1 => ?_))
      refine L_y rfl (y_assign rfl) rfl ?_
      refine L_y rfl (y_assign rfl) rfl ?_
      refine L_y rfl (y_assign rfl) rfl ?_
      refine L_op rfl (op_store (vs := [slV ga1 K, slV gb1 K]) 0 0 rfl rfl rfl sz_27 rfl rfl (fun v hv => by simp at hv; rcases hv with rfl | rfl <;> exact one_slV _ _) (Nat.le_of_ble_eq_true rfl) ?_)
      refine L_nil ?_
      refine C_seq ?_
      obtain rfl := hS1.mb
      obtain rfl := hS1.bx
      obtain rfl := hS1.bys
      have hmn := hS1.n
      refine C_region ?_
      refine L_y rfl (y_move rfl) rfl ?_
      refine L_op rfl (op_call rfl rfl (fun a w => Try.call20 a w) rfl ?_)
      refine snew_s.mono ?_
      rintro _ _ ⟨wb, rfl, rfl⟩
      refine ⟨_, rfl, ?_⟩
      refine L_y rfl (y_assign rfl) rfl ?_
      refine L_nil ?_
      refine C_seq ?_
      refine C_seq ?_
      refine C_region ?_
      refine L_y rfl (y_indexA rfl rfl Try.underlying27 sz_26 (by omega) (by omega) (show _ = 0 from rfl)) rfl ?_
      refine L_y rfl (y_load rfl ag_26 (sees 1 0 rfl) rfl) rfl ?_
      refine L_y rfl (y_lenV hga1 rfl rfl Try.underlying26) rfl ?_
      refine L_y rfl (y_move rfl) rfl ?_
      refine L_nil ?_
      refine C_block ?_
      refine C_loop (ι := Duo × Nat) (fun i => [(42, .int .i64 ((K : Nat) : Int)), (43, .int .i64 (i.2 : Int)), (10, ptr B1), (11, ptr wb), (2, .int .u8 (c : Int))]) (fun i => [(wb, .cells (wcells m1.b ((i.2 : Nat) : Int) (scr m1 A1 goodP i.2).2.2).toArray 51)] :: (scr m1 A1 goodP i.2).2.1.seg 109 :: i.1.seg dt :: [(B1, .cells [slV ga1 K, slV gb1 K].toArray 27)] :: slSeg 37 ga1 (bs (prX la K).flatten) :: slSeg 37 gb1 (bs (prX lb K).flatten) :: H) (fun i => i.2 ≤ K ∧ Two dt i.1 (scr m1 A1 goodP i.2).1 m1.bx m1.bys bp1) (fun i => K - i.2) (D1, 0) ⟨Nat.zero_le _, hS1.two⟩ ⟨rfl, rfl, rfl, rfl, rfl, trivial⟩ ((hsub (.cons_cons _ (.cons_cons _ (.cons_cons _ (.cons_cons _ (.cons_cons _ (.cons_cons _ (.refl _)))))))).trans (hsub_pick [0, 1, 1, 0, 0, 0] rfl)) (fun i hi => ?_)
      obtain ⟨D, k⟩ := i
      obtain ⟨hk, hT⟩ := hi
      simp only at hk hT
      dsimp only
      refine C_seq ?_
      refine C_region ?_
      refine L_y rfl (y_lss rfl rfl) rfl ?_
      refine L_nil ?_
      refine C_seq ?_
      refine C_cond rfl (fun hc1 => ?_) (fun hc1 => ?_)
      · replace hc1 := of_decide_eq_true hc1
        cases ga1 with
        | none => exact slOk_none hga1 (by omega)
        | some ga1 => ?_
        cases gb1 with
        | none => exact slOk_none hgb1 (by omega)
        | some gb1 => ?_
        refine C_skip ?_
        refine C_seq ?_
        refine C_block ?_
        refine C_seq ?_
        refine C_region ?_
        refine L_y rfl (y_move rfl) rfl ?_
        refine L_y rfl (y_assign rfl) rfl ?_
        refine L_nil ?_
        refine C_seq ?_
        refine C_seq ?_
        refine C_regionH0 (by kernel_rfl) ?_
        refine H_y 0 rfl (by kernel_rfl) (by kernel_rfl) (by kernel_rfl) (HSub.refl _) rfl (y_move rfl) rfl ?_
        refine H_y 2 rfl (by kernel_rfl) (by kernel_rfl) (by kernel_rfl) (HSub.refl _) rfl (y_indexA rfl rfl Try.underlying27 sz_26 (by omega) (by omega) (show _ = 0 from rfl)) rfl ?_
        refine H_y 3 rfl (by kernel_rfl) (by kernel_rfl) (by kernel_rfl) (HSub.refl _) rfl (y_load rfl ag_26 (sees 3 0 rfl) rfl) rfl ?_
        refine H_y 4 rfl (by kernel_rfl) (by kernel_rfl) (by kernel_rfl) (HSub.refl _) rfl (y_move rfl) rfl ?_
        refine H_y 5 rfl (by kernel_rfl) (by kernel_rfl) (by kernel_rfl) (HSub.refl _) rfl (y_sliceS_hi rfl rfl Try.underlying26 sz_37 (by omega) (by have := hga1.2.2; omega)) rfl ?_
        refine H_y 6 rfl (by kernel_rfl) (by kernel_rfl) (by kernel_rfl) (HSub.refl _) rfl (y_indexA rfl rfl Try.underlying27 sz_26 (by omega) (by omega) (show _ = 1 from rfl)) rfl ?_
        refine H_y 7 rfl (by kernel_rfl) (by kernel_rfl) (by kernel_rfl) (HSub.refl _) rfl (y_load rfl ag_26 (sees 3 0 rfl) rfl) rfl ?_
        refine H_y 8 rfl (by kernel_rfl) (by kernel_rfl) (by kernel_rfl) (HSub.refl _) rfl (y_move rfl) rfl ?_
        refine H_y 9 rfl (by kernel_rfl) (by kernel_rfl) (by kernel_rfl) (HSub.refl _) rfl (y_sliceS_hi rfl rfl Try.underlying26 sz_37 (by omega) (by have := hgb1.2.2; omega)) rfl ?_
        refine H_one 1 rfl (by kernel_rfl) rfl (op_call rfl rfl (fun a w => Try.call21 a w) rfl ?_)
        obtain ⟨v0, e0, e1, e2⟩ := scr_view (p := goodP) hS1.vw hS1.n hS1.s0 hS1.s1 hS1.okX hS1.okY k (by omega)
        refine (report_s (sees 0 0 rfl)).mono ?_
        rintro _ _ ⟨e4, e⟩
        obtain rfl := e.symm
        rw [e2] at e4
        obtain rfl := e4
        refine ⟨_, rfl, ?_⟩
        refine ⟨HSub.refl _, ?_⟩
        refine H_one 10 rfl (by kernel_rfl) rfl (op_call rfl rfl (fun a w => Try.call17 a w) rfl ?_)
        refine FnS.mono (rall_p (A := prX la K) (B := prX lb K) (K := K) (k := k) (sa := 4) (sb := 5) rfl rfl hS1.okX hS1.okY hS1.vw.a.wlen hS1.vw.b.wlen (by omega) (by omega)) ?_
        rintro _ _ ⟨rfl, e⟩
        obtain rfl := e.symm
        refine ⟨_, rfl, ?_⟩
        refine ⟨HSub.refl _, ?_⟩
        refine H_one 11 rfl (by kernel_rfl) rfl (op_call rfl rfl (fun a w => Try.call15 a w) rfl ?_)
        refine (is_s _ _ _ _ _ _).mono ?_
        rintro _ _ ⟨rfl, e⟩
        obtain rfl := e.symm
        rw [if_pos ⟨rfl, rfl, rfl⟩]
        refine ⟨_, rfl, ?_⟩
        refine ⟨HSub.refl _, ?_⟩
        refine H_y 12 rfl (by kernel_rfl) (by kernel_rfl) (by kernel_rfl) (HSub.refl _) rfl (y_eqi rfl rfl) rfl ?_
        refine H_done (by kernel_rfl) ?_
        refine C_cond_f rfl ?_
        refine C_skip ?_
        refine C_seq ?_
        refine C_region ?_
        refine L_y rfl (y_move rfl) rfl ?_
        refine L_op rfl (op_call rfl rfl (fun a w => Try.call22 a w) rfl ?_)
        refine (FnS.sub (hsub_pick [0, 0, 0] rfl) (step_k (ms_good hS1.gv) (fun i => hS1.many (by omega) (by omega) i) (by omega) (by omega) hT)).mono ?_
        rintro _ _ ⟨rfl, D2, j, hj, hT2, rfl⟩
        rw [if_pos (by omega)] at hj
        rw [if_pos (by omega), decide_eq_true (show k < m1.n by omega)]
        subst hj
        refine ⟨_, rfl, ?_⟩
        refine L_y rfl (y_move rfl) rfl ?_
        refine L_y rfl (y_extract rfl rfl) rfl ?_
        refine L_y rfl (y_extract rfl rfl) rfl ?_
        refine L_y rfl (y_assign rfl) rfl ?_
        refine L_y rfl (y_assign rfl) rfl ?_
        refine L_nil ?_
        refine C_seq ?_
        refine C_region ?_
        refine L_y rfl (y_move rfl) rfl ?_
        refine L_y rfl (y_move rfl) rfl ?_
        refine L_y rfl (y_nei rfl rfl) rfl ?_
        refine L_y rfl (y_move rfl) rfl ?_
        refine L_case 67 rfl (fun hg11_4 => ?_) (fun hg11_4 => ?_)
        · exact absurd hg11_4 (by simp)
        · skip
          refine L_y rfl (y_move rfl) rfl ?_
          refine L_y rfl (y_not rfl) rfl ?_
          refine L_y rfl (y_pick_f rfl rfl) rfl ?_
          refine L_nil ?_
          refine C_cond_f rfl ?_
          refine C_skip ?_
          refine C_region ?_
          refine L_y rfl (y_add rfl rfl (wi64 (by omega) (by omega))) rfl ?_
          refine L_y rfl (y_move rfl) rfl ?_
          refine L_nil ?_
          exact ⟨(D2, k + 1), ⟨by simp only; omega, hT2⟩, by simp only; omega, ⟨rfl, rfl, rfl, rfl, rfl, trivial⟩, ((hsub (.cons_cons _ (.cons_cons _ (.cons_cons _ (.cons_cons _ (.cons_cons _ (.cons_cons _ (.refl _)))))))).trans (hsub_pick [0, 0, 0, 0, 0, 0] rfl))⟩
      · replace hc1 := of_decide_eq_false hc1
        refine C_exit ?_
        refine C_seq ?_
        refine C_seq ?_
        obtain rfl : K = k := by omega
        refine C_region ?_
        refine L_y rfl (y_move rfl) rfl ?_
        refine L_y rfl (y_conv rfl us_5 Try.underlying3 (wi64 (by omega) (by omega))) rfl ?_
        refine L_y rfl (y_rem rfl rfl (by decide) (show _ = ((c % 4 : Nat) : Int) from rfl)) rfl ?_
        refine L_y rfl (y_move rfl) rfl ?_
        refine L_nil ?_
        refine C_block ?_
        refine C_loop (ι := Duo × Nat) (fun i => [(74, .int .i64 ((c % 4 : Nat) : Int)), (75, .int .i64 (i.2 : Int)), (10, ptr B1), (11, ptr wb)]) (fun i => [(wb, .cells (wcells m1.b ((K : Nat) : Int) (scr m1 A1 goodP K).2.2).toArray 51)] :: (scr m1 A1 goodP K).2.1.seg 109 :: i.1.seg dt :: [(B1, .cells [slV ga1 K, slV gb1 K].toArray 27)] :: slSeg 37 ga1 (bs (prX la K).flatten) :: slSeg 37 gb1 (bs (prX lb K).flatten) :: H) (fun i => i.2 ≤ c % 4 ∧ Two dt i.1 (scr m1 A1 goodP K).1 m1.bx m1.bys bp1) (fun i => c % 4 - i.2) (D, 0) ⟨Nat.zero_le _, hT⟩ ⟨rfl, rfl, rfl, rfl, trivial⟩ (HSub.refl _) (fun i hi => ?_)
        obtain ⟨D, q⟩ := i
        obtain ⟨hq, hT⟩ := hi
        simp only at hq hT
        dsimp only
        refine C_seq ?_
        refine C_region ?_
        refine L_y rfl (y_lss rfl rfl) rfl ?_
        refine L_nil ?_
        refine C_seq ?_
        refine C_cond rfl (fun hc4 => ?_) (fun hc4 => ?_)
        · replace hc4 := of_decide_eq_true hc4
          refine C_skip ?_
          refine C_seq ?_
          refine C_block ?_
          refine C_seq ?_
          refine C_region ?_
          refine L_y rfl (y_move rfl) rfl ?_
          refine L_op rfl (op_call rfl rfl (fun a w => Try.call22 a w) rfl ?_)
          refine (FnS.sub (hsub_pick [0, 0, 0] rfl) (step_k (ms_good hS1.gv) (fun i => hS1.many (by omega) (by omega) i) (by omega) (by omega) hT)).mono ?_
          rintro _ _ ⟨rfl, D2, j, hj, hT2, rfl⟩
          rw [if_neg (by omega)] at hj
          rw [if_neg (by omega), decide_eq_false (by omega)]
          subst hj
          refine ⟨_, rfl, ?_⟩
          refine L_y rfl (y_move rfl) rfl ?_
          refine L_y rfl (y_extract rfl rfl) rfl ?_
          refine L_y rfl (y_extract rfl rfl) rfl ?_
          refine L_y rfl (y_assign rfl) rfl ?_
          refine L_y rfl (y_assign rfl) rfl ?_
          refine L_nil ?_
          refine C_seq ?_
          refine C_region ?_
          refine L_y rfl (y_move rfl) rfl ?_
          refine L_y rfl (y_nei rfl rfl) rfl ?_
          refine L_y rfl (y_move rfl) rfl ?_
          refine L_y rfl (y_move rfl) rfl ?_
          refine L_y rfl (y_pick_f rfl rfl) rfl ?_
          refine L_nil ?_
          refine C_cond_f rfl ?_
          refine C_skip ?_
          refine C_region ?_
          refine L_y rfl (y_add rfl rfl (wi64 (by omega) (by omega))) rfl ?_
          refine L_y rfl (y_move rfl) rfl ?_
          refine L_nil ?_
          exact ⟨(D2, q + 1), ⟨by simp only; omega, hT2⟩, by simp only; omega, ⟨rfl, rfl, rfl, rfl, trivial⟩, ((hsub (.cons_cons _ (.cons_cons _ (.cons_cons _ (.cons_cons _ (.cons_cons _ (.cons_cons _ (.refl _)))))))).trans (hsub_pick [0, 0, 0, 0, 0, 0] rfl))⟩
        · replace hc4 := of_decide_eq_false hc4
          refine C_exit ?_
          refine C_seq ?_
          refine C_regionH0 (by kernel_rfl) ?_
          refine H_y 0 rfl (by kernel_rfl) (by kernel_rfl) (by kernel_rfl) (HSub.refl _) rfl (y_move rfl) rfl ?_
          refine H_y 2 rfl (by kernel_rfl) (by kernel_rfl) (by kernel_rfl) (HSub.refl _) rfl (y_indexA rfl rfl Try.underlying27 sz_26 (by omega) (by omega) (show _ = 0 from rfl)) rfl ?_
          refine H_y 3 rfl (by kernel_rfl) (by kernel_rfl) (by kernel_rfl) (HSub.refl _) rfl (y_load rfl ag_26 (sees 3 0 rfl) rfl) rfl ?_
          refine H_y 4 rfl (by kernel_rfl) (by kernel_rfl) (by kernel_rfl) (HSub.refl _) rfl (y_indexA rfl rfl Try.underlying27 sz_26 (by omega) (by omega) (show _ = 1 from rfl)) rfl ?_
          refine H_y 5 rfl (by kernel_rfl) (by kernel_rfl) (by kernel_rfl) (HSub.refl _) rfl (y_load rfl ag_26 (sees 3 0 rfl) rfl) rfl ?_
          refine H_one 1 rfl (by kernel_rfl) rfl (op_call rfl rfl (fun a w => Try.call21 a w) rfl ?_)
          obtain ⟨v0, e0, e1, e2⟩ := scr_view (p := goodP) hS1.vw hS1.n hS1.s0 hS1.s1 hS1.okX hS1.okY K (by omega)
          refine (report_s (sees 0 0 rfl)).mono ?_
          rintro _ _ ⟨e4, e⟩
          obtain rfl := e.symm
          rw [e2] at e4
          obtain rfl := e4
          refine ⟨_, rfl, ?_⟩
          refine ⟨HSub.refl _, ?_⟩
          refine H_one 6 rfl (by kernel_rfl) rfl (op_call rfl rfl (fun a w => Try.call17 a w) rfl ?_)
          refine FnS.mono (rall_v (A := (prX la K)) (B := (prX lb K)) (sa := 4) (sb := 5) rfl rfl hga1 hgb1 hS1.okX hS1.okY hS1.vw.a.wlen hS1.vw.b.wlen (by omega) rfl) ?_
          rintro _ _ ⟨rfl, e⟩
          obtain rfl := e.symm
          refine ⟨_, rfl, ?_⟩
          refine ⟨HSub.refl _, ?_⟩
          refine H_one 7 rfl (by kernel_rfl) rfl (op_call rfl rfl (fun a w => Try.call15 a w) rfl ?_)
          refine (is_s _ _ _ _ _ _).mono ?_
          rintro _ _ ⟨rfl, e⟩
          obtain rfl := e.symm
          rw [if_pos ⟨rfl, rfl, rfl⟩]
          refine ⟨_, rfl, ?_⟩
          refine ⟨HSub.refl _, ?_⟩
          refine H_y 8 rfl (by kernel_rfl) (by kernel_rfl) (by kernel_rfl) (HSub.refl _) rfl (y_eqi rfl rfl) rfl ?_
          refine H_y 9 rfl (by kernel_rfl) (by kernel_rfl) (by kernel_rfl) (HSub.refl _) rfl (y_assign rfl) rfl ?_
          refine H_done (by kernel_rfl) ?_
          refine C_ret ?_
          refine B_ret (rv_tmp rfl rv_nil) (HSub.refl _) ?_
          rfl

end Go.Proofs.Ytoaalclbplgegaa
