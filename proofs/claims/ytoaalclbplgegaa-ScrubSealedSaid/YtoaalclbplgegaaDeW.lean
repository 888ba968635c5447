/- walks (own work; the walks' lines by a program of this repo). -/
import Derived.Test.YtoaalclbplgegaaDmW
import Derived.Test.YtoaalclbplgegaaSlR
set_option linter.unusedVariables false
set_option linter.unusedSimpArgs false
set_option maxRecDepth 20000
namespace Go.Proofs.Ytoaalclbplgegaa
open Go.Sl
attribute [local irreducible] BodyQ WpC WpL WpS WpH OpW FnS


theorem read_nil {w0 : World} {H : Hp} (n : Int) : FnS Try.prog w0 19 #[.pointer none, .int .i64 n] H (fun e H' => e = .returned (.tuple #[.agg (bs (secOf 0)).toArray, .int .i64 1]) ∧ H' = H) := by
  refine FnS_intro (n := 42) (rs := [.cell 4 37, .cell 5 40]) (vs := [.pointer none, .int .i64 n]) Try.func19 rfl Try.ntmps19 rfl rfl ?_
  refine C_seq ?_
  refine C_region ?_
  refine L_op rfl (op_box rfl rfl rfl (fun B1 => ?_))
  refine L_op rfl (op_alloc zl_37 rfl (fun B2 => ?_))
  refine L_op rfl (op_alloc zl_40 rfl (fun B3 => ?_))
  refine L_nil ?_
  refine C_seq ?_
  refine C_block ?_
  refine C_seq ?_
  refine C_region ?_
  refine L_y rfl (y_move rfl) rfl ?_
  refine L_y rfl (y_eqp rfl rfl Try.underlying24) rfl ?_
  refine L_y rfl (y_assign rfl) rfl ?_
  refine L_nil ?_
  refine C_cond_t rfl ?_
  refine C_seq ?_
  refine C_region ?_
  refine L_y rfl (y_buildA0 Try.underlying37 sz_5 zl_37) rfl ?_
  refine L_op rfl (op_storeA 1 0 rfl rfl rfl sz_37 (by simp) rfl (by rw [zsec]; exact bs_one _) (by simp) ?_)
  rw [zsec]
  refine L_op rfl (op_store1 0 0 rfl rfl rfl sz_40 rfl (Nat.le_of_ble_eq_true rfl) ?_)
  refine L_nil ?_
  refine C_ret ?_
  refine B_ret (rv_cellA rfl ag_37 sz_37 (sees 1 0 rfl) (by rw [bs_length, secOf_len]; decide) (bs_whole0 _ (secOf_len 0)) (rv_cell1 rfl ag_40 (sees 0 0 rfl) rfl rv_nil)) (hsub (.cons _ (.cons _ (.cons _ (.refl _))))) ?_
  exact ⟨rfl, rfl⟩

theorem read_down {w0 : World} {H : Hp} {d : Dv} {p : Pw} (hD : Sees (fun w => St w0 w H) d.b (.cells d.cells.toArray dt.dev)) (hP : Sees (fun w => St w0 w H) d.pw (.cells p.cells.toArray dt.pow)) (n : Int) (hdn : (d.a.out || p.a.off) = true) : FnS Try.prog w0 19 #[ptr d.b, .int .i64 n] H (fun e H' => e = .returned (.tuple #[.agg (bs (secOf 0)).toArray, .int .i64 13]) ∧ H' = H) := by
  refine FnS_intro (n := 42) (rs := [.cell 4 37, .cell 5 40]) (vs := [ptr d.b, .int .i64 n]) Try.func19 rfl Try.ntmps19 rfl rfl ?_
  refine C_seq ?_
  refine C_region ?_
  refine L_op rfl (op_box rfl rfl rfl (fun B1 => ?_))
  refine L_op rfl (op_alloc zl_37 rfl (fun B2 => ?_))
  refine L_op rfl (op_alloc zl_40 rfl (fun B3 => ?_))
  refine L_nil ?_
  refine C_seq ?_
  refine C_block ?_
  refine C_seq ?_
  refine C_region ?_
  refine L_y rfl (y_move rfl) rfl ?_
  refine L_y rfl (y_eqp rfl rfl Try.underlying24) rfl ?_
  refine L_y rfl (y_assign rfl) rfl ?_
  refine L_nil ?_
  refine C_cond_f rfl ?_
  refine C_seq ?_
  refine C_region ?_
  refine L_y rfl (y_move rfl) rfl ?_
  refine L_op rfl (op_call rfl rfl (fun a w => Try.call44 a w) rfl ?_)
  refine (down_s d p (hD.up.up.up) (hP.up.up.up)).mono ?_
  rintro _ _ ⟨rfl, rfl⟩
  rw [hdn]
  refine ⟨_, rfl, ?_⟩
  refine L_y rfl (y_assign rfl) rfl ?_
  refine L_nil ?_
  refine C_cond_t rfl ?_
  refine C_seq ?_
  refine C_region ?_
  refine L_y rfl (y_buildA0 Try.underlying37 sz_5 zl_37) rfl ?_
  refine L_op rfl (op_storeA 1 0 rfl rfl rfl sz_37 (by simp) rfl (by rw [zsec]; exact bs_one _) (by simp) ?_)
  rw [zsec]
  refine L_op rfl (op_store1 0 0 rfl rfl rfl sz_40 rfl (Nat.le_of_ble_eq_true rfl) ?_)
  refine L_nil ?_
  refine C_ret ?_
  refine B_ret (rv_cellA rfl ag_37 sz_37 (sees 1 0 rfl) (by rw [bs_length, secOf_len]; decide) (bs_whole0 _ (secOf_len 0)) (rv_cell1 rfl ag_40 (sees 0 0 rfl) rfl rv_nil)) (hsub (.cons _ (.cons _ (.cons _ (.refl _))))) ?_
  exact ⟨rfl, rfl⟩

theorem read_out {w0 : World} {H : Hp} {d : Dv} {p : Pw} (hD : Sees (fun w => St w0 w H) d.b (.cells d.cells.toArray dt.dev)) (hP : Sees (fun w => St w0 w H) d.pw (.cells p.cells.toArray dt.pow)) (n : Int) (hdn : (d.a.out || p.a.off) = false) (hth : (decide (0 ≤ n) && decide (n < d.a.S.length)) = false) : FnS Try.prog w0 19 #[ptr d.b, .int .i64 n] H (fun e H' => e = .returned (.tuple #[.agg (bs (secOf 0)).toArray, .int .i64 2]) ∧ H' = H) := by
  refine FnS_intro (n := 42) (rs := [.cell 4 37, .cell 5 40]) (vs := [ptr d.b, .int .i64 n]) Try.func19 rfl Try.ntmps19 rfl rfl ?_
  refine C_seq ?_
  refine C_region ?_
  refine L_op rfl (op_box rfl rfl rfl (fun B1 => ?_))
  refine L_op rfl (op_alloc zl_37 rfl (fun B2 => ?_))
  refine L_op rfl (op_alloc zl_40 rfl (fun B3 => ?_))
  refine L_nil ?_
  refine C_seq ?_
  refine C_block ?_
  refine C_seq ?_
  refine C_region ?_
  refine L_y rfl (y_move rfl) rfl ?_
  refine L_y rfl (y_eqp rfl rfl Try.underlying24) rfl ?_
  refine L_y rfl (y_assign rfl) rfl ?_
  refine L_nil ?_
  refine C_cond_f rfl ?_
  refine C_seq ?_
  refine C_region ?_
  refine L_y rfl (y_move rfl) rfl ?_
  refine L_op rfl (op_call rfl rfl (fun a w => Try.call44 a w) rfl ?_)
  refine (down_s d p (hD.up.up.up) (hP.up.up.up)).mono ?_
  rintro _ _ ⟨rfl, rfl⟩
  rw [hdn]
  refine ⟨_, rfl, ?_⟩
  refine L_y rfl (y_assign rfl) rfl ?_
  refine L_nil ?_
  refine C_cond_f rfl ?_
  refine C_seq ?_
  refine C_region ?_
  refine L_y rfl (y_move rfl) rfl ?_
  refine L_y rfl (y_load rfl ag_3 (sees 2 0 rfl) rfl) rfl ?_
  refine L_op rfl (op_call rfl rfl (fun a w => Try.call45 a w) rfl ?_)
  refine (there_s d _ (hD.up.up.up)).mono ?_
  rintro _ _ ⟨rfl, rfl⟩
  rw [hth]
  refine ⟨_, rfl, ?_⟩
  refine L_y rfl (y_not rfl) rfl ?_
  refine L_y rfl (y_assign rfl) rfl ?_
  refine L_nil ?_
  refine C_cond_t rfl ?_
  refine C_seq ?_
  refine C_region ?_
  refine L_y rfl (y_buildA0 Try.underlying37 sz_5 zl_37) rfl ?_
  refine L_op rfl (op_storeA 1 0 rfl rfl rfl sz_37 (by simp) rfl (by rw [zsec]; exact bs_one _) (by simp) ?_)
  rw [zsec]
  refine L_op rfl (op_store1 0 0 rfl rfl rfl sz_40 rfl (Nat.le_of_ble_eq_true rfl) ?_)
  refine L_nil ?_
  refine C_ret ?_
  refine B_ret (rv_cellA rfl ag_37 sz_37 (sees 1 0 rfl) (by rw [bs_length, secOf_len]; decide) (bs_whole0 _ (secOf_len 0)) (rv_cell1 rfl ag_40 (sees 0 0 rfl) rfl rv_nil)) (hsub (.cons _ (.cons _ (.cons _ (.refl _))))) ?_
  exact ⟨rfl, rfl⟩

theorem backward_s {w0 : World} {H : Hp} {g : Option SlG} {m : Nat} : FnS Try.prog w0 46 #[slV g m] H (fun e H' => ∃ B, e = .returned (.func (.func 66) #[] #[ptr B]) ∧ H' = [(B, .cells [slV g m].toArray 93)] :: H) := by
  refine FnS_intro (n := 4) (rs := [.tmp 2]) (vs := [slV g m]) Try.func46 rfl Try.ntmps46 rfl rfl ?_
  refine C_seq ?_
  refine C_region ?_
  refine L_op rfl (op_box (l := [slV g m]) rfl (by cases g <;> rfl) rfl (fun B1 => ?_))
  refine L_y rfl (y_assign rfl) rfl ?_
  refine L_nil ?_
  refine C_seq ?_
  refine C_region ?_
  refine L_y rfl (y_makeFunc rfl rfl) rfl ?_
  refine L_y rfl (y_assign rfl) rfl ?_
  refine L_nil ?_
  refine C_ret ?_
  refine B_ret (rv_tmp rfl rv_nil) (HSub.refl _) ?_
  exact ⟨B1, rfl, rfl⟩

theorem iter_s {w0 : World} {y B : Nat} {g : Option SlG} {Q : List (Nat × Sec)} (HR : Nat → Hp) (I : Nat → Prop) (X : Hp → Prop) (hq : slOk 129 g Q.length (wcs Q)) (hl : Q.length ≤ 100000) (hQ128 : ∀ x ∈ Q, x.2.length = 128) (hI : I Q.length) (hB : ∀ i, Sees (fun w => St w0 w (HR i)) B (.cells [slV g Q.length].toArray 93)) (hQ : ∀ gg i, g = some gg → Sees (fun w => St w0 w (HR i)) gg.b (.cells (wcs Q ++ gg.sp).toArray 95)) (hround : ∀ i x, Q[i]? = some x → I (i + 1) → YS Try.prog w0 y #[.int .i64 (i : Int), .agg (.int .i64 (x.1 : Int) :: bs x.2).toArray] (HR (i + 1)) (fun e H' => ∃ b, e = .returned (.bool b) ∧ (b = true → H' = HR i ∧ I i) ∧ (b = false → X H'))) : FnS Try.prog w0 66 #[.func (.yield y) #[] #[], ptr B] (HR Q.length) (fun e H' => e = .returned (.tuple #[]) ∧ ((H' = HR 0 ∧ I 0) ∨ X H')) := by
  refine FnSI_intro (k := 19) (rs := []) (vs := [.func (.yield y) #[] #[], ptr B]) Try.func66 rfl Try.ntmps66 rfl rfl ?_
  refine CI_seq ?_
  refine CI_region ?_
  refine LI_y rfl (y_load rfl ag_93 (hB _) rfl) rfl ?_
  refine LI_y rfl (y_lenV hq rfl rfl Try.underlying93) rfl ?_
  refine LI_y rfl (y_sub rfl rfl (wi64 (by omega) (by omega))) rfl ?_
  refine LI_y rfl (y_assign rfl) rfl ?_
  refine LI_nil ?_
  refine CI_block ?_
  refine CI_loop (ι := Nat) (fun i => [(0, .func (.yield y) #[] #[]), (1, ptr B), (3, .int .i64 ((i : Int) - 1))]) (fun i => HR i) (fun i => i ≤ Q.length ∧ I i) (fun i => i) Q.length ⟨Nat.le_refl _, hI⟩ ⟨rfl, rfl, rfl, trivial⟩ (HSub.refl _) (fun i hi => ?_)
  skip
  refine CI_seq ?_
  refine CI_seq ?_
  refine CI_region ?_
  refine LI_y rfl (y_move rfl) rfl ?_
  refine LI_y rfl (y_geq rfl rfl) rfl ?_
  refine LI_nil ?_
  refine CI_cond rfl (fun hc0 => ?_) (fun hc0 => ?_)
  · replace hc0 := of_decide_eq_true hc0
    refine CI_skip ?_
    refine CI_seq ?_
    refine CI_block ?_
    refine CI_seq ?_
    obtain ⟨j, rfl⟩ : ∃ j, i = j + 1 := ⟨i - 1, by omega⟩
    rw [show (((j + 1 : Nat) : Int) - 1) = (j : Int) from by omega]
    obtain ⟨x, hx⟩ : ∃ x, Q[j]? = some x := ⟨_, List.getElem?_eq_getElem (by omega)⟩
    have hwl := wcs_len hQ128
    cases g with
    | none => exact absurd hq.2 (by omega)
    | some g => ?_
    refine CI_region ?_
    refine LI_y rfl (y_move rfl) rfl ?_
    refine LI_y rfl (y_move rfl) rfl ?_
    refine LI_y rfl (y_load rfl ag_93 (hB _) rfl) rfl ?_
    refine LI_y rfl (y_move rfl) rfl ?_
    refine LI_y rfl (y_indexS rfl rfl Try.underlying93 sz_95 (by omega) (by omega) (show _ = j * 129 from by simp)) rfl ?_
    refine LI_y rfl (y_loadA rfl ag_95 sz_95 (hQ g _ rfl) (by rw [List.length_append, hwl]; omega) (wcs_get _ hQ128 hx)) rfl ?_
    refine LI_yield rfl rfl rfl ((hround j x hx hi.2).mono ?_)
    rintro e H2 ⟨b, rfl, hT, hX⟩
    refine ⟨_, rfl, ?_⟩
    refine LI_y rfl (y_not rfl) rfl ?_
    refine LI_nil ?_
    refine CI_cond rfl (fun hc1 => ?_) (fun hc1 => ?_)
    · have hb : b = false := by simpa using hc1
      refine CI_ret ?_
      refine B_ret rv_nil (HSub.refl _) ?_
      first
      | exact ⟨rfl, .inr (hX hb)⟩
      | (obtain rfl : i = 0 := by omega
         exact ⟨rfl, .inl ⟨rfl, hi.2⟩⟩)
    · have hb : b = true := by simpa using hc1
      refine CI_skip ?_
      refine CI_region ?_
      refine LI_y rfl (y_move rfl) rfl ?_
      refine LI_y rfl (y_sub rfl rfl (wi64 (by omega) (by omega))) rfl ?_
      refine LI_y rfl (y_assign rfl) rfl ?_
      refine LI_nil ?_
      exact ⟨j, ⟨by omega, (hT hb).2⟩, by omega, ⟨rfl, rfl, rfl, trivial⟩, by rw [(hT hb).1]; exact HSub.refl _⟩
  · replace hc0 := of_decide_eq_false hc0
    refine CI_exit ?_
    refine B_end rv_nil (HSub.refl _) ?_
    first
    | exact ⟨rfl, .inr (hX hb)⟩
    | (obtain rfl : i = 0 := by omega
       exact ⟨rfl, .inl ⟨rfl, hi.2⟩⟩)

theorem read_go {w0 : World} {H : Hp} {d : Dv} {p : Pw} (hd : d.ok) (hD : Sees (fun w => St w0 w H) d.b (.cells d.cells.toArray dt.dev)) (hP : Sees (fun w => St w0 w H) d.pw (.cells p.cells.toArray dt.pow)) (hT : Sees (fun w => St w0 w H) d.st (.cells (bs d.a.S.flatten).toArray dt.sec)) (hQs : ∀ gg, d.g = some gg → Sees (fun w => St w0 w H) gg.b (.cells (wcs d.a.Q ++ gg.sp).toArray dt.wr)) (n : Nat) (hn : n < d.a.S.length) (hdn : (d.a.out || p.a.off) = false) :
    FnS Try.prog w0 19 #[ptr d.b, .int .i64 (n : Int)] H (fun e H' => e = .returned (.tuple #[.agg (bs (d.a.read n)).toArray, .int .i64 0]) ∧ H' = H) := by
  have hth : (decide ((0 : Int) ≤ (n : Int)) && decide ((n : Int) < d.a.S.length)) = true := by simp; omega
  obtain ⟨s, hs⟩ : ∃ s, d.a.S[n]? = some s := ⟨_, List.getElem?_eq_getElem hn⟩
  have hs1 := hd.1.1 s (List.mem_of_getElem? hs)
  have hfl := flat_len hd.1.1
  have hQ128 : ∀ x ∈ d.a.Q, x.2.length = 128 := fun x hx => (hd.1.2.2.1 x hx).2
  refine FnSM_intro (k := 42) (vs := [ptr d.b, .int .i64 (n : Int)]) Try.func19 rfl Try.ntmps19 rfl ?_
  refine T_seq ?_
  refine C_region ?_
  refine L_op rfl (op_box rfl rfl rfl (fun B1 => ?_))
  refine L_op rfl (op_alloc zl_37 rfl (fun B2 => ?_))
  refine L_op rfl (op_alloc zl_40 rfl (fun B3 => ?_))
  refine L_nil ?_
  refine T_seq ?_
  refine C_block ?_
  refine C_seq ?_
  refine C_region ?_
  refine L_y rfl (y_move rfl) rfl ?_
  refine L_y rfl (y_eqp rfl rfl Try.underlying24) rfl ?_
  refine L_y rfl (y_assign rfl) rfl ?_
  refine L_nil ?_
  refine C_cond_f rfl ?_
  refine C_seq ?_
  refine C_region ?_
  refine L_y rfl (y_move rfl) rfl ?_
  refine L_op rfl (op_call rfl rfl (fun a w => Try.call44 a w) rfl ?_)
  refine (down_s d p (hD.up.up.up) (hP.up.up.up)).mono ?_
  rintro _ _ ⟨rfl, rfl⟩
  rw [hdn]
  refine ⟨_, rfl, ?_⟩
  refine L_y rfl (y_assign rfl) rfl ?_
  refine L_nil ?_
  refine C_cond_f rfl ?_
  refine C_seq ?_
  refine C_region ?_
  refine L_y rfl (y_move rfl) rfl ?_
  refine L_y rfl (y_load rfl ag_3 (sees 2 0 rfl) rfl) rfl ?_
  refine L_op rfl (op_call rfl rfl (fun a w => Try.call45 a w) rfl ?_)
  refine (there_s d _ (hD.up.up.up)).mono ?_
  rintro _ _ ⟨rfl, rfl⟩
  rw [hth]
  refine ⟨_, rfl, ?_⟩
  refine L_y rfl (y_not rfl) rfl ?_
  refine L_y rfl (y_assign rfl) rfl ?_
  refine L_nil ?_
  refine C_cond_f rfl ?_
  refine C_skip ?_
  refine T_seqT ?_
  refine T_seq ?_
  refine C_region ?_
  refine L_y rfl (y_move rfl) rfl ?_
  refine L_y rfl (y_nilCheck rfl) rfl ?_
  refine L_y rfl (y_fieldAddr rfl fl_97_2) rfl ?_
  refine L_y rfl (y_load rfl ag_93 (hD.up.up.up) rfl) rfl ?_
  refine L_op rfl (op_call rfl rfl (fun a w => Try.call46 a w) rfl ?_)
  refine backward_s.mono ?_
  rintro _ _ ⟨B4, rfl, rfl⟩
  refine ⟨_, rfl, ?_⟩
  refine L_nil ?_
  refine T_range (f := 66) (cap := [ptr B4]) (KN := fun Hr => Hr = ([(B4, .cells [slV d.g d.a.Q.length].toArray 93)] :: [(B3, .cells [Value.int .i64 0].toArray 40)] :: [(B2, .cells (List.replicate 128 (Value.int .u8 0)).toArray 37)] :: [(B1, .cells [Value.int .i64 (n : Int)].toArray 3)] :: H) ∧ noneFrom d.a.Q n 0) (KX := fun Hr => ∃ (i : Nat) (x : Nat × Sec), d.a.Q[i]? = some x ∧ x.1 = n ∧ noneFrom d.a.Q n (i + 1) ∧ Hr = ([(B4, .cells [slV d.g d.a.Q.length].toArray 93)] :: [(B3, .cells [Value.int .i64 0].toArray 40)] :: [(B2, .cells (bs x.2).toArray 37)] :: [(B1, .cells [Value.int .i64 (n : Int)].toArray 3)] :: H)) rfl (fun a w => Try.call66 a w) (fun l db fn tmps rc hrc hfr => ?_) (fun db Hr a w hk ha hw => ?_) (fun db Hr a w hk ha hw => ?_)
  · refine (iter_s (g := d.g) (Q := d.a.Q) (fun _ => [(l, .loop rc)] :: [(db, .deferred (some []))] :: ([(B4, .cells [slV d.g d.a.Q.length].toArray 93)] :: [(B3, .cells [Value.int .i64 0].toArray 40)] :: [(B2, .cells (List.replicate 128 (Value.int .u8 0)).toArray 37)] :: [(B1, .cells [Value.int .i64 (n : Int)].toArray 3)] :: H)) (noneFrom d.a.Q n) (fun H' => ∃ (i : Nat) (x : Nat × Sec), d.a.Q[i]? = some x ∧ x.1 = n ∧ noneFrom d.a.Q n (i + 1) ∧ H' = [(l, .loop { rc with state := .done, pending := some .ret })] :: [(db, .deferred (some []))] :: ([(B4, .cells [slV d.g d.a.Q.length].toArray 93)] :: [(B3, .cells [Value.int .i64 0].toArray 40)] :: [(B2, .cells (bs x.2).toArray 37)] :: [(B1, .cells [Value.int .i64 (n : Int)].toArray 3)] :: H)) hd.2.1 hd.2.2 hQ128 (noneFrom_len _ _) (fun i => sees 2 0 rfl) (fun gg i hg => (hQs gg hg).up.up.up.up.up.up) (fun i x hx hI => ?_)).mono ?_
    · subst hrc
      have hx128 := hQ128 x (List.mem_of_getElem? hx)
      refine (round_s (k := 42) (RT := fun b Hx => if b then Hx = [(db, .deferred (some []))] :: ([(B4, .cells [slV d.g d.a.Q.length].toArray 93)] :: [(B3, .cells [Value.int .i64 0].toArray 40)] :: [(B2, .cells (List.replicate 128 (Value.int .u8 0)).toArray 37)] :: [(B1, .cells [Value.int .i64 (n : Int)].toArray 3)] :: H) ∧ x.1 ≠ n else Hx = [(db, .deferred (some []))] :: ([(B4, .cells [slV d.g d.a.Q.length].toArray 93)] :: [(B3, .cells [Value.int .i64 0].toArray 40)] :: [(B2, .cells (bs x.2).toArray 37)] :: [(B1, .cells [Value.int .i64 (n : Int)].toArray 3)] :: H) ∧ x.1 = n) rfl rfl rfl (frOk_two hfr (by decide) (by decide)) ?_).mono ?_
      · refine CI_region ?_
        refine LI_op rfl rfl (op_alloc zl_95 rfl (fun B5 => ?_))
        refine LI_op rfl rfl (op_storeA 0 0 rfl rfl rfl sz_95 (by simp [bs_length, hx128]) rfl (one_wr _ _) rfl ?_)
        refine LI_nil ?_
        refine ⟨_, hsub_pick [1] rfl, ?_⟩
        refine CI_block ?_
        refine CI_seq ?_
        refine CI_region ?_
        refine LI_y rfl (y_fieldAddr rfl fl_95_0) rfl ?_
        refine LI_y rfl (y_load rfl ag_3 (sees 1 0 rfl) rfl) rfl ?_
        refine LI_y rfl (y_load rfl ag_3 (sees 6 0 rfl) rfl) rfl ?_
        refine LI_y rfl (y_eqi rfl rfl) rfl ?_
        refine LI_nil ?_
        refine CI_cond rfl (fun hc3 => ?_) (fun hc3 => ?_)
        · replace hc3 : x.1 = n := by have := of_decide_eq_true hc3; omega
          refine CI_seq ?_
          refine CI_region ?_
          refine LI_y rfl (y_fieldAddr rfl fl_95_1) rfl ?_
          refine LI_y rfl (y_loadA rfl ag_37 sz_37 (sees 1 0 rfl) (by simp [bs_length, hx128]) (bs_whole x.2 hx128)) rfl ?_
          refine LI_op rfl rfl (op_storeA 5 0 rfl rfl rfl sz_37 (by rw [bs_length, hx128]) rfl (bs_one _) (by simp) ?_)
          refine LI_op rfl rfl (op_store1 4 0 rfl rfl rfl sz_40 rfl (Nat.le_of_ble_eq_true rfl) ?_)
          refine LI_nil ?_
          refine CI_ret ?_
          exact ⟨[(db, .deferred (some []))] :: ([(B4, .cells [slV d.g d.a.Q.length].toArray 93)] :: [(B3, .cells [Value.int .i64 0].toArray 40)] :: [(B2, .cells (bs x.2).toArray 37)] :: [(B1, .cells [Value.int .i64 (n : Int)].toArray 3)] :: H), hsub (.cons_cons _ (.cons _ (.refl _))), rfl, hc3⟩
        · replace hc3 : x.1 ≠ n := by have := of_decide_eq_false hc3; omega
          refine CI_skip ?_
          exact ⟨[(db, .deferred (some []))] :: ([(B4, .cells [slV d.g d.a.Q.length].toArray 93)] :: [(B3, .cells [Value.int .i64 0].toArray 40)] :: [(B2, .cells (List.replicate 128 (Value.int .u8 0)).toArray 37)] :: [(B1, .cells [Value.int .i64 (n : Int)].toArray 3)] :: H), hsub (.cons_cons _ (.cons _ (.refl _))), rfl, hc3⟩
      · rintro e H' (⟨rfl, Hx, rfl, rt⟩ | ⟨rfl, Hx, rfl, rt⟩)
        · obtain ⟨rfl, hne⟩ := rt
          exact ⟨true, rfl, fun _ => ⟨rfl, noneFrom_step hI hx hne⟩, fun h => Bool.noConfusion h⟩
        · obtain ⟨rfl, he⟩ := rt
          exact ⟨false, rfl, fun h => Bool.noConfusion h, fun _ => ⟨i, x, hx, he, hI, rfl⟩⟩
    · rintro e H' ⟨rfl, (⟨rfl, hI⟩ | ⟨i, x, hx, he, hI, rfl⟩)⟩
      · exact ⟨⟨_, rfl⟩, .inl ⟨_, rfl, rfl, hI⟩⟩
      · exact ⟨⟨_, rfl⟩, .inr ⟨_, rfl, i, x, hx, he, hI, rfl⟩⟩
  · obtain ⟨rfl, hk⟩ := hk
    refine (?_ : WpT _ ⟨42, Go.Sl.mark db⟩ w0 _ _ _ _) a w ha hw
    clear ha hw
    refine T_seq ?_
    refine C_regionT 7 (by kernel_rfl) (by kernel_rfl) ?_
    refine S_y rfl (y_move rfl) rfl ?_
    refine S_y rfl (y_nilCheck rfl) rfl ?_
    refine S_y rfl (y_fieldAddr rfl fl_97_1) rfl ?_
    refine S_y rfl (y_load rfl ag_26 (hD.up.up.up.up.up) rfl) rfl ?_
    refine S_y rfl (y_load rfl ag_3 (sees 4 0 rfl) rfl) rfl ?_
    refine S_y rfl (y_indexS rfl rfl Try.underlying26 sz_37 (by omega) (by omega) (show _ = n * 128 from by simp)) rfl ?_
    refine S_y rfl (y_loadA rfl ag_37 sz_37 (hT.up.up.up.up.up) (by rw [bs_length, hfl]; omega) (show _ = bs s from by rw [bs_drop, bs_take, flat_sec hd.1.1 hs])) rfl ?_
    refine S_nil ?_
    refine L_op rfl (op_storeA 3 0 rfl rfl rfl sz_37 (by rw [bs_length, hs1]) rfl (bs_one _) (by simp) ?_)
    refine L_op rfl (op_store1 2 0 rfl rfl rfl sz_40 rfl (Nat.le_of_ble_eq_true rfl) ?_)
    refine L_nil ?_
    refine T_of ?_
    refine C_ret ?_
    intro a w ha hw
    exact M_mark rfl ha hw (rv_cellA rfl ag_37 sz_37 (sees 2 0 rfl) (by rw [bs_length, hs1]; decide) (bs_whole0 s hs1) (rv_cell1 rfl ag_40 (sees 1 0 rfl) rfl rv_nil)) (hsub (.cons _ (.cons _ (.cons _ (.cons _ (.refl _)))))) ⟨by rw [show d.a.read n = s from by simp [Ab.read, lastW_none hk, List.getD, hs]]; rfl, rfl⟩
  · obtain ⟨i, x, hx, he, hI, rfl⟩ := hk
    have hx128 := hQ128 x (List.mem_of_getElem? hx)
    exact M_mark rfl ha hw (rv_cellA rfl ag_37 sz_37 (sees 2 0 rfl) (by rw [bs_length, hx128]; decide) (bs_whole0 x.2 hx128) (rv_cell1 rfl ag_40 (sees 1 0 rfl) rfl rv_nil)) (hsub (.cons _ (.cons _ (.cons _ (.cons _ (.refl _)))))) ⟨by rw [show d.a.read n = x.2 from by simp [Ab.read, lastW_found hI hx he]]; rfl, rfl⟩

end Go.Proofs.Ytoaalclbplgegaa
