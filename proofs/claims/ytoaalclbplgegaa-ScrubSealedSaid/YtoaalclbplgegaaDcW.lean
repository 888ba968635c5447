/- walks (own work; the walks' lines by a program of this repo). -/
import Derived.Test.YtoaalclbplgegaaDrW
set_option linter.unusedVariables false
set_option linter.unusedSimpArgs false
set_option maxRecDepth 20000
namespace Go.Proofs.Ytoaalclbplgegaa
open Go.Sl
attribute [local irreducible] BodyQ WpC WpL WpS WpH OpW FnS


theorem cut_out {w0 : World} {H : Hp} (d : Dv) (hD : Sees (fun w => St w0 w H) d.b (.cells d.cells.toArray dt.dev)) (ho : d.a.out = true) : FnS Try.prog w0 54 #[ptr d.b] H (fun e H' => e = .returned (.tuple #[]) ∧ H' = H) := by
  refine FnS_intro (n := 58) (rs := []) (vs := [ptr d.b]) Try.func54 rfl Try.ntmps54 rfl rfl ?_
  refine C_seq ?_
  refine C_seq ?_
  refine C_region ?_
  refine L_y rfl (y_move rfl) rfl ?_
  refine L_y rfl (y_nilCheck rfl) rfl ?_
  refine L_y rfl (y_fieldAddr rfl fl_97_6) rfl ?_
  refine L_y rfl (y_load rfl ag_4 (hD) rfl) rfl ?_
  refine L_nil ?_
  refine C_cond rfl (fun hc0 => ?_) (fun hc0 => absurd (ho.symm.trans hc0) (by simp))
  refine C_ret ?_
  refine B_ret rv_nil (HSub.refl _) ?_
  exact ⟨rfl, rfl⟩

theorem cut_in {w0 : World} {H : Hp} {b st pw : Nat} {g : Option SlG} {a : Ab} (hd : Dv.ok ⟨b, st, pw, g, a⟩) (ho : a.out = false) : FnS Try.prog w0 54 #[ptr b] (Dv.o dt ⟨b, st, pw, g, a⟩ :: Dv.t dt ⟨b, st, pw, g, a⟩ :: Dv.q dt ⟨b, st, pw, g, a⟩ :: H) (fun e H' => e = .returned (.tuple #[]) ∧ H' = (Dv.cut ⟨b, st, pw, g, a⟩).o dt :: (Dv.cut ⟨b, st, pw, g, a⟩).t dt :: (Dv.cut ⟨b, st, pw, g, a⟩).q dt :: H) := by
  obtain ⟨hok, hq, hQl⟩ := hd
  simp only at hok hq hQl
  refine FnS_intro (n := 58) (rs := []) (vs := [ptr b]) Try.func54 rfl Try.ntmps54 rfl rfl ?_
  refine C_seq ?_
  refine C_seq ?_
  refine C_region ?_
  refine L_y rfl (y_move rfl) rfl ?_
  refine L_y rfl (y_nilCheck rfl) rfl ?_
  refine L_y rfl (y_fieldAddr rfl fl_97_6) rfl ?_
  refine L_y rfl (y_load rfl ag_4 (sees 0 0 rfl) rfl) rfl ?_
  refine L_nil ?_
  refine C_cond rfl (fun hc0 => absurd (ho.symm.trans hc0) (by simp)) (fun hc0 => ?_)
  refine C_skip ?_
  refine C_seq ?_
  refine C_seq ?_
  refine C_region ?_
  refine L_y rfl (y_move rfl) rfl ?_
  refine L_y rfl (y_nilCheck rfl) rfl ?_
  refine L_y rfl (y_fieldAddr rfl fl_97_2) rfl ?_
  refine L_y rfl (y_load rfl ag_93 (sees 0 0 rfl) rfl) rfl ?_
  refine L_y rfl (y_lenV hq rfl rfl Try.underlying93) rfl ?_
  refine L_y rfl (y_move rfl) rfl ?_
  refine L_nil ?_
  refine C_block ?_
  refine C_loop (ι := Nat) (fun i => [(0, ptr b), (11, slV g a.Q.length), (12, .int .i64 (a.Q.length : Int)), (13, .int .i64 (i : Int))]) (fun i => [(b, .cells (Dv.cells ⟨b, st, pw, g, a⟩).toArray dt.dev)] :: [(st, .cells (bs (cutN a i).flatten).toArray 37)] :: slSeg 95 g (wcs a.Q) :: H) (fun i => i ≤ a.Q.length) (fun i => a.Q.length - i) 0 (Nat.zero_le _) ⟨rfl, rfl, rfl, rfl, trivial⟩ (HSub.refl _) (fun i hi => ?_)
  skip
  refine C_seq ?_
  refine C_region ?_
  refine L_y rfl (y_lss rfl rfl) rfl ?_
  refine L_nil ?_
  refine C_seq ?_
  refine C_cond rfl (fun hc1 => ?_) (fun hc1 => ?_)
  · replace hc1 := of_decide_eq_true hc1
    refine C_skip ?_
    refine C_seq ?_
    refine C_block ?_
    refine C_seq ?_
    obtain ⟨x, hx⟩ : ∃ x, a.Q[i]? = some x := ⟨_, List.getElem?_eq_getElem (by omega)⟩
    have hxm := hok.2.2.1 x (List.mem_of_getElem? hx)
    obtain ⟨hS1, hS2⟩ := cutN_ok hok i
    have hfl := flat_len hS1
    have hQ : ∀ x ∈ a.Q, x.2.length = 128 := fun x hx => (hok.2.2.1 x hx).2
    cases g with
    | none => exact absurd hq.2 (by simp only; omega)
    | some g => ?_
    have hwl := wcs_len hQ
    refine C_region ?_
    refine L_y rfl (y_move rfl) rfl ?_
    refine L_y rfl (y_indexS rfl rfl Try.underlying93 sz_95 (by omega) (by omega) (show _ = i * 129 from by simp)) rfl ?_
    refine L_y rfl (y_loadA rfl ag_95 sz_95 (sees 2 0 rfl) (by rw [List.length_append, hwl]; omega) (wcs_get _ hQ hx)) rfl ?_
    refine L_op rfl (op_alloc zl_95 rfl (fun B1 => ?_))
    refine L_y rfl (y_assign rfl) rfl ?_
    refine L_op rfl (op_storeA 0 0 rfl rfl rfl sz_95 (by simp [bs_length, hxm.2]) rfl (one_wr _ _) rfl ?_)
    refine L_nil ?_
    refine C_seq ?_
    refine C_region ?_
    refine L_y rfl (y_move rfl) rfl ?_
    refine L_y rfl (y_move rfl) rfl ?_
    refine L_y rfl (y_nilCheck rfl) rfl ?_
    refine L_y rfl (y_fieldAddr rfl fl_97_3) rfl ?_
    refine L_y rfl (y_load rfl ag_3 (sees 1 0 rfl) rfl) rfl ?_
    refine L_y rfl (y_lss rfl rfl) rfl ?_
    refine L_nil ?_
    refine C_cond rfl (fun hc2 => ?_) (fun hc2 => ?_)
    · replace hc2 := of_decide_eq_true hc2
      simp only at hc2
      refine C_regionT 9 (by kernel_rfl) (by kernel_rfl) ?_
      refine S_y rfl (y_move rfl) rfl ?_
      refine S_y rfl (y_nilCheck rfl) rfl ?_
      refine S_y rfl (y_fieldAddr rfl fl_97_1) rfl ?_
      refine S_y rfl (y_load rfl ag_26 (sees 1 0 rfl) rfl) rfl ?_
      refine S_y rfl (y_fieldAddr rfl fl_95_0) rfl ?_
      refine S_y rfl (y_load rfl ag_3 (sees 0 0 rfl) rfl) rfl ?_
      refine S_y rfl (y_fieldAddr rfl fl_95_1) rfl ?_
      refine S_y rfl (y_loadA rfl ag_37 sz_37 (sees 0 0 rfl) (by simp [bs_length, hxm.2]) (bs_whole x.2 hxm.2)) rfl ?_
      refine S_y rfl (y_indexS rfl rfl Try.underlying26 sz_37 (by omega) (by simp only; omega) (show _ = x.1 * 128 from by simp)) rfl ?_
      refine S_nil ?_
      refine L_op rfl (op_store 2 0 rfl rfl rfl sz_37 (by rw [bs_length, hxm.2]) rfl (bs_one _) (by rw [bs_length, hfl]; omega) ?_)
      rw [flat_spl hS1 (by omega) hxm.2, ← cutN_s1 hx (by omega)]
      refine L_nil ?_
      refine C_region ?_
      refine L_y rfl (y_add rfl rfl (wi64 (by omega) (by omega))) rfl ?_
      refine L_y rfl (y_move rfl) rfl ?_
      refine L_nil ?_
      exact ⟨i + 1, by omega, by omega, ⟨rfl, rfl, rfl, rfl, trivial⟩, hsub (.cons _ (.refl _))⟩
    · replace hc2 := of_decide_eq_false hc2
      simp only at hc2
      refine C_seq ?_
      refine C_region ?_
      refine L_y rfl (y_move rfl) rfl ?_
      refine L_y rfl (y_move rfl) rfl ?_
      refine L_y rfl (y_nilCheck rfl) rfl ?_
      refine L_y rfl (y_fieldAddr rfl fl_97_3) rfl ?_
      refine L_y rfl (y_load rfl ag_3 (sees 1 0 rfl) rfl) rfl ?_
      refine L_y rfl (y_eqi rfl rfl) rfl ?_
      refine L_nil ?_
      refine C_cond rfl (fun hc3 => ?_) (fun hc3 => ?_)
      · replace hc3 := of_decide_eq_true hc3
        simp only at hc3
        refine C_regionT 14 (by kernel_rfl) (by kernel_rfl) ?_
        refine S_y rfl (y_move rfl) rfl ?_
        refine S_y rfl (y_nilCheck rfl) rfl ?_
        refine S_y rfl (y_fieldAddr rfl fl_97_1) rfl ?_
        refine S_y rfl (y_load rfl ag_26 (sees 1 0 rfl) rfl) rfl ?_
        refine S_y rfl (y_fieldAddr rfl fl_95_0) rfl ?_
        refine S_y rfl (y_load rfl ag_3 (sees 0 0 rfl) rfl) rfl ?_
        refine S_y rfl (y_indexS rfl rfl Try.underlying26 sz_37 (by omega) (by simp only; omega) (show _ = x.1 * 128 from by simp)) rfl ?_
        refine S_y rfl (y_move rfl) rfl ?_
        refine S_y rfl (y_nilCheck rfl) rfl ?_
        refine S_y rfl (y_fieldAddr rfl fl_97_4) rfl ?_
        refine S_y rfl (y_load rfl ag_3 (sees 1 0 rfl) rfl) rfl ?_
        refine S_y rfl (y_sliceA_hi rfl rfl Try.underlying37 sz_5 (by simp only; omega) (by have := hok.2.2.2; simp only; omega)) rfl ?_
        refine S_y rfl (y_fieldAddr rfl fl_95_1) rfl ?_
        refine S_y rfl (y_sliceA_all rfl Try.underlying37 sz_5) rfl ?_
        refine S_nil ?_
        refine L_op rfl (op_copy (b2 := B1) (off2 := 1) (sl := 128) (vs := bs (x.2.take a.bytes)) 2 0 rfl rfl Try.underlying63 sz_5 (sees 0 0 rfl) (show 1 + min 128 a.bytes * 1 ≤ (Value.int .i64 (x.1 : Int) :: bs x.2).length from by rw [List.length_cons, bs_length, hxm.2]; omega) (show ((Value.int .i64 (x.1 : Int) :: bs x.2).drop 1).take (min 128 ((a.bytes : Int).toNat) * 1) = bs (x.2.take a.bytes) from by rw [show min 128 ((a.bytes : Int).toNat) = a.bytes from by have := hok.2.2.2; omega, Nat.mul_one, show (Value.int .i64 (x.1 : Int) :: bs x.2).drop 1 = bs x.2 from rfl, bs_take]) rfl (bs_one _) (by rw [bs_length, hfl]; simp only; have := hok.2.2.2; omega) rfl ?_)
        obtain ⟨o, ho2⟩ : ∃ o, (cutN a i)[x.1]? = some o := ⟨_, List.getElem?_eq_getElem (by omega)⟩
        have e2 := cutN_s2 hx (by omega)
        rw [show (cutN a i).getD x.1 [] = o from by simp [List.getD, ho2]] at e2
        rw [flat_torn hS1 ho2 hxm.2 hok.2.2.2, ← e2]
        refine L_nil ?_
        refine C_region ?_
        refine L_y rfl (y_add rfl rfl (wi64 (by omega) (by omega))) rfl ?_
        refine L_y rfl (y_move rfl) rfl ?_
        refine L_nil ?_
        exact ⟨i + 1, by omega, by omega, ⟨rfl, rfl, rfl, rfl, trivial⟩, hsub (.cons _ (.refl _))⟩
      · replace hc3 := of_decide_eq_false hc3
        simp only at hc3
        rw [← cutN_s3 hx (by omega) (by omega)]
        refine C_skip ?_
        refine C_region ?_
        refine L_y rfl (y_add rfl rfl (wi64 (by omega) (by omega))) rfl ?_
        refine L_y rfl (y_move rfl) rfl ?_
        refine L_nil ?_
        exact ⟨i + 1, by omega, by omega, ⟨rfl, rfl, rfl, rfl, trivial⟩, hsub (.cons _ (.refl _))⟩
  · replace hc1 := of_decide_eq_false hc1
    refine C_exit ?_
    obtain rfl : i = a.Q.length := by omega
    refine C_region ?_
    refine L_y rfl (y_move rfl) rfl ?_
    refine L_y rfl (y_nilCheck rfl) rfl ?_
    refine L_y rfl (y_fieldAddr rfl fl_97_2) rfl ?_
    refine L_op rfl (op_store1 0 0 rfl rfl rfl sz_93 rfl (Nat.le_of_ble_eq_true rfl) ?_)
    refine L_nil ?_
    refine B_end rv_nil ((hsub_flat rfl : HSub (_ :: _ :: [] :: H) (_ :: _ :: H)).trans (hsub (.cons_cons _ (.cons_cons _ (.cons _ (.refl _)))))) ?_
    obtain ⟨e1, e2, e3⟩ := Dv.cut_segs dt (b := b) (st := st) (pw := pw) (g := g) hok ho
    rw [e1, e2, e3]
    exact ⟨rfl, rfl⟩

theorem cut_s {w0 : World} {H : Hp} (d : Dv) (hd : d.ok) : FnS Try.prog w0 54 #[ptr d.b] (d.o dt :: d.t dt :: d.q dt :: H) (fun e H' => e = .returned (.tuple #[]) ∧ H' = d.cut.o dt :: d.cut.t dt :: d.cut.q dt :: H) := by
  cases ho : d.a.out with
  | false => exact cut_in hd ho
  | true =>
    refine (cut_out d (sees 0 0 rfl) ho).mono ?_
    rintro _ _ ⟨rfl, rfl⟩
    rw [show d.cut = d from by simp [Dv.cut, ho]]
    exact ⟨rfl, rfl⟩

end Go.Proofs.Ytoaalclbplgegaa
