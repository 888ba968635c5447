/- walks (own work; the walks' lines by a program of this repo). -/
import Derived.Test.YtoaalclbplgegaaDwW
set_option linter.unusedVariables false
set_option linter.unusedSimpArgs false
set_option maxRecDepth 20000
namespace Go.Proofs.Ytoaalclbplgegaa
open Go.Sl
attribute [local irreducible] BodyQ WpC WpL WpS WpH OpW FnS


theorem flush_nil {w0 : World} {H : Hp}  : FnS Try.prog w0 42 #[.pointer none] H (fun e H' => e = .returned (.int .i64 1) ∧ H' = H) := by
  refine FnS_intro (n := 43) (rs := [.tmp 2]) (vs := [.pointer none]) Try.func42 rfl Try.ntmps42 rfl rfl ?_
  refine C_seq ?_
  refine C_region ?_
  refine L_y rfl (y_assign rfl) rfl ?_
  refine L_nil ?_
  refine C_seq ?_
  refine C_block ?_
  refine C_seq ?_
  refine C_region ?_
  refine L_y rfl (y_move rfl) rfl ?_
  refine L_y rfl (y_eqp rfl rfl Try.underlying24) rfl ?_
  refine L_y rfl (y_assign rfl) rfl ?_
  refine L_nil ?_
  refine C_cond_t rfl ?_
  refine C_seq ?_
  refine C_region ?_
  refine L_y rfl (y_assign rfl) rfl ?_
  refine L_nil ?_
  refine C_ret ?_
  refine B_ret (rv_tmp rfl rv_nil) (HSub.refl _) ?_
  exact ⟨rfl, rfl⟩

theorem flush_down {w0 : World} {H : Hp} {d : Dv} {p : Pw} (hD : Sees (fun w => St w0 w H) d.b (.cells d.cells.toArray dt.dev)) (hP : Sees (fun w => St w0 w H) d.pw (.cells p.cells.toArray dt.pow)) (hdn : (d.a.out || p.a.off) = true) : FnS Try.prog w0 42 #[ptr d.b] H (fun e H' => e = .returned (.int .i64 13) ∧ H' = H) := by
  refine FnS_intro (n := 43) (rs := [.tmp 2]) (vs := [ptr d.b]) Try.func42 rfl Try.ntmps42 rfl rfl ?_
  refine C_seq ?_
  refine C_region ?_
  refine L_y rfl (y_assign rfl) rfl ?_
  refine L_nil ?_
  refine C_seq ?_
  refine C_block ?_
  refine C_seq ?_
  refine C_region ?_
  refine L_y rfl (y_move rfl) rfl ?_
  refine L_y rfl (y_eqp rfl rfl Try.underlying24) rfl ?_
  refine L_y rfl (y_assign rfl) rfl ?_
  refine L_nil ?_
  refine C_cond_f rfl ?_
  refine C_seq ?_
  refine C_region ?_
  refine L_y rfl (y_move rfl) rfl ?_
  refine L_op rfl (op_call rfl rfl (fun a w => Try.call44 a w) rfl ?_)
  refine (down_s d p (hD) (hP)).mono ?_
  rintro _ _ ⟨rfl, rfl⟩
  rw [hdn]
  refine ⟨_, rfl, ?_⟩
  refine L_y rfl (y_move rfl) rfl ?_
  refine L_skip rfl rfl ?_
  refine L_skip rfl rfl ?_
  refine L_skip rfl rfl ?_
  refine L_y rfl (y_pick_t rfl rfl) rfl ?_
  refine L_y rfl (y_assign rfl) rfl ?_
  refine L_nil ?_
  refine C_cond_t rfl ?_
  refine C_seq ?_
  refine C_region ?_
  refine L_y rfl (y_assign rfl) rfl ?_
  refine L_nil ?_
  refine C_ret ?_
  refine B_ret (rv_tmp rfl rv_nil) (HSub.refl _) ?_
  exact ⟨rfl, rfl⟩

theorem flush_falls {w0 : World} {H : Hp} {L R : List Dv} {d : Dv} {p : Pw} (hG : GOk dt p L d R) (hdn : (d.a.out || p.a.off) = false) (hfa : p.a.falls = true) : FnS Try.prog w0 42 #[ptr d.b] (d.o dt :: d.t dt :: d.q dt :: p.o dt :: p.q dt :: ((L ++ R).flatMap (Dv.segs dt) ++ H)) (fun e H' => e = .returned (.int .i64 13) ∧ H' = opn dt (d.step p.a) p.step ((L ++ R).map (Dv.step p.a)) H) := by
  refine FnS_intro (n := 43) (rs := [.tmp 2]) (vs := [ptr d.b]) Try.func42 rfl Try.ntmps42 rfl rfl ?_
  refine C_seq ?_
  refine C_region ?_
  refine L_y rfl (y_assign rfl) rfl ?_
  refine L_nil ?_
  refine C_seq ?_
  refine C_block ?_
  refine C_seq ?_
  refine C_region ?_
  refine L_y rfl (y_move rfl) rfl ?_
  refine L_y rfl (y_eqp rfl rfl Try.underlying24) rfl ?_
  refine L_y rfl (y_assign rfl) rfl ?_
  refine L_nil ?_
  refine C_cond_f rfl ?_
  refine C_seq ?_
  refine C_region ?_
  refine L_y rfl (y_move rfl) rfl ?_
  refine L_op rfl (op_call rfl rfl (fun a w => Try.call44 a w) rfl ?_)
  refine (down_s d p (sees 0 0 rfl) (hG.hb ▸ sees 3 0 rfl)).mono ?_
  rintro _ _ ⟨rfl, rfl⟩
  rw [hdn]
  refine ⟨_, rfl, ?_⟩
  refine L_y rfl (y_move rfl) rfl ?_
  refine L_y rfl (y_move rfl) rfl ?_
  refine L_op rfl (op_call rfl rfl (fun a w => Try.call65 a w) rfl ?_)
  refine (operate_s hG).mono ?_
  rintro _ _ ⟨rfl, rfl⟩
  rw [hfa]
  refine ⟨_, rfl, ?_⟩
  refine L_y rfl (y_not rfl) rfl ?_
  refine L_y rfl (y_pick_f rfl rfl) rfl ?_
  refine L_y rfl (y_assign rfl) rfl ?_
  refine L_nil ?_
  refine C_cond_t rfl ?_
  refine C_seq ?_
  refine C_region ?_
  refine L_y rfl (y_assign rfl) rfl ?_
  refine L_nil ?_
  refine C_ret ?_
  refine B_ret (rv_tmp rfl rv_nil) (HSub.refl _) ?_
  exact ⟨rfl, rfl⟩

theorem flush_lies {w0 : World} {H : Hp} {L R : List Dv} {d : Dv} {p : Pw} (hG : GOk dt p L d R) (hdn : (d.a.out || p.a.off) = false) (hfa : p.a.falls = false) (hl : d.a.lies = true) : FnS Try.prog w0 42 #[ptr d.b] (d.o dt :: d.t dt :: d.q dt :: p.o dt :: p.q dt :: ((L ++ R).flatMap (Dv.segs dt) ++ H)) (fun e H' => e = .returned (.int .i64 0) ∧ H' = opn dt d p.step (L ++ R) H) := by
  refine FnS_intro (n := 43) (rs := [.tmp 2]) (vs := [ptr d.b]) Try.func42 rfl Try.ntmps42 rfl rfl ?_
  refine C_seq ?_
  refine C_region ?_
  refine L_y rfl (y_assign rfl) rfl ?_
  refine L_nil ?_
  refine C_seq ?_
  refine C_block ?_
  refine C_seq ?_
  refine C_region ?_
  refine L_y rfl (y_move rfl) rfl ?_
  refine L_y rfl (y_eqp rfl rfl Try.underlying24) rfl ?_
  refine L_y rfl (y_assign rfl) rfl ?_
  refine L_nil ?_
  refine C_cond_f rfl ?_
  refine C_seq ?_
  refine C_region ?_
  refine L_y rfl (y_move rfl) rfl ?_
  refine L_op rfl (op_call rfl rfl (fun a w => Try.call44 a w) rfl ?_)
  refine (down_s d p (sees 0 0 rfl) (hG.hb ▸ sees 3 0 rfl)).mono ?_
  rintro _ _ ⟨rfl, rfl⟩
  rw [hdn]
  refine ⟨_, rfl, ?_⟩
  refine L_y rfl (y_move rfl) rfl ?_
  refine L_y rfl (y_move rfl) rfl ?_
  refine L_op rfl (op_call rfl rfl (fun a w => Try.call65 a w) rfl ?_)
  refine (operate_s hG).mono ?_
  rintro _ _ ⟨rfl, rfl⟩
  rw [hfa]
  rw [step0 hfa, step_map0 hfa]
  refine ⟨_, rfl, ?_⟩
  refine L_y rfl (y_not rfl) rfl ?_
  refine L_y rfl (y_pick_f rfl rfl) rfl ?_
  refine L_y rfl (y_assign rfl) rfl ?_
  refine L_nil ?_
  refine C_cond_f rfl ?_
  refine C_seq ?_
  refine C_region ?_
  refine L_y rfl (y_move rfl) rfl ?_
  refine L_y rfl (y_nilCheck rfl) rfl ?_
  refine L_y rfl (y_fieldAddr rfl fl_97_5) rfl ?_
  refine L_y rfl (y_load rfl ag_4 (sees 0 0 rfl) rfl) rfl ?_
  refine L_y rfl (y_assign rfl) rfl ?_
  refine L_nil ?_
  refine C_cond rfl (fun hc2 => ?_) (fun hc2 => absurd (hl.symm.trans hc2) (by simp))
  refine C_seq ?_
  refine C_region ?_
  refine L_y rfl (y_assign rfl) rfl ?_
  refine L_nil ?_
  refine C_ret ?_
  refine B_ret (rv_tmp rfl rv_nil) (HSub.refl _) ?_
  exact ⟨rfl, rfl⟩

theorem flush_go0 {w0 : World} {H : Hp} {L R : List Dv} {p : Pw} {b st pw : Nat} {g : Option SlG} {a : Ab} (hG : GOk dt p L ⟨b, st, pw, g, a⟩ R) (hdn : (a.out || p.a.off) = false) (hfa : p.a.falls = false) (hl : a.lies = false) : FnS Try.prog w0 42 #[ptr b] (Dv.o dt ⟨b, st, pw, g, a⟩ :: Dv.t dt ⟨b, st, pw, g, a⟩ :: Dv.q dt ⟨b, st, pw, g, a⟩ :: p.o dt :: p.q dt :: ((L ++ R).flatMap (Dv.segs dt) ++ H)) (fun e H' => e = .returned (.int .i64 0) ∧ H' = opn dt (Dv.fl ⟨b, st, pw, g, a⟩) p.step (L ++ R) H) := by
  obtain ⟨hok, hq, hQl⟩ := hG.dok
  simp only at hok hq hQl
  refine FnS_intro (n := 43) (rs := [.tmp 2]) (vs := [ptr b]) Try.func42 rfl Try.ntmps42 rfl rfl ?_
  refine C_seq ?_
  refine C_region ?_
  refine L_y rfl (y_assign rfl) rfl ?_
  refine L_nil ?_
  refine C_seq ?_
  refine C_block ?_
  refine C_seq ?_
  refine C_region ?_
  refine L_y rfl (y_move rfl) rfl ?_
  refine L_y rfl (y_eqp rfl rfl Try.underlying24) rfl ?_
  refine L_y rfl (y_assign rfl) rfl ?_
  refine L_nil ?_
  refine C_cond_f rfl ?_
  refine C_seq ?_
  refine C_region ?_
  refine L_y rfl (y_move rfl) rfl ?_
  refine L_op rfl (op_call rfl rfl (fun a w => Try.call44 a w) rfl ?_)
  refine (down_s ⟨b, st, pw, g, a⟩ p (sees 0 0 rfl) (hG.hb ▸ sees 3 0 rfl)).mono ?_
  rintro _ _ ⟨rfl, rfl⟩
  rw [hdn]
  refine ⟨_, rfl, ?_⟩
  refine L_y rfl (y_move rfl) rfl ?_
  refine L_y rfl (y_move rfl) rfl ?_
  refine L_op rfl (op_call rfl rfl (fun a w => Try.call65 a w) rfl ?_)
  refine (operate_s hG).mono ?_
  rintro _ _ ⟨rfl, rfl⟩
  rw [hfa]
  rw [step0 hfa, step_map0 hfa]
  refine ⟨_, rfl, ?_⟩
  refine L_y rfl (y_not rfl) rfl ?_
  refine L_y rfl (y_pick_f rfl rfl) rfl ?_
  refine L_y rfl (y_assign rfl) rfl ?_
  refine L_nil ?_
  refine C_cond_f rfl ?_
  refine C_seq ?_
  refine C_region ?_
  refine L_y rfl (y_move rfl) rfl ?_
  refine L_y rfl (y_nilCheck rfl) rfl ?_
  refine L_y rfl (y_fieldAddr rfl fl_97_5) rfl ?_
  refine L_y rfl (y_load rfl ag_4 (sees 0 0 rfl) rfl) rfl ?_
  refine L_y rfl (y_assign rfl) rfl ?_
  refine L_nil ?_
  refine C_cond rfl (fun hc2 => absurd (hl.symm.trans hc2) (by simp)) (fun hc2 => ?_)
  refine C_skip ?_
  refine C_seq ?_
  refine C_seq ?_
  refine C_region ?_
  refine L_y rfl (y_move rfl) rfl ?_
  refine L_y rfl (y_nilCheck rfl) rfl ?_
  refine L_y rfl (y_fieldAddr rfl fl_97_2) rfl ?_
  refine L_y rfl (y_load rfl ag_93 (sees 0 0 rfl) rfl) rfl ?_
  refine L_y rfl (y_lenV hq rfl rfl Try.underlying93) rfl ?_
  refine L_y rfl (y_move rfl) rfl ?_
  refine L_nil ?_
  refine C_block ?_
  refine C_loop (ι := Nat) (fun i => [(0, ptr b), (24, slV g a.Q.length), (25, .int .i64 (a.Q.length : Int)), (26, .int .i64 (i : Int))]) (fun i => Dv.o dt ⟨b, st, pw, g, a⟩ :: [(st, .cells (bs (flushN a i).flatten).toArray 37)] :: slSeg 95 g (wcs a.Q) :: Pw.o dt p.step :: Pw.q dt p.step :: ((L ++ R).flatMap (Dv.segs dt) ++ H)) (fun i => i ≤ a.Q.length) (fun i => a.Q.length - i) 0 (Nat.zero_le _) ⟨rfl, rfl, rfl, rfl, trivial⟩ (HSub.refl _) (fun i hi => ?_)
  skip
  refine C_seq ?_
  refine C_region ?_
  refine L_y rfl (y_lss rfl rfl) rfl ?_
  refine L_nil ?_
  refine C_seq ?_
  refine C_cond rfl (fun hc3 => ?_) (fun hc3 => ?_)
  · replace hc3 := of_decide_eq_true hc3
    refine C_skip ?_
    refine C_seq ?_
    refine C_block ?_
    refine C_seq ?_
    obtain ⟨x, hx⟩ : ∃ x, a.Q[i]? = some x := ⟨_, List.getElem?_eq_getElem (by omega)⟩
    have hxm := hok.2.2.1 x (List.mem_of_getElem? hx)
    obtain ⟨hS1, hS2⟩ := flushN_ok hok i
    have hfl := flat_len hS1
    have hQ : ∀ x ∈ a.Q, x.2.length = 128 := fun x hx => (hok.2.2.1 x hx).2
    cases g with
    | none => exact absurd hq.2 (by simp only; omega)
    | some g => ?_
    have hwl := wcs_len hQ
    refine C_region ?_
    refine L_y rfl (y_indexS rfl rfl Try.underlying93 sz_95 (by omega) (by omega) (show _ = i * 129 from by simp)) rfl ?_
    refine L_y rfl (y_loadA rfl ag_95 sz_95 (sees 2 0 rfl) (by rw [List.length_append, hwl]; omega) (wcs_get _ hQ hx)) rfl ?_
    refine L_op rfl (op_alloc zl_95 rfl (fun B1 => ?_))
    refine L_op rfl (op_storeA 0 0 rfl rfl rfl sz_95 (by simp [bs_length, hxm.2]) rfl (one_wr _ _) rfl ?_)
    refine L_nil ?_
    refine C_regionT 9 (by kernel_rfl) (by kernel_rfl) ?_
    refine S_y rfl (y_move rfl) rfl ?_
    refine S_y rfl (y_nilCheck rfl) rfl ?_
    refine S_y rfl (y_fieldAddr rfl fl_97_1) rfl ?_
    refine S_y rfl (y_load rfl ag_26 (sees 1 0 rfl) rfl) rfl ?_
    refine S_y rfl (y_fieldAddr rfl fl_95_0) rfl ?_
    refine S_y rfl (y_load rfl ag_3 (sees 0 0 rfl) rfl) rfl ?_
    refine S_y rfl (y_fieldAddr rfl fl_95_1) rfl ?_
    refine S_y rfl (y_loadA rfl ag_37 sz_37 (sees 0 0 rfl) (by simp [bs_length, hxm.2]) (bs_whole x.2 hxm.2)) rfl ?_
    refine S_y rfl (y_indexS rfl rfl Try.underlying26 sz_37 (by omega) (by simp only; omega) (show _ = x.1 * 128 from by simp)) rfl ?_
    refine S_nil ?_
    refine L_op rfl (op_store 2 0 rfl rfl rfl sz_37 (by rw [bs_length, hxm.2]) rfl (bs_one _) (by rw [bs_length, hfl]; omega) ?_)
    rw [flat_spl hS1 (by omega) hxm.2, ← flushN_s hx]
    refine L_nil ?_
    refine C_region ?_
    refine L_y rfl (y_add rfl rfl (wi64 (by omega) (by omega))) rfl ?_
    refine L_y rfl (y_move rfl) rfl ?_
    refine L_nil ?_
    exact ⟨i + 1, by omega, by omega, ⟨rfl, rfl, rfl, rfl, trivial⟩, hsub (.cons _ (.refl _))⟩
  · replace hc3 := of_decide_eq_false hc3
    refine C_exit ?_
    refine C_seq ?_
    obtain rfl : i = a.Q.length := by omega
    refine C_region ?_
    refine L_y rfl (y_move rfl) rfl ?_
    refine L_y rfl (y_nilCheck rfl) rfl ?_
    refine L_y rfl (y_fieldAddr rfl fl_97_2) rfl ?_
    refine L_op rfl (op_store1 0 0 rfl rfl rfl sz_93 rfl (Nat.le_of_ble_eq_true rfl) ?_)
    refine L_nil ?_
    refine C_seq ?_
    refine C_region ?_
    refine L_y rfl (y_assign rfl) rfl ?_
    refine L_nil ?_
    refine C_ret ?_
    refine B_ret (rv_tmp rfl rv_nil) ((hsub_flat rfl : HSub (_ :: _ :: [] :: Pw.o dt p.step :: Pw.q dt p.step :: ((L ++ R).flatMap (Dv.segs dt) ++ H)) (_ :: _ :: Pw.o dt p.step :: Pw.q dt p.step :: ((L ++ R).flatMap (Dv.segs dt) ++ H))).trans (hsub (.cons_cons _ (.cons_cons _ (.cons _ (.refl _)))))) ?_
    obtain ⟨e1, e2, e3⟩ := Dv.fl_segs dt (b := b) (st := st) (pw := pw) (g := g) hok
    unfold opn
    rw [e1, e2, e3]
    exact ⟨rfl, rfl⟩

theorem flush_go {w0 : World} {H : Hp} {L R : List Dv} {d : Dv} {p : Pw} (hG : GOk dt p L d R) (hdn : (d.a.out || p.a.off) = false) (hfa : p.a.falls = false) (hl : d.a.lies = false) : FnS Try.prog w0 42 #[ptr d.b] (opn dt d p (L ++ R) H) (fun e H' => e = .returned (.int .i64 0) ∧ H' = opn dt d.fl p.step (L ++ R) H) := flush_go0 hG hdn hfa hl

end Go.Proofs.Ytoaalclbplgegaa
