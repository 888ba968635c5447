/- walks (own work; the walks' lines by a program of this repo). -/
import Derived.Test.YtoaalclbplgegaaDoW
set_option linter.unusedVariables false
set_option linter.unusedSimpArgs false
set_option maxRecDepth 20000
namespace Go.Proofs.Ytoaalclbplgegaa
open Go.Sl
attribute [local irreducible] BodyQ WpC WpL WpS WpH OpW FnS


theorem operate_s {w0 : World} {H : Hp} {L R : List Dv} {d : Dv} {p : Pw} (hG : GOk dt p L d R) : FnS Try.prog w0 65 #[ptr d.b] (opn dt d p (L ++ R) H) (fun e H' => e = .returned (.bool (!p.a.falls)) ∧ H' = opn dt (d.step p.a) p.step ((L ++ R).map (Dv.step p.a)) H) := by
  obtain ⟨pb, pg, devs, ⟨off, left, fails⟩⟩ := p
  obtain ⟨hpws, hdev, hall, hp, hlen⟩ := hG
  obtain rfl : pb = d.pw := hpws d (by simp)
  refine (((operate_c (A := L ++ d :: R) (d := d) (by simp) hdev hall hp hlen).sub (HSub.of_perm (open_perm dt L R d _ _ H).symm.flatten)).weak ?_)
  rintro _ _ ⟨rfl, rfl⟩
  refine ⟨_, HSub.of_perm ?_, rfl, rfl⟩
  rw [List.map_append, List.map_cons, List.map_append]
  exact (open_perm dt _ _ _ _ _ H).flatten

theorem write_nil {w0 : World} {H : Hp} (n : Int) (s : Sec) : FnS Try.prog w0 41 #[.pointer none, .int .i64 n, .agg (bs s).toArray] H (fun e H' => e = .returned (.int .i64 1) ∧ H' = H) := by
  refine FnS_intro (n := 33) (rs := [.tmp 6]) (vs := [.pointer none, .int .i64 n, .agg (bs s).toArray]) Try.func41 rfl Try.ntmps41 rfl rfl ?_
  refine C_seq ?_
  refine C_region ?_
  refine L_op rfl (op_box rfl rfl rfl (fun B1 => ?_))
  refine L_y rfl (y_assign rfl) rfl ?_
  refine L_nil ?_
  refine C_seq ?_
  refine C_block ?_
  refine C_seq ?_
  refine C_region ?_
  refine L_y rfl (y_move rfl) rfl ?_
  refine L_y rfl (y_eqp rfl rfl Try.underlying24) rfl ?_
  refine L_y rfl (y_assign rfl) rfl ?_
  refine L_nil ?_
  refine C_cond_t rfl ?_
  refine C_seq ?_
  refine C_region ?_
  refine L_y rfl (y_assign rfl) rfl ?_
  refine L_nil ?_
  refine C_ret ?_
  refine B_ret (rv_tmp rfl rv_nil) (hsub (.cons _ (.refl _))) ?_
  exact ⟨rfl, rfl⟩

theorem write_down {w0 : World} {H : Hp} {d : Dv} {p : Pw} (hD : Sees (fun w => St w0 w H) d.b (.cells d.cells.toArray dt.dev)) (hP : Sees (fun w => St w0 w H) d.pw (.cells p.cells.toArray dt.pow)) (n : Int) (s : Sec) (hdn : (d.a.out || p.a.off) = true) : FnS Try.prog w0 41 #[ptr d.b, .int .i64 n, .agg (bs s).toArray] H (fun e H' => e = .returned (.int .i64 13) ∧ H' = H) := by
  refine FnS_intro (n := 33) (rs := [.tmp 6]) (vs := [ptr d.b, .int .i64 n, .agg (bs s).toArray]) Try.func41 rfl Try.ntmps41 rfl rfl ?_
  refine C_seq ?_
  refine C_region ?_
  refine L_op rfl (op_box rfl rfl rfl (fun B1 => ?_))
  refine L_y rfl (y_assign rfl) rfl ?_
  refine L_nil ?_
  refine C_seq ?_
  refine C_block ?_
  refine C_seq ?_
  refine C_region ?_
  refine L_y rfl (y_move rfl) rfl ?_
  refine L_y rfl (y_eqp rfl rfl Try.underlying24) rfl ?_
  refine L_y rfl (y_assign rfl) rfl ?_
  refine L_nil ?_
  refine C_cond_f rfl ?_
  refine C_seq ?_
  refine C_region ?_
  refine L_y rfl (y_move rfl) rfl ?_
  refine L_op rfl (op_call rfl rfl (fun a w => Try.call44 a w) rfl ?_)
  refine (down_s d p (hD.up) (hP.up)).mono ?_
  rintro _ _ ⟨rfl, rfl⟩
  rw [hdn]
  refine ⟨_, rfl, ?_⟩
  refine L_y rfl (y_assign rfl) rfl ?_
  refine L_nil ?_
  refine C_cond_t rfl ?_
  refine C_seq ?_
  refine C_region ?_
  refine L_y rfl (y_assign rfl) rfl ?_
  refine L_nil ?_
  refine C_ret ?_
  refine B_ret (rv_tmp rfl rv_nil) (hsub (.cons _ (.refl _))) ?_
  exact ⟨rfl, rfl⟩

theorem write_out {w0 : World} {H : Hp} {d : Dv} {p : Pw} (hD : Sees (fun w => St w0 w H) d.b (.cells d.cells.toArray dt.dev)) (hP : Sees (fun w => St w0 w H) d.pw (.cells p.cells.toArray dt.pow)) (n : Int) (s : Sec) (hdn : (d.a.out || p.a.off) = false) (hth : (decide (0 ≤ n) && decide (n < d.a.S.length)) = false) : FnS Try.prog w0 41 #[ptr d.b, .int .i64 n, .agg (bs s).toArray] H (fun e H' => e = .returned (.int .i64 2) ∧ H' = H) := by
  refine FnS_intro (n := 33) (rs := [.tmp 6]) (vs := [ptr d.b, .int .i64 n, .agg (bs s).toArray]) Try.func41 rfl Try.ntmps41 rfl rfl ?_
  refine C_seq ?_
  refine C_region ?_
  refine L_op rfl (op_box rfl rfl rfl (fun B1 => ?_))
  refine L_y rfl (y_assign rfl) rfl ?_
  refine L_nil ?_
  refine C_seq ?_
  refine C_block ?_
  refine C_seq ?_
  refine C_region ?_
  refine L_y rfl (y_move rfl) rfl ?_
  refine L_y rfl (y_eqp rfl rfl Try.underlying24) rfl ?_
  refine L_y rfl (y_assign rfl) rfl ?_
  refine L_nil ?_
  refine C_cond_f rfl ?_
  refine C_seq ?_
  refine C_region ?_
  refine L_y rfl (y_move rfl) rfl ?_
  refine L_op rfl (op_call rfl rfl (fun a w => Try.call44 a w) rfl ?_)
  refine (down_s d p (hD.up) (hP.up)).mono ?_
  rintro _ _ ⟨rfl, rfl⟩
  rw [hdn]
  refine ⟨_, rfl, ?_⟩
  refine L_y rfl (y_assign rfl) rfl ?_
  refine L_nil ?_
  refine C_cond_f rfl ?_
  refine C_seq ?_
  refine C_region ?_
  refine L_y rfl (y_move rfl) rfl ?_
  refine L_y rfl (y_move rfl) rfl ?_
  refine L_op rfl (op_call rfl rfl (fun a w => Try.call45 a w) rfl ?_)
  refine (there_s d _ (hD.up)).mono ?_
  rintro _ _ ⟨rfl, rfl⟩
  rw [hth]
  refine ⟨_, rfl, ?_⟩
  refine L_y rfl (y_not rfl) rfl ?_
  refine L_y rfl (y_assign rfl) rfl ?_
  refine L_nil ?_
  refine C_cond_t rfl ?_
  refine C_seq ?_
  refine C_region ?_
  refine L_y rfl (y_assign rfl) rfl ?_
  refine L_nil ?_
  refine C_ret ?_
  refine B_ret (rv_tmp rfl rv_nil) (hsub (.cons _ (.refl _))) ?_
  exact ⟨rfl, rfl⟩

theorem write_go {w0 : World} {H : Hp} {L R : List Dv} {d : Dv} {p : Pw} (hG : GOk dt p L d R) (n : Nat) (s : Sec) (hn : n < d.a.S.length) (hs : s.length = 128) (hQ : d.a.Q.length < 100000) (hdn : (d.a.out || p.a.off) = false) : FnS Try.prog w0 41 #[ptr d.b, .int .i64 (n : Int), .agg (bs s).toArray] (d.o dt :: d.t dt :: d.q dt :: p.o dt :: p.q dt :: ((L ++ R).flatMap (Dv.segs dt) ++ H)) (fun e H' => ∃ g', (d.wr n s g').ok ∧ e = .returned (.int .i64 (if p.a.falls then 13 else 0)) ∧ H' = opn dt ((d.wr n s g').step p.a) p.step ((L ++ R).map (Dv.step p.a)) H) := by
  have hd := hG.dok
  have hth : (decide ((0 : Int) ≤ (n : Int)) && decide ((n : Int) < d.a.S.length)) = true := by simp; omega
  refine FnS_intro (n := 33) (rs := [.tmp 6]) (vs := [ptr d.b, .int .i64 (n : Int), .agg (bs s).toArray]) Try.func41 rfl Try.ntmps41 rfl rfl ?_
  refine C_seq ?_
  refine C_region ?_
  refine L_op rfl (op_box rfl rfl rfl (fun B1 => ?_))
  refine L_y rfl (y_assign rfl) rfl ?_
  refine L_nil ?_
  refine C_seq ?_
  refine C_block ?_
  refine C_seq ?_
  refine C_region ?_
  refine L_y rfl (y_move rfl) rfl ?_
  refine L_y rfl (y_eqp rfl rfl Try.underlying24) rfl ?_
  refine L_y rfl (y_assign rfl) rfl ?_
  refine L_nil ?_
  refine C_cond_f rfl ?_
  refine C_seq ?_
  refine C_region ?_
  refine L_y rfl (y_move rfl) rfl ?_
  refine L_op rfl (op_call rfl rfl (fun a w => Try.call44 a w) rfl ?_)
  refine (down_s d p (sees 1 0 rfl) (hG.hb ▸ sees 4 0 rfl)).mono ?_
  rintro _ _ ⟨rfl, rfl⟩
  rw [hdn]
  refine ⟨_, rfl, ?_⟩
  refine L_y rfl (y_assign rfl) rfl ?_
  refine L_nil ?_
  refine C_cond_f rfl ?_
  refine C_seq ?_
  refine C_region ?_
  refine L_y rfl (y_move rfl) rfl ?_
  refine L_y rfl (y_move rfl) rfl ?_
  refine L_op rfl (op_call rfl rfl (fun a w => Try.call45 a w) rfl ?_)
  refine (there_s d _ (sees 1 0 rfl)).mono ?_
  rintro _ _ ⟨rfl, rfl⟩
  rw [hth]
  refine ⟨_, rfl, ?_⟩
  refine L_y rfl (y_not rfl) rfl ?_
  refine L_y rfl (y_assign rfl) rfl ?_
  refine L_nil ?_
  refine C_cond_f rfl ?_
  refine C_skip ?_
  refine C_seq ?_
  refine C_regionH ([(B1, .cells (bs s).toArray 37)] :: ((L ++ R).flatMap (Dv.segs dt) ++ H)) (by kernel_rfl) ?_
  refine H_y 0 rfl (by kernel_rfl) (by kernel_rfl) (by kernel_rfl) (hsub (.cons_cons _ (.cons _ (.cons _ (.cons _ (.cons _ (.cons _ (.refl _)))))))) rfl (y_move rfl) rfl ?_
  refine H_y 1 rfl (by kernel_rfl) (by kernel_rfl) (by kernel_rfl) (hsub (.cons_cons _ (.cons _ (.cons _ (.cons _ (.cons _ (.cons _ (.refl _)))))))) rfl (y_move rfl) rfl ?_
  refine H_y 2 rfl (by kernel_rfl) (by kernel_rfl) (by kernel_rfl) (hsub (.cons_cons _ (.cons _ (.cons _ (.cons _ (.cons _ (.cons _ (.refl _)))))))) rfl (y_nilCheck rfl) rfl ?_
  refine H_y 3 rfl (by kernel_rfl) (by kernel_rfl) (by kernel_rfl) (hsub (.cons_cons _ (.cons _ (.cons _ (.cons _ (.cons _ (.cons _ (.refl _)))))))) rfl (y_fieldAddr rfl fl_97_2) rfl ?_
  refine H_y 5 rfl (by kernel_rfl) (by kernel_rfl) (by kernel_rfl) (hsub (.cons_cons _ (.cons _ (.cons _ (.cons _ (.cons _ (.cons _ (.refl _)))))))) rfl (y_move rfl) rfl ?_
  refine H_y 6 rfl (by kernel_rfl) (by kernel_rfl) (by kernel_rfl) (hsub (.cons_cons _ (.cons _ (.cons _ (.cons _ (.cons _ (.cons _ (.refl _)))))))) rfl (y_loadA rfl ag_37 sz_37 (sees 0 0 rfl) (by rw [bs_length, hs]; decide) (bs_whole0 s hs)) rfl ?_
  refine H_y 7 rfl (by kernel_rfl) (by kernel_rfl) (by kernel_rfl) (hsub (.cons_cons _ (.cons _ (.cons _ (.cons _ (.cons _ (.cons _ (.refl _)))))))) rfl (y_build (vs := [(0, .int .i64 (n : Int)), (1, .agg (bs s).toArray)]) rfl pl_95 zl_95 (fill_wr hs)) rfl ?_
  refine H_two 4 8 rfl rfl (by kernel_rfl) rfl rfl ?_ ?_
  · refine op_y (y_load rfl ag_93 (sees 1 0 rfl) rfl) rfl ?_
    refine ⟨hsub (.cons_cons _ (.cons _ (.cons _ (.cons _ (.cons _ (.cons _ (.refl _))))))), ?_⟩
    refine H_one 8 rfl (by kernel_rfl) rfl (op_buildSlice (vs := [(0, .agg (.int .i64 (n : Int) :: bs s).toArray)]) rfl Try.underlying93 sz_95 zl_95 rfl (by decide) (fill_one rfl (by simp [bs_length, hs]) rfl) rfl (fun B2 => ?_))
    refine ⟨hsub (.cons _ (.cons_cons _ (.cons _ (.cons _ (.cons _ (.cons _ (.cons _ (.refl _)))))))), ?_⟩
    refine H_one 9 rfl (by kernel_rfl) rfl (op_append (gs := d.g) (len := d.a.Q.length) (m := 1) (xs := wcs d.a.Q) (vs := .int .i64 (n : Int) :: bs s) 4 rfl rfl rfl hd.2.1 (src_slice (sees 0 0 rfl) (by simp [bs_length, hs]) (by rw [List.drop_zero, List.take_of_length_le (by simp [bs_length, hs])])) (by simp [bs_length, hs]) (one_wr n s) Try.underlying93 ni_93 sz_95 by_95 (by decide) zl_95 rfl (by omega) rfl (fun g' hg' => ?_))
    have hok' : (d.wr n s g').ok := Dv.wr_ok hd hn hs hQ hg'
    rw [← wcs_one, ← wcs_append, show d.a.Q.length + 1 = (d.a.Q ++ [(n, s)]).length from by simp] at hg' ⊢
    have hG' : GOk dt p L (d.wr n s g') R := hG.set rfl rfl hok'
    refine ⟨hsub (.cons _ (.cons_cons _ (.cons _ (.cons _ (.cons _ (.cons _ (.cons _ (.refl _)))))))), ?_⟩
    refine H_y 10 rfl (by kernel_rfl) (by kernel_rfl) (by kernel_rfl) (hsub (.cons _ (.cons_cons _ (.cons _ (.cons _ (.cons _ (.cons _ (.cons _ (.refl _))))))))) rfl (y_nilCheck rfl) rfl ?_
    refine H_y 11 rfl (by kernel_rfl) (by kernel_rfl) (by kernel_rfl) (hsub (.cons _ (.cons_cons _ (.cons _ (.cons _ (.cons _ (.cons _ (.cons _ (.refl _))))))))) rfl (y_fieldAddr rfl fl_97_2) rfl ?_
    refine H_one 12 rfl (by kernel_rfl) rfl (op_store1 2 0 rfl rfl (one_slV _ _) sz_93 rfl (Nat.le_of_ble_eq_true rfl) ?_)
    refine ⟨hsub (.cons _ (.cons_cons _ (.cons _ (.cons _ (.cons _ (.cons _ (.cons _ (.refl _)))))))), ?_⟩
    refine H_done (by kernel_rfl) ?_
    refine C_seq ?_
    refine C_seq ?_
    refine C_region ?_
    refine L_y rfl (y_move rfl) rfl ?_
    refine L_op rfl (op_call rfl rfl (fun a w => Try.call65 a w) rfl ?_)
    refine (((operate_s (L := L) (R := R) (d := d.wr n s g') (p := p) (H := H) hG').sub (hsub (.cons _ (.cons _ (.refl _)))))).mono ?_
    rintro _ _ ⟨rfl, rfl⟩
    refine ⟨_, rfl, ?_⟩
    refine L_y rfl (y_not rfl) rfl ?_
    refine L_nil ?_
    refine C_cond rfl (fun hc3 => ?_) (fun hc3 => ?_)
    · skip
      refine C_seq ?_
      refine C_region ?_
      refine L_y rfl (y_assign rfl) rfl ?_
      refine L_nil ?_
      refine C_ret ?_
      refine B_ret (rv_tmp rfl rv_nil) (HSub.refl _) ?_
      exact ⟨g', hok', ret_int (by simpa using hc3), rfl⟩
    · skip
      refine C_skip ?_
      refine C_seq ?_
      refine C_region ?_
      refine L_y rfl (y_assign rfl) rfl ?_
      refine L_nil ?_
      refine C_ret ?_
      refine B_ret (rv_tmp rfl rv_nil) (HSub.refl _) ?_
      exact ⟨g', hok', ret_int (by simpa using hc3), rfl⟩
  · refine op_buildSlice (vs := [(0, .agg (.int .i64 (n : Int) :: bs s).toArray)]) rfl Try.underlying93 sz_95 zl_95 rfl (by decide) (fill_one rfl (by simp [bs_length, hs]) rfl) rfl (fun B3 => ?_)
    refine ⟨hsub (.cons _ (.cons_cons _ (.cons _ (.cons _ (.cons _ (.cons _ (.cons _ (.refl _)))))))), ?_⟩
    refine H_one 4 rfl (by kernel_rfl) rfl (op_y (y_load rfl ag_93 (sees 2 0 rfl) rfl) rfl ?_)
    refine ⟨hsub (.cons _ (.cons_cons _ (.cons _ (.cons _ (.cons _ (.cons _ (.cons _ (.refl _)))))))), ?_⟩
    refine H_one 9 rfl (by kernel_rfl) rfl (op_append (gs := d.g) (len := d.a.Q.length) (m := 1) (xs := wcs d.a.Q) (vs := .int .i64 (n : Int) :: bs s) 4 rfl rfl rfl hd.2.1 (src_slice (sees 0 0 rfl) (by simp [bs_length, hs]) (by rw [List.drop_zero, List.take_of_length_le (by simp [bs_length, hs])])) (by simp [bs_length, hs]) (one_wr n s) Try.underlying93 ni_93 sz_95 by_95 (by decide) zl_95 rfl (by omega) rfl (fun g' hg' => ?_))
    have hok' : (d.wr n s g').ok := Dv.wr_ok hd hn hs hQ hg'
    rw [← wcs_one, ← wcs_append, show d.a.Q.length + 1 = (d.a.Q ++ [(n, s)]).length from by simp] at hg' ⊢
    have hG' : GOk dt p L (d.wr n s g') R := hG.set rfl rfl hok'
    refine ⟨hsub (.cons _ (.cons_cons _ (.cons _ (.cons _ (.cons _ (.cons _ (.cons _ (.refl _)))))))), ?_⟩
    refine H_y 10 rfl (by kernel_rfl) (by kernel_rfl) (by kernel_rfl) (hsub (.cons _ (.cons_cons _ (.cons _ (.cons _ (.cons _ (.cons _ (.cons _ (.refl _))))))))) rfl (y_nilCheck rfl) rfl ?_
    refine H_y 11 rfl (by kernel_rfl) (by kernel_rfl) (by kernel_rfl) (hsub (.cons _ (.cons_cons _ (.cons _ (.cons _ (.cons _ (.cons _ (.cons _ (.refl _))))))))) rfl (y_fieldAddr rfl fl_97_2) rfl ?_
    refine H_one 12 rfl (by kernel_rfl) rfl (op_store1 2 0 rfl rfl (one_slV _ _) sz_93 rfl (Nat.le_of_ble_eq_true rfl) ?_)
    refine ⟨hsub (.cons _ (.cons_cons _ (.cons _ (.cons _ (.cons _ (.cons _ (.cons _ (.refl _)))))))), ?_⟩
    refine H_done (by kernel_rfl) ?_
    refine C_seq ?_
    refine C_seq ?_
    refine C_region ?_
    refine L_y rfl (y_move rfl) rfl ?_
    refine L_op rfl (op_call rfl rfl (fun a w => Try.call65 a w) rfl ?_)
    refine (((operate_s (L := L) (R := R) (d := d.wr n s g') (p := p) (H := H) hG').sub (hsub (.cons _ (.cons _ (.refl _)))))).mono ?_
    rintro _ _ ⟨rfl, rfl⟩
    refine ⟨_, rfl, ?_⟩
    refine L_y rfl (y_not rfl) rfl ?_
    refine L_nil ?_
    refine C_cond rfl (fun hc3 => ?_) (fun hc3 => ?_)
    · skip
      refine C_seq ?_
      refine C_region ?_
      refine L_y rfl (y_assign rfl) rfl ?_
      refine L_nil ?_
      refine C_ret ?_
      refine B_ret (rv_tmp rfl rv_nil) (HSub.refl _) ?_
      exact ⟨g', hok', ret_int (by simpa using hc3), rfl⟩
    · skip
      refine C_skip ?_
      refine C_seq ?_
      refine C_region ?_
      refine L_y rfl (y_assign rfl) rfl ?_
      refine L_nil ?_
      refine C_ret ?_
      refine B_ret (rv_tmp rfl rv_nil) (HSub.refl _) ?_
      exact ⟨g', hok', ret_int (by simpa using hc3), rfl⟩

end Go.Proofs.Ytoaalclbplgegaa
