/- walks (own work; the walks' lines by a program of this repo). -/
import Derived.Test.YtoaalclbplgegaaDcW
set_option linter.unusedVariables false
set_option linter.unusedSimpArgs false
set_option maxRecDepth 20000
namespace Go.Proofs.Ytoaalclbplgegaa
open Go.Sl
attribute [local irreducible] BodyQ WpC WpL WpS WpH OpW FnS


theorem cutstep {w0 : World} {H : Hp} {A : List Dv} {i : Nat} {x : Dv} (hx : A[i]? = some x) (hok : x.ok) (po pq : List (Nat × Obj)) : FnS Try.prog w0 54 #[ptr x.b] (po :: pq :: ((cutTo A i).flatMap (Dv.segs dt) ++ H)) (fun e H' => e = .returned (.tuple #[]) ∧ H' = po :: pq :: ((cutTo A (i + 1)).flatMap (Dv.segs dt) ++ H)) := by
  rw [cutTo_split dt hx]
  refine (FnS.mid (φ := fun e A' => e = .returned (.tuple #[]) ∧ A' = [x.cut.o dt, x.cut.t dt, x.cut.q dt]) _ _ fun L => (cut_s x hok).mono ?_).mono ?_
  · rintro _ _ ⟨rfl, rfl⟩; exact ⟨_, ⟨rfl, rfl⟩, rfl⟩
  · rintro _ _ ⟨_, ⟨rfl, rfl⟩, rfl⟩; exact ⟨rfl, cutTo_join dt hx po pq H⟩

theorem operate_c {w0 : World} {H : Hp} {A : List Dv} {d : Dv} (hd : d ∈ A) {pg : Option SlG} {devs : List Nat} {off fails : Bool} {left : Int} (hdev : devs = A.map (·.b)) (hok : ∀ x ∈ A, x.ok) (hp : Pw.ok dt ⟨d.pw, pg, devs, ⟨off, left, fails⟩⟩) (hA : A.length ≤ 1000) : FnS Try.prog w0 65 #[ptr d.b] (Pw.o dt ⟨d.pw, pg, devs, ⟨off, left, fails⟩⟩ :: Pw.q dt ⟨d.pw, pg, devs, ⟨off, left, fails⟩⟩ :: (A.flatMap (Dv.segs dt) ++ H)) (fun e H' => e = .returned (.bool (!(Pa.falls ⟨off, left, fails⟩))) ∧ H' = (Pw.step ⟨d.pw, pg, devs, ⟨off, left, fails⟩⟩).o dt :: (Pw.step ⟨d.pw, pg, devs, ⟨off, left, fails⟩⟩).q dt :: ((A.map (Dv.step ⟨off, left, fails⟩)).flatMap (Dv.segs dt) ++ H)) := by
  obtain ⟨hpg, hleft⟩ := hp
  simp only at hpg hleft hdev
  have hlen : devs.length = A.length := by rw [hdev]; simp
  have hD := sees_mem (w0 := w0) (mem_segs dt hd (Pw.o dt ⟨d.pw, pg, devs, ⟨off, left, fails⟩⟩) (Pw.q dt ⟨d.pw, pg, devs, ⟨off, left, fails⟩⟩) H)
  refine FnS_intro (n := 45) (rs := [.tmp 2]) (vs := [ptr d.b]) Try.func65 rfl Try.ntmps65 rfl rfl ?_
  refine C_seq ?_
  refine C_region ?_
  refine L_y rfl (y_assign rfl) rfl ?_
  refine L_nil ?_
  refine C_seq ?_
  refine C_region ?_
  refine L_y rfl (y_move rfl) rfl ?_
  refine L_y rfl (y_nilCheck rfl) rfl ?_
  refine L_y rfl (y_fieldAddr rfl fl_97_0) rfl ?_
  refine L_y rfl (y_load rfl ag_64 (hD) rfl) rfl ?_
  refine L_y rfl (y_assign rfl) rfl ?_
  refine L_nil ?_
  refine C_seq ?_
  refine C_seq ?_
  refine C_region ?_
  refine L_y rfl (y_move rfl) rfl ?_
  refine L_y rfl (y_nilCheck rfl) rfl ?_
  refine L_y rfl (y_fieldAddr rfl fl_115_2) rfl ?_
  refine L_y rfl (y_load rfl ag_4 (sees 0 0 rfl) rfl) rfl ?_
  refine L_y rfl (y_not rfl) rfl ?_
  refine L_nil ?_
  refine C_cond rfl (fun hc0 => ?_) (fun hc0 => ?_)
  · have hfl : fails = false := by simpa using hc0
    refine C_seq ?_
    refine C_region ?_
    refine L_y rfl (y_assign rfl) rfl ?_
    refine L_nil ?_
    refine C_ret ?_
    refine B_ret (rv_tmp rfl rv_nil) (HSub.refl _) ?_
    first
    | (subst hfl; exact ⟨rfl, by simp [Pw.step, Pa.step, Pa.falls, step_map0]⟩)
    | (subst hfl; have hl0 : ¬ left ≤ 0 := by omega
       exact ⟨ret_bool (by simp [Pa.falls, hl0]), by rw [step_map0 (by simp [Pa.falls, hl0])]; simp only [Pw.step, Pa.step, hl0, if_true, if_false]; rfl⟩)
    | (subst hfl; have hl0 : left ≤ 0 := by omega
       refine ⟨ret_bool (by simp [Pa.falls, hl0]), ?_⟩; rw [hlen, cutTo_all, step_map (by simp [Pa.falls, hl0])]; simp [Pw.step, Pa.step, hl0])
  · have hfl : fails = true := by simpa using hc0
    refine C_skip ?_
    refine C_seq ?_
    refine C_seq ?_
    refine C_region ?_
    refine L_y rfl (y_move rfl) rfl ?_
    refine L_y rfl (y_nilCheck rfl) rfl ?_
    refine L_y rfl (y_fieldAddr rfl fl_115_1) rfl ?_
    refine L_y rfl (y_load rfl ag_3 (sees 0 0 rfl) rfl) rfl ?_
    refine L_y rfl (y_gtr rfl rfl) rfl ?_
    refine L_nil ?_
    refine C_cond rfl (fun hc1 => ?_) (fun hc1 => ?_)
    · replace hc1 := of_decide_eq_true hc1
      simp only at hc1
      refine C_seq ?_
      refine C_region ?_
      refine L_y rfl (y_move rfl) rfl ?_
      refine L_y rfl (y_nilCheck rfl) rfl ?_
      refine L_y rfl (y_fieldAddr rfl fl_115_1) rfl ?_
      refine L_y rfl (y_load rfl ag_3 (sees 0 0 rfl) rfl) rfl ?_
      refine L_y rfl (y_sub rfl rfl (wi64 (by simp only; omega) (by simp only; omega))) rfl ?_
      refine L_y rfl (y_nilCheck rfl) rfl ?_
      refine L_y rfl (y_fieldAddr rfl fl_115_1) rfl ?_
      refine L_op rfl (op_store1 0 0 rfl rfl rfl sz_3 rfl (Nat.le_of_ble_eq_true rfl) ?_)
      refine L_nil ?_
      refine C_seq ?_
      refine C_region ?_
      refine L_y rfl (y_assign rfl) rfl ?_
      refine L_nil ?_
      refine C_ret ?_
      refine B_ret (rv_tmp rfl rv_nil) (HSub.refl _) ?_
      first
      | (subst hfl; exact ⟨rfl, by simp [Pw.step, Pa.step, Pa.falls, step_map0]⟩)
      | (subst hfl; have hl0 : ¬ left ≤ 0 := by omega
         exact ⟨ret_bool (by simp [Pa.falls, hl0]), by rw [step_map0 (by simp [Pa.falls, hl0])]; simp only [Pw.step, Pa.step, hl0, if_true, if_false]; rfl⟩)
      | (subst hfl; have hl0 : left ≤ 0 := by omega
         refine ⟨ret_bool (by simp [Pa.falls, hl0]), ?_⟩; rw [hlen, cutTo_all, step_map (by simp [Pa.falls, hl0])]; simp [Pw.step, Pa.step, hl0])
    · replace hc1 := of_decide_eq_false hc1
      simp only at hc1
      refine C_skip ?_
      refine C_seq ?_
      refine C_region ?_
      refine L_y rfl (y_move rfl) rfl ?_
      refine L_y rfl (y_move rfl) rfl ?_
      refine L_y rfl (y_nilCheck rfl) rfl ?_
      refine L_y rfl (y_fieldAddr rfl fl_115_0) rfl ?_
      refine L_op rfl (op_store1 0 0 rfl rfl rfl sz_4 rfl (Nat.le_of_ble_eq_true rfl) ?_)
      refine L_y rfl (y_nilCheck rfl) rfl ?_
      refine L_y rfl (y_fieldAddr rfl fl_115_2) rfl ?_
      refine L_op rfl (op_store1 0 0 rfl rfl rfl sz_4 rfl (Nat.le_of_ble_eq_true rfl) ?_)
      refine L_nil ?_
      refine C_seq ?_
      refine C_seq ?_
      refine C_region ?_
      refine L_y rfl (y_move rfl) rfl ?_
      refine L_y rfl (y_nilCheck rfl) rfl ?_
      refine L_y rfl (y_fieldAddr rfl fl_115_3) rfl ?_
      refine L_y rfl (y_load rfl ag_113 (sees 0 0 rfl) rfl) rfl ?_
      refine L_y rfl (y_lenV hpg rfl rfl Try.underlying113) rfl ?_
      refine L_y rfl (y_move rfl) rfl ?_
      refine L_nil ?_
      refine C_block ?_
      refine C_loop (ι := Nat) (fun i => [(36, slV pg devs.length), (37, .int .i64 (devs.length : Int)), (38, .int .i64 (i : Int))]) (fun i => [(d.pw, .cells (Pw.cells ⟨d.pw, pg, devs, ⟨true, left, false⟩⟩).toArray dt.pow)] :: slSeg 1 pg (devs.map (clos dt)) :: ((cutTo A i).flatMap (Dv.segs dt) ++ H)) (fun i => i ≤ devs.length) (fun i => devs.length - i) 0 (Nat.zero_le _) ⟨rfl, rfl, rfl, trivial⟩ (HSub.same (by simp [cutTo]; rfl)) (fun i hi => ?_)
      skip
      refine C_seq ?_
      refine C_region ?_
      refine L_y rfl (y_lss rfl rfl) rfl ?_
      refine L_nil ?_
      refine C_seq ?_
      refine C_cond rfl (fun hc2 => ?_) (fun hc2 => ?_)
      · replace hc2 := of_decide_eq_true hc2
        refine C_skip ?_
        refine C_seq ?_
        refine C_block ?_
        refine C_seq ?_
        obtain ⟨x, hx⟩ : ∃ x, A[i]? = some x := ⟨_, List.getElem?_eq_getElem (by omega)⟩
        cases pg with
        | none => exact absurd hpg.2 (by omega)
        | some pg => ?_
        refine C_region ?_
        refine L_y rfl (y_indexS rfl rfl Try.underlying113 sz_1 (by omega) (by omega) rfl) rfl ?_
        refine L_y rfl (y_load rfl ag_1 (sees 1 0 rfl) (show _ = some (clos dt x.b) from by rw [show (0 + ((i : Int)).toNat * 1) = i from by omega, List.getElem?_append_left (by simp; omega), hdev]; simp [hx])) rfl ?_
        refine L_y rfl (y_assign rfl) rfl ?_
        refine L_nil ?_
        refine C_region ?_
        refine L_y rfl (y_move rfl) rfl ?_
        refine L_op rfl (op_call rfl rfl (fun a w => Try.call54 a w) rfl ?_)
        refine (cutstep hx (hok x (List.mem_of_getElem? hx)) _ _).mono ?_
        rintro _ _ ⟨rfl, rfl⟩
        refine ⟨_, rfl, ?_⟩
        refine L_nil ?_
        refine C_region ?_
        refine L_y rfl (y_add rfl rfl (wi64 (by omega) (by omega))) rfl ?_
        refine L_y rfl (y_move rfl) rfl ?_
        refine L_nil ?_
        exact ⟨i + 1, by omega, by omega, ⟨rfl, rfl, rfl, trivial⟩, HSub.refl _⟩
      · replace hc2 := of_decide_eq_false hc2
        refine C_exit ?_
        refine C_seq ?_
        obtain rfl : i = devs.length := by omega
        refine C_region ?_
        refine L_y rfl (y_assign rfl) rfl ?_
        refine L_nil ?_
        refine C_ret ?_
        refine B_ret (rv_tmp rfl rv_nil) (HSub.refl _) ?_
        first
        | (subst hfl; exact ⟨rfl, by simp [Pw.step, Pa.step, Pa.falls, step_map0]⟩)
        | (subst hfl; have hl0 : ¬ left ≤ 0 := by omega
           exact ⟨ret_bool (by simp [Pa.falls, hl0]), by rw [step_map0 (by simp [Pa.falls, hl0])]; simp only [Pw.step, Pa.step, hl0, if_true, if_false]; rfl⟩)
        | (subst hfl; have hl0 : left ≤ 0 := by omega
           refine ⟨ret_bool (by simp [Pa.falls, hl0]), ?_⟩; rw [hlen, cutTo_all, step_map (by simp [Pa.falls, hl0])]; simp [Pw.step, Pa.step, hl0])

end Go.Proofs.Ytoaalclbplgegaa
