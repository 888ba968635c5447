/- The statement DeviceLies of the given program: for every input the law returns true, and each argument reads as before. No condition. (The frame follows the kit's own shell; the walk is own work.) -/
import Derived.Test.YtjiojffakejgjaaRows
import Derived.WalkKit
import Derived.ProofKit
import Derived.OpenShut
import Derived.ShutString
import Derived.ChangeOld
import Derived.Below
import Derived.Carry
import Derived.Test.YtjiojffakejgjaaLlW
import Derived.Test.YtjiojffakejgjaaRd
namespace Go.Proofs.Ytjiojffakejgjaa.deviceLies
open Go.ChangeShapes Go.WideShapes Go.ChangeAt Go.RowKit Go.Sl
set_option linter.unusedVariables false

theorem own : ownKnob Try.prog.godebug = none := by kernel_rfl
theorem laidOut : laidOutB Try.prog = true := by kernel_rfl
theorem flat0 : flatT Try.prog 8 57 = some [.int .i64, .int .i64, .int .i64, .int .i64, .int .u8] := by kernel_rfl
theorem cells0 : Try.prog.cellsOf 57 = List.length (α := Sc) [.int .i64, .int .i64, .int .i64, .int .i64, .int .u8] := by kernel_rfl

/-- The walk: the law returns true, and writes nothing that was there. -/
theorem walk (a0 : Option Addr) (len0 cap0 : Nat) (w : World) (w0 : InS w [.int .i64, .int .i64, .int .i64, .int .i64, .int .u8] a0 len0 cap0) :
    Calls Try.prog 9 #[.slice a0 len0 cap0] w fun e w' => e = .returned (.bool true) ∧ Below w.heap.size w w' := by
  obtain ⟨ds, rfl, hL⟩ := in_deeds w0
  by_cases h : 20 < ds.length
  · exact (FnS.run (lies_over (H := []) ds hL h)).mono fun e w' ⟨bel, H', he⟩ => ⟨he, bel⟩
  · exact (FnS.run (lies_s (H := []) ds hL h)).mono fun e w' ⟨bel, H', he⟩ => ⟨he, bel⟩

set_option maxRecDepth 100000 in
theorem lifted (os : Os) (started : os.Started) (H : Type) (enc : TypeId × Value → H) :
    ReturnsInHanded {} Try.checked os 9 .any (Rows.deviceLiesSpec.pre6 enc Try.prog Try.f9 Rows.deviceLiesRow.domain false) (Rows.deviceLiesSpec.post enc Try.prog Try.f9 false true false false) := by
  refine returnsInHanded_of_change (C := Try.checked) own started (by kernel_rfl) Try.func9
    (ChangeSpec.witness6 (enc := enc) (C := Try.checked) false ⟨#[], #[.slice none 0 0], []⟩ 8 (by kernel_rfl) (by kernel_rfl) (by kernel_rfl) (by kernel_rfl)) ?_
  intro W base args ds gs before hval0 hW hcnd _
  have hval : ∀ (j : Nat) t v, Try.f9.params[j]? = some t → args[j]? = some v → Value.okWide Try.prog W .any base t v := hval0
  have hW' := hW
  obtain ⟨p, q, hA0, hV, rfl, hfz, hnd⟩ := hW
  have hA : DataW.TrodAll enc Try.prog W 0 (fun _ => true) true Try.f9.params.toList args.toList ds p := hA0
  rw [Try.params9] at hA hval
  obtain ⟨v0, vs0, d0, ds0, p0, q0, hargs, rfl, rfl, h0, r0⟩ := trodAll_cons hA
  obtain ⟨rfl, rfl, rfl⟩ := trodAll_nil r0
  obtain rfl : args = #[v0] := by cases args; simp_all
  obtain ⟨rfl, rfl⟩ := trodVars_none hV
  have k0 := h0
  have lt0 : ∀ x ∈ p0, x.block < W.heap.size := by obtain ⟨m, hm⟩ := k0; exact DataW.trod_lt m _ _ _ hm
  obtain ⟨a0, len0, cap0, rfl⟩ := okWide_slice Try.underlying55 (hval 0 55 v0 rfl rfl)
  have w0 := flat_slice Try.underlying55 flat0 cells0 (by simp) h0
  clear hA0 hval0
  refine (walk a0 len0 cap0 W w0).mono fun e W' ⟨he, bel⟩ => ?_
  subst he
  exact ⟨_, rfl, _, _, _, [], _, [], hW', trodAll_mk1 (shut_bool Try.underlying4 _), (trodAll_cons_mk (Below.trod laidOut (by kernel_rfl) (of_decide_eq_true (by kernel_rfl)) k0 bel lt0) trodAll_mk0), rfl, bel.frame _, fun h => by cases h⟩

theorem over : Rows.deviceLiesRow.holds Try.pinned (OpenSpec.ofChange Rows.deviceLiesSpec) :=
  OpenClaim.holds_of_wide 9 Try.f9 rfl rfl rfl rfl rfl rfl rfl ⟨rfl, rfl, rfl, rfl, rfl⟩ rfl rfl rfl rfl rfl (by kernel_rfl) Try.func9 (by kernel_rfl)
    (of_decide_eq_true (by kernel_rfl)) (by unfold Func.isWrapper; first | (rw [if_pos (by decide +kernel)]; kernel_rfl) | (rw [if_neg (by decide +kernel)]; exact ⟨rfl, rfl⟩))
    (fun os started H enc _ => lifted os started H enc)

theorem proved : Rows.DeviceLiesSaid := over
end Go.Proofs.Ytjiojffakejgjaa.deviceLies
theorem Go.Proofs.Ytjiojffakejgjaa.deviceLies_holds : Go.Proofs.Ytjiojffakejgjaa.Rows.DeviceLiesSaid := Go.Proofs.Ytjiojffakejgjaa.deviceLies.proved
