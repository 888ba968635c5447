/- The statement SuperCodes of the given program: for every input the law returns true, and each argument reads as before. No condition. (The frame follows the kit's own shell; the walk is own work.) -/
import Derived.Test.YtjiojffakejgjaaRows
import Derived.WalkKit
import Derived.ProofKit
import Derived.OpenShut
import Derived.ShutString
import Derived.ChangeOld
import Derived.Below
import Derived.Carry
import Derived.Test.YtjiojffakejgjaaScW
import Derived.Test.YtjiojffakejgjaaRg
namespace Go.Proofs.Ytjiojffakejgjaa.superCodes
open Go.ChangeShapes Go.WideShapes Go.ChangeAt Go.RowKit Go.Sl
set_option linter.unusedVariables false

theorem own : ownKnob Try.prog.godebug = none := by kernel_rfl
theorem laidOut : laidOutB Try.prog = true := by kernel_rfl
theorem flat0 : flatT Try.prog 8 24 = some [.int .u64, .int .i64, .int .u64] := by kernel_rfl
theorem isagg0 : isAggT Try.prog 24 = true := by kernel_rfl
theorem flat1 : flatT Try.prog 8 5 = some [.int .u8] := by kernel_rfl
theorem cells1 : Try.prog.cellsOf 5 = List.length (α := Sc) [.int .u8] := by kernel_rfl

/-- The walk: the law returns true, and writes nothing that was there. -/
theorem walk (c0 : List Value) (a1 : Option Addr) (len1 cap1 : Nat) (a2 : Int) (w : World) (w0 : Fits [.int .u64, .int .i64, .int .u64] c0) (w1 : InS w [.int .u8] a1 len1 cap1) (w2 : (Lit.int .u8 a2).wf = true) :
    Calls Try.prog 3 #[.agg c0.toArray, .slice a1 len1 cap1, .int .u8 a2] w fun e w' => e = .returned (.bool true) ∧ Below w.heap.size w w' := by
  obtain ⟨_, _, rfl, ⟨v, rfl, hv⟩, g1⟩ := Fits.cons_iff.1 w0
  obtain ⟨_, _, rfl, ⟨now, rfl, hn⟩, g2⟩ := Fits.cons_iff.1 g1
  obtain ⟨_, _, rfl, ⟨top, rfl, ht⟩, g3⟩ := Fits.cons_iff.1 g2
  obtain rfl := Fits.nil_iff.1 g3
  have bv := bounds_u64 hv
  have bt := bounds_u64 ht
  have bc := bounds_u8 w2
  obtain ⟨v, rfl⟩ : ∃ m : Nat, v = m := ⟨v.toNat, by omega⟩
  obtain ⟨top, rfl⟩ : ∃ m : Nat, top = m := ⟨top.toNat, by omega⟩
  obtain ⟨u, hu, hm⟩ : ∃ u : List UInt8, u.length = len1 ∧ Src Try.prog w [] 1 (.slice a1 len1 cap1) len1 (bs u) := by
    rcases w1 with ⟨rfl, rfl, rfl⟩ | ⟨x, rfl, h1, h2, h3⟩
    · exact ⟨[], rfl, src_nil⟩
    · rcases Nat.eq_zero_or_pos len1 with rfl | hp
      · exact ⟨[], rfl, src_zero⟩
      · obtain ⟨b, off, l, T, fr, rfl, hb, hl, hf⟩ := h3 hp
        obtain ⟨u, hu, ht⟩ := in_bytes hl hf
        exact ⟨u, hu, src_slice (sees_old hb) (by simpa using hl) (by simpa using ht)⟩
  subst hu
  by_cases hl : 20 < u.length
  · exact (FnS.run (scodes_over (H := []) v now top (by omega) u a2 bc.1 (by omega) hm hl)).mono fun e w' ⟨bel, H', he⟩ => ⟨he, bel⟩
  · cases hmay : mayS now top with
    | false => exact (FnS.run (scodes_not (H := []) v now top (by omega) u a2 bc.1 (by omega) hm hl hmay)).mono fun e w' ⟨bel, H', he⟩ => ⟨he, bel⟩
    | true =>
      cases u with
      | nil => exact (FnS.run (scodes_eq (H := []) v now top (by omega) a2 bc.1 (by omega) hm hmay)).mono fun e w' ⟨bel, H', he⟩ => ⟨he, bel⟩
      | cons y u => exact (FnS.run (scodes_more (H := []) v now top (by omega) (y :: u) a2 bc.1 (by omega) hm hl (by simp) hmay)).mono fun e w' ⟨bel, H', he⟩ => ⟨he, bel⟩

set_option maxRecDepth 100000 in
theorem lifted (os : Os) (started : os.Started) (H : Type) (enc : TypeId × Value → H) :
    ReturnsInHanded {} Try.checked os 3 .any (Rows.superCodesSpec.pre6 enc Try.prog Try.f3 Rows.superCodesRow.domain false) (Rows.superCodesSpec.post enc Try.prog Try.f3 false true false false) := by
  refine returnsInHanded_of_change (C := Try.checked) own started (by kernel_rfl) Try.func3
    (ChangeSpec.witness6 (enc := enc) (C := Try.checked) false ⟨#[], #[.agg #[.int .u64 0, .int .i64 0, .int .u64 0], .slice none 0 0, .int .u8 0], []⟩ 8 (by kernel_rfl) (by kernel_rfl) (by kernel_rfl) (by kernel_rfl)) ?_
  intro W base args ds gs before hval0 hW hcnd _
  have hval : ∀ (j : Nat) t v, Try.f3.params[j]? = some t → args[j]? = some v → Value.okWide Try.prog W .any base t v := hval0
  have hW' := hW
  obtain ⟨p, q, hA0, hV, rfl, hfz, hnd⟩ := hW
  have hA : DataW.TrodAll enc Try.prog W 0 (fun _ => true) true Try.f3.params.toList args.toList ds p := hA0
  rw [Try.params3] at hA hval
  obtain ⟨v0, vs0, d0, ds0, p0, q0, hargs, rfl, rfl, h0, r0⟩ := trodAll_cons hA
  obtain ⟨v1, vs1, d1, ds1, p1, q1, rfl, rfl, rfl, h1, r1⟩ := trodAll_cons r0
  obtain ⟨v2, vs2, d2, ds2, p2, q2, rfl, rfl, rfl, h2, r2⟩ := trodAll_cons r1
  obtain ⟨rfl, rfl, rfl⟩ := trodAll_nil r2
  obtain rfl : args = #[v0, v1, v2] := by cases args; simp_all
  obtain ⟨rfl, rfl⟩ := trodVars_none hV
  have k0 := h0
  have lt0 : ∀ x ∈ p0, x.block < W.heap.size := by obtain ⟨m, hm⟩ := k0; exact DataW.trod_lt m _ _ _ hm
  have k1 := h1
  have lt1 : ∀ x ∈ p1, x.block < W.heap.size := by obtain ⟨m, hm⟩ := k1; exact DataW.trod_lt m _ _ _ hm
  have k2 := h2
  have lt2 : ∀ x ∈ p2, x.block < W.heap.size := by obtain ⟨m, hm⟩ := k2; exact DataW.trod_lt m _ _ _ hm
  obtain ⟨c0, rfl, w0⟩ := flat_agg flat0 (okWide_agg isagg0 (hval 0 24 v0 rfl rfl)) h0
  obtain ⟨a1, len1, cap1, rfl⟩ := okWide_slice Try.underlying25 (hval 1 25 v1 rfl rfl)
  have w1 := flat_slice Try.underlying25 flat1 cells1 (by simp) h1
  obtain ⟨a2, rfl, -, -, w2⟩ := open_int Try.underlying5 (hval 2 5 v2 rfl rfl) h2
  clear hA0 hval0
  refine (walk c0 a1 len1 cap1 a2 W w0 w1 w2).mono fun e W' ⟨he, bel⟩ => ?_
  subst he
  exact ⟨_, rfl, _, _, _, [], _, [], hW', trodAll_mk1 (shut_bool Try.underlying4 _), (trodAll_cons_mk (Below.trod laidOut (by kernel_rfl) (of_decide_eq_true (by kernel_rfl)) k0 bel lt0) (trodAll_cons_mk (Below.trod laidOut (by kernel_rfl) (of_decide_eq_true (by kernel_rfl)) k1 bel lt1) (trodAll_cons_mk (Below.trod laidOut (by kernel_rfl) (of_decide_eq_true (by kernel_rfl)) k2 bel lt2) trodAll_mk0))), rfl, bel.frame _, fun h => by cases h⟩

theorem over : Rows.superCodesRow.holds Try.pinned (OpenSpec.ofChange Rows.superCodesSpec) :=
  OpenClaim.holds_of_wide 3 Try.f3 rfl rfl rfl rfl rfl rfl rfl ⟨rfl, rfl, rfl, rfl, rfl⟩ rfl rfl rfl rfl rfl (by kernel_rfl) Try.func3 (by kernel_rfl)
    (of_decide_eq_true (by kernel_rfl)) (by unfold Func.isWrapper; first | (rw [if_pos (by decide +kernel)]; kernel_rfl) | (rw [if_neg (by decide +kernel)]; exact ⟨rfl, rfl⟩))
    (fun os started H enc _ => lifted os started H enc)

theorem proved : Rows.SuperCodesSaid := over
end Go.Proofs.Ytjiojffakejgjaa.superCodes
theorem Go.Proofs.Ytjiojffakejgjaa.superCodes_holds : Go.Proofs.Ytjiojffakejgjaa.Rows.SuperCodesSaid := Go.Proofs.Ytjiojffakejgjaa.superCodes.proved
