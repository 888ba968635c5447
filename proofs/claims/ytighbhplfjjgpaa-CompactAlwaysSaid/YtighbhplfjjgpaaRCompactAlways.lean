/- The statement CompactAlways of the given program: for every input the law returns true, and each argument reads as before. No condition. (The frame follows the kit's own shell; the walk is own work.) -/
import Derived.Test.YtighbhplfjjgpaaRows
import Derived.WalkKit
import Derived.ProofKit
import Derived.OpenShut
import Derived.ShutString
import Derived.ChangeOld
import Derived.Below
import Derived.Carry
import Derived.Test.YtighbhplfjjgpaaMCompactAlwaysd
namespace Go.Proofs.Ytighbhplfjjgpaa.compactAlways
open Go.ChangeShapes Go.WideShapes Go.ChangeAt Go.RowKit Go.Sl
set_option linter.unusedVariables false

theorem own : ownKnob Try.prog.godebug = none := by kernel_rfl
theorem laidOut : laidOutB Try.prog = true := by kernel_rfl
theorem flat0 : flatT Try.prog 8 23 = some [.int .i64, .int .i64] := by kernel_rfl
theorem isagg0 : isAggT Try.prog 23 = true := by kernel_rfl
theorem flat1 : flatT Try.prog 8 83 = some [.int .u64, .int .i64] := by kernel_rfl
theorem cells1 : Try.prog.cellsOf 83 = List.length (α := Sc) [.int .u64, .int .i64] := by kernel_rfl

/-- The walk: the law returns true, and writes nothing that was there. -/
theorem walk (c0 : List Value) (a1 : Option Addr) (len1 cap1 : Nat) (a2 : Int) (w : World) (w0 : Fits [.int .i64, .int .i64] c0) (w1 : InS w [.int .u64, .int .i64] a1 len1 cap1) (w2 : (Lit.int .u8 a2).wf = true) :
    Calls Try.prog 4 #[.agg c0.toArray, .slice a1 len1 cap1, .int .u8 a2] w fun e w' => e = .returned (.bool true) ∧ Below w.heap.size w w' := by
  obtain ⟨_, _, rfl, ⟨segs, rfl, _⟩, g1⟩ := Fits.cons_iff.1 w0
  obtain ⟨_, _, rfl, ⟨size, rfl, _⟩, g2⟩ := Fits.cons_iff.1 g1
  obtain rfl := Fits.nil_iff.1 g2
  obtain ⟨ll, rfl, hA, hb⟩ := in_lcs w1
  have b2 := bounds_u8 w2
  obtain ⟨ff, rfl⟩ : ∃ m : Nat, a2 = m := ⟨a2.toNat, by omega⟩
  have hff : ff < 256 := by omega
  by_cases hl : 120 < ll.length
  · exact (FnS.run (always_120 (H := []) hA hb segs size ff hff hl)).mono fun e w' ⟨bel, H', he⟩ => ⟨he, bel⟩
  · cases hm : mayG segs size with
    | false => exact (FnS.run (always_no (H := []) hA hb segs size ff hff hl hm)).mono fun e w' ⟨bel, H', he⟩ => ⟨he, bel⟩
    | true =>
      by_cases hi : 20 < segs
      · exact (FnS.run (always_20 (H := []) hA hb segs size ff hff hl hm hi)).mono fun e w' ⟨bel, H', he⟩ => ⟨he, bel⟩
      · obtain ⟨m1, m2, m3, m4⟩ := mayG_spec hm
        have hlo := Int.emod_nonneg (ff : Int) (show segs ≠ 0 by omega)
        have hhi := Int.emod_lt_of_pos (ff : Int) (show 0 < segs by omega)
        obtain ⟨nn, hnn⟩ : ∃ m : Nat, (m : Int) = (ff : Int) % segs := ⟨((ff : Int) % segs).toNat, by omega⟩
        obtain ⟨v, hv, hvs, hvn, hg⟩ := al_cases (nn := nn) hm (fun x hx => (laid_valid segs size _ ll rfl x hx).2) (by omega)
        exact (FnS.run (always_y (H := []) hA hb segs size ff hff hl hm hi hnn hv hvs hvn hg)).mono fun e w' ⟨bel, H', he⟩ => ⟨he, bel⟩

set_option maxRecDepth 100000 in
theorem lifted (os : Os) (started : os.Started) (H : Type) (enc : TypeId × Value → H) :
    ReturnsInHanded {} Try.checked os 4 .any (Rows.compactAlwaysSpec.pre6 enc Try.prog Try.f4 Rows.compactAlwaysRow.domain false) (Rows.compactAlwaysSpec.post enc Try.prog Try.f4 false true false false) := by
  refine returnsInHanded_of_change (C := Try.checked) own started (by kernel_rfl) Try.func4
    (ChangeSpec.witness6 (enc := enc) (C := Try.checked) false ⟨#[], #[.agg #[.int .i64 0, .int .i64 0], .slice none 0 0, .int .u8 0], []⟩ 8 (by kernel_rfl) (by kernel_rfl) (by kernel_rfl) (by kernel_rfl)) ?_
  intro W base args ds gs before hval0 hW hcnd _
  have hval : ∀ (j : Nat) t v, Try.f4.params[j]? = some t → args[j]? = some v → Value.okWide Try.prog W .any base t v := hval0
  have hW' := hW
  obtain ⟨p, q, hA0, hV, rfl, hfz, hnd⟩ := hW
  have hA : DataW.TrodAll enc Try.prog W 0 (fun _ => true) true Try.f4.params.toList args.toList ds p := hA0
  rw [Try.params4] at hA hval
  obtain ⟨v0, vs0, d0, ds0, p0, q0, hargs, rfl, rfl, h0, r0⟩ := trodAll_cons hA
  obtain ⟨v1, vs1, d1, ds1, p1, q1, rfl, rfl, rfl, h1, r1⟩ := trodAll_cons r0
  obtain ⟨v2, vs2, d2, ds2, p2, q2, rfl, rfl, rfl, h2, r2⟩ := trodAll_cons r1
  obtain ⟨rfl, rfl, rfl⟩ := trodAll_nil r2
  obtain rfl : args = #[v0, v1, v2] := by cases args; simp_all
  obtain ⟨rfl, rfl⟩ := trodVars_none hV
  have k0 := h0
  have lt0 : ∀ x ∈ p0, x.block < W.heap.size := by obtain ⟨m, hm⟩ := k0; exact DataW.trod_lt m _ _ _ hm
  have k1 := h1
  have lt1 : ∀ x ∈ p1, x.block < W.heap.size := by obtain ⟨m, hm⟩ := k1; exact DataW.trod_lt m _ _ _ hm
  have k2 := h2
  have lt2 : ∀ x ∈ p2, x.block < W.heap.size := by obtain ⟨m, hm⟩ := k2; exact DataW.trod_lt m _ _ _ hm
  obtain ⟨c0, rfl, w0⟩ := flat_agg flat0 (okWide_agg isagg0 (hval 0 23 v0 rfl rfl)) h0
  obtain ⟨a1, len1, cap1, rfl⟩ := okWide_slice Try.underlying24 (hval 1 24 v1 rfl rfl)
  have w1 := flat_slice Try.underlying24 flat1 cells1 (by simp) h1
  obtain ⟨a2, rfl, -, -, w2⟩ := open_int Try.underlying5 (hval 2 5 v2 rfl rfl) h2
  clear hA0 hval0
  refine (walk c0 a1 len1 cap1 a2 W w0 w1 w2).mono fun e W' ⟨he, bel⟩ => ?_
  subst he
  exact ⟨_, rfl, _, _, _, [], _, [], hW', trodAll_mk1 (shut_bool Try.underlying4 _), (trodAll_cons_mk (Below.trod laidOut (by kernel_rfl) (of_decide_eq_true (by kernel_rfl)) k0 bel lt0) (trodAll_cons_mk (Below.trod laidOut (by kernel_rfl) (of_decide_eq_true (by kernel_rfl)) k1 bel lt1) (trodAll_cons_mk (Below.trod laidOut (by kernel_rfl) (of_decide_eq_true (by kernel_rfl)) k2 bel lt2) trodAll_mk0))), rfl, bel.frame _, fun h => by cases h⟩

theorem over : Rows.compactAlwaysRow.holds Try.pinned (OpenSpec.ofChange Rows.compactAlwaysSpec) :=
  OpenClaim.holds_of_wide 4 Try.f4 rfl rfl rfl rfl rfl rfl rfl ⟨rfl, rfl, rfl, rfl, rfl⟩ rfl rfl rfl rfl rfl (by kernel_rfl) Try.func4 (by kernel_rfl)
    (of_decide_eq_true (by kernel_rfl)) (by unfold Func.isWrapper; first | (rw [if_pos (by decide +kernel)]; kernel_rfl) | (rw [if_neg (by decide +kernel)]; exact ⟨rfl, rfl⟩))
    (fun os started H enc _ => lifted os started H enc)

theorem proved : Rows.CompactAlwaysSaid := over
end Go.Proofs.Ytighbhplfjjgpaa.compactAlways
theorem Go.Proofs.Ytighbhplfjjgpaa.compactAlways_holds : Go.Proofs.Ytighbhplfjjgpaa.Rows.CompactAlwaysSaid := Go.Proofs.Ytighbhplfjjgpaa.compactAlways.proved
