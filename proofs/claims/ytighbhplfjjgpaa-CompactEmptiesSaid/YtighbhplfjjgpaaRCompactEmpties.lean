/- The statement CompactEmpties of the given program: for every input the law returns true, and each argument reads as before. No condition. (The frame follows the kit's own shell; the walk is own work.) -/
import Derived.Test.YtighbhplfjjgpaaRows
import Derived.WalkKit
import Derived.ProofKit
import Derived.OpenShut
import Derived.ShutString
import Derived.ChangeOld
import Derived.Below
import Derived.Carry
import Derived.Test.YtighbhplfjjgpaaMCompactEmptiesd
namespace Go.Proofs.Ytighbhplfjjgpaa.compactEmpties
open Go.ChangeShapes Go.WideShapes Go.ChangeAt Go.RowKit Go.Sl
set_option linter.unusedVariables false

theorem own : ownKnob Try.prog.godebug = none := by kernel_rfl
theorem laidOut : laidOutB Try.prog = true := by kernel_rfl
theorem flat0 : flatT Try.prog 8 23 = some [.int .i64, .int .i64] := by kernel_rfl
theorem isagg0 : isAggT Try.prog 23 = true := by kernel_rfl
theorem flat1 : flatT Try.prog 8 83 = some [.int .u64, .int .i64] := by kernel_rfl
theorem cells1 : Try.prog.cellsOf 83 = List.length (α := Sc) [.int .u64, .int .i64] := by kernel_rfl
theorem flat2 : flatT Try.prog 8 4 = some [.bool] := by kernel_rfl
theorem cells2 : Try.prog.cellsOf 4 = List.length (α := Sc) [.bool] := by kernel_rfl

/-- The walk: the law returns true, and writes nothing that was there. -/
theorem walk (c0 : List Value) (a1 : Option Addr) (len1 cap1 : Nat) (a2 : Option Addr) (len2 cap2 : Nat) (a3 : Int) (w : World) (w0 : Fits [.int .i64, .int .i64] c0) (w1 : InS w [.int .u64, .int .i64] a1 len1 cap1) (w2 : InS w [.bool] a2 len2 cap2) (w3 : (Lit.int .u8 a3).wf = true) :
    Calls Try.prog 5 #[.agg c0.toArray, .slice a1 len1 cap1, .slice a2 len2 cap2, .int .u8 a3] w fun e w' => e = .returned (.bool true) ∧ Below w.heap.size w w' := by
  obtain ⟨_, _, rfl, ⟨segs, rfl, _⟩, g1⟩ := Fits.cons_iff.1 w0
  obtain ⟨_, _, rfl, ⟨size, rfl, _⟩, g2⟩ := Fits.cons_iff.1 g1
  obtain rfl := Fits.nil_iff.1 g2
  obtain ⟨ll, rfl, hA, hb⟩ := in_lcs w1
  obtain ⟨li, rfl, hI⟩ := in_bos w2
  have b2 := bounds_u8 w3
  obtain ⟨ff, rfl⟩ : ∃ m : Nat, a3 = m := ⟨a3.toNat, by omega⟩
  have hff : ff < 256 := by omega
  by_cases hl : 40 < ll.length
  · exact (FnS.run (empties_40 (H := []) hA hb hI segs size ff hff hl)).mono fun e w' ⟨bel, H', he⟩ => ⟨he, bel⟩
  · cases hm : mayG segs size with
    | false => exact (FnS.run (empties_no (H := []) hA hb hI segs size ff hff hl hm)).mono fun e w' ⟨bel, H', he⟩ => ⟨he, bel⟩
    | true =>
      by_cases hi : 20 < segs ∨ 20 < li.length
      · exact (FnS.run (empties_20 (H := []) hA hb hI segs size ff hff hl hm hi)).mono fun e w' ⟨bel, H', he⟩ => ⟨he, bel⟩
      · simp only [not_or] at hi
        obtain ⟨m1, m2, m3, m4⟩ := mayG_spec hm
        have hlo := Int.emod_nonneg (ff : Int) (show segs ≠ 0 by omega)
        have hhi := Int.emod_lt_of_pos (ff : Int) (show 0 < segs by omega)
        obtain ⟨nn, hnn⟩ : ∃ m : Nat, (m : Int) = (ff : Int) % segs := ⟨((ff : Int) % segs).toNat, by omega⟩
        cases hv : vic (pqH (-1) li) (fun j => cnt18 segs size (laidL segs size ll) (j : Int)) segs.toNat with
        | none => exact (FnS.run (empties_n (H := []) hA hb hI segs size ff hff hl hm hi.1 hi.2 hv)).mono fun e w' ⟨bel, H', he⟩ => ⟨he, bel⟩
        | some v =>
          by_cases he : nn = v
          · exact (FnS.run (empties_o (H := []) hA hb hI segs size ff hff hl hm hi.1 hi.2 hnn (by omega) hv he)).mono fun e w' ⟨bel, H', he⟩ => ⟨he, bel⟩
          · have hvs := (vic_spec hv).1
            exact (FnS.run (empties_y (H := []) hA hb hI segs size ff hff hl hm hi.1 hi.2 hnn (by omega) hv he (by omega) (of_first hm (by omega)) (fun h0 => em_cases hv h0))).mono fun e w' ⟨bel, H', he⟩ => ⟨he, bel⟩

set_option maxRecDepth 100000 in
theorem lifted (os : Os) (started : os.Started) (H : Type) (enc : TypeId × Value → H) :
    ReturnsInHanded {} Try.checked os 5 .any (Rows.compactEmptiesSpec.pre6 enc Try.prog Try.f5 Rows.compactEmptiesRow.domain false) (Rows.compactEmptiesSpec.post enc Try.prog Try.f5 false true false false) := by
  refine returnsInHanded_of_change (C := Try.checked) own started (by kernel_rfl) Try.func5
    (ChangeSpec.witness6 (enc := enc) (C := Try.checked) false ⟨#[], #[.agg #[.int .i64 0, .int .i64 0], .slice none 0 0, .slice none 0 0, .int .u8 0], []⟩ 8 (by kernel_rfl) (by kernel_rfl) (by kernel_rfl) (by kernel_rfl)) ?_
  intro W base args ds gs before hval0 hW hcnd _
  have hval : ∀ (j : Nat) t v, Try.f5.params[j]? = some t → args[j]? = some v → Value.okWide Try.prog W .any base t v := hval0
  have hW' := hW
  obtain ⟨p, q, hA0, hV, rfl, hfz, hnd⟩ := hW
  have hA : DataW.TrodAll enc Try.prog W 0 (fun _ => true) true Try.f5.params.toList args.toList ds p := hA0
  rw [Try.params5] at hA hval
  obtain ⟨v0, vs0, d0, ds0, p0, q0, hargs, rfl, rfl, h0, r0⟩ := trodAll_cons hA
  obtain ⟨v1, vs1, d1, ds1, p1, q1, rfl, rfl, rfl, h1, r1⟩ := trodAll_cons r0
  obtain ⟨v2, vs2, d2, ds2, p2, q2, rfl, rfl, rfl, h2, r2⟩ := trodAll_cons r1
  obtain ⟨v3, vs3, d3, ds3, p3, q3, rfl, rfl, rfl, h3, r3⟩ := trodAll_cons r2
  obtain ⟨rfl, rfl, rfl⟩ := trodAll_nil r3
  obtain rfl : args = #[v0, v1, v2, v3] := by cases args; simp_all
  obtain ⟨rfl, rfl⟩ := trodVars_none hV
  have k0 := h0
  have lt0 : ∀ x ∈ p0, x.block < W.heap.size := by obtain ⟨m, hm⟩ := k0; exact DataW.trod_lt m _ _ _ hm
  have k1 := h1
  have lt1 : ∀ x ∈ p1, x.block < W.heap.size := by obtain ⟨m, hm⟩ := k1; exact DataW.trod_lt m _ _ _ hm
  have k2 := h2
  have lt2 : ∀ x ∈ p2, x.block < W.heap.size := by obtain ⟨m, hm⟩ := k2; exact DataW.trod_lt m _ _ _ hm
  have k3 := h3
  have lt3 : ∀ x ∈ p3, x.block < W.heap.size := by obtain ⟨m, hm⟩ := k3; exact DataW.trod_lt m _ _ _ hm
  obtain ⟨c0, rfl, w0⟩ := flat_agg flat0 (okWide_agg isagg0 (hval 0 23 v0 rfl rfl)) h0
  obtain ⟨a1, len1, cap1, rfl⟩ := okWide_slice Try.underlying24 (hval 1 24 v1 rfl rfl)
  have w1 := flat_slice Try.underlying24 flat1 cells1 (by simp) h1
  obtain ⟨a2, len2, cap2, rfl⟩ := okWide_slice Try.underlying25 (hval 2 25 v2 rfl rfl)
  have w2 := flat_slice Try.underlying25 flat2 cells2 (by simp) h2
  obtain ⟨a3, rfl, -, -, w3⟩ := open_int Try.underlying5 (hval 3 5 v3 rfl rfl) h3
  clear hA0 hval0
  refine (walk c0 a1 len1 cap1 a2 len2 cap2 a3 W w0 w1 w2 w3).mono fun e W' ⟨he, bel⟩ => ?_
  subst he
  exact ⟨_, rfl, _, _, _, [], _, [], hW', trodAll_mk1 (shut_bool Try.underlying4 _), (trodAll_cons_mk (Below.trod laidOut (by kernel_rfl) (of_decide_eq_true (by kernel_rfl)) k0 bel lt0) (trodAll_cons_mk (Below.trod laidOut (by kernel_rfl) (of_decide_eq_true (by kernel_rfl)) k1 bel lt1) (trodAll_cons_mk (Below.trod laidOut (by kernel_rfl) (of_decide_eq_true (by kernel_rfl)) k2 bel lt2) (trodAll_cons_mk (Below.trod laidOut (by kernel_rfl) (of_decide_eq_true (by kernel_rfl)) k3 bel lt3) trodAll_mk0)))), rfl, bel.frame _, fun h => by cases h⟩

theorem over : Rows.compactEmptiesRow.holds Try.pinned (OpenSpec.ofChange Rows.compactEmptiesSpec) :=
  OpenClaim.holds_of_wide 5 Try.f5 rfl rfl rfl rfl rfl rfl rfl ⟨rfl, rfl, rfl, rfl, rfl⟩ rfl rfl rfl rfl rfl (by kernel_rfl) Try.func5 (by kernel_rfl)
    (of_decide_eq_true (by kernel_rfl)) (by unfold Func.isWrapper; first | (rw [if_pos (by decide +kernel)]; kernel_rfl) | (rw [if_neg (by decide +kernel)]; exact ⟨rfl, rfl⟩))
    (fun os started H enc _ => lifted os started H enc)

theorem proved : Rows.CompactEmptiesSaid := over
end Go.Proofs.Ytighbhplfjjgpaa.compactEmpties
theorem Go.Proofs.Ytighbhplfjjgpaa.compactEmpties_holds : Go.Proofs.Ytighbhplfjjgpaa.Rows.CompactEmptiesSaid := Go.Proofs.Ytighbhplfjjgpaa.compactEmpties.proved
