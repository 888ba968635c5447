/- The statement SectorApart of the given program: for every input the law returns true, and each argument reads as before. No condition. (The frame follows the kit's own shell; the walk is own work.) -/
import Derived.Test.YthlkpbdnfdagfaaRows
import Derived.WalkKit
import Derived.ProofKit
import Derived.OpenShut
import Derived.ShutString
import Derived.ChangeOld
import Derived.Below
import Derived.Carry
import Derived.Test.YthlkpbdnfdagfaaXtW
import Derived.Test.YthlkpbdnfdagfaaRs
namespace Go.Proofs.Ythlkpbdnfdagfaa.sectorApart
open Go.ChangeShapes Go.WideShapes Go.ChangeAt Go.RowKit Go.Sl
set_option linter.unusedVariables false

theorem own : ownKnob Try.prog.godebug = none := by kernel_rfl
theorem laidOut : laidOutB Try.prog = true := by kernel_rfl
theorem flat0 : flatT Try.prog 8 44 = some [.int .u16, .int .u16] := by kernel_rfl
theorem isagg0 : isAggT Try.prog 44 = true := by kernel_rfl
theorem flat1 : flatT Try.prog 8 45 = some [.int .u64, .int .u64] := by kernel_rfl
theorem isagg1 : isAggT Try.prog 45 = true := by kernel_rfl
theorem flat2 : flatT Try.prog 8 5 = some [.int .u8] := by kernel_rfl
theorem cells2 : Try.prog.cellsOf 5 = List.length (α := Sc) [.int .u8] := by kernel_rfl
theorem flat3 : flatT Try.prog 8 5 = some [.int .u8] := by kernel_rfl
theorem cells3 : Try.prog.cellsOf 5 = List.length (α := Sc) [.int .u8] := by kernel_rfl

/-- The walk: the law returns true, and writes nothing that was there. -/
theorem walk (c0 : List Value) (c1 : List Value) (a2 : Option Addr) (len2 cap2 : Nat) (a3 : Option Addr) (len3 cap3 : Nat) (w : World) (w0 : Fits [.int .u16, .int .u16] c0) (w1 : Fits [.int .u64, .int .u64] c1) (w2 : InS w [.int .u8] a2 len2 cap2) (w3 : InS w [.int .u8] a3 len3 cap3) :
    Calls Try.prog 7 #[.agg c0.toArray, .agg c1.toArray, .slice a2 len2 cap2, .slice a3 len3 cap3] w fun e w' => e = .returned (.bool true) ∧ Below w.heap.size w w' := by
  obtain ⟨_, _, rfl, ⟨m0, rfl, k0⟩, g1⟩ := Fits.cons_iff.1 w0
  obtain ⟨_, _, rfl, ⟨m1, rfl, k1⟩, g2⟩ := Fits.cons_iff.1 g1
  obtain rfl := Fits.nil_iff.1 g2
  obtain ⟨_, _, rfl, ⟨n0, rfl, q0⟩, g3⟩ := Fits.cons_iff.1 w1
  obtain ⟨_, _, rfl, ⟨n1, rfl, q1⟩, g4⟩ := Fits.cons_iff.1 g3
  obtain rfl := Fits.nil_iff.1 g4
  have b0 := bounds_u16 k0
  have b1 := bounds_u16 k1
  have b2 := bounds_u64 q0
  have b3 := bounds_u64 q1
  obtain ⟨m0, rfl⟩ : ∃ m : Nat, m0 = (m : Int) := ⟨m0.toNat, by omega⟩
  obtain ⟨m1, rfl⟩ : ∃ m : Nat, m1 = (m : Int) := ⟨m1.toNat, by omega⟩
  obtain ⟨n0, rfl⟩ : ∃ m : Nat, n0 = (m : Int) := ⟨n0.toNat, by omega⟩
  obtain ⟨n1, rfl⟩ : ∃ m : Nat, n1 = (m : Int) := ⟨n1.toNat, by omega⟩
  obtain ⟨u, rfl, hU⟩ := in_byts w2
  obtain ⟨v, rfl, hV⟩ := in_byts w3
  exact (FnS.run (apart11_s (H := []) m0 m1 n0 n1 (by show n0 < 18446744073709551616; omega) (by show n1 < 18446744073709551616; omega) (by omega) (by omega) u v hU hV)).mono fun e w' ⟨bel, H', he⟩ => ⟨he, bel⟩

set_option maxRecDepth 100000 in
theorem lifted (os : Os) (started : os.Started) (H : Type) (enc : TypeId × Value → H) :
    ReturnsInHanded {} Try.checked os 7 .any (Rows.sectorApartSpec.pre6 enc Try.prog Try.f7 Rows.sectorApartRow.domain false) (Rows.sectorApartSpec.post enc Try.prog Try.f7 false true false false) := by
  refine returnsInHanded_of_change (C := Try.checked) own started (by kernel_rfl) Try.func7
    (ChangeSpec.witness6 (enc := enc) (C := Try.checked) false ⟨#[], #[.agg #[.int .u16 0, .int .u16 0], .agg #[.int .u64 0, .int .u64 0], .slice none 0 0, .slice none 0 0], []⟩ 8 (by kernel_rfl) (by kernel_rfl) (by kernel_rfl) (by kernel_rfl)) ?_
  intro W base args ds gs before hval0 hW hcnd _
  have hval : ∀ (j : Nat) t v, Try.f7.params[j]? = some t → args[j]? = some v → Value.okWide Try.prog W .any base t v := hval0
  have hW' := hW
  obtain ⟨p, q, hA0, hV, rfl, hfz, hnd⟩ := hW
  have hA : DataW.TrodAll enc Try.prog W 0 (fun _ => true) true Try.f7.params.toList args.toList ds p := hA0
  rw [Try.params7] at hA hval
  obtain ⟨v0, vs0, d0, ds0, p0, q0, hargs, rfl, rfl, h0, r0⟩ := trodAll_cons hA
  obtain ⟨v1, vs1, d1, ds1, p1, q1, rfl, rfl, rfl, h1, r1⟩ := trodAll_cons r0
  obtain ⟨v2, vs2, d2, ds2, p2, q2, rfl, rfl, rfl, h2, r2⟩ := trodAll_cons r1
  obtain ⟨v3, vs3, d3, ds3, p3, q3, rfl, rfl, rfl, h3, r3⟩ := trodAll_cons r2
  obtain ⟨rfl, rfl, rfl⟩ := trodAll_nil r3
  obtain rfl : args = #[v0, v1, v2, v3] := by cases args; simp_all
  obtain ⟨rfl, rfl⟩ := trodVars_none hV
  have k0 := h0
  have lt0 : ∀ x ∈ p0, x.block < W.heap.size := by obtain ⟨m, hm⟩ := k0; exact DataW.trod_lt m _ _ _ hm
  have k1 := h1
  have lt1 : ∀ x ∈ p1, x.block < W.heap.size := by obtain ⟨m, hm⟩ := k1; exact DataW.trod_lt m _ _ _ hm
  have k2 := h2
  have lt2 : ∀ x ∈ p2, x.block < W.heap.size := by obtain ⟨m, hm⟩ := k2; exact DataW.trod_lt m _ _ _ hm
  have k3 := h3
  have lt3 : ∀ x ∈ p3, x.block < W.heap.size := by obtain ⟨m, hm⟩ := k3; exact DataW.trod_lt m _ _ _ hm
  obtain ⟨c0, rfl, w0⟩ := flat_agg flat0 (okWide_agg isagg0 (hval 0 44 v0 rfl rfl)) h0
  obtain ⟨c1, rfl, w1⟩ := flat_agg flat1 (okWide_agg isagg1 (hval 1 45 v1 rfl rfl)) h1
  obtain ⟨a2, len2, cap2, rfl⟩ := okWide_slice Try.underlying23 (hval 2 23 v2 rfl rfl)
  have w2 := flat_slice Try.underlying23 flat2 cells2 (by simp) h2
  obtain ⟨a3, len3, cap3, rfl⟩ := okWide_slice Try.underlying23 (hval 3 23 v3 rfl rfl)
  have w3 := flat_slice Try.underlying23 flat3 cells3 (by simp) h3
  clear hA0 hval0
  refine (walk c0 c1 a2 len2 cap2 a3 len3 cap3 W w0 w1 w2 w3).mono fun e W' ⟨he, bel⟩ => ?_
  subst he
  exact ⟨_, rfl, _, _, _, [], _, [], hW', trodAll_mk1 (shut_bool Try.underlying4 _), (trodAll_cons_mk (Below.trod laidOut (by kernel_rfl) (of_decide_eq_true (by kernel_rfl)) k0 bel lt0) (trodAll_cons_mk (Below.trod laidOut (by kernel_rfl) (of_decide_eq_true (by kernel_rfl)) k1 bel lt1) (trodAll_cons_mk (Below.trod laidOut (by kernel_rfl) (of_decide_eq_true (by kernel_rfl)) k2 bel lt2) (trodAll_cons_mk (Below.trod laidOut (by kernel_rfl) (of_decide_eq_true (by kernel_rfl)) k3 bel lt3) trodAll_mk0)))), rfl, bel.frame _, fun h => by cases h⟩

theorem over : Rows.sectorApartRow.holds Try.pinned (OpenSpec.ofChange Rows.sectorApartSpec) :=
  OpenClaim.holds_of_wide 7 Try.f7 rfl rfl rfl rfl rfl rfl rfl ⟨rfl, rfl, rfl, rfl, rfl⟩ rfl rfl rfl rfl rfl (by kernel_rfl) Try.func7 (by kernel_rfl)
    (of_decide_eq_true (by kernel_rfl)) (by unfold Func.isWrapper; first | (rw [if_pos (by decide +kernel)]; kernel_rfl) | (rw [if_neg (by decide +kernel)]; exact ⟨rfl, rfl⟩))
    (fun os started H enc _ => lifted os started H enc)

theorem proved : Rows.SectorApartSaid := over
end Go.Proofs.Ythlkpbdnfdagfaa.sectorApart
theorem Go.Proofs.Ythlkpbdnfdagfaa.sectorApart_holds : Go.Proofs.Ythlkpbdnfdagfaa.Rows.SectorApartSaid := Go.Proofs.Ythlkpbdnfdagfaa.sectorApart.proved
