/- The statement SuperScrub of the given program: for every input the law returns true, and each argument reads as before. No condition. (The frame follows the kit's own shell; the walk is own work.) -/
import Derived.Test.YtjjiclgbdenkkaaRows
import Derived.WalkKit
import Derived.ProofKit
import Derived.OpenShut
import Derived.ShutString
import Derived.ChangeOld
import Derived.Below
import Derived.Carry
import Derived.Test.YtjjiclgbdenkkaaMSuperScrube
namespace Go.Proofs.Ytjjiclgbdenkkaa.superScrub
open Go.ChangeShapes Go.WideShapes Go.ChangeAt Go.RowKit Go.Sl
set_option linter.unusedVariables false

theorem own : ownKnob Try.prog.godebug = none := by kernel_rfl
theorem laidOut : laidOutB Try.prog = true := by kernel_rfl
theorem flat0 : flatT Try.prog 8 70 = some [.int .u64, .int .i64, .int .u64] := by kernel_rfl
theorem isagg0 : isAggT Try.prog 70 = true := by kernel_rfl

/-- The walk: the law returns true, and writes nothing that was there. -/
theorem walk (c0 : List Value) (a1 : Bool) (a2 : Int) (a3 : Int) (w : World) (w0 : Fits [.int .u64, .int .i64, .int .u64] c0) (w2 : (Lit.int .u8 a2).wf = true) (w3 : (Lit.int .u8 a3).wf = true) :
    Calls Try.prog 13 #[.agg c0.toArray, .bool a1, .int .u8 a2, .int .u8 a3] w fun e w' => e = .returned (.bool true) ∧ Below w.heap.size w w' := by
  obtain ⟨_, _, rfl, ⟨v, rfl, hv⟩, g1⟩ := Fits.cons_iff.1 w0
  obtain ⟨_, _, rfl, ⟨now, rfl, hn⟩, g2⟩ := Fits.cons_iff.1 g1
  obtain ⟨_, _, rfl, ⟨top, rfl, ht⟩, g3⟩ := Fits.cons_iff.1 g2
  obtain rfl := Fits.nil_iff.1 g3
  have bv := bounds_u64 hv
  have bt := bounds_u64 ht
  have b3 := bounds_u8 w2
  have b4 := bounds_u8 w3
  obtain ⟨v, rfl⟩ : ∃ m : Nat, v = m := ⟨v.toNat, by omega⟩
  obtain ⟨top, rfl⟩ : ∃ m : Nat, top = m := ⟨top.toNat, by omega⟩
  obtain ⟨i, rfl⟩ : ∃ m : Nat, a2 = m := ⟨a2.toNat, by omega⟩
  obtain ⟨c, rfl⟩ : ∃ c : UInt8, a3 = (c.toNat : Int) := ⟨UInt8.ofNat a3.toNat, by simp; omega⟩
  have hM : v < M64 := by show v < 18446744073709551616; omega
  have hi : i < 256 := by omega
  cases hmay : mayS now top with
  | false => exact (FnS.run (sscrub_n (H := []) v now top hmay _ _ _)).mono fun e w' ⟨bel, H', he⟩ => ⟨he, bel⟩
  | true =>
    cases a1
    · exact (FnS.run (sscrub_f (H := []) v now top i hi c hmay hM)).mono fun e w' ⟨bel, H', he⟩ => ⟨he, bel⟩
    · exact (FnS.run (sscrub_t (H := []) v now top i hi c hmay hM)).mono fun e w' ⟨bel, H', he⟩ => ⟨he, bel⟩

set_option maxRecDepth 100000 in
theorem lifted (os : Os) (started : os.Started) (H : Type) (enc : TypeId × Value → H) :
    ReturnsInHanded {} Try.checked os 13 .any (Rows.superScrubSpec.pre6 enc Try.prog Try.f13 Rows.superScrubRow.domain false) (Rows.superScrubSpec.post enc Try.prog Try.f13 false true false false) := by
  refine returnsInHanded_of_change (C := Try.checked) own started (by kernel_rfl) Try.func13
    (ChangeSpec.witness6 (enc := enc) (C := Try.checked) false ⟨#[], #[.agg #[.int .u64 0, .int .i64 0, .int .u64 0], .bool false, .int .u8 0, .int .u8 0], []⟩ 8 (by kernel_rfl) (by kernel_rfl) (by kernel_rfl) (by kernel_rfl)) ?_
  intro W base args ds gs before hval0 hW hcnd _
  have hval : ∀ (j : Nat) t v, Try.f13.params[j]? = some t → args[j]? = some v → Value.okWide Try.prog W .any base t v := hval0
  have hW' := hW
  obtain ⟨p, q, hA0, hV, rfl, hfz, hnd⟩ := hW
  have hA : DataW.TrodAll enc Try.prog W 0 (fun _ => true) true Try.f13.params.toList args.toList ds p := hA0
  rw [Try.params13] at hA hval
  obtain ⟨v0, vs0, d0, ds0, p0, q0, hargs, rfl, rfl, h0, r0⟩ := trodAll_cons hA
  obtain ⟨v1, vs1, d1, ds1, p1, q1, rfl, rfl, rfl, h1, r1⟩ := trodAll_cons r0
  obtain ⟨v2, vs2, d2, ds2, p2, q2, rfl, rfl, rfl, h2, r2⟩ := trodAll_cons r1
  obtain ⟨v3, vs3, d3, ds3, p3, q3, rfl, rfl, rfl, h3, r3⟩ := trodAll_cons r2
  obtain ⟨rfl, rfl, rfl⟩ := trodAll_nil r3
  obtain rfl : args = #[v0, v1, v2, v3] := by cases args; simp_all
  obtain ⟨rfl, rfl⟩ := trodVars_none hV
  have k0 := h0
  have lt0 : ∀ x ∈ p0, x.block < W.heap.size := by obtain ⟨m, hm⟩ := k0; exact DataW.trod_lt m _ _ _ hm
  have k1 := h1
  have lt1 : ∀ x ∈ p1, x.block < W.heap.size := by obtain ⟨m, hm⟩ := k1; exact DataW.trod_lt m _ _ _ hm
  have k2 := h2
  have lt2 : ∀ x ∈ p2, x.block < W.heap.size := by obtain ⟨m, hm⟩ := k2; exact DataW.trod_lt m _ _ _ hm
  have k3 := h3
  have lt3 : ∀ x ∈ p3, x.block < W.heap.size := by obtain ⟨m, hm⟩ := k3; exact DataW.trod_lt m _ _ _ hm
  obtain ⟨c0, rfl, w0⟩ := flat_agg flat0 (okWide_agg isagg0 (hval 0 70 v0 rfl rfl)) h0
  obtain ⟨a1, rfl, -, -⟩ := open_bool Try.underlying4 (hval 1 4 v1 rfl rfl) h1
  obtain ⟨a2, rfl, -, -, w2⟩ := open_int Try.underlying5 (hval 2 5 v2 rfl rfl) h2
  obtain ⟨a3, rfl, -, -, w3⟩ := open_int Try.underlying5 (hval 3 5 v3 rfl rfl) h3
  clear hA0 hval0
  refine (walk c0 a1 a2 a3 W w0 w2 w3).mono fun e W' ⟨he, bel⟩ => ?_
  subst he
  exact ⟨_, rfl, _, _, _, [], _, [], hW', trodAll_mk1 (shut_bool Try.underlying4 _), (trodAll_cons_mk (Below.trod laidOut (by kernel_rfl) (of_decide_eq_true (by kernel_rfl)) k0 bel lt0) (trodAll_cons_mk (Below.trod laidOut (by kernel_rfl) (of_decide_eq_true (by kernel_rfl)) k1 bel lt1) (trodAll_cons_mk (Below.trod laidOut (by kernel_rfl) (of_decide_eq_true (by kernel_rfl)) k2 bel lt2) (trodAll_cons_mk (Below.trod laidOut (by kernel_rfl) (of_decide_eq_true (by kernel_rfl)) k3 bel lt3) trodAll_mk0)))), rfl, bel.frame _, fun h => by cases h⟩

theorem over : Rows.superScrubRow.holds Try.pinned (OpenSpec.ofChange Rows.superScrubSpec) :=
  OpenClaim.holds_of_wide 13 Try.f13 rfl rfl rfl rfl rfl rfl rfl ⟨rfl, rfl, rfl, rfl, rfl⟩ rfl rfl rfl rfl rfl (by kernel_rfl) Try.func13 (by kernel_rfl)
    (of_decide_eq_true (by kernel_rfl)) (by unfold Func.isWrapper; first | (rw [if_pos (by decide +kernel)]; kernel_rfl) | (rw [if_neg (by decide +kernel)]; exact ⟨rfl, rfl⟩))
    (fun os started H enc _ => lifted os started H enc)

theorem proved : Rows.SuperScrubSaid := over
end Go.Proofs.Ytjjiclgbdenkkaa.superScrub
theorem Go.Proofs.Ytjjiclgbdenkkaa.superScrub_holds : Go.Proofs.Ytjjiclgbdenkkaa.Rows.SuperScrubSaid := Go.Proofs.Ytjjiclgbdenkkaa.superScrub.proved
