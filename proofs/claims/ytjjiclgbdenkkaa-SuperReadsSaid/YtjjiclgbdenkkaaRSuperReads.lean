/- The statement SuperReads of the given program: for every input the law returns true, and each argument reads as before. No condition. (The frame follows the kit's own shell; the walk is own work.) -/
import Derived.Test.YtjjiclgbdenkkaaRows
import Derived.WalkKit
import Derived.ProofKit
import Derived.OpenShut
import Derived.ShutString
import Derived.ChangeOld
import Derived.Below
import Derived.Carry
import Derived.Test.YtjjiclgbdenkkaaMSuperReadse
namespace Go.Proofs.Ytjjiclgbdenkkaa.superReads
open Go.ChangeShapes Go.WideShapes Go.ChangeAt Go.RowKit Go.Sl
set_option linter.unusedVariables false

theorem own : ownKnob Try.prog.godebug = none := by kernel_rfl
theorem laidOut : laidOutB Try.prog = true := by kernel_rfl
theorem flat0 : flatT Try.prog 8 70 = some [.int .u64, .int .i64, .int .u64] := by kernel_rfl
theorem isagg0 : isAggT Try.prog 70 = true := by kernel_rfl
theorem flat1 : flatT Try.prog 8 70 = some [.int .u64, .int .i64, .int .u64] := by kernel_rfl
theorem isagg1 : isAggT Try.prog 70 = true := by kernel_rfl

/-- The walk: the law returns true, and writes nothing that was there. -/
theorem walk (c0 : List Value) (c1 : List Value) (w : World) (w0 : Fits [.int .u64, .int .i64, .int .u64] c0) (w1 : Fits [.int .u64, .int .i64, .int .u64] c1) :
    Calls Try.prog 10 #[.agg c0.toArray, .agg c1.toArray] w fun e w' => e = .returned (.bool true) ∧ Below w.heap.size w w' := by
  obtain ⟨_, _, rfl, ⟨v, rfl, hv⟩, g1⟩ := Fits.cons_iff.1 w0
  obtain ⟨_, _, rfl, ⟨now, rfl, hn⟩, g2⟩ := Fits.cons_iff.1 g1
  obtain ⟨_, _, rfl, ⟨top, rfl, ht⟩, g3⟩ := Fits.cons_iff.1 g2
  obtain rfl := Fits.nil_iff.1 g3
  obtain ⟨_, _, rfl, ⟨v2, rfl, hv2⟩, g1⟩ := Fits.cons_iff.1 w1
  obtain ⟨_, _, rfl, ⟨now2, rfl, hn2⟩, g2⟩ := Fits.cons_iff.1 g1
  obtain ⟨_, _, rfl, ⟨top2, rfl, ht2⟩, g3⟩ := Fits.cons_iff.1 g2
  obtain rfl := Fits.nil_iff.1 g3
  have bv := bounds_u64 hv
  have bt := bounds_u64 ht
  have bv2 := bounds_u64 hv2
  have bt2 := bounds_u64 ht2
  obtain ⟨v, rfl⟩ : ∃ m : Nat, v = m := ⟨v.toNat, by omega⟩
  obtain ⟨top, rfl⟩ : ∃ m : Nat, top = m := ⟨top.toNat, by omega⟩
  obtain ⟨v2, rfl⟩ : ∃ m : Nat, v2 = m := ⟨v2.toNat, by omega⟩
  obtain ⟨top2, rfl⟩ : ∃ m : Nat, top2 = m := ⟨top2.toNat, by omega⟩
  have hM : v < M64 := by show v < 18446744073709551616; omega
  have hM2 : v2 < M64 := by show v2 < 18446744073709551616; omega
  cases hmay : mayS now top with
  | false => exact (FnS.run (sreads_n1 (H := []) v v2 now now2 top top2 hmay)).mono fun e w' ⟨bel, H', he⟩ => ⟨he, bel⟩
  | true =>
    cases hmay' : mayS now2 top2 with
    | false => exact (FnS.run (sreads_n2 (H := []) v v2 now now2 top top2 hmay hmay')).mono fun e w' ⟨bel, H', he⟩ => ⟨he, bel⟩
    | true =>
      have h0 : gt (Z4.set (v % 2) (supS v now top)) (v % 2) = supS v now top := by rw [gt_set (by simp; omega), if_pos rfl]
      by_cases hs : v % 2 ≠ v2 % 2 ∧ v2 < v
      · exact (FnS.run (sreads_s (H := []) v v2 now now2 top top2 hmay hmay' hM hM2 hs (by rw [ch_w2 hM hmay hM2 hmay' (by simp) h0 hs.1, if_neg (by omega)]))).mono fun e w' ⟨bel, H', he⟩ => ⟨he, bel⟩
      · refine (FnS.run (sreads_t (H := []) v v2 now now2 top top2 hmay hmay' hM hM2 hs ?_)).mono fun e w' ⟨bel, H', he⟩ => ⟨he, bel⟩
        by_cases he : v % 2 = v2 % 2
        · exact ch_same hM2 hmay' he
        · rw [ch_w2 hM hmay hM2 hmay' (by simp) h0 he, if_pos (by have : v ≠ v2 := fun e => he (by rw [e]); omega)]

set_option maxRecDepth 100000 in
theorem lifted (os : Os) (started : os.Started) (H : Type) (enc : TypeId × Value → H) :
    ReturnsInHanded {} Try.checked os 10 .any (Rows.superReadsSpec.pre6 enc Try.prog Try.f10 Rows.superReadsRow.domain false) (Rows.superReadsSpec.post enc Try.prog Try.f10 false true false false) := by
  refine returnsInHanded_of_change (C := Try.checked) own started (by kernel_rfl) Try.func10
    (ChangeSpec.witness6 (enc := enc) (C := Try.checked) false ⟨#[], #[.agg #[.int .u64 0, .int .i64 0, .int .u64 0], .agg #[.int .u64 0, .int .i64 0, .int .u64 0]], []⟩ 8 (by kernel_rfl) (by kernel_rfl) (by kernel_rfl) (by kernel_rfl)) ?_
  intro W base args ds gs before hval0 hW hcnd _
  have hval : ∀ (j : Nat) t v, Try.f10.params[j]? = some t → args[j]? = some v → Value.okWide Try.prog W .any base t v := hval0
  have hW' := hW
  obtain ⟨p, q, hA0, hV, rfl, hfz, hnd⟩ := hW
  have hA : DataW.TrodAll enc Try.prog W 0 (fun _ => true) true Try.f10.params.toList args.toList ds p := hA0
  rw [Try.params10] at hA hval
  obtain ⟨v0, vs0, d0, ds0, p0, q0, hargs, rfl, rfl, h0, r0⟩ := trodAll_cons hA
  obtain ⟨v1, vs1, d1, ds1, p1, q1, rfl, rfl, rfl, h1, r1⟩ := trodAll_cons r0
  obtain ⟨rfl, rfl, rfl⟩ := trodAll_nil r1
  obtain rfl : args = #[v0, v1] := by cases args; simp_all
  obtain ⟨rfl, rfl⟩ := trodVars_none hV
  have k0 := h0
  have lt0 : ∀ x ∈ p0, x.block < W.heap.size := by obtain ⟨m, hm⟩ := k0; exact DataW.trod_lt m _ _ _ hm
  have k1 := h1
  have lt1 : ∀ x ∈ p1, x.block < W.heap.size := by obtain ⟨m, hm⟩ := k1; exact DataW.trod_lt m _ _ _ hm
  obtain ⟨c0, rfl, w0⟩ := flat_agg flat0 (okWide_agg isagg0 (hval 0 70 v0 rfl rfl)) h0
  obtain ⟨c1, rfl, w1⟩ := flat_agg flat1 (okWide_agg isagg1 (hval 1 70 v1 rfl rfl)) h1
  clear hA0 hval0
  refine (walk c0 c1 W w0 w1).mono fun e W' ⟨he, bel⟩ => ?_
  subst he
  exact ⟨_, rfl, _, _, _, [], _, [], hW', trodAll_mk1 (shut_bool Try.underlying4 _), (trodAll_cons_mk (Below.trod laidOut (by kernel_rfl) (of_decide_eq_true (by kernel_rfl)) k0 bel lt0) (trodAll_cons_mk (Below.trod laidOut (by kernel_rfl) (of_decide_eq_true (by kernel_rfl)) k1 bel lt1) trodAll_mk0)), rfl, bel.frame _, fun h => by cases h⟩

theorem over : Rows.superReadsRow.holds Try.pinned (OpenSpec.ofChange Rows.superReadsSpec) :=
  OpenClaim.holds_of_wide 10 Try.f10 rfl rfl rfl rfl rfl rfl rfl ⟨rfl, rfl, rfl, rfl, rfl⟩ rfl rfl rfl rfl rfl (by kernel_rfl) Try.func10 (by kernel_rfl)
    (of_decide_eq_true (by kernel_rfl)) (by unfold Func.isWrapper; first | (rw [if_pos (by decide +kernel)]; kernel_rfl) | (rw [if_neg (by decide +kernel)]; exact ⟨rfl, rfl⟩))
    (fun os started H enc _ => lifted os started H enc)

theorem proved : Rows.SuperReadsSaid := over
end Go.Proofs.Ytjjiclgbdenkkaa.superReads
theorem Go.Proofs.Ytjjiclgbdenkkaa.superReads_holds : Go.Proofs.Ytjjiclgbdenkkaa.Rows.SuperReadsSaid := Go.Proofs.Ytjjiclgbdenkkaa.superReads.proved
