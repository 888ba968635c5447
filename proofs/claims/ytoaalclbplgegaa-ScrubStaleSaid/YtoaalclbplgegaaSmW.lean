/- walks (own work; the walks' lines by a program of this repo). -/
import Derived.Test.YtoaalclbplgegaaSkW
import Derived.Test.YtoaalclbplgegaaSc
set_option linter.unusedVariables false
set_option linter.unusedSimpArgs false
set_option maxRecDepth 20000
namespace Go.Proofs.Ytoaalclbplgegaa
open Go.Sl
attribute [local irreducible] BodyQ WpC WpL WpS WpH OpW FnS


theorem out_v {w0 : World} {H : Hp} {D : Duo} {A : Da} {m : Mi} {K : Nat} {X Y : List Sec} {k0 k1 mb bx bys bp : Nat} (h : Ms dt (.func (.func 26) #[] ([] : List Value).toArray) D A m K X Y k0 k1 mb bx bys bp) (i : Bool) : FnS Try.prog w0 23 #[ptr (sel bx bys i), .bool true] (D.seg dt :: H) (fun e H' => e = .returned (.tuple #[]) ∧ ∃ D', Two dt D' (A.setd i ((A.dev i).outs true)) m.bx m.bys bp ∧ H' = D'.seg dt :: H) := by
  refine (out_d h.two i true).mono ?_
  rintro _ _ ⟨rfl, D', h', rfl⟩
  rw [h.bx, h.bys]
  exact ⟨rfl, D', h', rfl⟩

theorem outs_le {D : Duo} {A : Da} {m : Mi} {K : Nat} {X Y : List Sec} {k0 k1 mb bx bys bp : Nat} (h : Ms dt (.func (.func 26) #[] ([] : List Value).toArray) D A m K X Y k0 k1 mb bx bys bp) (h0 : k0 ≤ 50000) (h1 : k1 ≤ 50000) (i j : Bool) : ((A.setd i ((A.dev i).outs true)).dev j).Q.length ≤ 50000 := Nat.le_trans (outs_many A i j) (h.many h0 h1 j)

theorem step_out {w0 : World} {H : Hp} {D : Duo} {A : Da} {m : Mi} {K : Nat} {X Y : List Sec} {k0 k1 mb bx bys bp : Nat} (h : Ms dt (.func (.func 26) #[] ([] : List Value).toArray) D A m K X Y k0 k1 mb bx bys bp) (i : Bool) {D' : Duo} {wb k : Nat} (hT : Two dt D' (A.setd i ((A.dev i).outs true)) m.bx m.bys bp) (h0 : k0 ≤ 50000) (h1 : k1 ≤ 50000) (hK : K ≤ 4096) (hk : k < K) : FnS Try.prog w0 22 #[ptr wb] ([(wb, .cells (wcells m.b (k : Int) (0, 0, 0)).toArray 51)] :: m.seg 109 :: D'.seg dt :: H) (fun e H' => e = .returned (.tuple #[.int .i64 (k : Int), .bool true]) ∧ ∃ D2, Two dt D2 (A.setd i ((A.dev i).outs true)) m.bx m.bys bp ∧ H' = [(wb, .cells (wcells m.b ((k + 1 : Nat) : Int) (0, 0, 0)).toArray 51)] :: m.seg 109 :: D2.seg dt :: H) := by
  have hn := h.n
  have e1 := h.scrdown (p := goodP) i (k := k) (by omega)
  have e2 := h.scrdown (p := goodP) i (k := k + 1) (by omega)
  have := step_k (w0 := w0) (H := H) (wb := wb) (k := k) (m := m) (A := (A.setd i ((A.dev i).outs true))) (D := D') (ms_good h.gv) (outs_le h h0 h1 i) (by omega) (by omega) (by rw [e1]; exact hT)
  rw [e1] at this
  refine this.mono ?_
  rintro _ _ ⟨rfl, D2, j, hj, hT2, rfl⟩
  rw [if_pos (by omega)] at hj
  subst hj
  rw [e2] at hT2 ⊢
  rw [if_pos (by omega), decide_eq_true (show k < m.n by omega)]
  exact ⟨rfl, D2, hT2, rfl⟩

theorem all_out {w0 : World} {H : Hp} {D : Duo} {A : Da} {m : Mi} {K : Nat} {X Y : List Sec} {k0 k1 mb bx bys bp : Nat} (h : Ms dt (.func (.func 26) #[] ([] : List Value).toArray) D A m K X Y k0 k1 mb bx bys bp) (i : Bool) {D' : Duo} (hT : Two dt D' (A.setd i ((A.dev i).outs true)) m.bx m.bys bp) (h0 : k0 ≤ 50000) (h1 : k1 ≤ 50000) (hK : K ≤ 4096) : FnS Try.prog w0 16 #[ptr m.b] (m.seg 109 :: D'.seg dt :: H) (fun e H' => e = .returned (.agg #[Value.int .i64 0, .int .i64 0, .int .i64 0]) ∧ ∃ D2, Two dt D2 (A.setd i ((A.dev i).outs true)) m.bx m.bys bp ∧ H' = m.seg 109 :: D2.seg dt :: H) := by
  have hn := h.n
  have e1 := h.scrdown (p := goodP) i (k := m.n) (by omega)
  have := sall_m (w0 := w0) (H := H) hT (ms_good h.gv) (outs_le h h0 h1 i) (by omega)
  rw [e1] at this
  exact this

end Go.Proofs.Ytoaalclbplgegaa
