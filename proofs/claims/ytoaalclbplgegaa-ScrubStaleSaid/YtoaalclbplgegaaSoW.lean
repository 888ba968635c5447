/- walks (own work; the walks' lines by a program of this repo). -/
import Derived.Test.YtoaalclbplgegaaSmW
import Derived.Test.YtoaalclbplgegaaSd
import Derived.Test.YtoaalclbplgegaaMfW
set_option linter.unusedVariables false
set_option linter.unusedSimpArgs false
set_option maxRecDepth 20000
namespace Go.Proofs.Ytoaalclbplgegaa
open Go.Sl
attribute [local irreducible] BodyQ WpC WpL WpS WpH OpW FnS


theorem all_still {w0 : World} {H : Hp} {D : Duo} {A : Da} {m : Mi} {K : Nat} {X : List Sec} {k0 k1 mb bx bys bp : Nat} (h : Ms dt (.func (.func 26) #[] ([] : List Value).toArray) D A m K X X k0 k1 mb bx bys bp) (hK : K ≤ 4096) (h0 : k0 ≤ 50000) (h1 : k1 ≤ 50000) : FnS Try.prog w0 16 #[ptr mb] (m.seg 109 :: D.seg dt :: H) (fun e H' => ∃ a c D', e = .returned (.agg #[Value.int .i64 a, .int .i64 0, .int .i64 c]) ∧ Two dt D' A m.bx m.bys bp ∧ H' = m.seg 109 :: D'.seg dt :: H) := by
  have hn := h.n
  have hT : Two dt D A m.bx m.bys bp := by rw [h.bx, h.bys]; exact h.two
  obtain ⟨a, c, e1⟩ := scr_still (p := goodP) h.vw h.n h.s0 h.s1 m.n (by omega)
  have := sall_m (w0 := w0) (H := H) hT (ms_good h.gv) (h.many h0 h1) (by omega)
  rw [e1, h.mb] at this
  refine this.mono ?_
  rintro _ _ ⟨rfl, D', hT', rfl⟩
  exact ⟨a, c, D', rfl, hT', rfl⟩

theorem all_heals {w0 : World} {H : Hp} {D : Duo} {B : Da} {m : Mi} {K t c : Nat} {s : Sec} {X : List Sec} {k0 k1 bp b : Nat} (hv : Vw B K X (X.set t s) k0 k1) (ht : t < K) (hs : s.length = 128) (hn : m.n = K) (z0 : m.k0 = [((t : Int), c)]) (z1 : m.k1 = []) (hgv : m.gv = .func (.func 26) #[] ([] : List Value).toArray) (hT : Two dt D B m.bx m.bys bp) (hK : K ≤ 4096) (h0 : k0 ≤ 50000) (h1 : k1 ≤ 50000) (hb : m.b = b) (hg : goodP t s = true) : FnS Try.prog w0 16 #[ptr b] (m.seg 109 :: D.seg dt :: H) (fun e H' => ∃ a c D', e = .returned (.agg #[Value.int .i64 a, .int .i64 1, .int .i64 c]) ∧ Two dt D' (B.write false t s) m.bx m.bys bp ∧ H' = (Mi.seg 109 { m with k0 := [] }) :: D'.seg dt :: H) := by
  have hq : ∀ i, (B.dev i).Q.length ≤ 50000 := fun i => by cases i; exact Nat.le_trans (hv.dev false).many h0; exact Nat.le_trans (hv.dev true).many h1
  have := sall_m (w0 := w0) (H := H) hT (ms_good hgv) hq (by omega)
  rw [hb] at this
  obtain ⟨a, c2, e1⟩ := (scr_heals (p := goodP) hv ht hs hn z0 z1 hg m.n (by omega)).2 (by omega)
  rw [e1] at this
  refine this.mono ?_
  rintro _ _ ⟨rfl, D', hT', rfl⟩
  exact ⟨a, c2, D', rfl, hT', rfl⟩

theorem all_loses {w0 : World} {H : Hp} {D : Duo} {B : Da} {m : Mi} {K t c : Nat} {s : Sec} {X : List Sec} {k0 k1 bp b : Nat} (hv : Vw B K X (X.set t s) k0 k1) (ht : t < K) (hs : s.length = 128) (hn : m.n = K) (z0 : m.k0 = [((t : Int), c)]) (z1 : m.k1 = []) (hgv : m.gv = .func (.func 26) #[] ([] : List Value).toArray) (hT : Two dt D B m.bx m.bys bp) (hK : K ≤ 4096) (h0 : k0 ≤ 50000) (h1 : k1 ≤ 50000) (hb : m.b = b) (hg : goodP t s = false) : FnS Try.prog w0 16 #[ptr b] (m.seg 109 :: D.seg dt :: H) (fun e H' => ∃ (a : Int) (c : Nat) (D' : Duo), 1 ≤ c ∧ e = .returned (.agg #[Value.int .i64 a, .int .i64 0, .int .i64 (c : Int)]) ∧ Two dt D' B m.bx m.bys bp ∧ H' = m.seg 109 :: D'.seg dt :: H) := by
  have hq : ∀ i, (B.dev i).Q.length ≤ 50000 := fun i => by cases i; exact Nat.le_trans (hv.dev false).many h0; exact Nat.le_trans (hv.dev true).many h1
  have := sall_m (w0 := w0) (H := H) hT (ms_good hgv) hq (by omega)
  rw [hb] at this
  obtain ⟨a, c2, e1, h2⟩ := scr_loses (p := goodP) hv ht hn z0 z1 hg m.n (by omega)
  rw [e1] at this
  refine this.mono ?_
  rintro _ _ ⟨rfl, D', hT', rfl⟩
  exact ⟨a, c2, D', h2 (by omega), rfl, hT', rfl⟩

theorem pair_z {w0 : World} {H : Hp} {K b1 b2 T1 T2 : Nat} {f1 f2 : Nat × Nat} (hK : K ≤ 12) (h1 : Sees (fun w => St w0 w H) b1 (.cells (zcells [Value.int .u8 0, .int .u8 0] K).toArray T1 f1)) (h2 : Sees (fun w => St w0 w H) b2 (.cells (zcells [Value.int .u8 0, .int .u8 0] K).toArray T2 f2)) :
    FnS Try.prog w0 14 #[.slice (some ⟨b1, 0, none⟩) K K, .slice (some ⟨b2, 0, none⟩) K K] H (fun e H' => ∃ (D : Duo) (A : Da) (m : Mi) (mb bx bys bp : Nat) (g0 g1 : Option SlG), Ms dt (.func (.func 26) #[] ([] : List Value).toArray) D A m K (prX (List.replicate K (0, 0)) K) (prX (List.replicate K (0, 0)) K) 0 0 mb bx bys bp ∧ slOk 128 g0 K (bs (prX (List.replicate K (0, 0)) K).flatten) ∧ slOk 128 g1 K (bs (prX (List.replicate K (0, 0)) K).flatten) ∧ e = .returned (.tuple #[ptr bx, ptr bys, ptr mb, .agg [slV g0 K, slV g1 K].toArray]) ∧ H' = m.seg 109 :: D.seg dt :: slSeg 37 g0 (bs (prX (List.replicate K (0, 0)) K).flatten) :: slSeg 37 g1 (bs (prX (List.replicate K (0, 0)) K).flatten) :: H) := by
  rw [pb_zero] at h1 h2
  have := pair_v (la := (List.replicate K (0, 0))) (lb := (List.replicate K (0, 0))) (K := K) (ca := K) (cb := K) (holds_bytes h1 (by rw [List.drop_zero, bs_whole _ rfl])) (holds_bytes h2 (by rw [List.drop_zero, bs_whole _ rfl])) (by simp; omega) (by simp)
  simp only [List.length_replicate] at this
  exact this

theorem stale_b {w0 : World} {H : Hp} {m : Mi} {b : Nat} (hb : m.b = b) : FnS Try.prog w0 28 #[ptr b] (m.seg 109 :: H) (fun e H' => e = .returned (.tuple #[.int .i64 (m.k0.length : Int), .int .i64 (m.k1.length : Int)]) ∧ H' = m.seg 109 :: H) := by
  subst hb
  exact stale_m

end Go.Proofs.Ytoaalclbplgegaa
