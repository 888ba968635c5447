/- walks (own work; the walks' lines by a program of this repo). -/
import Derived.Test.YtoaalclbplgegaaSaW
import Derived.Test.YtoaalclbplgegaaSpW
import Derived.Test.YtoaalclbplgegaaSrW
set_option linter.unusedVariables false
set_option linter.unusedSimpArgs false
set_option maxRecDepth 20000
namespace Go.Proofs.Ytoaalclbplgegaa
open Go.Sl
attribute [local irreducible] BodyQ WpC WpL WpS WpH OpW FnS


theorem ms_good {w0 : World} {H : Hp} {m : Mi} (h : m.gv = .func (.func 26) #[] ([] : List Value).toArray) : GoodAt Try.prog w0 H m.gv goodP := by rw [h]; exact good_at

theorem all_v {w0 : World} {H : Hp} {D : Duo} {A : Da} {m : Mi} {K : Nat} {X Y : List Sec} {k0 k1 mb bx bys bp : Nat} (h : Ms dt (.func (.func 26) #[] ([] : List Value).toArray) D A m K X Y k0 k1 mb bx bys bp) (hK : K ≤ 4096) (h0 : k0 ≤ 50000) (h1 : k1 ≤ 50000) {r : Rp} (hr : rK goodP X Y K = r) : FnS Try.prog w0 16 #[ptr mb] (m.seg 109 :: D.seg dt :: H) (fun e H' => e = .returned (.agg [Value.int .i64 r.1, .int .i64 r.2.1, .int .i64 r.2.2].toArray) ∧ ∃ D' A' m', Ms dt (.func (.func 26) #[] ([] : List Value).toArray) D' A' m' K (XK goodP X Y K K) (YK goodP X Y K K) (k0 + K) (k1 + K) mb bx bys bp ∧ H' = m'.seg 109 :: D'.seg dt :: H) := by
  have hT : Two dt D A m.bx m.bys bp := by rw [h.bx, h.bys]; exact h.two
  rw [← h.mb]
  refine (sall_m hT (ms_good h.gv) (fun i => h.many h0 h1 i) (by rw [h.n]; exact hK)).mono ?_
  rintro _ _ ⟨rfl, D', hT', rfl⟩
  obtain ⟨e2, h2⟩ := h.scr hT'
  rw [e2, hr]
  rw [h.mb] at *
  exact ⟨rfl, D', _, _, h2, rfl⟩

theorem pair_v {w0 : World} {H : Hp} {pa pb2 : Option Addr} {ca cb : Nat} {la lb : List (UInt8 × UInt8)} (hA : Holds w0 H pa (bs (pb la))) (hB : Holds w0 H pb2 (bs (pb lb))) (hn : (min la.length lb.length) ≤ 12) {K : Nat} (hK : (min la.length lb.length) = K) : FnS Try.prog w0 14 #[.slice pa la.length ca, .slice pb2 lb.length cb] H (fun e H' => ∃ (D : Duo) (A : Da) (m : Mi) (mb bx bys bp : Nat) (g0 g1 : Option SlG), Ms dt (.func (.func 26) #[] ([] : List Value).toArray) D A m K (prX la K) (prX lb K) 0 0 mb bx bys bp ∧ slOk 128 g0 K (bs (prX la K).flatten) ∧ slOk 128 g1 K (bs (prX lb K).flatten) ∧ e = .returned (.tuple #[ptr bx, ptr bys, ptr mb, .agg [slV g0 K, slV g1 K].toArray]) ∧ H' = m.seg 109 :: D.seg dt :: slSeg 37 g0 (bs (prX la K).flatten) :: slSeg 37 g1 (bs (prX lb K).flatten) :: H) := by
  subst hK
  refine (pair_s hA hB hn).mono ?_
  rintro _ _ ⟨D, A, m, bp, g0, g1, hT, hV, hmn, hk0, hk1, hgv, hg0, hg1, rfl, rfl⟩
  exact ⟨D, A, m, m.b, m.bx, m.bys, bp, g0, g1, ⟨hT, hV, rfl, rfl, rfl, hmn, hk0, hk1, hgv, prX_ok _ _, prX_ok _ _⟩, hg0, hg1, rfl, rfl⟩

theorem dread_v {w0 : World} {H : Hp} {D : Duo} {A : Da} {m : Mi} {K : Nat} {X Y : List Sec} {k0 k1 mb bx bys bp : Nat} (h : Ms dt (.func (.func 26) #[] ([] : List Value).toArray) D A m K X Y k0 k1 mb bx bys bp) (i : Bool) {n : Nat} {s : Sec} (hs : (pick2 i X Y)[n]? = some s) : FnS Try.prog w0 19 #[ptr (sel bx bys i), .int .i64 (n : Int)] (D.seg dt :: H) (fun e H' => e = .returned (.tuple #[.agg (bs s).toArray, .int .i64 0]) ∧ H' = D.seg dt :: H) := by
  refine (read_d h.two i (n : Int)).mono ?_
  rintro _ _ ⟨rfl, rfl⟩
  rw [(h.vw.reads i hs).1, (h.vw.reads i hs).2]
  exact ⟨rfl, rfl⟩

theorem rall_v {w0 : World} {H : Hp} {ga gb : Option SlG} {sa sb ea eb K : Nat} {A B : List Sec} (hsa : H[sa]? = some (slSeg ea ga (bs A.flatten))) (hsb : H[sb]? = some (slSeg eb gb (bs B.flatten))) (oka : slOk 128 ga K (bs A.flatten)) (okb : slOk 128 gb K (bs B.flatten)) (hA : ∀ s ∈ A, s.length = 128) (hB : ∀ s ∈ B, s.length = 128) (hla : A.length = K) (hlb : B.length = K) (hm : K ≤ 4096) {r : Rp} (hr : rK goodP A B K = r) :
    FnS Try.prog w0 17 #[slV ga K, slV gb K] H (fun e H' => e = .returned (.agg [Value.int .i64 r.1, .int .i64 r.2.1, .int .i64 r.2.2].toArray) ∧ H' = H) := by
  subst hr
  subst hla
  obtain ⟨x, c, e1, h1⟩ := holds_sl (w0 := w0) hsa oka
  obtain ⟨y, c2, e2, h2⟩ := holds_sl (w0 := w0) hsb okb
  rw [e1, e2]
  have := rall_s (ca := c) (cb := c2) hA hB h1 h2 hlb.symm hm
  rw [hlb] at this
  exact this

end Go.Proofs.Ytoaalclbplgegaa
