/- walks (own work; the walks' lines by a program of this repo). -/
import Derived.Test.YtfijmjolchdkfaaMyW
import Derived.Test.YtfijmjolchdkfaaMeW
set_option linter.unusedVariables false
set_option linter.unusedSimpArgs false
set_option maxRecDepth 20000
namespace Go.Proofs.Ytfijmjolchdkfaa
open Go.Sl
attribute [local irreducible] BodyQ WpC WpL WpS WpH OpW FnS


theorem mread_b {w0 : World} {H : Hp} {D : Duo} {A : Da} {m : Mi} {mb bx bys bp : Nat} (hb : m.b = mb) (hx : m.bx = bx) (hy : m.bys = bys) (h : Two dt D A bx bys bp) {p : Int → Sec → Bool} (hG : GoodAt Try.prog w0 H m.gv p) (n : Int) : FnS Try.prog w0 22 #[ptr mb, .int .i64 n] (m.seg 104 :: D.seg dt :: H) (fun e H' => e = .returned (.tuple #[.agg (bs (mrS m A p n)).toArray, .int .i64 (mrE m A p n)]) ∧ H' = m.seg 104 :: D.seg dt :: H) := by
  subst hb hx hy
  exact mread_m h hG n

theorem mwrite_b {w0 : World} {H : Hp} {D : Duo} {A : Da} {m : Mi} {mb bx bys bp : Nat} (hb : m.b = mb) (hx : m.bx = bx) (hy : m.bys = bys) (h : Two dt D A bx bys bp) (n : Int) (s : Sec) (hs : s.length = 128) (hQ : ∀ i, (A.dev i).Q.length < 99990) : FnS Try.prog w0 19 #[ptr mb, .int .i64 n, .agg (bs s).toArray] (m.seg 104 :: D.seg dt :: H) (fun e H' => e = .returned (.int .i64 (putE m A askAll n s)) ∧ ∃ D', Two dt D' (putDa m A askAll n s) bx bys bp ∧ H' = (putm m A askAll n s).seg 104 :: D'.seg dt :: H) := by
  subst hb hx hy
  exact mwrite_m h n s hs hQ

theorem mchoose_b {w0 : World} {H : Hp} {D : Duo} {A : Da} {m : Mi} {mb bx bys bp : Nat} (hb : m.b = mb) (hx : m.bx = bx) (hy : m.bys = bys) (h : Two dt D A bx bys bp) (n : Int) (s : Sec) (hs : s.length = 128) (hQ : ∀ i, (A.dev i).Q.length < 99990) : FnS Try.prog w0 33 #[ptr mb, .int .i64 n, .agg (bs s).toArray] (m.seg 104 :: D.seg dt :: H) (fun e H' => e = .returned (.int .i64 (putE m A (askNew n s) n s)) ∧ ∃ D', Two dt D' (putDa m A (askNew n s) n s) bx bys bp ∧ H' = (putm m A (askNew n s) n s).seg 104 :: D'.seg dt :: H) := by
  subst hb hx hy
  exact mchoose_m h n s hs hQ

theorem mflush_b {w0 : World} {H : Hp} {D : Duo} {A : Da} {m : Mi} {mb bx bys bp : Nat} (hb : m.b = mb) (hx : m.bx = bx) (hy : m.bys = bys) (h : Two dt D A bx bys bp) : FnS Try.prog w0 21 #[ptr mb] (m.seg 104 :: D.seg dt :: H) (fun e H' => e = .returned (.int .i64 (mfl A).2) ∧ ∃ D', Two dt D' ((mfl A).1) bx bys bp ∧ H' = m.seg 104 :: D'.seg dt :: H) := by
  subst hb hx hy
  exact mflush_m h

theorem sync_b {w0 : World} {H : Hp} {D : Duo} {A : Da} {m : Mi} {mb bx bys bp : Nat} (hb : m.b = mb) (hx : m.bx = bx) (hy : m.bys = bys) (h : Two dt D A bx bys bp) {p : Int → Sec → Bool} (hG : GoodAt Try.prog w0 H m.gv p) (hQ : ∀ i, (A.dev i).Q.length ≤ 50000) (hm : m.n ≤ 4096) (hL : m.k0.length ≤ 4096 ∧ m.k1.length ≤ 4096) : FnS Try.prog w0 36 #[ptr mb] (m.seg 104 :: D.seg dt :: H) (fun e H' => e = .returned (.int .i64 (syncE m A p)) ∧ ∃ D', Two dt D' (syncA m A p) bx bys bp ∧ H' = (syncM m A p).seg 104 :: D'.seg dt :: H) := by
  subst hb hx hy
  exact sync_m h hG hQ hm hL

theorem stale_b {w0 : World} {H : Hp} {m : Mi} {b : Nat} (hb : m.b = b) : FnS Try.prog w0 35 #[ptr b] (m.seg 104 :: H) (fun e H' => e = .returned (.tuple #[.int .i64 (m.k0.length : Int), .int .i64 (m.k1.length : Int)]) ∧ H' = m.seg 104 :: H) := by
  subst hb
  exact stale_m

theorem mrS_len {A : Da} {m : Mi} {p : Int → Sec → Bool} {n : Int} (h : ∀ i, (A.dev i).ok) : (mrS m A p n).length = 128 := by
  unfold mrS
  split
  · split
    · exact rS_len _ h
    · split
      · exact rS_len _ h
      · exact secOf_len _
  · exact secOf_len _

end Go.Proofs.Ytfijmjolchdkfaa
