/- Sync of a mirror: the plain model (own work). -/
import Derived.Test.YtfijmjolchdkfaaMi
set_option linter.unusedVariables false
set_option linter.unusedSimpArgs false
namespace Go.Sl
def Mi.ks (m : Mi) : Bool → List (Int × Nat)
  | false => m.k0
  | true => m.k1
def Mi.del (m : Mi) (i : Bool) (n : Int) : Mi := match i with
  | false => { m with k0 := kDel m.k0 n }
  | true => { m with k1 := kDel m.k1 n }
/-- Is a place of a side copied from the other one? -/
def syOk (m : Mi) (A : Da) (p : Int → Sec → Bool) (i : Bool) (n : Int) : Bool := kHas (m.ks i) n && !kHas (m.ks (!i)) n && (decide (A.rE (!i) n = 0) && p n (A.rS (!i) n))
def sy1 (p : Int → Sec → Bool) (i : Bool) (q : Da × Mi) (n : Int) : Da × Mi :=
  if syOk q.2 q.1 p i n then (q.1.write i n (q.1.rS (!i) n), if q.1.wE i n = 0 then q.2.del i n else q.2) else q
def syN (p : Int → Sec → Bool) (i : Bool) (q : Da × Mi) : Nat → Da × Mi
  | 0 => q
  | k + 1 => sy1 p i (syN p i q k) k
theorem syN_succ {p : Int → Sec → Bool} {i : Bool} {q q' : Da × Mi} {k : Nat} (h : syN p i q k = q') : syN p i q (k + 1) = sy1 p i q' k := by subst h; rfl
def syncQ (m : Mi) (A : Da) (p : Int → Sec → Bool) : Da × Mi := syN p true (syN p false (A, m) m.n) m.n
def syncE (m : Mi) (A : Da) (p : Int → Sec → Bool) : Int := if thr A false && thr A true then (if (syncQ m A p).2.k0.length + (syncQ m A p).2.k1.length = 0 then 0 else 9) else 13
def syncA (m : Mi) (A : Da) (p : Int → Sec → Bool) : Da := if thr A false && thr A true then (mfl (syncQ m A p).1).1 else A
def syncM (m : Mi) (A : Da) (p : Int → Sec → Bool) : Mi := if thr A false && thr A true then (syncQ m A p).2 else m
theorem sy1_same (p : Int → Sec → Bool) (i : Bool) (q : Da × Mi) (n : Int) : (sy1 p i q n).2.b = q.2.b ∧ (sy1 p i q n).2.bx = q.2.bx ∧ (sy1 p i q n).2.bys = q.2.bys ∧ (sy1 p i q n).2.n = q.2.n ∧ (sy1 p i q n).2.gv = q.2.gv := by
  unfold sy1
  split
  · dsimp only
    split
    · cases i <;> exact ⟨rfl, rfl, rfl, rfl, rfl⟩
    · exact ⟨rfl, rfl, rfl, rfl, rfl⟩
  · exact ⟨rfl, rfl, rfl, rfl, rfl⟩
theorem kDel_len (ks : List (Int × Nat)) (n : Int) : (kDel ks n).length ≤ ks.length := by
  unfold kDel
  split
  · exact List.length_eraseIdx_le _ _
  · exact Nat.le_refl _
end Go.Sl
