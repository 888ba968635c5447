/- A mirror of which one device missed something (own work). -/
import Derived.Test.YtfijmjolchdkfaaSy
import Derived.Test.YtfijmjolchdkfaaMv
import Derived.Test.YtfijmjolchdkfaaSd
set_option linter.unusedVariables false
set_option linter.unusedSimpArgs false
namespace Go.Sl
section
variable {m : Mi} {A : Da} {p : Int → Sec → Bool} {K : Nat} {X Y : List Sec} {k0 k1 t c : Nat} {s : Sec}
theorem setd_setd (A : Da) (i : Bool) (x y : Ab) : (A.setd i x).setd i y = A.setd i y := by cases i <;> rfl
theorem dev_setd (A : Da) (i : Bool) (x : Ab) : (A.setd i x).dev i = x := by cases i <;> rfl
theorem Ab.outs_back {a : Ab} (hq : a.Q = []) (ho : a.out = false) : (a.outs true).outs false = a := by
  obtain ⟨S, Q, k, b, l, o⟩ := a
  simp only at hq ho
  subst hq ho
  rfl
/-- Out, and in again, with nothing waiting. -/
theorem Vw.outin {i : Bool} (h : Vw A K X Y 0 0) : (A.setd i ((A.dev i).outs true)).setd i (((A.setd i ((A.dev i).outs true)).dev i).outs false) = A := by
  rw [dev_setd, setd_setd, Ab.outs_back (by have := (h.dev i).many; cases i <;> exact List.eq_nil_of_length_eq_zero (Nat.le_zero.1 this)) (h.dev i).out, Da.setd_self]
/-- What is written and flushed while the first device is out; it is in again then. -/
theorem missed (h : Vw A K X Y 0 k1) (ht : t < K) (hs : s.length = 128) (hm : m.n = K) (z0 : m.k0 = []) (z1 : m.k1 = []) :
    putE m (A.setd false ((A.dev false).outs true)) askAll t s = 0 ∧
    Vw ((mfl (putDa m (A.setd false ((A.dev false).outs true)) askAll t s)).1.setd false (((mfl (putDa m (A.setd false ((A.dev false).outs true)) askAll t s)).1.dev false).outs false)) K X (Y.set t s) 0 0 ∧
    (putm m (A.setd false ((A.dev false).outs true)) askAll t s).k0 = [((t : Int), m.c0)] ∧ (putm m (A.setd false ((A.dev false).outs true)) askAll t s).k1 = [] ∧
    (putm m (A.setd false ((A.dev false).outs true)) askAll t s).b = m.b ∧ (putm m (A.setd false ((A.dev false).outs true)) askAll t s).bx = m.bx ∧ (putm m (A.setd false ((A.dev false).outs true)) askAll t s).bys = m.bys ∧
    (putm m (A.setd false ((A.dev false).outs true)) askAll t s).n = m.n ∧ (putm m (A.setd false ((A.dev false).outs true)) askAll t s).gv = m.gv := by
  obtain ⟨p0, p1, p2⟩ := put_out (s := s) h ht hm z0 z1
  refine ⟨p0, ?_, p2⟩
  have hh := has_of hm ht
  obtain ⟨w1, w2⟩ := h.write (n := t) (s := s) true ht hs
  obtain ⟨f1, f2⟩ := w2.flush true
  simp only [if_true] at f2
  generalize hA : A.setd false ((A.dev false).outs true) = A' at *
  have c2 : A'.calm := by rw [← hA]; exact Da.calm_setd h.calm false _
  have to : thr A' false = false := by rw [← hA]; simp [thr, Da.setd, Da.dev, Ab.outs, Ab.down]
  have ti : thr A' true = true := by rw [← hA]; exact h.thr true
  have pa : pA A' false askAll t s = A' := by unfold pA; rw [to]; rfl
  have pB : putDa m A' askAll t s = A'.write true t s := by
    unfold putDa putA; rw [hh, if_pos rfl, pa]; unfold pA; rw [ti]; rfl
  have hB : (A'.write true t s).dev false = A'.dev false := by
    rw [(Da.write_calm c2 true (t : Int) s).1]
    split <;> rfl
  have cB := Da.write_calm2 c2 true (t : Int) s
  rw [pB] at p1 ⊢
  generalize hB2 : A'.write true (t : Int) s = B at *
  have tB : thr B false = false := by
    unfold thr Ab.down
    rw [hB, ← hA]
    simp [Da.setd, Da.dev, Ab.outs]
  have eB : B.setd false ((B.dev false).outs false) = A.write true t s := p1
  have oB : (B.dev true).out = false := by
    have : (A.write true t s).dev true = B.dev true := by rw [← eB]; rfl
    rw [← this]; exact (w2.dev true).out
  have tB1 : thr B true = true := by
    unfold thr Ab.down
    rw [oB, (Da.calm_pow cB true).1]; rfl
  have fl : B.flush true = B.setd true ((B.dev true).flush) := by rw [(Da.flush_calm cB true).1, oB]; rfl
  have fA : (A.write true t s).flush true = (A.write true t s).setd true (((A.write true t s).dev true).flush) := by
    rw [(Da.flush_calm w2.calm true).1, (w2.dev true).out]; rfl
  have key : (mfl B).1.setd false (((mfl B).1.dev false).outs false) = (A.write true t s).flush true := by
    unfold mfl fl1
    rw [tB, tB1]
    simp only [Bool.false_eq_true, if_false, if_true]
    rw [fl, fA, ← eB]
    rfl
  rw [key]
  exact f2
/-- What is read where the first device missed something. -/
theorem rd_stale (h : Vw A K X Y k0 k1) (hm : m.n = K) (z0 : m.k0 = [((t : Int), c)]) (z1 : m.k1 = []) (hs : Y[t]? = some s) (hg : p t s = true) : mrS m A p t = s ∧ mrE m A p t = 0 := by
  have ht : t < K := by have := (List.getElem?_eq_some_iff.1 hs).1; have := h.b.wlen; omega
  obtain ⟨r, e⟩ := h.reads true (s := s) hs
  have o0 : okAt A false m.k0 p t = false := by simp [okAt, z0, kHas_one]
  have o1 : okAt A true m.k1 p t = true := by simp [okAt, z1, kHas, r, e, hg]
  unfold mrS mrE
  rw [has_of hm ht, h.thr false, h.thr true, o0, o1, r]
  exact ⟨rfl, rfl⟩
theorem rd_lost (h : Vw A K X Y k0 k1) (hm : m.n = K) (z0 : m.k0 = [((t : Int), c)]) (ht : t < K) : mrE m (A.setd true ((A.dev true).outs true)) p t = 9 := by
  have o0 : okAt (A.setd true ((A.dev true).outs true)) false m.k0 p t = false := by simp [okAt, z0, kHas_one]
  have t0 : thr (A.setd true ((A.dev true).outs true)) false = true := h.thr false
  have t1 : thr (A.setd true ((A.dev true).outs true)) true = false := by simp [thr, Da.setd, Da.dev, Ab.outs, Ab.down]
  unfold mrE
  rw [has_of hm ht, t0, t1, o0]
  rfl
theorem syN_first (h : Vw A K X (Y.set t s) 0 0) (ht : t < K) (hs : s.length = 128) (hl : Y.length = K) (z0 : m.k0 = [((t : Int), c)]) (z1 : m.k1 = []) (hg : p t s = true) :
    ∀ k, (k ≤ t → syN p false (A, m) k = (A, m)) ∧ (t < k → syN p false (A, m) k = (A.write false t s, m.del false t))
  | 0 => ⟨fun _ => rfl, fun h => by omega⟩
  | k + 1 => by
    obtain ⟨i1, i2⟩ := syN_first h ht hs hl z0 z1 hg k
    rcases Nat.lt_trichotomy k t with hlt | rfl | hgt
    · refine ⟨fun _ => ?_, fun h => by omega⟩
      rw [syN_succ (i1 (by omega))]
      unfold sy1 syOk Mi.ks
      rw [z0, kHas_one, decide_eq_false (by omega)]
      rfl
    · refine ⟨fun h => by omega, fun _ => ?_⟩
      rw [syN_succ (i1 (Nat.le_refl _))]
      have g2 : (Y.set k s)[k]? = some s := by rw [List.getElem?_set_self (by omega)]
      obtain ⟨r, e⟩ := h.reads true (s := s) g2
      have w := (h.write (n := k) (s := s) false ht hs).1
      unfold sy1 syOk Mi.ks
      simp only [Bool.not_false]
      rw [z0, z1, kHas_one, decide_eq_true rfl, r, e, hg, w]
      rfl
    · refine ⟨fun h => by omega, fun _ => ?_⟩
      rw [syN_succ (i2 (by omega))]
      have z : (m.del false (t : Int)).ks false = [] := by simp [Mi.ks, Mi.del, z0, kDel_one]
      unfold sy1 syOk
      rw [show (A.write false t s, m.del false (t : Int)).2.ks false = [] from z]
      rfl
theorem syN_none {i : Bool} (z : m.ks i = []) : ∀ k, syN p i (A, m) k = (A, m)
  | 0 => rfl
  | k + 1 => by
    rw [syN_succ (syN_none z k)]
    unfold sy1 syOk
    rw [z]
    rfl
/-- Sync where the first device missed something. -/
theorem synced (h : Vw A K X (X.set t s) 0 0) (ht : t < K) (hs : s.length = 128) (hm : m.n = K) (z0 : m.k0 = [((t : Int), c)]) (z1 : m.k1 = []) (hg : p t s = true) :
    syncE m A p = 0 ∧ Vw (syncA m A p) K (X.set t s) (X.set t s) 0 0 ∧ (syncM m A p).k0 = [] ∧ (syncM m A p).k1 = [] ∧ (syncM m A p).b = m.b ∧ (syncM m A p).bx = m.bx ∧ (syncM m A p).bys = m.bys ∧ (syncM m A p).n = m.n ∧ (syncM m A p).gv = m.gv := by
  have e1 := (syN_first h ht hs h.a.wlen z0 z1 hg m.n).2 (by omega)
  have zz : (m.del false (t : Int)).ks true = [] := z1
  have eq : syncQ m A p = (A.write false t s, m.del false t) := by unfold syncQ; rw [e1, syN_none zz]
  have v := (h.write (n := t) (s := s) false ht hs).2
  simp only [Bool.false_eq_true, if_false] at v
  have k0' : (m.del false (t : Int)).k0 = [] := by simp [Mi.del, z0, kDel_one]
  have k1' : (m.del false (t : Int)).k1 = [] := z1
  unfold syncE syncA syncM
  rw [h.thr false, h.thr true, eq]
  simp only [Bool.and_self, if_true, k0', k1']
  exact ⟨by trivial, v.mfl.2, by trivial, by trivial, rfl, rfl, rfl, rfl, rfl⟩
end
end Go.Sl
